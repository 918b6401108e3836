import PyProof.Rows.All
import Wide.All
import OpenK.AllK
import Wide.FinOn
import HandS.ForMost
import HandS.ForExc
import HandS.Lambda
import HandS.Walk
import HandS.Zip
import HandS.HeadHook1
import HandS.TupAny
import HandS.Style
import HandS.Defaults
import HandS.Wide
import HandS.TupMul
import HandS.Deep
import HandS.IsInst
import HandS.SortKw
import HandS.SortInts
import KE.SortData
import HandS.Star
import KE.GoesEnum
import HandS.Iter
import KE.DataMinMax
import HandS.Property
import HandS.ClsMeth
import HandS.HeadNt
import HandS.TryMany
import HandS.TryOnly
import HandS.ExcField
import HandS.ExcOwn
import PyProof.ReprRoads
import PyProof.ReprLen
import KE.KExcSuper
import KE.KExcInit
import HandS.ExcInit
import HandS.ExcValue
import HandS.FStr
import PyProof.FitsInt
import KE.KStateDown
import HandS.Head0
import HandS.Head1
import HandS.Head2
import HandS.HeadEnd
import HandS.HeadHook2
import HandS.HeadHook3
import HandS.HeadHook4
import HandS.HeadWalk
import HandS.EndTab
import HandS.EndBits
import PyProof.DictDisplay
import KE.KRevSl
import HandS.Conv
import KE.KDictZip
import HandS.Zip0
import HandS.ListItems
import HandS.Dict
import HandS.RaiseMore
import PyProof.MaxThree
import HandS.SetFor
import HandS.Strs
import HandS.TupSets
import HandS.Small
import HandS.DictComp
import KE.KDictPairs
import HandS.DictTup
import PyProof.Rows.TupDisplay
import KE.KDictDisplayH
import HandS.OwnEq
import OpenK.KOps
import HandS.Text
import KE.KCallOwn
import Lean
import PySem.Challenge.RW_sumsalone_k74_whole_fillings_and_order
set_option Elab.async false
set_option linter.all false
set_option maxRecDepth 100000
set_option maxHeartbeats 0
/-! Pd: programs over plain data, without a heap in sight. -/
namespace Pd
open PySem PySem.Spec PyProof.Rows L2 LamX

/-! ### plain data -/
inductive D where
  | non
  | bl (b : Bool)
  | int (i : Int)
  | str (x : Str)
  | tup (xs : List D)
  | lst (xs : List D)
  | scr (ns : List Int)
  | dic (kvs : List (Key × D))
  | dit (kvs : List (List Key × D))
  | ins (C : Str) (fs : List (Str × D))
  | box (a : Addr)
  | raw (v : V)
  | cls (C : Str)

/-- what stands still (M), and the drawing lists (B) -/
structure Wd where
  M : Hp
  B : List Addr
def Wd.add (wd : Wd) (p : Addr) (o : HO) : Wd := ⟨upd wd.M p o, wd.B⟩
def Sub (M M' : Hp) : Prop := ∀ a o, M a = some o → M' a = some o
theorem Sub.refl (M : Hp) : Sub M M := fun _ _ h => h
theorem Sub.trans {M M1 M2 : Hp} (a : Sub M M1) (b : Sub M1 M2) : Sub M M2 := fun x o h => b x o (a x o h)
theorem Sub.new {M : Hp} {p : Addr} {o : HO} (h : M p = none) : Sub M (upd M p o) := fun a u e => by
  rw [upd_ne (ne_of_none e h)]
  exact e
structure Le (wd wd' : Wd) : Prop where
  m : Sub wd.M wd'.M
  b : ∀ a ∈ wd.B, a ∈ wd'.B
theorem Le.refl (wd : Wd) : Le wd wd := ⟨Sub.refl _, fun _ h => h⟩
theorem Le.trans {a b c : Wd} (x : Le a b) (y : Le b c) : Le a c := ⟨x.m.trans y.m, fun z h => y.b z (x.b z h)⟩
theorem Le.add {wd : Wd} {p : Addr} {o : HO} (h : wd.M p = none) : Le wd (wd.add p o) := ⟨Sub.new h, fun _ h => h⟩

section
variable (K : PySem.W.Frag)
theorem sqL_mono {M M' : Hp} {a : Addr} {xs : List V} (s : Sub M M') (h : SqL K M a xs) : SqL K M' a xs := by
  rcases h with (h | ⟨o, h⟩) | h
  · exact .inl (.inl (s _ _ h))
  · exact .inl (.inr ⟨o, s _ _ h⟩)
  · exact .inr h
theorem sqT_sub {M M' : Hp} {a : Addr} {xs : List V} (s : Sub M M') (h : M a = some (.tup xs)) : SqT K M' a xs := .inl (.inl (s _ _ h))
theorem sqT_mono {M M' : Hp} {a : Addr} {xs : List V} (s : Sub M M') (h : SqT K M a xs) : SqT K M' a xs := by
  rcases h with (h | ⟨o, h⟩) | h
  · exact .inl (.inl (s _ _ h))
  · exact .inl (.inr ⟨o, s _ _ h⟩)
  · exact .inr h

mutual
/-- the value v stands for the data d -/
inductive Rep (wd : Wd) : V → D → Prop
  | non : Rep wd .non .non
  | bl (b : Bool) : Rep wd (.bl b) (.bl b)
  | int (i : Int) : Rep wd (.int i) (.int i)
  | str (x : Str) : Rep wd (.str x) (.str x)
  | tup {a : Addr} {vs : List V} {ds : List D} : wd.M a = some (.tup vs) → Reps wd vs ds → Rep wd (.ref a) (.tup ds)
  | lst {a : Addr} {vs : List V} {ds : List D} : wd.M a = some (.lst vs) → Reps wd vs ds → Rep wd (.ref a) (.lst ds)
  | scr {a : Addr} {ns : List Int} : SqL K wd.M a (ns.map V.int) → Rep wd (.ref a) (.scr ns)
  | dic {a : Addr} {vs : List (Key × V)} {ds : List (Key × D)} : wd.M a = some (.dK vs) → vs.map (·.1) = ds.map (·.1) → Reps wd (vs.map (·.2)) (ds.map (·.2)) → Rep wd (.ref a) (.dic ds)
  | dit {a : Addr} {o : Obj} {vs : List (List Key × V)} {ds : List (List Key × D)} : wd.M a = some (.frz o (.dT vs)) → vs.map (·.1) = ds.map (·.1) → Reps wd (vs.map (·.2)) (ds.map (·.2)) → Rep wd (.ref a) (.dit ds)
  | ins {a dx : Addr} {C : Str} {vs : List (Str × V)} {ds : List (Str × D)} : wd.M a = some (.ins (He.ga K C) dx vs) → vs.map (·.1) = ds.map (·.1) → Reps wd (vs.map (·.2)) (ds.map (·.2)) → Rep wd (.ref a) (.ins C ds)
  | box {a : Addr} : a ∈ wd.B → Rep wd (.ref a) (.box a)
  | raw (v : V) : Rep wd v (.raw v)
  | cls (C : Str) : Rep wd (.ref (He.ga K C)) (.cls C)
inductive Reps (wd : Wd) : List V → List D → Prop
  | nil : Reps wd [] []
  | cons {v : V} {vs : List V} {d : D} {ds : List D} : Rep wd v d → Reps wd vs ds → Reps wd (v :: vs) (d :: ds)
end
end

section
variable {K : PySem.W.Frag} {wd wd' : Wd}
mutual
theorem Rep.mono (le : Le wd wd') : ∀ {v : V} {d : D}, Rep K wd v d → Rep K wd' v d
  | _, _, .non => .non
  | _, _, .bl b => .bl b
  | _, _, .int i => .int i
  | _, _, .str x => .str x
  | _, _, .tup h r => .tup (le.m _ _ h) (Reps.mono le r)
  | _, _, .lst h r => .lst (le.m _ _ h) (Reps.mono le r)
  | _, _, .scr h => .scr (sqL_mono K le.m h)
  | _, _, .dic h e r => .dic (le.m _ _ h) e (Reps.mono le r)
  | _, _, .dit h e r => .dit (le.m _ _ h) e (Reps.mono le r)
  | _, _, .ins h e r => .ins (le.m _ _ h) e (Reps.mono le r)
  | _, _, .box h => .box (le.b _ h)
  | _, _, .raw v => .raw v
  | _, _, .cls C => .cls C
theorem Reps.mono (le : Le wd wd') : ∀ {vs : List V} {ds : List D}, Reps K wd vs ds → Reps K wd' vs ds
  | _, _, .nil => .nil
  | _, _, .cons h t => .cons (Rep.mono le h) (Reps.mono le t)
end
theorem Reps.length : ∀ {vs : List V} {ds : List D}, Reps K wd vs ds → vs.length = ds.length
  | _, _, .nil => rfl
  | _, _, .cons _ t => congrArg (· + 1) t.length
theorem Reps.get : ∀ {vs : List V} {ds : List D} {i : Nat} {d : D}, Reps K wd vs ds → ds[i]? = some d → ∃ v, vs[i]? = some v ∧ Rep K wd v d
  | _, _, i, _, .nil, e => by simp at e
  | _, _, 0, _, .cons h _, e => by simp at e; subst e; exact ⟨_, rfl, h⟩
  | _, _, i + 1, _, .cons _ t, e => by
    obtain ⟨v, e1, r⟩ := Reps.get (i := i) t (by simpa using e)
    exact ⟨v, by simpa using e1, r⟩
theorem Reps.getV : ∀ {vs : List V} {ds : List D} {i : Nat} {v : V}, Reps K wd vs ds → vs[i]? = some v → ∃ d, ds[i]? = some d ∧ Rep K wd v d
  | _, _, i, _, .nil, e => by simp at e
  | _, _, 0, _, .cons h _, e => by simp at e; subst e; exact ⟨_, rfl, h⟩
  | _, _, i + 1, _, .cons _ t, e => by
    obtain ⟨v, e1, r⟩ := Reps.getV (i := i) t (by simpa using e)
    exact ⟨v, by simpa using e1, r⟩
theorem Reps.append : ∀ {vs ws : List V} {ds es : List D}, Reps K wd vs ds → Reps K wd ws es → Reps K wd (vs ++ ws) (ds ++ es)
  | _, _, _, _, .nil, s => s
  | _, _, _, _, .cons h t, s => .cons h (Reps.append t s)
theorem Reps.take : ∀ {vs : List V} {ds : List D} (n : Nat), Reps K wd vs ds → Reps K wd (vs.take n) (ds.take n)
  | _, _, 0, _ => .nil
  | _, _, _ + 1, .nil => .nil
  | _, _, n + 1, .cons h t => .cons h (Reps.take n t)
theorem Reps.drop : ∀ {vs : List V} {ds : List D} (n : Nat), Reps K wd vs ds → Reps K wd (vs.drop n) (ds.drop n)
  | _, _, 0, r => r
  | _, _, _ + 1, .nil => .nil
  | _, _, n + 1, .cons _ t => Reps.drop n t
theorem Reps.set : ∀ {vs : List V} {ds : List D} {v : V} {d : D} (n : Nat), Rep K wd v d → Reps K wd vs ds → Reps K wd (vs.set n v) (ds.set n d)
  | _, _, _, _, _, _, .nil => .nil
  | _, _, _, _, 0, h, .cons _ t => .cons h t
  | _, _, _, _, n + 1, h, .cons a t => .cons a (Reps.set n h t)
theorem Reps.erase : ∀ {vs : List V} {ds : List D} (n : Nat), Reps K wd vs ds → Reps K wd (vs.eraseIdx n) (ds.eraseIdx n)
  | _, _, _, .nil => .nil
  | _, _, 0, .cons _ t => t
  | _, _, n + 1, .cons a t => .cons a (Reps.erase n t)
theorem Reps.reverse : ∀ {vs : List V} {ds : List D}, Reps K wd vs ds → Reps K wd vs.reverse ds.reverse
  | _, _, .nil => .nil
  | _, _, .cons h t => by
    rw [List.reverse_cons, List.reverse_cons]
    exact (Reps.reverse t).append (.cons h .nil)
theorem Reps.rep : ∀ {vs : List V} {ds : List D} (n : Nat), Reps K wd vs ds → Reps K wd (List.replicate n vs).flatten (List.replicate n ds).flatten
  | _, _, 0, _ => .nil
  | _, _, n + 1, h => by
    rw [List.replicate_succ, List.replicate_succ, List.flatten_cons, List.flatten_cons]
    exact h.append (Reps.rep n h)
/-- ints -/
theorem Reps.ints : ∀ {vs : List V} {ns : List Int}, Reps K wd vs (ns.map D.int) → vs = ns.map V.int
  | _, [], h => by cases h; rfl
  | _, n :: ns, h => by
    cases h with
    | cons a t =>
      cases a
      rw [Reps.ints t]
      rfl
theorem Reps.bools : ∀ {vs : List V} {ns : List Bool}, Reps K wd vs (ns.map D.bl) → vs = ns.map V.bl
  | _, [], h => by cases h; rfl
  | _, n :: ns, h => by
    cases h with
    | cons a t =>
      cases a
      rw [Reps.bools t]
      rfl
theorem Reps.ofInts : ∀ (ns : List Int), Reps K wd (ns.map V.int) (ns.map D.int)
  | [] => .nil
  | n :: ns => .cons (.int n) (Reps.ofInts ns)
end
end Pd

namespace Pd
open PySem PySem.Spec PyProof.Rows L2 LamX

/-- a drawing list: what is left of a great number, a seed, a count -/
def BoxAt (H : Hp) (b : Addr) : Prop := ∃ g s c : Int, H b = some (.lst [.int g, .int s, .int c]) ∧ 0 ≤ g ∧ g < 2 ^ 4000 ∧ 0 ≤ s ∧ s < 2 ^ 100 ∧ 0 ≤ c
def noTb (o : HO) : Prop := ∀ ps, o ≠ .tbl ps
def Sized : HO → Prop
  | .lst xs => xs.length ≤ sizeLine
  | .tup xs => xs.length ≤ sizeLine
  | .frz _ u => Sized u
  | _ => True
def SizedH : HO → Prop
  | .frz _ _ => True
  | .lst xs => xs.length ≤ sizeLine
  | .tup xs => xs.length ≤ sizeLine
  | _ => True
theorem Sized.h : ∀ {o : HO}, Sized o → SizedH o := fun {o} z => by
  cases o <;> first | exact trivial | exact z
structure Good (T : List (Addr × Str)) (wd : Wd) (H : Hp) : Prop where
  sub : Sub wd.M H
  ntb : ∀ a o, wd.M a = some o → noTb o ∧ Sized o
  box : ∀ b ∈ wd.B, wd.M b = none ∧ BoxAt H b
  tab : Tabs T H
  siz : ∀ a o, H a = some o → SizedH o
/-- nothing, or a table of code objects -/
def Nt (H : Hp) (a : Addr) : Prop := ∀ o, H a = some o → ¬ noTb o
theorem Nt.of {H : Hp} {a : Addr} (h : H a = none) : Nt H a := fun o e => by
  rw [h] at e
  cases e
theorem Nt.no {H : Hp} {a : Addr} {o : HO} (n : Nt H a) (e : H a = some o) (t : noTb o) : False := n o e t
theorem Nt.upd {H : Hp} {p a : Addr} {o : HO} (n : Nt (upd H p o) a) (ne : a ≠ p) : Nt H a := fun u e => n u (by rw [upd_ne ne]; exact e)
structure Ord (wd0 wd : Wd) (H0 : Hp) : Prop where
  le : Le wd0 wd
  fm : ∀ a o, wd.M a = some o → wd0.M a = some o ∨ Nt H0 a ∨ ∃ vs, o = .tup vs
  fb : ∀ b ∈ wd.B, b ∈ wd0.B ∨ Nt H0 b
structure Keep (wd0 : Wd) (H0 H : Hp) : Prop where
  st : ∀ a o, H0 a = some o → a ∉ wd0.B → noTb o → H a = some o
  dm : ∀ a, Nt H a → Nt H0 a
theorem Ord.refl (wd : Wd) (H : Hp) : Ord wd wd H := ⟨Le.refl _, fun _ _ h => .inl h, fun _ h => .inl h⟩
theorem Keep.refl (wd : Wd) (H : Hp) : Keep wd H H := ⟨fun _ _ h _ _ => h, fun _ h => h⟩
theorem Ord.trans {a b c : Wd} {H0 H1 : Hp} (x : Ord a b H0) (y : Ord b c H1) (k : Keep a H0 H1) : Ord a c H0 :=
  ⟨x.le.trans y.le, fun p o h => (y.fm p o h).elim (x.fm p o) (fun z => .inr (z.elim (fun z => .inl (k.dm p z)) .inr)), fun p h => (y.fb p h).elim (x.fb p) (fun z => .inr (k.dm p z))⟩
theorem Keep.trans {a b : Wd} {H0 H1 H2 : Hp} (k : Keep a H0 H1) (x : Ord a b H0) (l : Keep b H1 H2) : Keep a H0 H2 :=
  ⟨fun p o h n t => l.st p o (k.st p o h n t) (fun hb => (x.fb p hb).elim n (fun z => z.no h t)) t, fun p h => k.dm p (l.dm p h)⟩
/-- new objects, one by one -/
inductive Grow : Wd → Hp → Wd → Hp → Prop
  | refl (wd : Wd) (H : Hp) : Grow wd H wd H
  | add {wd wd1 : Wd} {H H1 : Hp} {p : Addr} {o : HO} : Grow wd H wd1 H1 → H1 p = none → noTb o → Sized o → Grow wd H (wd1.add p o) (upd H1 p o)
theorem Grow.one {wd : Wd} {H : Hp} {p : Addr} {o : HO} (h : H p = none) (t : noTb o) (z : Sized o) : Grow wd H (wd.add p o) (upd H p o) := .add (.refl _ _) h t z
theorem Grow.trans {wd wd1 wd2 : Wd} {H H1 H2 : Hp} (a : Grow wd H wd1 H1) (b : Grow wd1 H1 wd2 H2) : Grow wd H wd2 H2 := by
  induction b with
  | refl => exact a
  | add g h t z ih => exact .add (ih a) h t z
theorem noTb_lst {xs : List V} : noTb (.lst xs) := fun _ h => nomatch h
theorem noTb_tup {xs : List V} : noTb (.tup xs) := fun _ h => nomatch h
section
variable {T : List (Addr × Str)}
theorem siz_upd {H : Hp} {p : Addr} {o : HO} (h : ∀ a o, H a = some o → SizedH o) (z : Sized o) : ∀ a u, upd H p o a = some u → SizedH u := fun a u e => by
  by_cases ha : a = p
  · subst ha
    rw [upd_same] at e
    cases e
    exact z.h
  · rw [upd_ne ha] at e
    exact h a u e
theorem Good.add {wd : Wd} {H : Hp} {p : Addr} {o : HO} (g : Good T wd H) (h : H p = none) (t : noTb o) (z : Sized o) : Good T (wd.add p o) (upd H p o) := by
  have hm : wd.M p = none := by
    cases e : wd.M p with
    | none => rfl
    | some u =>
      have := g.sub p u e
      rw [h] at this
      cases this
  refine ⟨fun a u e => ?_, fun a u e => ?_, fun b hb => ?_, g.tab.ext fun b u e => ?_, siz_upd g.siz z⟩
  · by_cases ha : a = p
    · subst ha
      have e' : upd wd.M a o a = some u := e
      rw [upd_same] at e' ⊢
      exact e'
    · have e' : upd wd.M p o a = some u := e
      rw [upd_ne ha] at e' ⊢
      exact g.sub a u e'
  · by_cases ha : a = p
    · subst ha
      have e' : upd wd.M a o a = some u := e
      rw [upd_same] at e'
      cases e'
      exact ⟨t, z⟩
    · have e' : upd wd.M p o a = some u := e
      rw [upd_ne ha] at e'
      exact g.ntb a u e'
  · obtain ⟨h1, gg, s, c, h2, h3⟩ := g.box b hb
    have hbp : b ≠ p := ne_of_none h2 h
    refine ⟨?_, gg, s, c, ?_, h3⟩
    · show upd wd.M p o b = none
      rw [upd_ne hbp]
      exact h1
    · rw [upd_ne hbp]
      exact h2
  · rw [upd_ne (ne_of_none e h)]
    exact e
theorem Good.mnone {wd : Wd} {H : Hp} {p : Addr} (g : Good T wd H) (h : H p = none) : wd.M p = none := by
  cases e : wd.M p with
  | none => rfl
  | some u =>
    have := g.sub p u e
    rw [h] at this
    cases this
theorem Keep.add {wd : Wd} {H : Hp} {p : Addr} {o : HO} (h : H p = none) : Keep wd H (upd H p o) := by
  refine ⟨fun a u e _ _ => ?_, fun a e => ?_⟩
  · rw [upd_ne (ne_of_none e h)]
    exact e
  · by_cases ha : a = p
    · subst ha
      exact Nt.of h
    · exact e.upd ha
theorem Ord.add {wd : Wd} {H : Hp} {p : Addr} {o : HO} (g : Good T wd H) (h : H p = none) : Ord wd (wd.add p o) H := by
  refine ⟨Le.add (g.mnone h), fun a u e => ?_, fun b hb => .inl hb⟩
  by_cases ha : a = p
  · subst ha
    exact .inr (.inl (Nt.of h))
  · have e' : upd wd.M p o a = some u := e
    rw [upd_ne ha] at e'
    exact .inl e'
theorem Grow.all {wd wd' : Wd} {H H' : Hp} (g : Grow wd H wd' H') (o : Good T wd H) : Good T wd' H' ∧ Ord wd wd' H ∧ Keep wd H H' := by
  induction g with
  | refl => exact ⟨o, Ord.refl _ _, Keep.refl _ _⟩
  | add g h t z ih =>
    obtain ⟨a, b, c⟩ := ih o
    exact ⟨a.add h t z, b.trans (Ord.add a h) c, c.trans b (Keep.add h)⟩
end

/-! ### the names' places -/
/-- what a dict holds: keys that are numbers or texts, or keys that are tuples of these -/
inductive DK (α : Type) where
  | s (l : List (Key × α))
  | t (l : List (List Key × α))
def DK.vals {α : Type} : DK α → List α
  | .s l => l.map (·.2)
  | .t l => l.map (·.2)
def DK.same {α β : Type} : DK α → DK β → Prop
  | .s a, .s b => a.map (·.1) = b.map (·.1)
  | .t a, .t b => a.map (·.1) = b.map (·.1)
  | _, _ => False
def DK.cell : DK V → HO
  | .s l => .dK l
  | .t l => .dT l
inductive Sl where
  | d (x : D)
  | own (xs : List D)
  | obj (p : Addr) (C : Str) (fs : List (Str × D))
  | cels (cs : List (Addr × List D))
  | dct (lk : Option Obj) (kvs : DK D)
/-- a dict, locked or not -/
def lkO (lk : Option Obj) (u : HO) : HO := match lk with
  | none => u
  | some o => .frz o u
abbrev PEnv := List (Option Sl)
/-- where one stands: what there was at the entry, and lists that are being made on the way -/
structure Ctx where
  wd : Wd
  H : Hp
  pn : List (Addr × List V) := []
/-- no cell, no name's own list, is at p -/
def NoCel (env : PEnv) (p : Addr) : Prop := ∀ (i : Nat) (cs : List (Addr × List D)), env[i]? = some (some (Sl.cels cs)) → ∀ q ∈ cs, q.1 ≠ p
structure NoOwn (env : PEnv) (σ : L2.St) (p : Addr) : Prop where
  o : ∀ (i : Nat) (xs : List D), env[i]? = some (some (Sl.own xs)) → σ[i]? ≠ some (some (V.ref p))
  c : NoCel env p
/-- an instance that is being made; lists within lists -/
structure Ext (K : PySem.W.Frag) (c : Ctx) (wd : Wd) (env : PEnv) (σ : L2.St) (H : Hp) : Prop where
  obj : ∀ (i : Nat) (p : Addr) (C : Str) (fs : List (Str × D)), env[i]? = some (some (Sl.obj p C fs)) → ∃ (dx : Addr) (vs : List (Str × V)), σ[i]? = some (some (V.ref p)) ∧ H p = some (.ins (He.ga K C) dx vs) ∧ wd.M p = none ∧ Nt c.H p ∧ vs.map (·.1) = fs.map (·.1) ∧ Reps K wd (vs.map (·.2)) (fs.map (·.2))
  ob1 : ∀ (i j : Nat) (p p' : Addr) (C C' : Str) (fs gs : List (Str × D)), env[i]? = some (some (Sl.obj p C fs)) → env[j]? = some (some (Sl.obj p' C' gs)) → i = j
  cel : ∀ (i : Nat) (cs : List (Addr × List D)), env[i]? = some (some (Sl.cels cs)) → ∀ q ∈ cs, (∃ vs, H q.1 = some (.lst vs) ∧ Reps K wd vs q.2) ∧ wd.M q.1 = none ∧ q.1 ∉ wd.B ∧ Nt c.H q.1 ∧ ∀ (j : Nat) (ys : List D), env[j]? = some (some (Sl.own ys)) → σ[j]? ≠ some (some (V.ref q.1))
  cnd : ∀ (i : Nat) (cs : List (Addr × List D)), env[i]? = some (some (Sl.cels cs)) → (cs.map (·.1)).Nodup
  ce1 : ∀ (i j : Nat) (cs ds : List (Addr × List D)), env[i]? = some (some (Sl.cels cs)) → env[j]? = some (some (Sl.cels ds)) → i ≠ j → ∀ q ∈ cs, ∀ q' ∈ ds, q.1 ≠ q'.1
  dct : ∀ (i : Nat) (lk : Option Obj) (kvs : DK D), env[i]? = some (some (Sl.dct lk kvs)) → ∃ (p : Addr) (vs : DK V), σ[i]? = some (some (V.ref p)) ∧ H p = some (lkO lk vs.cell) ∧ wd.M p = none ∧ Nt c.H p ∧ vs.same kvs ∧ Reps K wd vs.vals kvs.vals
  dc1 : ∀ (i j : Nat) (lk lk' : Option Obj) (ks ls : DK D) (p : Addr), env[i]? = some (some (Sl.dct lk ks)) → env[j]? = some (some (Sl.dct lk' ls)) → σ[i]? = some (some (V.ref p)) → σ[j]? = some (some (V.ref p)) → i = j
section
variable (K : PySem.W.Frag) (T : List (Addr × Str))
structure Rel (c : Ctx) (wd : Wd) (env : PEnv) (σ : L2.St) (H : Hp) : Prop where
  ord : Ord c.wd wd c.H
  good : Good T wd H
  keep : Keep c.wd c.H H
  len : env.length = σ.length
  dat : ∀ (i : Nat) (x : D), env[i]? = some (some (Sl.d x)) → ∃ v : V, σ[i]? = some (some v) ∧ Rep K wd v x
  own : ∀ (i : Nat) (xs : List D), env[i]? = some (some (Sl.own xs)) → ∃ (p : Addr) (vs : List V), σ[i]? = some (some (V.ref p)) ∧ H p = some (.lst vs) ∧ wd.M p = none ∧ p ∉ wd.B ∧ Nt c.H p ∧ Reps K wd vs xs
  sep : ∀ (i j : Nat) (xs ys : List D) (p : Addr), env[i]? = some (some (Sl.own xs)) → env[j]? = some (some (Sl.own ys)) → σ[i]? = some (some (V.ref p)) → σ[j]? = some (some (V.ref p)) → i = j
  pin : ∀ q ∈ c.pn, H q.1 = some (.lst q.2) ∧ wd.M q.1 = none ∧ q.1 ∉ wd.B ∧ NoOwn env σ q.1
  ext : Ext K c wd env σ H
end
theorem Ord.mnone {T : List (Addr × Str)} {wd wd' : Wd} {H H' : Hp} {p : Addr} {u : HO} (o : Ord wd wd' H) (h : wd.M p = none) (e : H p = some u) (t : noTb u) (g' : Good T wd' H') (e' : H' p = some u) (nt : ∀ vs, u ≠ .tup vs) : wd'.M p = none := by
  cases q : wd'.M p with
  | none => rfl
  | some u' =>
    rcases o.fm p u' q with z | z | ⟨vs, rfl⟩
    · rw [h] at z; cases z
    · exact (z.no e t).elim
    · have := g'.sub p _ q
      rw [e'] at this
      exact absurd (Option.some.inj this) (nt vs)
theorem Ord.bnone {wd wd' : Wd} {H : Hp} {p : Addr} {u : HO} (o : Ord wd wd' H) (h : p ∉ wd.B) (e : H p = some u) (t : noTb u) : p ∉ wd'.B := fun hb => by
  rcases o.fb p hb with z | z
  · exact h z
  · exact z.no e t
section
variable {K : PySem.W.Frag} {T : List (Addr × Str)} {c : Ctx} {wd wd' : Wd} {env env' : PEnv} {σ σ' : L2.St} {H H' : Hp}
theorem noTb_ins {C dx : Addr} {fs : List (Str × V)} : noTb (.ins C dx fs) := fun _ h => nomatch h
theorem Good.insB (g : Good T wd H) {p C dx : Addr} {fs : List (Str × V)} (h : H p = some (.ins C dx fs)) : p ∉ wd.B := fun z => by
  obtain ⟨_, _, _, _, e, _⟩ := g.box p z
  rw [h] at e
  cases e
theorem noTb_dK {kvs : List (Key × V)} : noTb (.dK kvs) := fun _ h => nomatch h
theorem noTb_lk {lk : Option Obj} {kvs : DK V} : noTb (lkO lk kvs.cell) := by
  cases lk <;> cases kvs <;> exact fun _ h => nomatch h
theorem lk_lst {lk : Option Obj} {kvs : DK V} {vs : List V} (h : some (HO.lst vs) = some (lkO lk kvs.cell)) : False := by
  cases lk <;> cases kvs <;> cases h
theorem lk_tbl {lk : Option Obj} {kvs : DK V} {ps : Array Value} (h : some (HO.tbl ps) = some (lkO lk kvs.cell)) : False := by
  cases lk <;> cases kvs <;> cases h
theorem lk_tup {lk : Option Obj} {kvs : DK V} {vs : List V} (h : some (HO.tup vs) = some (lkO lk kvs.cell)) : False := by
  cases lk <;> cases kvs <;> cases h
theorem lk_ins {lk : Option Obj} {kvs : DK V} {C dx : Addr} {vs : List (Str × V)} (h : some (HO.ins C dx vs) = some (lkO lk kvs.cell)) : False := by
  cases lk <;> cases kvs <;> cases h
theorem Good.dctB (g : Good T wd H) {p : Addr} {lk : Option Obj} {kvs : DK V} (h : H p = some (lkO lk kvs.cell)) : p ∉ wd.B := fun z => by
  obtain ⟨_, _, _, _, e, _⟩ := g.box p z
  rw [h] at e
  exact lk_lst e.symm
theorem noTup_lst {xs vs : List V} : HO.lst xs ≠ .tup vs := fun h => nomatch h
theorem noTup_lk {lk : Option Obj} {kvs : DK V} {vs : List V} : lkO lk kvs.cell ≠ .tup vs := by
  cases lk <;> cases kvs <;> exact fun h => nomatch h
theorem Ext.go (x : Ext K c wd env σ H) (g : Good T wd H) (o : Ord wd wd' H) (g' : Good T wd' H') (k : Keep wd H H') : Ext K c wd' env σ H' := by
  refine ⟨fun i p0 C fs e => ?_, x.ob1, fun i cs e q hq => ?_, x.cnd, x.ce1, fun i lk kvs e => ?_, x.dc1⟩
  · obtain ⟨dx, vs, h1, h2, h3, h4, h5, h6⟩ := x.obj i p0 C fs e
    exact ⟨dx, vs, h1, k.st p0 _ h2 (g.insB h2) noTb_ins, o.mnone h3 h2 noTb_ins g' (k.st p0 _ h2 (g.insB h2) noTb_ins) (fun _ z => nomatch z), h4, h5, h6.mono o.le⟩
  · obtain ⟨⟨vs, h1, h2⟩, h3, h4, h5, h6⟩ := x.cel i cs e q hq
    exact ⟨⟨vs, k.st _ _ h1 h4 noTb_lst, h2.mono o.le⟩, o.mnone h3 h1 noTb_lst g' (k.st _ _ h1 h4 noTb_lst) (fun _ => noTup_lst), o.bnone h4 h1 noTb_lst, h5, h6⟩
  · obtain ⟨p, vs, h1, h2, h3, h4, h5, h6⟩ := x.dct i lk kvs e
    exact ⟨p, vs, h1, k.st p _ h2 (g.dctB h2) noTb_lk, o.mnone h3 h2 noTb_lk g' (k.st p _ h2 (g.dctB h2) noTb_lk) (fun _ => noTup_lk), h4, h5, h6.mono o.le⟩
theorem Ext.sl (x : Ext K c wd env σ H) (hs : ∀ (i : Nat) (s : Sl), env'[i]? = some (some s) → (∀ d, s ≠ .d d) → (∀ ys, s ≠ .own ys) → env[i]? = some (some s) ∧ σ'[i]? = σ[i]?)
    (ho : ∀ (j : Nat) (ys : List D), env'[j]? = some (some (.own ys)) → (∃ ys', env[j]? = some (some (.own ys')) ∧ σ'[j]? = σ[j]?) ∨ ∃ p, σ'[j]? = some (some (.ref p)) ∧ NoCel env p) : Ext K c wd env' σ' H := by
  have ob : ∀ {i : Nat} {p : Addr} {C : Str} {fs : List (Str × D)}, env'[i]? = some (some (Sl.obj p C fs)) → env[i]? = some (some (Sl.obj p C fs)) ∧ σ'[i]? = σ[i]? := fun {i p C fs} e => hs i _ e (fun _ z => nomatch z) (fun _ z => nomatch z)
  have ce : ∀ {i : Nat} {cs : List (Addr × List D)}, env'[i]? = some (some (Sl.cels cs)) → env[i]? = some (some (Sl.cels cs)) ∧ σ'[i]? = σ[i]? := fun {i cs} e => hs i _ e (fun _ z => nomatch z) (fun _ z => nomatch z)
  have dc : ∀ {i : Nat} {lk : Option Obj} {kvs : DK D}, env'[i]? = some (some (Sl.dct lk kvs)) → env[i]? = some (some (Sl.dct lk kvs)) ∧ σ'[i]? = σ[i]? := fun {i lk kvs} e => hs i _ e (fun _ z => nomatch z) (fun _ z => nomatch z)
  refine ⟨fun i p0 C fs e => ?_, fun i j p p' C C' fs gs e1 e2 => x.ob1 i j p p' C C' fs gs (ob e1).1 (ob e2).1, fun i cs e q hq => ?_, fun i cs e => x.cnd i cs (ce e).1, fun i j cs ds e1 e2 => x.ce1 i j cs ds (ce e1).1 (ce e2).1, fun i lk kvs e => ?_, fun i j lk lk' ks ls p e1 e2 e3 e4 => x.dc1 i j lk lk' ks ls p (dc e1).1 (dc e2).1 (by rw [← (dc e1).2]; exact e3) (by rw [← (dc e2).2]; exact e4)⟩
  · obtain ⟨dx, vs, h1, h2⟩ := x.obj i p0 C fs (ob e).1
    exact ⟨dx, vs, by rw [(ob e).2]; exact h1, h2⟩
  · obtain ⟨h1, h3, h4, h5, h6⟩ := x.cel i cs (ce e).1 q hq
    refine ⟨h1, h3, h4, h5, fun j ys e2 => ?_⟩
    rcases ho j ys e2 with ⟨ys', z1, z2⟩ | ⟨p, z1, z2⟩
    · rw [z2]
      exact h6 j ys' z1
    · rw [z1]
      intro z
      have := z2 i cs (ce e).1 q hq
      cases z
      exact this rfl
  · obtain ⟨p, vs, h1, h2⟩ := x.dct i lk kvs (dc e).1
    exact ⟨p, vs, by rw [(dc e).2]; exact h1, h2⟩
theorem upd_none {M : Hp} {p a : Addr} {o : HO} (h : M a = none) (ne : a ≠ p) : upd M p o a = none := by rw [upd_ne ne]; exact h
theorem Ext.addM (x : Ext K c wd env σ H) {p : Addr} {vs : List V} {o : HO} (hm : wd.M p = none) (n : NoCel env p) (h : H p = some (.lst vs)) : Ext K c (wd.add p o) env σ H := by
  have le : Le wd (wd.add p o) := Le.add hm
  refine ⟨fun i p0 C fs e => ?_, x.ob1, fun i cs e q hq => ?_, x.cnd, x.ce1, fun i lk kvs e => ?_, x.dc1⟩
  · obtain ⟨dx, us, h1, h2, h3, h4, h5, h6⟩ := x.obj i p0 C fs e
    refine ⟨dx, us, h1, h2, upd_none h3 (fun z => ?_), h4, h5, h6.mono le⟩
    rw [z, h] at h2
    cases h2
  · obtain ⟨⟨us, h1, h2⟩, h3, h4, h5, h6⟩ := x.cel i cs e q hq
    exact ⟨⟨us, h1, h2.mono le⟩, upd_none h3 (n i cs e q hq), h4, h5, h6⟩
  · obtain ⟨p0, us, h1, h2, h3, h4, h5, h6⟩ := x.dct i lk kvs e
    refine ⟨p0, us, h1, h2, upd_none h3 (fun z => ?_), h4, h5, h6.mono le⟩
    rw [z, h] at h2
    exact lk_lst h2
theorem Ext.updL (x : Ext K c wd env σ H) {p : Addr} {vs : List V} {o : HO} (n : NoCel env p) (h : H p = some (.lst vs)) : Ext K c wd env σ (upd H p o) := by
  refine ⟨fun i p0 C fs e => ?_, x.ob1, fun i cs e q hq => ?_, x.cnd, x.ce1, fun i lk kvs e => ?_, x.dc1⟩
  · obtain ⟨dx, us, h1, h2, h3⟩ := x.obj i p0 C fs e
    refine ⟨dx, us, h1, ?_, h3⟩
    rw [upd_ne (fun z => by rw [z, h] at h2; cases h2)]
    exact h2
  · obtain ⟨⟨us, h1, h2⟩, h3⟩ := x.cel i cs e q hq
    exact ⟨⟨us, by rw [upd_ne (n i cs e q hq)]; exact h1, h2⟩, h3⟩
  · obtain ⟨p0, us, h1, h2, h3⟩ := x.dct i lk kvs e
    refine ⟨p0, us, h1, ?_, h3⟩
    rw [upd_ne (fun z => by rw [z, h] at h2; exact lk_lst h2)]
    exact h2
theorem Ext.new (x : Ext K c wd env σ H) {p : Addr} {o : HO} (h : H p = none) : Ext K c wd env σ (upd H p o) := by
  refine ⟨fun i p0 C fs e => ?_, x.ob1, fun i cs e q hq => ?_, x.cnd, x.ce1, fun i lk kvs e => ?_, x.dc1⟩
  · obtain ⟨dx, us, h1, h2, h3⟩ := x.obj i p0 C fs e
    exact ⟨dx, us, h1, by rw [upd_ne (ne_of_none h2 h)]; exact h2, h3⟩
  · obtain ⟨⟨us, h1, h2⟩, h3⟩ := x.cel i cs e q hq
    exact ⟨⟨us, by rw [upd_ne (ne_of_none h1 h)]; exact h1, h2⟩, h3⟩
  · obtain ⟨p0, us, h1, h2, h3⟩ := x.dct i lk kvs e
    exact ⟨p0, us, h1, by rw [upd_ne (ne_of_none h2 h)]; exact h2, h3⟩
theorem Ext.noOwn (x : Ext K c wd env σ H) {i : Nat} {xs : List D} {p : Addr} (e : env[i]? = some (some (Sl.own xs))) (h : σ[i]? = some (some (.ref p))) : NoCel env p := fun j cs ec q hq z =>
  (x.cel j cs ec q hq).2.2.2.2 i xs e (by rw [z]; exact h)
theorem Ext.noNone (x : Ext K c wd env σ H) {p : Addr} (h : H p = none) : NoCel env p := fun j cs ec q hq z => by
  obtain ⟨⟨vs, h1, _⟩, _⟩ := x.cel j cs ec q hq
  rw [z, h] at h1
  cases h1
theorem NoCel.set_d {i : Nat} {s : Sl} {p : Addr} (h : NoCel env p) (hs : ∀ cs, s ≠ .cels cs) : NoCel (env.set i (some s)) p := fun j cs e => by
  by_cases hj : i = j
  · subst hj
    by_cases hl : i < env.length
    · rw [List.getElem?_set_self hl] at e
      cases e
      exact absurd rfl (hs cs)
    · rw [List.set_eq_of_length_le (by omega)] at e
      exact h i cs e
  · rw [List.getElem?_set_ne hj] at e
    exact h j cs e
end
section
variable {K : PySem.W.Frag} {T : List (Addr × Str)} {c : Ctx} {wd wd' : Wd} {env : PEnv} {σ : L2.St} {H H' : Hp}
/-- behind what keeps the caller's things -/
theorem Rel.go (r : Rel K T c wd env σ H) (o : Ord wd wd' H) (g : Good T wd' H') (k : Keep wd H H') : Rel K T c wd' env σ H' := by
  refine ⟨r.ord.trans o r.keep, g, r.keep.trans r.ord k, r.len, fun i x e => ?_, fun i xs e => ?_, r.sep, fun q hq => ?_, r.ext.go r.good o g k⟩
  · obtain ⟨v, h1, h2⟩ := r.dat i x e
    exact ⟨v, h1, h2.mono o.le⟩
  · obtain ⟨p, vs, h1, h2, h3, h4, h5, h6⟩ := r.own i xs e
    refine ⟨p, vs, h1, k.st p _ h2 h4 noTb_lst, ?_, fun hb => ?_, h5, h6.mono o.le⟩
    · exact o.mnone h3 h2 noTb_lst g (k.st p _ h2 h4 noTb_lst) fun _ => noTup_lst
    · rcases o.fb p hb with z | z
      · exact h4 z
      · exact z.no h2 noTb_lst
  · obtain ⟨h1, h2, h3, h4⟩ := r.pin q hq
    refine ⟨k.st _ _ h1 h3 noTb_lst, ?_, fun hb => ?_, h4⟩
    · exact o.mnone h2 h1 noTb_lst g (k.st _ _ h1 h3 noTb_lst) fun _ => noTup_lst
    · rcases o.fb _ hb with y | y
      · exact h3 y
      · exact y.no h1 noTb_lst
theorem Rel.grow (r : Rel K T c wd env σ H) (g : Grow wd H wd' H') : Rel K T c wd' env σ H' :=
  let ⟨a, b, k⟩ := g.all r.good
  r.go b a k
theorem get_set {α : Type} {l : List α} {i j : Nat} {x y : α} (h : (l.set i x)[j]? = some y) : (i = j ∧ x = y ∧ i < l.length) ∨ (i ≠ j ∧ l[j]? = some y) := by
  by_cases e : i = j
  · subst e
    by_cases hl : i < l.length
    · rw [List.getElem?_set_self hl] at h
      exact .inl ⟨rfl, Option.some.inj h, hl⟩
    · rw [List.set_eq_of_length_le (by omega)] at h
      have := (List.getElem?_eq_some_iff.mp h).1
      omega
  · rw [List.getElem?_set_ne e] at h
    exact .inr ⟨e, h⟩
/-- a name is stored -/
theorem Rel.set (r : Rel K T c wd env σ H) {i : Nat} {v : V} {x : D} (h : Rep K wd v x) : Rel K T c wd (env.set i (some (.d x))) (σ.set i (some v)) H := by
  refine ⟨r.ord, r.good, r.keep, by simp [r.len], fun j y e => ?_, fun j ys e => ?_, fun j k xs ys p e1 e2 e3 e4 => ?_, fun q hq => ?_, r.ext.sl (fun j s e n1 n2 => ?_) fun j ys e => ?_⟩
  · rcases get_set e with ⟨rfl, e, hl⟩ | ⟨ne, e⟩
    · cases e
      rw [r.len] at hl
      exact ⟨v, List.getElem?_set_self hl, h⟩
    · obtain ⟨w, h1, h2⟩ := r.dat j y e
      exact ⟨w, by rw [List.getElem?_set_ne ne]; exact h1, h2⟩
  · rcases get_set e with ⟨rfl, e, hl⟩ | ⟨ne, e⟩
    · cases e
    · obtain ⟨p, vs, h1, h2⟩ := r.own j ys e
      exact ⟨p, vs, by rw [List.getElem?_set_ne ne]; exact h1, h2⟩
  · rcases get_set e1 with ⟨rfl, e, hl⟩ | ⟨ne1, e1⟩
    · cases e
    · rcases get_set e2 with ⟨rfl, e, hl⟩ | ⟨ne2, e2⟩
      · cases e
      · rw [List.getElem?_set_ne ne1] at e3
        rw [List.getElem?_set_ne ne2] at e4
        exact r.sep j k xs ys p e1 e2 e3 e4
  · obtain ⟨h1, h2, h3, h4⟩ := r.pin q hq
    refine ⟨h1, h2, h3, fun j ys e => ?_, h4.c.set_d fun _ z => nomatch z⟩
    rcases get_set e with ⟨rfl, e, hl⟩ | ⟨ne, e⟩
    · cases e
    · rw [List.getElem?_set_ne ne]
      exact h4.o j ys e
  · rcases get_set e with ⟨rfl, e, hl⟩ | ⟨ne, e⟩
    · cases e
      exact absurd rfl (n1 x)
    · exact ⟨e, List.getElem?_set_ne ne⟩
  · rcases get_set e with ⟨rfl, e, hl⟩ | ⟨ne, e⟩
    · cases e
    · exact .inl ⟨ys, e, List.getElem?_set_ne ne⟩
/-- a new list, by its name alone -/
theorem Rel.setOwn (r : Rel K T c wd env σ H) {i : Nat} {p : Addr} {vs : List V} {xs : List D} (hp : H p = none) (h : Reps K wd vs xs) (hz : vs.length ≤ sizeLine) : Rel K T c wd (env.set i (some (.own xs))) (σ.set i (some (.ref p))) (upd H p (.lst vs)) := by
  have k : Keep wd H (upd H p (.lst vs)) := Keep.add hp
  have hm := r.good.mnone hp
  have hb : p ∉ wd.B := fun z => by
    obtain ⟨_, g, s, c', e, _⟩ := r.good.box p z
    rw [hp] at e
    cases e
  have gd : Good T wd (upd H p (.lst vs)) := by
    refine ⟨fun a o e => ?_, r.good.ntb, fun b hb => ?_, r.good.tab.ext fun b u e => ?_, siz_upd r.good.siz hz⟩
    · have := r.good.sub a o e
      rw [upd_ne (ne_of_none this hp)]
      exact this
    · obtain ⟨h1, g, s, c', h2, h3⟩ := r.good.box b hb
      exact ⟨h1, g, s, c', by rw [upd_ne (ne_of_none h2 hp)]; exact h2, h3⟩
    · rw [upd_ne (ne_of_none e hp)]
      exact e
  have r2 : Rel K T c wd env σ (upd H p (.lst vs)) := r.go (Ord.refl _ _) gd k
  refine ⟨r2.ord, r2.good, r2.keep, by simp [r2.len], fun j y e => ?_, fun j ys e => ?_, fun j l as bs q e1 e2 e3 e4 => ?_, fun q hq => ?_, r2.ext.sl (fun j s e n1 n2 => ?_) fun j ys e => ?_⟩
  · rcases get_set e with ⟨rfl, e, hl⟩ | ⟨ne, e⟩
    · cases e
    · obtain ⟨w, h1, h2⟩ := r2.dat j y e
      exact ⟨w, by rw [List.getElem?_set_ne ne]; exact h1, h2⟩
  · rcases get_set e with ⟨rfl, e, hl⟩ | ⟨ne, e⟩
    · cases e
      rw [r.len] at hl
      exact ⟨p, vs, List.getElem?_set_self hl, upd_same, hm, hb, r.keep.dm p (Nt.of hp), h⟩
    · obtain ⟨q, us, h1, h2⟩ := r2.own j ys e
      exact ⟨q, us, by rw [List.getElem?_set_ne ne]; exact h1, h2⟩
  · have no : ∀ {j : Nat} {as : List D}, env[j]? = some (some (.own as)) → σ[j]? ≠ some (some (.ref p)) := fun {j as} e z => by
      obtain ⟨q, us, h1, h2, _⟩ := r.own j as e
      rw [h1] at z
      cases z
      rw [hp] at h2
      cases h2
    rcases get_set e1 with ⟨rfl, e, hl⟩ | ⟨ne1, e1⟩
    · rcases get_set e2 with ⟨rfl, e, hl⟩ | ⟨ne2, e2⟩
      · rfl
      · rw [r.len] at hl
        rw [List.getElem?_set_self hl] at e3
        cases e3
        rw [List.getElem?_set_ne ne2] at e4
        exact absurd e4 (no e2)
    · rcases get_set e2 with ⟨rfl, e, hl⟩ | ⟨ne2, e2⟩
      · rw [r.len] at hl
        rw [List.getElem?_set_self hl] at e4
        cases e4
        rw [List.getElem?_set_ne ne1] at e3
        exact absurd e3 (no e1)
      · rw [List.getElem?_set_ne ne1] at e3
        rw [List.getElem?_set_ne ne2] at e4
        exact r.sep j l as bs q e1 e2 e3 e4
  · obtain ⟨h1, h2, h3, h4⟩ := r2.pin q hq
    refine ⟨h1, h2, h3, fun j ys e => ?_, h4.c.set_d fun _ z => nomatch z⟩
    rcases get_set e with ⟨rfl, e, hl⟩ | ⟨ne, e⟩
    · rw [r.len] at hl
      rw [List.getElem?_set_self hl]
      intro z
      have z' : p = q.1 := by cases z; rfl
      have z2 := (r.pin q hq).1
      rw [← z', hp] at z2
      cases z2
    · rw [List.getElem?_set_ne ne]
      exact h4.o j ys e
  · rcases get_set e with ⟨rfl, e, hl⟩ | ⟨ne, e⟩
    · cases e
      exact absurd rfl (n2 xs)
    · exact ⟨e, List.getElem?_set_ne ne⟩
  · rcases get_set e with ⟨rfl, e, hl⟩ | ⟨ne, e⟩
    · rw [r.len] at hl
      exact .inr ⟨p, List.getElem?_set_self hl, r.ext.noNone hp⟩
    · exact .inl ⟨ys, e, List.getElem?_set_ne ne⟩
/-- a list that was one name's alone is shared from now on -/
theorem Rel.freeze (r : Rel K T c wd env σ H) {i : Nat} {xs : List D} (e : env[i]? = some (some (Sl.own xs))) :
    ∃ (p : Addr) (vs : List V), σ[i]? = some (some (V.ref p)) ∧ H p = some (.lst vs) ∧ Le wd (wd.add p (.lst vs)) ∧ Rel K T c (wd.add p (.lst vs)) (env.set i (some (.d (.lst xs)))) σ H ∧ Rep K (wd.add p (.lst vs)) (.ref p) (.lst xs) := by
  obtain ⟨p, vs, h1, h2, h3, h4, h5, h6⟩ := r.own i xs e
  have le : Le wd (wd.add p (.lst vs)) := Le.add h3
  have hr : Rep K (wd.add p (.lst vs)) (.ref p) (.lst xs) := .lst upd_same (h6.mono le)
  have hil : i < env.length := (List.getElem?_eq_some_iff.mp e).1
  have gd : Good T (wd.add p (.lst vs)) H := by
    refine ⟨fun a o q => ?_, fun a o q => ?_, fun b hb => ?_, r.good.tab, r.good.siz⟩
    · by_cases ha : a = p
      · subst ha
        have q' : upd wd.M a (.lst vs) a = some o := q
        rw [upd_same] at q'
        cases q'
        exact h2
      · have q' : upd wd.M p (.lst vs) a = some o := q
        rw [upd_ne ha] at q'
        exact r.good.sub a o q'
    · by_cases ha : a = p
      · subst ha
        have q' : upd wd.M a (.lst vs) a = some o := q
        rw [upd_same] at q'
        cases q'
        exact ⟨noTb_lst, r.good.siz _ _ h2⟩
      · have q' : upd wd.M p (.lst vs) a = some o := q
        rw [upd_ne ha] at q'
        exact r.good.ntb a o q'
    · obtain ⟨z1, z2⟩ := r.good.box b hb
      refine ⟨?_, z2⟩
      show upd wd.M p (.lst vs) b = none
      rw [upd_ne (show b ≠ p from fun z => h4 (z ▸ hb))]
      exact z1
  refine ⟨p, vs, h1, h2, le, ⟨⟨r.ord.le.trans le, fun a o q => ?_, r.ord.fb⟩, gd, r.keep, by simp [r.len], fun j y q => ?_, fun j ys q => ?_, fun j l as bs z e1 e2 e3 e4 => ?_, fun q hq => ?_, (r.ext.addM h3 (r.ext.noOwn e h1) h2).sl (fun j s q n1 n2 => ?_) fun j ys q => ?_⟩, hr⟩
  · by_cases ha : a = p
    · subst ha
      exact .inr (.inl h5)
    · have q' : upd wd.M p (.lst vs) a = some o := q
      rw [upd_ne ha] at q'
      exact r.ord.fm a o q'
  · rcases get_set q with ⟨rfl, q, hl⟩ | ⟨ne, q⟩
    · cases q
      exact ⟨.ref p, h1, hr⟩
    · obtain ⟨w, z1, z2⟩ := r.dat j y q
      exact ⟨w, z1, z2.mono le⟩
  · rcases get_set q with ⟨rfl, q, hl⟩ | ⟨ne, q⟩
    · cases q
    · obtain ⟨p2, us, z1, z2, z3, z4, z5, z6⟩ := r.own j ys q
      refine ⟨p2, us, z1, z2, ?_, z4, z5, z6.mono le⟩
      show upd wd.M p (.lst vs) p2 = none
      rw [upd_ne (show p2 ≠ p from fun z => ne (r.sep i j xs ys p2 e q (by rw [z]; exact h1) z1))]
      exact z3
  · rcases get_set e1 with ⟨rfl, q, hl⟩ | ⟨ne1, e1⟩
    · cases q
    · rcases get_set e2 with ⟨rfl, q, hl⟩ | ⟨ne2, e2⟩
      · cases q
      · exact r.sep j l as bs z e1 e2 e3 e4
  · obtain ⟨y1, y2, y3, y4⟩ := r.pin q hq
    refine ⟨y1, ?_, y3, fun j ys z => ?_, y4.c.set_d fun _ z => nomatch z⟩
    · show upd wd.M p (.lst vs) q.1 = none
      rw [upd_ne (show q.1 ≠ p from fun z => y4.o i xs e (by rw [z]; exact h1))]
      exact y2
    · rcases get_set z with ⟨rfl, z, hl⟩ | ⟨ne, z⟩
      · cases z
      · exact y4.o j ys z
  · rcases get_set q with ⟨rfl, q, hl⟩ | ⟨ne, q⟩
    · cases q
      exact absurd rfl (n1 _)
    · exact ⟨q, rfl⟩
  · rcases get_set q with ⟨rfl, q, hl⟩ | ⟨ne, q⟩
    · cases q
    · exact .inl ⟨ys, q, rfl⟩
/-- such a list is changed -/
theorem Rel.mut (r : Rel K T c wd env σ H) {i : Nat} {xs ys : List D} {p : Addr} {us : List V} (e : env[i]? = some (some (Sl.own xs))) (hp : σ[i]? = some (some (V.ref p))) (h : Reps K wd us ys) (hz : us.length ≤ sizeLine) :
    Rel K T c wd (env.set i (some (.own ys))) σ (upd H p (.lst us)) := by
  obtain ⟨p', vs, h1, h2, h3, h4, h5, h6⟩ := r.own i xs e
  rw [h1] at hp
  cases hp
  refine ⟨r.ord, ⟨fun a o q => ?_, r.good.ntb, fun b hb => ?_, fun q hq => ?_, siz_upd r.good.siz hz⟩, ⟨fun a o q n t => ?_, fun a q => ?_⟩, by simp [r.len], fun j y q => ?_, fun j zs q => ?_, fun j l as bs z e1 e2 e3 e4 => ?_, fun q hq => ?_, (r.ext.updL (r.ext.noOwn e h1) h2).sl (fun j s q n1 n2 => ?_) fun j ys q => ?_⟩
  · rw [upd_ne (fun z => by rw [z, h3] at q; cases q)]
    exact r.good.sub a o q
  · obtain ⟨z1, g, s, c', z2, z3⟩ := r.good.box b hb
    exact ⟨z1, g, s, c', by rw [upd_ne (show b ≠ p from fun z => h4 (z ▸ hb))]; exact z2, z3⟩
  · obtain ⟨ps, z1, z2, z3⟩ := r.good.tab q hq
    refine ⟨ps, ?_, z2, fun pos cv hc => ?_⟩
    · rw [upd_ne (fun z => by rw [z, h2] at z1; cases z1)]
      exact z1
    · obtain ⟨a, y1, y2⟩ := z3 pos cv hc
      refine ⟨a, y1, ?_⟩
      rw [upd_ne (fun z => by rw [z, h2] at y2; cases y2)]
      exact y2
  · rw [upd_ne (show a ≠ p from fun z => h5.no (by rw [← z]; exact q) t)]
    exact r.keep.st a o q n t
  · by_cases ha : a = p
    · subst ha
      exact h5
    · exact r.keep.dm a (q.upd ha)
  · rcases get_set q with ⟨rfl, q, hl⟩ | ⟨ne, q⟩
    · cases q
    · exact r.dat j y q
  · rcases get_set q with ⟨rfl, q, hl⟩ | ⟨ne, q⟩
    · cases q
      exact ⟨p, us, h1, upd_same, h3, h4, h5, h⟩
    · obtain ⟨p2, ws, z1, z2, z3⟩ := r.own j zs q
      refine ⟨p2, ws, z1, ?_, z3⟩
      rw [upd_ne (show p2 ≠ p from fun z => ne (r.sep i j xs zs p2 e q (by rw [z]; exact h1) z1))]
      exact z2
  · have own' : ∀ {j : Nat} {as : List D}, (env.set i (some (.own ys)))[j]? = some (some (.own as)) → ∃ as', env[j]? = some (some (.own as')) := fun {j as} q => by
      rcases get_set q with ⟨rfl, q, hl⟩ | ⟨ne, q⟩
      · exact ⟨xs, e⟩
      · exact ⟨as, q⟩
    obtain ⟨as', q1⟩ := own' e1
    obtain ⟨bs', q2⟩ := own' e2
    exact r.sep j l as' bs' z q1 q2 e3 e4
  · obtain ⟨y1, y2, y3, y4⟩ := r.pin q hq
    refine ⟨?_, y2, y3, fun j as z => ?_, y4.c.set_d fun _ z => nomatch z⟩
    · rw [upd_ne (show q.1 ≠ p from fun z => y4.o i xs e (by rw [z]; exact h1))]
      exact y1
    · rcases get_set z with ⟨rfl, z, hl⟩ | ⟨ne, z⟩
      · exact y4.o i xs e
      · exact y4.o j as z
  · rcases get_set q with ⟨rfl, q, hl⟩ | ⟨ne, q⟩
    · cases q
      exact absurd rfl (n2 _)
    · exact ⟨q, rfl⟩
  · rcases get_set q with ⟨rfl, q, hl⟩ | ⟨ne, q⟩
    · exact .inl ⟨xs, e, rfl⟩
    · exact .inl ⟨ys, q, rfl⟩
end
end Pd

namespace Pd
open PySem PySem.Spec PyProof.Rows L2 LamX

/-! ### places -/
def gt : PEnv → Nat → Option Sl
  | [], _ => none
  | x :: _, 0 => x
  | _ :: r, n + 1 => gt r n
theorem gt_eq : ∀ (env : PEnv) (i : Nat) {s : Sl}, gt env i = some s → env[i]? = some (some s)
  | [], _, _, h => by cases h
  | x :: r, 0, _, h => by
    have h' : x = some _ := h
    rw [h']; rfl
  | x :: r, n + 1, _, h => by
    have := gt_eq r n (s := _) h
    simpa using this

/-! ### one of two -/
@[irreducible] def br (b : Bool) (x y : Prop) : Prop := match b with
  | true => x
  | false => y
theorem br_t {x y : Prop} (h : br true x y) : x := by unfold br at h; exact h
theorem br_f {x y : Prop} (h : br false x y) : y := by unfold br at h; exact h
theorem br_of {b : Bool} {x y : Prop} (h : b = true → x) (g : b = false → y) : br b x y := by
  unfold br
  cases b with
  | true => exact h rfl
  | false => exact g rfl
theorem br_tt {b : Bool} {x y : Prop} (e : b = true) (h : x) : br b x y := br_of (fun _ => h) (fun z => by rw [e] at z; cases z)
theorem br_ff {b : Bool} {x y : Prop} (e : b = false) (h : y) : br b x y := br_of (fun z => by rw [e] at z; cases z) (fun _ => h)
theorem br_if {p : Prop} [Decidable p] {x y : Prop} (h : p → x) (g : ¬ p → y) : br (decide p) x y := br_of (fun z => h (of_decide_eq_true z)) (fun z => g (of_decide_eq_false z))
theorem br_no {b : Bool} {x y : Prop} (h : br b y x) : br (!b) x y := by
  cases b with
  | true => exact br_of (fun z => by cases z) (fun _ => br_t h)
  | false => exact br_of (fun _ => br_f h) (fun z => by cases z)

/-! ### wishes over plain data -/
structure Xc where
  cls : Str
  fs : List (Str × D)
abbrev W (α : Type) := PEnv → (α → PEnv → Prop) → (Xc → Prop) → Prop
def W.ret {α : Type} (a : α) : W α := fun env Q _ => Q a env
def W.bind {α β : Type} (m : W α) (f : α → W β) : W β := fun env Q ex => m env (fun a env' => f a env' Q ex) ex
def W.opt {α : Type} (o : Option α) : W α := fun env Q _ => match o with
  | some a => Q a env
  | none => False
def XRep (K : PySem.W.Frag) (x : Xc) (cl : Value) (dd : Option Addr) (wd : Wd) (H : Hp) : Prop :=
  cl = .ref (He.ga K x.cls) ∧ ((x.fs = [] ∧ dd = none) ∨ ∃ (a : Addr) (vs : List (Str × V)), dd = some a ∧ H a = some (.xd vs) ∧ vs.map (·.1) = x.fs.map (·.1) ∧ Reps K wd (vs.map (·.2)) (x.fs.map (·.2)))
section
variable (K : PySem.W.Frag) (T : List (Addr × Str))
def XOk (c : Ctx) (E : XK) (Ex : Xc → Prop) : Prop :=
  ∀ x, Ex x → ∀ (cl : Value) (dd : Option Addr) (wd' : Wd) (H' : Hp), Ord c.wd wd' c.H → Good T wd' H' → Keep c.wd c.H H' → XRep K x cl dd wd' H' → E cl dd H'
abbrev RR (α β : Type) := Ctx → Wd → PEnv → L2.St → Hp → β → α → Prop
def lift {α β : Type} (R : RR α β) (E : XK) (w : W α) : L2.St → Hp → (β → Hp → Prop) → Prop := fun σ H Q =>
  ∃ (c : Ctx) (wd : Wd) (env : PEnv) (P : α → PEnv → Prop) (Ex : Xc → Prop), Rel K T c wd env σ H ∧ w env P Ex ∧ XOk K T c E Ex ∧
    ∀ a env', P a env' → ∀ (b : β) (wd' : Wd) (H' : Hp), Le wd wd' → Rel K T c wd' env' σ H' → R c wd' env' σ H' b a → Q b H'
/-- what an expression gives: a value for data -/
def rE : RR D V := fun _ wd _ _ _ v d => Rep K wd v d
def rT : RR Bool Bool := fun _ _ _ _ _ b a => b = a
def rA : RR (List D) (List V) := fun _ wd _ _ _ vs ds => Reps K wd vs ds
/-- .. a list, a name's own or not -/
def Top (wd : Wd) (H : Hp) (v : V) (d : D) : Prop := Rep K wd v d ∨ ∃ (p : Addr) (vs : List V) (xs : List D), v = .ref p ∧ d = .lst xs ∧ H p = some (.lst vs) ∧ Reps K wd vs xs
def rB : RR D V := fun _ wd _ _ H v d => Top K wd H v d
/-- .. a new list -/
def rF : RR (List D) V := fun c wd env σ H v xs => ∃ (p : Addr) (vs : List V), v = .ref p ∧ H p = some (.lst vs) ∧ wd.M p = none ∧ p ∉ wd.B ∧ Nt c.H p ∧ Reps K wd vs xs ∧
  NoOwn env σ p ∧ ∀ q ∈ c.pn, q.1 ≠ p
end
abbrev JE (T : List (Addr × Str)) (X : Cx) (E : XK) (e : Expr) (w : W D) : Prop := PE X e (lift X.K T (rE X.K) E w)
abbrev JB (T : List (Addr × Str)) (X : Cx) (E : XK) (e : Expr) (w : W D) : Prop := PE X e (lift X.K T (rB X.K) E w)
abbrev JF (T : List (Addr × Str)) (X : Cx) (E : XK) (e : Expr) (w : W (List D)) : Prop := PE X e (lift X.K T (rF X.K) E w)
abbrev JT (T : List (Addr × Str)) (X : Cx) (E : XK) (e : Expr) (w : W Bool) : Prop := PT X e (lift X.K T rT E w)
abbrev JW (T : List (Addr × Str)) (X : Cx) (E : XK) (e : Expr) (w : W Bool) : Prop := PW X e (lift X.K T rT E w)
abbrev JA (T : List (Addr × Str)) (X : Cx) (E : XK) (es : List Expr) (w : W (List D)) : Prop := PA X es (lift X.K T (rA X.K) E w)

section
variable {X : Cx} {T : List (Addr × Str)} {E : XK}
theorem peI {e : Expr} {t t' : TE} (h : PE X e t) (i : ∀ σ H Q, t' σ H Q → t σ H Q) : PE X e t' := ⟨fun pins s σ H Q I q => h.run pins s σ H Q I (i σ H Q q)⟩
theorem ptI {e : Expr} {t t' : TT} (h : PT X e t) (i : ∀ σ H Q, t' σ H Q → t σ H Q) : PT X e t' := ⟨fun pins s σ H Q I q => h.run pins s σ H Q I (i σ H Q q)⟩
theorem pwI {e : Expr} {t t' : TT} (h : PW X e t) (i : ∀ σ H Q, t' σ H Q → t σ H Q) : PW X e t' := ⟨fun whole pins s σ H Q I q => h.run whole pins s σ H Q I (i σ H Q q)⟩
theorem paI {es : List Expr} {t t' : TA} (h : PA X es t) (i : ∀ σ H Q, t' σ H Q → t σ H Q) : PA X es t' := ⟨fun pos pins s σ H Q I q => h.run pos pins s σ H Q I (i σ H Q q)⟩

/-! ### names, constants -/
def wVar (i : Nat) : W D := fun env Q _ => match gt env i with
  | some (.d x) => Q x env
  | _ => False
def wFrz (i : Nat) : W D := fun env Q _ => match gt env i with
  | some (.own xs) => Q (.lst xs) (env.set i (some (.d (.lst xs))))
  | _ => False
def wOwn (i : Nat) : W D := fun env Q _ => match gt env i with
  | some (.own xs) => Q (.lst xs) env
  | _ => False
theorem wVar_inv {i : Nat} {env : PEnv} {Q : D → PEnv → Prop} {ex : Xc → Prop} (h : wVar i env Q ex) : ∃ x, gt env i = some (.d x) ∧ Q x env := by
  unfold wVar at h
  split at h
  · exact ⟨_, by assumption, h⟩
  · exact h.elim
theorem wFrz_inv {i : Nat} {env : PEnv} {Q : D → PEnv → Prop} {ex : Xc → Prop} (h : wFrz i env Q ex) : ∃ xs, gt env i = some (.own xs) ∧ Q (.lst xs) (env.set i (some (.d (.lst xs)))) := by
  unfold wFrz at h
  split at h
  · exact ⟨_, by assumption, h⟩
  · exact h.elim
theorem wOwn_inv {i : Nat} {env : PEnv} {Q : D → PEnv → Prop} {ex : Xc → Prop} (h : wOwn i env Q ex) : ∃ xs, gt env i = some (.own xs) ∧ Q (.lst xs) env := by
  unfold wOwn at h
  split at h
  · exact ⟨_, by assumption, h⟩
  · exact h.elim
section
variable {x : Str} {pos : Pos}
theorem je_var (i : Nat) (hN : X.N[i]? = some x := by rfl) (hv : Vis X.env.scope x := by first | exact Or.inl rfl | exact Or.inr (Or.inl rfl) | exact Or.inr (Or.inr rfl)) (hd : (x == ("__debug__" : Str)) = false := by decide)
    (hcd : (x == ("__classdict__" : Str)) = false := by decide) : JE T X E (.Name x pos) (wVar i) :=
  peI (pe_var hN hv hd hcd) fun σ H Q ⟨c, wd, env, P, Ex, r, h, _, k⟩ => by
    obtain ⟨d, e, h⟩ := wVar_inv h
    obtain ⟨v, e1, rp⟩ := r.dat i d (gt_eq _ _ e)
    exact ⟨v, e1, k d env h v wd H (Le.refl _) r rp⟩
theorem je_frz (i : Nat) (hN : X.N[i]? = some x := by rfl) (hv : Vis X.env.scope x := by first | exact Or.inl rfl | exact Or.inr (Or.inl rfl) | exact Or.inr (Or.inr rfl)) (hd : (x == ("__debug__" : Str)) = false := by decide)
    (hcd : (x == ("__classdict__" : Str)) = false := by decide) : JE T X E (.Name x pos) (wFrz i) :=
  peI (pe_var hN hv hd hcd) fun σ H Q ⟨c, wd, env, P, Ex, r, h, _, k⟩ => by
    obtain ⟨xs, e, h⟩ := wFrz_inv h
    obtain ⟨p, vs, e1, e2, le, r2, rp⟩ := r.freeze (gt_eq _ _ e)
    exact ⟨.ref p, e1, k _ _ h _ _ H le r2 rp⟩
theorem jb_own (i : Nat) (hN : X.N[i]? = some x := by rfl) (hv : Vis X.env.scope x := by first | exact Or.inl rfl | exact Or.inr (Or.inl rfl) | exact Or.inr (Or.inr rfl)) (hd : (x == ("__debug__" : Str)) = false := by decide)
    (hcd : (x == ("__classdict__" : Str)) = false := by decide) : JB T X E (.Name x pos) (wOwn i) :=
  peI (pe_var hN hv hd hcd) fun σ H Q ⟨c, wd, env, P, Ex, r, h, _, k⟩ => by
    obtain ⟨xs, e, h⟩ := wOwn_inv h
    obtain ⟨p, vs, e1, e2, _, _, _, rp⟩ := r.own i xs (gt_eq _ _ e)
    exact ⟨.ref p, e1, k _ _ h _ wd H (Le.refl _) r (.inr ⟨p, vs, xs, rfl, rfl, e2, rp⟩)⟩
end
theorem je_c {e : Expr} {v : V} {d : D} (h : PE X e (tC v)) (hr : ∀ wd, Rep X.K wd v d) : JE T X E e (W.ret d) :=
  peI h fun σ H Q ⟨c, wd, env, P, Ex, r, h, _, k⟩ => k d env h v wd H (Le.refl _) r (hr wd)
theorem je_int {i j pos} : JE T X E (.Constant (.int i) j pos) (W.ret (.int i)) := je_c pe_int fun _ => .int i
theorem je_bl {b j pos} : JE T X E (.Constant (.bool b) j pos) (W.ret (.bl b)) := je_c pe_bl fun _ => .bl b
theorem je_non {j pos} : JE T X E (.Constant .none j pos) (W.ret .non) := je_c pe_non fun _ => .non
theorem je_str {x j pos} : JE T X E (.Constant (.str x) j pos) (W.ret (.str x)) := je_c pe_str fun _ => .str x
/-- a module's constant -/
theorem je_gint {x : Str} {pos : Pos} {i : Int} (hg : Gl X x) (hm : ∃ t, X.mg x = some (.int i t)) (hd : (x == ("__debug__" : Str)) = false := by decide) : JE T X E (.Name x pos) (W.ret (.int i)) := by
  obtain ⟨t, hm⟩ := hm
  exact je_c (v := .int i) (pe_glob hg hm ⟨t, rfl⟩ hd) fun _ => .int i
theorem je_gstr {x z : Str} {pos : Pos} (hg : Gl X x) (hm : ∃ t, X.mg x = some (.str z t)) (hd : (x == ("__debug__" : Str)) = false := by decide) : JE T X E (.Name x pos) (W.ret (.str z)) := by
  obtain ⟨t, hm⟩ := hm
  exact je_c (v := .str z) (pe_glob hg hm ⟨t, rfl⟩ hd) fun _ => .str z
theorem je_b {e : Expr} {w : W D} (h : JE T X E e w) : JB T X E e w :=
  peI h fun σ H Q ⟨c, wd, env, P, Ex, r, h, xo, k⟩ => ⟨c, wd, env, P, Ex, r, h, xo, fun a env' p b wd' H' le r' rp => k a env' p b wd' H' le r' (.inl rp)⟩
/-- a new list as any other one -/
def wLst (w : W (List D)) : W D := w.bind fun xs => .ret (.lst xs)
theorem jf_e {e : Expr} {w : W (List D)} (h : JF T X E e w) : JE T X E e (wLst w) :=
  peI h fun σ H Q ⟨c, wd, env, P, Ex, r, h, xo, k⟩ => ⟨c, wd, env, fun xs env' => P (.lst xs) env', Ex, r, h, xo, fun xs env' p b wd' H' le r' rp => by
    obtain ⟨q, vs, rfl, h1, h2, h3, h4, h5, h6, h7⟩ := rp
    have le' : Le wd' (wd'.add q (.lst vs)) := Le.add h2
    refine k _ env' p (.ref q) (wd'.add q (.lst vs)) H' (le.trans le') ?_ (.lst upd_same (h5.mono le'))
    have uq : ∀ {a : Addr} {o : HO}, (wd'.add q (.lst vs)).M a = some o → (a = q ∧ o = .lst vs) ∨ wd'.M a = some o := fun {a o} z => by
      by_cases ha : a = q
      · subst ha
        have z' : upd wd'.M a (.lst vs) a = some o := z
        rw [upd_same] at z'
        cases z'
        exact .inl ⟨rfl, rfl⟩
      · have z' : upd wd'.M q (.lst vs) a = some o := z
        rw [upd_ne ha] at z'
        exact .inr z'
    refine ⟨⟨r'.ord.le.trans le', fun a o z => ?_, r'.ord.fb⟩, ⟨fun a o z => ?_, fun a o z => ?_, fun b hb => ?_, r'.good.tab, r'.good.siz⟩, r'.keep, r'.len, fun i d z => ?_, fun i ys z => ?_, r'.sep, fun qq hq => ?_, r'.ext.addM h2 h6.c h1⟩
    · rcases uq z with ⟨rfl, rfl⟩ | z
      · exact .inr (.inl h4)
      · exact r'.ord.fm a o z
    · rcases uq z with ⟨rfl, rfl⟩ | z
      · exact h1
      · exact r'.good.sub a o z
    · rcases uq z with ⟨rfl, rfl⟩ | z
      · exact ⟨noTb_lst, r'.good.siz _ _ h1⟩
      · exact r'.good.ntb a o z
    · obtain ⟨z1, z2⟩ := r'.good.box b hb
      refine ⟨?_, z2⟩
      show upd wd'.M q (.lst vs) b = none
      rw [upd_ne (show b ≠ q from fun z => h3 (z ▸ hb))]
      exact z1
    · obtain ⟨v, y1, y2⟩ := r'.dat i d z
      exact ⟨v, y1, y2.mono le'⟩
    · obtain ⟨p2, us, y1, y2, y3, y4, y5, y6⟩ := r'.own i ys z
      refine ⟨p2, us, y1, y2, ?_, y4, y5, y6.mono le'⟩
      show upd wd'.M q (.lst vs) p2 = none
      rw [upd_ne (show p2 ≠ q from fun zz => h6.o i ys z (by rw [← zz]; exact y1))]
      exact y3
    · obtain ⟨y1, y2, y3, y4⟩ := r'.pin qq hq
      refine ⟨y1, ?_, y3, y4⟩
      show upd wd'.M q (.lst vs) qq.1 = none
      rw [upd_ne (show qq.1 ≠ q from fun zz => h7 qq hq zz)]
      exact y2⟩
/-- the state with a new list -/
theorem Rel.fresh {K : PySem.W.Frag} {c : Ctx} {wd : Wd} {env : PEnv} {σ : L2.St} {H : Hp} (r : Rel K T c wd env σ H) {p : Addr} {vs : List V} {xs : List D} (hp : H p = none) (h : Reps K wd vs xs) (hz : vs.length ≤ sizeLine) :
    Rel K T c wd env σ (upd H p (.lst vs)) ∧ rF K c wd env σ (upd H p (.lst vs)) (.ref p) xs := by
  have hm := r.good.mnone hp
  have hb : p ∉ wd.B := fun z => by
    obtain ⟨_, g, s, c', e, _⟩ := r.good.box p z
    rw [hp] at e
    cases e
  have gd : Good T wd (upd H p (.lst vs)) := by
    refine ⟨fun a o e => ?_, r.good.ntb, fun b hb => ?_, r.good.tab.ext fun b u e => ?_, siz_upd r.good.siz hz⟩
    · have := r.good.sub a o e
      rw [upd_ne (ne_of_none this hp)]
      exact this
    · obtain ⟨h1, g, s, c', h2, h3⟩ := r.good.box b hb
      exact ⟨h1, g, s, c', by rw [upd_ne (ne_of_none h2 hp)]; exact h2, h3⟩
    · rw [upd_ne (ne_of_none e hp)]
      exact e
  refine ⟨r.go (Ord.refl _ _) gd (Keep.add hp), p, vs, rfl, upd_same, hm, hb, r.keep.dm p (Nt.of hp), h, ⟨fun i ys e z => ?_, r.ext.noNone hp⟩, fun q hq z => ?_⟩
  · obtain ⟨q, us, h1, h2, _⟩ := r.own i ys e
    rw [h1] at z
    cases z
    rw [hp] at h2
    cases h2
  · have := (r.pin q hq).1
    rw [z, hp] at this
    cases this

/-! ### argument lists, displays -/
def wNil : W (List D) := .ret []
def wCons (a : W D) (r : W (List D)) : W (List D) := a.bind fun x => r.bind fun xs => .ret (x :: xs)
theorem ja_nil : JA T X E [] wNil := paI pa_nil fun σ H Q ⟨c, wd, env, P, Ex, r, h, _, k⟩ => k [] env h [] wd H (Le.refl _) r .nil
theorem ja_cons {e : Expr} {es : List Expr} {a : W D} {w : W (List D)} (ha : JE T X E e a) (hr : JA T X E es w) (hs : starEach (e :: es) X.env = (false, eval e X.env) :: starEach es X.env := by rfl) : JA T X E (e :: es) (wCons a w) :=
  paI (pa_cons ha hr hs) fun σ H Q ⟨c, wd, env, P, Ex, r, h, xo, k⟩ =>
    ⟨c, wd, env, _, Ex, r, h, xo, fun x env1 h1 v wd1 H1 le1 r1 rp1 => ⟨c, wd1, env1, _, Ex, r1, h1, xo, fun xs env2 h2 vs wd2 H2 le2 r2 rp2 => k _ env2 h2 (v :: vs) wd2 H2 (le1.trans le2) r2 (.cons (rp1.mono le2) rp2)⟩⟩
def wTup (w : W (List D)) : W D := w.bind fun xs env Q _ => xs.length ≤ 1000000 ∧ Q (.tup xs) env
theorem sz6 {n : Nat} (h : n ≤ 1000000) : n ≤ sizeLine := Nat.le_trans h (by decide)
theorem je_tup {es : List Expr} {w : W (List D)} {x1} {pos : Pos} (h : JA T X E es w) : JE T X E (.Tuple es x1 pos) (wTup w) :=
  peI (pe_tup h) fun σ H Q ⟨c, wd, env, P, Ex, r, h, xo, k⟩ =>
    ⟨c, wd, env, _, Ex, r, h, xo, fun xs env1 h1 vs wd1 H1 le1 r1 rp1 => by
      have hz : vs.length ≤ sizeLine := by rw [rp1.length]; exact sz6 h1.1
      refine ⟨hz, fun p hp => ?_⟩
      have g : Grow wd1 H1 (wd1.add p (.tup vs)) (upd H1 p (.tup vs)) := Grow.one hp noTb_tup hz
      have le2 : Le wd1 (wd1.add p (.tup vs)) := Le.add (r1.good.mnone hp)
      exact k _ env1 h1.2 (.ref p) _ _ (le1.trans le2) (r1.grow g) (.tup upd_same (rp1.mono le2))⟩
def wSz (w : W (List D)) : W (List D) := w.bind fun xs env Q _ => xs.length ≤ 1000000 ∧ Q xs env
theorem jf_lst {es : List Expr} {w : W (List D)} {pos : Pos} (h : JA T X E es w) : JF T X E (.List es pos) (wSz w) :=
  peI (pe_lst h) fun σ H Q ⟨c, wd, env, P, Ex, r, h, xo, k⟩ =>
    ⟨c, wd, env, _, Ex, r, h, xo, fun xs env1 h1 vs wd1 H1 le1 r1 rp1 => by
      have hz : vs.length ≤ sizeLine := by rw [rp1.length]; exact sz6 h1.1
      refine ⟨hz, fun p hp => ?_⟩
      obtain ⟨r2, f⟩ := r1.fresh hp rp1 hz
      exact k _ env1 h1.2 (.ref p) _ _ le1 r2 f⟩

/-! ### operators -/
/-- what an operation gives: a value, perhaps behind new objects -/
def Del (K : PySem.W.Frag) (wd : Wd) (H : Hp) (z : D) (Q : VK) : Prop := ∀ w wd' H', Grow wd H wd' H' → Rep K wd' w z → Q w H'
theorem Grow.le {T : List (Addr × Str)} {wd wd' : Wd} {H H' : Hp} (g : Grow wd H wd' H') (o : Good T wd H) : Le wd wd' := (g.all o).2.1.le
theorem Del.now {K : PySem.W.Frag} {wd : Wd} {H : Hp} {z : D} {Q : VK} {w : V} (d : Del K wd H z Q) (r : Rep K wd w z) : Q w H := d w wd H (.refl _ _) r
theorem Del.tup {K : PySem.W.Frag} {wd : Wd} {H : Hp} {xs : List D} {Q : VK} {p : Addr} {vs : List V} (d : Del K wd H (.tup xs) Q) (g : Good T wd H) (hp : H p = none) (r : Reps K wd vs xs) (hz : vs.length ≤ sizeLine) : Q (.ref p) (upd H p (.tup vs)) :=
  d (.ref p) _ _ (Grow.one hp noTb_tup hz) (.tup upd_same (r.mono (Le.add (g.mnone hp))))
theorem Del.lst {K : PySem.W.Frag} {wd : Wd} {H : Hp} {xs : List D} {Q : VK} {p : Addr} {vs : List V} (d : Del K wd H (.lst xs) Q) (g : Good T wd H) (hp : H p = none) (r : Reps K wd vs xs) (hz : vs.length ≤ sizeLine) : Q (.ref p) (upd H p (.lst vs)) :=
  d (.ref p) _ _ (Grow.one hp noTb_lst hz) (.lst upd_same (r.mono (Le.add (g.mnone hp))))
structure OpD (X : Cx) (f : Value → Value → Sem Value) (g : D → D → Option D) : Prop where
  ex : ∃ r : R2, OpR X f r ∧ ∀ (x y z : D), g x y = some z → ∀ (T : List (Addr × Str)) (wd : Wd) (H : Hp) (v u : V) (Q : VK), Good T wd H → Rep X.K wd v x → Rep X.K wd u y → Del X.K wd H z Q → r v u H Q
def wBin (g : D → D → Option D) (a b : W D) : W D := a.bind fun x => b.bind fun y => .opt (g x y)
theorem opt_inv {α : Type} {o : Option α} {env : PEnv} {Q : α → PEnv → Prop} {ex : Xc → Prop} (h : W.opt o env Q ex) : ∃ a, o = some a ∧ Q a env := by
  unfold W.opt at h
  split at h
  · exact ⟨_, rfl, h⟩
  · exact h.elim
theorem lift_bin {K : PySem.W.Frag} {r : R2} {g : D → D → Option D} {a b : W D} {σ : L2.St} {H : Hp} {Q : VK}
    (ho : ∀ (x y z : D), g x y = some z → ∀ (T : List (Addr × Str)) (wd : Wd) (H : Hp) (v u : V) (Q : VK), Good T wd H → Rep K wd v x → Rep K wd u y → Del K wd H z Q → r v u H Q)
    (h : lift K T (rE K) E (wBin g a b) σ H Q) : tOp r (lift K T (rE K) E a) (lift K T (rE K) E b) σ H Q := by
  obtain ⟨c, wd, env, P, Ex, rl, h, xo, k⟩ := h
  refine ⟨c, wd, env, _, Ex, rl, h, xo, fun x env1 h1 v wd1 H1 le1 r1 rp1 => ⟨c, wd1, env1, _, Ex, r1, h1, xo, fun y env2 h2 u wd2 H2 le2 r2 rp2 => ?_⟩⟩
  obtain ⟨z, e, hz⟩ := opt_inv h2
  exact ho x y z e T wd2 H2 v u Q r2.good (Rep.mono le2 rp1) rp2 fun w wd3 H3 g3 rp3 => k z env2 hz w wd3 H3 ((le1.trans le2).trans (g3.le r2.good)) (r2.grow g3) rp3
theorem je_bin {op : Operator} {g : D → D → Option D} {x y : Expr} {a b : W D} {pos : Pos} (ho : OpD X (binaryOp op) g) (ha : JE T X E x a) (hb : JE T X E y b) : JE T X E (.BinOp x op y pos) (wBin g a b) := by
  obtain ⟨r, hr, hq⟩ := ho.ex
  exact peI (pe_op hr ha hb) fun σ H Q h => lift_bin hq h
theorem je_cmp {op : CmpOp} {g : D → D → Option D} {x y : Expr} {a b : W D} {pos : Pos} (ho : OpD X (compareOp op) g) (ha : JE T X E x a) (hb : JE T X E y b) (hm : behindInMarks op y = false) : JE T X E (.Compare x [op] [y] pos) (wBin g a b) := by
  obtain ⟨r, hr, hq⟩ := ho.ex
  exact peI (pe_cmpR hr ha hb hm) fun σ H Q h => lift_bin hq h
end
end Pd

namespace Pd
open PySem PySem.Spec PyProof.Rows L2 LamX
section
variable {X : Cx} {T : List (Addr × Str)} {E : XK}
/-! ### a op b op c -/
def wChain (g g' : D → D → Option D) (a b m : W D) : W D := a.bind fun x => b.bind fun y => (W.opt (g x y)).bind fun z env Q ex => match z with
  | .bl t => br t ((m.bind fun w => .opt (g' y w)) env Q ex) (Q (.bl false) env)
  | _ => False
theorem je_chain {op op' : CmpOp} {g g' : D → D → Option D} {x y z : Expr} {a b m : W D} {pos : Pos} (ho : OpD X (compareOp op) g) (ho' : OpD X (compareOp op') g') (ha : JE T X E x a) (hb : JE T X E y b) (hm : JE T X E z m)
    (hl : lastMarks [op, op'] [y, z] = false := by with_unfolding_all rfl) : JE T X E (.Compare x [op, op'] [y, z] pos) (wChain g g' a b m) := by
  obtain ⟨r, hr, hq⟩ := ho.ex
  obtain ⟨r', hr', hq'⟩ := ho'.ex
  refine peI (pe_chain hr hr' ha hb hm hl) fun σ H Q ⟨c, wd, env, P, Ex, rl, h, xo, k⟩ => ?_
  refine ⟨c, wd, env, _, Ex, rl, h, xo, fun x1 env1 h1 v wd1 H1 le1 r1 rp1 => ⟨c, wd1, env1, _, Ex, r1, h1, xo, fun y1 env2 h2 u wd2 H2 le2 r2 rp2 => ?_⟩⟩
  obtain ⟨z1, e, h3⟩ := opt_inv h2
  refine hq x1 y1 z1 e T wd2 H2 v u _ r2.good (rp1.mono le2) rp2 fun w wd3 H3 g3 rp3 => ?_
  have le3 := g3.le r2.good
  have r3 := r2.grow g3
  split at h3
  · rename_i t
    cases rp3
    cases t
    · have h3 := br_f h3
      exact ⟨false, rfl, k _ env2 h3 _ wd3 H3 ((le1.trans le2).trans le3) r3 (.bl false)⟩
    have h3 := br_t h3
    refine ⟨true, rfl, ?_⟩
    show lift X.K T (rE X.K) E m σ H3 _
    refine ⟨c, wd3, env2, _, Ex, r3, h3, xo, fun w1 env4 h4 u4 wd4 H4 le4 r4 rp4 => ?_⟩
    obtain ⟨z2, e2, h5⟩ := opt_inv h4
    exact hq' y1 w1 z2 e2 T wd4 H4 u u4 Q r4.good ((rp2.mono le3).mono le4) rp4 fun w5 wd5 H5 g5 rp5 => k z2 env4 h5 w5 wd5 H5 ((((le1.trans le2).trans le3).trans le4).trans (g5.le r4.good)) (r4.grow g5) rp5
  · exact h3.elim

/-! ### and, or, not -/
def wAnd (a b : W D) : W D := a.bind fun x env Q ex => match x with
  | .bl t => br t (b env Q ex) (Q (.bl false) env)
  | _ => False
def wOr (a b : W D) : W D := a.bind fun x env Q ex => match x with
  | .bl t => br t (Q (.bl true) env) (b env Q ex)
  | _ => False
def wNot (a : W D) : W D := a.bind fun x env Q ex => match x with
  | .bl b => Q (.bl (!b)) env
  | _ => False
theorem je_one {op} {x : Expr} {a : W D} {pos : Pos} (h : JE T X E x a) : JE T X E (.BoolOp op [x] pos) a := pe_one h
theorem je_and {x y : Expr} {rest : List Expr} {a b : W D} {pos : Pos} (ha : JE T X E x a) (hb : JE T X E (.BoolOp .And (y :: rest) pos) b) : JE T X E (.BoolOp .And (x :: y :: rest) pos) (wAnd a b) :=
  peI (pe_and ha hb) fun σ H Q ⟨c, wd, env, P, Ex, rl, h, xo, k⟩ => ⟨c, wd, env, _, Ex, rl, h, xo, fun x1 env1 h1 v wd1 H1 le1 r1 rp1 => by
    dsimp only at h1
    split at h1
    · rename_i t
      cases rp1
      cases t
      · exact ⟨false, rfl, k _ env1 (br_f h1) _ wd1 H1 le1 r1 (.bl false)⟩
      · exact ⟨true, rfl, c, wd1, env1, P, Ex, r1, br_t h1, xo, fun a1 env2 p b1 wd2 H2 le2 => k a1 env2 p b1 wd2 H2 (le1.trans le2)⟩
    · exact h1.elim⟩
theorem je_or {x y : Expr} {rest : List Expr} {a b : W D} {pos : Pos} (ha : JE T X E x a) (hb : JE T X E (.BoolOp .Or (y :: rest) pos) b) : JE T X E (.BoolOp .Or (x :: y :: rest) pos) (wOr a b) :=
  peI (pe_or ha hb) fun σ H Q ⟨c, wd, env, P, Ex, rl, h, xo, k⟩ => ⟨c, wd, env, _, Ex, rl, h, xo, fun x1 env1 h1 v wd1 H1 le1 r1 rp1 => by
    dsimp only at h1
    split at h1
    · rename_i t
      cases rp1
      cases t
      · exact ⟨false, rfl, c, wd1, env1, P, Ex, r1, br_f h1, xo, fun a1 env2 p b1 wd2 H2 le2 => k a1 env2 p b1 wd2 H2 (le1.trans le2)⟩
      · exact ⟨true, rfl, k _ env1 (br_t h1) _ wd1 H1 le1 r1 (.bl true)⟩
    · exact h1.elim⟩
theorem je_not {x : Expr} {a : W D} {pos : Pos} (ha : JE T X E x a) : JE T X E (.UnaryOp .Not x pos) (wNot a) :=
  peI (pe_not ha) fun σ H Q ⟨c, wd, env, P, Ex, rl, h, xo, k⟩ => ⟨c, wd, env, _, Ex, rl, h, xo, fun x1 env1 h1 v wd1 H1 le1 r1 rp1 => by
    dsimp only at h1
    split at h1
    · cases rp1
      exact ⟨_, rfl, k _ env1 h1 _ wd1 H1 le1 r1 (.bl _)⟩
    · exact h1.elim⟩
/-! ### tests -/
def wTest (a : W D) : W Bool := a.bind fun x env Q ex => match x with
  | .bl b => Q b env
  | _ => False
def tAndP (a b : W Bool) : W Bool := a.bind fun x env Q ex => br x (b env Q ex) (Q false env)
def tOrP (a b : W Bool) : W Bool := a.bind fun x env Q ex => br x (Q true env) (b env Q ex)
def tNotP (a : W Bool) : W Bool := a.bind fun x => .ret (!x)
theorem jt_val {x : Expr} {a : W D} (ha : JE T X E x a) (he : ∀ whole, isTrue x X.env whole = (do let v ← whole; standAt x.pos; holding [v] (truthy v)) := by intro _; rfl) : JT T X E x (wTest a) :=
  ptI (pt_val ha he) fun σ H Q ⟨c, wd, env, P, Ex, rl, h, xo, k⟩ => ⟨c, wd, env, _, Ex, rl, h, xo, fun x1 env1 h1 v wd1 H1 le1 r1 rp1 => by
    dsimp only at h1
    split at h1
    · cases rp1
      exact ⟨_, rfl, k _ env1 h1 _ wd1 H1 le1 r1 rfl⟩
    · exact h1.elim⟩
theorem jt_not {x : Expr} {a : W Bool} {pos : Pos} (ha : JT T X E x a) : JT T X E (.UnaryOp .Not x pos) (tNotP a) :=
  ptI (pt_not ha) fun σ H Q ⟨c, wd, env, P, Ex, rl, h, xo, k⟩ => ⟨c, wd, env, _, Ex, rl, h, xo, fun x1 env1 h1 v wd1 H1 le1 r1 rp1 => by
    cases (show v = x1 from rp1)
    exact k _ env1 h1 _ wd1 H1 le1 r1 rfl⟩
theorem jw_and1 {x : Expr} {a : W Bool} {pos : Pos} (ha : JT T X E x a) : JW T X E (.BoolOp .And [x] pos) a := pw_and1 ha
theorem jw_or1 {x : Expr} {a : W Bool} {pos : Pos} (ha : JT T X E x a) : JW T X E (.BoolOp .Or [x] pos) a := pw_or1 ha
theorem jw_and {x y : Expr} {rest : List Expr} {a b : W Bool} {pos : Pos} (ha : JT T X E x a) (hb : JW T X E (.BoolOp .And (y :: rest) pos) b) : JW T X E (.BoolOp .And (x :: y :: rest) pos) (tAndP a b) :=
  pwI (pw_and ha hb) fun σ H Q ⟨c, wd, env, P, Ex, rl, h, xo, k⟩ => ⟨c, wd, env, _, Ex, rl, h, xo, fun x1 env1 h1 v wd1 H1 le1 r1 rp1 => by
    obtain rfl : v = x1 := rp1
    cases v with
    | true => exact ⟨c, wd1, env1, P, Ex, r1, br_t h1, xo, fun a1 env2 p b1 wd2 H2 le2 => k a1 env2 p b1 wd2 H2 (le1.trans le2)⟩
    | false => exact k _ env1 (br_f h1) _ wd1 H1 le1 r1 rfl⟩
theorem jw_or {x y : Expr} {rest : List Expr} {a b : W Bool} {pos : Pos} (ha : JT T X E x a) (hb : JW T X E (.BoolOp .Or (y :: rest) pos) b) : JW T X E (.BoolOp .Or (x :: y :: rest) pos) (tOrP a b) :=
  pwI (pw_or ha hb) fun σ H Q ⟨c, wd, env, P, Ex, rl, h, xo, k⟩ => ⟨c, wd, env, _, Ex, rl, h, xo, fun x1 env1 h1 v wd1 H1 le1 r1 rp1 => by
    obtain rfl : v = x1 := rp1
    cases v with
    | true => exact k _ env1 (br_t h1) _ wd1 H1 le1 r1 rfl
    | false => exact ⟨c, wd1, env1, P, Ex, r1, br_f h1, xo, fun a1 env2 p b1 wd2 H2 le2 => k a1 env2 p b1 wd2 H2 (le1.trans le2)⟩⟩
theorem jt_bool {x : Expr} {a : W Bool} (h : JW T X E x a) : JT T X E x a := h.pt
/-- a comparison as a test -/
theorem jt_cmp {op : CmpOp} {g : D → D → Option D} {x y : Expr} {a b : W D} {pos : Pos} (ho : OpD X (compareOp op) g) (ha : JE T X E x a) (hb : JE T X E y b) (hm : behindInMarks op y = false) : JT T X E (.Compare x [op] [y] pos) (wTest (wBin g a b)) := by
  obtain ⟨r, hr, hq⟩ := ho.ex
  refine ptI (pt_cmpR hr ha hb hm) fun σ H Q ⟨c, wd, env, P, Ex, rl, h, xo, k⟩ => lift_bin hq ⟨c, wd, env, _, Ex, rl, h, xo, fun x1 env1 h1 v wd1 H1 le1 r1 rp1 => ?_⟩
  dsimp only at h1
  split at h1
  · cases rp1
    exact ⟨_, rfl, k _ env1 h1 _ wd1 H1 le1 r1 rfl⟩
  · exact h1.elim
theorem jt_chain {op op' : CmpOp} {g g' : D → D → Option D} {x y z : Expr} {a b m : W D} {pos : Pos} (ho : OpD X (compareOp op) g) (ho' : OpD X (compareOp op') g') (ha : JE T X E x a) (hb : JE T X E y b) (hm : JE T X E z m)
    (hl : lastMarks [op, op'] [y, z] = false := by with_unfolding_all rfl) : JT T X E (.Compare x [op, op'] [y, z] pos) (wTest (wChain g g' a b m)) := by
  obtain ⟨r, hr, hq⟩ := ho.ex
  obtain ⟨r', hr', hq'⟩ := ho'.ex
  refine ptI (pt_chain hr hr' ha hb hm hl) fun σ H Q ⟨c, wd, env, P, Ex, rl, h, xo, k⟩ => ?_
  refine ⟨c, wd, env, _, Ex, rl, h, xo, fun x1 env1 h1 v wd1 H1 le1 r1 rp1 => ⟨c, wd1, env1, _, Ex, r1, h1, xo, fun y1 env2 h2 u wd2 H2 le2 r2 rp2 => ?_⟩⟩
  obtain ⟨z1, e, h3⟩ := opt_inv h2
  refine hq x1 y1 z1 e T wd2 H2 v u _ r2.good (rp1.mono le2) rp2 fun w wd3 H3 g3 rp3 => ?_
  have le3 := g3.le r2.good
  have r3 := r2.grow g3
  split at h3
  · rename_i t
    cases rp3
    cases t
    · have h3 := br_f h3
      exact ⟨false, rfl, false, rfl, k _ env2 h3 _ wd3 H3 ((le1.trans le2).trans le3) r3 rfl⟩
    have h3 := br_t h3
    refine ⟨true, rfl, ?_⟩
    show lift X.K T (rE X.K) E m σ H3 _
    refine ⟨c, wd3, env2, _, Ex, r3, h3, xo, fun w1 env4 h4 u4 wd4 H4 le4 r4 rp4 => ?_⟩
    obtain ⟨z2, e2, h5⟩ := opt_inv h4
    refine hq' y1 w1 z2 e2 T wd4 H4 u u4 _ r4.good ((rp2.mono le3).mono le4) rp4 fun w5 wd5 H5 g5 rp5 => ?_
    split at h5
    · cases rp5
      exact ⟨_, rfl, k _ env4 h5 _ wd5 H5 ((((le1.trans le2).trans le3).trans le4).trans (g5.le r4.good)) (r4.grow g5) rfl⟩
    · exact h5.elim
  · exact h3.elim
/-! ### a if t else b -/
def wIf {α : Type} (t : W Bool) (a b : W α) : W α := t.bind fun x env Q ex => br x (a env Q ex) (b env Q ex)
theorem je_if {t x y : Expr} {w : W Bool} {a b : W D} {pos : Pos} (ht : JT T X E t w) (ha : JE T X E x a) (hb : JE T X E y b) : JE T X E (.IfExp t x y pos) (wIf w a b) :=
  peI (pe_ifExp ht ha hb) fun σ H Q ⟨c, wd, env, P, Ex, rl, h, xo, k⟩ => ⟨c, wd, env, _, Ex, rl, h, xo, fun x1 env1 h1 v wd1 H1 le1 r1 rp1 => by
    obtain rfl : v = x1 := rp1
    cases v with
    | true => exact ⟨c, wd1, env1, P, Ex, r1, br_t h1, xo, fun a1 env2 p b1 wd2 H2 le2 => k a1 env2 p b1 wd2 H2 (le1.trans le2)⟩
    | false => exact ⟨c, wd1, env1, P, Ex, r1, br_f h1, xo, fun a1 env2 p b1 wd2 H2 le2 => k a1 env2 p b1 wd2 H2 (le1.trans le2)⟩⟩
/-! ### -a -/
def wNeg (a : W D) : W D := a.bind fun x env Q ex => match x with
  | .int i => Q (.int (-i)) env
  | _ => False
theorem je_neg {x : Expr} {a : W D} {pos : Pos} (ha : JE T X E x a) : JE T X E (.UnaryOp .USub x pos) (wNeg a) :=
  peI (pe_un un_neg ha) fun σ H Q ⟨c, wd, env, P, Ex, rl, h, xo, k⟩ => ⟨c, wd, env, _, Ex, rl, h, xo, fun x1 env1 h1 v wd1 H1 le1 r1 rp1 => by
    dsimp only at h1
    split at h1
    · cases rp1
      exact ⟨_, rfl, k _ env1 h1 _ wd1 H1 le1 r1 (.int _)⟩
    · exact h1.elim⟩
/-! ### a[b] -/
def dIdx : D → D → Option D
  | .tup xs, .int i => atI xs i
  | .lst xs, .int i => atI xs i
  | .scr ns, .int i => (atI ns i).map D.int
  | _, _ => none
theorem atI_reps {K : PySem.W.Frag} {wd : Wd} {vs : List V} {ds : List D} {i : Int} {d : D} (r : Reps K wd vs ds) (h : atI ds i = some d) : ∃ v, atI vs i = some v ∧ Rep K wd v d := by
  unfold atI at h ⊢
  rw [r.length]
  cases e : ixN ds.length i with
  | none =>
    rw [e] at h
    cases h
  | some j =>
    rw [e] at h
    exact r.get h
theorem sub_sqL {K : PySem.W.Frag} {wd : Wd} {H : Hp} {p : Addr} {vs : List V} (g : Good T wd H) (h : wd.M p = some (.lst vs)) : SqL K H p vs := .inl (.inl (g.sub _ _ h))
theorem sub_sqS {K : PySem.W.Frag} {wd : Wd} {H : Hp} {p : Addr} {vs : List V} (g : Good T wd H) (h : SqL K wd.M p vs) : SqL K H p vs := sqL_mono K g.sub h
theorem sub_sqT {K : PySem.W.Frag} {wd : Wd} {H : Hp} {p : Addr} {vs : List V} (g : Good T wd H) (h : wd.M p = some (.tup vs)) : SqT K H p vs := .inl (.inl (g.sub _ _ h))
theorem je_ix {x y : Expr} {a b : W D} {pos : Pos} (ha : JE T X E x a) (hb : JE T X E y b) (hs : PlainIx y) : JE T X E (.Subscript x y pos) (wBin dIdx a b) := by
  refine peI (pe_ix (r := fun x y H Q => rIxL X.K x y H Q ∨ rIxT X.K x y H Q) (ix_list.or ix_tup) ha hb hs) fun σ H Q h => lift_bin (fun x y z e T wd H v u Q g rx ry d => ?_) h
  cases rx with
  | tup hs rs =>
    cases ry with
    | int i =>
      obtain ⟨w, e1, r1⟩ := atI_reps rs e
      exact .inr ⟨_, _, _, w, rfl, rfl, sub_sqT g hs, e1, d.now r1⟩
    | _ => cases e
  | lst hs rs =>
    cases ry with
    | int i =>
      obtain ⟨w, e1, r1⟩ := atI_reps rs e
      exact .inl ⟨_, _, _, w, rfl, rfl, sub_sqL g hs, e1, d.now r1⟩
    | _ => cases e
  | scr hs =>
    cases ry with
    | int i =>
      obtain ⟨n, e1, e2⟩ := Option.map_eq_some_iff.mp e
      subst e2
      refine .inl ⟨_, _, _, .int n, rfl, rfl, sub_sqS g hs, ?_, d.now (.int n)⟩
      unfold atI at e1 ⊢
      rw [List.length_map]
      obtain ⟨j, q, e3⟩ := Option.bind_eq_some_iff.mp e1
      rw [q]
      show (List.map V.int _)[j]? = some (V.int n)
      rw [List.getElem?_map, e3]
      rfl
    | _ => cases e
  | _ => cases e
/-- own[b] -/
def wIxOwn (i : Nat) (b : W D) : W D := fun env Q ex => match gt env i with
  | some (.own _) => (b.bind fun y env Q ex => match gt env i with
    | some (.own xs) => ∃ z, dIdx (.lst xs) y = some z ∧ Q z env
    | _ => False) env Q ex
  | _ => False
theorem je_ixOwn (i : Nat) {x : Str} {y : Expr} {b : W D} {pos p1 : Pos} (hb : JE T X E y b) (hs : PlainIx y) (hN : X.N[i]? = some x := by rfl) (hv : Vis X.env.scope x := by first | exact Or.inl rfl | exact Or.inr (Or.inl rfl) | exact Or.inr (Or.inr rfl)) (hd : (x == ("__debug__" : Str)) = false := by decide)
    (hcd : (x == ("__classdict__" : Str)) = false := by decide) : JE T X E (.Subscript (.Name x p1) y pos) (wIxOwn i b) := by
  refine peI (pe_ix ix_list (pe_var hN hv hd hcd) hb hs) fun σ H Q ⟨c, wd, env, P, Ex, rl, h, xo, k⟩ => ?_
  unfold wIxOwn at h
  split at h
  · rename_i xs0 e0
    obtain ⟨p0, vs0, z0, _⟩ := rl.own i xs0 (gt_eq _ _ e0)
    refine ⟨.ref p0, z0, c, wd, env, _, Ex, rl, h, xo, fun y1 env1 h1 u wd1 H1 le1 r1 rp1 => ?_⟩
    dsimp only at h1
    split at h1
    · rename_i xs e1
      obtain ⟨p, vs, z1, z2, z3, z4, z5, z6⟩ := r1.own i xs (gt_eq _ _ e1)
      rw [z0] at z1
      cases z1
      obtain ⟨z, e2, h2⟩ := h1
      cases rp1 <;> first | cases e2 | skip
      obtain ⟨w, e3, r3⟩ := atI_reps z6 e2
      exact ⟨_, vs, _, w, rfl, rfl, .inl (.inl z2), e3, k z env1 h2 w wd1 H1 le1 r1 r3⟩
    · exact h1.elim
  · exact h.elim
/-! ### a[lo:hi] -/
abbrev JO (T : List (Addr × Str)) (X : Cx) (E : XK) (e : Option Expr) (w : W (Option Int)) : Prop := PO X e (lift X.K T (fun _ _ _ _ _ b a => b = a) E w)
def wPart (a : W D) : W (Option Int) := a.bind fun x env Q ex => match x with
  | .int i => Q (some i) env
  | _ => False
theorem poI {e : Option Expr} {t t' : TO} (h : PO X e t) (i : ∀ σ H Q, t' σ H Q → t σ H Q) : PO X e t' := ⟨fun pins s σ H Q I q => h.run pins s σ H Q I (i σ H Q q)⟩
theorem jo_none : JO T X E none (W.ret none) := poI po_none fun σ H Q ⟨c, wd, env, P, Ex, r, h, _, k⟩ => k _ env h _ wd H (Le.refl _) r rfl
theorem jo_some {x : Expr} {a : W D} (ha : JE T X E x a) : JO T X E (some x) (wPart a) :=
  poI (po_some ha) fun σ H Q ⟨c, wd, env, P, Ex, rl, h, xo, k⟩ => ⟨c, wd, env, _, Ex, rl, h, xo, fun x1 env1 h1 v wd1 H1 le1 r1 rp1 => by
    dsimp only at h1
    split at h1
    · cases rp1
      exact ⟨_, rfl, k _ env1 h1 _ wd1 H1 le1 r1 rfl⟩
    · exact h1.elim⟩
def cutD {α : Type} (xs : List α) (lo hi : Option Int) : List α := (xs.drop (HT.sIx xs.length 0 lo)).take (HT.sIx xs.length xs.length hi - HT.sIx xs.length 0 lo)
theorem cut_reps {K : PySem.W.Frag} {wd : Wd} {vs : List V} {ds : List D} (r : Reps K wd vs ds) (lo hi : Option Int) : Reps K wd (cutV vs lo hi) (cutD ds lo hi) := by
  unfold cutV cutD
  rw [r.length]
  exact (r.drop _).take _
theorem cut_len (vs : List V) (lo hi : Option Int) : (cutV vs lo hi).length ≤ vs.length := by
  unfold cutV
  rw [List.length_take, List.length_drop]
  omega
theorem siz_sqL {K : PySem.W.Frag} {wd : Wd} {H : Hp} {p : Addr} {vs : List V} (g : Good T wd H) (h : SqL K wd.M p vs) : vs.length ≤ sizeLine := by
  rcases h with (h | ⟨o, h⟩) | ⟨o, its, n, _, _, _, _, z, rv⟩
  · exact (g.ntb _ _ h).2
  · exact (g.ntb _ _ h).2
  · rw [rv.length, Array.length_toList]
    exact z
theorem siz_sqT {wd : Wd} {H : Hp} {p : Addr} {vs : List V} (g : Good T wd H) (h : wd.M p = some (.tup vs)) : vs.length ≤ sizeLine := (g.ntb _ _ h).2
def wSl (a : W D) (l h : W (Option Int)) : W D := a.bind fun x => l.bind fun lo => h.bind fun hi env Q ex => match x with
  | .tup xs => Q (.tup (cutD xs lo hi)) env
  | .lst xs => Q (.lst (cutD xs lo hi)) env
  | _ => False
theorem je_slice {x : Expr} {lo hi : Option Expr} {a : W D} {l h : W (Option Int)} {p2 pos : Pos} (ha : JE T X E x a) (hl : JO T X E lo l) (hh : JO T X E hi h) : JE T X E (.Subscript x (.Slice lo hi none p2) pos) (wSl a l h) := by
  refine peI (pe_slice (r := fun x lo hi H Q => rSlL X.K x lo hi H Q ∨ rSlA X.K x lo hi H Q) (sl_list.or sl_tupA) ha hl hh) fun σ H Q ⟨c, wd, env, P, Ex, rl, h, xo, k⟩ => ?_
  refine ⟨c, wd, env, _, Ex, rl, h, xo, fun x1 env1 h1 v wd1 H1 le1 r1 rp1 => ⟨c, wd1, env1, _, Ex, r1, h1, xo, fun l1 env2 h2 lv wd2 H2 le2 r2 e2 => ?_⟩⟩
  obtain rfl : lv = l1 := e2
  refine ⟨c, wd2, env2, _, Ex, r2, h2, xo, fun l3 env3 h3 uv wd3 H3 le3 r3 e3 => ?_⟩
  obtain rfl : uv = l3 := e3
  have rp3 := Rep.mono le3 (Rep.mono le2 rp1)
  have le := (le1.trans le2).trans le3
  split at h3
  · cases rp3 with
    | tup hs rs =>
      have hq := sub_sqT (K := X.K) r3.good hs
      refine .inr ⟨_, _, rfl, hq, ?_⟩
      have key : ∀ w wd' H', Grow wd3 H3 wd' H' → Rep X.K wd' w (.tup (cutD _ lv uv)) → Q w H' := fun w wd' H' g rp => k _ env3 h3 w wd' H' (le.trans (g.le r3.good)) (r3.grow g) rp
      have dd : Del X.K wd3 H3 (.tup (cutD _ lv uv)) Q := key
      have rc := cut_reps rs lv uv
      have hz : (cutV _ lv uv).length ≤ sizeLine := Nat.le_trans (cut_len _ lv uv) (siz_sqT r3.good hs)
      refine ⟨fun z => dd.now (.tup hs ?_), fun z p hp => dd.tup r3.good hp rc hz⟩
      have e : cutV _ lv uv = _ := (show cutV _ lv uv = (List.take _ (List.drop _ _)) from rfl).trans (by rw [z.1, z.2, List.drop_zero, Nat.sub_zero, List.take_length])
      rw [e] at rc
      exact rc
  · cases rp3 with
    | lst hs rs =>
      have hq := sub_sqL (K := X.K) r3.good hs
      refine .inl ⟨_, _, rfl, hq, fun p hp => ?_⟩
      have dd : Del X.K wd3 H3 (.lst (cutD _ lv uv)) Q := fun w wd' H' g rp => k _ env3 h3 w wd' H' (le.trans (g.le r3.good)) (r3.grow g) rp
      exact dd.lst r3.good hp (cut_reps rs lv uv) (Nat.le_trans (cut_len _ lv uv) ((r3.good.ntb _ _ hs).2))
  · exact h3.elim
end
end Pd

namespace Pd
open PySem PySem.Spec PyProof.Rows L2 LamX

/-! ### statements -/
structure PEnds where
  nx : PEnv → Prop
  rt : D → Prop
  bk : PEnv → Prop := fun _ => False
  ct : PEnv → Prop := fun _ => False
  ex : Xc → Prop := fun _ => False
abbrev WS := PEnds → PEnv → Prop
section
variable (K : PySem.W.Frag) (T : List (Addr × Str))
structure EndsOk (c : Ctx) (wd : Wd) (E : XK) (pe : PEnds) (D : Ends) : Prop where
  ex : XOk K T c E pe.ex
  nx : ∀ env', pe.nx env' → ∀ (σ' : L2.St) (wd' : Wd) (H' : Hp), Le wd wd' → Rel K T c wd' env' σ' H' → D.nx σ' H'
  rt : ∀ d, pe.rt d → ∀ (v : V) (wd' : Wd) (H' : Hp), Ord c.wd wd' c.H → Good T wd' H' → Keep c.wd c.H H' → Rep K wd' v d → D.rt v H'
  bk : ∀ env', pe.bk env' → ∀ (σ' : L2.St) (wd' : Wd) (H' : Hp), Le wd wd' → Rel K T c wd' env' σ' H' → D.bk σ' H'
  ct : ∀ env', pe.ct env' → ∀ (σ' : L2.St) (wd' : Wd) (H' : Hp), Le wd wd' → Rel K T c wd' env' σ' H' → D.ct σ' H'
def liftS (E : XK) (w : WS) : TS := fun D σ H => ∃ (c : Ctx) (wd : Wd) (env : PEnv) (pe : PEnds), Rel K T c wd env σ H ∧ w pe env ∧ EndsOk K T c wd E pe D
end
theorem EndsOk.mono {K : PySem.W.Frag} {T : List (Addr × Str)} {c : Ctx} {wd wd1 : Wd} {E : XK} {pe : PEnds} {D : Ends} (o : EndsOk K T c wd E pe D) (le : Le wd wd1) : EndsOk K T c wd1 E pe D :=
  ⟨o.ex, fun e h σ w H l => o.nx e h σ w H (le.trans l), o.rt, fun e h σ w H l => o.bk e h σ w H (le.trans l), fun e h σ w H l => o.ct e h σ w H (le.trans l)⟩
abbrev JS (T : List (Addr × Str)) (X : Cx) (E : XK) (st : Stmt) (w : WS) : Prop := PS X st (liftS X.K T E w)
abbrev JSs (T : List (Addr × Str)) (X : Cx) (E : XK) (sts : List Stmt) (w : WS) : Prop := PSs X sts (liftS X.K T E w)
/-- what a body leans on -/
structure Bd (X : Cx) (E : XK) (k : Nat) : Prop where
  room : Room k X.A
  pass : Passes (L2.CX X.prog X.w) X E
  own : PassesOwn (model X.prog X.w) X.A X.env X.xe
  calm : X.calm = true
  nd : X.N.Nodup
section
variable {X : Cx} {T : List (Addr × Str)} {E : XK} {k : Nat}
theorem psI {st : Stmt} {t t' : TS} (h : PS X st t) (i : ∀ D σ H, t' D σ H → t D σ H) : PS X st t' := ⟨fun pins s σ H D I q => h.run pins s σ H D I (i D σ H q)⟩
theorem pssI {st : List Stmt} {t t' : TS} (h : PSs X st t) (i : ∀ D σ H, t' D σ H → t D σ H) : PSs X st t' := ⟨fun pins s σ H D I q => h.run pins s σ H D I (i D σ H q)⟩
def sSeq (a b : WS) : WS := fun pe env => a { pe with nx := b pe } env
def sNil : WS := fun pe env => pe.nx env
theorem jss_nil : JSs T X E [] sNil := pssI pss_nil fun D σ H ⟨c, wd, env, pe, r, h, o⟩ => o.nx env h σ wd H (Le.refl _) r
theorem jss_cons {st : Stmt} {sts : List Stmt} {a b : WS} (ha : JS T X E st a) (hb : JSs T X E sts b) : JSs T X E (st :: sts) (sSeq a b) :=
  pssI (pss_cons ha hb) fun D σ H ⟨c, wd, env, pe, r, h, o⟩ => ⟨c, wd, env, _, r, h, ⟨o.ex, fun env' hb σ' wd' H' le r' => ⟨c, wd', env', pe, r', hb, o.mono le⟩, o.rt, o.bk, o.ct⟩⟩
theorem jss_one {st : Stmt} {a : WS} (ha : JS T X E st a) : JSs T X E [st] a := pss_one ha
def sSet (i : Nat) (e : W D) : WS := fun pe env => e env (fun d env' => pe.nx (env'.set i (some (.d d)))) pe.ex
theorem js_set (i : Nat) {x : Str} {e : Expr} {w : W D} {pos pos' : Pos} (B : Bd X E k) (he : JE T X E e w) (hi : X.N[i]? = some x := by rfl) (hx : Loc X.env.scope x := by first | exact Or.inl rfl | exact Or.inr rfl) (hs : swapsWith e (some (.Name x pos')) pos.line X.env = pure false := by rfl)
    (hf : X.fn x = true ∨ X.env.scope.names.lookup x = some .local := by first | exact .inl rfl | exact .inr rfl) : JS T X E (.Assign [.Name x pos'] e pos) (sSet i w) :=
  psI (ps_set B.nd hi hx he hs hf) fun D σ H ⟨c, wd, env, pe, r, h, o⟩ => ⟨c, wd, env, _, _, r, h, o.ex, fun d env' h' v wd' H' le r' rp => o.nx _ h' _ wd' H' le (r'.set rp)⟩
def sSetOwn (i : Nat) (e : W (List D)) : WS := fun pe env => e env (fun xs env' => pe.nx (env'.set i (some (.own xs)))) pe.ex
theorem Rel.ownF {K : PySem.W.Frag} {c : Ctx} {wd : Wd} {env : PEnv} {σ : L2.St} {H : Hp} (r : Rel K T c wd env σ H) {i : Nat} {v : V} {xs : List D} (f : rF K c wd env σ H v xs) : Rel K T c wd (env.set i (some (.own xs))) (σ.set i (some v)) H := by
  obtain ⟨p, vs, rfl, h1, h2, h3, h4, h5, h6, h7⟩ := f
  refine ⟨r.ord, r.good, r.keep, by simp [r.len], fun j y e => ?_, fun j ys e => ?_, fun j l as bs q e1 e2 e3 e4 => ?_, fun q hq => ?_, r.ext.sl (fun j s e n1 n2 => ?_) fun j ys e => ?_⟩
  · rcases get_set e with ⟨rfl, e, hl⟩ | ⟨ne, e⟩
    · cases e
    · obtain ⟨w, z1, z2⟩ := r.dat j y e
      exact ⟨w, by rw [List.getElem?_set_ne ne]; exact z1, z2⟩
  · rcases get_set e with ⟨rfl, e, hl⟩ | ⟨ne, e⟩
    · cases e
      rw [r.len] at hl
      exact ⟨p, vs, List.getElem?_set_self hl, h1, h2, h3, h4, h5⟩
    · obtain ⟨q, us, z1, z2⟩ := r.own j ys e
      exact ⟨q, us, by rw [List.getElem?_set_ne ne]; exact z1, z2⟩
  · rcases get_set e1 with ⟨rfl, e, hl⟩ | ⟨ne1, e1⟩
    · rcases get_set e2 with ⟨rfl, e, hl⟩ | ⟨ne2, e2⟩
      · rfl
      · rw [r.len] at hl
        rw [List.getElem?_set_self hl] at e3
        cases e3
        rw [List.getElem?_set_ne ne2] at e4
        exact absurd e4 (h6.o _ _ e2)
    · rcases get_set e2 with ⟨rfl, e, hl⟩ | ⟨ne2, e2⟩
      · rw [r.len] at hl
        rw [List.getElem?_set_self hl] at e4
        cases e4
        rw [List.getElem?_set_ne ne1] at e3
        exact absurd e3 (h6.o _ _ e1)
      · rw [List.getElem?_set_ne ne1] at e3
        rw [List.getElem?_set_ne ne2] at e4
        exact r.sep j l as bs q e1 e2 e3 e4
  · obtain ⟨z1, z2, z3, z4⟩ := r.pin q hq
    refine ⟨z1, z2, z3, fun j ys e => ?_, z4.c.set_d fun _ z => nomatch z⟩
    rcases get_set e with ⟨rfl, e, hl⟩ | ⟨ne, e⟩
    · rw [r.len] at hl
      rw [List.getElem?_set_self hl]
      intro z
      exact h7 q hq (by cases z; rfl)
    · rw [List.getElem?_set_ne ne]
      exact z4.o j ys e
  · rcases get_set e with ⟨rfl, e, hl⟩ | ⟨ne, e⟩
    · cases e
      exact absurd rfl (n2 _)
    · exact ⟨e, List.getElem?_set_ne ne⟩
  · rcases get_set e with ⟨rfl, e, hl⟩ | ⟨ne, e⟩
    · rw [r.len] at hl
      exact .inr ⟨p, List.getElem?_set_self hl, h6.c⟩
    · exact .inl ⟨ys, e, List.getElem?_set_ne ne⟩
theorem js_setOwn (i : Nat) {x : Str} {e : Expr} {w : W (List D)} {pos pos' : Pos} (B : Bd X E k) (he : JF T X E e w) (hi : X.N[i]? = some x := by rfl) (hx : Loc X.env.scope x := by first | exact Or.inl rfl | exact Or.inr rfl) (hs : swapsWith e (some (.Name x pos')) pos.line X.env = pure false := by rfl)
    (hf : X.fn x = true ∨ X.env.scope.names.lookup x = some .local := by first | exact .inl rfl | exact .inr rfl) : JS T X E (.Assign [.Name x pos'] e pos) (sSetOwn i w) :=
  psI (ps_set B.nd hi hx he hs hf) fun D σ H ⟨c, wd, env, pe, r, h, o⟩ => ⟨c, wd, env, _, _, r, h, o.ex, fun xs env' h' v wd' H' le r' f => o.nx _ h' _ wd' H' le (r'.ownF f)⟩
def sRet (e : W D) : WS := fun pe env => e env (fun d _ => pe.rt d) pe.ex
theorem js_ret {e : Expr} {w : W D} {pos : Pos} (he : JE T X E e w) : JS T X E (.Return (some e) pos) (sRet w) :=
  psI (ps_ret he) fun D σ H ⟨c, wd, env, pe, r, h, o⟩ => ⟨c, wd, env, _, _, r, h, o.ex, fun d env' h' v wd' H' le r' rp => o.rt d h' v wd' H' r'.ord r'.good r'.keep rp⟩
def sRetN : WS := fun pe _ => pe.rt .non
theorem js_retN {pos : Pos} : JS T X E (.Return none pos) sRetN :=
  psI ps_retN fun D σ H ⟨c, wd, env, pe, r, h, o⟩ => o.rt .non h .non wd H r.ord r.good r.keep .non
def sDrop (e : W D) : WS := fun pe env => e env (fun _ env' => pe.nx env') pe.ex
theorem js_expr {e : Expr} {w : W D} {pos : Pos} (he : JE T X E e w) (hs : swapsWith e none pos.line X.env = pure false := by rfl) : JS T X E (.Expr e pos) (sDrop w) :=
  psI (ps_expr he hs) fun D σ H ⟨c, wd, env, pe, r, h, o⟩ => ⟨c, wd, env, _, _, r, h, o.ex, fun d env' h' v wd' H' le r' rp => o.nx _ h' _ wd' H' le r'⟩
theorem js_pass {pos : Pos} : JS T X E (.Pass pos) sNil := psI ps_pass fun D σ H ⟨c, wd, env, pe, r, h, o⟩ => o.nx env h σ wd H (Le.refl _) r
def sBrk : WS := fun pe env => pe.bk env
def sCnt : WS := fun pe env => pe.ct env
theorem js_brk {pos : Pos} : JS T X E (.Break pos) sBrk := psI ps_break fun D σ H ⟨c, wd, env, pe, r, h, o⟩ => o.bk env h σ wd H (Le.refl _) r
theorem js_cnt {pos : Pos} : JS T X E (.Continue pos) sCnt := psI ps_continue fun D σ H ⟨c, wd, env, pe, r, h, o⟩ => o.ct env h σ wd H (Le.refl _) r
def sIf (t : W Bool) (a b : WS) : WS := fun pe env => t env (fun x env' => br x (a pe env') (b pe env')) pe.ex
theorem js_if {t : Expr} {x y : List Stmt} {w : W Bool} {a b : WS} {pos : Pos} (ht : JT T X E t w) (ha : JSs T X E x a) (hb : JSs T X E y b) : JS T X E (.If t x y pos) (sIf w a b) :=
  psI (ps_if ht ha hb) fun D σ H ⟨c, wd, env, pe, r, h, o⟩ => ⟨c, wd, env, _, _, r, h, o.ex, fun d env' h' v wd' H' le r' rp => by
    obtain rfl : v = d := rp
    cases v with
    | true => exact ⟨c, wd', env', pe, r', br_t h', o.mono le⟩
    | false => exact ⟨c, wd', env', pe, r', br_f h', o.mono le⟩⟩
/-! ### a op= b on a name -/
def sAug (i : Nat) (g : D → D → Option D) (e : W D) : WS := fun pe env => match gt env i with
  | some (.d x) => e env (fun y env' => match g x y with
    | some z => pe.nx (env'.set i (some (.d z)))
    | none => False) pe.ex
  | _ => False
def OpDI (X : Cx) (op : Operator) (g : D → D → Option D) : Prop := ∃ r : TIp, PIp X op r ∧ ∀ (x y z : D), g x y = some z → ∀ (T : List (Addr × Str)) (wd : Wd) (H : Hp) (v u : V) (Q : VK), Good T wd H → Rep X.K wd v x → Rep X.K wd u y → Del X.K wd H z Q → r v u H Q
theorem js_aug (i : Nat) {x : Str} {e : Expr} {w : W D} {op : Operator} {g : D → D → Option D} {pos pos' : Pos} (B : Bd X E k) (ho : OpDI X op g) (he : JE T X E e w) (hi : X.N[i]? = some x := by rfl) (hx : Loc X.env.scope x := by first | exact Or.inl rfl | exact Or.inr rfl)
    (hf : X.fn x = true ∨ X.env.scope.names.lookup x = some .local := by first | exact .inl rfl | exact .inr rfl) : JS T X E (.AugAssign (.Name x pos') op e pos) (sAug i g w) := by
  obtain ⟨ti, h1, h2⟩ := ho
  refine psI (ps_aug B.nd hi hx he h1 hf) fun D σ H ⟨c, wd, env, pe, r, h, o⟩ => ?_
  unfold sAug at h
  split at h
  · rename_i x0 e0
    obtain ⟨v, z1, z2⟩ := r.dat i x0 (gt_eq _ _ e0)
    refine ⟨v, z1, c, wd, env, _, _, r, h, o.ex, fun y env' h' u wd' H' le r' rp => ?_⟩
    split at h'
    · rename_i z e2
      exact h2 x0 y z e2 T wd' H' v u _ r'.good (z2.mono le) rp fun w wd3 H3 g3 rp3 => o.nx _ h' _ wd3 H3 (le.trans (g3.le r'.good)) ((r'.grow g3).set rp3)
    · exact h'.elim
  · exact h.elim
/-! ### while -/
def sWhile (t : W Bool) (b : WS) : WS := fun pe env => ∃ I : Nat → PEnv → Prop, (∃ m, I m env) ∧ ∀ m env, I m env → t env (fun x env1 => br x (b { pe with nx := fun env2 => ∃ m', m' < m ∧ I m' env2, ct := fun env2 => ∃ m', m' < m ∧ I m' env2, bk := pe.nx } env1) (pe.nx env1)) pe.ex
theorem js_while {t : Expr} {body : List Stmt} {w : W Bool} {b : WS} {pos : Pos} (B : Bd X E k) (ht : JT T X E t w) (hb : JSs T X E body b) : JS T X E (.While t body [] pos) (sWhile w b) :=
  psI (ps_while B.own ht hb) fun D σ H ⟨c, wd, env, pe, r, h, o⟩ => by
    obtain ⟨I, ⟨m0, i0⟩, hs⟩ := h
    refine ⟨fun m σ' H' => ∃ wd' env', Le wd wd' ∧ Rel X.K T c wd' env' σ' H' ∧ I m env', ⟨m0, wd, env, Le.refl _, r, i0⟩, fun m σ' H' ⟨wd', env', le, r', im⟩ => ?_⟩
    refine ⟨c, wd', env', _, _, r', hs m env' im, o.ex, fun x env1 h1 v wd1 H1 le1 r1 rp1 => ?_⟩
    obtain rfl : v = x := rp1
    cases v with
    | true =>
      refine ⟨fun σ2 H2 => ∃ m', m' < m ∧ ∃ wd2 env2, Le wd wd2 ∧ Rel X.K T c wd2 env2 σ2 H2 ∧ I m' env2, fun σ2 H2 q => q, ?_⟩
      refine ⟨c, wd1, env1, _, r1, br_t h1, ⟨o.ex, fun env2 ⟨m', lt, i2⟩ σ2 wd2 H2 le2 r2 => ⟨m', lt, wd2, env2, (le.trans le1).trans le2, r2, i2⟩, o.rt, fun env2 q σ2 wd2 H2 le2 r2 => o.nx env2 q σ2 wd2 H2 ((le.trans le1).trans le2) r2, fun env2 ⟨m', lt, i2⟩ σ2 wd2 H2 le2 r2 => ⟨m', lt, wd2, env2, (le.trans le1).trans le2, r2, i2⟩⟩⟩
    | false => exact o.nx env1 (br_f h1) σ' wd1 H1 (le.trans le1) r1
/-! ### targets -/
abbrev WG := D → PEnv → (PEnv → Prop) → Prop
def liftG (K : PySem.W.Frag) (T : List (Addr × Str)) (vs : List Nat) (w : WG) : TG := fun v σ H Q => ∃ (c : Ctx) (wd : Wd) (env : PEnv) (d : D) (P : PEnv → Prop), Rel K T c wd env σ H ∧ Rep K wd v d ∧ w d env P ∧ ∀ env', P env' → ∀ σ', Rel K T c wd env' σ' H → wipe σ' vs = wipe σ vs → Q σ' H
abbrev JG (T : List (Addr × Str)) (X : Cx) (vs : List Nat) (tg : Expr) (w : WG) : Prop := PG X tg (liftG X.K T vs w)
theorem pgI {tg : Expr} {t t' : TG} (h : PG X tg t) (i : ∀ v σ H Q, t' v σ H Q → t v σ H Q) : PG X tg t' := ⟨fun pins s σ H v u Q I r q => h.run pins s σ H v u Q I r (i v σ H Q q)⟩
theorem wipe_set {σ : L2.St} {i : Nat} {x : Option V} : ∀ {vs : List Nat}, i ∈ vs → wipe (σ.set i x) vs = wipe σ vs
  | [], h => by cases h
  | v :: vs, h => by
    show (wipe (σ.set i x) vs).set v none = (wipe σ vs).set v none
    by_cases hv : i ∈ vs
    · rw [wipe_set hv]
    · have e : v = i := by
        rcases List.mem_cons.mp h with z | z
        · exact z.symm
        · exact absurd z hv
      subst e
      have key : ∀ {us : List Nat}, v ∉ us → wipe (σ.set v x) us = (wipe σ us).set v x := fun {us} => by
        induction us with
        | nil => intro _; rfl
        | cons u us ih =>
          intro hn
          have h1 : v ≠ u := fun z => hn (by rw [z]; exact List.mem_cons_self)
          have h2 := ih fun z => hn (List.mem_cons_of_mem _ z)
          show (wipe (σ.set v x) us).set u none = ((wipe σ us).set u none).set v x
          rw [h2, List.set_comm _ _ h1]
      rw [key hv, List.set_set]
def gNm (i : Nat) : WG := fun d env Q => Q (env.set i (some (.d d)))
theorem jg_name (i : Nat) {x : Str} {pos : Pos} {vs : List Nat} (nd : X.N.Nodup) (hv : i ∈ vs := by decide) (hi : X.N[i]? = some x := by rfl) (hx : Loc X.env.scope x := by first | exact Or.inl rfl | exact Or.inr rfl) (hf : X.fn x = true ∨ X.env.scope.names.lookup x = some .local := by first | exact .inl rfl | exact .inr rfl) : JG T X vs (.Name x pos) (gNm i) :=
  pgI (pg_name nd hi hx hf) fun v σ H Q ⟨c, wd, env, d, P, r, rp, h, k⟩ => k _ h _ (r.set rp) (wipe_set hv)
abbrev WGs := List D → PEnv → (PEnv → Prop) → Prop
def liftGs (K : PySem.W.Frag) (T : List (Addr × Str)) (us : List Nat) (w : WGs) : TGs := fun vs σ H Q => ∃ (c : Ctx) (wd : Wd) (env : PEnv) (ds : List D) (P : PEnv → Prop), Rel K T c wd env σ H ∧ Reps K wd vs ds ∧ w ds env P ∧ ∀ env', P env' → ∀ σ', Rel K T c wd env' σ' H → wipe σ' us = wipe σ us → Q σ' H
abbrev JGs (T : List (Addr × Str)) (X : Cx) (us : List Nat) (ts : List Expr) (w : WGs) : Prop := PGs X ts (liftGs X.K T us w)
theorem pgsI {ts : List Expr} {t t' : TGs} (h : PGs X ts t) (i : ∀ v σ H Q, t' v σ H Q → t v σ H Q) : PGs X ts t' := ⟨fun pins s σ H v u Q I r q => h.run pins s σ H v u Q I r (i v σ H Q q)⟩
def gsNil : WGs := fun ds env Q => match ds with
  | [] => Q env
  | _ => False
def gsCons (g : WG) (r : WGs) : WGs := fun ds env Q => match ds with
  | d :: ds => g d env fun env' => r ds env' Q
  | _ => False
theorem jgs_nil {us : List Nat} : JGs T X us [] gsNil := pgsI pgs_nil fun vs σ H Q ⟨c, wd, env, ds, P, r, rp, h, k⟩ => by
  cases rp with
  | nil => exact ⟨rfl, k _ h _ r rfl⟩
  | cons _ _ => exact h.elim
theorem jgs_cons {e : Expr} {es : List Expr} {g : WG} {w : WGs} {us : List Nat} (h1 : JG T X us e g) (h2 : JGs T X us es w) (hs : (assignEach (e :: es) X.env).map (·.2) = assign e X.env :: (assignEach es X.env).map (·.2) := by rfl) : JGs T X us (e :: es) (gsCons g w) :=
  pgsI (pgs_cons h1 h2 hs) fun vs σ H Q ⟨c, wd, env, ds, P, r, rp, h, k⟩ => by
    cases rp with
    | nil => exact h.elim
    | cons a b => exact ⟨_, _, rfl, c, wd, env, _, _, r, a, h, fun env' h' σ' r' e' => ⟨c, wd, env', _, P, r', b, h', fun env2 h2 σ2 r2 e2 => k env2 h2 σ2 r2 (e2.trans e')⟩⟩
def gTupP (w : WGs) (n : Nat) : WG := fun d env Q => match d with
  | .tup xs => xs.length = n ∧ w xs env Q
  | _ => False
theorem jg_tup {es : List Expr} {kk : Nat} {w : WGs} {n : Nat} {pos : Pos} {us : List Nat} (hc : X.calm = true) (h : JGs T X us es w) (hn : (assignEach es X.env).length = n := by rfl) (hst : (assignEach es X.env).findIdx? (·.1) = none := by rfl) : JG T X us (.Tuple es kk pos) (gTupP w n) :=
  pgI (pg_tup hc h hn hst) fun v σ H Q ⟨c, wd, env, d, P, r, rp, h, k⟩ => by
    unfold gTupP at h
    split at h
    · cases rp with
      | tup hs rs => exact ⟨_, _, rfl, sub_sqT r.good hs, by rw [rs.length]; exact h.1, c, wd, env, _, P, r, rs, h.2, k⟩
    · exact h.elim
/-- target = e, any target -/
def sAsg (e : W D) (g : WG) : WS := fun pe env => e env (fun d env' => g d env' pe.nx) pe.ex
theorem js_asg {tg e : Expr} {w : W D} {g : WG} {pos : Pos} {us : List Nat} (he : JE T X E e w) (hg : JG T X us tg g) (hs : swapsWithSole [tg] e pos.line X.env = pure false := by rfl) (hw : swappedStores [tg] e X.env = pure none := by rfl)
    (h1 : (assignEach [tg] X.env).map (·.2) = [assign tg X.env] := by rfl) : JS T X E (.Assign [tg] e pos) (sAsg w g) :=
  psI (ps_asg he hg hs hw h1) fun D σ H ⟨c, wd, env, pe, r, h, o⟩ => ⟨c, wd, env, _, _, r, h, o.ex, fun d env' h' v wd' H' le r' rp => ⟨c, wd', env', d, _, r', rp, h', fun env2 h2 σ' r2 _ => o.nx env2 h2 σ' wd' H' le r2⟩⟩
/-- a, b = x, y -/
def sPar (i j : Nat) (a b : W D) : WS := fun pe env => a env (fun x env1 => b env1 (fun y env2 => pe.nx ((env2.set i (some (.d x))).set j (some (.d y)))) pe.ex) pe.ex
theorem js_par (i j : Nat) {x y : Str} {a b : Expr} {wa wb : W D} {px py pt pos : Pos} {kt k2 pt2} (B : Bd X E k) (ha : JE T X E a wa) (hb : JE T X E b wb)
    (hi : X.N[i]? = some x := by rfl) (hj : X.N[j]? = some y := by rfl) (hij : i ≠ j := by decide) (hx : X.env.scope.names.lookup x = some .local := by rfl) (hy : X.env.scope.names.lookup y = some .local := by rfl)
    (hw : swappedStores [.Tuple [.Name x px, .Name y py] kt pt] (.Tuple [a, b] k2 pt2) X.env = pure (some [x, y]) := by rfl)
    (hs : swapsWithSole [.Tuple [.Name x px, .Name y py] kt pt] (.Tuple [a, b] k2 pt2) pos.line X.env = pure false := by rfl)
    (s1 : starEach [a, b] X.env = (false, eval a X.env) :: starEach [b] X.env := by rfl) (s2 : starEach [b] X.env = (false, eval b X.env) :: starEach [] X.env := by rfl) :
    JS T X E (.Assign [.Tuple [.Name x px, .Name y py] kt pt] (.Tuple [a, b] k2 pt2) pos) (sPar i j wa wb) :=
  psI (ps_par B.calm B.nd hi hj hij hx hy (pa_cons ha (pa_cons hb pa_nil s2) s1) hw hs) fun D σ H ⟨c, wd, env, pe, r, h, o⟩ =>
    ⟨c, wd, env, _, _, r, h, o.ex, fun d env1 h1 v wd1 H1 le1 r1 rp1 => ⟨c, wd1, env1, _, _, r1, h1, o.ex, fun d2 env2 h2 u wd2 H2 le2 r2 rp2 => ⟨v, u, rfl, o.nx _ h2 _ wd2 H2 (le1.trans le2) ((r2.set (Rep.mono le2 rp1)).set rp2)⟩⟩⟩
end
end Pd

namespace Pd
open PySem PySem.Spec PyProof.Rows L2 LamX

/-! ### tuples that the heap knows -/
section
variable {K : PySem.W.Frag} {T : List (Addr × Str)} {c : Ctx} {wd : Wd} {env : PEnv} {σ : L2.St} {H : Hp}
theorem Ext.addT (x : Ext K c wd env σ H) {p : Addr} {vs : List V} (hm : wd.M p = none) (h : H p = some (.tup vs)) : Ext K c (wd.add p (.tup vs)) env σ H := by
  have le : Le wd (wd.add p (.tup vs)) := Le.add hm
  refine ⟨fun i p0 C fs e => ?_, x.ob1, fun i cs e q hq => ?_, x.cnd, x.ce1, fun i lk kvs e => ?_, x.dc1⟩
  · obtain ⟨dx, us, h1, h2, h3, h4, h5, h6⟩ := x.obj i p0 C fs e
    refine ⟨dx, us, h1, h2, upd_none h3 (fun z => ?_), h4, h5, h6.mono le⟩
    rw [z, h] at h2
    cases h2
  · obtain ⟨⟨us, h1, h2⟩, h3, h4, h5, h6⟩ := x.cel i cs e q hq
    refine ⟨⟨us, h1, h2.mono le⟩, upd_none h3 (fun z => ?_), h4, h5, h6⟩
    rw [z, h] at h1
    cases h1
  · obtain ⟨p0, us, h1, h2, h3, h4, h5, h6⟩ := x.dct i lk kvs e
    refine ⟨p0, us, h1, h2, upd_none h3 (fun z => ?_), h4, h5, h6.mono le⟩
    rw [z, h] at h2
    exact lk_tup h2
theorem Rel.known (r : Rel K T c wd env σ H) {p : Addr} {vs : List V} (h : H p = some (.tup vs)) : ∃ wd', Le wd wd' ∧ Rel K T c wd' env σ H ∧ wd'.M p = some (.tup vs) := by
  cases hm : wd.M p with
  | some o =>
    have := r.good.sub p o hm
    rw [h] at this
    exact ⟨wd, Le.refl _, r, by rw [hm]; exact this.symm⟩
  | none =>
    have le : Le wd (wd.add p (.tup vs)) := Le.add hm
    have uq : ∀ {a : Addr} {o : HO}, (wd.add p (.tup vs)).M a = some o → (a = p ∧ o = .tup vs) ∨ wd.M a = some o := fun {a o} z => by
      by_cases ha : a = p
      · subst ha
        have z' : upd wd.M a (.tup vs) a = some o := z
        rw [upd_same] at z'
        cases z'
        exact .inl ⟨rfl, rfl⟩
      · have z' : upd wd.M p (.tup vs) a = some o := z
        rw [upd_ne ha] at z'
        exact .inr z'
    have nl : ∀ {a : Addr} {us : List V}, H a = some (.lst us) → a ≠ p := fun {a us} e z => by
      rw [z, h] at e
      cases e
    refine ⟨_, le, ⟨⟨r.ord.le.trans le, fun a o z => ?_, r.ord.fb⟩, ⟨fun a o z => ?_, fun a o z => ?_, fun b hb => ?_, r.good.tab, r.good.siz⟩, r.keep, r.len, fun i d z => ?_, fun i ys z => ?_, r.sep, fun q hq => ?_, r.ext.addT hm h⟩, upd_same⟩
    · rcases uq z with ⟨rfl, rfl⟩ | z
      · exact .inr (.inr ⟨vs, rfl⟩)
      · exact r.ord.fm a o z
    · rcases uq z with ⟨rfl, rfl⟩ | z
      · exact h
      · exact r.good.sub a o z
    · rcases uq z with ⟨rfl, rfl⟩ | z
      · exact ⟨noTb_tup, r.good.siz _ _ h⟩
      · exact r.good.ntb a o z
    · obtain ⟨z1, z2⟩ := r.good.box b hb
      refine ⟨?_, z2⟩
      obtain ⟨_, _, _, e, _⟩ := z2
      exact upd_none z1 (nl e)
    · obtain ⟨v, z1, z2⟩ := r.dat i d z
      exact ⟨v, z1, z2.mono le⟩
    · obtain ⟨q, us, z1, z2, z3, z4, z5, z6⟩ := r.own i ys z
      exact ⟨q, us, z1, z2, upd_none z3 (nl z2), z4, z5, z6.mono le⟩
    · obtain ⟨z1, z2, z3, z4⟩ := r.pin q hq
      exact ⟨z1, upd_none z2 (nl z1), z3, z4⟩
end
/-! ### what is walked -/
section
variable (K : PySem.W.Frag) (T : List (Addr × Str))
def YD (wd : Wd) (d : D) (H : Hp) (v : V) (H' : Hp) : Prop := (H' = H ∧ Rep K wd v d) ∨ (∃ (p : Addr) (vs : List V) (ds : List D), v = .ref p ∧ H p = none ∧ H' = upd H p (.tup vs) ∧ d = .tup ds ∧ Reps K wd vs ds ∧ vs.length ≤ sizeLine) ∨
  ∃ (p : Addr) (vs : List V) (ds : List D), v = .ref p ∧ H p = some (.tup vs) ∧ H' = H ∧ d = .tup ds ∧ Reps K wd vs ds
def WalkD (wd : Wd) (J : It) (xs : List D) : Prop := Walk J xs.length (fun H => Sub wd.M H) (fun i H v H' => ∃ d, xs[i]? = some d ∧ YD K wd d H v H')
def liftI (E : XK) (w : W (List D)) : TI := fun σ H R => ∃ (c : Ctx) (wd : Wd) (env : PEnv) (P : List D → PEnv → Prop) (Ex : Xc → Prop), Rel K T c wd env σ H ∧ w env P Ex ∧ XOk K T c E Ex ∧
  ∀ xs env', P xs env' → ∀ (J : It) (wd' : Wd) (H' : Hp), Le wd wd' → Rel K T c wd' env' σ H' → WalkD K wd' J xs → xs.length ≤ sizeLine → R J H'
end
abbrev JI (T : List (Addr × Str)) (X : Cx) (E : XK) (tg e : Expr) (w : W (List D)) : Prop := PI X tg e (liftI X.K T E w)
section
variable {X : Cx} {T : List (Addr × Str)} {E : XK} {k : Nat} {tg : Expr}
theorem piI {e : Expr} {t t' : TI} (h : PI X tg e t) (i : ∀ σ H R, t' σ H R → t σ H R) : PI X tg e t' := ⟨fun pins s σ H R I q => h.run pins s σ H R I (i σ H R q)⟩
def iSeq (K : PySem.W.Frag) (tl : TE) : TI := fun σ H R => tl σ H fun x H1 => ∃ a, x = .ref a ∧ (((∃ ys, SqL K H1 a ys) ∧ R (Itl K a) H1) ∨ ((∃ ys, SqT K H1 a ys) ∧ R (Itt K a) H1))
theorem pi_seq {l : Expr} {tl : TE} (hl : PE X l tl) : PI X tg l (iSeq X.K tl) := by
  constructor
  intro pins s σ H R I h
  refine thn (hl.run pins s σ H _ I h) ?_
  rintro v s1 ⟨x, H1, J1, r1, a, rfl, q⟩
  cases r1
  have fp1 : ∀ b ∈ [s1.heap.objs.size], FpOk X pins H1 b := fun b hb => by
    rw [List.mem_singleton.mp hb]
    exact J1.fpOk (Nat.le_refl _) (J1.hok.fresh (Nat.le_refl _))
  rcases q with ⟨⟨ys, hy⟩, q⟩ | ⟨⟨ys, hy⟩, q⟩
  · obtain ⟨us, ru, pu, _⟩ := J1.list hy
    exact wpAny_pyIter_list pu.isList ⟨_, [_], _, _, H1, rfl, J1.kept (t' := s1.toks) fun b o z => Heap.get?_push_of_some _ z, turn_list a _, ⟨_, Heap.get?_push_size _ rfl, rfl, rfl⟩, fp1, q⟩
  · obtain ⟨us, ru, pu, _⟩ := J1.tuple hy
    exact wpAny_pyIter_tuple (show s1.heap.IsTuple a us.toArray from pu) ⟨_, [_], _, _, H1, rfl, J1.kept (t' := s1.toks) fun b o z => Heap.get?_push_of_some _ z, turn_tuple a _, ⟨_, Heap.get?_push_size _ rfl, rfl, rfl⟩, fp1, q⟩
def wItems (a : W D) : W (List D) := a.bind fun x env Q _ => match x with
  | .tup xs => Q xs env
  | .lst xs => Q xs env
  | _ => False
theorem walkD_list {K : PySem.W.Frag} {wd : Wd} {a : Addr} {vs : List V} {xs : List D} (h : wd.M a = some (.lst vs)) (r : Reps K wd vs xs) : WalkD K wd (Itl K a) xs := by
  unfold WalkD
  rw [← r.length]
  refine (walk_list (K := K) (a := a) (xs := vs)).mono (fun H z => .inl (.inl (z _ _ h))) fun i H x H' hi z y => ?_
  obtain ⟨rfl, e⟩ := y
  obtain ⟨d, e1, r1⟩ := r.getV e
  exact ⟨d, e1, .inl ⟨rfl, r1⟩⟩
theorem walkD_tup {K : PySem.W.Frag} {wd : Wd} {a : Addr} {vs : List V} {xs : List D} (h : wd.M a = some (.tup vs)) (r : Reps K wd vs xs) : WalkD K wd (Itt K a) xs := by
  have h : SqT K wd.M a vs := .inl (.inl h)
  unfold WalkD
  rw [← r.length]
  refine (walk_tup (K := K) (a := a) (xs := vs)).mono (fun H z => sqT_mono K z h) fun i H x H' hi z y => ?_
  obtain ⟨rfl, e⟩ := y
  obtain ⟨d, e1, r1⟩ := r.getV e
  exact ⟨d, e1, .inl ⟨rfl, r1⟩⟩
theorem ji_seq {e : Expr} {w : W D} (he : JE T X E e w) : JI T X E tg e (wItems w) :=
  piI (pi_seq he) fun σ H R ⟨c, wd, env, P, Ex, r, h, xo, kk⟩ => ⟨c, wd, env, _, Ex, r, h, xo, fun x env1 h1 v wd1 H1 le1 r1 rp1 => by
    dsimp only at h1
    split at h1
    · cases rp1 with
      | tup hs rs =>
        have hq := sub_sqT (K := X.K) r1.good hs
        exact ⟨_, rfl, .inr ⟨⟨_, hq⟩, kk _ env1 h1 _ wd1 H1 le1 r1 (walkD_tup hs rs) (by rw [← rs.length]; exact siz_sqT r1.good hs)⟩⟩
    · cases rp1 with
      | lst hs rs =>
        have hq := sub_sqL (K := X.K) r1.good hs
        exact ⟨_, rfl, .inl ⟨⟨_, hq⟩, kk _ env1 h1 _ wd1 H1 le1 r1 (walkD_list hs rs) (by rw [← rs.length]; exact (r1.good.ntb _ _ hs).2)⟩⟩
    · exact h1.elim⟩
/-- range -/
def upTo (lo hi : Int) : List D := (List.range (hi - lo).toNat).map fun (i : Nat) => D.int (lo + i)
theorem walkD_range {K : PySem.W.Frag} {wd : Wd} {lo hi : Int} : WalkD K wd (Itr lo (hi - lo).toNat) (upTo lo hi) := by
  unfold WalkD upTo
  rw [List.length_map, List.length_range]
  refine (walk_range (lo := lo) (n := (hi - lo).toNat)).mono (fun H z => trivial) fun i H x H' hl z y => ?_
  obtain ⟨rfl, rfl⟩ := y
  refine ⟨_, ?_, .inl ⟨rfl, .int _⟩⟩
  rw [List.getElem?_map, List.getElem?_range hl]
  rfl
def wRng1 (a : W D) : W (List D) := a.bind fun x env Q _ => match x with
  | .int j => j ≤ 1000000 ∧ -1000000 ≤ j ∧ Q (upTo 0 j) env
  | _ => False
def wRng2 (a b : W D) : W (List D) := a.bind fun x => b.bind fun y env Q _ => match x, y with
  | .int i, .int j => (i ≤ 1000000 ∧ -1000000 ≤ i ∧ j ≤ 1000000 ∧ -1000000 ≤ j) ∧ Q (upTo i j) env
  | _, _ => False
theorem upTo_len {lo hi : Int} (h : hi - lo ≤ 2000000) : (upTo lo hi).length ≤ sizeLine := by
  unfold upTo
  rw [List.length_map, List.length_range]
  have : sizeLine = 16777216 := by decide
  omega
theorem ji_range1 {e : Expr} {w : W D} {p pos : Pos} (hg : Gl X "range") (hm : X.mg "range" = none) (he : JE T X E e w) (hs : starEach [e] X.env = [(false, eval e X.env)] := by rfl) : JI T X E tg (.Call (.Name "range" p) [e] [] pos) (wRng1 w) :=
  piI (pi_range1 hg hm (pa_cons he pa_nil hs) hs) fun σ H R ⟨c, wd, env, P, Ex, r, h, xo, kk⟩ => ⟨c, wd, env, _, Ex, r, h, xo, fun x env1 h1 v wd1 H1 le1 r1 rp1 => by
    dsimp only at h1
    split at h1
    · rename_i j
      cases rp1
      refine ⟨_, rfl, by omega, by omega, ?_⟩
      have e0 : Itr 0 j.toNat = Itr 0 (j - 0).toNat := by rw [Int.sub_zero]
      rw [e0]
      exact kk _ env1 h1.2.2 _ wd1 H1 le1 r1 walkD_range (upTo_len (by omega))
    · exact h1.elim⟩
theorem ji_range2 {e f : Expr} {w u : W D} {p pos : Pos} (hg : Gl X "range") (hm : X.mg "range" = none) (he : JE T X E e w) (hf : JE T X E f u) (hs : starEach [e, f] X.env = [(false, eval e X.env), (false, eval f X.env)] := by rfl) (hs2 : starEach [f] X.env = [(false, eval f X.env)] := by rfl)
    (hs3 : starEach [e, f] X.env = (false, eval e X.env) :: starEach [f] X.env := by rfl) : JI T X E tg (.Call (.Name "range" p) [e, f] [] pos) (wRng2 w u) :=
  piI (pi_range2 hg hm (pa_cons he (pa_cons hf pa_nil hs2) hs3) hs hs2) fun σ H R ⟨c, wd, env, P, Ex, r, h, xo, kk⟩ => ⟨c, wd, env, _, Ex, r, h, xo, fun x env1 h1 v wd1 H1 le1 r1 rp1 => ⟨c, wd1, env1, _, Ex, r1, h1, xo, fun y env2 h2 u wd2 H2 le2 r2 rp2 => by
    dsimp only at h2
    split at h2
    · rename_i i j
      cases rp1
      cases rp2
      exact ⟨_, _, rfl, ⟨by omega, by omega, by omega, by omega⟩, kk _ env2 h2.2 _ wd2 H2 (le1.trans le2) r2 walkD_range (upTo_len (by omega))⟩
    · exact h2.elim⟩⟩
/-- zip of two lists, of two tuples -/
def zipD (xs ys : List D) : List D := (xs.zip ys).map fun q => .tup [q.1, q.2]
def wZip (a b : W D) : W (List D) := a.bind fun x => b.bind fun y env Q _ => match x, y with
  | .tup xs, .tup ys => Q (zipD xs ys) env
  | .lst xs, .lst ys => Q (zipD xs ys) env
  | _, _ => False
theorem zipD_len (xs ys : List D) : (zipD xs ys).length = min xs.length ys.length := by
  unfold zipD
  rw [List.length_map, List.length_zip]
theorem yd_pair {K : PySem.W.Frag} {wd : Wd} {xs ys : List D} {us vs : List V} {i : Nat} {H H' : Hp} {x : V} (ru : Reps K wd us xs) (rv : Reps K wd vs ys) (y : YPair (fun i => us[i]?) (fun i => vs[i]?) i H x H') :
    ∃ d, (zipD xs ys)[i]? = some d ∧ YD K wd d H x H' := by
  obtain ⟨p, a, b, rfl, hp, rfl, e1, e2⟩ := y
  obtain ⟨d1, f1, r1⟩ := ru.getV e1
  obtain ⟨d2, f2, r2⟩ := rv.getV e2
  refine ⟨.tup [d1, d2], ?_, .inr (.inl ⟨p, [a, b], [d1, d2], rfl, hp, rfl, rfl, .cons r1 (.cons r2 .nil), by show 2 ≤ sizeLine; decide⟩)⟩
  unfold zipD
  rw [List.getElem?_map, List.getElem?_zip_eq_some.mpr (show xs[i]? = some ((d1, d2) : D × D).1 ∧ ys[i]? = some ((d1, d2) : D × D).2 from ⟨f1, f2⟩)]
  rfl
theorem ji_zip {e f : Expr} {w u : W D} {p pos tpos : Pos} {elts : List Expr} {kk : Nat} (hg : Gl X "zip") (hm : X.mg "zip" = none) (he : JE T X E e w) (hf : JE T X E f u) (hs : starEach [e, f] X.env = (false, eval e X.env) :: starEach [f] X.env := by rfl)
    (hs2 : starEach [f] X.env = (false, eval f X.env) :: starEach [] X.env := by rfl) (hpl : (backTo pos (starEach [f] X.env)).any (·.1) = false := by rfl) : JI T X E (.Tuple elts kk tpos) (.Call (.Name "zip" p) [e, f] [] pos) (wZip w u) :=
  piI (RZ.pi_zipA hg hm (pa_cons he (pa_cons hf pa_nil hs2) hs) hs hpl) fun σ H R ⟨c, wd, env, P, Ex, r, h, xo, kk⟩ => ⟨c, wd, env, _, Ex, r, h, xo, fun x env1 h1 v wd1 H1 le1 r1 rp1 => ⟨c, wd1, env1, _, Ex, r1, h1, xo, fun y env2 h2 u wd2 H2 le2 r2 rp2 => by
    have rp1 := Rep.mono le2 rp1
    dsimp only at h2
    split at h2
    · rename_i xs ys
      cases rp1 with
      | tup hs1 rs1 =>
        cases rp2 with
        | tup hs2 rs2 =>
          have q1 := sub_sqT (K := X.K) r2.good hs1
          refine ⟨_, _, _, _, rfl, .inr ⟨q1, sub_sqT r2.good hs2, kk _ env2 h2 _ wd2 H2 (le1.trans le2) r2 ?_ ?_⟩⟩
          · unfold WalkD
            rw [zipD_len, ← rs1.length, ← rs2.length]
            refine ⟨fun i H hi z => ?_, fun H z => ?_, fun i H x H' hi z y => ?_⟩
            · have l1 := Nat.lt_of_lt_of_le hi (Nat.min_le_left _ _)
              have l2 := Nat.lt_of_lt_of_le hi (Nat.min_le_right _ _)
              exact ⟨_, _, _, _, sqT_sub X.K z hs1, sqT_sub X.K z hs2, List.getElem?_eq_getElem l1, List.getElem?_eq_getElem l2⟩
            · exact ⟨_, _, sqT_sub X.K z hs1, sqT_sub X.K z hs2, by omega⟩
            · obtain ⟨p, a, b, e1, e2, e3, e4, e5⟩ := y
              exact yd_pair rs1 rs2 ⟨p, a, b, e1, e2, e3, e4 _ (sqT_sub X.K z hs1), e5 _ (sqT_sub X.K z hs2)⟩
          · rw [zipD_len, ← rs1.length]
            exact Nat.le_trans (Nat.min_le_left _ _) (siz_sqT r2.good hs1)
    · rename_i xs ys
      cases rp1 with
      | lst hs1 rs1 =>
        cases rp2 with
        | lst hs2 rs2 =>
          have q1 := sub_sqL (K := X.K) r2.good hs1
          refine ⟨_, _, _, _, rfl, .inl ⟨q1, sub_sqL r2.good hs2, kk _ env2 h2 _ wd2 H2 (le1.trans le2) r2 ?_ ?_⟩⟩
          · unfold WalkD
            rw [zipD_len, ← rs1.length, ← rs2.length]
            refine ⟨fun i H hi z => ?_, fun H z => ?_, fun i H x H' hi z y => ?_⟩
            · have l1 := Nat.lt_of_lt_of_le hi (Nat.min_le_left _ _)
              have l2 := Nat.lt_of_lt_of_le hi (Nat.min_le_right _ _)
              exact ⟨_, _, _, _, .inl (.inl (z _ _ hs1)), .inl (.inl (z _ _ hs2)), List.getElem?_eq_getElem l1, List.getElem?_eq_getElem l2⟩
            · exact ⟨_, _, .inl (.inl (z _ _ hs1)), .inl (.inl (z _ _ hs2)), by omega⟩
            · obtain ⟨p, a, b, e1, e2, e3, e4, e5⟩ := y
              exact yd_pair rs1 rs2 ⟨p, a, b, e1, e2, e3, e4 _ (.inl (.inl (z _ _ hs1))), e5 _ (.inl (.inl (z _ _ hs2)))⟩
          · rw [zipD_len, ← rs1.length]
            exact Nat.le_trans (Nat.min_le_left _ _) ((r2.good.ntb _ _ hs1).2)
    · exact h2.elim⟩⟩
/-! ### a turn's item comes -/
theorem Rel.item {K : PySem.W.Frag} {c : Ctx} {wd wd1 : Wd} {env : PEnv} {σ : L2.St} {H H' : Hp} {d : D} {v : V} (r : Rel K T c wd1 env σ H) (le : Le wd wd1) (y : YD K wd d H v H') :
    ∃ wd2, Le wd1 wd2 ∧ Rel K T c wd2 env σ H' ∧ Rep K wd2 v d := by
  rcases y with ⟨rfl, rp⟩ | ⟨p, vs, ds, rfl, hp, rfl, rfl, rs, hz⟩ | ⟨p, vs, ds, rfl, hp, rfl, rfl, rs⟩
  · exact ⟨wd1, Le.refl _, r, rp.mono le⟩
  · have l2 : Le wd1 (wd1.add p (.tup vs)) := Le.add (r.good.mnone hp)
    exact ⟨_, l2, r.grow (Grow.one hp noTb_tup hz), .tup upd_same (rs.mono (le.trans l2))⟩
  · obtain ⟨wd2, l2, r2, e⟩ := r.known hp
    exact ⟨wd2, l2, r2, .tup e (rs.mono (le.trans l2))⟩
/-! ### for -/
def forW (g : WG) (b : (PEnv → Prop) → PEnv → Prop) (fin : PEnv → Prop) : List D → PEnv → Prop
  | [], env => fin env
  | x :: xs, env => g x env fun env' => b (forW g b fin xs) env'
def sFor (it : W (List D)) (g : WG) (b : WS) : WS := fun pe env => it env (fun xs env' => forW g (fun nx => b { pe with nx := nx, ct := nx, bk := pe.nx }) pe.nx xs env') pe.ex
theorem js_for {iter : Expr} {body : List Stmt} {w : W (List D)} {g : WG} {b : WS} {pos : Pos} (B : Bd X E k) {us : List Nat} (hi : JI T X E tg iter w) (hg : JG T X us tg g) (hb : JSs T X E body b) (hs : ∀ x, foldedSetIterable iter X.env x = pure x := by intro _; rfl) :
    JS T X E (.For tg iter body [] pos) (sFor w g b) :=
  psI (ps_for B.own B.calm hi hg hb hs) fun D σ H ⟨c, wd, env, pe, r, h, o⟩ => ⟨c, wd, env, _, _, r, h, o.ex, fun xs env1 h1 J wd1 H1 le1 r1 wk hz => by
    refine for_it wk (fun i σ' H' => ∃ wd' env', Le wd1 wd' ∧ Rel X.K T c wd' env' σ' H' ∧ forW g (fun nx => b { pe with nx := nx, ct := nx, bk := pe.nx }) pe.nx (xs.drop i) env') ⟨wd1, env1, Le.refl _, r1, h1⟩ (fun i σ' H' hi ⟨wd', env', le, r', _⟩ => le.m.trans r'.good.sub) ?_ ?_
    · rintro i x σ' H2 H3 hl ⟨wd', env', le, r', f⟩ ⟨d, ed, y⟩
      obtain ⟨wd2, le2, r2, rp⟩ := r'.item le y
      have e : xs.drop i = d :: xs.drop (i + 1) := by
        obtain ⟨hi, e'⟩ := List.getElem?_eq_some_iff.mp ed
        rw [List.drop_eq_getElem_cons hi, e']
      rw [e] at f
      refine ⟨c, wd2, env', d, _, r2, rp, f, fun env2 f2 σ2 r3 _ => ⟨c, wd2, env2, _, r3, f2, ⟨o.ex, ?_, o.rt, ?_, ?_⟩⟩⟩
      · exact fun env3 f3 σ3 wd3 H4 le3 r4 => ⟨wd3, env3, (le.trans le2).trans le3, r4, f3⟩
      · exact fun env3 f3 σ3 wd3 H4 le3 r4 => o.nx env3 f3 σ3 wd3 H4 (((le1.trans le).trans le2).trans le3) r4
      · exact fun env3 f3 σ3 wd3 H4 le3 r4 => ⟨wd3, env3, (le.trans le2).trans le3, r4, f3⟩
    · rintro σ' H2 ⟨wd', env', le, r', f⟩
      rw [List.drop_length] at f
      exact o.nx env' f σ' wd' H2 (le1.trans le) r'⟩
end
end Pd

namespace Pd
open PySem PySem.Spec PyProof.Rows L2 LamX

/-! ### comprehensions -/
def wipeE (env : PEnv) : List Nat → PEnv
  | [] => env
  | v :: vs => (wipeE env vs).set v none
def keepD : Option Sl → Option Sl
  | some (.d x) => some (.d x)
  | _ => none
def restE (env0 env : PEnv) : List Nat → PEnv
  | [] => env
  | v :: vs => (restE env0 env vs).set v (keepD (gt env0 v))
def compW (g : WG) (t : W Bool) (e : W D) (vs : List Nat) (Q : List D → PEnv → Prop) : List D → PEnv → List D → Prop
  | [], env, acc => Q acc env
  | x :: xs, env, acc => g x (wipeE env vs) fun env1 => t env1 (fun b env2 => br b (e env2 (fun y env3 => compW g t e vs Q xs env3 (acc ++ [y])) (fun _ => False)) (compW g t e vs Q xs env2 acc)) (fun _ => False)
def wComp (it : W (List D)) (g : WG) (t : W Bool) (e : W D) (vs : List Nat) : W (List D) := it.bind fun xs env Q _ => compW g t e vs (fun ys env' => Q ys (restE env env' vs)) xs env []
theorem wipeE_length (env : PEnv) : ∀ vs, (wipeE env vs).length = env.length
  | [] => rfl
  | v :: vs => by
    show ((wipeE env vs).set v none).length = env.length
    rw [List.length_set, wipeE_length env vs]
theorem wipeE_some {env : PEnv} {i : Nat} {s : Sl} : ∀ {vs : List Nat}, (wipeE env vs)[i]? = some (some s) → env[i]? = some (some s) ∧ i ∉ vs
  | [], h => ⟨h, by simp⟩
  | v :: vs, h => by
    have h' : ((wipeE env vs).set v none)[i]? = some (some s) := h
    rcases get_set h' with ⟨rfl, z, _⟩ | ⟨ne, z⟩
    · cases z
    · obtain ⟨a, b⟩ := wipeE_some z
      exact ⟨a, fun y => (List.mem_cons.mp y).elim (fun y => ne y.symm) b⟩
theorem restE_length (env0 env : PEnv) : ∀ vs, (restE env0 env vs).length = env.length
  | [] => rfl
  | v :: vs => by
    show ((restE env0 env vs).set v _).length = env.length
    rw [List.length_set, restE_length env0 env vs]
theorem restE_some {env0 env : PEnv} {i : Nat} {s : Sl} : ∀ {vs : List Nat}, (restE env0 env vs)[i]? = some (some s) → (i ∈ vs ∧ (∃ x, s = .d x) ∧ env0[i]? = some (some s)) ∨ (i ∉ vs ∧ env[i]? = some (some s))
  | [], h => .inr ⟨by simp, h⟩
  | v :: vs, h => by
    have h' : ((restE env0 env vs).set v (keepD (gt env0 v)))[i]? = some (some s) := h
    rcases get_set h' with ⟨rfl, z, _⟩ | ⟨ne, z⟩
    · left
      cases q : gt env0 v with
      | none =>
        rw [q] at z
        cases z
      | some u =>
        rw [q] at z
        cases u with
        | own xs => cases z
        | obj _ _ _ => cases z
        | cels _ => cases z
        | dct _ _ => cases z
        | d x =>
          have e : s = .d x := (Option.some.inj z).symm
          subst e
          exact ⟨List.mem_cons_self, ⟨x, rfl⟩, gt_eq _ _ q⟩
    · rcases restE_some z with ⟨a, b⟩ | ⟨a, b⟩
      · exact .inl ⟨List.mem_cons_of_mem _ a, b⟩
      · exact .inr ⟨fun y => (List.mem_cons.mp y).elim (fun y => ne y.symm) a, b⟩
theorem wipe_get {σ : L2.St} {i : Nat} : ∀ {vs : List Nat}, i ∉ vs → (wipe σ vs)[i]? = σ[i]?
  | [], _ => rfl
  | v :: vs, h => by
    show ((wipe σ vs).set v none)[i]? = σ[i]?
    rw [List.getElem?_set_ne (fun z => h (by rw [← z]; exact List.mem_cons_self)), wipe_get fun z => h (List.mem_cons_of_mem _ z)]
section
variable {K : PySem.W.Frag} {T : List (Addr × Str)} {c : Ctx} {wd wd' : Wd} {env env' : PEnv} {σ σ' : L2.St} {H H' : Hp}
theorem Rel.wipe (r : Rel K T c wd env σ H) (vs : List Nat) : Rel K T c wd (wipeE env vs) (L2.wipe σ vs) H := by
  refine ⟨r.ord, r.good, r.keep, by rw [wipeE_length, wipe_length]; exact r.len, fun i x e => ?_, fun i xs e => ?_, fun i j xs ys p e1 e2 e3 e4 => ?_, fun q hq => ?_, r.ext.sl (fun i s e _ _ => ⟨(wipeE_some e).1, wipe_get (wipeE_some e).2⟩) fun j ys e => .inl ⟨ys, (wipeE_some e).1, wipe_get (wipeE_some e).2⟩⟩
  · obtain ⟨e, hn⟩ := wipeE_some e
    rw [wipe_get hn]
    exact r.dat i x e
  · obtain ⟨e, hn⟩ := wipeE_some e
    rw [wipe_get hn]
    exact r.own i xs e
  · obtain ⟨e1, h1⟩ := wipeE_some e1
    obtain ⟨e2, h2⟩ := wipeE_some e2
    rw [wipe_get h1] at e3
    rw [wipe_get h2] at e4
    exact r.sep i j xs ys p e1 e2 e3 e4
  · obtain ⟨a, b, d, e⟩ := r.pin q hq
    refine ⟨a, b, d, fun i xs e1 => ?_, fun i cs e1 => e.c i cs (wipeE_some e1).1⟩
    obtain ⟨e1, h1⟩ := wipeE_some e1
    rw [wipe_get h1]
    exact e.o i xs e1
theorem Rel.rest {env0 : PEnv} {wd0 : Wd} {H0 : Hp} {vs : List Nat} (r0 : Rel K T c wd0 env0 σ H0) (le : Le wd0 wd) (r : Rel K T c wd (wipeE env vs) (L2.wipe σ vs) H) : Rel K T c wd (restE env0 env vs) σ H := by
  have inn : ∀ {i : Nat} {s : Sl}, i ∉ vs → env[i]? = some (some s) → (wipeE env vs)[i]? = some (some s) := fun {i s} => by
    induction vs with
    | nil => intro _ h; exact h
    | cons v vs ih =>
      intro hn h
      show ((wipeE env vs).set v none)[i]? = some (some s)
      rw [List.getElem?_set_ne (fun z => hn (by rw [← z]; exact List.mem_cons_self))]
      clear r r0
      have key : ∀ us : List Nat, i ∉ us → (wipeE env us)[i]? = env[i]? := fun us => by
        induction us with
        | nil => intro _; rfl
        | cons u us ih2 =>
          intro hu
          show ((wipeE env us).set u none)[i]? = env[i]?
          rw [List.getElem?_set_ne (fun z => hu (by rw [← z]; exact List.mem_cons_self)), ih2 fun z => hu (List.mem_cons_of_mem _ z)]
      rw [key vs fun z => hn (List.mem_cons_of_mem _ z)]
      exact h
  refine ⟨r.ord, r.good, r.keep, ?_, fun i x e => ?_, fun i xs e => ?_, fun i j xs ys p e1 e2 e3 e4 => ?_, fun q hq => ?_, r.ext.sl (fun i s e n1 n2 => ?_) fun j ys e => ?_⟩
  · have := r.len
    rw [wipeE_length, wipe_length] at this
    rw [restE_length]
    exact this
  · rcases restE_some e with ⟨_, _, e⟩ | ⟨hn, e⟩
    · obtain ⟨v, h1, h2⟩ := r0.dat i x e
      exact ⟨v, h1, h2.mono le⟩
    · obtain ⟨v, h1, h2⟩ := r.dat i x (inn hn e)
      rw [wipe_get hn] at h1
      exact ⟨v, h1, h2⟩
  · rcases restE_some e with ⟨_, ⟨x, z⟩, e⟩ | ⟨hn, e⟩
    · cases z
    · obtain ⟨p, us, h1, h2⟩ := r.own i xs (inn hn e)
      rw [wipe_get hn] at h1
      exact ⟨p, us, h1, h2⟩
  · rcases restE_some e1 with ⟨_, ⟨x, z⟩, e⟩ | ⟨hn1, e1⟩
    · cases z
    · rcases restE_some e2 with ⟨_, ⟨x, z⟩, e⟩ | ⟨hn2, e2⟩
      · cases z
      · exact r.sep i j xs ys p (inn hn1 e1) (inn hn2 e2) (by rw [wipe_get hn1]; exact e3) (by rw [wipe_get hn2]; exact e4)
  · obtain ⟨a, b, d, e⟩ := r.pin q hq
    refine ⟨a, b, d, fun i xs e1 => ?_, fun i cs e1 => ?_⟩
    · rcases restE_some e1 with ⟨_, ⟨x, z⟩, _⟩ | ⟨hn, e1⟩
      · cases z
      · have := e.o i xs (inn hn e1)
        rw [wipe_get hn] at this
        exact this
    · rcases restE_some e1 with ⟨_, ⟨x, z⟩, _⟩ | ⟨hn, e1⟩
      · cases z
      · exact e.c i cs (inn hn e1)
  · rcases restE_some e with ⟨_, ⟨x, z⟩, _⟩ | ⟨hn, e⟩
    · exact absurd z (n1 x)
    · exact ⟨inn hn e, (wipe_get hn).symm⟩
  · rcases restE_some e with ⟨_, ⟨x, z⟩, _⟩ | ⟨hn, e⟩
    · cases z
    · exact .inl ⟨ys, inn hn e, (wipe_get hn).symm⟩
/-- a list on the way: begun, grown, done -/
theorem Rel.begin (r : Rel K T c wd env σ H) {p : Addr} (hp : H p = none) : Rel K T { c with pn := (p, []) :: c.pn } wd env σ (upd H p (.lst [])) := by
  obtain ⟨r1, q, vs, e, h1, h2, h3, h4, h5, h6, h7⟩ := r.fresh hp (vs := []) (xs := []) .nil (Nat.zero_le _)
  cases e
  refine ⟨r1.ord, r1.good, r1.keep, r1.len, r1.dat, r1.own, r1.sep, fun q hq => ?_, ⟨r1.ext.obj, r1.ext.ob1, r1.ext.cel, r1.ext.cnd, r1.ext.ce1, r1.ext.dct, r1.ext.dc1⟩⟩
  rcases List.mem_cons.mp hq with rfl | hq
  · exact ⟨upd_same, h2, h3, h6⟩
  · exact r1.pin q hq
theorem Rel.more {p : Addr} {us : List V} {pn : List (Addr × List V)} (r : Rel K T { c with pn := (p, us) :: pn } wd env σ H) (hc : Nt c.H p) (hq : ∀ q ∈ pn, q.1 ≠ p) (y : V) (hz : us.length < sizeLine) : Rel K T { c with pn := (p, us ++ [y]) :: pn } wd env σ (upd H p (.lst (us ++ [y]))) := by
  obtain ⟨h1, h2, h3, h4⟩ := r.pin (p, us) List.mem_cons_self
  have h1 : H p = some (.lst us) := h1
  have h2 : wd.M p = none := h2
  have h3 : p ∉ wd.B := h3
  have h4 : NoOwn env σ p := h4
  have hx : Ext K { c with pn := (p, us ++ [y]) :: pn } wd env σ H := ⟨r.ext.obj, r.ext.ob1, r.ext.cel, r.ext.cnd, r.ext.ce1, r.ext.dct, r.ext.dc1⟩
  refine ⟨r.ord, ⟨fun a o q => ?_, r.good.ntb, fun b hb => ?_, fun q hq => ?_, siz_upd r.good.siz (by show (us ++ [y]).length ≤ sizeLine; rw [List.length_append]; exact hz)⟩, ⟨fun a o q n t => ?_, fun a q => ?_⟩, r.len, r.dat, fun i xs e => ?_, r.sep, fun q hm => ?_, hx.updL h4.c h1⟩
  · rw [upd_ne (show a ≠ p from fun z => by rw [z, h2] at q; cases q)]
    exact r.good.sub a o q
  · obtain ⟨z1, g, s, c', z2, z3⟩ := r.good.box b hb
    exact ⟨z1, g, s, c', by rw [upd_ne (show b ≠ p from fun z => h3 (z ▸ hb))]; exact z2, z3⟩
  · obtain ⟨ps, z1, z2, z3⟩ := r.good.tab q hq
    refine ⟨ps, ?_, z2, fun pos cv hc => ?_⟩
    · rw [upd_ne (show q.1 ≠ p from fun z => by rw [z, h1] at z1; cases z1)]
      exact z1
    · obtain ⟨a, y1, y2⟩ := z3 pos cv hc
      refine ⟨a, y1, ?_⟩
      rw [upd_ne (show a ≠ p from fun z => by rw [z, h1] at y2; cases y2)]
      exact y2
  · have q' : c.H a = some o := q
    rw [upd_ne (show a ≠ p from fun z => hc.no (by rw [← z]; exact q') t)]
    exact r.keep.st a o q n t
  · by_cases ha : a = p
    · subst ha
      exact hc
    · exact r.keep.dm a (q.upd ha)
  · obtain ⟨q, ws, z1, z2, z3⟩ := r.own i xs e
    exact ⟨q, ws, z1, by rw [upd_ne (show q ≠ p from fun z => h4.o i xs e (by rw [← z]; exact z1))]; exact z2, z3⟩
  · rcases List.mem_cons.mp hm with rfl | hm
    · exact ⟨upd_same, h2, h3, h4⟩
    · obtain ⟨a, b, d, e⟩ := r.pin q (List.mem_cons_of_mem _ hm)
      exact ⟨by rw [upd_ne (hq q hm)]; exact a, b, d, e⟩
theorem Rel.done {p : Addr} {us : List V} {pn : List (Addr × List V)} (r : Rel K T { c with pn := (p, us) :: pn } wd env σ H) : Rel K T { c with pn := pn } wd env σ H :=
  ⟨r.ord, r.good, r.keep, r.len, r.dat, r.own, r.sep, fun q hq => r.pin q (List.mem_cons_of_mem _ hq), ⟨r.ext.obj, r.ext.ob1, r.ext.cel, r.ext.cnd, r.ext.ce1, r.ext.dct, r.ext.dc1⟩⟩
end
abbrev JTs (T : List (Addr × Str)) (X : Cx) (E : XK) (ifs : List Expr) (w : W Bool) : Prop := PTs X ifs (lift X.K T rT E w)
section
variable {X : Cx} {T : List (Addr × Str)} {E : XK} {k : Nat} {tg : Expr}
theorem ptsI {es : List Expr} {t t' : TT} (h : PTs X es t) (i : ∀ σ H Q, t' σ H Q → t σ H Q) : PTs X es t' := ⟨fun pins s σ H Q I q => h.run pins s σ H Q I (i σ H Q q)⟩
theorem jts_nil : JTs T X E [] (W.ret true) := ptsI pts_nil fun σ H Q ⟨c, wd, env, P, Ex, r, h, _, k⟩ => k true env h true wd H (Le.refl _) r rfl
theorem jts_one {e : Expr} {w : W Bool} (h : JT T X E e w) : JTs T X E [e] w := pts_one h
theorem xok0 {K : PySem.W.Frag} {c : Ctx} {E : XK} : XOk K T c E (fun _ => False) := fun _ h => h.elim
theorem lc_lift {w : W (List D)} {g : WG} {wt : W Bool} {we : W D} {vs : List Nat} {σ : L2.St} {H : Hp} {Q : VK} (h : lift X.K T (rF X.K) E (wComp w g wt we vs) σ H Q) :
    tLc (liftI X.K T E w) (liftG X.K T vs g) (lift X.K T rT E0 wt) (lift X.K T (rE X.K) E0 we) vs σ H Q := by
  obtain ⟨c, wd, env, P, Ex, r, h, xo, kk⟩ := h
  refine ⟨c, wd, env, _, Ex, r, h, xo, fun xs env1 h1 J wd1 H1 le1 r1 wk hz Dl hD => ?_⟩
  have hc : Nt c.H Dl := r1.keep.dm Dl (Nt.of hD)
  have hq : ∀ q ∈ c.pn, q.1 ≠ Dl := fun q hm z => by
    have := (r1.pin q hm).1
    rw [z, hD] at this
    cases this
  refine lc_it wk (fun i H' => ∃ wd' env' acc us, Le wd1 wd' ∧ Rel X.K T { c with pn := (Dl, us) :: c.pn } wd' (wipeE env' vs) (L2.wipe σ vs) H' ∧ Reps X.K wd' us acc ∧ us.length ≤ i ∧ compW g wt we vs (fun ys env' => P ys (restE env1 env' vs)) (xs.drop i) env' acc)
    ⟨wd1, env1, [], [], Le.refl _, (r1.wipe vs).begin hD, .nil, Nat.le_refl _, h1⟩ (fun i H' hi ⟨wd', env', acc, us, le, r', _⟩ => le.m.trans r'.good.sub) ?_ ?_
  · rintro i x H2 H3 hl ⟨wd', env', acc, us, le, r', ru, hi, f⟩ ⟨d, ed, y⟩
    obtain ⟨wd2, le2, r2, rp⟩ := r'.item le y
    have e : xs.drop i = d :: xs.drop (i + 1) := by
      obtain ⟨hi, e'⟩ := List.getElem?_eq_some_iff.mp ed
      rw [List.drop_eq_getElem_cons hi, e']
    rw [e] at f
    refine ⟨_, wd2, _, d, _, r2, rp, f, fun env2 f2 σ2 r3 ew => ?_⟩
    have ew2 : L2.wipe (L2.wipe σ vs) vs = L2.wipe σ vs := by
      have key : ∀ us : List Nat, (∀ i ∈ us, i ∈ vs) → L2.wipe (L2.wipe σ vs) us = L2.wipe σ vs := fun us => by
        induction us with
        | nil => intro _; rfl
        | cons u us ih =>
          intro hu
          show (L2.wipe (L2.wipe σ vs) us).set u none = L2.wipe σ vs
          rw [ih fun i hi => hu i (List.mem_cons_of_mem _ hi)]
          refine List.ext_getElem? fun j => ?_
          by_cases hj : u = j
          · subst hj
            by_cases hl : u < (L2.wipe σ vs).length
            · rw [List.getElem?_set_self hl]
              cases q : (L2.wipe σ vs)[u]? with
              | none =>
                have := List.getElem?_eq_none_iff.mp q
                omega
              | some o =>
                cases o with
                | none => rfl
                | some v => exact absurd (hu u List.mem_cons_self) (wipe_some q).2
            · rw [List.set_eq_of_length_le (by omega)]
          · rw [List.getElem?_set_ne hj]
      exact key vs fun _ h => h
    refine ⟨ew.trans ew2, ?_⟩
    have ew3 : L2.wipe σ2 vs = L2.wipe σ vs := ew.trans ew2
    refine ⟨_, wd2, env2, _, _, r3, f2, xok0, fun b env3 f3 bb wd3 H4 le3 r4 eb => ?_⟩
    obtain rfl : bb = b := eb
    have nxt : ∀ {wd4 : Wd} {env4 : PEnv} {H5 : Hp}, Rel X.K T { c with pn := (Dl, us) :: c.pn } wd4 env4 σ2 H5 → Rel X.K T { c with pn := (Dl, us) :: c.pn } wd4 (wipeE env4 vs) (L2.wipe σ vs) H5 := fun {wd4 env4 H5} z => by
      have := z.wipe vs
      rw [ew3] at this
      exact this
    cases bb with
    | false => exact ⟨wd3, env3, acc, us, (le.trans le2).trans le3, nxt r4, ru.mono (le2.trans le3), Nat.le_succ_of_le hi, br_f f3⟩
    | true =>
      show lift X.K T (rE X.K) E0 we σ2 H4 _
      refine ⟨_, wd3, env3, _, _, r4, br_t f3, xok0, fun y1 env4 f4 yv wd4 H5 le4 r5 rp5 => ?_⟩
      have hlt : us.length < sizeLine := Nat.lt_of_le_of_lt hi (Nat.lt_of_lt_of_le hl hz)
      refine ⟨us, (r5.pin (Dl, us) List.mem_cons_self).1, hlt, wd4, env4, acc ++ [y1], us ++ [yv], ((le.trans le2).trans le3).trans le4, ?_, ?_, ?_, f4⟩
      · exact (nxt r5).more hc hq yv hlt
      · exact ((ru.mono (le2.trans le3)).mono le4).append (.cons rp5 .nil)
      · rw [List.length_append]
        exact Nat.succ_le_succ hi
  · rintro H2 ⟨wd', env', acc, us, le, r', ru, hi, f⟩
    rw [List.drop_length] at f
    obtain ⟨p1, p2, p3, p4⟩ := r'.pin (Dl, us) List.mem_cons_self
    have r6 : Rel X.K T c wd' (restE env1 env' vs) σ H2 := Rel.rest r1 le r'.done
    have w0 : ∀ {i : Nat} {s : Sl}, i ∉ vs → env'[i]? = some (some s) → (wipeE env' vs)[i]? = some (some s) := fun {i s} hn e => by
      have key : ∀ us : List Nat, i ∉ us → (wipeE env' us)[i]? = env'[i]? := fun us => by
        induction us with
        | nil => intro _; rfl
        | cons u us ih2 =>
          intro hu
          show ((wipeE env' us).set u none)[i]? = env'[i]?
          rw [List.getElem?_set_ne (fun z => hu (by rw [← z]; exact List.mem_cons_self)), ih2 fun z => hu (List.mem_cons_of_mem _ z)]
      rw [key vs hn]
      exact e
    refine kk acc _ f (.ref Dl) wd' H2 (le1.trans le) r6 ⟨Dl, us, rfl, p1, p2, p3, hc, ru, ⟨fun i ys e => ?_, fun i cs e => ?_⟩, hq⟩
    · rcases restE_some e with ⟨_, ⟨x, z⟩, _⟩ | ⟨hn, e⟩
      · cases z
      · intro z
        exact p4.o i ys (w0 hn e) (by rw [wipe_get hn]; exact z)
    · rcases restE_some e with ⟨_, ⟨x, z⟩, _⟩ | ⟨hn, e⟩
      · cases z
      · exact p4.c i cs (w0 hn e)
theorem jf_comp {elt iter : Expr} {ifs : List Expr} {scope : Scope} (own : List (Str × Nat)) {pos : Pos} {w : W (List D)} {g : WG} {wt : W Bool} {we : W D} (B : Bd X E k) (hi : JI T X E tg iter w) (ok : BlkOk X.N X.env.scope scope own)
    (hg : ∀ (s : Shared) (H : Hp) (C : Addr) (cl : List (Str × Addr)) (fp : List Addr), JG T (X.blk s H scope (compEnvC scope cl C X.env) fp) (own.map (·.2)) tg g)
    (ht : ∀ (s : Shared) (H : Hp) (C : Addr) (cl : List (Str × Addr)) (fp : List Addr), Bd (X.blk s H scope (compEnvC scope cl C X.env) fp) E0 k → JTs T (X.blk s H scope (compEnvC scope cl C X.env) fp) E0 ifs wt)
    (he : ∀ (s : Shared) (H : Hp) (C : Addr) (cl : List (Str × Addr)) (fp : List Addr), Bd (X.blk s H scope (compEnvC scope cl C X.env) fp) E0 k → JE T (X.blk s H scope (compEnvC scope cl C X.env) fp) E0 elt we)
    (hs : ∀ x, foldedSetIterable iter X.env x = pure x := by intro _; rfl) : JF T X E (.ListComp elt [⟨tg, iter, ifs, 0⟩] scope pos) (wComp w g wt we (own.map (·.2))) := by
  have Bb : ∀ (s : Shared) (H : Hp) (C : Addr) (cl : List (Str × Addr)) (fp : List Addr), Bd (X.blk s H scope (compEnvC scope cl C X.env) fp) E0 k := fun s H C cl fp => ⟨B.room, passL, PassesOwn.never, B.calm, B.nd⟩
  exact peI (pe_lc B.calm B.nd hi ok hg (fun s H C cl fp => ht s H C cl fp (Bb s H C cl fp)) (fun s H C cl fp => he s H C cl fp (Bb s H C cl fp)) hs) fun σ H Q h => lc_lift h
/-- y = [.. for ..] -/
theorem js_setComp (i : Nat) {y : Str} {elt iter : Expr} {ifs : List Expr} {scope : Scope} (own : List (Str × Nat)) {pos spos py : Pos} {w : W (List D)} {g : WG} {wt : W Bool} {we : W D} (B : Bd X E k) (hi : JI T X E tg iter w) (ok : BlkOk X.N X.env.scope scope own)
    (hg : ∀ (s : Shared) (H : Hp) (C : Addr) (cl : List (Str × Addr)) (fp : List Addr), JG T (X.blk s H scope (compEnvC scope cl C X.env) fp) (own.map (·.2)) tg g)
    (ht : ∀ (s : Shared) (H : Hp) (C : Addr) (cl : List (Str × Addr)) (fp : List Addr), Bd (X.blk s H scope (compEnvC scope cl C X.env) fp) E0 k → JTs T (X.blk s H scope (compEnvC scope cl C X.env) fp) E0 ifs wt)
    (he : ∀ (s : Shared) (H : Hp) (C : Addr) (cl : List (Str × Addr)) (fp : List Addr), Bd (X.blk s H scope (compEnvC scope cl C X.env) fp) E0 k → JE T (X.blk s H scope (compEnvC scope cl C X.env) fp) E0 elt we)
    (hsw : swapsWith (.ListComp elt [⟨tg, iter, ifs, 0⟩] scope pos) (some (.Name y py)) spos.line X.env = pure true) (hy : X.N[i]? = some y := by rfl) (hyl : X.env.scope.names.lookup y = some .local := by rfl)
    (hs : ∀ x, foldedSetIterable iter X.env x = pure x := by intro _; rfl) : JS T X E (.Assign [.Name y py] (.ListComp elt [⟨tg, iter, ifs, 0⟩] scope pos) spos) (sSetOwn i (wComp w g wt we (own.map (·.2)))) := by
  have Bb : ∀ (s : Shared) (H : Hp) (C : Addr) (cl : List (Str × Addr)) (fp : List Addr), Bd (X.blk s H scope (compEnvC scope cl C X.env) fp) E0 k := fun s H C cl fp => ⟨B.room, passL, PassesOwn.never, B.calm, B.nd⟩
  exact psI (ps_setLc B.calm B.nd hy hyl hsw hi ok hg (fun s H C cl fp => ht s H C cl fp (Bb s H C cl fp)) (fun s H C cl fp => he s H C cl fp (Bb s H C cl fp)) hs) fun D σ H ⟨c, wd, env, pe, r, h, o⟩ =>
    lc_lift ⟨c, wd, env, _, _, r, h, o.ex, fun xs env' h' v wd' H' le r' f => o.nx _ h' _ wd' H' le (r'.ownF f)⟩
end
end Pd

namespace Pd
open PySem PySem.Spec PyProof.Rows L2 LamX

/-! ### defs and their promises -/
abbrev Fn := List D → (D → Prop) → (Xc → Prop) → Prop
def spec (K : PySem.W.Frag) (T : List (Addr × Str)) (F : Fn) : Sp := fun vs H Q E => ∃ (wd : Wd) (ds : List D) (P : D → Prop) (Ex : Xc → Prop), Good T wd H ∧ Reps K wd vs ds ∧ F ds P Ex ∧ XOk K T ⟨wd, H, []⟩ E Ex ∧
  ∀ d, P d → ∀ (v : V) (wd' : Wd) (H' : Hp), Ord wd wd' H → Good T wd' H' → Keep wd H H' → Rep K wd' v d → Q v H'
structure DefOk (P : Program) (w : World) (K : PySem.W.Frag) (mg : Str → Option Value) (base : Heap) (T : List (Addr × Str)) (x : Str) (k : Nat) (ps : List Str) (F : Fn) : Prop where
  ex : ∃ (f : Addr) (fd : FuncData), mg x = some (.ref f) ∧ PySem.W.keepIn K (.ref f) = true ∧ Binds K fd ps [] ∧ FnOk P w K mg base (L2.CX P w) k f fd ps (spec K T F) ∧ ∃ oc od osl, K.lookup f = some ⟨oc, od, .func fd, osl⟩
theorem DefOk.up {P : Program} {w : World} {K : PySem.W.Frag} {mg : Str → Option Value} {base : Heap} {T : List (Addr × Str)} {x : Str} {j k : Nat} {ps : List Str} {F : Fn} (d : DefOk P w K mg base T x j ps F) (h : j ≤ k) : DefOk P w K mg base T x k ps F := by
  obtain ⟨f, fd, a, b, c, e⟩ := d.ex
  exact ⟨f, fd, a, b, c, e.1.mono h, e.2⟩
section
variable {X : Cx} {T : List (Addr × Str)} {E : XK} {k : Nat}
def wCall (F : Fn) (a : W (List D)) : W D := a.bind fun ds env Q ex => F ds (fun d => Q d env) ex
theorem XOk.into {K : PySem.W.Frag} {c : Ctx} {E : XK} {Ex : Xc → Prop} {wd : Wd} {H : Hp} (x : XOk K T c E Ex) (o : Ord c.wd wd c.H) (kp : Keep c.wd c.H H) : XOk K T ⟨wd, H, []⟩ E Ex :=
  fun y hy cl dd wd' H' o' g' k' r => x y hy cl dd wd' H' (o.trans o' kp) g' (kp.trans o k') r
theorem lift_call {F : Fn} {a : W (List D)} {σ : L2.St} {H : Hp} {Q : VK} (h : lift X.K T (rE X.K) E (wCall F a) σ H Q) : tCall (spec X.K T F) [] E (lift X.K T (rA X.K) E a) σ H Q := by
  obtain ⟨c, wd, env, P, Ex, r, h, xo, kk⟩ := h
  refine ⟨c, wd, env, _, Ex, r, h, xo, fun ds env1 h1 vs wd1 H1 le1 r1 rp1 => ?_⟩
  show spec X.K T F (vs ++ []) H1 Q E
  rw [List.append_nil]
  exact ⟨wd1, ds, _, Ex, r1.good, rp1, h1, xo.into r1.ord r1.keep, fun d hd v wd2 H2 o2 g2 k2 rp2 => kk d env1 hd v wd2 H2 (le1.trans o2.le) (r1.go o2 g2 k2) rp2⟩
theorem je_call {x : Str} {ps : List Str} {F : Fn} {e : Expr} {es : List Expr} {a : W (List D)} {p pos : Pos} {j : Nat} (B : Bd X E k) (G : DefOk X.prog X.w X.K X.mg X.base T x j ps F) (ha : JA T X E (e :: es) a) (hj : j ≤ k := by decide) (hg : Gl X x := by rfl)
    (hdb : (x == ("__debug__" : Str)) = false := by decide) (he : starEach (e :: es) X.env = (false, eval e X.env) :: starEach es X.env := by rfl) (hpl : (backTo pos (starEach es X.env)).any (·.1) = false := by rfl) : JE T X E (.Call (.Name x p) (e :: es) [] pos) (wCall F a) := by
  obtain ⟨f, fd, g1, g2, g3, g4⟩ := G.ex
  exact peI (pe_call g4.1 (B.room.mono hj) hg g1 g2 g3 .nil B.pass ha hdb he hpl) fun σ H Q h => lift_call h
theorem je_call0 {x : Str} {ps : List Str} {F : Fn} {p pos : Pos} {j : Nat} (B : Bd X E k) (G : DefOk X.prog X.w X.K X.mg X.base T x j ps F) (hj : j ≤ k := by decide) (hg : Gl X x := by rfl)
    (hdb : (x == ("__debug__" : Str)) = false := by decide) : JE T X E (.Call (.Name x p) [] [] pos) (wCall F wNil) := by
  obtain ⟨f, fd, g1, g2, g3, g4⟩ := G.ex
  refine peI (pe_call0 g4.1 (B.room.mono hj) hg g1 g2 g3 .nil B.pass hdb) fun σ H Q ⟨c, wd, env, P, Ex, r, h, xo, kk⟩ => ?_
  exact ⟨wd, [], _, Ex, r.good, .nil, h, xo.into r.ord r.keep, fun d hd v wd2 H2 o2 g2 k2 rp2 => kk d env hd v wd2 H2 o2.le (r.go o2 g2 k2) rp2⟩
end
def startE (N : List Str) (ds : List D) : PEnv := ds.map (fun d => some (.d d)) ++ List.replicate (N.length - ds.length) none
section
variable {K : PySem.W.Frag} {T : List (Addr × Str)}
theorem reps_map {wd : Wd} {vs : List V} {ds : List D} (r : Reps K wd vs ds) {i : Nat} {s : Sl} (n : Nat) (h : (ds.map (fun d => some (Sl.d d)) ++ List.replicate n none)[i]? = some (some s)) :
    ∃ d v, s = .d d ∧ (vs.map some ++ List.replicate n none)[i]? = some (some v) ∧ Rep K wd v d := by
  by_cases hi : i < ds.length
  · rw [List.getElem?_append_left (by simpa using hi), List.getElem?_map] at h
    cases e : ds[i]? with
    | none =>
      rw [e] at h
      cases h
    | some d =>
      rw [e] at h
      cases h
      obtain ⟨v, e1, r1⟩ := r.get e
      refine ⟨d, v, rfl, ?_, r1⟩
      rw [List.getElem?_append_left (by rw [List.length_map, r.length]; exact hi), List.getElem?_map, e1]
      rfl
  · rw [List.getElem?_append_right (by simpa using hi), List.getElem?_replicate] at h
    split at h <;> cases h
theorem rel_start {wd : Wd} {H : Hp} {N : List Str} {vs : List V} {ds : List D} (g : Good T wd H) (r : Reps K wd vs ds) : Rel K T ⟨wd, H, []⟩ wd (startE N ds) (L2.start N vs) H := by
  have key : ∀ {i : Nat} {s : Sl}, (startE N ds)[i]? = some (some s) → ∃ d v, s = .d d ∧ (L2.start N vs)[i]? = some (some v) ∧ Rep K wd v d := fun {i s} h => by
    unfold startE at h
    unfold L2.start
    rw [r.length]
    exact reps_map r _ h
  refine ⟨Ord.refl _ _, g, Keep.refl _ _, ?_, fun i x e => ?_, fun i xs e => ?_, fun i j xs ys p e1 e2 e3 e4 => ?_, fun q hq => absurd hq (by simp), ⟨fun i p C fs e => ?_, fun i j p p' C C' fs gs e _ => ?_, fun i cs e => ?_, fun i cs e => ?_, fun i j cs ds e _ => ?_, fun i lk kvs e => ?_, fun i j lk lk' ks ls p e _ _ _ => ?_⟩⟩
  · unfold startE L2.start
    rw [List.length_append, List.length_append, List.length_map, List.length_map, List.length_replicate, List.length_replicate, r.length]
  · obtain ⟨d, v, z, h1, h2⟩ := key e
    cases z
    exact ⟨v, h1, h2⟩
  · obtain ⟨d, v, z, _⟩ := key e
    cases z
  · obtain ⟨d, v, z, _⟩ := key e1
    cases z
  all_goals
    obtain ⟨d, v, z, _⟩ := key e
    cases z
end
/-- the ends of a def's body -/
def dEnds (P : D → Prop) (Ex : Xc → Prop) : PEnds := { nx := fun _ => P .non, rt := P, ex := Ex }
section
variable {P : Program} {w : World} {K : PySem.W.Frag} {mg : Str → Option Value} {base : Heap} {T : List (Addr × Str)}
/-- THE RULE for a def: its body's wish, and that the promise gives it -/
theorem def_ok {x : Str} {ag : Arguments} {body : List Stmt} {scope : Scope} {f : Addr} {fd : FuncData} {N ps : List Str} {k : Nat} {F : Fn} (D : FunD K x x ag body scope [] [] f fd) (S : FnScope N ps scope) (gm : mg x = some (.ref f)) (bn : Binds K fd ps [])
    (len : ∀ ds Q Ex, F ds Q Ex → ds.length = ps.length)
    (hd : ∀ (cdv : Value) (A : Around) (outer : List Env) (s : Shared) (H : Hp) (E : XK), Bd (cxOf (L2.CX P w) P w K mg base N x scope f cdv A outer s H E) E k → Takes (cxOf (L2.CX P w) P w K mg base N x scope f cdv A outer s H E) (fun cls d _ H => E cls d H) →
      ∃ wb, JSs T (cxOf (L2.CX P w) P w K mg base N x scope f cdv A outer s H E) E body wb ∧ ∀ ds Q Ex, F ds Q Ex → wb (dEnds Q Ex) (startE N ds)) : DefOk P w K mg base T x (k + 1) ps F := by
  refine ⟨f, fd, gm, D.kp, bn, ?_, by
    obtain ⟨oc, od, dV, kV, doc, pm, an, cdv, ct, osl, _, lk, _⟩ := D.ex
    exact ⟨oc, od, osl, lk⟩⟩
  refine D.ok S (fun vs H Q E h => ?_) (fun cdv A outer s H vs Q E hr h => ?_)
  · obtain ⟨wd, ds, P, Ex, _, r, h, _⟩ := h
    rw [r.length]
    exact len _ _ _ h
  · obtain ⟨wd, ds, P1, Ex, g, r, h, xo, kk⟩ := h
    have tk : Takes (cxOf (L2.CX P w) P w K mg base N x scope f cdv A outer s H E) (fun cls d _ H => E cls d H) := takes_of rfl rfl rfl rfl
    have B : Bd (cxOf (L2.CX P w) P w K mg base N x scope f cdv A outer s H E) E k := ⟨hr, passes_call tk fun _ _ _ _ h => h, passes_of rfl, rfl, S.nd⟩
    obtain ⟨wb, hj, hw⟩ := hd cdv A outer s H E B tk
    refine ⟨_, hj, ⟨wd, H, []⟩, wd, startE N ds, dEnds P1 Ex, rel_start g r, hw ds P1 Ex h, ⟨xo, fun env' hn σ' wd' H' le r' => ?_, fun d hd v wd' H' o' g' k' rp => kk d hd v wd' H' o' g' k' rp, fun _ z => z.elim, fun _ z => z.elim⟩⟩
    exact kk .non hn .non wd' H' r'.ord r'.good r'.keep .non
end
end Pd

namespace Pd
open PySem PySem.Spec PyProof.Rows L2 LamX

/-! ### tuple * k for k = 1 and for k <= 0: the road to tuple.__mul__, then what it answers -/
/-- a tuple's own record -/
abbrev tupO (dd : Option Addr) (sl : Array (Option Value)) (items : Array Value) (n : Nat) : Obj := { cls := .type "tuple", dict := dd, data := .seq items n, slots := sl }
/-- tuple * int answers what tuple.__mul__ answers -/
theorem mul_road {X : Cx} {pins : List (Addr × Obj)} {σ : L2.St} {s : Shared} {l : Addr} {k : Int} {t : Tok} {items : Array Value} {n : Nat} {dd : Option Addr} {sl : Array (Option Value)} {Q : VK} {S : PySem.Spec}
    (at_ : s.heap.get? l = some (tupO dd sl items n)) (own : Meets (Builtin.«tuple.__mul__» ⟨[.ref l, .int k t], []⟩) S)
    (told : S X.A (wants (EP X pins σ Q) X.xe) s) : wpAny (model X.prog X.w) X.A (binaryOp .Mult (.ref l) (.int k t)) (EP X pins σ Q) X.xe s := by
  have ty : s.TypeIs (.ref l) "tuple" := ⟨_, at_, rfl⟩
  have num : ∀ s' : Shared, s'.TypeIs (.int k t) "int" := fun s' => typeIs_int s' k t
  apply wpAny_binaryOp_repeat_ref (by decide) ty num noFill_tuple_mul F.fills_int_mul F.slot_int_rmul repeat_tuple F.slot_int_index.lookup
  apply call_meets F.slot_int_rmul (num s) F.entry_int_rmul (F.args_int_rmul_2 _ _) (int_rmul_tuple k t l items n dd sl)
  exact ⟨at_, rfl, ty, call_meets F.slot_tuple_mul ty F.entry_tuple_mul (F.args_tuple_mul_2 _ _) own told⟩
/-- none of a tuple: an empty one -/
theorem mul_none {l : Addr} {items : Array Value} {n : Nat} {dd : Option Addr} {sl : Array (Option Value)} {k : Int} {u : Tok} (full : items.isEmpty = false) (k0 : k ≤ 0) (k1 : -1000 ≤ k) :
    Meets (Builtin.«tuple.__mul__» ⟨[.ref l, .int k u], []⟩) fun _ R s => s.heap.get? l = some (tupO dd sl items n) ∧ R (.ok (.ret (.ref s.heap.objs.size))) { s with heap := s.heap.push { cls := .type "tuple", data := .seq #[] } } := by
  apply Meets.of_wp
  rintro prog w A R ⟨hp, g, d, tk, os⟩ ⟨at_, told⟩
  have small : ¬ ((decide (k < -(2 ^ 63)) || decide (k ≥ 2 ^ 63)) = true) := by simp; omega
  have other : ¬ ((items.isEmpty || k == 1) = true) := by simp [full]; omega
  have none_ : (decide (k ≤ 0) || items.isEmpty) = true := by simp [k0]
  have ix := AutoSeq1.idx_int
  wp_walk using AutoSeq1.wpAny_loadPart' at_
  repeat (first
    | (apply wpAny_ite_false (decide_eq_false small); wp_walk using AutoSeq1.wpAny_loadPart' at_)
    | (apply wpAny_ite_false (decide_eq_false other); wp_walk using AutoSeq1.wpAny_loadPart' at_)
    | (apply wpAny_ite_true (decide_eq_true none_); wp_walk using AutoSeq1.wpAny_loadPart' at_))
  exact ⟨_, rfl, told⟩
def rRepN (K : PySem.W.Frag) : R2 := fun x y H Q => ∃ l k xs, x = .ref l ∧ y = .int k ∧ SqT K H l xs ∧ xs ≠ [] ∧ k ≤ 0 ∧ -1000 ≤ k ∧ ∀ p, H p = none → Q (.ref p) (upd H p (.tup []))
theorem op_repN {X : Cx} : OpR X (binaryOp .Mult) (rRepN X.K) := by
  intro pins s σ H x y v u Q I rx ry
  rintro ⟨l, k, xs, rfl, rfl, hT, some_, k0, k1, q⟩
  cases rx
  obtain ⟨t, rfl⟩ := ry
  obtain ⟨its, same, ⟨⟨_, dd, _, sl⟩, at_, rfl, n, rfl⟩, _⟩ := I.tuple hT
  have full : its.toArray.isEmpty = false := by
    cases same
    · exact (some_ rfl).elim
    · rfl
  have fresh : H s.heap.objs.size = none := I.hok.fresh (Nat.le_refl _)
  have laid := I.laid (t' := s.toks) (h' := s.heap.push { cls := .type "tuple", data := .seq #[] }) (o := .tup []) (fun _ _ e => Heap.get?_push_of_some _ e) (Nat.le_refl _) ⟨Nat.zero_le _, [], .nil, IsTup.new _ _⟩
  exact mul_road at_ (mul_none full k0 k1) ⟨at_, .ref s.heap.objs.size, _, laid, rfl, q _ fresh⟩
/-- a tuple once: it itself -/
theorem mul_once {l : Addr} {items : Array Value} {n : Nat} {dd : Option Addr} {sl : Array (Option Value)} {u : Tok} :
    Meets (Builtin.«tuple.__mul__» ⟨[.ref l, .int 1 u], []⟩) fun _ R s => s.heap.get? l = some (tupO dd sl items n) ∧ R (.ok (.ret (.ref l))) s := by
  apply Meets.of_wp
  rintro prog w A R ⟨hp, g, d, tk, os⟩ ⟨at_, told⟩
  have ix := AutoSeq1.idx_int
  wp_walk using AutoSeq1.wpAny_loadPart' at_
  exact ⟨_, rfl, told⟩
def rOne (K : PySem.W.Frag) : R2 := fun x y H Q => ∃ l xs, x = .ref l ∧ y = .int 1 ∧ SqT K H l xs ∧ Q (.ref l) H
theorem op_one {X : Cx} : OpR X (binaryOp .Mult) (rOne X.K) := by
  intro pins s σ H x y v u Q I rx ry
  rintro ⟨l, xs, rfl, rfl, hT, q⟩
  cases rx
  obtain ⟨t, rfl⟩ := ry
  obtain ⟨its, _, ⟨⟨_, dd, _, sl⟩, at_, rfl, n, rfl⟩, _⟩ := I.tuple hT
  exact mul_road at_ mul_once ⟨at_, .ref l, H, I, rfl, q⟩

/-! ### operators on data -/
def dAdd : D → D → Option D
  | .int a, .int b => some (.int (a + b))
  | .tup xs, .tup ys => if xs.length + ys.length ≤ 1000000 then some (.tup (xs ++ ys)) else none
  | .lst xs, .lst ys => if xs.length + ys.length ≤ 1000000 then some (.lst (xs ++ ys)) else none
  | .str x, .str y => if x.length + y.length ≤ 1000000 then some (.str (x ++ y)) else none
  | _, _ => none
def dSub : D → D → Option D
  | .int a, .int b => some (.int (a - b))
  | _, _ => none
def dMul : D → D → Option D
  | .int a, .int b => if (a.natAbs < 2 ^ 64 ∨ b.natAbs < 2 ^ 64) ∨ a.natAbs.log2 + b.natAbs.log2 < 1000000 then some (.int (a * b)) else none
  | .tup xs, .int k => if xs ≠ [] ∧ -1000 ≤ k ∧ k ≤ 1000 ∧ xs.length ≤ 1000 then some (.tup (List.replicate k.toNat xs).flatten) else none
  | .lst xs, .int k => if -1000000 ≤ k ∧ k ≤ 1000000 ∧ xs.length * k.toNat ≤ 1000000 then some (.lst (List.replicate k.toNat xs).flatten) else none
  | _, _ => none
def dDiv : D → D → Option D
  | .int a, .int b => if 0 < b ∧ b.natAbs.log2 < 9000 then some (.int (a / b)) else none
  | _, _ => none
def dMod : D → D → Option D
  | .int a, .int b => if 0 < b then some (.int (a % b)) else none
  | _, _ => none
def dPow : D → D → Option D
  | .int a, .int b => if 0 ≤ b ∧ (Builtin.Int.intBits a : Int) * b ≤ 2 ^ 27 then some (.int (a ^ b.toNat)) else none
  | _, _ => none
def dCmp (p : Int → Int → Bool) : D → D → Option D
  | .int a, .int b => some (.bl (p a b))
  | _, _ => none
abbrev dLt := dCmp fun a b => decide (a < b)
abbrev dLe := dCmp fun a b => decide (a ≤ b)
abbrev dGt := dCmp fun a b => decide (b < a)
abbrev dGe := dCmp fun a b => decide (b ≤ a)
mutual
def toPy : D → PyData
  | .bl b => .bool b
  | .int i => .int i
  | .str x => .str x
  | .tup xs => .tuple (toPys xs)
  | .lst xs => .list (toPys xs)
  | _ => .none
def toPys : List D → List PyData
  | [] => []
  | x :: xs => toPy x :: toPys xs
end
def plain : Nat → D → Bool
  | 0, _ => false
  | n + 1, d => match d with
    | .non => true
    | .bl _ => true
    | .int _ => true
    | .str x => PyData.strOk x
    | .tup xs => xs.all (plain n)
    | .lst xs => xs.all (plain n)
    | _ => false
mutual
def eqb : D → D → Bool
  | .non, .non => true
  | .bl a, .bl b => a == b
  | .bl a, .int j => (if a then 1 else 0) == j
  | .int i, .bl b => i == (if b then 1 else 0)
  | .int i, .int j => i == j
  | .str x, .str y => x == y
  | .lst xs, .lst ys => eqbs xs ys
  | .tup xs, .tup ys => eqbs xs ys
  | _, _ => false
def eqbs : List D → List D → Bool
  | [], [] => true
  | x :: xs, y :: ys => eqb x y && eqbs xs ys
  | _, _ => false
end
def dEq (x y : D) : Option D := if plain 60 x && plain 60 y then some (.bl (eqb x y)) else none
def dNe (x y : D) : Option D := if plain 60 x && plain 60 y then some (.bl (!eqb x y)) else none
theorem ite_some {α : Type} {c : Prop} [Decidable c] {a z : α} (h : (if c then some a else none) = some z) : c ∧ a = z := by
  split at h
  · exact ⟨by assumption, Option.some.inj h⟩
  · cases h
theorem plain_succ (n : Nat) (d : D) : plain (n + 1) d = (match d with
    | .non => true
    | .bl _ => true
    | .int _ => true
    | .str x => PyData.strOk x
    | .tup xs => xs.all (plain n)
    | .lst xs => xs.all (plain n)
    | _ => false) := rfl
mutual
theorem plain_lay : ∀ (n : Nat) (d : D), plain n d = true → (toPy d).canLay0 = true ∧ (toPy d).depth ≤ n
  | 0, d, h => by cases h
  | n + 1, .non, _ => by simp [toPy, PyData.canLay0, PyData.depth]
  | n + 1, .bl b, _ => by simp [toPy, PyData.canLay0, PyData.depth]
  | n + 1, .int b, _ => by simp [toPy, PyData.canLay0, PyData.depth]
  | n + 1, .str b, h => by
    have h' : PyData.strOk b = true := h
    simp [toPy, PyData.canLay0, PyData.depth, h']
  | n + 1, .tup xs, h => by
    have h' : xs.all (plain n) = true := h
    obtain ⟨a, b⟩ := plains_lay n xs h'
    simp only [toPy, PyData.canLay0, PyData.depth]
    exact ⟨a, by omega⟩
  | n + 1, .lst xs, h => by
    have h' : xs.all (plain n) = true := h
    obtain ⟨a, b⟩ := plains_lay n xs h'
    simp only [toPy, PyData.canLay0, PyData.depth]
    exact ⟨a, by omega⟩
  | n + 1, .scr _, h => by cases h
  | n + 1, .dic _, h => by cases h
  | n + 1, .dit _, h => by cases h
  | n + 1, .ins _ _, h => by cases h
  | n + 1, .box _, h => by cases h
  | n + 1, .raw _, h => by cases h
  | n + 1, .cls _, h => by cases h
theorem plains_lay : ∀ (n : Nat) (ds : List D), ds.all (plain n) = true → PyData.canLayAll0 (toPys ds) = true ∧ PyData.depthAll (toPys ds) ≤ n
  | n, [], _ => by simp [toPys, PyData.canLayAll0, PyData.depthAll]
  | n, d :: ds, h => by
    rw [List.all_cons, Bool.and_eq_true] at h
    obtain ⟨a, b⟩ := plain_lay n d h.1
    obtain ⟨a2, b2⟩ := plains_lay n ds h.2
    simp only [toPys, PyData.canLayAll0, PyData.depthAll, a, a2, Bool.and_self, true_and]
    omega
end

mutual
theorem eqv_eqb : ∀ (n : Nat) (x y : D), plain n x = true → plain n y = true → PyData.eqv (toPy x) (toPy y) = eqb x y
  | 0, x, _, h, _ => by cases h
  | n + 1, .non, y, _, hy => by cases y <;> first | rfl | cases hy
  | n + 1, .bl b, y, _, hy => by cases y <;> first | rfl | cases hy
  | n + 1, .int b, y, _, hy => by cases y <;> first | rfl | cases hy
  | n + 1, .str b, y, _, hy => by cases y <;> first | rfl | cases hy
  | n + 1, .tup xs, y, hx, hy => by
    cases y <;> first | rfl | cases hy | exact eqvs_eqbs n xs _ hx hy
  | n + 1, .lst xs, y, hx, hy => by
    cases y <;> first | rfl | cases hy | exact eqvs_eqbs n xs _ hx hy
  | n + 1, .scr _, _, h, _ => by cases h
  | n + 1, .dic _, _, h, _ => by cases h
  | n + 1, .dit _, _, h, _ => by cases h
  | n + 1, .ins _ _, _, h, _ => by cases h
  | n + 1, .box _, _, h, _ => by cases h
  | n + 1, .raw _, _, h, _ => by cases h
  | n + 1, .cls _, _, h, _ => by cases h
theorem eqvs_eqbs : ∀ (n : Nat) (xs ys : List D), xs.all (plain n) = true → ys.all (plain n) = true → PyData.eqvAll (toPys xs) (toPys ys) = eqbs xs ys
  | n, [], [], _, _ => rfl
  | n, [], _ :: _, _, _ => rfl
  | n, _ :: _, [], _, _ => rfl
  | n, x :: xs, y :: ys, hx, hy => by
    rw [List.all_cons, Bool.and_eq_true] at hx hy
    show (PyData.eqv (toPy x) (toPy y) && PyData.eqvAll (toPys xs) (toPys ys)) = (eqb x y && eqbs xs ys)
    rw [eqv_eqb n x y hx.1 hy.1, eqvs_eqbs n xs ys hx.2 hy.2]
end
section
variable {K : PySem.W.Frag} {T : List (Addr × Str)} {wd : Wd} {H : Hp}
mutual
theorem rep_dp (g : Good T wd H) : ∀ (n : Nat) {v : V} {d : D}, plain n d = true → Rep K wd v d → Dp K H v (toPy d)
  | 0, _, _, h, _ => by cases h
  | n + 1, _, _, _, .non => .non
  | n + 1, _, _, _, .bl b => .bl b
  | n + 1, _, _, _, .int b => .int b
  | n + 1, _, _, _, .str b => .str b
  | n + 1, _, _, h, .tup hs rs => .tup (sub_sqT g hs) (reps_dp g n h rs)
  | n + 1, _, _, h, .lst hs rs => .lst (sub_sqL g hs) (reps_dp g n h rs)
  | n + 1, _, _, h, .scr _ => by cases h
  | n + 1, _, _, h, .dic _ _ _ => by cases h
  | n + 1, _, _, h, .dit _ _ _ => by cases h
  | n + 1, _, _, h, .ins _ _ _ => by cases h
  | n + 1, _, _, h, .box _ => by cases h
  | n + 1, _, _, h, .raw _ => by cases h
  | n + 1, _, _, h, .cls _ => by cases h
theorem reps_dp (g : Good T wd H) : ∀ (n : Nat) {vs : List V} {ds : List D}, ds.all (plain n) = true → Reps K wd vs ds → DpAll K H vs (toPys ds)
  | n, _, _, _, .nil => .nil
  | n, _, _, h, .cons a b => by
    rw [List.all_cons, Bool.and_eq_true] at h
    exact .cons (rep_dp g n h.1 a) (reps_dp g n h.2 b)
end
end
theorem plain_shaped {d : D} (h : plain 60 d = true) : SeqAt.shaped (toPy d) = true := by
  obtain ⟨a, b⟩ := plain_lay 60 d h
  unfold SeqAt.shaped
  rw [a, Bool.true_and]
  exact decide_eq_true (Nat.le_trans b (by decide))
section
variable {X : Cx}
theorem opD_eq (hu : X.A.units + 64 < cLine) : OpD X (compareOp .Eq) dEq := ⟨_, op_eqD hu, fun x y z e T wd H v u Q g rx ry d => by
  obtain ⟨h, rfl⟩ := ite_some e
  rw [Bool.and_eq_true] at h
  refine ⟨toPy x, toPy y, rep_dp g 60 h.1 rx, rep_dp g 60 h.2 ry, plain_shaped h.1, plain_shaped h.2, ?_⟩
  rw [eqv_eqb 60 x y h.1 h.2]
  exact d.now (.bl _)⟩
theorem opD_ne (hu : X.A.units + 64 < cLine) : OpD X (compareOp .NotEq) dNe := ⟨_, op_neD hu, fun x y z e T wd H v u Q g rx ry d => by
  obtain ⟨h, rfl⟩ := ite_some e
  rw [Bool.and_eq_true] at h
  refine ⟨toPy x, toPy y, rep_dp g 60 h.1 rx, rep_dp g 60 h.2 ry, plain_shaped h.1, plain_shaped h.2, ?_⟩
  rw [eqv_eqb 60 x y h.1 h.2]
  exact d.now (.bl _)⟩
theorem cmp_of {op : CmpOp} {p : Int → Int → Bool} (h : OpR X (compareOp op) (rI0 fun i j => .bl (p i j))) : OpD X (compareOp op) (dCmp p) := ⟨_, h, fun x y z e T wd H v u Q g rx ry d => by
  cases rx <;> first | cases e | skip
  cases ry <;> first | cases e | skip
  exact ⟨_, _, rfl, rfl, d.now (.bl _)⟩⟩
theorem opD_lt : OpD X (compareOp .Lt) dLt := cmp_of op_lt
theorem opD_le : OpD X (compareOp .LtE) dLe := cmp_of op_le
theorem opD_gt : OpD X (compareOp .Gt) dGt := cmp_of op_gt
theorem opD_ge : OpD X (compareOp .GtE) dGe := cmp_of op_ge
theorem opD_sub : OpD X (binaryOp .Sub) dSub := ⟨_, op_sub, fun x y z e T wd H v u Q g rx ry d => by
  cases rx <;> first | cases e | skip
  cases ry <;> first | cases e | skip
  exact ⟨_, _, rfl, rfl, d.now (.int _)⟩⟩
theorem opD_mod : OpD X (binaryOp .Mod) dMod := ⟨_, op_mod, fun x y z e T wd H v u Q g rx ry d => by
  cases rx <;> first | cases e | skip
  cases ry <;> first | cases e | skip
  obtain ⟨h, rfl⟩ := ite_some e
  exact ⟨_, _, rfl, rfl, h, d.now (.int _)⟩⟩
theorem opD_div : OpD X (binaryOp .FloorDiv) dDiv := ⟨_, op_fdivW, fun x y z e T wd H v u Q g rx ry d => by
  cases rx <;> first | cases e | skip
  cases ry <;> first | cases e | skip
  obtain ⟨h, rfl⟩ := ite_some e
  exact ⟨_, _, rfl, rfl, h, d.now (.int _)⟩⟩
theorem op_powB : OpR X (binaryOp .Pow) (rI (fun i j => 0 ≤ j ∧ (Builtin.Int.intBits i : Int) * j ≤ 2 ^ 27) fun i j => .int (i ^ j.toNat)) := opI fun _ _ _ _ _ _ _ hc q => pow_int hc.1 hc.2 q
theorem opD_pow : OpD X (binaryOp .Pow) dPow := ⟨_, op_powB, fun x y z e T wd H v u Q g rx ry d => by
  cases rx <;> first | cases e | skip
  cases ry <;> first | cases e | skip
  obtain ⟨h, rfl⟩ := ite_some e
  exact ⟨_, _, rfl, rfl, h, d.now (.int _)⟩⟩
theorem opD_add : OpD X (binaryOp .Add) dAdd := ⟨_, ((op_add.or op_catA).or op_cat).or op_add_str, fun x y z e T wd H v u Q g rx ry d => by
  cases rx with
  | int a =>
    cases ry with
    | int b =>
      cases e
      exact .inl (.inl (.inl ⟨_, _, rfl, rfl, d.now (.int _)⟩))
    | _ => cases e
  | str a =>
    cases ry with
    | str b =>
      obtain ⟨h, rfl⟩ := ite_some e
      exact .inr ⟨_, _, rfl, rfl, sz6 h, d.now (.str _)⟩
    | _ => cases e
  | tup h1 r1 =>
    cases ry with
    | tup h2 r2 =>
      obtain ⟨h, rfl⟩ := ite_some e
      have hz := sz6 h
      rw [← r1.length, ← r2.length] at hz
      refine .inl (.inl (.inr ⟨_, _, _, _, rfl, rfl, sub_sqT g h1, sub_sqT g h2, hz, fun z => ?_, fun _ z => ?_, fun _ _ p hp => ?_⟩))
      · rw [z] at r1
        cases r1
        exact d.now (.tup h2 r2)
      · rw [z] at r2
        cases r2
        rw [List.append_nil] at d
        exact d.now (.tup h1 r1)
      · exact d.tup g hp (r1.append r2) (by rw [List.length_append]; exact hz)
    | _ => cases e
  | lst h1 r1 =>
    cases ry with
    | lst h2 r2 =>
      obtain ⟨h, rfl⟩ := ite_some e
      have hz := sz6 h
      rw [← r1.length, ← r2.length] at hz
      exact .inl (.inr ⟨_, _, _, _, rfl, rfl, g.sub _ _ h1, g.sub _ _ h2, hz, fun p hp => d.lst g hp (r1.append r2) (by rw [List.length_append]; exact hz)⟩)
    | _ => cases e
  | _ => cases e⟩
theorem rep_len {α : Type} (n : Nat) (xs : List α) : (List.replicate n xs).flatten.length = n * xs.length := by
  induction n with
  | zero => simp
  | succ n ih =>
    rw [List.replicate_succ, List.flatten_cons, List.length_append, ih, Nat.succ_mul]
    omega
theorem rep_one {α : Type} (xs : List α) : (List.replicate (Int.toNat 1) xs).flatten = xs := by
  show (List.replicate 1 xs).flatten = xs
  rw [List.replicate_succ, List.replicate_zero, List.flatten_cons, List.flatten_nil, List.append_nil]
theorem opD_mul : OpD X (binaryOp .Mult) dMul := ⟨_, ((((op_mul.or op_mulW).or op_repT).or op_rep).or op_one).or op_repN, fun x y z e T wd H v u Q g rx ry d => by
  cases rx with
  | int a =>
    cases ry with
    | int b =>
      obtain ⟨h, rfl⟩ := ite_some e
      rcases h with h | h
      · refine .inl (.inl (.inl (.inl (.inl ⟨_, _, rfl, rfl, ?_, d.now (.int _)⟩))))
        rcases h with h | h
        · exact .inl ⟨by omega, by omega⟩
        · exact .inr ⟨by omega, by omega⟩
      · exact .inl (.inl (.inl (.inl (.inr ⟨_, _, rfl, rfl, h, d.now (.int _)⟩))))
    | _ => cases e
  | tup h1 r1 =>
    cases ry with
    | int b =>
      obtain ⟨h, rfl⟩ := ite_some e
      obtain ⟨q1, q2, q3, q4⟩ := h
      by_cases q5 : b = 1
      · subst q5
        refine .inl (.inr ⟨_, _, rfl, rfl, sub_sqT g h1, d.now ?_⟩)
        rw [rep_one]
        exact .tup h1 r1
      by_cases q6 : b ≤ 0
      · rw [show b.toNat = 0 by omega] at d
        refine .inr ⟨_, _, _, rfl, rfl, sub_sqT g h1, fun z => ?_, q6, q2, fun p hp => d.tup g hp .nil (Nat.zero_le _)⟩
        rw [z] at r1
        cases r1
        exact q1 rfl
      refine .inl (.inl (.inl (.inr ⟨_, _, _, rfl, rfl, sub_sqT g h1, fun z => ?_, by omega, q3, by rw [r1.length]; exact q4, fun p hp => d.tup g hp (r1.rep _) ?_⟩)))
      · rw [z] at r1
        cases r1
        exact q1 rfl
      · rw [rep_len, r1.length]
        have m1 : b.toNat * _ ≤ 1000 * 1000 := Nat.mul_le_mul (show b.toNat ≤ 1000 by omega) q4
        exact Nat.le_trans m1 (by decide)
    | _ => cases e
  | lst h1 r1 =>
    cases ry with
    | int b =>
      obtain ⟨h, rfl⟩ := ite_some e
      obtain ⟨q1, q2, q3⟩ := h
      have hz : _ * b.toNat ≤ sizeLine := sz6 q3
      rw [← r1.length] at hz
      refine .inl (.inl (.inr ⟨_, _, _, rfl, rfl, g.sub _ _ h1, by omega, by omega, hz, fun p hp => d.lst g hp (r1.rep _) ?_⟩))
      rw [rep_len, Nat.mul_comm]
      exact hz
    | _ => cases e
  | _ => cases e⟩
theorem opI_add : OpDI X .Add (fun x y => match x, y with | .int a, .int b => some (.int (a + b)) | _, _ => none) := ⟨_, ip_add, fun x y z e T wd H v u Q g rx ry d => by
  cases rx <;> first | cases e | skip
  cases ry <;> first | cases e | skip
  exact ⟨_, _, rfl, rfl, d.now (.int _)⟩⟩
theorem opI_sub : OpDI X .Sub (fun x y => match x, y with | .int a, .int b => some (.int (a - b)) | _, _ => none) := ⟨_, ip_sub, fun x y z e T wd H v u Q g rx ry d => by
  cases rx <;> first | cases e | skip
  cases ry <;> first | cases e | skip
  exact ⟨_, _, rfl, rfl, d.now (.int _)⟩⟩
/-! ### is, is not; in, not in -/
def dIs : D → D → Option D
  | .bl a, .bl b => some (.bl (decide (a = b)))
  | .non, .non => some (.bl true)
  | .bl _, .non => some (.bl false)
  | .int _, .non => some (.bl false)
  | .str _, .non => some (.bl false)
  | .tup _, .non => some (.bl false)
  | .lst _, .non => some (.bl false)
  | .dic _, .non => some (.bl false)
  | .ins _ _, .non => some (.bl false)
  | _, _ => none
def dNot : Option D → Option D
  | some (.bl b) => some (.bl (!b))
  | _ => none
def dIsNot (x y : D) : Option D := dNot (dIs x y)
theorem opD_is : OpD X (compareOp .Is) dIs := ⟨_, op_isN.or op_isBl, fun x y z e T wd H v u Q g rx ry d => by
  cases ry with
  | non => cases rx <;> first | (cases e; exact .inl ⟨rfl, d.now (.bl _)⟩) | cases e
  | bl b => cases rx <;> first | (cases e; exact .inr ⟨_, _, rfl, rfl, d.now (.bl _)⟩) | cases e
  | _ => cases rx <;> cases e⟩
theorem opD_isNot : OpD X (compareOp .IsNot) dIsNot := ⟨_, op_notN.or op_notBl, fun x y z e T wd H v u Q g rx ry d => by
  cases ry with
  | non => cases rx <;> first | (cases e; exact .inl ⟨rfl, d.now (.bl _)⟩) | cases e
  | bl b => cases rx <;> first | (cases e; exact .inr ⟨_, _, rfl, rfl, d.now (.bl _)⟩) | cases e
  | _ => cases rx <;> cases e⟩
def dIn : D → D → Option D
  | x, .lst ys => if plain 59 x && ys.all (plain 59) then some (.bl (ys.any fun y => eqb y x)) else none
  | x, .tup ys => if plain 59 x && ys.all (plain 59) then some (.bl (ys.any fun y => eqb y x)) else none
  | _, _ => none
/-- in a tuple -/
def rInT (K : PySem.W.Frag) (b : Bool) : R2 := fun x y H Q => ∃ d ds, Dp K H x d ∧ Dp K H y (.tuple ds) ∧ SeqAt.shaped d = true ∧ SeqAt.shaped (.tuple ds) = true ∧ Q (.bl (xor b (ds.any fun z => PyData.eqv z d))) H
theorem op_inT (hu : X.A.units + 65 < cLine) : OpR X (compareOp .In) (rInT X.K false) := by
  rintro pins s σ H x y v u Q I rx ry ⟨d, ds, hd, he, sd, se, q⟩
  obtain ⟨as, r1⟩ := Dp.reads I d x v hd rx
  obtain ⟨bs, r2⟩ := Dp.reads I (.tuple ds) y u he ry
  refine SeqAt.in_tuple_reads r2 r1 (SeqAt.canLay_of_shaped se) (SeqAt.canLay_of_shaped sd) (room_in_shaped sd hu) ⟨.bl _, H, I, rfl, ?_⟩
  rw [Bool.false_xor] at q
  exact q
theorem op_notInT (hu : X.A.units + 65 < cLine) : OpR X (compareOp .NotIn) (rInT X.K true) := by
  rintro pins s σ H x y v u Q I rx ry ⟨d, ds, hd, he, sd, se, q⟩
  obtain ⟨as, r1⟩ := Dp.reads I d x v hd rx
  obtain ⟨bs, r2⟩ := Dp.reads I (.tuple ds) y u he ry
  refine SeqAt.notIn_tuple_reads r2 r1 (SeqAt.canLay_of_shaped se) (SeqAt.canLay_of_shaped sd) (room_in_shaped sd hu) ⟨.bl _, H, I, rfl, ?_⟩
  rw [Bool.true_xor] at q
  exact q
def dNotIn (x y : D) : Option D := dNot (dIn x y)
theorem any_py : ∀ (ys : List D) (x : D), plain 59 x = true → ys.all (plain 59) = true → ((toPys ys).any fun z => PyData.eqv z (toPy x)) = ys.any fun y => eqb y x
  | [], _, _, _ => rfl
  | y :: ys, x, hx, hy => by
    rw [List.all_cons, Bool.and_eq_true] at hy
    show (PyData.eqv (toPy y) (toPy x) || (toPys ys).any fun z => PyData.eqv z (toPy x)) = (eqb y x || ys.any fun y => eqb y x)
    rw [eqv_eqb 59 y x hy.1 hx, any_py ys x hx hy.2]
theorem plain_up {d : D} (h : plain 59 d = true) : SeqAt.shaped (toPy d) = true := by
  obtain ⟨a, b⟩ := plain_lay 59 d h
  unfold SeqAt.shaped
  rw [a, Bool.true_and]
  exact decide_eq_true (Nat.le_trans b (by decide))
theorem opD_in (hu : X.A.units + 65 < cLine) : OpD X (compareOp .In) dIn := ⟨_, (op_inD hu).or (op_inT hu), fun x y z e T wd H v u Q g rx ry d => by
  cases ry with
  | tup hs rs =>
    obtain ⟨h, rfl⟩ := ite_some e
    rw [Bool.and_eq_true] at h
    refine .inr ⟨toPy x, toPys _, rep_dp g 59 h.1 rx, .tup (sub_sqT g hs) (reps_dp g 59 h.2 rs), plain_up h.1, plain_shaped (d := .tup _) h.2, ?_⟩
    rw [any_py _ x h.1 h.2, Bool.false_xor]
    exact d.now (.bl _)
  | lst hs rs =>
    obtain ⟨h, rfl⟩ := ite_some e
    rw [Bool.and_eq_true] at h
    refine .inl ⟨toPy x, toPys _, rep_dp g 59 h.1 rx, .lst (sub_sqL g hs) (reps_dp g 59 h.2 rs), plain_up h.1, plain_shaped (d := .lst _) h.2, ?_⟩
    rw [any_py _ x h.1 h.2]
    exact d.now (.bl _)
  | _ => cases e⟩
theorem opD_notIn (hu : X.A.units + 65 < cLine) : OpD X (compareOp .NotIn) dNotIn := ⟨_, (op_notInD hu).or (op_notInT hu), fun x y z e T wd H v u Q g rx ry d => by
  cases ry with
  | tup hs rs =>
    have e1 : dNot (if (plain 59 x && List.all _ (plain 59)) = true then some (D.bl (List.any _ fun y => eqb y x)) else none) = some z := e
    split at e1
    · rename_i h
      rw [Bool.and_eq_true] at h
      cases e1
      refine .inr ⟨toPy x, toPys _, rep_dp g 59 h.1 rx, .tup (sub_sqT g hs) (reps_dp g 59 h.2 rs), plain_up h.1, plain_shaped (d := .tup _) h.2, ?_⟩
      rw [any_py _ x h.1 h.2, Bool.true_xor]
      exact d.now (.bl _)
    · cases e1
  | lst hs rs =>
    have e1 : dNot (if (plain 59 x && List.all _ (plain 59)) = true then some (D.bl (List.any _ fun y => eqb y x)) else none) = some z := e
    split at e1
    · rename_i h
      rw [Bool.and_eq_true] at h
      cases e1
      refine .inl ⟨toPy x, toPys _, rep_dp g 59 h.1 rx, .lst (sub_sqL g hs) (reps_dp g 59 h.2 rs), plain_up h.1, plain_shaped (d := .lst _) h.2, ?_⟩
      rw [any_py _ x h.1 h.2]
      exact d.now (.bl _)
    · cases e1
  | _ => cases e⟩
end
end Pd

namespace Pd
open PySem PySem.Spec PyProof.Rows L2 LamX

/-! ### calls of built-ins -/
section
variable {X : Cx} {T : List (Addr × Str)} {E : XK} {k : Nat}
/-- one argument, looked at only -/
structure CallB (X : Cx) (f : Value) (g : D → Option D) : Prop where
  ex : ∃ r : List V → Hp → VK → Prop, CallR X f r ∧ ∀ (x z : D), g x = some z → ∀ (T : List (Addr × Str)) (wd : Wd) (H : Hp) (v : V) (Q : VK), Good T wd H → Top X.K wd H v x → Del X.K wd H z Q → r [v] H Q
structure CallN (X : Cx) (f : Value) (g : List D → Option D) : Prop where
  ex : ∃ r : List V → Hp → VK → Prop, CallR X f r ∧ ∀ (xs : List D) (z : D), g xs = some z → ∀ (T : List (Addr × Str)) (wd : Wd) (H : Hp) (vs : List V) (Q : VK), Good T wd H → Reps X.K wd vs xs → Del X.K wd H z Q → r vs H Q
/-- what is made is a new list -/
def DelF (K : PySem.W.Frag) (wd : Wd) (H : Hp) (zs : List D) (Q : VK) : Prop := ∀ (p : Addr) (us : List V), H p = none → Reps K wd us zs → us.length ≤ sizeLine → Q (.ref p) (upd H p (.lst us))
structure CallF (X : Cx) (f : Value) (g : D → Option (List D)) : Prop where
  ex : ∃ r : List V → Hp → VK → Prop, CallR X f r ∧ ∀ (x : D) (zs : List D), g x = some zs → ∀ (T : List (Addr × Str)) (wd : Wd) (H : Hp) (v : V) (Q : VK), Good T wd H → Top X.K wd H v x → DelF X.K wd H zs Q → r [v] H Q
def w1 (g : D → Option D) (a : W D) : W D := a.bind fun x => .opt (g x)
def wN (g : List D → Option D) (a : W (List D)) : W D := a.bind fun x => .opt (g x)
def w1F (g : D → Option (List D)) (a : W D) : W (List D) := a.bind fun x => .opt (g x)
section
variable {x : Str} {p pos : Pos} {e : Expr} {es : List Expr} {id ty : String} {a : W D} {w : W (List D)}
theorem lift_1 {r : List V → Hp → VK → Prop} {g : D → Option D} {σ : L2.St} {H : Hp} {Q : VK}
    (hr : ∀ (x z : D), g x = some z → ∀ (T : List (Addr × Str)) (wd : Wd) (H : Hp) (v : V) (Q : VK), Good T wd H → Top X.K wd H v x → Del X.K wd H z Q → r [v] H Q)
    (h : lift X.K T (rE X.K) E (w1 g a) σ H Q) : tCB r (tCons (lift X.K T (rB X.K) E a) tNil) σ H Q := by
  obtain ⟨c, wd, env, P, Ex, rl, h, xo, k⟩ := h
  refine ⟨c, wd, env, _, Ex, rl, h, xo, fun x env1 h1 v wd1 H1 le1 r1 tp => ?_⟩
  obtain ⟨z, e1, h2⟩ := opt_inv h1
  exact hr x z e1 T wd1 H1 v Q r1.good tp fun w wd2 H2 g2 rp => k z env1 h2 w wd2 H2 (le1.trans (g2.le r1.good)) (r1.grow g2) rp
theorem lift_1F {r : List V → Hp → VK → Prop} {g : D → Option (List D)} {σ : L2.St} {H : Hp} {Q : VK}
    (hr : ∀ (x : D) (zs : List D), g x = some zs → ∀ (T : List (Addr × Str)) (wd : Wd) (H : Hp) (v : V) (Q : VK), Good T wd H → Top X.K wd H v x → DelF X.K wd H zs Q → r [v] H Q)
    (h : lift X.K T (rF X.K) E (w1F g a) σ H Q) : tCB r (tCons (lift X.K T (rB X.K) E a) tNil) σ H Q := by
  obtain ⟨c, wd, env, P, Ex, rl, h, xo, k⟩ := h
  refine ⟨c, wd, env, _, Ex, rl, h, xo, fun x env1 h1 v wd1 H1 le1 r1 tp => ?_⟩
  obtain ⟨z, e1, h2⟩ := opt_inv h1
  refine hr x z e1 T wd1 H1 v Q r1.good tp fun p us hp ru hz => ?_
  obtain ⟨r2, f⟩ := r1.fresh hp ru hz
  exact k z env1 h2 _ wd1 _ le1 r2 f
theorem lift_N {r : List V → Hp → VK → Prop} {g : List D → Option D} {σ : L2.St} {H : Hp} {Q : VK}
    (hr : ∀ (xs : List D) (z : D), g xs = some z → ∀ (T : List (Addr × Str)) (wd : Wd) (H : Hp) (vs : List V) (Q : VK), Good T wd H → Reps X.K wd vs xs → Del X.K wd H z Q → r vs H Q)
    (h : lift X.K T (rE X.K) E (wN g w) σ H Q) : tCB r (lift X.K T (rA X.K) E w) σ H Q := by
  obtain ⟨c, wd, env, P, Ex, rl, h, xo, k⟩ := h
  refine ⟨c, wd, env, _, Ex, rl, h, xo, fun x env1 h1 v wd1 H1 le1 r1 tp => ?_⟩
  obtain ⟨z, e1, h2⟩ := opt_inv h1
  exact hr x z e1 T wd1 H1 v Q r1.good tp fun w wd2 H2 g2 rp => k z env1 h2 w wd2 H2 (le1.trans (g2.le r1.good)) (r1.grow g2) rp
theorem je_b1 {g : D → Option D} (hc : CallB X (.builtin id) g) (hm : X.mg x = none) (hv : bootBuiltins x = some (.builtin id)) (ha : JB T X E e a) (hg : Gl X x := by rfl) (hn : x ≠ "__name__" := by decide) (hdb : (x == ("__debug__" : Str)) = false := by decide)
    (hs : starEach [e] X.env = (false, eval e X.env) :: starEach [] X.env := by rfl) (hpl : (backTo pos (starEach [] X.env)).any (·.1) = false := by rfl) : JE T X E (.Call (.Name x p) [e] [] pos) (w1 g a) := by
  obtain ⟨r, h1, h2⟩ := hc.ex
  exact peI (pe_callB h1 hg hm hv (pa_cons ha pa_nil hs) hn hdb hs hpl) fun σ H Q h => lift_1 h2 h
theorem je_t1 {g : D → Option D} (hc : CallB X (.type ty) g) (hm : X.mg x = none) (hv : bootBuiltins x = some (.type ty)) (ha : JB T X E e a) (hg : Gl X x := by rfl) (hn : x ≠ "__name__" := by decide) (hdb : (x == ("__debug__" : Str)) = false := by decide)
    (hs : starEach [e] X.env = (false, eval e X.env) :: starEach [] X.env := by rfl) (hpl : (backTo pos (starEach [] X.env)).any (·.1) = false := by rfl) : JE T X E (.Call (.Name x p) [e] [] pos) (w1 g a) := by
  obtain ⟨r, h1, h2⟩ := hc.ex
  exact peI (pe_callTy h1 hg hm hv (pa_cons ha pa_nil hs) hn hdb hs hpl) fun σ H Q h => lift_1 h2 h
theorem jf_b1 {g : D → Option (List D)} (hc : CallF X (.builtin id) g) (hm : X.mg x = none) (hv : bootBuiltins x = some (.builtin id)) (ha : JB T X E e a) (hg : Gl X x := by rfl) (hn : x ≠ "__name__" := by decide) (hdb : (x == ("__debug__" : Str)) = false := by decide)
    (hs : starEach [e] X.env = (false, eval e X.env) :: starEach [] X.env := by rfl) (hpl : (backTo pos (starEach [] X.env)).any (·.1) = false := by rfl) : JF T X E (.Call (.Name x p) [e] [] pos) (w1F g a) := by
  obtain ⟨r, h1, h2⟩ := hc.ex
  exact peI (pe_callB h1 hg hm hv (pa_cons ha pa_nil hs) hn hdb hs hpl) fun σ H Q h => lift_1F h2 h
theorem jf_t1 {g : D → Option (List D)} (hc : CallF X (.type ty) g) (hm : X.mg x = none) (hv : bootBuiltins x = some (.type ty)) (ha : JB T X E e a) (hg : Gl X x := by rfl) (hn : x ≠ "__name__" := by decide) (hdb : (x == ("__debug__" : Str)) = false := by decide)
    (hs : starEach [e] X.env = (false, eval e X.env) :: starEach [] X.env := by rfl) (hpl : (backTo pos (starEach [] X.env)).any (·.1) = false := by rfl) : JF T X E (.Call (.Name x p) [e] [] pos) (w1F g a) := by
  obtain ⟨r, h1, h2⟩ := hc.ex
  exact peI (pe_callTy h1 hg hm hv (pa_cons ha pa_nil hs) hn hdb hs hpl) fun σ H Q h => lift_1F h2 h
theorem je_bN {g : List D → Option D} (hc : CallN X (.builtin id) g) (hm : X.mg x = none) (hv : bootBuiltins x = some (.builtin id)) (ha : JA T X E (e :: es) w) (hg : Gl X x := by rfl) (hn : x ≠ "__name__" := by decide) (hdb : (x == ("__debug__" : Str)) = false := by decide)
    (hs : starEach (e :: es) X.env = (false, eval e X.env) :: starEach es X.env := by rfl) (hpl : (backTo pos (starEach es X.env)).any (·.1) = false := by rfl) : JE T X E (.Call (.Name x p) (e :: es) [] pos) (wN g w) := by
  obtain ⟨r, h1, h2⟩ := hc.ex
  exact peI (pe_callB h1 hg hm hv ha hn hdb hs hpl) fun σ H Q h => lift_N h2 h
end
/-! ### the built-ins -/
def dLen : D → Option D
  | .tup xs => some (.int xs.length)
  | .lst xs => some (.int xs.length)
  | .scr ns => some (.int ns.length)
  | .str z => if z.length ≤ 1000000 then some (.int z.length) else none
  | _ => none
theorem top_lst {K : PySem.W.Frag} {wd : Wd} {H : Hp} {v : V} {xs : List D} (g : Good T wd H) (t : Top K wd H v (.lst xs)) : ∃ (p : Addr) (vs : List V), v = .ref p ∧ H p = some (.lst vs) ∧ Reps K wd vs xs := by
  rcases t with h | ⟨p, vs, ys, rfl, e, h1, h2⟩
  · cases h with
    | lst h1 h2 => exact ⟨_, _, rfl, g.sub _ _ h1, h2⟩
  · cases e
    exact ⟨p, vs, rfl, h1, h2⟩
theorem top_tup {K : PySem.W.Frag} {wd : Wd} {H : Hp} {v : V} {xs : List D} (g : Good T wd H) (t : Top K wd H v (.tup xs)) : ∃ (p : Addr) (vs : List V), v = .ref p ∧ SqT K H p vs ∧ wd.M p = some (.tup vs) ∧ Reps K wd vs xs := by
  rcases t with h | ⟨p, vs, ys, rfl, e, h1, h2⟩
  · cases h with
    | tup h1 h2 => exact ⟨_, _, rfl, sub_sqT g h1, h1, h2⟩
  · cases e
theorem top_rep {K : PySem.W.Frag} {wd : Wd} {H : Hp} {v : V} {d : D} (t : Top K wd H v d) (h : ∀ xs, d ≠ .lst xs) : Rep K wd v d := by
  rcases t with t | ⟨p, vs, ys, rfl, e, h1, h2⟩
  · exact t
  · exact absurd e (h ys)
theorem cb_len : CallB X (.builtin "len") dLen := ⟨_, call_len, fun x z e T wd H v Q g t d => by
  cases x with
  | tup xs =>
    cases e
    obtain ⟨p, vs, rfl, h1, _, h2⟩ := top_tup g t
    exact ⟨_, _, rfl, .inr ⟨_, h1, h2.length.symm⟩, d.now (.int _)⟩
  | lst xs =>
    cases e
    obtain ⟨p, vs, rfl, h1, h2⟩ := top_lst g t
    exact ⟨_, _, rfl, .inl ⟨_, .inl (.inl h1), h2.length.symm⟩, d.now (.int _)⟩
  | scr ns =>
    cases e
    cases top_rep t (fun _ z => nomatch z) with
    | scr h => exact ⟨_, _, rfl, .inl ⟨_, sub_sqS g h, (List.length_map ..).symm⟩, d.now (.int _)⟩
  | str y =>
    obtain ⟨h, rfl⟩ := ite_some e
    cases top_rep t (fun _ z => nomatch z)
    exact ⟨_, _, rfl, ⟨sz6 h, rfl⟩, d.now (.int _)⟩
  | _ => cases e⟩
def asBools : List D → Option (List Bool)
  | [] => some []
  | .bl b :: r => (asBools r).map (b :: ·)
  | _ => none
def asInts : List D → Option (List Int)
  | [] => some []
  | .int b :: r => (asInts r).map (b :: ·)
  | _ => none
theorem asBools_eq : ∀ {xs : List D} {bs : List Bool}, asBools xs = some bs → xs = bs.map D.bl
  | [], _, h => by cases h; rfl
  | .bl b :: r, bs, h => by
    have h' : (asBools r).map (b :: ·) = some bs := h
    obtain ⟨cs, e, rfl⟩ := Option.map_eq_some_iff.mp h'
    rw [asBools_eq e]
    rfl
  | .non :: _, _, h => by cases h
  | .int _ :: _, _, h => by cases h
  | .str _ :: _, _, h => by cases h
  | .tup _ :: _, _, h => by cases h
  | .lst _ :: _, _, h => by cases h
  | .scr _ :: _, _, h => by cases h
  | .dic _ :: _, _, h => by cases h
  | .dit _ :: _, _, h => by cases h
  | .ins _ _ :: _, _, h => by cases h
  | .box _ :: _, _, h => by cases h
  | .raw _ :: _, _, h => by cases h
  | .cls _ :: _, _, h => by cases h
theorem asInts_eq : ∀ {xs : List D} {bs : List Int}, asInts xs = some bs → xs = bs.map D.int
  | [], _, h => by cases h; rfl
  | .int b :: r, bs, h => by
    have h' : (asInts r).map (b :: ·) = some bs := h
    obtain ⟨cs, e, rfl⟩ := Option.map_eq_some_iff.mp h'
    rw [asInts_eq e]
    rfl
  | .non :: _, _, h => by cases h
  | .bl _ :: _, _, h => by cases h
  | .str _ :: _, _, h => by cases h
  | .tup _ :: _, _, h => by cases h
  | .lst _ :: _, _, h => by cases h
  | .scr _ :: _, _, h => by cases h
  | .dic _ :: _, _, h => by cases h
  | .dit _ :: _, _, h => by cases h
  | .ins _ _ :: _, _, h => by cases h
  | .box _ :: _, _, h => by cases h
  | .raw _ :: _, _, h => by cases h
  | .cls _ :: _, _, h => by cases h
theorem asInts_map : ∀ ns : List Int, asInts (ns.map D.int) = some ns
  | [] => rfl
  | n :: ns => by
    show (asInts (ns.map D.int)).map (n :: ·) = some (n :: ns)
    rw [asInts_map ns]
    rfl
theorem asBools_map : ∀ ns : List Bool, asBools (ns.map D.bl) = some ns
  | [] => rfl
  | n :: ns => by
    show (asBools (ns.map D.bl)).map (n :: ·) = some (n :: ns)
    rw [asBools_map ns]
    rfl
def dAll : D → Option D
  | .lst xs => (asBools xs).map fun bs => .bl (bs.all id)
  | _ => none
def dAny : D → Option D
  | .lst xs => (asBools xs).map fun bs => .bl (bs.any id)
  | _ => none
theorem cb_all (hc : X.calm = true) : CallB X (.builtin "all") dAll := ⟨_, cr_all hc, fun x z e T wd H v Q g t d => by
  cases x with
  | lst xs =>
    obtain ⟨bs, e1, rfl⟩ := Option.map_eq_some_iff.mp e
    obtain ⟨p, vs, rfl, h1, h2⟩ := top_lst g t
    rw [asBools_eq e1] at h2
    rw [h2.bools] at h1
    exact ⟨_, bs, rfl, .inl (.inl h1), d.now (.bl _)⟩
  | _ => cases e⟩
theorem cb_any (hc : X.calm = true) : CallB X (.builtin "any") dAny := ⟨_, cr_any hc, fun x z e T wd H v Q g t d => by
  cases x with
  | lst xs =>
    obtain ⟨bs, e1, rfl⟩ := Option.map_eq_some_iff.mp e
    obtain ⟨p, vs, rfl, h1, h2⟩ := top_lst g t
    rw [asBools_eq e1] at h2
    rw [h2.bools] at h1
    exact ⟨_, bs, rfl, .inl (.inl h1), d.now (.bl _)⟩
  | _ => cases e⟩
/-- sum of a tuple -/
theorem sum_tup {prog : Program} {w : World} {A : Around} {E : Value → Shared → Prop} {s : Shared} {l : Addr} {its : List Value} {ns : List Int} {Q : Value → Shared → Prop} (hh : A.handled = none) (hl : s.heap.IsTuple l its.toArray) (hi : IntsAre its ns)
    (h : ∀ h' tk t', (∀ b o, s.heap.get? b = some o → h'.get? b = some o) → Q (.int ns.sum t') { s with heap := h', toks := tk }) : wpAny (model prog w) A (call (.builtin "sum") [.ref l]) Q E s := by
  obtain ⟨xs, e⟩ := hi.allInts.items
  have hn : numsOf (intItems xs).toList = ns := by rw [← e]; exact hi.numsOf
  rw [nums_intItems] at hn
  rw [e] at hl
  have lt : l < s.heap.objs.size := by
    obtain ⟨o, ho, _⟩ := id hl
    exact Heap.lt_size ho
  refine call_sum_walkG (wpAny_pyIter_tuple hl ?_)
  refine ⟨_, _, _, _, _, _, numAt xs, rfl, Walks.tuple (A := A.in1) hh s.heap.objs.size l (Nat.ne_of_lt lt) (intItems xs), ⟨⟨_, Heap.get?_push_size _ rfl, rfl, rfl⟩, hl.push _⟩, fun b hb => ?_, (fun _ _ => intItems_at), fun h' tk t' hk => ?_⟩
  · show b < (s.heap.push _).objs.size
    rw [Heap.size_push]
    rcases List.mem_cons.mp hb with rfl | hb
    · exact Nat.lt_succ_self _
    · rw [List.mem_singleton.mp hb]
      exact Nat.lt_succ_of_lt lt
  · have z := h h' tk t' fun b o q => hk b o (fun hb => by
      rw [List.mem_singleton.mp hb] at q
      exact absurd (Heap.lt_size q) (Nat.lt_irrefl _)) (Heap.get?_push_of_some _ q)
    have e2 : preSum (numAt xs) (intItems xs).size = ns.sum := by
      rw [show (intItems xs).size = xs.size by simp [intItems], preSum_eq, List.take_of_length_le (by simp), hn]
    rw [e2]
    exact z
def rSumT (K : PySem.W.Frag) : List V → Hp → VK → Prop := fun vs H Q => ∃ (a : Addr) (ns : List Int), vs = [V.ref a] ∧ SqT K H a (ns.map V.int) ∧ Q (.int ns.sum) H
theorem cr_sumT (hc : X.calm = true) : CallR X (.builtin "sum") (rSumT X.K) := by
  rintro pins s σ H vs us Q I r ⟨a, ns, rfl, hs, q⟩
  obtain ⟨its, rv, hl, _⟩ := I.tuple hs
  rw [Vals.ref1 r]
  exact sum_tup (I.ok.hd hc) hl rv.ints fun h' tk t' hk => ⟨.int _, H, I.kept hk, ⟨_, rfl⟩, q⟩
def dSum : D → Option D
  | .lst xs => (asInts xs).map fun bs => .int bs.sum
  | .tup xs => (asInts xs).map fun bs => .int bs.sum
  | _ => none
theorem cb_sum (hc : X.calm = true) : CallB X (.builtin "sum") dSum := ⟨_, (cr_sum hc).or (cr_sumT hc), fun x z e T wd H v Q g t d => by
  cases x with
  | lst xs =>
    obtain ⟨bs, e1, rfl⟩ := Option.map_eq_some_iff.mp e
    obtain ⟨p, vs, rfl, h1, h2⟩ := top_lst g t
    rw [asInts_eq e1] at h2
    rw [h2.ints] at h1
    exact .inl ⟨_, bs, rfl, .inl (.inl h1), d.now (.int _)⟩
  | tup xs =>
    obtain ⟨bs, e1, rfl⟩ := Option.map_eq_some_iff.mp e
    obtain ⟨p, vs, rfl, h1, _, h2⟩ := top_tup g t
    rw [asInts_eq e1] at h2
    rw [h2.ints] at h1
    exact .inr ⟨_, bs, rfl, h1, d.now (.int _)⟩
  | _ => cases e⟩
def dAbs : List D → Option D
  | [.int i] => some (.int (if i < 0 then -i else i))
  | _ => none
theorem cn_abs : CallN X (.builtin "abs") dAbs := ⟨_, call_abs, fun xs z e T wd H vs Q g r d => by
  unfold dAbs at e
  split at e
  · cases e
    cases r with
    | cons a b =>
      cases a
      cases b
      exact ⟨_, rfl, d.now (.int _)⟩
  · cases e⟩
def dMax2 : List D → Option D
  | [.int i, .int j] => some (.int (if j > i then j else i))
  | _ => none
def dMin2 : List D → Option D
  | [.int i, .int j] => some (.int (if j < i then j else i))
  | _ => none
theorem cn_max2 (hc : X.calm = true) : CallN X (.builtin "max") dMax2 := ⟨_, call_max2 hc, fun xs z e T wd H vs Q g r d => by
  unfold dMax2 at e
  split at e
  · cases e
    cases r with
    | cons a b =>
      cases a
      cases b with
      | cons a b =>
        cases a
        cases b
        exact ⟨_, _, rfl, d.now (.int _)⟩
  · cases e⟩
theorem cn_min2 (hc : X.calm = true) : CallN X (.builtin "min") dMin2 := ⟨_, call_min2 hc, fun xs z e T wd H vs Q g r d => by
  unfold dMin2 at e
  split at e
  · cases e
    cases r with
    | cons a b =>
      cases a
      cases b with
      | cons a b =>
        cases a
        cases b
        exact ⟨_, _, rfl, d.now (.int _)⟩
  · cases e⟩
def dInt : D → Option D
  | .int i => some (.int i)
  | .bl b => some (.int (if b then 1 else 0))
  | _ => none
theorem cb_int : CallB X (.type "int") dInt := ⟨_, call_int1, fun x z e T wd H v Q g t d => by
  cases x with
  | int i =>
    cases e
    cases top_rep t (fun _ z => nomatch z)
    exact .inl ⟨_, rfl, d.now (.int _)⟩
  | bl b =>
    cases e
    cases top_rep t (fun _ z => nomatch z)
    exact .inr ⟨_, rfl, d.now (.int _)⟩
  | _ => cases e⟩
def dTuple : D → Option D
  | .lst xs => some (.tup xs)
  | .tup xs => some (.tup xs)
  | _ => none
theorem cb_tuple : CallB X (.type "tuple") dTuple := ⟨_, call_tuple_of, fun x z e T wd H v Q g t d => by
  cases x with
  | lst xs =>
    cases e
    obtain ⟨p, vs, rfl, h1, h2⟩ := top_lst g t
    exact ⟨_, _, rfl, .inl ⟨.inl (.inl h1), fun l hl => d.tup g hl h2 (g.siz _ _ h1)⟩⟩
  | tup xs =>
    cases e
    obtain ⟨p, vs, rfl, h1, h3, h2⟩ := top_tup g t
    exact ⟨_, _, rfl, .inr ⟨h1, d.now (.tup h3 h2)⟩⟩
  | _ => cases e⟩
def dItems : D → Option (List D)
  | .lst xs => some xs
  | .tup xs => some xs
  | _ => none
theorem cf_list : CallF X (.type "list") dItems := ⟨_, call_list_of, fun x zs e T wd H v Q g t d => by
  cases x with
  | lst xs =>
    cases e
    obtain ⟨p, vs, rfl, h1, h2⟩ := top_lst g t
    exact ⟨_, _, rfl, .inl (.inl (.inl h1)), fun l hl => d l vs hl h2 (g.siz _ _ h1)⟩
  | tup xs =>
    cases e
    obtain ⟨p, vs, rfl, h1, h3, h2⟩ := top_tup g t
    exact ⟨_, _, rfl, .inr h1, fun l hl => d l vs hl h2 (siz_sqT g h3)⟩
  | _ => cases e⟩
/-! ### isinstance -/
def dTy : D → Option String
  | .non => some "NoneType"
  | .bl _ => some "bool"
  | .int _ => some "int"
  | .str _ => some "str"
  | .tup _ => some "tuple"
  | .lst _ => some "list"
  | .dic _ => some "dict"
  | _ => none
def isa (s t : String) : Bool := s == t || (s == "bool" && t == "int")
def dIsi (t : String) : D → Option D := fun x => (dTy x).map fun s => .bl (isa s t)
theorem rep_ty {K : PySem.W.Frag} {wd : Wd} {H : Hp} {v : V} {d : D} {s : String} (g : Good T wd H) (r : Rep K wd v d) (h : dTy d = some s) : TyX K H v (.type s) := by
  cases r <;> cases h
  · exact .base .non
  · exact .base (.bl _)
  · exact .base (.int _)
  · exact .base (.str _)
  · rename_i hs _
    exact .base (.tup (g.sub _ _ hs))
  · exact .base (.lst (g.sub _ _ ‹_›))
  · exact .base (.dK (g.sub _ _ ‹_›))
structure IsT (t : String) : Prop where
  h : ∀ s ∈ ["NoneType", "bool", "int", "str", "tuple", "list", "dict"], kitB s t = some (isa s t)
theorem isT_int : IsT "int" := ⟨by decide +kernel⟩
theorem isT_bool : IsT "bool" := ⟨by decide +kernel⟩
theorem isT_tuple : IsT "tuple" := ⟨by decide +kernel⟩
theorem isT_str : IsT "str" := ⟨by decide +kernel⟩
theorem isT_list : IsT "list" := ⟨by decide +kernel⟩
theorem isT_dict : IsT "dict" := ⟨by decide +kernel⟩
theorem je_isi {t : String} {y : Str} {e : Expr} {a : W D} {p p2 pos : Pos} (ht : IsT t) (hm : X.mg "isinstance" = none) (hm2 : X.mg y = none) (hv2 : bootBuiltins y = some (.type t)) (ha : JE T X E e a)
    (hg : Gl X "isinstance" := by rfl) (hg2 : Gl X y := by rfl) (hn : y ≠ "__name__" := by decide) (hdb : (y == ("__debug__" : Str)) = false := by decide)
    (hs : starEach [e, .Name y p2] X.env = (false, eval e X.env) :: starEach [.Name y p2] X.env := by rfl) (hs2 : starEach [.Name y p2] X.env = (false, eval (.Name y p2) X.env) :: starEach [] X.env := by rfl) (hpl : (backTo pos (starEach [.Name y p2] X.env)).any (·.1) = false := by rfl) :
    JE T X E (.Call (.Name "isinstance" p) [e, .Name y p2] [] pos) (w1 (dIsi t) a) := by
  refine peI (pe_callB call_isi hg hm (by decide +kernel) (pa_cons ha (pa_cons (pe_bltn (v := .ty t) hg2 hm2 hv2 rfl hn hdb) pa_nil hs2) hs) (by decide) (by decide) hs hpl) fun σ H Q ⟨c, wd, env, P, Ex, rl, h, xo, k⟩ => ?_
  refine ⟨c, wd, env, _, Ex, rl, h, xo, fun x env1 h1 v wd1 H1 le1 r1 rp => ?_⟩
  obtain ⟨z, e1, h2⟩ := opt_inv h1
  obtain ⟨s, e2, rfl⟩ := Option.map_eq_some_iff.mp e1
  refine ⟨v, .ty t, .type s, .type t, isa s t, rfl, .ty t, rep_ty r1.good rp e2, kit_ty (ht.h s ?_), k _ env1 h2 _ wd1 H1 le1 r1 (.bl _)⟩
  cases x <;> cases e2 <;> decide
end
end Pd

namespace Pd
open PySem PySem.Spec PyProof.Rows L2 LamX

/-! ### sorted -/
mutual
theorem reads_lt {h : Heap} : ∀ {v : Value} {d : PyData} {as : List Addr}, Reads h v d as → ∀ b ∈ as, b < h.objs.size
  | _, _, _, .none => fun b hb => absurd hb (by simp)
  | _, _, _, .bool _ => fun b hb => absurd hb (by simp)
  | _, _, _, .int _ _ => fun b hb => absurd hb (by simp)
  | _, _, _, .str _ _ => fun b hb => absurd hb (by simp)
  | _, _, _, .list h1 _ _ h4 => fun b hb => by
    rcases List.mem_cons.mp hb with rfl | hb
    · exact Heap.lt_size h1
    · exact readsAll_lt h4 b hb
  | _, _, _, .tuple _ _ _ h4 => fun b hb => readsAll_lt h4 b hb
  | _, _, _, .dict h1 _ _ h4 h5 => fun b hb => by
    rcases List.mem_append.mp hb with hb | hb
    · rcases List.mem_cons.mp hb with rfl | hb
      · exact Heap.lt_size h1
      · exact readsAll_lt h4 b hb
    · exact readsAll_lt h5 b hb
theorem readsAll_lt {h : Heap} : ∀ {vs : List Value} {ds : List PyData} {as : List Addr}, ReadsAll h vs ds as → ∀ b ∈ as, b < h.objs.size
  | _, _, _, .nil => fun b hb => absurd hb (by simp)
  | _, _, _, .cons h1 h2 => fun b hb => (List.mem_append.mp hb).elim (reads_lt h1 b) (readsAll_lt h2 b)
end
section
variable {prog : Program} {w : World} {A : Around} {E : Value → Shared → Prop} {s : Shared}
/-- behind the copy: what list.sort is asked of -/
theorem sorted_after {T : String} (hT : T = "list" ∨ T = "tuple") {a : Addr} {o : Obj} {vs : List Value} {n : Nat} {kw : List (Str × Value)} {Q : Value → Shared → Prop} (ho : s.heap.get? a = some o) (hc : o.cls = .type T) (hd : o.data = .seq vs.toArray n) (hz : vs.length ≤ sizeLine)
    (ha : argsOk "sorted" ⟨[.ref a], kw⟩)
    (h : ∀ h1 : Heap, (∀ b u, s.heap.get? b = some u → h1.get? b = some u) →
      wpAny (model prog w) A.in1 (call (.builtin "list.sort") [.ref h1.objs.size] kw) (fun _ s' => Q (.ref h1.objs.size) s') E { s with heap := h1.push (seqObj "list" vs.toArray 0) }) :
    wpAny (model prog w) A (call (.builtin "sorted") [.ref a] kw) Q E s := by
  refine call_function_entry_kw kind_sorted plain_sorted entry_sorted ha ?_
  unfold Builtin.«sorted»
  refine wpAny_bind (m := checkCount "sorted" 1 1 _) (wpAny_pure ?_)
  refine wpAny_bind (wpAny_collect_seq a hT ho hc hd (fun h1 k1 => ?_) (by simpa using hz))
  refine wpAny_bind (wpAny_newList ?_ (by simpa using hz))
  have g := h h1 k1
  refine wpAny_bind (wpAny_holding (wpAny_mono ?_ (fun _ s' x => wpAny_pure ⟨_, rfl, x⟩) fun _ _ e => e))
  simpa using g
end
section
variable {X : Cx} {pins : List (Addr × Obj)} {σ : L2.St} {H : Hp} {s : Shared}
theorem each_of {K : PySem.W.Frag} {wd : Wd} : ∀ {vs : List V} {its : List Value} {xs : List D}, Reps K wd vs xs → Vals vs its → PySem.W.EachIs (fun u d => ∃ v, RelV v u ∧ Rep K wd v d) its xs
  | _, _, _, .nil, .nil => .nil
  | _, _, _, .cons a b, .cons r t => .cons ⟨_, r, a⟩ (each_of b t)
theorem of_each {K : PySem.W.Frag} {wd : Wd} : ∀ {its : List Value} {xs : List D}, PySem.W.EachIs (fun u d => ∃ v, RelV v u ∧ Rep K wd v d) its xs → ∃ vs, Vals vs its ∧ Reps K wd vs xs
  | _, _, .nil => ⟨[], .nil, .nil⟩
  | _, _, .cons ⟨v, r, a⟩ t => by
    obtain ⟨vs, h1, h2⟩ := of_each t
    exact ⟨v :: vs, .cons r h1, .cons a h2⟩
theorem each_reads {T : List (Addr × Str)} {wd : Wd} {p : Addr} (g : Good T wd H) (I : Inv X pins σ H s) (hp : s.heap.objs.size ≤ p) {h2 : Heap} (kk : ∀ b u, s.heap.get? b = some u → h2.get? b = some u) (n : Nat) : ∀ {vs : List V} {its : List Value} {xs : List D}, xs.all (plain n) = true → Reps X.K wd vs xs → Vals vs its →
    PySem.W.EachIs (fun v b => ∃ as, Reads h2 v (toPy b) as ∧ p ∉ as) its xs
  | _, _, _, _, .nil, .nil => .nil
  | _, _, _, h, .cons a b, .cons r t => by
    rw [List.all_cons, Bool.and_eq_true] at h
    obtain ⟨as, ra⟩ := Dp.reads I _ _ _ (rep_dp g n h.1 a) r
    refine .cons ⟨as, PyProof.Rows.Reads.keeps kk ra, fun hm => ?_⟩ (each_reads g I hp kk n h.2 b t)
    exact absurd (Nat.lt_of_lt_of_le (reads_lt ra p hm) hp) (Nat.lt_irrefl _)
/-- what can be sorted -/
structure Srt (xs : List D) : Prop where
  pl : xs.all (plain 50) = true
  al : PySem.W.AllAlike (xs.map toPy)
  so : PySem.W.Sortable (xs.map toPy)
abbrev leD (b : Bool) : D → D → Bool := PySem.W.dataLe b toPy
theorem sort_run {T : List (Addr × Str)} {wd : Wd} {b : Bool} {xs : List D} {vs : List V} {its : List Value} {h1 : Heap} {Q : VK} {kw : List (Str × Value)} (hk : (b = false ∧ kw = []) ∨ kw = [(Str.ofString "reverse", .bool b)]) (g : Good T wd H) (I : Inv X pins σ H { s with heap := h1 }) (rs : Reps X.K wd vs xs) (rv : Vals vs its) (hz : vs.length ≤ sizeLine) (hu : X.A.units + 200 < cLine) (S : Srt xs)
    (q : DelF X.K wd H (xs.mergeSort (leD b)) Q) : wpAny (model X.prog X.w) X.A.in1 (call (.builtin "list.sort") [.ref h1.objs.size] kw) (fun _ s' => EP X pins σ Q (.ref h1.objs.size) s') X.xe { s with heap := h1.push (seqObj "list" its.toArray 0) } := by
  have ho : (h1.push (seqObj "list" its.toArray 0)).get? h1.objs.size = some (seqObj "list" its.toArray 0) := Heap.get?_push_size _ rfl
  have kk : ∀ c u, h1.get? c = some u → (h1.push (seqObj "list" its.toArray 0)).get? c = some u := fun c u z => Heap.get?_push_of_some _ z
  have er := each_reads (s := { s with heap := h1 }) (p := h1.objs.size) g I (Nat.le_refl _) kk 50 S.pl rs rv
  have e := each_of rs rv
  have hL : xs.length ≤ sizeLine := by rw [← rs.length]; exact hz
  have dep : ∀ d ∈ xs, X.A.in1.units + 1 + (toPy d).depth < cLine := fun d hd => by
    have := (plain_lay 50 d (List.all_eq_true.mp S.pl d hd)).2
    show X.A.units + 1 + 1 + (toPy d).depth < cLine
    omega
  have fin : ∀ out : List Value, out.length = xs.length → PySem.W.EachIs (fun u d => ∃ v, RelV v u ∧ Rep X.K wd v d) out (xs.mergeSort (leD b)) →
      EP X pins σ Q (.ref h1.objs.size) { s with heap := sortedHeap (h1.push (seqObj "list" its.toArray 0)) h1.objs.size its (List.toArray out) } := fun out hl eo => by
    obtain ⟨us, u1, u2⟩ := of_each eo
    obtain ⟨ep, he⟩ := sortedHeap_at (out := out.toArray) ho
    have hzu : us.length ≤ sizeLine := by
      rw [u1.length, hl]
      exact hL
    refine ⟨.ref h1.objs.size, upd H h1.objs.size (.lst us), I.laid (t' := s.toks) (fun c u z => ?_) (Nat.le_refl _) ⟨hzu, out, ep, u1, he⟩, rfl, q _ us (I.hok.fresh (Nat.le_refl _)) u2 hzu⟩
    have zl : c < h1.objs.size := Heap.lt_size z
    rw [sortedHeap_old (Nat.ne_of_lt zl) (by rw [Heap.size_push]; exact Nat.lt_succ_of_lt zl)]
    exact kk c u z
  rcases hk with ⟨rfl, rfl⟩ | rfl
  · exact PySem.W.list_sort_data (s := { s with heap := h1.push (seqObj "list" its.toArray 0) }) (enc := toPy) ho e er S.al S.so hL dep fin
  · exact PySem.W.list_sort_rev_data (s := { s with heap := h1.push (seqObj "list" its.toArray 0) }) (enc := toPy) ho e er S.al S.so hL dep fin
def rSrt (K : PySem.W.Frag) (b : Bool) (v : V) (H : Hp) (Q : VK) : Prop := ∃ (T : List (Addr × Str)) (wd : Wd) (x : D) (xs : List D), Good T wd H ∧ Top K wd H v x ∧ dItems x = some xs ∧ Srt xs ∧ DelF K wd H (xs.mergeSort (leD b)) Q
theorem sorted_ok {b : Bool} {v : V} {u : Value} {Q : VK} {kw : List (Str × Value)} (hk : (b = false ∧ kw = []) ∨ kw = [(Str.ofString "reverse", .bool b)]) (hu : X.A.units + 200 < cLine) (I : Inv X pins σ H s) (r : RelV v u) (h : rSrt X.K b v H Q) :
    wpAny (model X.prog X.w) X.A (call (.builtin "sorted") [u] kw) (EP X pins σ Q) X.xe s := by
  obtain ⟨T, wd, x, xs, g, t, ei, S, q⟩ := h
  have args : ∀ a : Value, argsOk "sorted" ⟨[a], kw⟩ := fun a => by
    rcases hk with ⟨_, rfl⟩ | rfl
    · exact args_sorted1 a
    · exact args_sorted_rev a _
  cases x with
  | lst ys =>
    cases ei
    obtain ⟨p, vs, rfl, h1, h2⟩ := top_lst g t
    cases r
    obtain ⟨hz, its, n, rv, ho⟩ := I.hok p _ h1
    exact sorted_after (.inl rfl) ho rfl rfl (by rw [← rv.length]; exact hz) (args _) fun hh kk => sort_run hk g (I.kept (t' := s.toks) kk) h2 rv hz hu S q
  | tup ys =>
    cases ei
    obtain ⟨p, vs, rfl, h1, h3, h2⟩ := top_tup g t
    cases r
    obtain ⟨its, rv, ⟨o, ho, hc, n, hd⟩, hz⟩ := I.tuple h1
    have hz2 : vs.length ≤ sizeLine := siz_sqT g h3
    exact sorted_after (.inr rfl) ho hc hd (by rw [← rv.length]; exact hz2) (args _) fun hh kk => sort_run hk g (I.kept (t' := s.toks) kk) h2 rv hz2 hu S q
  | _ => cases ei
end
section
variable {X : Cx} {T : List (Addr × Str)} {E : XK} {k : Nat}
def wSort (b : Bool) (a : W D) : W (List D) := a.bind fun x env Q _ => ∃ xs, dItems x = some xs ∧ Srt xs ∧ Q (xs.mergeSort (leD b)) env
theorem cr_srt (hu : X.A.units + 200 < cLine) : CallR X (.builtin "sorted") (fun vs H Q => ∃ v, vs = [v] ∧ rSrt X.K false v H Q) := by
  rintro pins s σ H vs us Q I r ⟨v, rfl, h⟩
  obtain ⟨u, rfl, ru⟩ := vals1 r
  exact sorted_ok (.inl ⟨rfl, rfl⟩) hu I ru h
theorem jf_sorted {e : Expr} {a : W D} {p pos : Pos} (B : Bd X E k) (hm : X.mg "sorted" = none) (ha : JB T X E e a) (hg : Gl X "sorted" := by rfl)
    (hs : starEach [e] X.env = (false, eval e X.env) :: starEach [] X.env := by rfl) (hpl : (backTo pos (starEach [] X.env)).any (·.1) = false := by rfl) : JF T X E (.Call (.Name "sorted" p) [e] [] pos) (wSort false a) := by
  have hu : X.A.units + 200 < cLine := by have := B.room.un; omega
  refine peI (pe_callB (cr_srt hu) hg hm (by decide +kernel) (pa_cons ha pa_nil hs) (by decide) (by decide) hs hpl) fun σ H Q ⟨c, wd, env, P, Ex, rl, h, xo, kk⟩ => ?_
  refine ⟨c, wd, env, _, Ex, rl, h, xo, fun x env1 ⟨xs, e1, S, h1⟩ v wd1 H1 le1 r1 tp => ⟨v, rfl, T, wd1, x, xs, r1.good, tp, e1, S, fun p us hp ru hz => ?_⟩⟩
  obtain ⟨r2, f⟩ := r1.fresh hp ru hz
  exact kk _ env1 h1 _ wd1 _ le1 r2 f
theorem cr_srtK (hu : X.A.units + 200 < cLine) {b : Bool} : CallRK X (.builtin "sorted") [Str.ofString "reverse"] (fun vs zs H Q => ∃ v, vs = [v] ∧ zs = [.bl b] ∧ rSrt X.K b v H Q) := by
  rintro pins s σ H vs zs us ws Q I r rz ⟨v, rfl, rfl, h⟩
  obtain ⟨u, rfl, ru⟩ := vals1 r
  obtain ⟨w1, rfl, e1⟩ := vals1 rz
  obtain rfl : w1 = Value.bool b := e1
  exact sorted_ok (.inr rfl) hu I ru h
end
end Pd

namespace Pd
open PySem PySem.Spec PyProof.Rows L2 LamX

section
variable {X : Cx} {T : List (Addr × Str)} {E : XK} {k : Nat}
/-! ### sorted(.., reverse=b) -/
theorem jf_sortedRev {e : Expr} {a : W D} {b : Bool} {p pos kpos bpos : Pos} {jb} (B : Bd X E k) (hm : X.mg "sorted" = none) (ha : JB T X E e a) (hg : Gl X "sorted" := by rfl)
    (he : backTo pos (starEach [e] X.env) = (false, eval e X.env) :: backTo pos (starEach [] X.env) := by rfl) (hpl : (backTo pos (starEach [e] X.env)).any (·.1) = false := by rfl)
    (hall : (backToKw pos (keywordEach [⟨some "reverse", .Constant (.bool b) jb bpos, kpos⟩] X.env)).all (·.1.isSome) = true := by rfl) (hnone : (backToKw pos (keywordEach [⟨some "reverse", .Constant (.bool b) jb bpos, kpos⟩] X.env)).any (·.1.isNone) = false := by rfl)
    (hks : (backToKw pos (keywordEach [⟨some "reverse", .Constant (.bool b) jb bpos, kpos⟩] X.env)).filterMap (·.1) = [Str.ofString "reverse"] := by rfl) (hs : starEach [e] X.env = (false, eval e X.env) :: starEach [] X.env := by rfl) :
    JF T X E (.Call (.Name "sorted" p) [e] [⟨some "reverse", .Constant (.bool b) jb bpos, kpos⟩] pos) (wSort b a) := by
  have hu : X.A.units + 200 < cLine := by have := B.room.un; omega
  refine peI (pe_callBK (cr_srtK (b := b) hu) hg hm (by decide +kernel) (pa_cons ha pa_nil hs) (pk_cons pe_bl pk_nil) (by decide) (by decide) he hpl hall hnone hks) fun σ H Q ⟨c, wd, env, P, Ex, rl, h, xo, kk⟩ => ?_
  refine ⟨c, wd, env, _, Ex, rl, h, xo, fun x env1 ⟨xs, e1, S, h1⟩ v wd1 H1 le1 r1 tp => ⟨v, rfl, rfl, T, wd1, x, xs, r1.good, tp, e1, S, fun p us hp ru hz => ?_⟩⟩
  obtain ⟨r2, f⟩ := r1.fresh hp ru hz
  exact kk _ env1 h1 _ wd1 _ le1 r2 f
/-! ### methods of a list that is one name's own -/
def ownIs (env : PEnv) (i : Nat) (P : List D → Prop) : Prop := match gt env i with
  | some (.own xs) => P xs
  | _ => False
theorem ownIs_inv {env : PEnv} {i : Nat} {P : List D → Prop} (h : ownIs env i P) : ∃ xs, gt env i = some (.own xs) ∧ P xs := by
  unfold ownIs at h
  split at h
  · exact ⟨_, by assumption, h⟩
  · exact h.elim
def wAppend (i : Nat) (e : W D) : W D := fun env Q ex => ownIs env i fun _ => e env (fun y env1 => ownIs env1 i fun xs => xs.length < 1000000 ∧ Q .non (env1.set i (some (.own (xs ++ [y]))))) ex
def wPopAt (i : Nat) (e : W D) : W D := fun env Q ex => ownIs env i fun _ => e env (fun y env1 => ownIs env1 i fun xs => match y with
  | .int n => 0 ≤ n ∧ n < 1000000 ∧ ∃ z, xs[n.toNat]? = some z ∧ Q z (env1.set i (some (.own (xs.eraseIdx n.toNat))))
  | _ => False) ex
def wPop (i : Nat) : W D := fun env Q ex => ownIs env i fun xs => ∃ z, xs.getLast? = some z ∧ Q z (env.set i (some (.own xs.dropLast)))
def wExtend (i : Nat) (e : W D) : W D := fun env Q ex => ownIs env i fun _ => e env (fun y env1 => ownIs env1 i fun xs => match y with
  | .lst ys => xs.length + ys.length ≤ 1000000 ∧ Q .non (env1.set i (some (.own (xs ++ ys))))
  | _ => False) ex
section
variable {x : Str} {e : Expr} {p apos pos : Pos}
theorem je_append (i : Nat) {w : W D} (he : JE T X E e w) (hN : X.N[i]? = some x := by rfl) (hv : Vis X.env.scope x := by first | exact Or.inl rfl | exact Or.inr (Or.inl rfl) | exact Or.inr (Or.inr rfl)) (hd : (x == ("__debug__" : Str)) = false := by decide)
    (hcd : (x == ("__classdict__" : Str)) = false := by decide) (hbase : attributeBase (.Name x p) "append" X.env (eval (.Name x p) X.env) = eval (.Name x p) X.env := by rfl)
    (hfew : ((backTo pos (starEach [e] X.env)).all (fun x => !x.1) && (backToKw pos (keywordEach [] X.env)).all (fun x => x.1.isSome) && decide ([e].length + ([] : List Keyword).length + (if ([] : List Keyword).isEmpty then 0 else 1) < 30)) = true := by rfl)
    (hline : (apos.endLine == pos.line) = true := by rfl) (hs : starEach [e] X.env = (false, eval e X.env) :: starEach [] X.env := by rfl) (hpl : (backTo pos (starEach [] X.env)).any (·.1) = false := by rfl) : JE T X E (.Call (.Attribute (.Name x p) "append" apos) [e] [] pos) (wAppend i w) :=
  peI (pe_bm F.plainAttrs_list F.slot_list_append F.type_list_append mt_append (pe_var hN hv hd hcd) (pa_cons he pa_nil hs) hbase hfew hline hs hpl) fun σ H Q ⟨c, wd, env, P, Ex, rl, h, xo, kk⟩ => by
    obtain ⟨xs0, e0, h⟩ := ownIs_inv h
    obtain ⟨p0, vs0, z0, zh, _⟩ := rl.own i xs0 (gt_eq _ _ e0)
    refine ⟨.ref p0, z0, .inl ⟨rfl, vs0, .inl (.inl zh)⟩, c, wd, env, _, Ex, rl, h, xo, fun y env1 h1 u wd1 H1 le1 r1 rp1 => ?_⟩
    obtain ⟨xs, e1, hl, h1⟩ := ownIs_inv h1
    obtain ⟨p1, vs, z1, z2, z3, z4, z5, z6⟩ := r1.own i xs (gt_eq _ _ e1)
    rw [z0] at z1
    cases z1
    have hz : (vs ++ [u]).length ≤ sizeLine := by
      rw [List.length_append, z6.length]
      exact sz6 (Nat.succ_le_of_lt hl)
    refine ⟨_, vs, u, rfl, rfl, z2, ?_, kk _ _ h1 .non wd1 _ le1 (r1.mut (gt_eq _ _ e1) z0 (z6.append (.cons rp1 .nil)) hz) .non⟩
    rw [List.length_append] at hz
    exact hz
theorem je_popAt (i : Nat) {w : W D} (he : JE T X E e w) (hN : X.N[i]? = some x := by rfl) (hv : Vis X.env.scope x := by first | exact Or.inl rfl | exact Or.inr (Or.inl rfl) | exact Or.inr (Or.inr rfl)) (hd : (x == ("__debug__" : Str)) = false := by decide)
    (hcd : (x == ("__classdict__" : Str)) = false := by decide) (hbase : attributeBase (.Name x p) "pop" X.env (eval (.Name x p) X.env) = eval (.Name x p) X.env := by rfl)
    (hfew : ((backTo pos (starEach [e] X.env)).all (fun x => !x.1) && (backToKw pos (keywordEach [] X.env)).all (fun x => x.1.isSome) && decide ([e].length + ([] : List Keyword).length + (if ([] : List Keyword).isEmpty then 0 else 1) < 30)) = true := by rfl)
    (hline : (apos.endLine == pos.line) = true := by rfl) (hs : starEach [e] X.env = (false, eval e X.env) :: starEach [] X.env := by rfl) (hpl : (backTo pos (starEach [] X.env)).any (·.1) = false := by rfl) : JE T X E (.Call (.Attribute (.Name x p) "pop" apos) [e] [] pos) (wPopAt i w) :=
  peI (pe_bm F.plainAttrs_list F.slot_list_pop F.type_list_pop mt_popAt (pe_var hN hv hd hcd) (pa_cons he pa_nil hs) hbase hfew hline hs hpl) fun σ H Q ⟨c, wd, env, P, Ex, rl, h, xo, kk⟩ => by
    obtain ⟨xs0, e0, h⟩ := ownIs_inv h
    obtain ⟨p0, vs0, z0, zh, _⟩ := rl.own i xs0 (gt_eq _ _ e0)
    refine ⟨.ref p0, z0, .inl ⟨rfl, vs0, .inl (.inl zh)⟩, c, wd, env, _, Ex, rl, h, xo, fun y env1 h1 u wd1 H1 le1 r1 rp1 => ?_⟩
    obtain ⟨xs, e1, h2⟩ := ownIs_inv h1
    clear h1
    have h1 := h2
    clear h2
    obtain ⟨p1, vs, z1, z2, z3, z4, z5, z6⟩ := r1.own i xs (gt_eq _ _ e1)
    rw [z0] at z1
    cases z1
    split at h1
    · rename_i n
      obtain ⟨n0, n1, z, ez, h1⟩ := h1
      cases rp1
      obtain ⟨w', ew, rw'⟩ := z6.get ez
      have hlt : n.toNat < vs.length := (List.getElem?_eq_some_iff.mp ew).1
      refine ⟨_, vs, n, n.toNat, w', rfl, rfl, z2, by omega, by omega, ?_, ew, kk _ _ h1 w' wd1 _ le1 (r1.mut (gt_eq _ _ e1) z0 (z6.erase _) ?_) rw'⟩
      · exact seqIndex_of n0 (by omega)
      · exact Nat.le_trans (List.length_eraseIdx_le _ _) (r1.good.siz _ _ z2)
    · exact h1.elim
theorem je_pop (i : Nat) (hN : X.N[i]? = some x := by rfl) (hv : Vis X.env.scope x := by first | exact Or.inl rfl | exact Or.inr (Or.inl rfl) | exact Or.inr (Or.inr rfl)) (hd : (x == ("__debug__" : Str)) = false := by decide)
    (hcd : (x == ("__classdict__" : Str)) = false := by decide) (hbase : attributeBase (.Name x p) "pop" X.env (eval (.Name x p) X.env) = eval (.Name x p) X.env := by rfl) (hline : (apos.endLine == pos.line) = true := by rfl) : JE T X E (.Call (.Attribute (.Name x p) "pop" apos) [] [] pos) (wPop i) :=
  peI (pe_bm0 F.plainAttrs_list F.slot_list_pop F.type_list_pop mt_pop (pe_var hN hv hd hcd) hbase hline) fun σ H Q ⟨c, wd, env, P, Ex, rl, h, xo, kk⟩ => by
    obtain ⟨xs, e0, z, ez, h⟩ := ownIs_inv h
    obtain ⟨p0, vs, z0, z2, z3, z4, z5, z6⟩ := rl.own i xs (gt_eq _ _ e0)
    rw [List.getLast?_eq_getElem?] at ez
    obtain ⟨w', ew, rw'⟩ := z6.get ez
    rw [← z6.length] at ew
    refine ⟨.ref p0, z0, .inl ⟨rfl, vs, .inl (.inl z2)⟩, _, vs, w', rfl, rfl, z2, ew, kk _ _ h w' wd _ (Le.refl _) (rl.mut (gt_eq _ _ e0) z0 ?_ ?_) rw'⟩
    · rw [List.dropLast_eq_take, List.dropLast_eq_take, z6.length]
      exact z6.take _
    · rw [List.length_dropLast]
      exact Nat.le_trans (Nat.sub_le _ _) (rl.good.siz _ _ z2)
theorem je_extend (i : Nat) {w : W D} (he : JB T X E e w) (hN : X.N[i]? = some x := by rfl) (hv : Vis X.env.scope x := by first | exact Or.inl rfl | exact Or.inr (Or.inl rfl) | exact Or.inr (Or.inr rfl)) (hd : (x == ("__debug__" : Str)) = false := by decide)
    (hcd : (x == ("__classdict__" : Str)) = false := by decide) (hbase : attributeBase (.Name x p) "extend" X.env (eval (.Name x p) X.env) = eval (.Name x p) X.env := by rfl)
    (hfew : ((backTo pos (starEach [e] X.env)).all (fun x => !x.1) && (backToKw pos (keywordEach [] X.env)).all (fun x => x.1.isSome) && decide ([e].length + ([] : List Keyword).length + (if ([] : List Keyword).isEmpty then 0 else 1) < 30)) = true := by rfl)
    (hline : (apos.endLine == pos.line) = true := by rfl) (hs : starEach [e] X.env = (false, eval e X.env) :: starEach [] X.env := by rfl) (hpl : (backTo pos (starEach [] X.env)).any (·.1) = false := by rfl) : JE T X E (.Call (.Attribute (.Name x p) "extend" apos) [e] [] pos) (wExtend i w) :=
  peI (pe_bm F.plainAttrs_list F.slot_list_extend F.type_list_extend mt_extend (pe_var hN hv hd hcd) (pa_cons he pa_nil hs) hbase hfew hline hs hpl) fun σ H Q ⟨c, wd, env, P, Ex, rl, h, xo, kk⟩ => by
    obtain ⟨xs0, e0, h⟩ := ownIs_inv h
    obtain ⟨p0, vs0, z0, zh, _⟩ := rl.own i xs0 (gt_eq _ _ e0)
    refine ⟨.ref p0, z0, .inl ⟨rfl, vs0, .inl (.inl zh)⟩, c, wd, env, _, Ex, rl, h, xo, fun y env1 h1 u wd1 H1 le1 r1 rp1 => ?_⟩
    obtain ⟨xs, e1, h2⟩ := ownIs_inv h1
    clear h1
    have h1 := h2
    clear h2
    obtain ⟨p1, vs, z1, z2, z3, z4, z5, z6⟩ := r1.own i xs (gt_eq _ _ e1)
    rw [z0] at z1
    cases z1
    split at h1
    · rename_i ys
      obtain ⟨q, us, rfl, q1, q2⟩ := top_lst r1.good rp1
      have hz : vs.length + us.length ≤ sizeLine := by
        rw [z6.length, q2.length]
        exact sz6 h1.1
      refine ⟨_, _, vs, us, rfl, rfl, z2, q1, hz, kk _ _ h1.2 .non wd1 _ le1 (r1.mut (gt_eq _ _ e1) z0 (z6.append q2) ?_) .non⟩
      rw [List.length_append]
      exact hz
    · exact h1.elim
end
/-! ### x[i] = e, x one name's own list -/
def sSetIx (i : Nat) (iw ew : W D) : WS := fun pe env => ew env (fun v env1 => ownIs env1 i fun _ => iw env1 (fun n env2 => ownIs env2 i fun xs => match n with
  | .int n => ∃ j, ixN xs.length n = some j ∧ pe.nx (env2.set i (some (.own (xs.set j v))))
  | _ => False) pe.ex) pe.ex
theorem js_setIx (i : Nat) {x : Str} {y e : Expr} {iw ew : W D} {p1 p2 pos : Pos} (hi : JE T X E y iw) (he : JE T X E e ew) (hN : X.N[i]? = some x := by rfl) (hv : Vis X.env.scope x := by first | exact Or.inl rfl | exact Or.inr (Or.inl rfl) | exact Or.inr (Or.inr rfl)) (hd : (x == ("__debug__" : Str)) = false := by decide)
    (hcd : (x == ("__classdict__" : Str)) = false := by decide) (hs : swapsWithSole [.Subscript (.Name x p1) y p2] e pos.line X.env = pure false := by rfl) (hw : swappedStores [.Subscript (.Name x p1) y p2] e X.env = pure none := by rfl)
    (h1 : (assignEach [.Subscript (.Name x p1) y p2] X.env).map (·.2) = [assign (.Subscript (.Name x p1) y p2) X.env] := by rfl)
    (hasg : ∀ v, assign (.Subscript (.Name x p1) y p2) X.env v = (do
      let ov ← holding [v] (eval (.Name x p1) X.env)
      let iv ← holding [v, ov] (eval y X.env)
      standAt p2
      holding [v, ov, iv] (setItem ov iv v)
      release [v, ov, iv] []) := by intro _; rfl) : JS T X E (.Assign [.Subscript (.Name x p1) y p2] e pos) (sSetIx i iw ew) :=
  psI (ps_asg he (pg_sub (pe_var hN hv hd hcd) hi set_list hasg) hs hw h1) fun D σ H ⟨c, wd, env, pe, rl, h, o⟩ => by
    refine ⟨c, wd, env, _, _, rl, h, o.ex, fun v env1 h1 u wd1 H1 le1 r1 rp1 => ?_⟩
    obtain ⟨xs0, e0, h1⟩ := ownIs_inv h1
    obtain ⟨p0, vs0, z0, zh, _⟩ := r1.own i xs0 (gt_eq _ _ e0)
    refine ⟨.ref p0, z0, c, wd1, env1, _, _, r1, h1, o.ex, fun n env2 h2 w wd2 H2 le2 r2 rp2 => ?_⟩
    obtain ⟨xs, e1, h3⟩ := ownIs_inv h2
    clear h2
    have h2 := h3
    clear h3
    obtain ⟨p1, vs, z1, z2, z3, z4, z5, z6⟩ := r2.own i xs (gt_eq _ _ e1)
    rw [z0] at z1
    cases z1
    split at h2
    · rename_i n
      cases rp2
      obtain ⟨j, ej, h2⟩ := h2
      refine ⟨_, vs, n, j, rfl, rfl, z2, by rw [z6.length]; exact ej, o.nx _ h2 _ wd2 _ (le1.trans le2) (r2.mut (gt_eq _ _ e1) z0 (z6.set j (Rep.mono le2 rp1)) ?_)⟩
      rw [List.length_set]
      exact r2.good.siz _ _ z2
    · exact h2.elim
/-! ### *e in a display -/
def wStar (a : W D) (r : W (List D)) : W (List D) := a.bind fun x env Q ex => match dItems x with
  | some xs => r env (fun ys env' => Q (xs ++ ys) env') ex
  | none => False
theorem ja_star {e : Expr} {es : List Expr} {a : W D} {w : W (List D)} {p : Pos} (ha : JB T X E e a) (hr : JA T X E es w) (hs : starEach (.Starred e p :: es) X.env = (true, eval e X.env) :: starEach es X.env := by rfl) : JA T X E (.Starred e p :: es) (wStar a w) :=
  paI (StX.pa_star ha hr hs) fun σ H Q ⟨c, wd, env, P, Ex, r, h, xo, k⟩ =>
    ⟨c, wd, env, _, Ex, r, h, xo, fun x env1 h1 v wd1 H1 le1 r1 tp => by
      dsimp only at h1
      split at h1
      · rename_i xs ex
        cases x with
        | lst ys =>
          cases ex
          obtain ⟨p, vs, rfl, q1, q2⟩ := top_lst r1.good tp
          exact ⟨p, vs, rfl, .inr (.inl (.inl q1)), c, wd1, env1, _, Ex, r1, h1, xo, fun ys env2 h2 us wd2 H2 le2 r2 rp2 => k _ env2 h2 _ wd2 H2 (le1.trans le2) r2 ((q2.mono le2).append rp2)⟩
        | tup ys =>
          cases ex
          obtain ⟨p, vs, rfl, q1, _, q2⟩ := top_tup r1.good tp
          exact ⟨p, vs, rfl, .inl q1, c, wd1, env1, _, Ex, r1, h1, xo, fun ys env2 h2 us wd2 H2 le2 r2 rp2 => k _ env2 h2 _ wd2 H2 (le1.trans le2) r2 ((q2.mono le2).append rp2)⟩
        | _ => cases ex
      · exact h1.elim⟩
end
end Pd

namespace Pd
open PySem PySem.Spec PyProof.Rows L2 LamX

/-! ### enumerate of a tuple -/
theorem en_new {v : Value} {o : Obj} {G : Heap → Prop} (B : Begins v o G) :
    Meets (Builtin.«enumerate.__new__» ⟨[.type "enumerate", v], []⟩) (fun _ R s => G s.heap ∧
      R (.ok (.ret (.ref (s.heap.push o).objs.size))) { s with heap := (s.heap.push o).push { cls := .type "enumerate", data := .fields #[.none, .bool false, .ref s.heap.objs.size, rawInt 0, .none, .none] } }) :=
  .of_wp fun prog w A R s hh => by
    obtain ⟨hp, gs, dr, tk, os⟩ := s
    obtain ⟨h1, h⟩ := hh
    have hsub := sub_enumerate
    have go : ∀ {A' : Around} {E : Value → Shared → Prop} {Q : Value → Shared → Prop}, Q (.ref hp.objs.size) ⟨hp.push o, gs, dr, tk, os⟩ → wpAny (model prog w) A' (pyIter v) Q E ⟨hp, gs, dr, tk, os⟩ :=
      fun q => B.iter prog w _ _ ⟨hp, gs, dr, tk, os⟩ _ h1 q
    wp_walk using go
    refine wpAny_stack_any fun stk => wpAny_pure ?_
    split
    · rename_i c _ _ _ _ _
      cases (c == Value.type "enumerate")
      all_goals
        wp_walk using go
        exact ⟨_, rfl, h⟩
    · wp_walk using go
      exact ⟨_, rfl, h⟩
theorem en_call {prog : Program} {w : World} {A : Around} {E : Value → Shared → Prop} {s : Shared} {v : Value} {o : Obj} {G : Heap → Prop} {Q : Value → Shared → Prop} (B : Begins v o G) (h1 : G s.heap)
    (h : ∀ h', IsEnum h' (s.heap.objs.size + 1) s.heap.objs.size 0 .none → h'.get? s.heap.objs.size = some o → (∀ b u, s.heap.get? b = some u → h'.get? b = some u) → Q (.ref (s.heap.objs.size + 1)) { s with heap := h' }) :
    wpAny (model prog w) A (call (.type "enumerate") [v]) Q E s := by
  refine callType_new F.called_enumerate (by decide) (F.typeCall_enumerate_1 _) (F.newCall_enumerate_1 _) (fun obj => F.args_object_init_2 obj _) F.entry_enumerate_new (en_new B) ⟨h1, ?_⟩
  have sz : (s.heap.push o).objs.size = s.heap.objs.size + 1 := Heap.size_push ..
  show _ ∧ _
  rw [sz]
  have he : IsEnum ((s.heap.push o).push { cls := .type "enumerate", data := .fields #[.none, .bool false, .ref s.heap.objs.size, rawInt 0, .none, .none] }) (s.heap.objs.size + 1) s.heap.objs.size 0 .none := by
    have q := Heap.get?_push_size (s.heap.push o) (o := { cls := .type "enumerate", data := .fields #[.none, .bool false, .ref s.heap.objs.size, rawInt 0, .none, .none] }) rfl
    rw [sz] at q
    exact q
  exact ⟨⟨_, he, rfl⟩, h _ he (Heap.get?_push_of_some _ (Heap.get?_push_size _ B.free)) fun b u x => Heap.get?_push_of_some _ (Heap.get?_push_of_some _ x)⟩
/-- the tuple at a, each item in a new pair -/
def ItT (K : PySem.W.Frag) (a : Addr) : It :=
  ⟨fun i H => ∃ (xs : List V) (x : V), SqT K H a xs ∧ xs[i]? = some x, fun i H v H' => ∃ p x, v = .ref p ∧ H p = none ∧ H' = upd H p (.tup [.int (i : Nat), x]) ∧ ∀ xs, SqT K H a xs → xs[i]? = some x, fun i H => ∃ xs : List V, SqT K H a xs ∧ xs.length = i⟩
/-- the i-th turn of enumerate e over the tuple at a, by its iterator t -/
structure EnT (a e t : Addr) (i : Nat) (h : Heap) : Prop where
  num : ∃ old, IsEnum h e t (i : Int) old
  itr : h.IsTupleIter t a i
  et : e ≠ t
  at_ : a ≠ t
  ea : e ≠ a
theorem two_of {e t b : Addr} (h : b ∈ [e, t]) : b = e ∨ b = t := by simpa using h
theorem EnT.lt {a e t : Addr} {i : Nat} {h : Heap} (z : EnT a e t i h) : ∀ b ∈ [e, t], b < h.objs.size := by
  obtain ⟨_, n⟩ := z.num
  obtain ⟨_, m, _⟩ := z.itr
  intro b hb
  rcases two_of hb with rfl | rfl
  · exact Heap.lt_size n
  · exact Heap.lt_size m
/-- a pair that has come is laid down, and the turn goes on -/
theorem EnT.goes {X : Cx} {pins : List (Addr × Obj)} {σ : L2.St} {H : Hp} {s : Shared} {a e t : Addr} {i tk : Nat} {x : V} {u : Value} {h1 h2 : Heap} {xs : List V} (z : EnT a e t i s.heap) (I : Inv X pins σ H s) (free : ∀ b ∈ [e, t], FpOk X pins H b) (hq : SqT X.K H a xs) (hx : xs[i]? = some x) (ru : RelV x u)
    (pair : h1.get? s.heap.objs.size = some { cls := .type "tuple", data := .seq #[.int i tk, u] }) (old : ∀ b o, b ≠ e → b ≠ t → s.heap.get? b = some o → h1.get? b = some o) (next : h1.IsTupleIter t a (i + 1)) (num : IsEnum h2 e t ((i : Int) + 1) u) (but : Heap.SameBut e h1 h2) :
    ∃ y H', Inv X pins σ H' { s with heap := h2, toks := tk + 1 } ∧ RelV y (.ref s.heap.objs.size) ∧ (ItT X.K a).yld i H y H' ∧ EnT a e t (i + 1) h2 ∧ ∀ b ∈ [e, t], H' b = none := by
  have room : H s.heap.objs.size = none := I.hok.fresh (Nat.le_refl _)
  have low := z.lt
  have there : h2.get? s.heap.objs.size = some { cls := .type "tuple", data := .seq #[.int i tk, u] } := by
    rw [but.2 _ (Nat.ne_of_gt (low e (by simp)))]
    exact pair
  have obj : ObjOk X.prog X.w (upd H s.heap.objs.size (.tup [.int i, x])) h2 s.heap.objs.size (.tup [.int i, x]) := ⟨show 2 ≤ sizeLine by decide, _, .cons ⟨tk, rfl⟩ (.cons ru .nil), _, there, rfl, _, rfl⟩
  have kept : ∀ b o, b ∉ [e, t] → s.heap.get? b = some o → h2.get? b = some o := fun b o nb g => by
    have n1 : b ≠ e := fun y => nb (by simp [y])
    rw [but.2 b n1]
    exact old b o n1 (fun y => nb (by simp [y])) g
  refine ⟨.ref s.heap.objs.size, _, I.turnedNew kept free (Nat.le_refl _) obj, rfl, ⟨_, x, rfl, room, rfl, fun ys hy => ?_⟩, ?_, fun b hb => ?_⟩
  · rw [I.tuple_inj hy hq]
    exact hx
  · refine ⟨⟨u, ?_⟩, next.at fun o g => ?_, z.et, z.at_, z.ea⟩
    · rw [Int.natCast_succ]
      exact num
    · rw [but.2 t z.et.symm]
      exact g
  · rw [upd_ne (Nat.ne_of_lt (low b hb))]
    exact (free b hb).1
theorem turn_enT {P : Program} {w : World} {K : PySem.W.Frag} {elts : List Expr} {kk : Nat} {tpos : Pos} (a e t : Addr) : Turn P w K (.Tuple elts kk tpos) (ItT K a) [e, t] e (EnT a e t) where
  mem := List.mem_cons_self
  obj i h z b hb := by
    obtain ⟨old, n⟩ := z.num
    obtain ⟨o, m, _, dt⟩ := z.itr
    rcases two_of hb with rfl | rfl
    · exact ⟨_, n, by simp⟩
    · exact ⟨o, m, by simp [dt]⟩
  keep i h h' z k := by
    obtain ⟨old, n⟩ := z.num
    exact ⟨⟨old, k e (by simp) _ n⟩, z.itr.at (k t (by simp)), z.et, z.at_, z.ea⟩
  item := by
    rintro X rfl rfl rfl calm i pins s σ H E I free z ⟨xs, x, hq, hx⟩
    obtain ⟨its, rv, tup, _⟩ := I.tuple hq
    obtain ⟨u, hu, ru⟩ := rv.get hx
    obtain ⟨old, n⟩ := z.num
    have quiet : X.A.in1.handled = none := I.ok.hd calm
    have far : e ∉ [t, a] := by simp [z.et, z.ea]
    have more : i < its.toArray.size := by simpa using (List.getElem?_eq_some_iff.mp hu).1
    refine wpAny_pyNext_enum_itemD (Draws.tuple quiet t a z.at_ its.toArray) n ⟨z.itr, tup⟩ more z.et far fun v h1 tk hv out st pair _ keeps => ?_
    obtain rfl : v = u := by
      rw [← Array.getElem?_toList] at hv
      exact Option.some.inj (hv.symm.trans hu)
    exact ⟨_, rfl, wpAny_letOwnedTupleGo_enum (s := { s with heap := h1, toks := tk + 1 }) out fun h2 num but => z.goes I free hq hx ru pair keeps st.1 num but⟩
  done := by
    rintro X rfl rfl rfl calm i pins s σ H E I free z ⟨xs, hq, rfl⟩
    obtain ⟨its, rv, tup, _⟩ := I.tuple hq
    obtain ⟨old, n⟩ := z.num
    have quiet : X.A.in1.handled = none := I.ok.hd calm
    have all : its.toArray.size = xs.length := by simp [rv.length]
    obtain ⟨g0, g1, _, g3, g4, g5⟩ := free t (by simp)
    exact wpAny_pyNext_enum_endD (Draws.tuple quiet t a z.at_ its.toArray) n ⟨all ▸ z.itr, tup⟩ fun h1 but => ⟨rfl, I.turned (t' := s.toks) but g0 g1 g3 g4 g5⟩
  self A i s Q E z h := by
    obtain ⟨_, n⟩ := z.num
    exact wpAny_pyIter_enum n h
def iEnT (K : PySem.W.Frag) (ta : TA) : TI := fun σ H R => ta σ H fun vs H1 => ∃ a xs, vs = [.ref a] ∧ ((SqL K H1 a xs ∧ R (Ite K a) H1) ∨ (SqT K H1 a xs ∧ R (ItT K a) H1))
theorem pi_enT {X : Cx} {e : Expr} {ta : TA} {p pos tpos : Pos} {elts : List Expr} {kk : Nat} (hg : Gl X "enumerate") (hm : X.mg "enumerate" = none) (ha : PA X [e] ta) (hs : starEach [e] X.env = [(false, eval e X.env)] := by rfl) :
    PI X (.Tuple elts kk tpos) (.Call (.Name "enumerate" p) [e] [] pos) (iEnT X.K ta) := by
  constructor
  intro pins s σ H R I h
  refine Call_ ?_
  apply ld_blt I hg hm boot_enumerate
  apply PyProof.Rows.callWith_type1 _ hs rfl
  apply thn (ha.run pos pins s σ H _ I h)
  rintro us s1 ⟨_, H1, I1, r1, a, xs, rfl, q⟩
  obtain ⟨rfl⟩ : us = [.ref a] := Vals.ref1 r1
  have top : ∀ b ∈ [s1.heap.objs.size + 1, s1.heap.objs.size], FpOk X pins H1 b := fun b hb => by
    have le : s1.heap.objs.size ≤ b := by
      rcases two_of hb with rfl | rfl
      · exact Nat.le_succ _
      · exact Nat.le_refl _
    exact I1.fpOk le (I1.hok.fresh le)
  rcases q with ⟨hq, q⟩ | ⟨hq, q⟩
  · obtain ⟨its, _, lst, _⟩ := I1.list hq
    apply en_call (begins_list a its.toArray) lst.isList
    intro h1 num new keeps
    apply wpAny_pyIter_enum num
    exact ⟨_, _, _, _, H1, rfl, I1.kept (t' := s1.toks) keeps, turn_enum a _ _, ⟨⟨.none, num⟩, ⟨_, new, rfl, rfl⟩, Nat.succ_ne_self _⟩, top, q⟩
  · obtain ⟨its, _, tup, _⟩ := I1.tuple hq
    have low : a < s1.heap.objs.size := by
      obtain ⟨_, g, _⟩ := tup
      exact Heap.lt_size g
    apply en_call (begins_tuple a its.toArray) tup
    intro h1 num new keeps
    apply wpAny_pyIter_enum num
    exact ⟨_, _, _, _, H1, rfl, I1.kept (t' := s1.toks) keeps, turn_enT a _ _, ⟨⟨.none, num⟩, ⟨_, new, rfl, rfl⟩, Nat.succ_ne_self _, Nat.ne_of_lt low, Nat.ne_of_gt (Nat.lt_succ_of_lt low)⟩, top, q⟩
section
variable {X : Cx} {T : List (Addr × Str)} {E : XK} {k : Nat}
def enD (n : Nat) : List D → List D
  | [] => []
  | x :: xs => .tup [.int n, x] :: enD (n + 1) xs
theorem enD_len : ∀ (n : Nat) (xs : List D), (enD n xs).length = xs.length
  | _, [] => rfl
  | n, _ :: xs => congrArg (· + 1) (enD_len (n + 1) xs)
theorem enD_get : ∀ (n i : Nat) (xs : List D) (x : D), xs[i]? = some x → (enD n xs)[i]? = some (.tup [.int (n + i : Nat), x])
  | _, _, [], _, h => by simp at h
  | n, 0, y :: xs, x, h => by
    simp at h
    subst h
    rfl
  | n, i + 1, y :: xs, x, h => by
    have := enD_get (n + 1) i xs x (by simpa using h)
    rw [Nat.add_assoc, Nat.add_comm 1 i] at this
    simpa [enD] using this
def wEnum (a : W D) : W (List D) := a.bind fun x env Q _ => match dItems x with
  | some xs => Q (enD 0 xs) env
  | none => False
theorem yd_en {K : PySem.W.Frag} {wd : Wd} {xs : List D} {us : List V} {i : Nat} {H H' : Hp} {x v : V} {p : Addr} (ru : Reps K wd us xs) (ev : v = .ref p) (hp : H p = none) (eH : H' = upd H p (.tup [.int (i : Nat), x])) (e1 : us[i]? = some x) :
    ∃ d, (enD 0 xs)[i]? = some d ∧ YD K wd d H v H' := by
  obtain ⟨d1, f1, r1⟩ := ru.getV e1
  have := enD_get 0 i xs d1 f1
  rw [Nat.zero_add] at this
  exact ⟨_, this, .inr (.inl ⟨p, [.int (i : Nat), x], [.int (i : Nat), d1], ev, hp, eH, rfl, .cons (.int _) (.cons r1 .nil), by show 2 ≤ sizeLine; decide⟩)⟩
theorem ji_enum {e : Expr} {w : W D} {p pos tpos : Pos} {elts : List Expr} {kk : Nat} (hg : Gl X "enumerate") (hm : X.mg "enumerate" = none) (he : JE T X E e w) (hs : starEach [e] X.env = [(false, eval e X.env)] := by rfl) (hs2 : starEach [e] X.env = (false, eval e X.env) :: starEach [] X.env := by rfl) :
    JI T X E (.Tuple elts kk tpos) (.Call (.Name "enumerate" p) [e] [] pos) (wEnum w) :=
  piI (pi_enT hg hm (pa_cons he pa_nil hs2) hs) fun σ H R ⟨c, wd, env, P, Ex, r, h, xo, kk⟩ => ⟨c, wd, env, _, Ex, r, h, xo, fun x env1 h1 v wd1 H1 le1 r1 rp1 => by
    dsimp only at h1
    split at h1
    · rename_i xs ex
      cases x with
      | lst ys =>
        cases ex
        cases rp1 with
        | lst hs1 rs1 =>
          have q1 := sub_sqL (K := X.K) r1.good hs1
          refine ⟨_, _, rfl, .inl ⟨q1, kk _ env1 h1 _ wd1 H1 le1 r1 ?_ (by rw [enD_len, ← rs1.length]; exact (r1.good.ntb _ _ hs1).2)⟩⟩
          unfold WalkD
          rw [enD_len, ← rs1.length]
          refine ⟨fun i H hi z => ⟨_, _, .inl (.inl (z _ _ hs1)), List.getElem?_eq_getElem hi⟩, fun H z => ⟨_, .inl (.inl (z _ _ hs1)), Nat.le_refl _⟩, fun i H x H' hi z y => ?_⟩
          obtain ⟨p, a, e1, e2, e3, e4⟩ := y
          exact yd_en rs1 e1 e2 e3 (e4 _ (.inl (.inl (z _ _ hs1))))
      | tup ys =>
        cases ex
        cases rp1 with
        | tup hs1 rs1 =>
          have q1 := sub_sqT (K := X.K) r1.good hs1
          refine ⟨_, _, rfl, .inr ⟨q1, kk _ env1 h1 _ wd1 H1 le1 r1 ?_ (by rw [enD_len, ← rs1.length]; exact siz_sqT r1.good hs1)⟩⟩
          unfold WalkD
          rw [enD_len, ← rs1.length]
          refine ⟨fun i H hi z => ⟨_, _, sqT_sub X.K z hs1, List.getElem?_eq_getElem hi⟩, fun H z => ⟨_, sqT_sub X.K z hs1, rfl⟩, fun i H x H' hi z y => ?_⟩
          obtain ⟨p, a, e1, e2, e3, e4⟩ := y
          exact yd_en rs1 e1 e2 e3 (e4 _ (sqT_sub X.K z hs1))
      | _ => cases ex
    · exact h1.elim⟩
/-! ### the drawing list -/
def bokB (j n : Int) : Prop := 0 ≤ n ∧ ((j = 0 ∧ n < 2 ^ 4000) ∨ (j = 1 ∧ n < 2 ^ 100) ∨ j = 2)
def wBoxGet (a b : W D) : W D := a.bind fun x => b.bind fun y env Q _ => match x, y with
  | .box _, .int j => 0 ≤ j ∧ j ≤ 2 ∧ ∀ n, bokB j n → Q (.int n) env
  | _, _ => False
theorem je_boxGet {a b : Expr} {wa wb : W D} {pos : Pos} (ha : JE T X E a wa) (hb : JE T X E b wb) (hs : PlainIx b) : JE T X E (.Subscript a b pos) (wBoxGet wa wb) := by
  refine peI (pe_ix ix_list ha hb hs) fun σ H Q ⟨c, wd, env, P, Ex, rl, h, xo, kk⟩ => ⟨c, wd, env, _, Ex, rl, h, xo, fun x env1 h1 v wd1 H1 le1 r1 rp1 => ⟨c, wd1, env1, _, Ex, r1, h1, xo, fun y env2 h2 u wd2 H2 le2 r2 rp2 => ?_⟩⟩
  dsimp only at h2
  split at h2
  · rename_i q j
    cases rp2
    cases rp1 with
    | box hb0 =>
      have hb := le2.b _ hb0
      obtain ⟨_, g, s, cc, e1, g0, g1, s0, s1, c0⟩ := r2.good.box _ hb
      obtain ⟨j0, j2, h2⟩ := h2
      have : j = 0 ∨ j = 1 ∨ j = 2 := by omega
      rcases this with rfl | rfl | rfl
      · exact ⟨_, _, _, .int g, rfl, rfl, .inl (.inl e1), rfl, kk _ env2 (h2 g ⟨g0, .inl ⟨rfl, g1⟩⟩) _ wd2 H2 (le1.trans le2) r2 (.int _)⟩
      · exact ⟨_, _, _, .int s, rfl, rfl, .inl (.inl e1), rfl, kk _ env2 (h2 s ⟨s0, .inr (.inl ⟨rfl, s1⟩)⟩) _ wd2 H2 (le1.trans le2) r2 (.int _)⟩
      · exact ⟨_, _, _, .int cc, rfl, rfl, .inl (.inl e1), rfl, kk _ env2 (h2 cc ⟨c0, .inr (.inr rfl)⟩) _ wd2 H2 (le1.trans le2) r2 (.int _)⟩
  · exact h2.elim
theorem Rel.boxSet {K : PySem.W.Frag} {c : Ctx} {wd : Wd} {env : PEnv} {σ : L2.St} {H : Hp} (r : Rel K T c wd env σ H) {b : Addr} (hb : b ∈ wd.B) {g s cc : Int} (h : 0 ≤ g ∧ g < 2 ^ 4000 ∧ 0 ≤ s ∧ s < 2 ^ 100 ∧ 0 ≤ cc) : Rel K T c wd env σ (upd H b (.lst [.int g, .int s, .int cc])) := by
  obtain ⟨m0, g', s', c', e, _⟩ := r.good.box b hb
  refine r.go (Ord.refl _ _) ⟨fun a o q => ?_, r.good.ntb, fun b' hb' => ?_, fun q hq => ?_, siz_upd r.good.siz (by show 3 ≤ sizeLine; decide)⟩ ⟨fun a o q n t => ?_, fun a q => ?_⟩
  · rw [upd_ne (fun z => by rw [z, m0] at q; cases q)]
    exact r.good.sub a o q
  · obtain ⟨z1, g2, s2, c2, z2, z3⟩ := r.good.box b' hb'
    by_cases hbb : b' = b
    · subst hbb
      exact ⟨z1, g, s, cc, upd_same, h⟩
    · exact ⟨z1, g2, s2, c2, by rw [upd_ne hbb]; exact z2, z3⟩
  · obtain ⟨ps, z1, z2, z3⟩ := r.good.tab q hq
    refine ⟨ps, ?_, z2, fun pos cv hc => ?_⟩
    · rw [upd_ne (fun z => by rw [z, e] at z1; cases z1)]
      exact z1
    · obtain ⟨a, y1, y2⟩ := z3 pos cv hc
      refine ⟨a, y1, ?_⟩
      rw [upd_ne (fun z => by rw [z, e] at y2; cases y2)]
      exact y2
  · rw [upd_ne (fun z => n (by rw [z]; exact hb))]
    exact q
  · by_cases ha : a = b
    · subst ha
      exact (q.no upd_same noTb_lst).elim
    · exact q.upd ha
def sBoxSet (i : Nat) (j : Int) (ew : W D) : WS := fun pe env => ew env (fun v env1 => match gt env1 i, v with
  | some (.d (.box _)), .int n => 0 ≤ j ∧ j ≤ 2 ∧ bokB j n ∧ pe.nx env1
  | _, _ => False) pe.ex
theorem js_boxSet (i : Nat) {j : Int} {x : Str} {e : Expr} {ew : W D} {p1 p2 pos py : Pos} {jj} (he : JE T X E e ew) (hN : X.N[i]? = some x := by rfl) (hv : Vis X.env.scope x := by first | exact Or.inl rfl | exact Or.inr (Or.inl rfl) | exact Or.inr (Or.inr rfl)) (hd : (x == ("__debug__" : Str)) = false := by decide)
    (hcd : (x == ("__classdict__" : Str)) = false := by decide) (hs : swapsWithSole [.Subscript (.Name x p1) (.Constant (.int j) jj py) p2] e pos.line X.env = pure false := by rfl) (hw : swappedStores [.Subscript (.Name x p1) (.Constant (.int j) jj py) p2] e X.env = pure none := by rfl)
    (h1 : (assignEach [.Subscript (.Name x p1) (.Constant (.int j) jj py) p2] X.env).map (·.2) = [assign (.Subscript (.Name x p1) (.Constant (.int j) jj py) p2) X.env] := by rfl)
    (hasg : ∀ v, assign (.Subscript (.Name x p1) (.Constant (.int j) jj py) p2) X.env v = (do
      let ov ← holding [v] (eval (.Name x p1) X.env)
      let iv ← holding [v, ov] (eval (.Constant (.int j) jj py) X.env)
      standAt p2
      holding [v, ov, iv] (setItem ov iv v)
      release [v, ov, iv] []) := by intro _; rfl) : JS T X E (.Assign [.Subscript (.Name x p1) (.Constant (.int j) jj py) p2] e pos) (sBoxSet i j ew) :=
  psI (ps_asg he (pg_sub (pe_var hN hv hd hcd) pe_int set_list hasg) hs hw h1) fun D σ H ⟨c, wd, env, pe, rl, h, o⟩ => by
    refine ⟨c, wd, env, _, _, rl, h, o.ex, fun v env1 hh u wd1 H1 le1 r1 rp1 => ?_⟩
    split at hh
    · rename_i q n eg
      cases rp1
      obtain ⟨v0, z0, z1⟩ := r1.dat i _ (gt_eq _ _ eg)
      cases z1 with
      | box hb =>
        obtain ⟨m0, g, s, cc, e1, g0, g1, s0, s1, c0⟩ := r1.good.box _ hb
        obtain ⟨j0, j2, bk, hnx⟩ := hh
        refine ⟨.ref q, z0, ?_⟩
        have : j = 0 ∨ j = 1 ∨ j = 2 := by omega
        rcases this with rfl | rfl | rfl
        · refine ⟨_, _, _, 0, rfl, rfl, e1, rfl, o.nx _ hnx _ wd1 _ le1 (r1.boxSet hb (g := n) (s := s) (cc := cc) ⟨bk.1, ?_, s0, s1, c0⟩)⟩
          rcases bk.2 with z | z | z <;> first | exact z.2 | omega
        · refine ⟨_, _, _, 1, rfl, rfl, e1, rfl, o.nx _ hnx _ wd1 _ le1 (r1.boxSet hb (g := g) (s := n) (cc := cc) ⟨g0, g1, bk.1, ?_, c0⟩)⟩
          rcases bk.2 with z | z | z
          · exact absurd z.1 (by decide)
          · exact z.2
          · exact absurd z (by decide)
        · exact ⟨_, _, _, 2, rfl, rfl, e1, rfl, o.nx _ hnx _ wd1 _ le1 (r1.boxSet hb (g := g) (s := s) (cc := n) ⟨g0, g1, s0, s1, bk.1⟩)⟩
    · exact hh.elim
/-- a new one -/
def wBox (w : W (List D)) : W D := w.bind fun xs env Q _ => match xs with
  | [.int g, .int s, .int c] => (0 ≤ g ∧ g < 2 ^ 4000 ∧ 0 ≤ s ∧ s < 2 ^ 100 ∧ 0 ≤ c) ∧ ∀ p, Q (.box p) env
  | _ => False
theorem je_box {e : Expr} {w : W (List D)} (h : JF T X E e w) : JE T X E e (wBox w) :=
  peI h fun σ H Q ⟨c, wd, env, P, Ex, r, h, xo, k⟩ => ⟨c, wd, env, _, Ex, r, h, xo, fun xs env' p b wd' H' le r' rp => by
    dsimp only at p
    split at p
    · rename_i g s cc
      obtain ⟨q, vs, rfl, h1, h2, h3, h4, h5, h6, h7⟩ := rp
      obtain rfl : vs = [.int g, .int s, .int cc] := Reps.ints (ns := [g, s, cc]) h5
      have le' : Le wd' ⟨wd'.M, q :: wd'.B⟩ := ⟨Sub.refl _, fun a ha => List.mem_cons_of_mem _ ha⟩
      refine k _ env' (p.2 q) (.ref q) ⟨wd'.M, q :: wd'.B⟩ H' (le.trans le') ?_ (.box List.mem_cons_self)
      refine ⟨⟨r'.ord.le.trans le', r'.ord.fm, fun a ha => ?_⟩, ⟨r'.good.sub, r'.good.ntb, fun a ha => ?_, r'.good.tab, r'.good.siz⟩, r'.keep, r'.len, fun i d z => ?_, fun i ys z => ?_, r'.sep, fun qq hq => ?_, ⟨fun i p0 C fs z => ?_, r'.ext.ob1, fun i cs z qq hq => ?_, r'.ext.cnd, r'.ext.ce1, fun i lk kvs z => ?_, r'.ext.dc1⟩⟩
      · rcases List.mem_cons.mp ha with rfl | ha
        · exact .inr h4
        · exact r'.ord.fb a ha
      · rcases List.mem_cons.mp ha with rfl | ha
        · exact ⟨h2, g, s, cc, h1, p.1⟩
        · exact r'.good.box a ha
      · obtain ⟨v, y1, y2⟩ := r'.dat i d z
        exact ⟨v, y1, y2.mono le'⟩
      · obtain ⟨p2, us, y1, y2, y3, y4, y5, y6⟩ := r'.own i ys z
        refine ⟨p2, us, y1, y2, y3, fun hb => ?_, y5, y6.mono le'⟩
        rcases List.mem_cons.mp hb with rfl | hb
        · exact h6.o i ys z y1
        · exact y4 hb
      · obtain ⟨y1, y2, y3, y4⟩ := r'.pin qq hq
        refine ⟨y1, y2, fun hb => ?_, y4⟩
        rcases List.mem_cons.mp hb with z | hb
        · exact h7 qq hq z
        · exact y3 hb
      · obtain ⟨dx, vs, y1, y2, y3, y4, y5, y6⟩ := r'.ext.obj i p0 C fs z
        exact ⟨dx, vs, y1, y2, y3, y4, y5, y6.mono le'⟩
      · obtain ⟨⟨vs, y1, y2⟩, y3, y4, y5, y6⟩ := r'.ext.cel i cs z qq hq
        refine ⟨⟨vs, y1, y2.mono le'⟩, y3, fun hb => ?_, y5, y6⟩
        rcases List.mem_cons.mp hb with e | hb
        · exact h6.c i cs z qq hq e
        · exact y4 hb
      · obtain ⟨p0, vs, y1, y2, y3, y4, y5, y6⟩ := r'.ext.dct i lk kvs z
        exact ⟨p0, vs, y1, y2, y3, y4, y5, y6.mono le'⟩
    · exact p.elim⟩
end
end Pd

namespace Pd
open PySem PySem.Spec PyProof.Rows L2 LamX

section
variable {X : Cx} {T : List (Addr × Str)} {E : XK} {k : Nat}
theorem Bd.u (B : Bd X E k) : X.A.units + 200 < cLine := by have := B.room.un; omega
theorem Bd.u64 (B : Bd X E k) : X.A.units + 64 < cLine := by have := B.room.un; omega
theorem Bd.u65 (B : Bd X E k) : X.A.units + 65 < cLine := by have := B.room.un; omega
/-! ### what is never come to -/
theorem js_never {st : Stmt} : JS T X E st (fun _ _ => False) := psI ps_never fun D σ H ⟨c, wd, env, pe, r, h, o⟩ => h.elim
theorem jss_never {sts : List Stmt} : JSs T X E sts (fun _ _ => False) := pssI pss_never fun D σ H ⟨c, wd, env, pe, r, h, o⟩ => h.elim
/-! ### a new list is from now on as any other one -/
theorem Rel.frzF {K : PySem.W.Frag} {c : Ctx} {wd : Wd} {env : PEnv} {σ : L2.St} {H : Hp} {v : V} {xs : List D} (r' : Rel K T c wd env σ H) (rp : rF K c wd env σ H v xs) : ∃ wd', Le wd wd' ∧ Rel K T c wd' env σ H ∧ Rep K wd' v (.lst xs) := by
  obtain ⟨q, vs, rfl, h1, h2, h3, h4, h5, h6, h7⟩ := rp
  have le' : Le wd (wd.add q (.lst vs)) := Le.add h2
  refine ⟨wd.add q (.lst vs), le', ?_, .lst upd_same (h5.mono le')⟩
  have uq : ∀ {a : Addr} {o : HO}, (wd.add q (.lst vs)).M a = some o → (a = q ∧ o = .lst vs) ∨ wd.M a = some o := fun {a o} z => by
    by_cases ha : a = q
    · subst ha
      have z' : upd wd.M a (.lst vs) a = some o := z
      rw [upd_same] at z'
      cases z'
      exact .inl ⟨rfl, rfl⟩
    · have z' : upd wd.M q (.lst vs) a = some o := z
      rw [upd_ne ha] at z'
      exact .inr z'
  refine ⟨⟨r'.ord.le.trans le', fun a o z => ?_, r'.ord.fb⟩, ⟨fun a o z => ?_, fun a o z => ?_, fun b hb => ?_, r'.good.tab, r'.good.siz⟩, r'.keep, r'.len, fun i d z => ?_, fun i ys z => ?_, r'.sep, fun qq hq => ?_, r'.ext.addM h2 h6.c h1⟩
  · rcases uq z with ⟨rfl, rfl⟩ | z
    · exact .inr (.inl h4)
    · exact r'.ord.fm a o z
  · rcases uq z with ⟨rfl, rfl⟩ | z
    · exact h1
    · exact r'.good.sub a o z
  · rcases uq z with ⟨rfl, rfl⟩ | z
    · exact ⟨noTb_lst, r'.good.siz _ _ h1⟩
    · exact r'.good.ntb a o z
  · obtain ⟨z1, z2⟩ := r'.good.box b hb
    refine ⟨?_, z2⟩
    show upd wd.M q (.lst vs) b = none
    rw [upd_ne (show b ≠ q from fun z => h3 (z ▸ hb))]
    exact z1
  · obtain ⟨v, y1, y2⟩ := r'.dat i d z
    exact ⟨v, y1, y2.mono le'⟩
  · obtain ⟨p2, us, y1, y2, y3, y4, y5, y6⟩ := r'.own i ys z
    refine ⟨p2, us, y1, y2, ?_, y4, y5, y6.mono le'⟩
    show upd wd.M q (.lst vs) p2 = none
    rw [upd_ne (show p2 ≠ q from fun zz => h6.o i ys z (by rw [← zz]; exact y1))]
    exact y3
  · obtain ⟨y1, y2, y3, y4⟩ := r'.pin qq hq
    refine ⟨y1, ?_, y3, y4⟩
    show upd wd.M q (.lst vs) qq.1 = none
    rw [upd_ne (show qq.1 ≠ q from fun zz => h7 qq hq zz)]
    exact y2
/-- y = [.. for ..], y never changed -/
theorem js_setCompD (i : Nat) {y : Str} {elt iter tg : Expr} {ifs : List Expr} {scope : Scope} (own : List (Str × Nat)) {pos spos py : Pos} {w : W (List D)} {g : WG} {wt : W Bool} {we : W D} (B : Bd X E k) (hi : JI T X E tg iter w) (ok : BlkOk X.N X.env.scope scope own)
    (hg : ∀ (s : Shared) (H : Hp) (C : Addr) (cl : List (Str × Addr)) (fp : List Addr), JG T (X.blk s H scope (compEnvC scope cl C X.env) fp) (own.map (·.2)) tg g)
    (ht : ∀ (s : Shared) (H : Hp) (C : Addr) (cl : List (Str × Addr)) (fp : List Addr), Bd (X.blk s H scope (compEnvC scope cl C X.env) fp) E0 k → JTs T (X.blk s H scope (compEnvC scope cl C X.env) fp) E0 ifs wt)
    (he : ∀ (s : Shared) (H : Hp) (C : Addr) (cl : List (Str × Addr)) (fp : List Addr), Bd (X.blk s H scope (compEnvC scope cl C X.env) fp) E0 k → JE T (X.blk s H scope (compEnvC scope cl C X.env) fp) E0 elt we)
    (hsw : swapsWith (.ListComp elt [⟨tg, iter, ifs, 0⟩] scope pos) (some (.Name y py)) spos.line X.env = pure true) (hy : X.N[i]? = some y := by rfl) (hyl : X.env.scope.names.lookup y = some .local := by rfl)
    (hs : ∀ x, foldedSetIterable iter X.env x = pure x := by intro _; rfl) : JS T X E (.Assign [.Name y py] (.ListComp elt [⟨tg, iter, ifs, 0⟩] scope pos) spos) (sSet i (wLst (wComp w g wt we (own.map (·.2))))) := by
  have Bb : ∀ (s : Shared) (H : Hp) (C : Addr) (cl : List (Str × Addr)) (fp : List Addr), Bd (X.blk s H scope (compEnvC scope cl C X.env) fp) E0 k := fun s H C cl fp => ⟨B.room, passL, PassesOwn.never, B.calm, B.nd⟩
  exact psI (ps_setLc B.calm B.nd hy hyl hsw hi ok hg (fun s H C cl fp => ht s H C cl fp (Bb s H C cl fp)) (fun s H C cl fp => he s H C cl fp (Bb s H C cl fp)) hs) fun D σ H ⟨c, wd, env, pe, r, h, o⟩ =>
    lc_lift ⟨c, wd, env, fun xs env' => pe.nx (env'.set i (some (.d (.lst xs)))), _, r, h, o.ex, fun xs env' h' v wd' H' le r' f => by
      obtain ⟨wd2, le2, r2, rp⟩ := r'.frzF f
      exact o.nx _ h' _ wd2 H' (le.trans le2) (r2.set rp)⟩
/-! ### several values at once, new lists among them -/
def rSl (K : PySem.W.Frag) (c : Ctx) (wd : Wd) (env : PEnv) (σ : L2.St) (H : Hp) : V → Sl → Prop
  | v, .d x => Rep K wd v x
  | v, .own xs => rF K c wd env σ H v xs
  | _, _ => False
def rMs (K : PySem.W.Frag) (c : Ctx) (wd : Wd) (env : PEnv) (σ : L2.St) (H : Hp) : List V → List Sl → Prop
  | [], [] => True
  | v :: vs, s :: ss => rSl K c wd env σ H v s ∧ rMs K c wd env σ H vs ss ∧ ∀ xs, s = .own xs → ∀ (j : Nat) (ys : List D), ss[j]? = some (.own ys) → vs[j]? ≠ some v
  | _, _ => False
abbrev JM (T : List (Addr × Str)) (X : Cx) (E : XK) (es : List Expr) (w : W (List Sl)) : Prop := PA X es (lift X.K T (rMs X.K) E w)
def mNil : W (List Sl) := .ret []
def mE (a : W D) (r : W (List Sl)) : W (List Sl) := a.bind fun x => r.bind fun xs => .ret (.d x :: xs)
def mF (a : W (List D)) (r : W (List Sl)) : W (List Sl) := a.bind fun x => r.bind fun xs => .ret (.own x :: xs)
theorem jm_nil : JM T X E [] mNil := paI pa_nil fun σ H Q ⟨c, wd, env, P, Ex, r, h, _, k⟩ => k [] env h [] wd H (Le.refl _) r trivial
theorem jm_e {e : Expr} {es : List Expr} {a : W D} {w : W (List Sl)} (ha : JE T X E e a) (hr : JM T X E es w) (hs : starEach (e :: es) X.env = (false, eval e X.env) :: starEach es X.env := by rfl) : JM T X E (e :: es) (mE a w) :=
  paI (pa_cons ha hr hs) fun σ H Q ⟨c, wd, env, P, Ex, r, h, xo, k⟩ =>
    ⟨c, wd, env, _, Ex, r, h, xo, fun x env1 h1 v wd1 H1 le1 r1 rp1 => ⟨c, wd1, env1, _, Ex, r1, h1, xo, fun xs env2 h2 vs wd2 H2 le2 r2 rp2 => k _ env2 h2 (v :: vs) wd2 H2 (le1.trans le2) r2 ⟨Rep.mono le2 rp1, rp2, fun _ z => nomatch z⟩⟩⟩
theorem Rel.pinF {K : PySem.W.Frag} {c : Ctx} {wd : Wd} {env : PEnv} {σ : L2.St} {H : Hp} {p : Addr} {us : List V} (r : Rel K T c wd env σ H) (h1 : H p = some (.lst us)) (h2 : wd.M p = none) (h3 : p ∉ wd.B) (h6 : NoOwn env σ p) :
    Rel K T { c with pn := (p, us) :: c.pn } wd env σ H := ⟨r.ord, r.good, r.keep, r.len, r.dat, r.own, r.sep, fun q hq => by
  rcases List.mem_cons.mp hq with rfl | hq
  · exact ⟨h1, h2, h3, h6⟩
  · exact r.pin q hq, ⟨r.ext.obj, r.ext.ob1, r.ext.cel, r.ext.cnd, r.ext.ce1, r.ext.dct, r.ext.dc1⟩⟩
theorem rF_ne {K : PySem.W.Frag} {c : Ctx} {wd : Wd} {env : PEnv} {σ : L2.St} {H : Hp} {p : Addr} {us : List V} {pn : List (Addr × List V)} : ∀ {vs : List V} {ss : List Sl}, rMs K { c with pn := (p, us) :: pn } wd env σ H vs ss →
    rMs K { c with pn := pn } wd env σ H vs ss ∧ ∀ (j : Nat) (ys : List D), ss[j]? = some (.own ys) → vs[j]? ≠ some (.ref p)
  | [], [], _ => ⟨trivial, fun j ys h => by simp at h⟩
  | [], _ :: _, h => h.elim
  | _ :: _, [], h => h.elim
  | v :: vs, s :: ss, ⟨h1, h2, h3⟩ => by
    obtain ⟨i1, i2⟩ := rF_ne h2
    have key : rSl K { c with pn := pn } wd env σ H v s ∧ ∀ ys, s = .own ys → v ≠ .ref p := by
      cases s with
      | d x => exact ⟨h1, fun _ z => nomatch z⟩
      | obj _ _ _ => exact h1.elim
      | cels _ => exact h1.elim
      | dct _ _ => exact h1.elim
      | own xs =>
        obtain ⟨q, ws, rfl, a1, a2, a3, a4, a5, a6, a7⟩ := h1
        exact ⟨⟨q, ws, rfl, a1, a2, a3, a4, a5, a6, fun z hz => a7 z (List.mem_cons_of_mem _ hz)⟩, fun ys _ z => by
          cases z
          exact a7 (p, us) List.mem_cons_self rfl⟩
    refine ⟨⟨key.1, i1, h3⟩, fun j ys hj => ?_⟩
    cases j with
    | zero =>
      have e : s = .own ys := by simpa using hj
      intro z
      exact key.2 ys e (by simpa using z)
    | succ j => 
      have := i2 j ys (by simpa using hj)
      simpa using this
theorem jm_f {e : Expr} {es : List Expr} {a : W (List D)} {w : W (List Sl)} (ha : JF T X E e a) (hr : JM T X E es w) (hs : starEach (e :: es) X.env = (false, eval e X.env) :: starEach es X.env := by rfl) : JM T X E (e :: es) (mF a w) :=
  paI (pa_cons ha hr hs) fun σ H Q ⟨c, wd, env, P, Ex, r, h, xo, k⟩ =>
    ⟨c, wd, env, _, Ex, r, h, xo, fun x env1 h1 v wd1 H1 le1 r1 rp1 => by
      obtain ⟨p, us, rfl, a1, a2, a3, a4, a5, a6, a7⟩ := rp1
      refine ⟨{ c with pn := (p, us) :: c.pn }, wd1, env1, _, Ex, r1.pinF a1 a2 a3 a6, h1, xo, fun xs env2 h2 vs wd2 H2 le2 r2 rp2 => ?_⟩
      obtain ⟨b1, b2, b3, b4⟩ := r2.pin (p, us) List.mem_cons_self
      obtain ⟨i1, i2⟩ := rF_ne rp2
      exact k _ env2 h2 (.ref p :: vs) wd2 H2 (le1.trans le2) r2.done ⟨⟨p, us, rfl, b1, b2, b3, a4, a5.mono le2, b4, a7⟩, i1, fun _ _ j ys hj => i2 j ys hj⟩⟩
/-- one of them is stored -/
theorem rMs.set1 {K : PySem.W.Frag} {c : Ctx} {wd : Wd} {env : PEnv} {σ : L2.St} {H : Hp} {v : V} {s : Sl} {vs : List V} {ss : List Sl} (r : Rel K T c wd env σ H) (i : Nat) (m : rMs K c wd env σ H (v :: vs) (s :: ss)) :
    Rel K T c wd (env.set i (some s)) (σ.set i (some v)) H ∧ rMs K c wd (env.set i (some s)) (σ.set i (some v)) H vs ss := by
  obtain ⟨h1, h2, h3⟩ := m
  refine ⟨?_, ?_⟩
  · cases s with
    | d x => exact r.set h1
    | own xs => exact r.ownF h1
    | obj _ _ _ => exact h1.elim
    | cels _ => exact h1.elim
    | dct _ _ => exact h1.elim
  · have hl : ∀ {l : List V} {t : List Sl}, rMs K c wd env σ H l t → (∀ (j : Nat) (ys : List D), t[j]? = some (.own ys) → ∀ xs, s = .own xs → l[j]? ≠ some v) → rMs K c wd (env.set i (some s)) (σ.set i (some v)) H l t := fun {l} => by
      induction l with
      | nil =>
        intro t h _
        cases t with
        | nil => exact trivial
        | cons _ _ => exact h.elim
      | cons u l ih =>
        intro t h hn
        cases t with
        | nil => exact h.elim
        | cons z t =>
          obtain ⟨g1, g2, g3⟩ := h
          refine ⟨?_, ih g2 (fun j ys hj xs e => by simpa using hn (j + 1) ys (by simpa using hj) xs e), g3⟩
          cases z with
          | d x => exact g1
          | obj _ _ _ => exact g1.elim
          | cels _ => exact g1.elim
          | dct _ _ => exact g1.elim
          | own ys =>
            obtain ⟨p, us, rfl, a1, a2, a3, a4, a5, a6, a7⟩ := g1
            refine ⟨p, us, rfl, a1, a2, a3, a4, a5, ⟨fun j zs e => ?_, a6.c.set_d fun cs z => ?_⟩, a7⟩
            rotate_left
            · subst z
              exact h1.elim
            rcases get_set e with ⟨rfl, e, hlt⟩ | ⟨ne, e⟩
            · rw [r.len] at hlt
              rw [List.getElem?_set_self hlt]
              intro q
              have q' : v = V.ref p := by cases q; rfl
              exact hn 0 ys rfl zs (Option.some.inj e) (by rw [q']; rfl)
            · rw [List.getElem?_set_ne ne]
              exact a6.o j zs e
    exact hl h2 fun j ys hj xs e => h3 xs e j ys hj
def sParM2 (i j : Nat) (m : W (List Sl)) : WS := fun pe env => m env (fun ss env' => match ss with
  | [a, b] => pe.nx ((env'.set i (some a)).set j (some b))
  | _ => False) pe.ex
theorem js_parM2 (i j : Nat) {x y : Str} {a b : Expr} {m : W (List Sl)} {px py pt pos : Pos} {kt k2 pt2} (B : Bd X E k) (hm : JM T X E [a, b] m)
    (hi : X.N[i]? = some x := by rfl) (hj : X.N[j]? = some y := by rfl) (hij : i ≠ j := by decide) (hx : X.env.scope.names.lookup x = some .local := by rfl) (hy : X.env.scope.names.lookup y = some .local := by rfl)
    (hw : swappedStores [.Tuple [.Name x px, .Name y py] kt pt] (.Tuple [a, b] k2 pt2) X.env = pure (some [x, y]) := by rfl)
    (hs : swapsWithSole [.Tuple [.Name x px, .Name y py] kt pt] (.Tuple [a, b] k2 pt2) pos.line X.env = pure false := by rfl) :
    JS T X E (.Assign [.Tuple [.Name x px, .Name y py] kt pt] (.Tuple [a, b] k2 pt2) pos) (sParM2 i j m) :=
  psI (ps_par B.calm B.nd hi hj hij hx hy hm hw hs) fun D σ H ⟨c, wd, env, pe, r, h, o⟩ =>
    ⟨c, wd, env, _, _, r, h, o.ex, fun ss env1 h1 vs wd1 H1 le1 r1 rp1 => by
      split at h1
      · rename_i s1 s2
        match vs, rp1 with
        | [u, v], rp1 =>
          obtain ⟨q1, m1⟩ := rMs.set1 r1 i rp1
          obtain ⟨q2, m2⟩ := rMs.set1 q1 j m1
          exact ⟨u, v, rfl, o.nx _ h1 _ wd1 H1 le1 q2⟩
      · exact h1.elim⟩
def sParM3 (i j l : Nat) (m : W (List Sl)) : WS := fun pe env => m env (fun ss env' => match ss with
  | [a, b, c] => pe.nx (((env'.set i (some a)).set j (some b)).set l (some c))
  | _ => False) pe.ex
theorem js_parM3 (i j l : Nat) {x y z : Str} {a b e : Expr} {m : W (List Sl)} {px py pz pt pos : Pos} {kt k2 pt2} (B : Bd X E k) (hm : JM T X E [a, b, e] m)
    (hi : X.N[i]? = some x := by rfl) (hj : X.N[j]? = some y := by rfl) (hl : X.N[l]? = some z := by rfl) (hij : i ≠ j := by decide) (hil : i ≠ l := by decide) (hjl : j ≠ l := by decide)
    (hx : X.env.scope.names.lookup x = some .local := by rfl) (hy : X.env.scope.names.lookup y = some .local := by rfl) (hz : X.env.scope.names.lookup z = some .local := by rfl)
    (hw : swappedStores [.Tuple [.Name x px, .Name y py, .Name z pz] kt pt] (.Tuple [a, b, e] k2 pt2) X.env = pure (some [x, y, z]) := by rfl)
    (hs : swapsWithSole [.Tuple [.Name x px, .Name y py, .Name z pz] kt pt] (.Tuple [a, b, e] k2 pt2) pos.line X.env = pure false := by rfl) :
    JS T X E (.Assign [.Tuple [.Name x px, .Name y py, .Name z pz] kt pt] (.Tuple [a, b, e] k2 pt2) pos) (sParM3 i j l m) :=
  psI (ps_par3 B.calm B.nd hi hj hl hij hil hjl hx hy hz hm hw hs) fun D σ H ⟨c, wd, env, pe, r, h, o⟩ =>
    ⟨c, wd, env, _, _, r, h, o.ex, fun ss env1 h1 vs wd1 H1 le1 r1 rp1 => by
      split at h1
      · rename_i s1 s2 s3
        match vs, rp1 with
        | [u, v, w], rp1 =>
          obtain ⟨q1, m1⟩ := rMs.set1 r1 i rp1
          obtain ⟨q2, m2⟩ := rMs.set1 q1 j m1
          obtain ⟨q3, m3⟩ := rMs.set1 q2 l m2
          exact ⟨u, v, w, rfl, o.nx _ h1 _ wd1 H1 le1 q3⟩
      · exact h1.elim⟩
/-! ### slices of a list that is perhaps a name's own; turned about -/
theorem Top.mono {K : PySem.W.Frag} {wd wd' : Wd} {H : Hp} {v : V} {d : D} (t : Top K wd H v d) (le : Le wd wd') : Top K wd' H v d := by
  rcases t with t | ⟨p, vs, xs, a, b, c, e⟩
  · exact .inl (t.mono le)
  · exact .inr ⟨p, vs, xs, a, b, c, e.mono le⟩
def wRev (a : W D) : W (List D) := a.bind fun x env Q _ => match x with
  | .lst xs => Q xs.reverse env
  | _ => False
theorem jf_rev {e : Expr} {a : W D} {kk : Nat} {p1 p2 p3 pos : Pos} (ha : JB T X E e a) : JF T X E (.Subscript e (.Slice none none (some (.UnaryOp .USub (.Constant (.int 1) kk p1) p2)) p3) pos) (wRev a) :=
  peI (pe_revL ha) fun σ H Q ⟨c, wd, env, P, Ex, rl, h, xo, kk⟩ => ⟨c, wd, env, _, Ex, rl, h, xo, fun x env1 h1 v wd1 H1 le1 r1 tp => by
    dsimp only at h1
    split at h1
    · rename_i xs
      obtain ⟨p, vs, rfl, q1, q2⟩ := top_lst r1.good tp
      refine ⟨p, vs, rfl, .inl (.inl q1), fun q hq => ?_⟩
      obtain ⟨r2, f⟩ := r1.fresh hq q2.reverse (by rw [List.length_reverse]; exact r1.good.siz _ _ q1)
      exact kk _ env1 h1 _ wd1 _ le1 r2 f
    · exact h1.elim⟩
/-! ### empty dicts -/
theorem noTb_dT {xs : List (List Key × V)} : noTb (.dT xs) := fun _ h => nomatch h
theorem je_dict0 {pos : Pos} : JE T X E (.Dict [] [] pos) (W.ret (.dic [])) :=
  peI pe_dnewK fun σ H Q ⟨c, wd, env, P, Ex, rl, h, xo, kk⟩ => fun p hp => by
    have g : Grow wd H (wd.add p (.dK [])) (upd H p (.dK [])) := Grow.one hp noTb_dK trivial
    exact kk _ env h (.ref p) _ _ (Le.add (rl.good.mnone hp)) (rl.grow g) (.dic upd_same rfl .nil)
end
end Pd

namespace Pd
open PySem PySem.Spec PyProof.Rows L2 LamX
section
variable {P : Program} {w : World} {K : PySem.W.Frag} {mg : Str → Option Value} {base : Heap} {T : List (Addr × Str)}
def HasD (K : PySem.W.Frag) (mg : Str → Option Value) (x : Str) (st : Stmt) : Prop := ∃ f fd, FunD K x x (defArgs st) (defBody st) (defScope st) [] [] f fd ∧ mg x = some (.ref f)
theorem def_okX {x : Str} {st : Stmt} {N ps : List Str} {k : Nat} {F : Fn} (D : HasD K mg x st) (S : FnScope N ps (defScope st)) (bn : ∀ f fd, FunD K x x (defArgs st) (defBody st) (defScope st) [] [] f fd → Binds K fd ps [])
    (len : ∀ ds Q Ex, F ds Q Ex → ds.length = ps.length)
    (hd : ∀ (cdv : Value) (A : Around) (outer : List Env) (s : Shared) (H : Hp) (E : XK) (f : Addr), Bd (cxOf (L2.CX P w) P w K mg base N x (defScope st) f cdv A outer s H E) E k → Takes (cxOf (L2.CX P w) P w K mg base N x (defScope st) f cdv A outer s H E) (fun cls d _ H => E cls d H) →
      ∃ wb, JSs T (cxOf (L2.CX P w) P w K mg base N x (defScope st) f cdv A outer s H E) E (defBody st) wb ∧ ∀ ds Q Ex, F ds Q Ex → wb (dEnds Q Ex) (startE N ds)) : DefOk P w K mg base T x (k + 1) ps F := by
  obtain ⟨f, fd, D, gm⟩ := D
  exact def_ok D S gm (bn f fd D) len fun cdv A outer s H E B tk => hd cdv A outer s H E f B tk
end
def iAdd : D → D → Option D := fun x y => match x, y with | .int a, .int b => some (.int (a + b)) | _, _ => none
def iSub : D → D → Option D := fun x y => match x, y with | .int a, .int b => some (.int (a - b)) | _, _ => none
end Pd

namespace Pd
open PySem PySem.Spec PyProof.Rows L2 LamX
theorem reads_ints {h : Heap} : ∀ {ns : List Int} {its : List Value}, Vals (ns.map V.int) its → ReadsAll h its (ns.map PyData.int) []
  | [], _, r => by cases r; exact .nil
  | n :: ns, _, r => by
    cases r with
    | cons a b =>
      obtain ⟨t, rfl⟩ := a
      exact .cons (.int n t) (reads_ints b)
theorem alike_ints (ns : List Int) : PySem.W.AlikeAll (ns.map PyData.int) := by
  refine ⟨fun x hx y hy => ?_, fun x hx => ?_⟩
  · obtain ⟨a, _, rfl⟩ := List.mem_map.mp hx
    obtain ⟨b, _, rfl⟩ := List.mem_map.mp hy
    rfl
  · obtain ⟨a, _, rfl⟩ := List.mem_map.mp hx
    exact fun z => nomatch z
theorem depth_ints : ∀ ns : List Int, PyData.depthAll (ns.map PyData.int) = 0
  | [] => by simp [PyData.depthAll]
  | n :: ns => by simp [PyData.depthAll, PyData.depth, depth_ints ns]
section
variable {X : Cx} {T : List (Addr × Str)} {E : XK} {k : Nat}
def rBest (K : PySem.W.Frag) (f : Int → Int → Int) : List V → Hp → VK → Prop := fun vs H Q => ∃ (a : Addr) (n : Int) (ns : List Int), vs = [V.ref a] ∧ (SqL K H a ((n :: ns).map V.int) ∨ SqT K H a ((n :: ns).map V.int)) ∧ Q (.int (ns.foldl f n)) H
theorem reads_int {h : Heap} {v : Value} {m : Int} {bs : List Addr} (r : Reads h v (.int m) bs) : ∃ t, v = .int m t := by
  cases r
  exact ⟨_, rfl⟩
theorem cr_maxD (hc : X.calm = true) (hu : X.A.units + 200 < cLine) : CallR X (.builtin "max") (rBest X.K max) := by
  intro pins s σ H vs us Q I r h
  obtain ⟨a, n, ns, rfl, hs, q⟩ := h
  rw [Vals.ref1 r]
  have hd : X.A.units + 1 + PyData.depthAll ((n :: ns).map PyData.int) < cLine := by rw [depth_ints]; omega
  rcases hs with hs | hs
  · obtain ⟨its, rv, hl, _⟩ := I.list hs
    refine PySem.W.max_list_data (I.ok.hd hc) hl.isList (reads_ints rv) (alike_ints (n :: ns)) hd fun i v h' tk bs _ rr hk => ?_
    rw [PySem.W.maxD_ints] at rr
    obtain ⟨t, rfl⟩ := reads_int rr
    exact ⟨.int _, H, I.kept hk, ⟨_, rfl⟩, q⟩
  · obtain ⟨its, rv, hl, _⟩ := I.tuple hs
    refine PySem.W.max_tuple_data (I.ok.hd hc) (show s.heap.IsTuple a its.toArray from hl) (reads_ints rv) (alike_ints (n :: ns)) hd fun i v h' tk bs _ rr hk => ?_
    rw [PySem.W.maxD_ints] at rr
    obtain ⟨t, rfl⟩ := reads_int rr
    exact ⟨.int _, H, I.kept hk, ⟨_, rfl⟩, q⟩
theorem cr_minD (hc : X.calm = true) (hu : X.A.units + 200 < cLine) : CallR X (.builtin "min") (rBest X.K min) := by
  intro pins s σ H vs us Q I r h
  obtain ⟨a, n, ns, rfl, hs, q⟩ := h
  rw [Vals.ref1 r]
  have hd : X.A.units + 1 + PyData.depthAll ((n :: ns).map PyData.int) < cLine := by rw [depth_ints]; omega
  rcases hs with hs | hs
  · obtain ⟨its, rv, hl, _⟩ := I.list hs
    refine PySem.W.min_list_data (I.ok.hd hc) hl.isList (reads_ints rv) (alike_ints (n :: ns)) hd fun i v h' tk bs _ rr hk => ?_
    rw [PySem.W.minD_ints] at rr
    obtain ⟨t, rfl⟩ := reads_int rr
    exact ⟨.int _, H, I.kept hk, ⟨_, rfl⟩, q⟩
  · obtain ⟨its, rv, hl, _⟩ := I.tuple hs
    refine PySem.W.min_tuple_data (I.ok.hd hc) (show s.heap.IsTuple a its.toArray from hl) (reads_ints rv) (alike_ints (n :: ns)) hd fun i v h' tk bs _ rr hk => ?_
    rw [PySem.W.minD_ints] at rr
    obtain ⟨t, rfl⟩ := reads_int rr
    exact ⟨.int _, H, I.kept hk, ⟨_, rfl⟩, q⟩
def dBest (f : Int → Int → Int) (x : D) : Option D := match dItems x with
  | some xs => match asInts xs with
    | some (n :: ns) => some (.int (ns.foldl f n))
    | _ => none
  | none => none
abbrev dMaxL := dBest max
abbrev dMinL := dBest min
theorem best_ok {f : Int → Int → Int} {x z : D} (e : dBest f x = some z) {wd : Wd} {H : Hp} {v : V} {Q : VK} (g : Good T wd H) (t : Top X.K wd H v x) (d : Del X.K wd H z Q) : rBest X.K f [v] H Q := by
  unfold dBest at e
  split at e
  · rename_i xs ei
    split at e
    · rename_i n ns ea
      cases e
      have ex := asInts_eq ea
      cases x with
      | lst ys =>
        cases ei
        obtain ⟨p, vs, rfl, h1, h2⟩ := top_lst g t
        rw [ex] at h2
        rw [h2.ints] at h1
        exact ⟨p, n, ns, rfl, .inl (.inl (.inl h1)), d.now (.int _)⟩
      | tup ys =>
        cases ei
        obtain ⟨p, vs, rfl, h1, _, h2⟩ := top_tup g t
        rw [ex] at h2
        rw [h2.ints] at h1
        exact ⟨p, n, ns, rfl, .inr h1, d.now (.int _)⟩
      | _ => cases ei
    · cases e
  · cases e
theorem cb_maxL (B : Bd X E k) : CallB X (.builtin "max") dMaxL := ⟨_, cr_maxD B.calm B.u, fun x z e T wd H v Q g t d => best_ok e g t d⟩
theorem cb_minL (B : Bd X E k) : CallB X (.builtin "min") dMinL := ⟨_, cr_minD B.calm B.u, fun x z e T wd H v Q g t d => best_ok e g t d⟩
/-! ### x.index(y), ints -/
def ixOf (y : Int) : List Int → Option Nat
  | [] => none
  | n :: ns => if n = y then some 0 else (ixOf y ns).map (· + 1)
theorem ixOf_spec : ∀ {ns : List Int} {y : Int} {j : Nat}, ixOf y ns = some j → ns[j]? = some y ∧ ∀ (m : Nat) (z : Int), m < j → ns[m]? = some z → z ≠ y
  | [], _, _, h => by cases h
  | n :: ns, y, j, h => by
    unfold ixOf at h
    split at h
    · rename_i e
      cases h
      exact ⟨by rw [e]; rfl, fun m z hm => absurd hm (Nat.not_lt_zero _)⟩
    · rename_i ne
      obtain ⟨i, e, rfl⟩ := Option.map_eq_some_iff.mp h
      obtain ⟨h1, h2⟩ := ixOf_spec e
      refine ⟨by simpa using h1, fun m z hm hz => ?_⟩
      cases m with
      | zero =>
        simp at hz
        rw [← hz]
        exact ne
      | succ m => exact h2 m z (by omega) (by simpa using hz)
def wIndex (a b : W D) : W D := a.bind fun x => b.bind fun y env Q _ => match x, y with
  | .lst xs, .int n => ∃ ns j, asInts xs = some ns ∧ ixOf n ns = some j ∧ Q (.int (j : Nat)) env
  | _, _ => False
def wIndexOwn (i : Nat) (b : W D) : W D := fun env Q ex => ownIs env i fun _ => b env (fun y env1 => ownIs env1 i fun xs => match y with
  | .int n => ∃ ns j, asInts xs = some ns ∧ ixOf n ns = some j ∧ Q (.int (j : Nat)) env1
  | _ => False) ex
theorem flat_ints (ns : List Int) : (ns.map V.int).all flatV = true := by
  rw [List.all_map]
  exact List.all_eq_true.mpr fun x _ => rfl
theorem index_ok {K : PySem.W.Frag} {H : Hp} {p : Addr} {ns : List Int} {n : Int} {j : Nat} {Q : VK} (h : SqL K H p (ns.map V.int)) (e : ixOf n ns = some j) (q : Q (.int (j : Nat)) H) : rIndex K (.ref p) [.int n] H Q := by
  obtain ⟨h1, h2⟩ := ixOf_spec e
  refine ⟨p, ns.map V.int, .int n, j, .int n, rfl, rfl, h, rfl, flat_ints ns, by rw [List.getElem?_map, h1]; rfl, by simp [eqV], fun m z' hm hz => ?_, q⟩
  rw [List.getElem?_map] at hz
  obtain ⟨z, ez, rfl⟩ := Option.map_eq_some_iff.mp hz
  have := h2 m z hm ez
  simp [eqV, this]
section
variable {x : Str} {e o : Expr} {p apos pos : Pos}
theorem je_indexOwn (i : Nat) {w : W D} (he : JE T X E e w) (hN : X.N[i]? = some x := by rfl) (hv : Vis X.env.scope x := by first | exact Or.inl rfl | exact Or.inr (Or.inl rfl) | exact Or.inr (Or.inr rfl)) (hd : (x == ("__debug__" : Str)) = false := by decide)
    (hcd : (x == ("__classdict__" : Str)) = false := by decide) (hbase : attributeBase (.Name x p) "index" X.env (eval (.Name x p) X.env) = eval (.Name x p) X.env := by rfl)
    (hfew : ((backTo pos (starEach [e] X.env)).all (fun x => !x.1) && (backToKw pos (keywordEach [] X.env)).all (fun x => x.1.isSome) && decide ([e].length + ([] : List Keyword).length + (if ([] : List Keyword).isEmpty then 0 else 1) < 30)) = true := by rfl)
    (hline : (apos.endLine == pos.line) = true := by rfl) (hs : starEach [e] X.env = (false, eval e X.env) :: starEach [] X.env := by rfl) (hpl : (backTo pos (starEach [] X.env)).any (·.1) = false := by rfl) : JE T X E (.Call (.Attribute (.Name x p) "index" apos) [e] [] pos) (wIndexOwn i w) :=
  peI (pe_bm F.plainAttrs_list F.slot_list_index F.type_list_index mt_index (pe_var hN hv hd hcd) (pa_cons he pa_nil hs) hbase hfew hline hs hpl) fun σ H Q ⟨c, wd, env, P, Ex, rl, h, xo, kk⟩ => by
    obtain ⟨xs0, e0, h⟩ := ownIs_inv h
    obtain ⟨p0, vs0, z0, zh, _⟩ := rl.own i xs0 (gt_eq _ _ e0)
    refine ⟨.ref p0, z0, .inl ⟨rfl, vs0, .inl (.inl zh)⟩, c, wd, env, _, Ex, rl, h, xo, fun y env1 h1 u wd1 H1 le1 r1 rp1 => ?_⟩
    obtain ⟨xs, e1, h2⟩ := ownIs_inv h1
    clear h1
    obtain ⟨p1, vs, z1, z2, z3, z4, z5, z6⟩ := r1.own i xs (gt_eq _ _ e1)
    rw [z0] at z1
    cases z1
    split at h2
    · rename_i n
      obtain ⟨ns, j, ea, ej, h2⟩ := h2
      cases rp1
      rw [asInts_eq ea] at z6
      rw [z6.ints] at z2
      exact index_ok (.inl (.inl z2)) ej (kk _ _ h2 _ wd1 H1 le1 r1 (.int _))
    · exact h2.elim
end
end
end Pd

namespace Pd
open PySem PySem.Spec PyProof.Rows L2 LamX
/-! ### operations whose conditions stand open -/
abbrev K1 := (D → PEnv → Prop)
def xBin (f : D → D → PEnv → K1 → Prop) (a b : W D) : W D := a.bind fun x => b.bind fun y env Q _ => f x y env Q
def x1 (f : D → PEnv → K1 → Prop) (a : W D) : W D := a.bind fun x env Q _ => f x env Q
/-- f asks what g gives -/
def Asks2 (f : D → D → PEnv → K1 → Prop) (g : D → D → Option D) : Prop := ∀ x y env Q, f x y env Q → ∃ z, g x y = some z ∧ Q z env
def Asks1 (f : D → PEnv → K1 → Prop) (g : D → Option D) : Prop := ∀ x env Q, f x env Q → ∃ z, g x = some z ∧ Q z env
def fAdd : D → D → PEnv → K1 → Prop := fun x y env Q => match x, y with
  | .int a, .int b => Q (.int (a + b)) env
  | .tup xs, .tup ys => xs.length + ys.length ≤ 1000000 ∧ Q (.tup (xs ++ ys)) env
  | .lst xs, .lst ys => xs.length + ys.length ≤ 1000000 ∧ Q (.lst (xs ++ ys)) env
  | .str x, .str y => x.length + y.length ≤ 1000000 ∧ Q (.str (x ++ y)) env
  | _, _ => False
def fMul : D → D → PEnv → K1 → Prop := fun x y env Q => match x, y with
  | .int a, .int b => ((a.natAbs < 2 ^ 64 ∨ b.natAbs < 2 ^ 64) ∨ a.natAbs.log2 + b.natAbs.log2 < 1000000) ∧ Q (.int (a * b)) env
  | .tup xs, .int k => (xs ≠ [] ∧ -1000 ≤ k ∧ k ≤ 1000 ∧ xs.length ≤ 1000) ∧ Q (.tup (List.replicate k.toNat xs).flatten) env
  | .lst xs, .int k => (-1000000 ≤ k ∧ k ≤ 1000000 ∧ xs.length * k.toNat ≤ 1000000) ∧ Q (.lst (List.replicate k.toNat xs).flatten) env
  | _, _ => False
def fDiv : D → D → PEnv → K1 → Prop := fun x y env Q => match x, y with
  | .int a, .int b => (0 < b ∧ b.natAbs.log2 < 9000) ∧ Q (.int (a / b)) env
  | _, _ => False
def fMod : D → D → PEnv → K1 → Prop := fun x y env Q => match x, y with
  | .int a, .int b => 0 < b ∧ Q (.int (a % b)) env
  | _, _ => False
def fPow : D → D → PEnv → K1 → Prop := fun x y env Q => match x, y with
  | .int a, .int b => (0 ≤ b ∧ (Builtin.Int.intBits a : Int) * b ≤ 2 ^ 27) ∧ Q (.int (a ^ b.toNat)) env
  | _, _ => False
def fEq : D → D → PEnv → K1 → Prop := fun x y env Q => (plain 60 x && plain 60 y) = true ∧ Q (.bl (eqb x y)) env
def fNe : D → D → PEnv → K1 → Prop := fun x y env Q => (plain 60 x && plain 60 y) = true ∧ Q (.bl (!eqb x y)) env
def fIn : D → D → PEnv → K1 → Prop := fun x y env Q => match y with
  | .lst ys => (plain 59 x && ys.all (plain 59)) = true ∧ Q (.bl (ys.any fun y => eqb y x)) env
  | .tup ys => (plain 59 x && ys.all (plain 59)) = true ∧ Q (.bl (ys.any fun y => eqb y x)) env
  | _ => False
def fNotIn : D → D → PEnv → K1 → Prop := fun x y env Q => match y with
  | .lst ys => (plain 59 x && ys.all (plain 59)) = true ∧ Q (.bl (!ys.any fun y => eqb y x)) env
  | .tup ys => (plain 59 x && ys.all (plain 59)) = true ∧ Q (.bl (!ys.any fun y => eqb y x)) env
  | _ => False
def fIdx : D → D → PEnv → K1 → Prop := fun x y env Q => ∃ z, dIdx x y = some z ∧ Q z env
def fSum : D → PEnv → K1 → Prop := fun x env Q => ∃ ns : List Int, dItems x = some (ns.map D.int) ∧ Q (.int ns.sum) env
def fAll : D → PEnv → K1 → Prop := fun x env Q => match x with
  | .lst xs => ∃ bs : List Bool, xs = bs.map D.bl ∧ Q (.bl (bs.all id)) env
  | _ => False
def fAny : D → PEnv → K1 → Prop := fun x env Q => match x with
  | .lst xs => ∃ bs : List Bool, xs = bs.map D.bl ∧ Q (.bl (bs.any id)) env
  | _ => False
def fBest (f : Int → Int → Int) : D → PEnv → K1 → Prop := fun x env Q => ∃ (n : Int) (ns : List Int), dItems x = some ((n :: ns).map D.int) ∧ Q (.int (ns.foldl f n)) env
abbrev fMaxL := fBest max
abbrev fMinL := fBest min
theorem as_add : Asks2 fAdd dAdd := fun x y env Q h => by
  unfold fAdd at h
  split at h
  · exact ⟨_, rfl, h⟩
  · exact ⟨_, if_pos h.1, h.2⟩
  · exact ⟨_, if_pos h.1, h.2⟩
  · exact ⟨_, if_pos h.1, h.2⟩
  · exact h.elim
theorem as_mul : Asks2 fMul dMul := fun x y env Q h => by
  unfold fMul at h
  split at h
  · exact ⟨_, if_pos h.1, h.2⟩
  · exact ⟨_, if_pos h.1, h.2⟩
  · exact ⟨_, if_pos h.1, h.2⟩
  · exact h.elim
theorem as_div : Asks2 fDiv dDiv := fun x y env Q h => by
  unfold fDiv at h
  split at h
  · exact ⟨_, if_pos h.1, h.2⟩
  · exact h.elim
theorem as_mod : Asks2 fMod dMod := fun x y env Q h => by
  unfold fMod at h
  split at h
  · exact ⟨_, if_pos h.1, h.2⟩
  · exact h.elim
theorem as_pow : Asks2 fPow dPow := fun x y env Q h => by
  unfold fPow at h
  split at h
  · exact ⟨_, if_pos h.1, h.2⟩
  · exact h.elim
theorem as_eq : Asks2 fEq dEq := fun x y env Q h => ⟨_, if_pos h.1, h.2⟩
theorem as_ne : Asks2 fNe dNe := fun x y env Q h => ⟨_, if_pos h.1, h.2⟩
theorem as_in : Asks2 fIn dIn := fun x y env Q h => by
  unfold fIn at h
  split at h
  · exact ⟨_, if_pos h.1, h.2⟩
  · exact ⟨_, if_pos h.1, h.2⟩
  · exact h.elim
theorem as_notIn : Asks2 fNotIn dNotIn := fun x y env Q h => by
  unfold fNotIn at h
  split at h
  · refine ⟨_, ?_, h.2⟩
    show dNot (if _ then _ else _) = _
    rw [if_pos h.1]
    rfl
  · refine ⟨_, ?_, h.2⟩
    show dNot (if _ then _ else _) = _
    rw [if_pos h.1]
    rfl
  · exact h.elim
theorem as_idx : Asks2 fIdx dIdx := fun x y env Q h => h
theorem as_sum : Asks1 fSum dSum := fun x env Q ⟨ns, e, q⟩ => by
  cases x with
  | lst xs =>
    cases e
    exact ⟨_, by show (asInts _).map _ = _; rw [asInts_map]; rfl, q⟩
  | tup xs =>
    cases e
    exact ⟨_, by show (asInts _).map _ = _; rw [asInts_map]; rfl, q⟩
  | _ => cases e
theorem as_best {f : Int → Int → Int} : Asks1 (fBest f) (dBest f) := fun x env Q ⟨n, ns, e, q⟩ => by
  refine ⟨_, ?_, q⟩
  unfold dBest
  rw [e]
  show (match asInts ((n :: ns).map D.int) with
    | some (n :: ns) => some (D.int (ns.foldl f n))
    | _ => none) = _
  rw [asInts_map]
section
variable {X : Cx} {T : List (Addr × Str)} {E : XK} {k : Nat} {e x y : Expr} {a b : W D} {pos : Pos}
theorem lift_x2 {K : PySem.W.Frag} {r : R2} {f : D → D → PEnv → K1 → Prop} {g : D → D → Option D} {a b : W D} {σ : L2.St} {H : Hp} {Q : VK} (hf : Asks2 f g)
    (ho : ∀ (x y z : D), g x y = some z → ∀ (T : List (Addr × Str)) (wd : Wd) (H : Hp) (v u : V) (Q : VK), Good T wd H → Rep K wd v x → Rep K wd u y → Del K wd H z Q → r v u H Q)
    (h : lift K T (rE K) E (xBin f a b) σ H Q) : tOp r (lift K T (rE K) E a) (lift K T (rE K) E b) σ H Q := by
  obtain ⟨c, wd, env, P, Ex, rl, h, xo, k⟩ := h
  refine ⟨c, wd, env, _, Ex, rl, h, xo, fun x env1 h1 v wd1 H1 le1 r1 rp1 => ⟨c, wd1, env1, _, Ex, r1, h1, xo, fun y env2 h2 u wd2 H2 le2 r2 rp2 => ?_⟩⟩
  obtain ⟨z, e, hz⟩ := hf _ _ _ _ h2
  exact ho x y z e T wd2 H2 v u Q r2.good (Rep.mono le2 rp1) rp2 fun w wd3 H3 g3 rp3 => k z env2 hz w wd3 H3 ((le1.trans le2).trans (g3.le r2.good)) (r2.grow g3) rp3
theorem jx_bin {op : Operator} {f : D → D → PEnv → K1 → Prop} {g : D → D → Option D} (hf : Asks2 f g) (ho : OpD X (binaryOp op) g) (ha : JE T X E x a) (hb : JE T X E y b) : JE T X E (.BinOp x op y pos) (xBin f a b) := by
  obtain ⟨r, hr, hq⟩ := ho.ex
  exact peI (pe_op hr ha hb) fun σ H Q h => lift_x2 hf hq h
theorem jx_cmp {op : CmpOp} {f : D → D → PEnv → K1 → Prop} {g : D → D → Option D} (hf : Asks2 f g) (ho : OpD X (compareOp op) g) (ha : JE T X E x a) (hb : JE T X E y b) (hm : behindInMarks op y = false) : JE T X E (.Compare x [op] [y] pos) (xBin f a b) := by
  obtain ⟨r, hr, hq⟩ := ho.ex
  exact peI (pe_cmpR hr ha hb hm) fun σ H Q h => lift_x2 hf hq h
theorem jtx_cmp {op : CmpOp} {f : D → D → PEnv → K1 → Prop} {g : D → D → Option D} (hf : Asks2 f g) (ho : OpD X (compareOp op) g) (ha : JE T X E x a) (hb : JE T X E y b) (hm : behindInMarks op y = false) : JT T X E (.Compare x [op] [y] pos) (wTest (xBin f a b)) := by
  obtain ⟨r, hr, hq⟩ := ho.ex
  refine ptI (pt_cmpR hr ha hb hm) fun σ H Q ⟨c, wd, env, P, Ex, rl, h, xo, k⟩ => lift_x2 hf hq ⟨c, wd, env, _, Ex, rl, h, xo, fun x1 env1 h1 v wd1 H1 le1 r1 rp1 => ?_⟩
  dsimp only at h1
  split at h1
  · cases rp1
    exact ⟨_, rfl, k _ env1 h1 _ wd1 H1 le1 r1 rfl⟩
  · exact h1.elim
theorem as_all : Asks1 fAll dAll := fun x env Q h => by
  unfold fAll at h
  split at h
  · obtain ⟨bs, rfl, q⟩ := h
    exact ⟨_, by show (asBools _).map _ = _; rw [asBools_map]; rfl, q⟩
  · exact h.elim
theorem as_any : Asks1 fAny dAny := fun x env Q h => by
  unfold fAny at h
  split at h
  · obtain ⟨bs, rfl, q⟩ := h
    exact ⟨_, by show (asBools _).map _ = _; rw [asBools_map]; rfl, q⟩
  · exact h.elim
theorem jx_b1 {f : D → PEnv → K1 → Prop} {g : D → Option D} {id : String} {nm : Str} {p : Pos} (hf : Asks1 f g) (hc : CallB X (.builtin id) g) (hm : X.mg nm = none) (hv : bootBuiltins nm = some (.builtin id)) (ha : JB T X E e a) (hg : Gl X nm := by rfl) (hn : nm ≠ "__name__" := by decide) (hdb : (nm == ("__debug__" : Str)) = false := by decide)
    (hs : starEach [e] X.env = (false, eval e X.env) :: starEach [] X.env := by rfl) (hpl : (backTo pos (starEach [] X.env)).any (·.1) = false := by rfl) : JE T X E (.Call (.Name nm p) [e] [] pos) (x1 f a) := by
  obtain ⟨r, h1, h2⟩ := hc.ex
  refine peI (pe_callB h1 hg hm hv (pa_cons ha pa_nil hs) hn hdb hs hpl) fun σ H Q ⟨c, wd, env, P, Ex, rl, h, xo, k⟩ => ?_
  refine ⟨c, wd, env, _, Ex, rl, h, xo, fun x env1 h1 v wd1 H1 le1 r1 tp => ?_⟩
  obtain ⟨z, e1, h3⟩ := hf _ _ _ h1
  exact h2 x z e1 T wd1 H1 v Q r1.good tp fun w wd2 H2 g2 rp => k z env1 h3 w wd2 H2 (le1.trans (g2.le r1.good)) (r1.grow g2) rp
theorem jx_ix (ha : JE T X E x a) (hb : JE T X E y b) (hs : PlainIx y) : JE T X E (.Subscript x y pos) (xBin fIdx a b) := by
  refine peI (pe_ix (r := fun x y H Q => rIxL X.K x y H Q ∨ rIxT X.K x y H Q) (ix_list.or ix_tup) ha hb hs) fun σ H Q h => lift_x2 as_idx (fun x y z e T wd H v u Q g rx ry d => ?_) h
  cases rx with
  | tup hs rs =>
    cases ry with
    | int i =>
      obtain ⟨w, e1, r1⟩ := atI_reps rs e
      exact .inr ⟨_, _, _, w, rfl, rfl, sub_sqT g hs, e1, d.now r1⟩
    | _ => cases e
  | lst hs rs =>
    cases ry with
    | int i =>
      obtain ⟨w, e1, r1⟩ := atI_reps rs e
      exact .inl ⟨_, _, _, w, rfl, rfl, sub_sqL g hs, e1, d.now r1⟩
    | _ => cases e
  | scr hs =>
    cases ry with
    | int i =>
      obtain ⟨n, e1, e2⟩ := Option.map_eq_some_iff.mp e
      subst e2
      refine .inl ⟨_, _, _, .int n, rfl, rfl, sub_sqS g hs, ?_, d.now (.int n)⟩
      unfold atI at e1 ⊢
      rw [List.length_map]
      obtain ⟨j, q, e3⟩ := Option.bind_eq_some_iff.mp e1
      rw [q]
      show (List.map V.int _)[j]? = some (V.int n)
      rw [List.getElem?_map, e3]
      rfl
    | _ => cases e
  | _ => cases e
end
end Pd

namespace Pd
open PySem PySem.Spec PyProof.Rows L2 LamX
/-! ### lists within lists: cells, kept in a slot of their own -/
def celsOf : Option Sl → List (Addr × List D)
  | some (.cels cs) => cs
  | _ => []
def celSet (cs : List (Addr × List D)) (p : Addr) (ys : List D) : List (Addr × List D) := cs.map fun q => if q.1 = p then (p, ys) else q
theorem celSet_fst (cs : List (Addr × List D)) (p : Addr) (ys : List D) : (celSet cs p ys).map (·.1) = cs.map (·.1) := by
  unfold celSet
  rw [List.map_map]
  refine List.map_congr_left fun q _ => ?_
  show (if q.1 = p then (p, ys) else q).1 = q.1
  split
  · rename_i h
    exact h.symm
  · rfl
theorem celSet_mem {cs : List (Addr × List D)} {p : Addr} {ys : List D} {q : Addr × List D} (h : q ∈ celSet cs p ys) : (q = (p, ys) ∧ ∃ xs, (p, xs) ∈ cs) ∨ (q.1 ≠ p ∧ q ∈ cs) := by
  unfold celSet at h
  obtain ⟨r, hr, e⟩ := List.mem_map.mp h
  by_cases z : r.1 = p
  · rw [if_pos z] at e
    exact .inl ⟨e.symm, r.2, by rw [← z]; exact hr⟩
  · rw [if_neg z] at e
    subst e
    exact .inr ⟨z, hr⟩
theorem gt_of {env : PEnv} {i : Nat} {s : Sl} (h : env[i]? = some (some s)) : gt env i = some s := by
  cases e : gt env i with
  | some t =>
    have := gt_eq _ _ e
    rw [h] at this
    cases this
    rfl
  | none =>
    exfalso
    revert e h
    induction env generalizing i with
    | nil => intro h; simp at h
    | cons a env ih =>
      cases i with
      | zero =>
        intro h e
        have h' : a = some s := by simpa using h
        subst h'
        cases e
      | succ i =>
        intro h e
        exact ih (by simpa using h) e
theorem celsOf_mem {env : PEnv} {j : Nat} {q : Addr × List D} (h : q ∈ celsOf (gt env j)) : ∃ cs, env[j]? = some (some (.cels cs)) ∧ gt env j = some (.cels cs) ∧ q ∈ cs := by
  cases e : gt env j with
  | none => rw [e] at h; cases h
  | some s =>
    cases s with
    | cels cs =>
      rw [e] at h
      exact ⟨cs, gt_eq _ _ e, rfl, h⟩
    | _ => rw [e] at h; cases h
section
variable {X : Cx} {T : List (Addr × Str)} {E : XK} {k : Nat}
theorem Rel.newCel {K : PySem.W.Frag} {c : Ctx} {wd : Wd} {env : PEnv} {σ : L2.St} {H : Hp} {j : Nat} {p : Addr} {vs : List V} {xs : List D} (r : Rel K T c wd env σ H) (h1 : H p = some (.lst vs)) (h2 : wd.M p = none) (h3 : p ∉ wd.B) (h4 : Nt c.H p) (h5 : Reps K wd vs xs) (h6 : NoOwn env σ p) (h7 : ∀ q ∈ c.pn, q.1 ≠ p) :
    Rel K T c wd (env.set j (some (.cels (celsOf (gt env j) ++ [(p, xs)])))) σ H := by
  have ownS : ∀ {i : Nat} {ys : List D}, (env.set j (some (.cels (celsOf (gt env j) ++ [(p, xs)]))))[i]? = some (some (.own ys)) → env[i]? = some (some (.own ys)) := fun {i ys} e => by
    rcases get_set e with ⟨rfl, e, _⟩ | ⟨_, e⟩
    · cases e
    · exact e
  have celS : ∀ {i : Nat} {cs : List (Addr × List D)}, (env.set j (some (.cels (celsOf (gt env j) ++ [(p, xs)]))))[i]? = some (some (.cels cs)) → (i = j ∧ cs = celsOf (gt env j) ++ [(p, xs)]) ∨ (i ≠ j ∧ env[i]? = some (some (.cels cs))) := fun {i cs} e => by
    rcases get_set e with ⟨rfl, e, _⟩ | ⟨n, e⟩
    · cases e
      exact .inl ⟨rfl, rfl⟩
    · exact .inr ⟨fun z => n z.symm, e⟩
  refine ⟨r.ord, r.good, r.keep, by rw [List.length_set]; exact r.len, fun i x e => ?_, fun i ys e => r.own i ys (ownS e), fun i l as bs q e1 e2 e3 e4 => r.sep i l as bs q (ownS e1) (ownS e2) e3 e4, fun q hq => ?_, ⟨fun i p0 C fs e => ?_, fun i l p1 p2 C C' fs gs e1 e2 => ?_, fun i cs e q hq => ?_, fun i cs e => ?_, fun i l cs ds e1 e2 n q hq q' hq' => ?_, fun i lk kvs e => ?_, fun i l lk lk' ks ls p1 e1 e2 e3 e4 => ?_⟩⟩
  · rcases get_set e with ⟨rfl, e, _⟩ | ⟨_, e⟩
    · cases e
    · exact r.dat i x e
  · obtain ⟨z1, z2, z3, z4⟩ := r.pin q hq
    refine ⟨z1, z2, z3, fun i ys e => z4.o i ys (ownS e), fun i cs e q' hq' => ?_⟩
    rcases celS e with ⟨rfl, rfl⟩ | ⟨_, e⟩
    · rcases List.mem_append.mp hq' with m | m
      · obtain ⟨cs, e1, _, m⟩ := celsOf_mem m
        exact z4.c i cs e1 q' m
      · rw [List.mem_singleton] at m
        subst m
        exact fun z => h7 q hq z.symm
    · exact z4.c i cs e q' hq'
  · rcases get_set e with ⟨rfl, e, _⟩ | ⟨_, e⟩
    · cases e
    · exact r.ext.obj i p0 C fs e
  · rcases get_set e1 with ⟨rfl, e, _⟩ | ⟨_, e1⟩
    · cases e
    · rcases get_set e2 with ⟨rfl, e, _⟩ | ⟨_, e2⟩
      · cases e
      · exact r.ext.ob1 i l p1 p2 C C' fs gs e1 e2
  · rcases celS e with ⟨rfl, rfl⟩ | ⟨_, e⟩
    · rcases List.mem_append.mp hq with m | m
      · obtain ⟨cs, e1, _, m⟩ := celsOf_mem m
        obtain ⟨z1, z2, z3, z4, z5⟩ := r.ext.cel i cs e1 q m
        exact ⟨z1, z2, z3, z4, fun l ys e => z5 l ys (ownS e)⟩
      · rw [List.mem_singleton] at m
        subst m
        exact ⟨⟨vs, h1, h5⟩, h2, h3, h4, fun l ys e => h6.o l ys (ownS e)⟩
    · obtain ⟨z1, z2, z3, z4, z5⟩ := r.ext.cel i cs e q hq
      exact ⟨z1, z2, z3, z4, fun l ys e => z5 l ys (ownS e)⟩
  · rcases celS e with ⟨rfl, rfl⟩ | ⟨_, e⟩
    · rw [List.map_append]
      refine List.nodup_append.mpr ⟨?_, by simp, fun a ha b hb => ?_⟩
      · cases e : gt env i with
        | none => exact List.nodup_nil
        | some s =>
          cases s with
          | cels cs => exact r.ext.cnd i cs (gt_eq _ _ e)
          | _ => exact List.nodup_nil
      · obtain ⟨q, hq, rfl⟩ := List.mem_map.mp ha
        obtain ⟨cs, e1, _, m⟩ := celsOf_mem hq
        have : b = p := by simpa using hb
        rw [this]
        exact h6.c i cs e1 q m
    · exact r.ext.cnd i cs e
  · rcases celS e1 with ⟨rfl, rfl⟩ | ⟨n1, f1⟩
    · rcases celS e2 with ⟨rfl, rfl⟩ | ⟨n2, e2⟩
      · exact absurd rfl n
      · rcases List.mem_append.mp hq with m | m
        · obtain ⟨cs, e3, _, m⟩ := celsOf_mem m
          exact r.ext.ce1 i l cs ds e3 e2 n q m q' hq'
        · rw [List.mem_singleton] at m
          subst m
          exact fun z => h6.c l ds e2 q' hq' z.symm
    · rcases celS e2 with ⟨rfl, rfl⟩ | ⟨n2, e2⟩
      · rcases List.mem_append.mp hq' with m | m
        · obtain ⟨cs', e3, _, m⟩ := celsOf_mem m
          exact r.ext.ce1 i l cs cs' f1 e3 n q hq q' m
        · rw [List.mem_singleton] at m
          subst m
          exact h6.c i cs f1 q hq
      · exact r.ext.ce1 i l cs ds f1 e2 n q hq q' hq'
  · rcases get_set e with ⟨rfl, e, _⟩ | ⟨_, e⟩
    · cases e
    · exact r.ext.dct i lk kvs e
  · rcases get_set e1 with ⟨rfl, e, _⟩ | ⟨_, e1⟩
    · cases e
    · rcases get_set e2 with ⟨rfl, e, _⟩ | ⟨_, e2⟩
      · cases e
      · exact r.ext.dc1 i l lk lk' ks ls p1 e1 e2 e3 e4
/-- a new list, from now on a cell kept at j -/
def wCell (j : Nat) (w : W (List D)) : W D := fun env Q ex => w env (fun xs env' => ∀ p, p ∉ (celsOf (gt env' j)).map (·.1) → Q (.raw (.ref p)) (env'.set j (some (.cels (celsOf (gt env' j) ++ [(p, xs)]))))) ex
theorem je_cell (j : Nat) {e : Expr} {w : W (List D)} (h : JF T X E e w) : JE T X E e (wCell j w) :=
  peI h fun σ H Q ⟨c, wd, env, P, Ex, r, h, xo, k⟩ => ⟨c, wd, env, _, Ex, r, h, xo, fun xs env' p b wd' H' le r' rp => by
    obtain ⟨q, vs, rfl, h1, h2, h3, h4, h5, h6, h7⟩ := rp
    refine k _ _ (p q fun hm => ?_) (.ref q) wd' H' le (r'.newCel h1 h2 h3 h4 h5 h6 h7) (.raw _)
    obtain ⟨a, ha, ea⟩ := List.mem_map.mp hm
    obtain ⟨cs, e1, _, m⟩ := celsOf_mem ha
    exact h6.c j cs e1 a m ea⟩
/-- a cell is read -/
def celIs (env : PEnv) (j : Nat) (x : D) (P : Addr → List D → Prop) : Prop := match x with
  | .raw (.ref p) => ∃ xs, (p, xs) ∈ celsOf (gt env j) ∧ P p xs
  | _ => False
theorem celIs_inv {env : PEnv} {j : Nat} {x : D} {P : Addr → List D → Prop} (h : celIs env j x P) : ∃ p xs, x = .raw (.ref p) ∧ (p, xs) ∈ celsOf (gt env j) ∧ P p xs := by
  unfold celIs at h
  split at h
  · obtain ⟨xs, h1, h2⟩ := h
    exact ⟨_, xs, rfl, h1, h2⟩
  · exact h.elim
theorem Rel.celAt {K : PySem.W.Frag} {c : Ctx} {wd : Wd} {env : PEnv} {σ : L2.St} {H : Hp} {j : Nat} {p : Addr} {xs : List D} (r : Rel K T c wd env σ H) (h : (p, xs) ∈ celsOf (gt env j)) : ∃ vs, H p = some (.lst vs) ∧ Reps K wd vs xs := by
  obtain ⟨cs, e1, _, m⟩ := celsOf_mem h
  exact (r.ext.cel j cs e1 _ m).1
def wCelB (j : Nat) (w : W D) : W D := fun env Q ex => w env (fun x env' => celIs env' j x fun _ xs => Q (.lst xs) env') ex
theorem jb_cel (j : Nat) {e : Expr} {w : W D} (h : JE T X E e w) : JB T X E e (wCelB j w) :=
  peI h fun σ H Q ⟨c, wd, env, P, Ex, r, h, xo, k⟩ => ⟨c, wd, env, _, Ex, r, h, xo, fun x env' hc v wd' H' le r' rp => by
    obtain ⟨p, xs, rfl, m, hq⟩ := celIs_inv hc
    cases rp
    obtain ⟨vs, h1, h2⟩ := r'.celAt m
    exact k _ _ hq (.ref p) wd' H' le r' (.inr ⟨p, vs, xs, rfl, rfl, h1, h2⟩)⟩
/-- a cell is changed -/
theorem Rel.mutCel {K : PySem.W.Frag} {c : Ctx} {wd : Wd} {env : PEnv} {σ : L2.St} {H : Hp} {j : Nat} {p : Addr} {xs ys : List D} {us : List V} (r : Rel K T c wd env σ H) (hm : (p, xs) ∈ celsOf (gt env j)) (hr : Reps K wd us ys) (hz : us.length ≤ sizeLine) :
    Rel K T c wd (env.set j (some (.cels (celSet (celsOf (gt env j)) p ys)))) σ (upd H p (.lst us)) := by
  obtain ⟨cs, ej, eg, m⟩ := celsOf_mem hm
  have eo : celsOf (gt env j) = cs := by rw [eg]; rfl
  rw [eo]
  obtain ⟨⟨vs, h1, h2⟩, h3, h4, h5, h6⟩ := r.ext.cel j cs ej _ m
  have h1 : H p = some (.lst vs) := h1
  have h3 : wd.M p = none := h3
  have h4 : p ∉ wd.B := h4
  have h5 : Nt c.H p := h5
  have h6 : ∀ (i : Nat) (ys : List D), env[i]? = some (some (Sl.own ys)) → σ[i]? ≠ some (some (V.ref p)) := h6
  have ownS : ∀ {i : Nat} {zs : List D}, (env.set j (some (.cels (celSet cs p ys))))[i]? = some (some (.own zs)) → env[i]? = some (some (.own zs)) := fun {i zs} e => by
    rcases get_set e with ⟨rfl, e, _⟩ | ⟨_, e⟩
    · cases e
    · exact e
  have celS : ∀ {i : Nat} {ds : List (Addr × List D)}, (env.set j (some (.cels (celSet cs p ys))))[i]? = some (some (.cels ds)) → (i = j ∧ ds = celSet cs p ys) ∨ (i ≠ j ∧ env[i]? = some (some (.cels ds))) := fun {i ds} e => by
    rcases get_set e with ⟨rfl, e, _⟩ | ⟨n, e⟩
    · cases e
      exact .inl ⟨rfl, rfl⟩
    · exact .inr ⟨fun z => n z.symm, e⟩
  have memF : ∀ {q : Addr × List D}, q ∈ celSet cs p ys → ∃ q', q' ∈ cs ∧ q'.1 = q.1 := fun {q} h => by
    rcases celSet_mem h with ⟨rfl, xs', m'⟩ | ⟨_, m'⟩
    · exact ⟨_, m', rfl⟩
    · exact ⟨q, m', rfl⟩
  refine ⟨r.ord, ⟨fun a o q => ?_, r.good.ntb, fun b hb => ?_, fun q hq => ?_, siz_upd r.good.siz hz⟩, ⟨fun a o q n t => ?_, fun a q => ?_⟩, by rw [List.length_set]; exact r.len, fun i x e => ?_, fun i zs e => ?_, fun i l as bs q e1 e2 e3 e4 => r.sep i l as bs q (ownS e1) (ownS e2) e3 e4, fun q hq => ?_, ⟨fun i p0 C fs e => ?_, fun i l p1 p2 C C' fs gs e1 e2 => ?_, fun i ds e q hq => ?_, fun i ds e => ?_, fun i l ds es e1 e2 n q hq q' hq' => ?_, fun i lk kvs e => ?_, fun i l lk lk' ks ls p1 e1 e2 e3 e4 => ?_⟩⟩
  · rw [upd_ne (fun z => by rw [z, h3] at q; cases q)]
    exact r.good.sub a o q
  · obtain ⟨z1, g, s, c', z2, z3⟩ := r.good.box b hb
    exact ⟨z1, g, s, c', by rw [upd_ne (show b ≠ p from fun z => h4 (z ▸ hb))]; exact z2, z3⟩
  · obtain ⟨ps, z1, z2, z3⟩ := r.good.tab q hq
    refine ⟨ps, ?_, z2, fun pos cv hc => ?_⟩
    · rw [upd_ne (fun z => by rw [z, h1] at z1; cases z1)]
      exact z1
    · obtain ⟨a, y1, y2⟩ := z3 pos cv hc
      refine ⟨a, y1, ?_⟩
      rw [upd_ne (fun z => by rw [z, h1] at y2; cases y2)]
      exact y2
  · rw [upd_ne (show a ≠ p from fun z => h5.no (by rw [← z]; exact q) t)]
    exact r.keep.st a o q n t
  · by_cases ha : a = p
    · subst ha
      exact h5
    · exact r.keep.dm a (q.upd ha)
  · rcases get_set e with ⟨rfl, e, _⟩ | ⟨_, e⟩
    · cases e
    · exact r.dat i x e
  · obtain ⟨a, ws, z1, z2, z3⟩ := r.own i zs (ownS e)
    exact ⟨a, ws, z1, by rw [upd_ne (show a ≠ p from fun z => h6 i zs (ownS e) (by rw [← z]; exact z1))]; exact z2, z3⟩
  · obtain ⟨z1, z2, z3, z4⟩ := r.pin q hq
    refine ⟨by rw [upd_ne (show q.1 ≠ p from fun z => z4.c j cs ej _ m z.symm)]; exact z1, z2, z3, fun i zs e => z4.o i zs (ownS e), fun i ds e q' hq' => ?_⟩
    rcases celS e with ⟨rfl, rfl⟩ | ⟨_, e⟩
    · obtain ⟨q2, m2, e2⟩ := memF hq'
      rw [← e2]
      exact z4.c i cs ej q2 m2
    · exact z4.c i ds e q' hq'
  · rcases get_set e with ⟨rfl, e, _⟩ | ⟨_, e⟩
    · cases e
    · obtain ⟨dx, ws, z1, z2, z3⟩ := r.ext.obj i p0 C fs e
      exact ⟨dx, ws, z1, by rw [upd_ne (fun z => by rw [z, h1] at z2; cases z2)]; exact z2, z3⟩
  · rcases get_set e1 with ⟨rfl, e, _⟩ | ⟨_, e1⟩
    · cases e
    · rcases get_set e2 with ⟨rfl, e, _⟩ | ⟨_, e2⟩
      · cases e
      · exact r.ext.ob1 i l p1 p2 C C' fs gs e1 e2
  · rcases celS e with ⟨rfl, rfl⟩ | ⟨ni, e⟩
    · rcases celSet_mem hq with ⟨rfl, _⟩ | ⟨ne, m'⟩
      · exact ⟨⟨us, upd_same, hr⟩, h3, h4, h5, fun l zs e => h6 l zs (ownS e)⟩
      · obtain ⟨⟨ws, z1, z2⟩, z3, z4, z5, z6⟩ := r.ext.cel i cs ej q m'
        exact ⟨⟨ws, by rw [upd_ne ne]; exact z1, z2⟩, z3, z4, z5, fun l zs e => z6 l zs (ownS e)⟩
    · obtain ⟨⟨ws, z1, z2⟩, z3, z4, z5, z6⟩ := r.ext.cel i ds e q hq
      exact ⟨⟨ws, by rw [upd_ne (r.ext.ce1 i j ds cs e ej ni q hq _ m)]; exact z1, z2⟩, z3, z4, z5, fun l zs e => z6 l zs (ownS e)⟩
  · rcases celS e with ⟨rfl, rfl⟩ | ⟨_, e⟩
    · rw [celSet_fst]
      exact r.ext.cnd i cs ej
    · exact r.ext.cnd i ds e
  · rcases celS e1 with ⟨rfl, rfl⟩ | ⟨n1, f1⟩
    · rcases celS e2 with ⟨rfl, rfl⟩ | ⟨n2, e2⟩
      · exact absurd rfl n
      · obtain ⟨q2, m2, e3⟩ := memF hq
        rw [← e3]
        exact r.ext.ce1 i l cs es ej e2 n q2 m2 q' hq'
    · rcases celS e2 with ⟨rfl, rfl⟩ | ⟨n2, e2⟩
      · obtain ⟨q2, m2, e3⟩ := memF hq'
        rw [← e3]
        exact r.ext.ce1 i l ds cs f1 ej n q hq q2 m2
      · exact r.ext.ce1 i l ds es f1 e2 n q hq q' hq'
  · rcases get_set e with ⟨rfl, e, _⟩ | ⟨_, e⟩
    · cases e
    · obtain ⟨p0, ws, z1, z2, z3⟩ := r.ext.dct i lk kvs e
      exact ⟨p0, ws, z1, by rw [upd_ne (fun z => by rw [z, h1] at z2; exact lk_lst z2)]; exact z2, z3⟩
  · rcases get_set e1 with ⟨rfl, e, _⟩ | ⟨_, e1⟩
    · cases e
    · rcases get_set e2 with ⟨rfl, e, _⟩ | ⟨_, e2⟩
      · cases e
      · exact r.ext.dc1 i l lk lk' ks ls p1 e1 e2 e3 e4
def wAppendC (j : Nat) (a e : W D) : W D := fun env Q ex => a env (fun x env1 => celIs env1 j x fun _ _ => e env1 (fun y env2 => celIs env2 j x fun p xs => xs.length < 1000000 ∧ Q .non (env2.set j (some (.cels (celSet (celsOf (gt env2 j)) p (xs ++ [y])))))) ex) ex
section
variable {o e : Expr} {apos pos : Pos}
theorem je_appendC (j : Nat) {a w : W D} (ha : JE T X E o a) (he : JE T X E e w) (hbase : attributeBase o "append" X.env (eval o X.env) = eval o X.env := by rfl)
    (hfew : ((backTo pos (starEach [e] X.env)).all (fun x => !x.1) && (backToKw pos (keywordEach [] X.env)).all (fun x => x.1.isSome) && decide ([e].length + ([] : List Keyword).length + (if ([] : List Keyword).isEmpty then 0 else 1) < 30)) = true := by rfl)
    (hline : (apos.endLine == pos.line) = true := by rfl) (hs : starEach [e] X.env = (false, eval e X.env) :: starEach [] X.env := by rfl) (hpl : (backTo pos (starEach [] X.env)).any (·.1) = false := by rfl) : JE T X E (.Call (.Attribute o "append" apos) [e] [] pos) (wAppendC j a w) :=
  peI (pe_bm F.plainAttrs_list F.slot_list_append F.type_list_append mt_append ha (pa_cons he pa_nil hs) hbase hfew hline hs hpl) fun σ H Q ⟨c, wd, env, P, Ex, rl, h, xo, kk⟩ => by
    refine ⟨c, wd, env, _, Ex, rl, h, xo, fun x env1 h1 v wd1 H1 le1 r1 rp1 => ?_⟩
    obtain ⟨p, xs0, rfl, m0, h1⟩ := celIs_inv h1
    cases rp1
    obtain ⟨vs0, g1, _⟩ := r1.celAt m0
    refine ⟨.inl ⟨rfl, vs0, .inl (.inl g1)⟩, c, wd1, env1, _, Ex, r1, h1, xo, fun y env2 h2 u wd2 H2 le2 r2 rp2 => ?_⟩
    obtain ⟨p', xs, e', m, hl, h2⟩ := celIs_inv h2
    cases e'
    obtain ⟨vs, z2, z6⟩ := r2.celAt m
    have hz : (vs ++ [u]).length ≤ sizeLine := by
      rw [List.length_append, z6.length]
      exact sz6 (Nat.succ_le_of_lt hl)
    refine ⟨_, vs, u, rfl, rfl, z2, ?_, kk _ _ h2 .non wd2 _ (le1.trans le2) (r2.mutCel m (z6.append (.cons rp2 .nil)) hz) .non⟩
    rw [List.length_append] at hz
    exact hz
end
end
end Pd

namespace Pd
open PySem PySem.Spec PyProof.Rows L2 LamX
/-! ### instances -/
section
variable {K : PySem.W.Frag} {T : List (Addr × Str)} {c : Ctx} {wd wd' : Wd} {env : PEnv} {σ : L2.St} {H H' : Hp}
theorem Good.nb (g : Good T wd H) {p : Addr} (h : H p = none) : p ∉ wd.B := fun z => by
  obtain ⟨_, _, _, _, e, _⟩ := g.box p z
  rw [h] at e
  cases e
theorem Good.new (g : Good T wd H) {p : Addr} {o : HO} (h : H p = none) (z : Sized o) : Good T wd (upd H p o) := by
  refine ⟨fun a u e => ?_, g.ntb, fun b hb => ?_, g.tab.ext fun b u e => ?_, siz_upd g.siz z⟩
  · have := g.sub a u e
    rw [upd_ne (ne_of_none this h)]
    exact this
  · obtain ⟨h1, gg, s, c', h2, h3⟩ := g.box b hb
    exact ⟨h1, gg, s, c', by rw [upd_ne (ne_of_none h2 h)]; exact h2, h3⟩
  · rw [upd_ne (ne_of_none e h)]
    exact e
theorem Good.put (g : Good T wd H) {p : Addr} {o : HO} (h : H p = some o) (t : noTb o) (z : Sized o) (hb : p ∉ wd.B) : Good T (wd.add p o) H := by
  have uq : ∀ {a : Addr} {u : HO}, (wd.add p o).M a = some u → (a = p ∧ u = o) ∨ wd.M a = some u := fun {a u} e => by
    by_cases ha : a = p
    · subst ha
      have e' : upd wd.M a o a = some u := e
      rw [upd_same] at e'
      cases e'
      exact .inl ⟨rfl, rfl⟩
    · have e' : upd wd.M p o a = some u := e
      rw [upd_ne ha] at e'
      exact .inr e'
  refine ⟨fun a u e => ?_, fun a u e => ?_, fun b hb' => ?_, g.tab, g.siz⟩
  · rcases uq e with ⟨rfl, rfl⟩ | e
    · exact h
    · exact g.sub a u e
  · rcases uq e with ⟨rfl, rfl⟩ | e
    · exact ⟨t, z⟩
    · exact g.ntb a u e
  · obtain ⟨z1, z2⟩ := g.box b hb'
    refine ⟨?_, z2⟩
    show upd wd.M p o b = none
    rw [upd_ne (show b ≠ p from fun z => hb (z ▸ hb'))]
    exact z1
theorem Ord.put (o : Ord wd wd' H) {p : Addr} {u : HO} (h : Nt H p) (hm : wd'.M p = none) : Ord wd (wd'.add p u) H := by
  refine ⟨o.le.trans (Le.add hm), fun a v e => ?_, o.fb⟩
  by_cases ha : a = p
  · subst ha
    exact .inr (.inl h)
  · have e' : upd wd'.M p u a = some v := e
    rw [upd_ne ha] at e'
    exact o.fm a v e'
theorem Keep.add2 {wd : Wd} {H : Hp} {p q : Addr} {o u : HO} (h : H p = none) (h' : H q = none) (n : q ≠ p) : Keep wd H (upd (upd H p o) q u) :=
  (Keep.add h).trans (Ord.refl _ _) (Keep.add (by rw [upd_ne n]; exact h'))
/-- fields by their names -/
theorem lookup_reps : ∀ {vs : List (Str × V)} {ds : List (Str × D)} {f : Str} {d : D}, vs.map (·.1) = ds.map (·.1) → Reps K wd (vs.map (·.2)) (ds.map (·.2)) → ds.lookup f = some d → ∃ v, vs.lookup f = some v ∧ Rep K wd v d
  | [], [], f, d, _, _, h => by simp at h
  | [], _ :: _, _, _, e, _, _ => by simp at e
  | _ :: _, [], _, _, e, _, _ => by simp at e
  | (a, v) :: vs, (b, x) :: ds, f, d, e, r, h => by
    have e1 : a = b := by simpa using congrArg List.head? e
    have e2 : vs.map (·.1) = ds.map (·.1) := by simpa using congrArg List.tail e
    subst e1
    cases r with
    | cons r1 r2 =>
      by_cases hf : (f == a) = true
      · have h' : some x = some d := by
          have : List.lookup f ((a, x) :: ds) = some x := by simp only [List.lookup, hf]
          rw [this] at h
          exact h
        cases h'
        exact ⟨v, by simp only [List.lookup, hf], r1⟩
      · have hf' : (f == a) = false := by simpa using hf
        have h' : ds.lookup f = some d := by
          have : List.lookup f ((a, x) :: ds) = ds.lookup f := by simp only [List.lookup, hf']
          rw [this] at h
          exact h
        obtain ⟨w, w1, w2⟩ := lookup_reps e2 r2 h'
        exact ⟨w, by simp only [List.lookup, hf']; exact w1, w2⟩
theorem putF_new {f : Str} {v : V} : ∀ {fs : List (Str × V)}, f ∉ fs.map (·.1) → putF f v fs = fs ++ [(f, v)]
  | [], _ => rfl
  | (g, x) :: r, h => by
    have h1 : g ≠ f := fun z => h (by rw [z]; exact List.mem_cons_self)
    show (if g = f then (g, v) :: r else (g, x) :: putF f v r) = _
    rw [if_neg h1, putF_new fun z => h (List.mem_cons_of_mem _ z)]
    rfl
/-- a field of an instance that is being made -/
theorem Rel.mutObj (r : Rel K T c wd env σ H) {i : Nat} {C : Str} {fs gs : List (Str × D)} {p dx : Addr} {us ws : List (Str × V)} (e : env[i]? = some (some (.obj p C fs))) (hh : H p = some (.ins (He.ga K C) dx ws)) (en : us.map (·.1) = gs.map (·.1)) (er : Reps K wd (us.map (·.2)) (gs.map (·.2))) :
    Rel K T c wd (env.set i (some (.obj p C gs))) σ (upd H p (.ins (He.ga K C) dx us)) := by
  obtain ⟨dx', ws', hp, h2, h3, h4, h5, h6⟩ := r.ext.obj i p C fs e
  have hil : i < env.length := (List.getElem?_eq_some_iff.mp e).1
  have ownS : ∀ {l : Nat} {zs : List D}, (env.set i (some (.obj p C gs)))[l]? = some (some (.own zs)) → env[l]? = some (some (.own zs)) := fun {l zs} q => by
    rcases get_set q with ⟨rfl, q, _⟩ | ⟨_, q⟩
    · cases q
    · exact q
  have celS : ∀ {l : Nat} {cs : List (Addr × List D)}, (env.set i (some (.obj p C gs)))[l]? = some (some (.cels cs)) → env[l]? = some (some (.cels cs)) := fun {l zs} q => by
    rcases get_set q with ⟨rfl, q, _⟩ | ⟨_, q⟩
    · cases q
    · exact q
  have dctS : ∀ {l : Nat} {lk : Option Obj} {ks : DK D}, (env.set i (some (.obj p C gs)))[l]? = some (some (.dct lk ks)) → env[l]? = some (some (.dct lk ks)) := fun {l lk ks} q => by
    rcases get_set q with ⟨rfl, q, _⟩ | ⟨_, q⟩
    · cases q
    · exact q
  have nl : ∀ {a : Addr} {vs : List V}, H a = some (.lst vs) → a ≠ p := fun {a vs} q z => by
    rw [z, h2] at q
    cases q
  have hb : p ∉ wd.B := r.good.insB h2
  refine ⟨r.ord, ⟨fun a o q => ?_, r.good.ntb, fun b hb' => ?_, fun q hq => ?_, siz_upd r.good.siz trivial⟩, ⟨fun a o q n t => ?_, fun a q => ?_⟩, by rw [List.length_set]; exact r.len, fun l x q => ?_, fun l zs q => ?_, fun l m as bs q e1 e2 e3 e4 => r.sep l m as bs q (ownS e1) (ownS e2) e3 e4, fun q hq => ?_, ⟨fun l p1 C' fs' q => ?_, fun l m p1 p2 C1 C2 f1 f2 e1 e2 => ?_, fun l cs q s hs => ?_, fun l cs q => r.ext.cnd l cs (celS q), fun l m cs ds e1 e2 => r.ext.ce1 l m cs ds (celS e1) (celS e2), fun l lk kvs q => ?_, fun l m lk lk' ks ls p1 e1 e2 e3 e4 => r.ext.dc1 l m lk lk' ks ls p1 (dctS e1) (dctS e2) e3 e4⟩⟩
  · rw [upd_ne (fun z => by rw [z, h3] at q; cases q)]
    exact r.good.sub a o q
  · obtain ⟨z1, g, s, c', z2, z3⟩ := r.good.box b hb'
    exact ⟨z1, g, s, c', by rw [upd_ne (nl z2)]; exact z2, z3⟩
  · obtain ⟨ps, z1, z2, z3⟩ := r.good.tab q hq
    refine ⟨ps, ?_, z2, fun pos cv hc => ?_⟩
    · rw [upd_ne (fun z => by rw [z, h2] at z1; cases z1)]
      exact z1
    · obtain ⟨a, y1, y2⟩ := z3 pos cv hc
      refine ⟨a, y1, ?_⟩
      rw [upd_ne (fun z => by rw [z, h2] at y2; cases y2)]
      exact y2
  · rw [upd_ne (show a ≠ p from fun z => h4.no (by rw [← z]; exact q) t)]
    exact r.keep.st a o q n t
  · by_cases ha : a = p
    · subst ha
      exact h4
    · exact r.keep.dm a (q.upd ha)
  · rcases get_set q with ⟨rfl, q, _⟩ | ⟨_, q⟩
    · cases q
    · exact r.dat l x q
  · obtain ⟨a, vs, z1, z2, z3⟩ := r.own l zs (ownS q)
    exact ⟨a, vs, z1, by rw [upd_ne (nl z2)]; exact z2, z3⟩
  · obtain ⟨z1, z2, z3, z4⟩ := r.pin q hq
    exact ⟨by rw [upd_ne (nl z1)]; exact z1, z2, z3, fun l zs e => z4.o l zs (ownS e), fun l cs e => z4.c l cs (celS e)⟩
  · rcases get_set q with ⟨rfl, q, _⟩ | ⟨ne, q⟩
    · cases q
      exact ⟨dx, us, hp, upd_same, h3, h4, en, er⟩
    · exact absurd (r.ext.ob1 i l p p1 C C' fs fs' e q) ne
  · have inv : ∀ {l : Nat} {p1 : Addr} {C1 : Str} {f1 : List (Str × D)}, (env.set i (some (.obj p C gs)))[l]? = some (some (.obj p1 C1 f1)) → l = i := fun {l p1 C1 f1} q => by
      rcases get_set q with ⟨rfl, q, _⟩ | ⟨ne, q⟩
      · rfl
      · exact (r.ext.ob1 i l p p1 C C1 fs f1 e q).symm
    rw [inv e1, inv e2]
  · obtain ⟨⟨vs, z1, z2⟩, z3, z4, z5, z6⟩ := r.ext.cel l cs (celS q) s hs
    exact ⟨⟨vs, by rw [upd_ne (nl z1)]; exact z1, z2⟩, z3, z4, z5, fun m zs e => z6 m zs (ownS e)⟩
  · obtain ⟨p0, us', z1, z2, z3⟩ := r.ext.dct l lk kvs (dctS q)
    exact ⟨p0, us', z1, by rw [upd_ne (fun z => by rw [z, hh] at z2; exact lk_ins z2)]; exact z2, z3⟩
end
section
variable {X : Cx} {T : List (Addr × Str)} {E : XK} {k : Nat}
/-- e.f, e an instance -/
def wFld (C f : Str) (a : W D) : W D := a.bind fun x env Q _ => match x with
  | .ins C' fs => C' = C ∧ ∃ d, fs.lookup f = some d ∧ Q d env
  | _ => False
theorem je_fld {C f : Str} {e : Expr} {a : W D} {pos : Pos} (he : JE T X E e a) (cl : Cls X.K (He.ga X.K C)) (na : NoAttr X.K (He.ga X.K C) f) (hb : attributeBase e f X.env (eval e X.env) = eval e X.env := by rfl) : JE T X E (.Attribute e f pos) (wFld C f a) :=
  peI (pe_fld he hb) fun σ H Q ⟨c, wd, env, P, Ex, r, h, xo, kk⟩ => ⟨c, wd, env, _, Ex, r, h, xo, fun x env1 h1 v wd1 H1 le1 r1 rp1 => by
    dsimp only at h1
    split at h1
    · obtain ⟨rfl, d, ed, h1⟩ := h1
      cases rp1 with
      | ins hm en er =>
        obtain ⟨v', l1, l2⟩ := lookup_reps en er ed
        exact ⟨_, _, _, _, v', rfl, r1.good.sub _ _ hm, cl, na, l1, kk _ _ h1 v' wd1 H1 le1 r1 l2⟩
    · exact h1.elim⟩
/-- self.f while self is being made -/
def wFldO (i : Nat) (C f : Str) : W D := fun env Q _ => match gt env i with
  | some (.obj _ C' fs) => C' = C ∧ ∃ d, fs.lookup f = some d ∧ Q d env
  | _ => False
theorem je_fldO (i : Nat) {C f : Str} {x : Str} {p pos : Pos} (cl : Cls X.K (He.ga X.K C)) (na : NoAttr X.K (He.ga X.K C) f) (hN : X.N[i]? = some x := by rfl) (hv : Vis X.env.scope x := by first | exact Or.inl rfl | exact Or.inr (Or.inl rfl) | exact Or.inr (Or.inr rfl)) (hd : (x == ("__debug__" : Str)) = false := by decide)
    (hcd : (x == ("__classdict__" : Str)) = false := by decide) (hb : attributeBase (.Name x p) f X.env (eval (.Name x p) X.env) = eval (.Name x p) X.env := by rfl) : JE T X E (.Attribute (.Name x p) f pos) (wFldO i C f) :=
  peI (pe_fld (pe_var hN hv hd hcd) hb) fun σ H Q ⟨c, wd, env, P, Ex, r, h, xo, kk⟩ => by
    unfold wFldO at h
    split at h
    · rename_i p0 C' fs e0
      obtain ⟨rfl, d, ed, h⟩ := h
      obtain ⟨dx, vs, z1, z2, z3, z4, z5, z6⟩ := r.ext.obj i p0 _ fs (gt_eq _ _ e0)
      obtain ⟨v', l1, l2⟩ := lookup_reps z5 z6 ed
      exact ⟨.ref p0, z1, p0, _, dx, vs, v', rfl, z2, cl, na, l1, kk _ _ h v' wd H (Le.refl _) r l2⟩
    · exact h.elim
/-- self.f = e -/
def sFldO (i : Nat) (C f : Str) (e : W D) : WS := fun pe env => e env (fun d env' => match gt env' i with
  | some (.obj p C' fs) => C' = C ∧ f ∉ fs.map (·.1) ∧ fs.length < 1000 ∧ pe.nx (env'.set i (some (.obj p C (fs ++ [(f, d)]))))
  | _ => False) pe.ex
theorem js_fldO (i : Nat) {C f : Str} {x : Str} {e : Expr} {w : W D} {p pos pos' : Pos} (he : JE T X E e w) (cl : Cls X.K (He.ga X.K C)) (na : NoAttr X.K (He.ga X.K C) f) (hN : X.N[i]? = some x := by rfl) (hv : Vis X.env.scope x := by first | exact Or.inl rfl | exact Or.inr (Or.inl rfl) | exact Or.inr (Or.inr rfl)) (hd : (x == ("__debug__" : Str)) = false := by decide)
    (hcd : (x == ("__classdict__" : Str)) = false := by decide) (hs : swapsWith e (some (.Attribute (.Name x p) f pos')) pos.line X.env = pure false := by rfl) : JS T X E (.Assign [.Attribute (.Name x p) f pos'] e pos) (sFldO i C f w) :=
  psI (ps_fld (pe_var hN hv hd hcd) he hs) fun D σ H ⟨c, wd, env, pe, r, h, o⟩ => ⟨c, wd, env, _, _, r, h, o.ex, fun d env1 h1 v wd1 H1 le1 r1 rp1 => by
    split at h1
    · rename_i p0 C' fs e0
      obtain ⟨rfl, nf, hl, h1⟩ := h1
      obtain ⟨dx, vs, z1, z2, z3, z4, z5, z6⟩ := r1.ext.obj i p0 _ fs (gt_eq _ _ e0)
      have nv : f ∉ vs.map (·.1) := by rw [z5]; exact nf
      have ll : vs.length = fs.length := by simpa using congrArg List.length z5
      refine ⟨.ref p0, z1, p0, _, dx, vs, rfl, z2, cl, na, by omega, ?_⟩
      rw [putF_new nv]
      refine o.nx _ h1 _ wd1 _ le1 (r1.mutObj (gt_eq _ _ e0) z2 ?_ ?_)
      · rw [List.map_append, List.map_append, z5]
        rfl
      · rw [List.map_append, List.map_append]
        exact z6.append (.cons rp1 .nil)
    · exact h1.elim⟩
end
/-! ### __init__ -/
abbrev IFn := List D → (List (Str × D) → Prop) → (Xc → Prop) → Prop
def specI (K : PySem.W.Frag) (T : List (Addr × Str)) (C : Str) (F : IFn) : Sp := fun vs H Q E => ∃ (x dx : Addr) (us : List V) (c : Ctx) (wd : Wd) (ds : List D) (P : List (Str × D) → Prop) (Ex : Xc → Prop),
  vs = .ref x :: us ∧ c.pn = [] ∧ Ord c.wd wd c.H ∧ Good T wd H ∧ Keep c.wd c.H H ∧ H x = some (.ins (He.ga K C) dx []) ∧ wd.M x = none ∧ Nt c.H x ∧ Reps K wd us ds ∧ F ds P Ex ∧ XOk K T c E Ex ∧
  ∀ fs, P fs → ∀ (ws : List (Str × V)) (dx' : Addr) (wd' : Wd) (H' : Hp), Ord c.wd wd' c.H → Good T wd' H' → Keep c.wd c.H H' → H' x = some (.ins (He.ga K C) dx' ws) → wd'.M x = none → ws.map (·.1) = fs.map (·.1) → Reps K wd' (ws.map (·.2)) (fs.map (·.2)) → Q .non H'
def startI (N : List Str) (p : Addr) (C : Str) (ds : List D) : PEnv := some (.obj p C []) :: (ds.map (fun d => some (.d d)) ++ List.replicate (N.length - (ds.length + 1)) none)
def iEnd (p : Addr) (C : Str) (P : List (Str × D) → Prop) (env : PEnv) : Prop := match gt env 0 with
  | some (.obj p' C' fs) => p' = p ∧ C' = C ∧ P fs
  | _ => False
def iEnds (p : Addr) (C : Str) (P : List (Str × D) → Prop) (Ex : Xc → Prop) : PEnds := { nx := iEnd p C P, rt := fun _ => False, ex := Ex }
section
variable {P : Program} {w : World} {K : PySem.W.Frag} {mg : Str → Option Value} {base : Heap} {T : List (Addr × Str)}
theorem rel_startI {c : Ctx} {wd : Wd} {H : Hp} {N : List Str} {C : Str} {us : List V} {ds : List D} {x dx : Addr} (hc : c.pn = []) (o : Ord c.wd wd c.H) (g : Good T wd H) (kp : Keep c.wd c.H H) (hx : H x = some (.ins (He.ga K C) dx [])) (hm : wd.M x = none) (hn : Nt c.H x) (r : Reps K wd us ds) :
    Rel K T c wd (startI N x C ds) (L2.start N (.ref x :: us)) H := by
  have es : L2.start N (.ref x :: us) = some (.ref x) :: (us.map some ++ List.replicate (N.length - (ds.length + 1)) none) := by
    show (some (V.ref x) :: us.map some) ++ List.replicate (N.length - (us.length + 1)) none = _
    rw [r.length]
    rfl
  rw [es]
  have key : ∀ {i : Nat} {s : Sl}, (startI N x C ds)[i]? = some (some s) → (i = 0 ∧ s = .obj x C []) ∨ ∃ d v, s = .d d ∧ (some (V.ref x) :: (us.map some ++ List.replicate (N.length - (ds.length + 1)) none))[i]? = some (some v) ∧ Rep K wd v d := fun {i s} h => by
    cases i with
    | zero =>
      have : some (Sl.obj x C []) = some s := by simpa [startI] using h
      cases this
      exact .inl ⟨rfl, rfl⟩
    | succ i =>
      have h' : (ds.map (fun d => some (Sl.d d)) ++ List.replicate (N.length - (ds.length + 1)) none)[i]? = some (some s) := by simpa [startI] using h
      obtain ⟨d, v, e1, e2, e3⟩ := reps_map r _ h'
      exact .inr ⟨d, v, e1, by simpa using e2, e3⟩
  refine ⟨o, g, kp, ?_, fun i y e => ?_, fun i xs e => ?_, fun i j xs ys p e1 e2 e3 e4 => ?_, fun q hq => ?_, ⟨fun i p0 C' fs e => ?_, fun i j p1 p2 C1 C2 f1 f2 e1 e2 => ?_, fun i cs e => ?_, fun i cs e => ?_, fun i j cs ds e _ => ?_, fun i lk kvs e => ?_, fun i j lk lk' ks ls p e _ _ _ => ?_⟩⟩
  · unfold startI
    simp [r.length]
  · rcases key e with ⟨_, z⟩ | ⟨d, v, z, h1, h2⟩
    · cases z
    · cases z
      exact ⟨v, h1, h2⟩
  · rcases key e with ⟨_, z⟩ | ⟨d, v, z, _⟩ <;> cases z
  · rcases key e1 with ⟨_, z⟩ | ⟨d, v, z, _⟩ <;> cases z
  · rw [hc] at hq
    cases hq
  · rcases key e with ⟨rfl, z⟩ | ⟨d, v, z, _⟩
    · cases z
      exact ⟨dx, [], rfl, hx, hm, hn, rfl, .nil⟩
    · cases z
  · rcases key e1 with ⟨rfl, z⟩ | ⟨d, v, z, _⟩
    · rcases key e2 with ⟨rfl, _⟩ | ⟨d, v, z, _⟩
      · rfl
      · cases z
    · cases z
  · rcases key e with ⟨_, z⟩ | ⟨d, v, z, _⟩ <;> cases z
  · rcases key e with ⟨_, z⟩ | ⟨d, v, z, _⟩ <;> cases z
  · rcases key e with ⟨_, z⟩ | ⟨d, v, z, _⟩ <;> cases z
  · rcases key e with ⟨_, z⟩ | ⟨d, v, z, _⟩ <;> cases z
  · rcases key e with ⟨_, z⟩ | ⟨d, v, z, _⟩ <;> cases z
/-- the body of an __init__ -/
theorem init_body {C qual : Str} {scope : Scope} {f : Addr} {cdv : Value} {N : List Str} {k : Nat} {F : IFn} {body : List Stmt} {A : Around} {outer : List Env} {s : Shared} {H : Hp} {vs : List V} {Q : VK} {E : XK} (nd : N.Nodup) (hr : Room k (A.deeper (envOfC qual scope s.heap.objs.size f cdv))) (h : specI K T C F vs H Q E)
    (hd : Bd (cxOf (L2.CX P w) P w K mg base N qual scope f cdv A outer s H E) E k → Takes (cxOf (L2.CX P w) P w K mg base N qual scope f cdv A outer s H E) (fun cls d _ H => E cls d H) → ∃ wb, JSs T (cxOf (L2.CX P w) P w K mg base N qual scope f cdv A outer s H E) E body wb ∧ ∀ p ds Q Ex, F ds Q Ex → wb (iEnds p C Q Ex) (startI N p C ds)) :
    ∃ t, PSs (cxOf (L2.CX P w) P w K mg base N qual scope f cdv A outer s H E) body t ∧ t { nx := fun _ H' => Q .non H', rt := Q } (L2.start N vs) H := by
  obtain ⟨x, dx, us, c, wd, ds, P1, Ex, rfl, hc, o, g, kp, hx, hm, hn, r, hF, xo, kk⟩ := h
  have tk : Takes (cxOf (L2.CX P w) P w K mg base N qual scope f cdv A outer s H E) (fun cls d _ H => E cls d H) := takes_of rfl rfl rfl rfl
  have B : Bd (cxOf (L2.CX P w) P w K mg base N qual scope f cdv A outer s H E) E k := ⟨hr, passes_call tk fun _ _ _ _ h => h, passes_of rfl, rfl, nd⟩
  obtain ⟨wb, hj, hw⟩ := hd B tk
  have rs := rel_startI (N := N) hc o g kp hx hm hn r
  have eo : EndsOk K T c wd E (iEnds x C P1 Ex) { nx := fun _ H' => Q .non H', rt := Q } := by
    refine ⟨xo, fun env' hnx σ' wd' H' le r' => ?_, fun d hd => False.elim hd, fun _ z => z.elim, fun _ z => z.elim⟩
    have hnx' : iEnd x C P1 env' := hnx
    unfold iEnd at hnx'
    split at hnx'
    · rename_i p0 C' fs e0
      obtain ⟨rfl, rfl, hp⟩ := hnx'
      obtain ⟨dx0, ws, z1, z2, z3, z4, z5, z6⟩ := r'.ext.obj 0 _ _ fs (gt_eq _ _ e0)
      exact kk fs hp ws dx0 wd' H' r'.ord r'.good r'.keep z2 z3 z5 z6
    · exact hnx'.elim
  exact ⟨_, hj, c, wd, startI N x C ds, iEnds x C P1 Ex, rs, hw x ds P1 Ex hF, eo⟩
/-- a class that can be made: its __init__'s promise, all arguments by place -/
structure InitOk (P : Program) (w : World) (K : PySem.W.Frag) (mg : Str → Option Value) (base : Heap) (T : List (Addr × Str)) (C : Str) (k : Nat) (F : IFn) : Prop where
  ex : ∃ f, Mk K (He.ga K C) f ∧ mg C = some (.ref (He.ga K C)) ∧ FnR P w K mg base (L2.CX P w) k f (specI K T C F)
theorem InitOk.up {C : Str} {j k : Nat} {F : IFn} (d : InitOk P w K mg base T C j F) (h : j ≤ k) : InitOk P w K mg base T C k F := by
  obtain ⟨f, a, b, e⟩ := d.ex
  exact ⟨f, a, b, e.mono h⟩
/-- what is left over as a tuple -/
def starF (n : Nat) (F : IFn) : IFn := fun ds P Ex => n ≤ ds.length ∧ ds.length ≤ 1000000 ∧ F (ds.take n ++ [.tup (ds.drop n)]) P Ex
theorem init_star {C name qual pv : Str} {params : Arguments} {body : List Stmt} {scope : Scope} {f : Addr} {fd : FuncData} {N ps : List Str} {k n : Nat} {F : IFn} (D : FunD K name qual params body scope [] [] f fd) (S : FnScope N (ps ++ [pv]) scope) (hn : ps.length = n + 1)
    (hb : ∀ (kV doc pm : Value) (an : Option Addr) (cdv ct : Value) (us rest : List Value), us.length = ps.length → bindArgs (PySem.W.fnOf name qual params body scope .none kV doc pm an cdv ct) ⟨us ++ rest, []⟩ = (newTuple rest >>= fun t => pure (ps.zip us ++ [(pv, t)])))
    (hd : ∀ (cdv : Value) (A : Around) (outer : List Env) (s : Shared) (H : Hp) (E : XK), Bd (cxOf (L2.CX P w) P w K mg base N qual scope f cdv A outer s H E) E k → Takes (cxOf (L2.CX P w) P w K mg base N qual scope f cdv A outer s H E) (fun cls d _ H => E cls d H) → ∃ wb, JSs T (cxOf (L2.CX P w) P w K mg base N qual scope f cdv A outer s H E) E body wb ∧ ∀ p ds Q Ex, F ds Q Ex → wb (iEnds p C Q Ex) (startI N p C ds)) :
    FnR P w K mg base (L2.CX P w) (k + 1) f (specI K T C (starF n F)) := by
  obtain ⟨oc, od, dV, kV, doc, pm, an, cdv, ct, osl, rfl, lk, hcd, hD, _⟩ := D.ex
  rcases hD with ⟨_, rfl⟩ | ⟨e, _⟩
  · refine FnR.imp (StX.fn_star (sp := specI K T C F) (k := k) (ps := ps) lk hcd S StX.cxUp (hb kV doc pm an cdv ct) fun A outer s H vs Q E hr h => init_body S.nd hr h fun B tk => hd cdv A outer s H E B tk) ?_
    intro vs H Q E h
    obtain ⟨x, dx, us, c, wd, ds, P1, Ex, rfl, hc, o, g, kp, hx, hm, hnn, r, ⟨f1, f2, f3⟩, xo, kk⟩ := h
    have hl := r.length
    refine ⟨.ref x :: us.take n, us.drop n, ?_, ?_, ?_, fun p hp => ?_⟩
    · rw [List.cons_append, List.take_append_drop]
    · rw [List.length_cons, List.length_take, hn, hl, Nat.min_eq_left f1]
    · rw [List.length_drop]
      exact sz6 (by omega)
    · have xp : x ≠ p := ne_of_none hx hp
      have hz : Sized (.tup (us.drop n)) := by
        show (us.drop n).length ≤ sizeLine
        rw [List.length_drop]
        exact sz6 (by omega)
      have le : Le wd (wd.add p (.tup (us.drop n))) := Le.add (g.mnone hp)
      refine ⟨x, dx, us.take n ++ [.ref p], c, wd.add p (.tup (us.drop n)), ds.take n ++ [.tup (ds.drop n)], P1, Ex, rfl, hc, o.trans (Ord.add g hp) kp, g.add hp noTb_tup hz, kp.trans o (Keep.add hp), by rw [upd_ne xp]; exact hx, ?_, hnn, ?_, f3, xo, kk⟩
      · show upd wd.M p _ x = none
        rw [upd_ne xp]
        exact hm
      · exact ((r.take n).mono le).append (.cons (.tup upd_same ((r.drop n).mono le)) .nil)
  · exact absurd rfl e
theorem init_plain {C name qual : Str} {params : Arguments} {body : List Stmt} {scope : Scope} {f : Addr} {fd : FuncData} {N ps : List Str} {k : Nat} {F : IFn} (D : FunD K name qual params body scope [] [] f fd) (S : FnScope N ("self" :: ps) scope) (bn : Binds K fd ("self" :: ps) [])
    (len : ∀ ds Q Ex, F ds Q Ex → ds.length = ps.length)
    (hd : ∀ (cdv : Value) (A : Around) (outer : List Env) (s : Shared) (H : Hp) (E : XK), Bd (cxOf (L2.CX P w) P w K mg base N qual scope f cdv A outer s H E) E k → Takes (cxOf (L2.CX P w) P w K mg base N qual scope f cdv A outer s H E) (fun cls d _ H => E cls d H) → ∃ wb, JSs T (cxOf (L2.CX P w) P w K mg base N qual scope f cdv A outer s H E) E body wb ∧ ∀ p ds Q Ex, F ds Q Ex → wb (iEnds p C Q Ex) (startI N p C ds)) :
    FnR P w K mg base (L2.CX P w) (k + 1) f (specI K T C F) := by
  have ok : FnOk P w K mg base (L2.CX P w) (k + 1) f fd ("self" :: ps) (specI K T C F) := by
    refine D.ok S (fun vs H Q E h => ?_) (fun cdv A outer s H vs Q E hr h => init_body S.nd hr h fun B tk => hd cdv A outer s H E B tk)
    obtain ⟨x, dx, us, c, wd, ds, P1, Ex, rfl, hc, o, g, kp, hx, hm, hnn, r, hF, _⟩ := h
    rw [List.length_cons, List.length_cons, r.length, len _ _ _ hF]
  refine FnR.imp (ok.raw bn .nil) fun vs H Q E h => ?_
  show specI K T C F (vs ++ []) H Q E
  rw [List.append_nil]
  exact h
end
section
variable {X : Cx} {T : List (Addr × Str)} {E : XK} {k : Nat}
/-- C(..) -/
def wMake (C : Str) (F : IFn) (a : W (List D)) : W D := a.bind fun ds env Q ex => F ds (fun fs => Q (.ins C fs) env) ex
theorem lift_make {C : Str} {F : IFn} {a : W (List D)} {σ : L2.St} {H : Hp} {Q : VK} (h : lift X.K T (rE X.K) E (wMake C F a) σ H Q) : StX.tMakeR (He.ga X.K C) (specI X.K T C F) E (lift X.K T (rA X.K) E a) σ H Q := by
  obtain ⟨c, wd, env, P, Ex, r, h, xo, kk⟩ := h
  refine ⟨c, wd, env, _, Ex, r, h, xo, fun ds env1 h1 vs wd1 H1 le1 r1 rp1 x dx hx hdx ne => ?_⟩
  have ne' : x ≠ dx := fun z => ne z.symm
  have g2 : Good T wd1 (upd (upd H1 dx (.own x)) x (.ins (He.ga X.K C) dx [])) := (r1.good.new (o := .own x) hdx trivial).new (o := .ins (He.ga X.K C) dx []) (by rw [upd_ne ne']; exact hx) trivial
  refine ⟨x, dx, vs, ⟨wd1, H1, []⟩, wd1, ds, _, Ex, rfl, rfl, Ord.refl _ _, g2, Keep.add2 hdx hx ne', upd_same, r1.good.mnone hx, Nt.of hx, rp1, h1, xo.into r1.ord r1.keep, fun fs hfs ws dx' wd' H' o' g' k' z2 z3 z5 z6 => ⟨rfl, ?_⟩⟩
  have le' : Le wd' (wd'.add x (.ins (He.ga X.K C) dx' ws)) := Le.add z3
  exact kk _ env1 hfs (.ref x) (wd'.add x (.ins (He.ga X.K C) dx' ws)) H' ((le1.trans o'.le).trans le') (r1.go (o'.put (Nt.of hx) z3) (g'.put z2 noTb_ins trivial (g'.insB z2)) k') (.ins upd_same z5 (z6.mono le'))
theorem je_make {C : Str} {F : IFn} {e : Expr} {es : List Expr} {a : W (List D)} {p pos : Pos} {j : Nat} (B : Bd X E k) (G : InitOk X.prog X.w X.K X.mg X.base T C j F) (ha : JA T X E (e :: es) a) (hj : j + 1 ≤ k := by decide) (hg : Gl X C := by rfl)
    (hdb : (C == ("__debug__" : Str)) = false := by decide) (he : starEach (e :: es) X.env = (false, eval e X.env) :: starEach es X.env := by rfl) (hpl : (backTo pos (starEach es X.env)).any (·.1) = false := by rfl) : JE T X E (.Call (.Name C p) (e :: es) [] pos) (wMake C F a) := by
  obtain ⟨f, g1, g2, g3⟩ := G.ex
  exact peI (StX.pe_makeR g1 g3 (B.room.mono hj) hg g2 B.pass ha hdb he hpl) fun σ H Q h => lift_make h
/-- e.f, a property -/
structure PropOk (P : Program) (w : World) (K : PySem.W.Frag) (mg : Str → Option Value) (base : Heap) (T : List (Addr × Str)) (C f : Str) (k : Nat) (F : Fn) : Prop where
  cl : Cls K (He.ga K C)
  ex : ∃ (p g : Addr) (fd : FuncData), PropOf K (He.ga K C) f p g ∧ Binds K fd ["self"] [] ∧ FnOk P w K mg base (L2.CX P w) k g fd ["self"] (spec K T F)
def wProp (C : Str) (F : Fn) (a : W D) : W D := a.bind fun x env Q _ => match x with
  | .ins C' fs => C' = C ∧ F [.ins C' fs] (fun d => Q d env) (fun _ => False)
  | _ => False
theorem je_prop {C f : Str} {F : Fn} {e : Expr} {a : W D} {pos : Pos} {j : Nat} (B : Bd X E k) (G : PropOk X.prog X.w X.K X.mg X.base T C f j F) (he : JE T X E e a) (hj : j + 1 ≤ k := by decide) (hb : attributeBase e f X.env (eval e X.env) = eval e X.env := by rfl) : JE T X E (.Attribute e f pos) (wProp C F a) := by
  obtain ⟨p, g, fd, g1, g2, g3⟩ := G.ex
  have hx : Passes (L2.CX X.prog X.w) X.nox E0 := fun pins σ H s e s' I h => by
    obtain ⟨_, _, _, _, _, _, _, _, _, _, _, _, z⟩ := h
    exact z
  refine peI (pe_prop he G.cl g1 g3 (B.room.mono hj) g2 .nil hx hb) fun σ H Q ⟨c, wd, env, P, Ex, r, h, xo, kk⟩ => ⟨c, wd, env, _, Ex, r, h, xo, fun x env1 h1 v wd1 H1 le1 r1 rp1 => ?_⟩
  dsimp only at h1
  split at h1
  · obtain ⟨rfl, h1⟩ := h1
    cases rp1 with
    | ins hm en er =>
      refine ⟨_, _, _, rfl, r1.good.sub _ _ hm, wd1, [_], _, _, r1.good, .cons (.ins hm en er) .nil, h1, xok0, fun d hd v wd2 H2 o2 g2 k2 rp2 => kk _ env1 hd v wd2 H2 (le1.trans o2.le) (r1.go o2 g2 k2) rp2⟩
  · exact h1.elim
end
section
variable {P : Program} {w : World} {K : PySem.W.Frag} {mg : Str → Option Value} {base : Heap} {T : List (Addr × Str)}
/-- a def that stands anywhere (a method, a getter) -/
theorem fn_okA {name qual : Str} {ag : Arguments} {body : List Stmt} {scope : Scope} {f : Addr} {fd : FuncData} {N ps : List Str} {k : Nat} {F : Fn} (D : FunD K name qual ag body scope [] [] f fd) (S : FnScope N ps scope) (len : ∀ ds Q Ex, F ds Q Ex → ds.length = ps.length)
    (hd : ∀ (cdv : Value) (A : Around) (outer : List Env) (s : Shared) (H : Hp) (E : XK), Bd (cxOf (L2.CX P w) P w K mg base N qual scope f cdv A outer s H E) E k → Takes (cxOf (L2.CX P w) P w K mg base N qual scope f cdv A outer s H E) (fun cls d _ H => E cls d H) →
      ∃ wb, JSs T (cxOf (L2.CX P w) P w K mg base N qual scope f cdv A outer s H E) E body wb ∧ ∀ ds Q Ex, F ds Q Ex → wb (dEnds Q Ex) (startE N ds)) : FnOk P w K mg base (L2.CX P w) (k + 1) f fd ps (spec K T F) := by
  refine D.ok S (fun vs H Q E h => ?_) (fun cdv A outer s H vs Q E hr h => ?_)
  · obtain ⟨wd, ds, P, Ex, _, r, h, _⟩ := h
    rw [r.length]
    exact len _ _ _ h
  · obtain ⟨wd, ds, P1, Ex, g, r, h, xo, kk⟩ := h
    have tk : Takes (cxOf (L2.CX P w) P w K mg base N qual scope f cdv A outer s H E) (fun cls d _ H => E cls d H) := takes_of rfl rfl rfl rfl
    have B : Bd (cxOf (L2.CX P w) P w K mg base N qual scope f cdv A outer s H E) E k := ⟨hr, passes_call tk fun _ _ _ _ h => h, passes_of rfl, rfl, S.nd⟩
    obtain ⟨wb, hj, hw⟩ := hd cdv A outer s H E B tk
    refine ⟨_, hj, ⟨wd, H, []⟩, wd, startE N ds, dEnds P1 Ex, rel_start g r, hw ds P1 Ex h, ⟨xo, fun env' hn σ' wd' H' le r' => ?_, fun d hd v wd' H' o' g' k' rp => kk d hd v wd' H' o' g' k' rp, fun _ z => z.elim, fun _ z => z.elim⟩⟩
    exact kk .non hn .non wd' H' r'.ord r'.good r'.keep .non
/-- defs by their statements -/
def HasA (K : PySem.W.Frag) (a : Addr) (name qual : Str) (st : Stmt) : Prop := ∃ fd, FunD K name qual (defArgs st) (defBody st) (defScope st) [] [] a fd
theorem prop_okX {C f qual : Str} {st : Stmt} {p g : Addr} {N : List Str} {k : Nat} {F : Fn} (cl : Cls K (He.ga K C)) (pr : PropOf K (He.ga K C) f p g) (D : HasA K g f qual st) (S : FnScope N ["self"] (defScope st)) (bn : ∀ fd, FunD K f qual (defArgs st) (defBody st) (defScope st) [] [] g fd → Binds K fd ["self"] [])
    (len : ∀ ds Q Ex, F ds Q Ex → ds.length = 1)
    (hd : ∀ (cdv : Value) (A : Around) (outer : List Env) (s : Shared) (H : Hp) (E : XK) (f : Addr), Bd (cxOf (L2.CX P w) P w K mg base N qual (defScope st) f cdv A outer s H E) E k → Takes (cxOf (L2.CX P w) P w K mg base N qual (defScope st) f cdv A outer s H E) (fun cls d _ H => E cls d H) →
      ∃ wb, JSs T (cxOf (L2.CX P w) P w K mg base N qual (defScope st) f cdv A outer s H E) E (defBody st) wb ∧ ∀ ds Q Ex, F ds Q Ex → wb (dEnds Q Ex) (startE N ds)) : PropOk P w K mg base T C f (k + 1) F := by
  obtain ⟨fd, D⟩ := D
  exact ⟨cl, p, g, fd, pr, bn fd D, fn_okA D S len fun cdv A outer s H E B tk => hd cdv A outer s H E g B tk⟩
theorem init_okS {C qual pv : Str} {st : Stmt} {f : Addr} {N ps : List Str} {k n : Nat} {F : IFn} (mk : Mk K (He.ga K C) f) (gm : mg C = some (.ref (He.ga K C))) (D : HasA K f "__init__" qual st) (S : FnScope N (ps ++ [pv]) (defScope st)) (hn : ps.length = n + 1)
    (hb : ∀ (kV doc pm : Value) (an : Option Addr) (cdv ct : Value) (us rest : List Value), us.length = ps.length → bindArgs (PySem.W.fnOf "__init__" qual (defArgs st) (defBody st) (defScope st) .none kV doc pm an cdv ct) ⟨us ++ rest, []⟩ = (newTuple rest >>= fun t => pure (ps.zip us ++ [(pv, t)])))
    (hd : ∀ (cdv : Value) (A : Around) (outer : List Env) (s : Shared) (H : Hp) (E : XK) (f : Addr), Bd (cxOf (L2.CX P w) P w K mg base N qual (defScope st) f cdv A outer s H E) E k → Takes (cxOf (L2.CX P w) P w K mg base N qual (defScope st) f cdv A outer s H E) (fun cls d _ H => E cls d H) → ∃ wb, JSs T (cxOf (L2.CX P w) P w K mg base N qual (defScope st) f cdv A outer s H E) E (defBody st) wb ∧ ∀ p ds Q Ex, F ds Q Ex → wb (iEnds p C Q Ex) (startI N p C ds)) :
    InitOk P w K mg base T C (k + 1) (starF n F) := by
  obtain ⟨fd, D⟩ := D
  exact ⟨f, mk, gm, init_star D S hn hb fun cdv A outer s H E B tk => hd cdv A outer s H E f B tk⟩
theorem init_okP {C qual : Str} {st : Stmt} {f : Addr} {N ps : List Str} {k : Nat} {F : IFn} (mk : Mk K (He.ga K C) f) (gm : mg C = some (.ref (He.ga K C))) (D : HasA K f "__init__" qual st) (S : FnScope N ("self" :: ps) (defScope st)) (bn : ∀ fd, FunD K "__init__" qual (defArgs st) (defBody st) (defScope st) [] [] f fd → Binds K fd ("self" :: ps) [])
    (len : ∀ ds Q Ex, F ds Q Ex → ds.length = ps.length)
    (hd : ∀ (cdv : Value) (A : Around) (outer : List Env) (s : Shared) (H : Hp) (E : XK) (f : Addr), Bd (cxOf (L2.CX P w) P w K mg base N qual (defScope st) f cdv A outer s H E) E k → Takes (cxOf (L2.CX P w) P w K mg base N qual (defScope st) f cdv A outer s H E) (fun cls d _ H => E cls d H) → ∃ wb, JSs T (cxOf (L2.CX P w) P w K mg base N qual (defScope st) f cdv A outer s H E) E (defBody st) wb ∧ ∀ p ds Q Ex, F ds Q Ex → wb (iEnds p C Q Ex) (startI N p C ds)) :
    InitOk P w K mg base T C (k + 1) F := by
  obtain ⟨fd, D⟩ := D
  exact ⟨f, mk, gm, init_plain D S (bn fd D) len fun cdv A outer s H E B tk => hd cdv A outer s H E f B tk⟩
end
end Pd

namespace Pd
open PySem PySem.Spec PyProof.Rows L2 LamX
/-! ### comprehensions with two fors -/
theorem wipe_at {σ : L2.St} {i : Nat} : ∀ {vs : List Nat}, i ∈ vs → (wipe σ vs)[i]? = (σ[i]?).map fun _ => none
  | [], h => by cases h
  | v :: vs, h => by
    show ((wipe σ vs).set v none)[i]? = _
    by_cases e : v = i
    · subst e
      by_cases hl : v < σ.length
      · rw [List.getElem?_set_self (by rw [wipe_length]; exact hl), List.getElem?_eq_getElem hl]
        rfl
      · rw [List.getElem?_eq_none (by rw [List.length_set, wipe_length]; omega), List.getElem?_eq_none (by omega)]
        rfl
    · rw [List.getElem?_set_ne e]
      rcases List.mem_cons.mp h with z | z
      · exact absurd z.symm e
      · exact wipe_at z
theorem wipe_wipe {σ : L2.St} {us vs : List Nat} (h : ∀ i ∈ us, i ∈ vs) : wipe (wipe σ us) vs = wipe σ vs := by
  refine List.ext_getElem? fun i => ?_
  by_cases hv : i ∈ vs
  · rw [wipe_at hv, wipe_at hv]
    by_cases hu : i ∈ us
    · rw [wipe_at hu]
      cases σ[i]? <;> rfl
    · rw [wipe_get hu]
  · rw [wipe_get hv, wipe_get hv, wipe_get fun z => hv (h i z)]
def cmpW (g : WG) (t : W Bool) (e : W D) (vs : List Nat) (Q : List D → PEnv → Prop) : List D → PEnv → List D → Prop
  | [], env, acc => Q acc (wipeE env vs)
  | x :: xs, env, acc => g x (wipeE env vs) fun env1 => t env1 (fun b env2 => br b (e env2 (fun y env3 => acc.length < 1000000 ∧ cmpW g t e vs Q xs env3 (acc ++ [y])) (fun _ => False)) (cmpW g t e vs Q xs env2 acc)) (fun _ => False)
def comp2W (g : WG) (t : W Bool) (it : W (List D)) (g1 : WG) (t1 : W Bool) (e : W D) (vs vs1 : List Nat) (Q : List D → PEnv → Prop) : List D → PEnv → List D → Prop
  | [], env, acc => Q acc env
  | x :: xs, env, acc => g x (wipeE env vs) fun env1 => t env1 (fun b env2 => br b (it env2 (fun ys env3 => cmpW g1 t1 e vs1 (fun acc' env' => comp2W g t it g1 t1 e vs vs1 Q xs env' acc') ys env3 acc) (fun _ => False)) (comp2W g t it g1 t1 e vs vs1 Q xs env2 acc)) (fun _ => False)
def wComp2 (it : W (List D)) (g : WG) (t : W Bool) (it1 : W (List D)) (g1 : WG) (t1 : W Bool) (e : W D) (vs vs1 : List Nat) : W (List D) := it.bind fun xs env Q _ => comp2W g t it1 g1 t1 e vs vs1 (fun ys env' => Q ys (restE env env' vs)) xs env []
section
variable {X : Cx} {T : List (Addr × Str)} {E : XK} {k : Nat} {tg tg1 : Expr}
theorem lc2_lift {w : W (List D)} {g : WG} {wt : W Bool} {w1 : W (List D)} {g1 : WG} {wt1 : W Bool} {we : W D} {vs vs1 : List Nat} {σ : L2.St} {H : Hp} {Q : VK} (hv : ∀ i ∈ vs1, i ∈ vs) (h : lift X.K T (rF X.K) E (wComp2 w g wt w1 g1 wt1 we vs vs1) σ H Q) :
    tLc2 (liftI X.K T E w) (liftG X.K T vs g) (lift X.K T rT E0 wt) (liftI X.K T E0 w1) (liftG X.K T vs1 g1) (lift X.K T rT E0 wt1) (lift X.K T (rE X.K) E0 we) vs vs1 σ H Q := by
  obtain ⟨c, wd, env, P, Ex, r, h, xo, kk⟩ := h
  refine ⟨c, wd, env, _, Ex, r, h, xo, fun xs env1 h1 J wd1 H1 le1 r1 wk hz Dl hD => ?_⟩
  have hc : Nt c.H Dl := r1.keep.dm Dl (Nt.of hD)
  have hq : ∀ q ∈ c.pn, q.1 ≠ Dl := fun q hm z => by
    have := (r1.pin q hm).1
    rw [z, hD] at this
    cases this
  have key : ∃ Pv : Nat → Hp → Prop, Pv = fun i H' => ∃ wd' env' acc us, Le wd1 wd' ∧ Rel X.K T { c with pn := (Dl, us) :: c.pn } wd' (wipeE env' vs) (L2.wipe σ vs) H' ∧ Reps X.K wd' us acc ∧ comp2W g wt w1 g1 wt1 we vs vs1 (fun ys env' => P ys (restE env1 env' vs)) (xs.drop i) env' acc := ⟨_, rfl⟩
  obtain ⟨Pv, ePv⟩ := key
  have mkPv : ∀ {i : Nat} {H' : Hp} (wd' env' acc us), Le wd1 wd' → Rel X.K T { c with pn := (Dl, us) :: c.pn } wd' (wipeE env' vs) (L2.wipe σ vs) H' → Reps X.K wd' us acc → comp2W g wt w1 g1 wt1 we vs vs1 (fun ys env' => P ys (restE env1 env' vs)) (xs.drop i) env' acc → Pv i H' := fun {i H'} wd' env' acc us a b c d => by
    rw [ePv]
    exact ⟨wd', env', acc, us, a, b, c, d⟩
  have exPv : ∀ {i : Nat} {H' : Hp}, Pv i H' → ∃ wd' env' acc us, Le wd1 wd' ∧ Rel X.K T { c with pn := (Dl, us) :: c.pn } wd' (wipeE env' vs) (L2.wipe σ vs) H' ∧ Reps X.K wd' us acc ∧ comp2W g wt w1 g1 wt1 we vs vs1 (fun ys env' => P ys (restE env1 env' vs)) (xs.drop i) env' acc := fun {i H'} h => by
    rw [ePv] at h
    exact h
  refine ⟨fun i m H => m = xs.length - i ∧ i ≤ xs.length ∧ Pv i H, ⟨xs.length, by simp, Nat.zero_le _, mkPv wd1 env1 [] [] (Le.refl _) ((r1.wipe vs).begin hD) .nil h1⟩, ?_⟩
  rintro i m H' ⟨rfl, hi, pv⟩
  obtain ⟨wd', env', acc, us, le, r', ru, f⟩ := exPv pv
  have G : Sub wd1.M H' := le.m.trans r'.good.sub
  by_cases hlt : i < xs.length
  · refine .inr ⟨wk.goes i H' hlt G, Pv (i + 1), fun H'' p' => ⟨xs.length - (i + 1), by omega, rfl, hlt, p'⟩, fun x H3 hy => ?_⟩
    obtain ⟨d, ed, y⟩ := wk.yields i H' x H3 hlt G hy
    obtain ⟨wd2, le2, r2, rp⟩ := r'.item le y
    have e : xs.drop i = d :: xs.drop (i + 1) := by
      obtain ⟨hi, e'⟩ := List.getElem?_eq_some_iff.mp ed
      rw [List.drop_eq_getElem_cons hi, e']
    rw [e] at f
    refine ⟨_, wd2, _, d, _, r2, rp, f, fun env2 f2 σ2 r3 ew => ?_⟩
    have ew3 : L2.wipe σ2 vs = L2.wipe σ vs := ew.trans (wipe_wipe fun _ h => h)
    refine ⟨ew3, ?_⟩
    refine ⟨_, wd2, env2, _, _, r3, f2, xok0, fun b env3 f3 bb wd3 H4 le3 r4 eb => ?_⟩
    obtain rfl : bb = b := eb
    have nxt : ∀ {wd4 : Wd} {env4 : PEnv} {H5 : Hp} {us : List V}, Rel X.K T { c with pn := (Dl, us) :: c.pn } wd4 env4 σ2 H5 → Rel X.K T { c with pn := (Dl, us) :: c.pn } wd4 (wipeE env4 vs) (L2.wipe σ vs) H5 := fun {wd4 env4 H5 us} z => by
      have := z.wipe vs
      rw [ew3] at this
      exact this
    cases bb with
    | false => exact mkPv wd3 env3 acc us ((le.trans le2).trans le3) (nxt r4) (ru.mono (le2.trans le3)) (br_f f3)
    | true =>
      show liftI X.K T E0 w1 σ2 H4 _
      refine ⟨_, wd3, env3, _, _, r4, br_t f3, xok0, fun ys env4 f4 J1 wd4 H5 le4 r5 wk1 hz1 => ?_⟩
      have key : ∃ Pw : Nat → Hp → Prop, Pw = fun j H' => ∃ wd' env' acc us, Le wd4 wd' ∧ Rel X.K T { c with pn := (Dl, us) :: c.pn } wd' (wipeE env' vs1) (L2.wipe σ2 vs1) H' ∧ Reps X.K wd' us acc ∧ cmpW g1 wt1 we vs1 (fun acc' env' => comp2W g wt w1 g1 wt1 we vs vs1 (fun ys env' => P ys (restE env1 env' vs)) (xs.drop (i + 1)) env' acc') (ys.drop j) env' acc := ⟨_, rfl⟩
      obtain ⟨Pw, ePw⟩ := key
      have mkPw : ∀ {j : Nat} {H' : Hp} (wd' env' acc us), Le wd4 wd' → Rel X.K T { c with pn := (Dl, us) :: c.pn } wd' (wipeE env' vs1) (L2.wipe σ2 vs1) H' → Reps X.K wd' us acc → cmpW g1 wt1 we vs1 (fun acc' env' => comp2W g wt w1 g1 wt1 we vs vs1 (fun ys env' => P ys (restE env1 env' vs)) (xs.drop (i + 1)) env' acc') (ys.drop j) env' acc → Pw j H' := fun {j H'} wd' env' acc us a b c d => by
        rw [ePw]
        exact ⟨wd', env', acc, us, a, b, c, d⟩
      have exPw : ∀ {j : Nat} {H' : Hp}, Pw j H' → ∃ wd' env' acc us, Le wd4 wd' ∧ Rel X.K T { c with pn := (Dl, us) :: c.pn } wd' (wipeE env' vs1) (L2.wipe σ2 vs1) H' ∧ Reps X.K wd' us acc ∧ cmpW g1 wt1 we vs1 (fun acc' env' => comp2W g wt w1 g1 wt1 we vs vs1 (fun ys env' => P ys (restE env1 env' vs)) (xs.drop (i + 1)) env' acc') (ys.drop j) env' acc := fun {j H'} h => by
        rw [ePw] at h
        exact h
      refine ⟨fun j m H => m = ys.length - j ∧ j ≤ ys.length ∧ Pw j H, ⟨ys.length, by simp, Nat.zero_le _, mkPw wd4 env4 acc us (Le.refl _) (r5.wipe vs1) (ru.mono ((le2.trans le3).trans le4)) f4⟩, ?_⟩
      rintro j m H6 ⟨rfl, hj, pw⟩
      obtain ⟨wd5, env5, acc5, us5, le5, r6, ru5, f5⟩ := exPw pw
      have G1 : Sub wd4.M H6 := le5.m.trans r6.good.sub
      by_cases hlt1 : j < ys.length
      · refine .inr ⟨wk1.goes j H6 hlt1 G1, Pw (j + 1), fun H'' p' => ⟨ys.length - (j + 1), by omega, rfl, hlt1, p'⟩, fun x1 H7 hy1 => ?_⟩
        obtain ⟨d1, ed1, y1⟩ := wk1.yields j H6 x1 H7 hlt1 G1 hy1
        obtain ⟨wd6, le6, r7, rp1⟩ := r6.item le5 y1
        have e1 : ys.drop j = d1 :: ys.drop (j + 1) := by
          obtain ⟨hi, e'⟩ := List.getElem?_eq_some_iff.mp ed1
          rw [List.drop_eq_getElem_cons hi, e']
        rw [e1] at f5
        refine ⟨_, wd6, _, d1, _, r7, rp1, f5, fun env6 f6 σ3 r8 ewb => ?_⟩
        have ewb3 : L2.wipe σ3 vs1 = L2.wipe σ2 vs1 := ewb.trans (wipe_wipe fun _ h => h)
        refine ⟨ewb3, ?_⟩
        refine ⟨_, wd6, env6, _, _, r8, f6, xok0, fun b1 env7 f7 bb1 wd7 H8 le7 r9 eb1 => ?_⟩
        obtain rfl : bb1 = b1 := eb1
        have nxt1 : ∀ {wd4 : Wd} {env4 : PEnv} {H5 : Hp} {us : List V}, Rel X.K T { c with pn := (Dl, us) :: c.pn } wd4 env4 σ3 H5 → Rel X.K T { c with pn := (Dl, us) :: c.pn } wd4 (wipeE env4 vs1) (L2.wipe σ2 vs1) H5 := fun {wd4 env4 H5 us} z => by
          have := z.wipe vs1
          rw [ewb3] at this
          exact this
        cases bb1 with
        | false => exact mkPw wd7 env7 acc5 us5 ((le5.trans le6).trans le7) (nxt1 r9) (ru5.mono (le6.trans le7)) (br_f f7)
        | true =>
          show lift X.K T (rE X.K) E0 we σ3 H8 _
          refine ⟨_, wd7, env7, _, _, r9, br_t f7, xok0, fun y1 env8 f8 yv wd8 H9 le8 r10 rp10 => ?_⟩
          have hlt : us5.length < sizeLine := by
            rw [ru5.length]
            exact Nat.lt_of_lt_of_le f8.1 (by decide)
          refine ⟨us5, (r10.pin (Dl, us5) List.mem_cons_self).1, hlt, mkPw wd8 env8 (acc5 ++ [y1]) (us5 ++ [yv]) (((le5.trans le6).trans le7).trans le8) ?_ ?_ f8.2⟩
          · exact (nxt1 r10).more hc hq yv hlt
          · exact ((ru5.mono (le6.trans le7)).mono le8).append (.cons rp10 .nil)
      · have e1 : j = ys.length := by omega
        subst e1
        refine .inl ⟨wk1.stops H6 G1, ?_⟩
        rw [List.drop_length] at f5
        refine mkPv wd5 (wipeE env5 vs1) acc5 us5 ((((le.trans le2).trans le3).trans le4).trans le5) ?_ ru5 f5
        have z := r6.wipe vs
        rw [wipe_wipe hv, ew3] at z
        exact z
  · have e : i = xs.length := by omega
    subst e
    refine .inl ⟨wk.stops H' G, ?_⟩
    rw [List.drop_length] at f
    obtain ⟨p1, p2, p3, p4⟩ := r'.pin (Dl, us) List.mem_cons_self
    have r6 : Rel X.K T c wd' (restE env1 env' vs) σ H' := Rel.rest r1 le r'.done
    have w0 : ∀ {i : Nat} {s : Sl}, i ∉ vs → env'[i]? = some (some s) → (wipeE env' vs)[i]? = some (some s) := fun {i s} hn e => by
      have key : ∀ us : List Nat, i ∉ us → (wipeE env' us)[i]? = env'[i]? := fun us => by
        induction us with
        | nil => intro _; rfl
        | cons u us ih2 =>
          intro hu
          show ((wipeE env' us).set u none)[i]? = env'[i]?
          rw [List.getElem?_set_ne (fun z => hu (by rw [← z]; exact List.mem_cons_self)), ih2 fun z => hu (List.mem_cons_of_mem _ z)]
      rw [key vs hn]
      exact e
    refine kk acc _ f (.ref Dl) wd' H' (le1.trans le) r6 ⟨Dl, us, rfl, p1, p2, p3, hc, ru, ⟨fun i ys e => ?_, fun i cs e => ?_⟩, hq⟩
    · rcases restE_some e with ⟨_, ⟨x, z⟩, _⟩ | ⟨hn, e⟩
      · cases z
      · intro z
        exact p4.o i ys (w0 hn e) (by rw [wipe_get hn]; exact z)
    · rcases restE_some e with ⟨_, ⟨x, z⟩, _⟩ | ⟨hn, e⟩
      · cases z
      · exact p4.c i cs (w0 hn e)
theorem jf_comp2 {elt iter iter1 : Expr} {ifs ifs1 : List Expr} {scope : Scope} (own : List (Str × Nat)) (vs1 : List Nat) {pos : Pos} {w : W (List D)} {g : WG} {wt : W Bool} {w1 : W (List D)} {g1 : WG} {wt1 : W Bool} {we : W D} (B : Bd X E k) (hi : JI T X E tg iter w) (ok : BlkOk X.N X.env.scope scope own)
    (hg : ∀ (s : Shared) (H : Hp) (C : Addr) (cl : List (Str × Addr)) (fp : List Addr), JG T (X.blk s H scope (compEnvC scope cl C X.env) fp) (own.map (·.2)) tg g)
    (ht : ∀ (s : Shared) (H : Hp) (C : Addr) (cl : List (Str × Addr)) (fp : List Addr), Bd (X.blk s H scope (compEnvC scope cl C X.env) fp) E0 k → JTs T (X.blk s H scope (compEnvC scope cl C X.env) fp) E0 ifs wt)
    (hi1 : ∀ (s : Shared) (H : Hp) (C : Addr) (cl : List (Str × Addr)) (fp : List Addr), Bd (X.blk s H scope (compEnvC scope cl C X.env) fp) E0 k → JI T (X.blk s H scope (compEnvC scope cl C X.env) fp) E0 tg1 iter1 w1)
    (hg1 : ∀ (s : Shared) (H : Hp) (C : Addr) (cl : List (Str × Addr)) (fp : List Addr), JG T (X.blk s H scope (compEnvC scope cl C X.env) fp) vs1 tg1 g1)
    (ht1 : ∀ (s : Shared) (H : Hp) (C : Addr) (cl : List (Str × Addr)) (fp : List Addr), Bd (X.blk s H scope (compEnvC scope cl C X.env) fp) E0 k → JTs T (X.blk s H scope (compEnvC scope cl C X.env) fp) E0 ifs1 wt1)
    (he : ∀ (s : Shared) (H : Hp) (C : Addr) (cl : List (Str × Addr)) (fp : List Addr), Bd (X.blk s H scope (compEnvC scope cl C X.env) fp) E0 k → JE T (X.blk s H scope (compEnvC scope cl C X.env) fp) E0 elt we)
    (hv : ∀ i ∈ vs1, i ∈ own.map (·.2) := by decide) (hs : ∀ x, foldedSetIterable iter X.env x = pure x := by intro _; rfl) (hs1 : ∀ env x, foldedSetIterable iter1 env x = pure x := by intro _ _; rfl) : JF T X E (.ListComp elt [⟨tg, iter, ifs, 0⟩, ⟨tg1, iter1, ifs1, 0⟩] scope pos) (wComp2 w g wt w1 g1 wt1 we (own.map (·.2)) vs1) := by
  have Bb : ∀ (s : Shared) (H : Hp) (C : Addr) (cl : List (Str × Addr)) (fp : List Addr), Bd (X.blk s H scope (compEnvC scope cl C X.env) fp) E0 k := fun s H C cl fp => ⟨B.room, passL, PassesOwn.never, B.calm, B.nd⟩
  exact peI (pe_lc2 B.calm B.nd hi ok hv hg (fun s H C cl fp => ht s H C cl fp (Bb s H C cl fp)) (fun s H C cl fp => hi1 s H C cl fp (Bb s H C cl fp)) hg1 (fun s H C cl fp => ht1 s H C cl fp (Bb s H C cl fp)) (fun s H C cl fp => he s H C cl fp (Bb s H C cl fp)) hs hs1) fun σ H Q h => lc2_lift hv h
end
end Pd

namespace Pd
open PySem PySem.Spec PyProof.Rows L2 LamX
/-! ### several except clauses, some of them with a name -/
/-- a clause: its class, the slot of its name, if it has one, and what its suite reads -/
structure Clause where
  c : Value
  i : Option Nat
  ts : Addr → Value → Option Addr → TS
def endsAs (i : Nat) (D : Ends) : Ends := { nx := fun τ G => D.nx (τ.set i none) G, rt := D.rt, bk := fun τ G => D.bk (τ.set i none) G, ct := fun τ G => D.ct (τ.set i none) G }
def Clause.wish (q : Clause) (D : Ends) (a : Addr) : WX := fun cls d τ G => match q.i with
  | none => q.ts a cls d D τ G
  | some i => q.ts a cls d (endsAs i D) (τ.set i (some (.ref a))) G
def wMix (K : PySem.W.Frag) (out : WX) (D : Ends) : List Clause → WX
  | [] => out
  | q :: r => fun cls d τ G => ∃ y, PySem.W.exmOne K cls q.c = some y ∧ (y = true → ∀ a, G a = none → q.wish D a cls d τ G) ∧ (y = false → wMix K out D r cls d τ G)
abbrev SuiteOk (X : Cx) (body : List Stmt) (ts : Addr → Value → Option Addr → TS) : Prop := ∀ (a : Addr) (oe : Obj) (cls : Value) (d : Option Addr) (pn : List (Addr × Obj)), Zc cls d oe → (∃ vs, oe.data = .fields vs) → PSs (X.suite a ((a, oe) :: pn)) body (ts a cls d)
inductive MixOk (X : Cx) : List ExceptHandler → List Clause → Prop
  | nil : MixOk X [] []
  | plain {x : Str} {c : Value} {ts : Addr → Value → Option Addr → TS} {st : Stmt} {sts : List Stmt} {p1 p2 : Pos} {hs : List ExceptHandler} {qs : List Clause} : Names X x c → SuiteOk X (st :: sts) ts → MixOk X hs qs →
      MixOk X (.ExceptHandler (some (.Name x p1)) none (st :: sts) p2 :: hs) (⟨c, none, ts⟩ :: qs)
  | named {x n : Str} {c : Value} {i : Nat} {ts : Addr → Value → Option Addr → TS} {st : Stmt} {sts : List Stmt} {p1 p2 : Pos} {hs : List ExceptHandler} {qs : List Clause} : Names X x c → X.N[i]? = some n → X.env.kindOf n = some .local → SuiteOk X (st :: sts) ts → MixOk X hs qs →
      MixOk X (.ExceptHandler (some (.Name x p1)) (some n) (st :: sts) p2 :: hs) (⟨c, some i, ts⟩ :: qs)
section
variable {X : Cx} {out : WX} {D : Ends} {pins : List (Addr × Obj)} {a : Addr} {B : Heap} {sI s' : Shared} {τ : L2.St} {G : Hp} {cls : Value} {d : Option Addr}
/-- where an exception has come down: the frame's state, and that of a suite there -/
theorem seat {g : Heap} (hs : X.stack = X.env :: X.outer) (hf : X.env.frame = some X.env.locals) (J : Inv X pins τ G sI) (nb : ∀ b o, sI.heap.get? b = some o → b ∉ frs X.stack → B.get? b = some o) (na : G a = none) (os : s'.os = sI.os) (ag : AllBare s'.gens)
    (fl : HandSPX.FlyingZ B (X.env :: X.outer) a (Zc cls d) g) (up : sI.heap.UpToSlots g) :
    ∃ oe, g.get? a = some oe ∧ Zc cls d oe ∧ (∃ vs, oe.data = .fields vs) ∧ Inv X pins τ G { s' with heap := g } ∧ Inv (X.suite a ((a, oe) :: (X.pn ++ pins))) [] τ G { s' with heap := g } := by
  have I1 : Inv X pins τ G { s' with heap := g } := J.landed nb fl.1 up os ag
  obtain ⟨oe, vs, ho, hz, hd⟩ := fl.there
  have out : a ∉ frs (X.env :: X.outer) := fun hm => by
    obtain ⟨_, o2, e2, no⟩ := fl.2.2.1.mem hm
    rw [ho] at e2
    cases e2
    exact no _ hd
  have n1 : a ≠ X.env.locals := fun z => out (List.mem_filterMap.mpr ⟨X.env, List.mem_cons_self, by rw [hf, z]⟩)
  have n2 : a ∉ X.fs := fun hm => by
    obtain ⟨e, he, q⟩ := List.mem_filterMap.mp hm
    exact out (List.mem_filterMap.mpr ⟨e, List.mem_cons_of_mem _ he, q⟩)
  exact ⟨oe, ho, hz, ⟨vs, hd⟩, I1, I1.suite ho hd na n1 n2⟩
/-- the clauses, one after the other -/
theorem mix_run {g : Heap} (hs : X.stack = X.env :: X.outer) (hf : X.env.frame = some X.env.locals) (nd : X.N.Nodup) (tk : Takes X out) (ok : X.Ok) (J : Inv X pins τ G sI) (nb : ∀ b o, sI.heap.get? b = some o → b ∉ frs X.stack → B.get? b = some o) (na : G a = none)
    (os : s'.os = sI.os) (ag : AllBare s'.gens) (fl : HandSPX.FlyingZ B (X.env :: X.outer) a (Zc cls d) g) (up : sI.heap.UpToSlots g) {hds : List ExceptHandler} {qs : List Clause} (m : MixOk X hds qs) :
    wMix X.K out D qs cls d τ G → wpAny (model X.prog X.w) X.A (handleBy (.ref a) X.env hds) (SP X pins D) X.xe { s' with heap := g } := by
  have back : ∀ {u : Heap}, HandSPX.FlyingZ B (X.env :: X.outer) a (Zc cls d) u → g.UpToSlots u → ∃ oe, u.get? a = some oe ∧ Zc cls d oe ∧ (∃ vs, oe.data = .fields vs) ∧ Inv X pins τ G { s' with heap := u } ∧ Inv (X.suite a ((a, oe) :: (X.pn ++ pins))) [] τ G { s' with heap := u } :=
    fun {u} f1 u1 => seat hs hf J nb na os ag f1 (up.trans u1)
  obtain ⟨oe, ho, hz, hd, I1, I2⟩ := seat hs hf J nb na os ag fl up
  have isC : PySem.W.Looks (model X.prog X.w) g (typeOf (.ref a)) cls := fun A Q E s k q => wpAny_typeOf_ref (k _ _ ho) (by rw [hz.1]; exact q)
  have nm : ∀ {x : Str} {c : Value} {p : Pos} {Q : Value → Shared → Prop} {F : Value → Shared → Prop}, Names X x c → Q c { s' with heap := g } → wpAny (model X.prog X.w) (X.A.mark (some (.ref a))) (eval (.Name x p) X.env) Q F { s' with heap := g } := fun {x c p Q F} hc q => by
    obtain ⟨h1, h2, h3 | ⟨h3, h4, h5⟩⟩ := hc
    · exact ld_glob (X := X.suite a ((a, oe) :: (X.pn ++ pins))) I2 h1 h3 q h2
    · exact ld_blt (X := X.suite a ((a, oe) :: (X.pn ++ pins))) I2 h1 h3 h4 q h5 h2
  induction m with
  | nil =>
    intro w
    refine wpAny_handleBy_nil ?_
    obtain ⟨_, _, _, o2, vs2, T, oT, ts2, e2, _, d2, f2, _⟩ := id fl
    unfold PySem.passOn
    refine wpAny_bind (wpAny_field e2 d2 f2 ?_)
    rw [if_neg (show ¬ ((Value.ref T == Value.none) = true) by simp)]
    have on : wpAny (model X.prog X.w) X.A (setFlight (.ref a) X.env.frame) (fun _ s2 => wpAny (model X.prog X.w) X.A (throw (.ref a) : Sem Flow) (SP X pins D) X.xe s2) X.xe { s' with heap := g } := by
      rw [hf]
      refine HandSPX.setFlight_upZ fl fun u hu u1 => wpAny_throw (tk _ _ ⟨a, B, sI, pins, τ, G, cls, d, rfl, J, nb, up.trans u1, .inr (.inr ?_), na, os, ag, w⟩)
      rw [hs]
      exact hu
    first
      | exact wpAny_bind (wpAny_pure (wpAny_bind on))
      | exact wpAny_bind on
  | plain hc hsu r ih =>
    rintro ⟨y, ey, yes, no⟩
    refine wpAny_handleBy_cons (codeAny_handlers_test ?_) (by intro q; cases q)
    refine nm hc ((PySem.W.exm_one (M := model X.prog X.w) I1.kIn isC ey).here ?_)
    cases y with
    | false => exact ih (no rfl)
    | true =>
      refine codeAny_handlers_suite (HandSPX.lands_againZ fl fun u f1 u1 => ?_)
      obtain ⟨o4, _, hz4, hd4, _, S4⟩ := back f1 u1
      refine wpAny_mono ((hsu a o4 cls d (X.pn ++ pins) hz4 hd4).run [] _ _ G _ S4 (yes rfl a na)) (fun f s6 hq => ?_) (fun _ _ z => False.elim z)
      cases f with
      | ret v =>
        obtain ⟨v6, τ6, G6, S6, r6, q6⟩ := hq
        exact ⟨v6, τ6, G6, S6.unsuite ok, r6, q6⟩
      | next =>
        obtain ⟨τ6, G6, S6, q6⟩ := hq
        exact ⟨τ6, G6, S6.unsuite ok, q6⟩
      | brk =>
        obtain ⟨τ6, G6, S6, q6⟩ := hq
        exact ⟨τ6, G6, S6.unsuite ok, q6⟩
      | cont =>
        obtain ⟨τ6, G6, S6, q6⟩ := hq
        exact ⟨τ6, G6, S6.unsuite ok, q6⟩
  | @named x n c i ts st sts p1 p2 hs2 qs2 hc hi hl hsu r ih =>
    rintro ⟨y, ey, yes, no⟩
    refine wpAny_handleBy_cons (codeAny_handlers_test ?_) (by intro q; cases q)
    refine nm hc ((PySem.W.exm_one (M := model X.prog X.w) I1.kIn isC ey).here ?_)
    cases y with
    | false => exact ih (no rfl)
    | true =>
      refine codeAny_handlers_suite_as (HandSPX.lands_againZ fl fun u f1 u1 => ?_)
      obtain ⟨o4, _, hz4, hd4, _, S4⟩ := back f1 u1
      refine store_ok (X := X.suite a ((a, o4) :: (X.pn ++ pins))) (v := .ref a) S4 nd hi (.inl hl) rfl (fun s5 S5 => ?_) (.inr hl)
      refine wpAny_mono ((hsu a o4 cls d (X.pn ++ pins) hz4 hd4).run [] s5 _ G _ S5 (yes rfl a na)) (fun f s6 hq => ?_) (fun _ _ z => False.elim z)
      have gone : ∀ {τ6 : L2.St} {G6 : Hp} {P : Shared → Prop}, Inv (X.suite a ((a, o4) :: (X.pn ++ pins))) [] τ6 G6 s6 → (∀ s7, Inv X pins (τ6.set i none) G6 s7 → P s7) → wpAny (model X.prog X.w) X.A (do bindName X.env n .none; unbindBehindTheSuite X.env n p2) (fun _ s7 => P s7) X.xe s6 :=
        fun {τ6 G6 P} S6 hP => gone_ok (S6.unsuite ok) nd hi hl hP
      cases f with
      | ret v =>
        obtain ⟨v6, τ6, G6, S6, r6, q6⟩ := hq
        exact gone S6 fun s7 J7 => ⟨v6, _, G6, J7, r6, q6⟩
      | next =>
        obtain ⟨τ6, G6, S6, q6⟩ := hq
        exact gone S6 fun s7 J7 => ⟨_, G6, J7, q6⟩
      | brk =>
        obtain ⟨τ6, G6, S6, q6⟩ := hq
        exact gone S6 fun s7 J7 => ⟨_, G6, J7, q6⟩
      | cont =>
        obtain ⟨τ6, G6, S6, q6⟩ := hq
        exact gone S6 fun s7 J7 => ⟨_, G6, J7, q6⟩
end
/-- try: body, except .. -/
theorem ps_try_mix {X : Cx} {body : List Stmt} {h0 : ExceptHandler} {hds : List ExceptHandler} {qs : List Clause} {pos : Pos} {tb : WX → TS} {out : WX} (hs : X.stack = X.env :: X.outer) (hf : X.env.frame = some X.env.locals) (nd : X.N.Nodup) (tk : Takes X out)
    (hb : ∀ (W : WX) (pn : List (Addr × Obj)) (xe : Value → Shared → Prop), Takes (X.tr pn xe) W → PassesOwn (model X.prog X.w) X.A X.env xe → PSs (X.tr pn xe) body (tb W)) (m : MixOk X (h0 :: hds) qs) :
    PS X (.Try body (h0 :: hds) [] [] pos) (fun D τ G => tb (wMix X.K out D qs) D τ G) := by
  refine ⟨fun pins s τ G D I h => wpAny_Try_except ?_⟩
  have ok := I.ok
  have fr : X.A.frames = some (X.env :: X.outer) := by rw [ok.frames, hs]
  let xe : Value → Shared → Prop := fun e s1 => wpAny (model X.prog X.w) X.A (noteFrame e X.env) (fun _ s2 => wpAny (model X.prog X.w) X.A (setFlight e none) (fun _ s3 => wpAny (model X.prog X.w) X.A (handleBy e X.env (h0 :: hds)) (SP X pins D) X.xe s3) X.xe s2) X.xe s1
  have tk2 : Takes (X.tr (X.pn ++ pins) xe) (wMix X.K out D qs) := fun u s1 ⟨a, B, sI, _, τ1, G1, cls, d, eu, J, nb, up, sky, na, os, ag, w⟩ => by
    subst eu
    have sky2 : Sky B (X.env :: X.outer) a (Zc cls d) X.env.locals s1.heap := by rw [← hs]; exact sky
    exact Sky.land Zc.steady fr hf sky2 fun u f1 u1 => mix_run hs hf nd tk ok (J.ofTry ok) nb na os ag f1 (up.trans u1) m w
  refine wpAny_mono ((hb (wMix X.K out D qs) (X.pn ++ pins) xe tk2 PassesOwn.looking).run [] s τ G D (I.toTry _) h) (fun f s1 hq => ?_) (fun _ _ he => he)
  cases f with
  | ret v =>
    obtain ⟨v1, τ1, G1, J1, r1, q1⟩ := hq
    exact ⟨v1, τ1, G1, J1.ofTry ok, r1, q1⟩
  | next =>
    obtain ⟨τ1, G1, J1, q1⟩ := hq
    exact wpAny_execs_nil ⟨τ1, G1, J1.ofTry ok, q1⟩
  | brk =>
    obtain ⟨τ1, G1, J1, q1⟩ := hq
    exact ⟨τ1, G1, J1.ofTry ok, q1⟩
  | cont =>
    obtain ⟨τ1, G1, J1, q1⟩ := hq
    exact ⟨τ1, G1, J1.ofTry ok, q1⟩
end Pd

namespace Pd
open PySem PySem.Spec PyProof.Rows L2 LamX
/-! ### raise -/
abbrev SizAll (H : Hp) : Prop := ∀ a o, H a = some o → SizedH o
theorem hok_siz {P : Program} {w : World} {H : Hp} {h : Heap} (x : HOk P w H h) : SizAll H := fun a o e => by
  have z := x a o e
  cases o with
  | lst xs => exact z.1
  | tup xs => exact z.1
  | _ => exact trivial
theorem pssS {X : Cx} {sts : List Stmt} {t : TS} (h : PSs X sts t) : PSs X sts (fun D σ H => SizAll H → t D σ H) := ⟨fun pins s σ H D I q => h.run pins s σ H D I (q (hok_siz I.hok))⟩
/-- an own class of errors over ValueError, without an own __init__ -/
structure ExcC (K : PySem.W.Frag) (mg : Str → Option Value) (C : Str) : Prop where
  q : PySem.W.excIn K (He.ga K C) He.veBase "ValueError.__new__" = true
  k : PySem.W.keepIn K (.ref (He.ga K C)) = true
  b : PySem.W.subIn K (.ref (He.ga K C)) (.type "BaseException") = some true
  t : PySem.W.typeIn K (.ref (He.ga K C)) = some (.type "type")
  g : mg C = some (.ref (He.ga K C))
def sRaise (C : Str) : WS := fun pe _ => pe.ex ⟨C, []⟩
section
variable {X : Cx} {T : List (Addr × Str)} {E : XK} {k : Nat}
theorem js_raise {C m : Str} {j : Nat} {p p2 pos pos' : Pos} (B : Bd X E k) (tk : Takes X (fun cls d _ H => E cls d H)) (e : ExcC X.K X.mg C) (hg : Gl X C := by rfl) (hd : (C == ("__debug__" : Str)) = false := by decide) :
    JS T X E (.Raise (some (.Call (.Name C p) [.Constant (.str m) j p2] [] pos)) none pos') (sRaise C) :=
  psI (ps_raise B.calm tk (pmk_own PySem.F.excBase_ValueError e.q e.g e.k (raises_own e.b e.t) hg hd)) fun D σ H ⟨c, wd, env, pe, r, h, o⟩ => o.ex _ h _ _ wd H r.ord r.good r.keep ⟨rfl, .inl ⟨rfl, rfl⟩⟩
end
/-! ### what a thunk gives, or its error -/
def dOnly (env : PEnv) : PEnv := env.map keepD
theorem dOnly_some {env : PEnv} {i : Nat} {s : Sl} (h : (dOnly env)[i]? = some (some s)) : ∃ x, s = .d x ∧ env[i]? = some (some (.d x)) := by
  unfold dOnly at h
  rw [List.getElem?_map] at h
  cases e : env[i]? with
  | none => rw [e] at h; cases h
  | some o =>
    rw [e] at h
    cases o with
    | none => cases h
    | some t =>
      cases t with
      | d x =>
        have : Sl.d x = s := by simpa [keepD] using h
        exact ⟨x, this.symm, rfl⟩
      | _ => simp [keepD] at h
section
variable {K : PySem.W.Frag} {T : List (Addr × Str)} {c : Ctx} {wd : Wd} {env : PEnv} {σ : L2.St} {H H1 : Hp}
theorem Good.extN (g : Good T wd H) (e : ExtN H H1) (t : Tabs T H1) (z : SizAll H1) : Good T wd H1 := by
  refine ⟨fun a o h => e a o (g.sub a o h) (g.ntb a o h).1, g.ntb, fun b hb => ?_, t, z⟩
  obtain ⟨h1, x, s, cc, h2, h3⟩ := g.box b hb
  exact ⟨h1, x, s, cc, e b _ h2 noTb_lst, h3⟩
theorem Keep.extN (e : ExtN H H1) : Keep wd H H1 := ⟨fun a o h _ t => e a o h t, fun a n o h t => n o (e a o h t) t⟩
theorem Rel.rebase (r : Rel K T c wd env σ H) : Rel K T ⟨wd, H, []⟩ wd (dOnly env) σ H := by
  refine ⟨Ord.refl _ _, r.good, Keep.refl _ _, by unfold dOnly; rw [List.length_map]; exact r.len, fun i x e => ?_, fun i xs e => ?_, fun i j xs ys p e _ _ _ => ?_, fun q hq => (nomatch hq), ⟨fun i p C fs e => ?_, fun i j p p' C C' fs gs e _ => ?_, fun i cs e => ?_, fun i cs e => ?_, fun i j cs ds e _ => ?_, fun i lk kvs e => ?_, fun i j lk lk' ks ls p e _ _ _ => ?_⟩⟩
  · obtain ⟨y, ey, e⟩ := dOnly_some e
    cases ey
    exact r.dat i x e
  all_goals
    obtain ⟨y, ey, _⟩ := dOnly_some e
    cases ey
end
/-- a clause: its class, the first sign of its list, the field that stands behind it -/
structure Hd where
  x : Str
  s : Str
  f : Option Str
def outH : List Hd → Xc → (D → Prop) → Prop
  | [], _, _ => False
  | h :: r, x, P => (h.x = x.cls ∧ (match h.f with
    | none => P (.lst [.str h.s])
    | some f => ∃ v, x.fs.lookup f = some v ∧ P (.lst [.str h.s, v]))) ∨ (h.x ≠ x.cls ∧ outH r x P)
def wOut (cls : List Str) (hs : List Hd) (w : W D) : W D := fun env Q _ => w (dOnly env) (fun d _ => Q d env) (fun x => x.cls ∈ cls ∧ outH hs x fun d => Q d env)
/-- the clauses' readings -/
def tsPl (s : Str) : Addr → Value → Option Addr → TS := fun _ _ _ D σ H => tLst (tCons (tC (.str s)) tNil) σ H D.rt
def tsNm (K : PySem.W.Frag) (C : Str) (i : Nat) (s f : Str) : Addr → Value → Option Addr → TS := fun a cls d D σ H => tLst (tCons (tC (.str s)) (tCons (tXf a cls d (He.ga K C) f (fun σ H Q => ∃ v, σ[i]? = some (some v) ∧ Q v H)) tNil)) σ H D.rt
def clOf (K : PySem.W.Frag) (i : Nat) (h : Hd) : Clause := match h.f with
  | none => ⟨.ref (He.ga K h.x), none, tsPl h.s⟩
  | some f => ⟨.ref (He.ga K h.x), some i, tsNm K h.x i h.s f⟩
theorem out_gives {X : Cx} {Ng : List Str} {x a q : Str} {sg : Scope} {g : Addr} {cdg : Value} {hds : List ExceptHandler} {h0 : ExceptHandler} {qs : List Clause} {p1 p2 p3 p8 : Pos} (nd : Ng.Nodup) (hN0 : ∀ f : Addr, (L2.start Ng [V.ref f])[0]? = some (some (V.ref f)))
    (m : ∀ (s : Shared) (H : Hp), MixOk (cxOf C8.CX0 X.prog X.w X.K X.mg X.base Ng x sg g cdg X.A X.stack s H C8.E0).nox (h0 :: hds) qs) :
    GivesTo X Ng x sg g cdg [.Try [.Return (some (.Call (.Name a p1) [] [] p2)) p3] (h0 :: hds) [] [] p8] a q
      (fun tl H Q => SizAll H → tl (fun cl dd H' => ∀ τ : L2.St, τ.length = Ng.length → wMix X.K (fun _ _ _ _ => False) { nx := fun _ H' => Q .non H', rt := Q } qs cl dd τ H') H Q) := by
  intro f c' s H Q tl act hc h
  refine ⟨_, pssS (pss_one (ps_try_mix (X := (cxOf C8.CX0 X.prog X.w X.K X.mg X.base Ng x sg g cdg X.A X.stack s H C8.E0).nox) (out := fun _ _ _ _ => False) rfl rfl nd LamX.takes0
    (tb := fun W D σ H => ∃ Ec : XK, (∀ cls d σ' H', Ec cls d H' → σ'.length = Ng.length → W cls d σ' H') ∧ σ[0]? = some (some (.ref f)) ∧ H c' = some (CodeO c' q) ∧ tl Ec H D.rt) (fun W pn xe tk _ => ⟨fun pins s' σ H' D I h' => ?_⟩) (m s H))), fun siz => ?_⟩
  · obtain ⟨Ec, hW, h1, h2, h3⟩ := h'
    have tk2 : Takes ((cxOf C8.CX0 X.prog X.w X.K X.mg X.base Ng x sg g cdg X.A X.stack s H C8.E0).tr pn xe) (fun cls d τ G => τ.length = Ng.length → W cls d τ G) :=
      fun u s1 ⟨b, B, sI, pins, τ, G, cls, d, e, J, nb, up, sky, na, os, ag, w⟩ => tk u s1 ⟨b, B, sI, pins, τ, G, cls, d, e, J, nb, up, sky, na, os, ag, w J.len⟩
    exact (pss_one (ps_ret (pos := p3) (act _ pn xe Ec p1 p2 tk2 hW))).run pins s' σ H' D I ⟨h1, h2, h3⟩
  · exact ⟨_, fun cls d σ' H' hE hl => hE σ' hl, hN0 f, hc, h siz⟩
/-- which classes the clauses' classes are -/
def ExmOk (K : PySem.W.Frag) (cls : List Str) (hs : List Hd) : Prop := ∀ y ∈ cls, ∀ h ∈ hs, PySem.W.exmOne K (.ref (He.ga K y)) (.ref (He.ga K h.x)) = some (decide (h.x = y))
theorem mix_out {K : PySem.W.Frag} {T : List (Addr × Str)} {cls : List Str} {i n : Nat} {x : Xc} {cl : Value} {dd : Option Addr} {wd : Wd} {H : Hp} {Dn : Ends} {P : Pd.D → Prop} (hx : x.cls ∈ cls) (xr : XRep K x cl dd wd H) (hi : i < n)
    (fin : ∀ xs : List Pd.D, P (.lst xs) → ∀ vs : List V, Reps K wd vs xs → vs.length ≤ sizeLine → ∀ p, H p = none → Dn.rt (.ref p) (upd H p (.lst vs))) {τ : L2.St} (hl : τ.length = n) :
    ∀ {hs : List Hd}, ExmOk K cls hs → outH hs x P → wMix K (fun _ _ _ _ => False) Dn (hs.map (clOf K i)) cl dd τ H
  | [], _, h => h
  | h :: r, em, ho => by
    have e1 : cl = .ref (He.ga K x.cls) := xr.1
    have e2 := em x.cls hx h List.mem_cons_self
    have ec : (clOf K i h).c = .ref (He.ga K h.x) := by
      unfold clOf
      cases h.f <;> rfl
    refine ⟨decide (h.x = x.cls), by rw [ec, e1]; exact e2, fun hy a ha => ?_, fun hn => ?_⟩
    · have hc := of_decide_eq_true hy
      rcases ho with ⟨_, ho⟩ | ⟨ne, _⟩
      · unfold clOf Clause.wish
        cases hf : h.f with
        | none =>
          rw [hf] at ho
          exact ⟨by show 1 ≤ sizeLine; decide, fun p hp => fin _ ho [.str h.s] (.cons (.str _) .nil) (by show 1 ≤ sizeLine; decide) p hp⟩
        | some f =>
          rw [hf] at ho
          obtain ⟨v, lv, ho⟩ := ho
          rcases xr.2 with ⟨z, _⟩ | ⟨b, vs, hb, hH, hn, hr⟩
          · rw [z] at lv
            cases lv
          · obtain ⟨v', l1, l2⟩ := lookup_reps hn hr lv
            refine ⟨.ref a, List.getElem?_set_self (by rw [hl]; exact hi), rfl, by rw [e1, hc], b, vs, v', hb, hH, l1, by show 2 ≤ sizeLine; decide, fun p hp => ?_⟩
            exact fin _ ho [.str h.s, v'] (.cons (.str _) (.cons l2 .nil)) (by show 2 ≤ sizeLine; decide) p hp
      · exact absurd hc ne
    · have hc := of_decide_eq_false hn
      rcases ho with ⟨e, _⟩ | ⟨_, ho⟩
      · exact absurd e hc
      · exact mix_out (T := T) hx xr hi fin hl (fun y hy k hk => em y hy k (List.mem_cons_of_mem _ hk)) ho
section
variable {X : Cx} {T : List (Addr × Str)} {E : XK} {k : Nat}
/-- x(lambda: body), x the def that tells the errors -/
theorem je_out {x a : Str} {g c P : Addr} {pg : Arguments} {sg : Scope} {fd : FuncData} {h0 : ExceptHandler} {hds : List ExceptHandler} {Ng : List Str} {cls : List Str} {hs : List Hd} {i kb : Nat} {params : Arguments} {body : Expr} {scope : Scope} {w : W D} {p lpos pos p1 p2 p3 p8 : Pos}
    (B : Bd X E k) (Dg : FunD X.K x x pg [.Try [.Return (some (.Call (.Name a p1) [] [] p2)) p3] (h0 :: hds) [] [] p8] sg [] [] g fd) (hm : X.mg x = some (.ref g)) (hb : Binds X.K fd [a] []) (Sg : FnScope Ng [a] sg) (hNg : Ng[0]? = some a) (hva : Vis sg a) (hi : i < Ng.length)
    (mx : ∀ (cdg : Value) (s : Shared) (H : Hp), MixOk (cxOf C8.CX0 X.prog X.w X.K X.mg X.base Ng x sg g cdg X.A X.stack s H C8.E0).nox (h0 :: hds) (hs.map (clOf X.K i))) (em : ExmOk X.K cls hs)
    (TB : TabB X.base X.mg c P) (hcode : X.env.code = .ref c) (hmT : (P, X.env.qual ++ "<lambda>") ∈ T) (hu : ∀ p ∈ T, p.1 = P → p.2 = X.env.qual ++ "<lambda>") (L : LamS X.env.scope scope)
    (hbody : ∀ (A : Around) (outer : List Env) (s : Shared) (H : Hp) (E' : XK) (f c' : Addr), Bd (lamCx X A outer s H E' scope f c') E' kb → JE T (lamCx X A outer s H E' scope f c') E' body w)
    (hk : kb + 2 ≤ k := by decide) (hdef : defaultsOf params X.env = ([], []) := by rfl)
    (hbind : ∀ (q : Str) (cl : List (Str × Addr)) (pm cv ctv : Value), bindArgs (PySem.W.kla_fn "<lambda>" q params body scope cl pm cv ctv) ⟨[], []⟩ = pure [] := by intros; rfl) (hg : Gl X x := by rfl)
    (hdb : (x == ("__debug__" : Str)) = false := by decide) (hd : (a == ("__debug__" : Str)) = false := by decide) (hcd : (a == ("__classdict__" : Str)) = false := by decide) :
    JE T X E (.Call (.Name x p) [.Lambda params body scope lpos] [] pos) (wOut cls hs w) := by
  obtain ⟨oc, od, dV, kV, doc, pm, an, cdv, ct, osl, rfl, lk, hcg, _, _⟩ := Dg.ex
  have hN0 : ∀ f : Addr, (L2.start Ng [V.ref f])[0]? = some (some (V.ref f)) := fun f => rfl
  refine peI (pe_lamcall (k := kb) (t := fun E' => lift X.K T (rE X.K) E' w) hg hm Dg.kp lk hcg hb Sg hNg hva (out_gives Sg.nd hN0 (mx cdv)) TB hcode hmT hu (B.room.mono hk) L hdef hbind (fun A outer s H E' f c' hr => ?_) hdb hd hcd) fun σ H Q ⟨cc, wd, env, P1, Ex, r, h, xo, kk⟩ => ?_
  · exact hbody A outer s H E' f c' ⟨hr, passes_call (takes_of rfl rfl rfl rfl) fun _ _ _ _ h => h, passes_of rfl, rfl, B.nd⟩
  · refine ⟨r.good.tab, fun H1 eN t1 z => ?_⟩
    have g1 : Good T wd H1 := r.good.extN eN t1 z
    have r1 : Rel X.K T cc wd env σ H1 := r.go (Ord.refl _ _) g1 (Keep.extN eN)
    refine ⟨⟨wd, H1, []⟩, wd, dOnly env, _, _, r1.rebase, h, fun x hx cl dd wd' H' o' g' k' xr τ hl => ?_, fun d env' hd v wd' H' le r' rp => ?_⟩
    · refine mix_out (T := T) hx.1 xr hi (fun xs hp vs rv hz p hp' => ?_) hl em hx.2
      have r2 : Rel X.K T cc wd' env σ H' := r1.go o' g' k'
      obtain ⟨r3, f3⟩ := r2.fresh hp' rv hz
      obtain ⟨wd4, le4, r4, rp4⟩ := r3.frzF f3
      exact kk _ env hp (.ref p) wd4 _ (o'.le.trans le4) r4 rp4
    · exact kk d env hd v wd' H' le (r1.go r'.ord r'.good r'.keep) rp
end
end Pd

namespace Pd
open PySem PySem.Spec PyProof.Rows L2 LamX
/-! ### repr of plain data -/
mutual
def toR : D → PyData
  | .bl b => .bool b
  | .int i => .int i
  | .str x => .str x
  | .tup xs => .tuple (toRs xs)
  | .lst xs => .list (toRs xs)
  | .dic _ => .dict []
  | _ => .none
def toRs : List D → List PyData
  | [] => []
  | x :: xs => toR x :: toRs xs
end
mutual
def wt : D → Nat
  | .int _ => 401
  | .str x => x.cps.size
  | .tup xs => wts xs
  | .lst xs => wts xs
  | _ => 0
def wts : List D → Nat
  | [] => 0
  | x :: xs => wt x + 1 + wts xs
end
def sho : Nat → D → Bool
  | 0, _ => false
  | n + 1, d => match d with
    | .non => true
    | .bl _ => true
    | .int i => decide (i.natAbs < 10 ^ 120)
    | .str x => PyData.strOk x
    | .tup xs => xs.all (sho n)
    | .lst xs => xs.all (sho n)
    | .dic [] => true
    | _ => false
def shown (d : D) : Str := (toR d).shown
structure ShoOk (n : Nat) (d : PyData) (m : Nat) : Prop where
  ls : d.leavesShort 130 = true
  sh : d.showable = true
  dp : d.depth ≤ n
  wt : d.weight ≤ m
structure ShoOks (n : Nat) (ds : List PyData) (m : Nat) : Prop where
  ls : PyData.leavesShortAll 130 ds = true
  sh : PyData.showableAll ds = true
  dp : PyData.depthAll ds ≤ n
  wt : PyData.weightAll ds ≤ m
set_option exponentiation.threshold 600 in
theorem int_sho {i : Int} (h : i.natAbs < 10 ^ 120) : (PyData.shown (.int i)).length ≤ 130 ∧ i.natAbs.log2 < 400 := by
  have e := int_text_length_le10 (k := 120) (by decide) h
  refine ⟨?_, ?_⟩
  · show (Str.ofString (toString i)).length ≤ 130
    rw [PySem.ofString_length]
    omega
  · by_cases hz : i.natAbs = 0
    · rw [hz]
      decide
    · exact (Nat.log2_lt hz).mpr (Nat.lt_trans h (by decide +kernel))
mutual
theorem sho_ok : ∀ (n : Nat) (d : D), sho n d = true → ShoOk n (toR d) (wt d)
  | 0, d, h => by cases h
  | n + 1, .non, _ => ⟨rfl, rfl, Nat.zero_le _, Nat.le_refl _⟩
  | n + 1, .bl b, _ => ⟨rfl, rfl, Nat.zero_le _, Nat.le_refl _⟩
  | n + 1, .int b, h => by
    have h' : b.natAbs < 10 ^ 120 := of_decide_eq_true h
    obtain ⟨h1, h2⟩ := int_sho h'
    refine ⟨by simpa only [toR, PyData.leavesShort, decide_eq_true_eq] using h1, by simp only [toR, PyData.showable, decide_eq_true_eq]; omega, by simp [toR, PyData.depth], ?_⟩
    simp only [toR, PyData.weight, wt]
    split <;> omega
  | n + 1, .str b, h => by
    have h' : PyData.strOk b = true := h
    refine ⟨PyData.leavesShort_of_canLay0 130 (.str b) (by simpa only [PyData.canLay0] using h') rfl, rfl, Nat.zero_le _, Nat.le_refl _⟩
  | n + 1, .tup xs, h => by
    have h' : xs.all (sho n) = true := h
    have z := shos_ok n xs h'
    exact ⟨by simpa only [toR, PyData.leavesShort] using z.ls, by simpa only [toR, PyData.showable] using z.sh, by simp only [toR, PyData.depth]; have := z.dp; omega, by simpa only [toR, PyData.weight, wt] using z.wt⟩
  | n + 1, .lst xs, h => by
    have h' : xs.all (sho n) = true := h
    have z := shos_ok n xs h'
    exact ⟨by simpa only [toR, PyData.leavesShort] using z.ls, by simpa only [toR, PyData.showable] using z.sh, by simp only [toR, PyData.depth]; have := z.dp; omega, by simpa only [toR, PyData.weight, wt] using z.wt⟩
  | n + 1, .dic [], _ => ⟨rfl, rfl, by simp [toR, PyData.depth, PyData.depthKv], by simp [toR, PyData.weight, PyData.weightKv]⟩
  | n + 1, .dic (_ :: _), h => by cases h
  | n + 1, .scr _, h => by cases h
  | n + 1, .dit _, h => by cases h
  | n + 1, .ins _ _, h => by cases h
  | n + 1, .box _, h => by cases h
  | n + 1, .raw _, h => by cases h
  | n + 1, .cls _, h => by cases h
theorem shos_ok : ∀ (n : Nat) (ds : List D), ds.all (sho n) = true → ShoOks n (toRs ds) (wts ds)
  | n, [], _ => ⟨rfl, rfl, Nat.zero_le _, Nat.le_refl _⟩
  | n, d :: ds, h => by
    rw [List.all_cons, Bool.and_eq_true] at h
    have a := sho_ok n d h.1
    have b := shos_ok n ds h.2
    refine ⟨?_, ?_, ?_, ?_⟩
    · simp only [toRs, PyData.leavesShortAll, a.ls, b.ls, Bool.and_self]
    · simp only [toRs, PyData.showableAll, a.sh, b.sh, Bool.and_self]
    · have := a.dp
      have := b.dp
      simp only [toRs, PyData.depthAll]
      omega
    · have := a.wt
      have := b.wt
      simp only [toRs, PyData.weightAll, wts]
      omega
end
theorem sho_len {n : Nat} {d : D} (h : sho n d = true) (hw : wt d ≤ 100000) : (toR d).shown.length ≤ sizeLine := by
  have z := sho_ok n d h
  have h1 := PyData.shown_le 130 (by decide) (toR d) z.ls
  have h2 := z.wt
  have h3 : (130 + 2) * (toR d).weight ≤ 132 * 100000 := Nat.mul_le_mul (Nat.le_refl _) (Nat.le_trans h2 hw)
  have : sizeLine = 16777216 := by decide
  omega
section
variable {X : Cx} {pins : List (Addr × Obj)} {σ : L2.St} {T : List (Addr × Str)} {wd : Wd} {H : Hp} {s : Shared}
/-- how a datum's text is made at the state s -/
structure Shw (X : Cx) (s : Shared) (u : Value) (d : PyData) : Prop where
  ex : ∃ bs as, Reads s.heap u d as ∧ ReadAtMost s.heap d.depth bs ∧ ReprK X.prog X.w bs s.heap d.depth u d.shown
structure Shws (X : Cx) (s : Shared) (us : List Value) (ds : List PyData) : Prop where
  ex : ∃ bs as, ReadsAll s.heap us ds as ∧ ReadAtMost s.heap (PyData.depthAll ds) bs ∧ ReprAllK X.prog X.w bs s.heap (PyData.depthAll ds) us (PyData.shownAll ds)
theorem Shws.nil : Shws X s [] [] := ⟨[], [], ReadsAll.nil, (fun _ h => nomatch h), ReprAllK.nil⟩
theorem Shws.cons {u : Value} {us : List Value} {d : PyData} {ds : List PyData} (a : Shw X s u d) (b : Shws X s us ds) : Shws X s (u :: us) (d :: ds) := by
  obtain ⟨b1, a1, r1, m1, k1⟩ := a.ex
  obtain ⟨b2, a2, r2, m2, k2⟩ := b.ex
  have l1 : d.depth ≤ PyData.depthAll (d :: ds) := by simp only [PyData.depthAll]; omega
  have l2 : PyData.depthAll ds ≤ PyData.depthAll (d :: ds) := by simp only [PyData.depthAll]; omega
  refine ⟨b1 ++ b2, a1 ++ a2, .cons r1 r2, (m1.mono l1).append (m2.mono l2), ?_⟩
  exact .cons ((k1.more fun b hb => List.mem_append_left _ hb).level_le l1) (k2.more_le (fun b hb => List.mem_append_right _ hb) l2)
/-- an item's own text, and that of all -/
theorem Shws.top {us : List Value} {ds : List PyData} (b : Shws X s us ds) {a : Addr} {o : Obj} {n : Nat} (h1 : s.heap.get? a = some o) (h2 : o.cls = .type "list" ∧ o.data = .seq us.toArray n ∨ o.cls = .type "tuple" ∧ o.data = .seq us.toArray n) :
    ∃ bs, a ∉ bs ∧ ReprAllK X.prog X.w bs s.heap (PyData.depthAll ds) us (PyData.shownAll ds) ∧ ReadAtMost s.heap (PyData.depthAll ds) bs := by
  obtain ⟨bs, as, r, m, k⟩ := b.ex
  have key : ∀ {d : PyData}, Reads s.heap (.ref a) d (match d with | .list _ => a :: as | _ => as) → PyData.depthAll ds < d.depth → a ∉ bs := fun {d} r hd => not_mem_of_deeper r hd m
  refine ⟨bs, ?_, k, m⟩
  rcases h2 with ⟨hc, hd⟩ | ⟨hc, hd⟩
  · exact key (d := .list ds) (.list h1 hc hd (by simpa using r)) (by simp only [PyData.depth]; omega)
  · exact key (d := .tuple ds) (.tuple h1 hc hd (by simpa using r)) (by simp only [PyData.depth]; omega)
theorem Shws.list {us : List Value} {ds : List PyData} (b : Shws X s us ds) {a : Addr} {o : Obj} {n : Nat} (h1 : s.heap.get? a = some o) (hc : o.cls = .type "list") (hd : o.data = .seq us.toArray n) : Shw X s (.ref a) (.list ds) := by
  obtain ⟨bs, na, k, m⟩ := b.top h1 (.inl ⟨hc, hd⟩)
  obtain ⟨_, as, r, _, _⟩ := b.ex
  have rd : Reads s.heap (.ref a) (.list ds) (a :: as) := .list h1 hc hd (by simpa using r)
  refine ⟨a :: bs, _, rd, ReadAtMost.cons rd (by simp only [PyData.depth]; omega) m, ?_⟩
  simp only [PyData.depth, PyData.shown]
  cases us with
  | nil =>
    cases r
    simp only [PyData.shownAll, listText_nil]
    exact ReprK.listEmpty h1 hc hd
  | cons x l => exact ReprK.list h1 hc hd na (by simpa using k.length_eq) (fun i y e => k.item i y (by simpa using e))
theorem Shws.tuple {us : List Value} {ds : List PyData} (b : Shws X s us ds) {a : Addr} {o : Obj} {n : Nat} (h1 : s.heap.get? a = some o) (hc : o.cls = .type "tuple") (hd : o.data = .seq us.toArray n) : Shw X s (.ref a) (.tuple ds) := by
  obtain ⟨bs, na, k, m⟩ := b.top h1 (.inr ⟨hc, hd⟩)
  obtain ⟨_, as, r, _, _⟩ := b.ex
  have rd : Reads s.heap (.ref a) (.tuple ds) as := .tuple h1 hc hd (by simpa using r)
  refine ⟨a :: bs, _, rd, ReadAtMost.cons rd (by simp only [PyData.depth]; omega) m, ?_⟩
  simp only [PyData.depth, PyData.shown]
  exact ReprK.tuple h1 hc hd na (by simpa using k)
theorem shw_mem {xs : List D} {t : Str} (h : t ∈ PyData.shownAll (toRs xs)) (hl : (listText (PyData.shownAll (toRs xs))).length ≤ sizeLine ∨ (tupleText (PyData.shownAll (toRs xs))).length ≤ sizeLine) : t.length ≤ sizeLine :=
  hl.elim (fun z => Nat.le_trans (listText_mem_le h) z) fun z => Nat.le_trans (tupleText_mem_le h) z
mutual
theorem rep_shw (I : Inv X pins σ H s) (g : Good T wd H) : ∀ (n : Nat) {v : V} {d : D} {u : Value}, sho n d = true → Rep X.K wd v d → RelV v u → (toR d).shown.length ≤ sizeLine → Shw X s u (toR d)
  | 0, _, _, _, h, _, _, _ => by cases h
  | n + 1, _, _, _, _, .non, r, _ => by
    cases r
    exact ⟨[], _, .none, (fun _ h => nomatch h), by simp only [toR, PyData.shown]; exact .of_is ReprIs.none _ _ _⟩
  | n + 1, _, _, _, _, .bl b, r, _ => by
    cases r
    exact ⟨[], _, .bool b, (fun _ h => nomatch h), by simp only [toR, PyData.shown]; exact .of_is (ReprIs.bool b) _ _ _⟩
  | n + 1, _, .int b, _, h, .int _, r, _ => by
    obtain ⟨t, rfl⟩ := r
    have h' : b.natAbs < 10 ^ 120 := of_decide_eq_true h
    exact ⟨[], _, .int b t, (fun _ h => nomatch h), by simp only [toR, PyData.shown]; exact .of_is (ReprIs.int t (by have := (int_sho h').2; omega)) _ _ _⟩
  | n + 1, _, _, _, _, .str b, r, z => by
    obtain ⟨t, rfl⟩ := r
    exact ⟨[], _, .str b t, (fun _ h => nomatch h), by simp only [toR, PyData.shown]; exact .of_is (ReprIs.str b t (by simpa only [toR, PyData.shown] using z)) _ _ _⟩
  | n + 1, _, _, _, h, .tup hs rs, r, z => by
    obtain rfl := r
    obtain ⟨its, rv, ⟨o, h1, hc, m, hd⟩, _⟩ := I.tuple (sub_sqT g hs)
    simp only [toR, PyData.shown] at z
    exact (reps_shw I g n h rs rv fun t ht => shw_mem ht (.inr z)).tuple h1 hc hd
  | n + 1, _, _, _, h, .lst hs rs, r, z => by
    obtain rfl := r
    obtain ⟨its, rv, ⟨o, m, h1, hc, _, hd⟩, _⟩ := I.list (sub_sqL g hs)
    simp only [toR, PyData.shown] at z
    exact (reps_shw I g n h rs rv fun t ht => shw_mem ht (.inl z)).list h1 hc hd
  | n + 1, _, .dic [], _, h, .dic hs e rs, r, z => by
    rename_i a vs
    obtain rfl := r
    have ev : vs = [] := by simpa using e
    subst ev
    obtain ⟨_, hS, ws, kv, o, es, ep, h1, hx, hd, _, pr, _⟩ := dk_of I.hok (g.sub _ _ hs)
    cases kv
    have ee : es.toList = [] := by
      cases hq : es.toList with
      | nil => rfl
      | cons q l =>
        rw [hq] at pr
        cases pr
    have rd : Reads s.heap (.ref a) (.dict []) ([a] ++ []) := .dict (kvs := []) (as := []) (bs := []) h1 hx.1 hd (by rw [ee]; exact .nil) (by rw [ee]; exact .nil)
    refine ⟨[a], _, rd, ReadAtMost.cons (n := 0) rd (Nat.zero_le _) (fun _ h => nomatch h), ?_⟩
    simp only [toR, PyData.depth, PyData.shown, PyData.shownKv, PyData.depthKv]
    exact ReprK.dict h1 hx.1 hd hS (fun h => nomatch h) (by rw [ee]; exact .nil)
  | n + 1, _, .dic (_ :: _), _, h, .dic _ _ _, _, _ => by cases h
  | n + 1, _, _, _, h, .scr _, _, _ => by cases h
  | n + 1, _, _, _, h, .dit _ _ _, _, _ => by cases h
  | n + 1, _, _, _, h, .ins _ _ _, _, _ => by cases h
  | n + 1, _, _, _, h, .box _, _, _ => by cases h
  | n + 1, _, _, _, h, .raw _, _, _ => by cases h
  | n + 1, _, _, _, h, .cls _, _, _ => by cases h
theorem reps_shw (I : Inv X pins σ H s) (g : Good T wd H) : ∀ (n : Nat) {vs : List V} {ds : List D} {us : List Value}, ds.all (sho n) = true → Reps X.K wd vs ds → Vals vs us → (∀ t ∈ PyData.shownAll (toRs ds), t.length ≤ sizeLine) → Shws X s us (toRs ds)
  | n, _, _, _, _, .nil, r, _ => by
    cases r
    exact Shws.nil
  | n, _, _, _, h, .cons a b, .cons ra rb, z => by
    rw [List.all_cons, Bool.and_eq_true] at h
    exact .cons (rep_shw I g n h.1 a ra (z _ List.mem_cons_self)) (reps_shw I g n h.2 b rb fun t ht => z t (List.mem_cons_of_mem _ ht))
end
def dRepr (d : D) : Option D := match d with
  | .lst xs => if sho 30 (.lst xs) && decide (wt (.lst xs) ≤ 100000) then some (.str (shown (.lst xs))) else none
  | .tup xs => if sho 30 (.tup xs) && decide (wt (.tup xs) ≤ 100000) then some (.str (shown (.tup xs))) else none
  | _ => none
/-- the text of a list, a tuple that is at hand -/
theorem cr_shw {X : Cx} (gd : X.A.guards = some []) (hu : X.A.units + 64 < cLine) : CallR X (.builtin "repr") (fun xs H Q => ∃ (p : Addr) (T : List (Addr × Str)) (wd : Wd) (vs : List V) (ds : List D), xs = [.ref p] ∧ Good T wd H ∧ Reps X.K wd vs ds ∧
    ((SqL X.K H p vs ∧ sho 30 (.lst ds) = true ∧ wt (.lst ds) ≤ 100000 ∧ Q (.str (shown (.lst ds))) H) ∨ (SqT X.K H p vs ∧ sho 30 (.tup ds) = true ∧ wt (.tup ds) ≤ 100000 ∧ Q (.str (shown (.tup ds))) H))) := by
  intro pins s σ H xs us Q I r h
  obtain ⟨p, T, wd, vs, ds, rfl, g, rs, h⟩ := h
  obtain ⟨u, rfl, rfl⟩ := vals1 r
  rcases h with ⟨hs, ho, hw, q⟩ | ⟨hs, ho, hw, q⟩
  · obtain ⟨its, rv, ⟨o, m, h1, hc, _, hd⟩, _⟩ := I.list hs
    have z := sho_len ho hw
    have dp := (sho_ok 30 _ ho).dp
    have fin : ∀ (h' : Heap) (u tk : Tok), (∀ b o, s.heap.get? b = some o → h'.get? b = some o) → EP X pins σ Q (.str (shown (.lst ds)) u) { s with heap := h', toks := tk } := fun h' u tk hk => ⟨.str _, H, I.kept hk, ⟨_, rfl⟩, q⟩
    unfold shown at fin
    simp only [toR, PyData.shown] at z fin
    simp only [toR, PyData.depth] at dp
    have ho' : ds.all (sho 29) = true := ho
    have sw := reps_shw I g 29 ho' rs rv fun t ht => shw_mem ht (.inl z)
    obtain ⟨bs, na, kk, m⟩ := sw.top h1 (.inl ⟨hc, hd⟩)
    refine call_repr_slot (by omega) ⟨o, h1, hc⟩ F.slot_list_repr.toG ?_
    cases its with
    | nil =>
      obtain ⟨_, _, rr, _⟩ := sw.ex
      cases hds : toRs ds with
      | cons _ _ => rw [hds] at rr; cases rr
      | nil =>
        rw [hds] at fin
        simp only [PyData.shownAll, listText_nil] at fin
        exact call_list_repr_empty ⟨o, h1, hc⟩ h1 hd ⟨_, _, rfl, fin s.heap _ _ fun _ _ e => e⟩
    | cons x l => exact call_list_reprK h1 hc hd na (by simpa using kk.length_eq) (fun i y e => kk.item i y (by simpa using e)) gd (fun b _ => Clear.nil b) (by show X.A.units + 1 + _ < cLine; omega) (fun _ _ e => e) (fun h' u tk hk => ⟨_, _, rfl, fin h' u tk hk⟩) z
  · obtain ⟨its, rv, ⟨o, h1, hc, m, hd⟩, _⟩ := I.tuple hs
    have z := sho_len ho hw
    have dp := (sho_ok 30 _ ho).dp
    have fin : ∀ (h' : Heap) (u tk : Tok), (∀ b o, s.heap.get? b = some o → h'.get? b = some o) → EP X pins σ Q (.str (shown (.tup ds)) u) { s with heap := h', toks := tk } := fun h' u tk hk => ⟨.str _, H, I.kept hk, ⟨_, rfl⟩, q⟩
    unfold shown at fin
    simp only [toR, PyData.shown] at z fin
    simp only [toR, PyData.depth] at dp
    have ho' : ds.all (sho 29) = true := ho
    have sw := reps_shw I g 29 ho' rs rv fun t ht => shw_mem ht (.inr z)
    obtain ⟨bs, na, kk, m⟩ := sw.top h1 (.inr ⟨hc, hd⟩)
    refine call_repr_slot (by omega) ⟨o, h1, hc⟩ F.slot_tuple_repr ?_
    exact call_tuple_reprK h1 hc hd na (by simpa using kk) gd (fun b _ => Clear.nil b) (by show X.A.units + 1 + _ < cLine; omega) (fun _ _ e => e) (fun h' u tk hk => ⟨_, _, rfl, fin h' u tk hk⟩) z
theorem cb_repr {X : Cx} (gd : X.A.guards = some []) (hu : X.A.units + 64 < cLine) : CallB X (.builtin "repr") dRepr := ⟨_, cr_shw gd hu, fun x z e T wd H v Q g t d => by
  cases x with
  | lst xs =>
    obtain ⟨h, rfl⟩ := ite_some e
    rw [Bool.and_eq_true] at h
    obtain ⟨p, vs, rfl, h1, h2⟩ := top_lst g t
    exact ⟨p, T, wd, vs, xs, rfl, g, h2, .inl ⟨.inl (.inl h1), h.1, of_decide_eq_true h.2, d.now (.str _)⟩⟩
  | tup xs =>
    obtain ⟨h, rfl⟩ := ite_some e
    rw [Bool.and_eq_true] at h
    obtain ⟨p, vs, rfl, h1, _, h2⟩ := top_tup g t
    exact ⟨p, T, wd, vs, xs, rfl, g, h2, .inr ⟨h1, h.1, of_decide_eq_true h.2, d.now (.str _)⟩⟩
  | _ => cases e⟩
end
/-! ### defs that look at what is under way: nothing may be shown around them -/
structure FnG (P : Program) (w : World) (K : PySem.W.Frag) (mg : Str → Option Value) (base : Heap) (k : Nat) (f : Addr) (fd : FuncData) (ps : List Str) (sp : Sp) : Prop where
  len : ∀ vs H Q E, sp vs H Q E → vs.length = ps.length
  go : ∀ (A : Around) (outer : List Env) (s : Shared) (H : Hp) (args : Args) (us : List Value) (vs : List V) (Q : VK) (E : XK), A.guards = some [] → Room k A → Env0 P w K mg base A outer s H → BindsTo s fd args (ps.zip us) → Vals vs us →
    sp vs H Q E → codeAny (model P w) A (.call (.ref f) args) (CR (L2.CX P w) outer P w H s Q E) s
theorem FnG.of {P : Program} {w : World} {K : PySem.W.Frag} {mg : Str → Option Value} {base : Heap} {k : Nat} {f : Addr} {fd : FuncData} {ps : List Str} {sp : Sp} (F : FnOk P w K mg base (L2.CX P w) k f fd ps sp) : FnG P w K mg base k f fd ps sp :=
  ⟨F.len, fun A outer s H args us vs Q E _ hr e0 hb r h => F.run A outer s H args us vs Q E hr e0 hb r h⟩
structure DefG (P : Program) (w : World) (K : PySem.W.Frag) (mg : Str → Option Value) (base : Heap) (T : List (Addr × Str)) (x : Str) (k : Nat) (ps : List Str) (F : Fn) : Prop where
  ex : ∃ (f : Addr) (fd : FuncData), mg x = some (.ref f) ∧ PySem.W.keepIn K (.ref f) = true ∧ Binds K fd ps [] ∧ FnG P w K mg base k f fd ps (spec K T F) ∧ ∃ oc od osl, K.lookup f = some ⟨oc, od, .func fd, osl⟩
section
variable {X : Cx} {T : List (Addr × Str)} {E : XK} {k : Nat}
theorem run_fnG {pins : List (Addr × Obj)} {σ : L2.St} {H : Hp} {s : Shared} {Q : VK} {us : List Value} {vs : List V} {f : Addr} {fd : FuncData} {ps : List Str} {sp : Sp} (F : FnG X.prog X.w X.K X.mg X.base k f fd ps sp) (gd : X.A.guards = some []) (hr : Room k X.A) (hb : Binds X.K fd ps [])
    (hx : Passes (L2.CX X.prog X.w) X E) (I : Inv X pins σ H s) (r : Vals vs us) (h : sp vs H Q E) : wpAny (model X.prog X.w) X.A (call (.ref f) us) (EP X pins σ Q) X.xe s := by
  have hl : us.length = ps.length := r.length.symm.trans (F.len _ _ _ _ h)
  have hbi := hb s us I.kIn (by rw [List.append_nil]; exact hl)
  rw [List.append_nil] at hbi
  refine wpAny_call (codeAny_mono (F.go X.A X.stack s H ⟨us, []⟩ us vs Q E gd hr I.env0 hbi r h) fun z s' hq => ?_)
  rcases z with e | fl
  · exact hx pins σ H s e s' I hq
  · cases fl <;> first | exact I.after hq | exact False.elim hq
theorem je_callG {x : Str} {ps : List Str} {F : Fn} {e : Expr} {es : List Expr} {a : W (List D)} {p pos : Pos} {j : Nat} (B : Bd X E k) (gd : X.A.guards = some []) (G : DefG X.prog X.w X.K X.mg X.base T x j ps F) (ha : JA T X E (e :: es) a) (hj : j ≤ k := by decide) (hg : Gl X x := by rfl)
    (hdb : (x == ("__debug__" : Str)) = false := by decide) (he : starEach (e :: es) X.env = (false, eval e X.env) :: starEach es X.env := by rfl) (hpl : (backTo pos (starEach es X.env)).any (·.1) = false := by rfl) : JE T X E (.Call (.Name x p) (e :: es) [] pos) (wCall F a) := by
  obtain ⟨f, fd, g1, g2, g3, g4, _⟩ := G.ex
  have key : PE X (.Call (.Name x p) (e :: es) [] pos) (tCall (spec X.K T F) [] E (lift X.K T (rA X.K) E a)) := ⟨fun pins s σ H Q I h => by
    refine wpAny_Call_Name_kw (ld_glob I hg g1 ?_ hdb)
    refine PySem.W.callWith_K (h₀ := X.base) I.ok.mod.kin g2 (thn (ha.run pos pins s σ H _ I h) fun us s1 ⟨vs, H1, I1, r, q⟩ => ⟨I1.kIn, ?_⟩) he hpl
    have q : spec X.K T F (vs ++ []) H1 Q E := q
    rw [List.append_nil] at q
    exact run_fnG g4 gd (B.room.mono hj) g3 B.pass I1 r q⟩
  exact peI key fun σ H Q h => lift_call h
end
end Pd

namespace Pd
open PySem PySem.Spec PyProof.Rows L2 LamX PySem.W
/-! ### own errors that keep a value: super().__init__("text"), self.f = v -/
/-- what is known of such a class -/
structure ExF (K : Frag) (C : Addr) (B i newId : String) (bmB : List Value) (f : Str) : Prop where
  q : excInitIn K C bmB newId = true
  k : keepIn K (.ref C) = true
  b : subIn K (.ref C) (.type "BaseException") = some true
  t : typeIn K (.ref C) = some (.type "type")
  sa : findIn K (.ref C) "__setattr__" = some (some (.builtin "object.__setattr__"))
  ov : excOver K C bmB = true
  tk : takerIn K C f = some none
  hd : hasDictIn K C = true
  su : ks_superIn K C C "__init__" = some (some (.builtin i))
  sb : subIn K (.ref C) (.type B) = some true
  mr : mroIn K C (.ref C) = some true
  op : nsIn K cStatics "thirdparty.any" = some none
section
variable {prog : Program} {w : World} {A : Around} {R : Result → Shared → Prop} {hp : Heap} {g : Array GenState} {d : Drawn} {t : Nat} {os : OsState} {K : Frag} {C : Addr} {B i newId : String} {bmB : List Value} {f : Str}
/-- the first field of an error -/
theorem exv_store {x t0 : Addr} {tk : Tok} {v : Value} (SF : StoreFacts B bmB "object.__setattr__" "object") (c : ExF K C B i newId bmB f) (X : K.In hp) (hx : hp.get? x = some (excObj C t0 none .none))
    (hq : ∀ h' tk' dx, (∀ b o, b ≠ x → hp.get? b = some o → h'.get? b = some o) → hp.objs.size ≤ dx → h'.get? x = some (excObj C t0 (some dx) .none) → h'.Ns1 dx (fun y => if y = f then some v else none) → R (.ok (.ret .none)) ⟨h', g, d, tk', os⟩) :
    codeAny (model prog w) A (.call (.builtin "object.__setattr__") ⟨[.ref x, .str f tk, v], []⟩) R ⟨hp, g, d, t, os⟩ := by
  refine osa_openX (s := ⟨hp, g, d, t, os⟩) (od := none) SF X ⟨hx, rfl, rfl, trivial⟩ c.ov c.tk fun bb => ?_
  obtain ⟨cd, hc, hd'⟩ := any_some c.hd
  have lx : x < hp.objs.size := Heap.lt_size hx
  refine wpAny_bind (wpAny_pure (wpAny_bind (instanceDict_exc (s := ⟨hp, g, d, t, os⟩) hx (looks_clsIn X hc) hd' ?_)))
  have hx1 : (hp.push (dictOf [] 0)).get? x = some (excObj C t0 none .none) := Heap.get?_push_of_some _ hx
  refine HandSPX.store_in_new ⟨_, #[], _, (Heap.get?_update_ne _ _ _ _ (Nat.ne_of_gt lx)).trans (Heap.get?_push_at rfl rfl), rfl, fun e he => absurd he (by simp), fun _ => rfl⟩ fun h' tk' n1 sb => ?_
  refine hq h' tk' hp.objs.size (fun b o hb ho => ?_) (Nat.le_refl _) ?_ n1
  · rw [sb.2 b (Nat.ne_of_lt (Heap.lt_size ho)), Heap.get?_update_ne _ _ _ _ hb]
    exact Heap.get?_push_of_some _ ho
  · rw [sb.2 x (Nat.ne_of_lt lx)]
    exact Heap.get?_update_self _ hx1 rfl
/-- what is known of its __init__ -/
structure ExI (K : Frag) (C fI : Addr) (file : Str) (qual : Str) (st : Stmt) : Prop where
  ex : ∃ oc od osl kV doc pm an cda ct cc, K.lookup fI = some ⟨oc, od, .func (ksFn "__init__" qual (defArgs st) (defBody st) (defScope st) .none kV doc pm an (.ref cda) ct cc), osl⟩ ∧ codeIn K (.ref cda) qual = true ∧
    (∃ ccl cdd vs ccs tf, K.lookup cda = some ⟨ccl, cdd, .fields vs, ccs⟩ ∧ vs[2]? = some (.str file tf)) ∧ ∃ cl cld csl, K.lookup cc = some ⟨cl, cld, .cell (some (.ref C)), csl⟩
/-- an error's message, told within its __init__ of the given value -/
def Msg (me : Expr) (pv : Str) (st : Stmt) (G : V → Prop) : Prop :=
  ∀ {prog : Program} {w : World} {A : Around} {E : Value → Shared → Prop} {qual : Str} {L a cc : Addr} {cd : Value} {h : Heap} {g : Array GenState} {d : Drawn} {t : Nat} {os : OsState} {m : Str → Option Value} {v : V} {u : Value} {Q : Value → Shared → Prop},
    h.Ns L m → m pv = some u → RelV v u → G v → (∀ x t1, Q x ⟨h, g, d, t1, os⟩) → wpAny (model prog w) A (eval me (ksEnv qual (defScope st) L a cd cc)) Q E ⟨h, g, d, t, os⟩
theorem msg_text {m : Str} {j : Nat} {p : Pos} {pv : Str} {st : Stmt} : Msg (.Constant (.str m) j p) pv st fun _ => True := fun _ _ _ _ k => Calls.Constant_str (k _ _)
/-- ints whose text is surely told -/
def intG (v : V) : Prop := ∃ i : Int, v = .int i ∧ i.natAbs.log2 < 1920
theorem msg_int {m : Str} {j k : Nat} {p q r z : Pos} {pv : Str} {st : Stmt} (s5 : (defScope st).kind = .function) (s4 : (defScope st).names.lookup pv = some .local) (nd : (pv == ("__debug__" : Str)) = false) (hm : m.length = k) (hk : Nat.ble k 1000 = true) :
    Msg (.JoinedStr [.Constant (.str m) j p, .FormattedValue (.Name pv q) (-1) none r] z) pv st intG := by
  intro prog w A E qual L a cc cd h g d t os mm v u Q ns hu rv hv kk
  obtain ⟨i, rfl, hi⟩ := hv
  obtain ⟨ti, rfl⟩ := rv
  have hz : m.length ≤ 1000 := hm ▸ Nat.le_of_ble_eq_true hk
  have hi2 : (Str.ofString (toString i)).length ≤ 2000 := by
    have e := int_text_length_le (k := 1920) (by decide) hi
    rw [PySem.ofString_length]
    omega
  have l0 : (Str.empty ++ m).length = m.length := by
    rw [strLen_append]
    exact Nat.zero_add _
  refine wpAny_JoinedStr ?_
  show Joins _ _ _ [eval (.Constant (.str m) j p) _, eval (.FormattedValue (.Name pv q) (-1) none r) _] _ _ _
  refine Calls.Constant_str ⟨_, _, rfl, ?_, ?_⟩
  · rw [l0, sizeLine_eq]
    omega
  refine wpAny_FormattedValue_plain (wpAny_Name (wpAny_loadName_local s5 s4 ns hu ?_) nd)
  have hl : (Str.empty ++ m ++ Str.ofString (toString i)).length ≤ sizeLine := by
    rw [strLen_append, l0, sizeLine_eq]
    omega
  exact wpAny_formatField_int hi ⟨_, _, rfl, hl, hl, kk _ _⟩
/-- the form of its __init__ -/
abbrev exCall (me : Expr) (p0 p1 p2 p4 : Pos) : Expr := .Call (.Attribute (.Call (.Name "super" p0) [] [] p1) "__init__" p2) [me] [] p4
structure ExB (pv f : Str) (st : Stmt) (me : Expr) (G : V → Prop) (p0 p1 p2 p4 p5 p6 p7 p8 p9 : Pos) : Prop where
  body : defBody st = [.Expr (exCall me p0 p1 p2 p4) p5, .Assign [.Attribute (.Name "self" p6) f p7] (.Name pv p8) p9]
  par : (((defArgs st).posonlyargs ++ (defArgs st).args).head?).map (·.arg) = some "self"
  s1 : (defScope st).names.lookup ("super" : Str) = some .globalImplicit
  s2 : (defScope st).names.lookup ("__class__" : Str) = some .free
  s3 : (defScope st).names.lookup ("self" : Str) = some .local
  s4 : (defScope st).names.lookup pv = some .local
  s5 : (defScope st).kind = .function
  s6 : ∀ x ∈ (defScope st).names, x.2 ≠ .cell
  s7 : (defScope st).isCoroutine = false
  s8 : (defScope st).isGenerator = false
  ne : (("self" : Str) == pv) = false
  nd : (pv == ("__debug__" : Str)) = false
  ia : ∀ (qual : Str) (L a : Addr) (cd : Value) (cc : Addr), interactive (ksEnv qual (defScope st) L a cd cc) = false
  sw1 : ∀ (qual : Str) (L a : Addr) (cd : Value) (cc : Addr), swapsWith (exCall me p0 p1 p2 p4) none p5.line (ksEnv qual (defScope st) L a cd cc) = pure false
  sw2 : ∀ (qual : Str) (L a : Addr) (cd : Value) (cc : Addr), swapsWith (.Name pv p8) (some (.Attribute (.Name "self" p6) f p7)) p9.line (ksEnv qual (defScope st) L a cd cc) = pure false
  ev : ∀ (qual : Str) (L a : Addr) (cd : Value) (cc : Addr), ∃ pl : Sem Bool, eval (exCall me p0 p1 p2 p4) (ksEnv qual (defScope st) L a cd cc) = (do
      let ov ← attributeBase (.Call (.Name "super" p0) [] [] p1) "__init__" (ksEnv qual (defScope st) L a cd cc) (eval (.Call (.Name "super" p0) [] [] p1) (ksEnv qual (defScope st) L a cd cc))
      standAt p2.atName
      let (f, first) ← holding [ov] (getMethod ov "__init__" pl)
      callWith p4 f first (backTo p4 (starEach [me] (ksEnv qual (defScope st) L a cd cc))) [])
  se : ∀ env : Env, starEach [me] env = (false, eval me env) :: starEach [] env
  bind : ∀ (qual : Str) (kV doc pm : Value) (an : Option Addr) (cdv ct : Value) (cc : Addr) (a u : Value), bindArgs (ksFn "__init__" qual (defArgs st) (defBody st) (defScope st) .none kV doc pm an cdv ct cc) ⟨[a, u], []⟩ = pure [(("self" : Str), a), (pv, u)]
  msg : Msg me pv st G
theorem exv_init {e t0 fI : Addr} {v : V} {u : Value} {h2 : Heap} {mg mb : Str → Option Value} {pv qual file : Str} {st : Stmt} {me : Expr} {G0 : V → Prop} {p0 p1 p2 p4 p5 p6 p7 p8 p9 : Pos} (FB : ExcBaseFacts B newId i bmB) (KF : KxsFacts B i) (SF : StoreFacts B bmB "object.__setattr__" "object") (c : ExF K C B i newId bmB f) (ci : ExI K C fI file qual st) (cb : ExB pv f st me G0 p0 p1 p2 p4 p5 p6 p7 p8 p9) (rv : RelV v u) (gv : G0 v)
    (X0 : K.In hp) (k2 : ∀ b o, hp.get? b = some o → h2.get? b = some o) (he : h2.get? e = some (excObj C t0 none .none)) (hen : hp.get? e = none) (hsz : hp.objs.size ≤ h2.objs.size) (lim : hp.NoLimit)
    (G : hp.Ns mainGlobals mg) (hgm : mg "super" = none) (Bt : hp.Ns builtinsNs mb) (hbb : mb "super" = some (.type "super")) (hfile : ((prog.main.file : Str) == file) = true) (htop : (prog.main.scope.names.lookup ("super" : Str)).isSome = false) (room : A.depth < recursionLimit)
    (hq : ∀ h' tk' dx t1, (∀ b o, hp.get? b = some o → h'.get? b = some o) → hp.objs.size ≤ dx → dx ≠ e → h'.get? e = some (excObj C t1 (some dx) .none) → h'.Ns1 dx (fun y => if y = f then some u else none) → R (.ok (.ret .none)) ⟨h', g, d, tk', os⟩) :
    codeAny (model prog w) A (.call (.ref fI) ⟨[.ref e, u], []⟩) R ⟨h2, g, d, t, os⟩ := by
  obtain ⟨oc, od, osl, kV, doc, pm, an, cda, ct, cc, lk, hcd, ⟨ccl, cdd, vs, ccs, tf, lc, hvs⟩, cl, cld, csl, lcell⟩ := ci.ex
  have hbody := cb.body
  obtain ⟨ar, har, hself⟩ := Option.map_eq_some_iff.mp cb.par
  refine ks_codeAny_call_defAt (s := ⟨h2, g, d, t, os⟩) room (k2 _ _ (X0 _ _ lk)) rfl (lim.keeps k2) (codeRec_of (X0.keeps k2) hcd) rfl (BindsTo.of_eq (cb.bind _ _ _ _ _ _ _ _ _ _)) cb.s6 (fun x hx => ?_) (fun h1 hns hk => ?_) cb.s7 cb.s8 cb.s5
  · rcases List.mem_cons.mp hx with rfl | hx
    · exact cb.s3
    · rcases List.mem_cons.mp hx with rfl | hx
      · exact cb.s4
      · cases hx
  show _root_.PySem.wpAt (model prog w) _ (.func (defBody st) (ksEnv qual (defScope st) h2.objs.size fI (.ref cda) cc)) (execs (defBody st) (ksEnv qual (defScope st) h2.objs.size fI (.ref cda) cc)) _ _ _
  have F1 : Fr hp h2.objs.size h1 (fun y => [(("self" : Str), Value.ref e), (pv, u)].reverse.lookup y) := ⟨hns, fun b o q => hk b o (k2 b o q), hsz⟩
  have N1 : News hp h2.objs.size h1 [(e, excObj C t0 none .none)] := fun p hp' => by
    rcases List.mem_cons.mp hp' with rfl | hp'
    · exact ⟨hk _ _ he, Nat.ne_of_lt (Heap.lt_size he), hen⟩
    · cases hp'
  have mself : [(("self" : Str), Value.ref e), (pv, u)].reverse.lookup ("self" : Str) = some (Value.ref e) := by
    simp only [List.reverse_cons, List.reverse_nil, List.nil_append, List.cons_append, List.lookup, cb.ne]
    rfl
  have mpv : [(("self" : Str), Value.ref e), (pv, u)].reverse.lookup pv = some u := by simp [List.lookup]
  have X1 : ∀ {h : Heap} {L : Addr} {m : Str → Option Value}, Fr hp L h m → K.In h := fun F => X0.keeps F.keep
  obtain ⟨cdC, hcC⟩ : ∃ cd, clsIn K C = some cd := by
    cases q : clsIn K C with
    | none =>
      have z := c.mr
      unfold mroIn at z
      rw [q] at z
      cases z
    | some cd => exact ⟨cd, rfl⟩
  obtain ⟨pl, hev⟩ := cb.ev qual h2.objs.size fI (.ref cda) cc
  rw [show execs (defBody st) (ksEnv qual (defScope st) h2.objs.size fI (.ref cda) cc) = execs [.Expr (exCall me p0 p1 p2 p4) p5, .Assign [.Attribute (.Name "self" p6) f p7] (.Name pv p8) p9] (ksEnv qual (defScope st) h2.objs.size fI (.ref cda) cc) from by rw [hbody]]
  refine ks_wpAt_execs_cons (ks_wpAt_Expr_any (ks_wpAt_MethodCall (pl := pl) ?_ hev) (cb.ia _ _ _ _ _) (cb.sw1 _ _ _ _ _))
  obtain ⟨oD, hD1, hD2⟩ : ∃ oD, h1.get? C = some oD ∧ oD.data = .cls cdC := by
    unfold clsIn at hcC
    split at hcC
    · rename_i ho
      cases hcC
      exact ⟨_, X1 F1 _ _ ho, rfl⟩
    · cases hcC
  have I1 : InstAt h1 e (excObj C t0 none .none) C none := ⟨(N1 _ List.mem_cons_self).1, rfl, rfl, trivial⟩
  refine ks_wpAt_super_base (env := ksEnv qual (defScope st) h2.objs.size fI (.ref cda) cc) cb.s1 cb.s2 (by decide) rfl (X1 F1 _ _ lk) rfl har rfl (X1 F1 _ _ lc) rfl hvs hfile htop ?_
  refine ks_loadName_global cb.s5 cb.s1 (Calls.loadGlobal_builtin (env := ksEnv qual (defScope st) h2.objs.size fI (.ref cda) cc) (G.keeps F1.keep) hgm (Bt.keeps F1.keep) hbb ⟨rfl, ?_⟩)
  refine wpAny_loadName_free cb.s5 cb.s2 rfl ⟨_, X1 F1 _ _ lcell, rfl⟩ ?_
  rw [hself]
  refine wpAny_loadName_local cb.s5 cb.s3 F1.ns mself ?_
  refine ks_wpAny_isType_cls hD1 hD2 ⟨rfl, ?_⟩
  refine ks_wpAny_call_super hD1 hD2 I1.at_ I1.cls (fun c e => by cases e) (looks_mroIn (X1 F1) c.mr) (fun h3 e3 k3 => ?_)
  obtain ⟨F3, N3, l3⟩ := ks_newsPush (s := ⟨h1, g, d, t + 2, os⟩) F1 N1 rfl e3 k3
  refine kxs_method (s := ⟨h3, g, d, t + 2, os⟩) KF F3 X0 N3 List.mem_cons_self (InstAt.of_exc0 N3 (.tail _ List.mem_cons_self)) c.op c.su c.sb (by decide) fun q h4 F4 N4 l4 => ?_
  refine kxs_callWith1 N4 List.mem_cons_self ?_ (cb.se _)
  rw [cb.se]
  show wpAny _ _ (spliced ((false, eval me (ksEnv qual (defScope st) h2.objs.size fI (.ref cda) cc)) :: backTo p4 (starEach [] (ksEnv qual (defScope st) h2.objs.size fI (.ref cda) cc)))) _ _ _
  refine Calls.spliced_cons (cb.msg F4.ns mpv rv gv fun x t1 => ?_)
  refine Calls.spliced_nil ⟨kxs_at N4 List.mem_cons_self, ?_⟩
  have ne1 : ∀ p ∈ [(e, excObj C t0 none .none)], p.1 < h1.objs.size := l3
  have lse : e < h1.objs.size := ne1 _ List.mem_cons_self
  have lq : h1.objs.size < q := l4 _ List.mem_cons_self
  have U : UpdF e (excObj C t0 none .none) [(q, kxs_mw i e), (h1.objs.size, ks_superObj C e C), (e, excObj C t0 none .none)] (fun o' => (q, kxs_mw i e) :: (h1.objs.size, ks_superObj C e C) :: (e, o') :: []) :=
    .tail (Nat.ne_of_gt (Nat.lt_trans lse lq)) (.tail (Nat.ne_of_gt lse) (.head fun p hp' => by cases hp'))
  refine kxs_call (s := ⟨h4, g, d, t1, os⟩) F4 X0 N4 FB c.q List.mem_cons_self U (by show 1 ≤ sizeLine; decide) fun t1 h5 F5 N5 l5 => ?_
  show _root_.PySem.wpAt _ _ _ (execs [.Assign [.Attribute (.Name "self" p6) f p7] (.Name pv p8) p9] (ksEnv qual (defScope st) h2.objs.size fI (.ref cda) cc)) _ _ _
  refine ks_wpAt_execs_cons (ks_wpAt_Assign_Attr ?_ (cb.sw2 _ _ _ _ _))
  refine wpAt_of_wpAny (wpAny_Name (wpAny_loadName_local cb.s5 cb.s4 F5.ns mpv ?_) cb.nd)
  refine wpAny_Name (wpAny_loadName_local cb.s5 cb.s3 F5.ns mself ?_) (by decide)
  have he5 : h5.get? e = some (excObj C t1 none .none) := (N5 (e, excObj C t1 none .none) (by simp)).1
  refine set_plain (od := none) (X1 F5) ⟨he5, rfl, rfl, trivial⟩ c.sa (exv_store SF c (X1 F5) he5 fun h6 tk6 dx k6 ld hx6 n6 => ?_)
  refine wpAt_of_wpAny (wpAny_execs_nil ?_)
  refine hq h6 tk6 dx t1 (fun b o z => k6 b o (fun y => by rw [y, hen] at z; cases z) (F5.keep b o z)) ?_ ?_ hx6 n6
  · exact Nat.le_trans (Nat.le_trans hsz (Nat.le_of_lt F5.ns.lt)) ld
  · exact fun z => Nat.lt_irrefl _ (Nat.lt_of_lt_of_le (Heap.lt_size he5) (z ▸ ld))
end
section
variable {X : Cx} {T : List (Addr × Str)} {E : XK} {k : Nat} {C : Addr} {B i newId : String} {bmB : List Value} {f : Str}
/-- x(e), x such a class -/
theorem pmk_exv {x : Str} {e : Expr} {te : TE} {fI : Addr} {pv qual file : Str} {st : Stmt} {me : Expr} {G0 : V → Prop} {p0 p1 p2 p4 p5 p6 p7 p8 p9 p pos : Pos} (FB : ExcBaseFacts B newId i bmB) (KF : KxsFacts B i) (SF : StoreFacts B bmB "object.__setattr__" "object") (c : ExF X.K C B i newId bmB f) (ci : ExI X.K C fI file qual st)
    (cb : ExB pv f st me G0 p0 p1 p2 p4 p5 p6 p7 p8 p9) (iC : findIn X.K (.ref C) "__init__" = some (some (.ref fI))) (tI : typeIn X.K (.ref fI) = some (.type "function")) (hfile : ((X.prog.main.file : Str) == file) = true) (htop : (X.prog.main.scope.names.lookup ("super" : Str)).isSome = false)
    (hsup : X.mg "super" = none) (hm : X.mg x = some (.ref C)) (room : Room (k + 1) X.A) (he : PE X e te) (hg : Gl X x) (hdb : (x == ("__debug__" : Str)) = false) (hs : starEach [e] X.env = (false, eval e X.env) :: starEach [] X.env) :
    PMk X (.Call (.Name x p) [e] [] pos) (fun σ H Q => te σ H fun v H1 => G0 v ∧ ∀ dx, H1 dx = none → Q (.ref C) (some dx) (upd H1 dx (.xd [(f, v)]))) := by
  intro pins s σ H Q I h
  apply wpAny_Call_Name_kw
  apply ld_glob I hg hm _ hdb
  apply callWith_K I.ok.mod.kin c.k _ hs rfl
  rw [hs]
  apply Calls.spliced_cons
  apply thn (he.run pins s σ H _ I h)
  rintro u s1 ⟨v, H1, I1, r1, gv, q1⟩
  apply Calls.spliced_nil
  refine ⟨I1.kIn, ?_⟩
  obtain ⟨nm, N, qn, bs, bm, hdct, sn, sub, ab, col, dd, k0, k1, k2, k3, k5, hC, hT⟩ := excInit_of I1.kIn c.q
  obtain ⟨mb, hbn, hbb⟩ := I1.ok.mod.blt
  have hA := room.make C [u] []
  have I1' := I1
  obtain ⟨hp, g, dr, tk, os⟩ := s1
  refine wpAny_call (HandSPX.call_own FB hT hC (looks_findIn I1.kIn iC) (fun self => bind_fn I1.kIn self tI) (by show 1 ≤ sizeLine; decide) ?_)
  refine exv_init (hp := hp) (t0 := hp.objs.size) FB KF SF c ci cb r1 gv I1.kIn (fun b o z => Heap.get?_push_of_some _ (Heap.get?_push_of_some _ z)) (by heap_get) ?_ ?_ I1.nolimit (I1.mod.glob.keeps I1.bk) hsup (hbn.keeps I1.bk) ?_ hfile htop hA.depth fun h' tk' dx t1 kp ld nd hx hn => ?_
  · cases z : hp.get? (hp.objs.size + 1) with
    | none => rfl
    | some o => exact absurd (Heap.lt_size z) (Nat.not_lt.mpr (Nat.le_succ _))
  · rw [Heap.size_push, Heap.size_push]
    omega
  · rw [hbb _ (by decide)]
    decide +kernel
  · obtain ⟨G, g1, g2⟩ := restrict h' fun b => decide (b ≠ hp.objs.size + 1)
    have gk : ∀ b, b ≠ hp.objs.size + 1 → G.get? b = h'.get? b := fun b hb => g1 b (decide_eq_true hb)
    have ge : G.get? (hp.objs.size + 1) = none := g2 _ (by simp)
    have hd : hp.get? dx = none := by
      cases z : hp.get? dx with
      | none => rfl
      | some o => exact absurd (Heap.lt_size z) (Nat.not_lt.mpr ld)
    have hn1 : H1 dx = none := I1.hok.fresh ld
    have hna : H1 (hp.objs.size + 1) = none := I1.hok.fresh (Nat.le_succ _)
    have J := I1.laidN (h' := G) (t' := tk') (a := dx) (o := .xd [(f, v)]) (fun b o z => by
      rw [gk b (Nat.ne_of_lt (Nat.lt_succ_of_lt (Heap.lt_size z)))]
      exact kp b o z) hd hn1 ⟨_, hn.at fun o z => (gk dx nd).trans z, relO_put (fs := []) r1 fun _ => True.intro⟩
    refine ⟨rfl, ⟨hp.objs.size + 1, _, _, _, _, .ref C, some dx, rfl, J, fun b o z => ?_, ge, hx, ⟨rfl, rfl⟩, rfl, rfl, ?_, rfl, I1.bare, raises_own c.b c.t, q1 dx hn1⟩⟩
    · by_cases hb : b = hp.objs.size + 1
      · have z' : G.get? b = some o := z
        rw [hb, ge] at z'
        cases z'
      · exact (gk b hb).symm.trans z
    · rw [upd_ne (Ne.symm nd)]
      exact hna
def sRaiseV (C f : Str) (e : W D) : WS := fun pe env => e env (fun d _ => pe.ex ⟨C, [(f, d)]⟩) pe.ex
/-- an error whose message tells an int -/
def sRaiseI (C f : Str) (e : W D) : WS := fun pe env => e env (fun d _ => (∃ i : Int, d = .int i ∧ i.natAbs.log2 < 1920) ∧ pe.ex ⟨C, [(f, d)]⟩) pe.ex
/-- what the written part says of such a class, by its name -/
structure ExVG (P : Program) (K : Frag) (mg : Str → Option Value) (C f : Str) (G : V → Prop) : Prop where
  ex : ∃ B i newId bmB fI file qual pv st me p0 p1 p2 p4 p5 p6 p7 p8 p9, ExcBaseFacts B newId i bmB ∧ KxsFacts B i ∧ StoreFacts B bmB "object.__setattr__" "object" ∧ ExF K (He.ga K C) B i newId bmB f ∧ ExI K (He.ga K C) fI file qual st ∧ ExB pv f st me G p0 p1 p2 p4 p5 p6 p7 p8 p9 ∧
    findIn K (.ref (He.ga K C)) "__init__" = some (some (.ref fI)) ∧ typeIn K (.ref fI) = some (.type "function") ∧ ((P.main.file : Str) == file) = true
  top : (P.main.scope.names.lookup ("super" : Str)).isSome = false
  sup : mg "super" = none
  g : mg C = some (.ref (He.ga K C))
abbrev ExV (P : Program) (K : Frag) (mg : Str → Option Value) (C f : Str) : Prop := ExVG P K mg C f fun _ => True
abbrev ExVI (P : Program) (K : Frag) (mg : Str → Option Value) (C f : Str) : Prop := ExVG P K mg C f intG
theorem js_raiseG {C : Str} {e : Expr} {w : W D} {p pos pos' : Pos} {G0 : V → Prop} {GD : D → Prop} (hG : ∀ {d : D} {wd : Wd} {v : V}, GD d → Rep X.K wd v d → G0 v) (B : Bd X E k) (tk : Takes X (fun cls d _ H => E cls d H)) (c : ExVG X.prog X.K X.mg C f G0) (he : JE T X E e w) (hk : 1 ≤ k) (hg : Gl X C) (hd : (C == ("__debug__" : Str)) = false)
    (hs : starEach [e] X.env = (false, eval e X.env) :: starEach [] X.env) : JS T X E (.Raise (some (.Call (.Name C p) [e] [] pos)) none pos') (fun pe env => w env (fun d _ => GD d ∧ pe.ex ⟨C, [(f, d)]⟩) pe.ex) := by
  obtain ⟨Bs, i, newId, bmB, fI, file, qual, pv, st, me, p0, p1, p2, p4, p5, p6, p7, p8, p9, c1, c2, c3, c4, c5, c6, c7, c8, c9⟩ := c.ex
  refine psI (ps_raise B.calm tk (pmk_exv (k := 0) c1 c2 c3 c4 c5 c6 c7 c8 c9 c.top c.sup c.g (B.room.mono hk) he hg hd hs)) fun D σ H ⟨cc, wd, env, pe, r, h, o⟩ => ?_
  refine ⟨cc, wd, env, _, _, r, h, o.ex, fun d env' hx v wd1 H1 le1 r1 rp1 => ⟨hG hx.1 rp1, fun dx hdx => ?_⟩⟩
  have gr : Grow wd1 H1 (wd1.add dx (.xd [(f, v)])) (upd H1 dx (.xd [(f, v)])) := Grow.one hdx (fun _ z => nomatch z) trivial
  have r2 := r1.grow gr
  refine o.ex _ hx.2 _ _ _ _ r2.ord r2.good r2.keep ⟨rfl, .inr ⟨dx, [(f, v)], rfl, upd_same .., rfl, .cons (rp1.mono (gr.le r1.good)) .nil⟩⟩
theorem js_raiseV {C : Str} {e : Expr} {w : W D} {p pos pos' : Pos} (B : Bd X E k) (tk : Takes X (fun cls d _ H => E cls d H)) (c : ExV X.prog X.K X.mg C f) (he : JE T X E e w) (hk : 1 ≤ k := by decide) (hg : Gl X C := by rfl) (hd : (C == ("__debug__" : Str)) = false := by decide)
    (hs : starEach [e] X.env = (false, eval e X.env) :: starEach [] X.env := by rfl) : JS T X E (.Raise (some (.Call (.Name C p) [e] [] pos)) none pos') (sRaiseV C f w) := by
  have z := js_raiseG (GD := fun _ => True) (pos := pos) (pos' := pos') (p := p) (fun _ _ => trivial) B tk c he hk hg hd hs
  simp only [true_and] at z
  exact z
theorem js_raiseI {C : Str} {e : Expr} {w : W D} {p pos pos' : Pos} (B : Bd X E k) (tk : Takes X (fun cls d _ H => E cls d H)) (c : ExVI X.prog X.K X.mg C f) (he : JE T X E e w) (hk : 1 ≤ k := by decide) (hg : Gl X C := by rfl) (hd : (C == ("__debug__" : Str)) = false := by decide)
    (hs : starEach [e] X.env = (false, eval e X.env) :: starEach [] X.env := by rfl) : JS T X E (.Raise (some (.Call (.Name C p) [e] [] pos)) none pos') (sRaiseI C f w) := by
  refine js_raiseG (fun hx r => ?_) B tk c he hk hg hd hs
  obtain ⟨i, rfl, hi⟩ := hx
  cases r
  exact ⟨i, rfl, hi⟩
end
end Pd

namespace Pd
open PySem PySem.Spec PyProof.Rows L2 LamX
/-! ### the end of a law without lambdas -/
theorem hasD_of {fa : List He.Fa} {fn : List He.DefD} {K : PySem.W.Frag} {h : Heap} {mg : Str → Option Value} (X : K.In h) (G : h.Ns mainGlobals mg) (c : He.SaysD fa fn K) {x : Str} {st : Stmt} (i j : Nat)
    (hi : fa[i]? = some (.glo x)) (hj : fn[j]? = some ⟨(x, none), x, x, defArgs st, defBody st, defScope st, [], []⟩) : HasD K mg x st := by
  obtain ⟨fd, F⟩ := c.def_ j hj
  exact ⟨He.ga K x, fd, F, He.glo_ok X G (c.fact i hi)⟩
theorem cx_no {P : Program} {w : World} {outer : List Env} {H : Hp} {s : Shared} {e : Value} {s' : Shared} (h : L2.CX P w outer H s (fun _ _ _ => False) e s') : False := by
  obtain ⟨_, _, _, _, _, _, _, _, _, _, _, _, z⟩ := h
  exact z
theorem fn_quiet {P : Program} {w : World} {K : PySem.W.Frag} {mg : Str → Option Value} {base : Heap} {k : Nat} {f : Addr} {fd : FuncData} {ps : List Str} {sp : Sp} (F : FnOk P w K mg base (L2.CX P w) k f fd ps sp) :
    FnOk P w K mg base C8.CX0 k f fd ps (fun vs H Q _ => sp vs H Q fun _ _ _ => False) := by
  refine ⟨fun vs H Q E h => F.len _ _ _ _ h, fun A outer s H args us vs Q E hr he hb hv h => ?_⟩
  refine codeAny_mono (F.run A outer s H args us vs Q _ hr he hb hv h) fun r s' q => ?_
  cases r with
  | error e => exact (cx_no q).elim
  | ok fl => cases fl <;> exact q
theorem good_start {K : PySem.W.Frag} {H : Hp} {a : Addr} {ns : List Int} (hl : ns.length ≤ sizeLine) (O : Only H) (h : SqL K H a (ns.map V.int)) : ∃ wd : Wd, Good [] wd H ∧ Rep K wd (.ref a) (.scr ns) := by
  have siz : ∀ b o, H b = some o → SizedH o := fun b o e => by
    rcases O b with z | ⟨u, xs, z⟩
    · rw [z] at e; cases e
    · rw [z] at e; cases e; exact trivial
  have key : ∀ o, H a = some o → noTb o → Sized o → Good [] ⟨fun b => if b = a then some o else none, []⟩ H := fun o e t z => by
    refine ⟨fun b u q => ?_, fun b u q => ?_, fun b hb => absurd hb (by simp), fun q hq => absurd hq (by simp), siz⟩
    · by_cases hb : b = a
      · rw [hb] at q ⊢
        have q' : some o = some u := by simpa using q
        rw [← q', e]
      · have q' : (none : Option HO) = some u := by simpa [hb] using q
        cases q'
    · by_cases hb : b = a
      · have q' : some o = some u := by simpa [hb] using q
        cases q'
        exact ⟨t, z⟩
      · have q' : (none : Option HO) = some u := by simpa [hb] using q
        cases q'
  have hl' : (ns.map V.int).length ≤ sizeLine := by rw [List.length_map]; exact hl
  rcases h with (h | ⟨o, h⟩) | h
  · exact ⟨_, key _ h noTb_lst hl', .scr (.inl (.inl (by simp)))⟩
  · exact ⟨_, key _ h (fun _ z => nomatch z) hl', .scr (.inl (.inr ⟨o, by simp⟩))⟩
  · refine ⟨⟨fun _ => none, []⟩, ⟨fun b u q => (nomatch q), fun b u q => (nomatch q), fun b hb => absurd hb (by simp), fun q hq => absurd hq (by simp), siz⟩, .scr (.inr h)⟩
theorem law_end {l : PySem.W.OpenLaw} {k : Nat} {q : Program} {loose : List Str} {XP : (Str → Option Value) → Heap → Prop} {d : DefRec} {x : Str} {fa : List He.Fa} {fn : List He.DefD} {ts : List He.Tab} {tf : List He.Defn} {ex : PySem.W.Frag → Bool} {n : Nat} {st : Stmt} {F : Fn}
    (hn : l.most = some 63) (hdf : d.params.defaults = []) (hr : Room k callerA) (hname : d.name = "law")
    (hd : ∀ (w : World) (K : PySem.W.Frag) (mg : Str → Option Value) (h base : Heap), K.In h → h.Ns mainGlobals mg → He.SaysX fa fn ts tf ex w h K → HasD K mg "law" st ∧ DefOk l.prog w K mg base [] "law" k [x] F)
    (hb : ∀ (K : PySem.W.Frag) (f : Addr) (fd : FuncData), FunD K "law" "law" (defArgs st) (defBody st) (defScope st) [] [] f fd → ∀ (s : Shared) (u : Value), BindsTo s fd ⟨[u], []⟩ [(x, u)])
    (law : ∀ ns : List Int, ns.length ≤ 63 → F [.scr ns] (fun v => v = .bl true) (fun _ => False)) :
    PySem.W.WalkO q loose XP (He.hookX n fa fn ts tf ex).says l.row.toRowW d [] (fun f vs => PySem.call f vs) := by
  refine L2.walk_ofE (l := l) (n := 63) (k := k) (x := x) (CX := C8.CX0) hn (by decide) hdf hr ?_ (fun _ _ _ _ z => z)
  intro w mg f h Y G hmg0
  obtain ⟨K, KX, c⟩ := Y
  rw [hname] at hmg0
  obtain ⟨⟨f', fd, D, gm⟩, _⟩ := hd w K mg h h KX G c
  rw [gm] at hmg0
  cases hmg0
  refine ⟨K, fd, fun vs H Q _ => spec K [] F vs H Q fun _ _ _ => False, KX, hb K _ fd D, fun H a ns hl O hS => ?_, fun base KB GB => ?_⟩
  · obtain ⟨wd, g, r⟩ := good_start (Nat.le_trans hl (by decide)) O hS
    refine ⟨wd, [.scr ns], _, _, g, .cons r .nil, law ns hl, fun x hx => hx.elim, fun d hd v wd' H' _ _ _ rp => ?_⟩
    rw [hd] at rp
    cases rp
    rfl
  · obtain ⟨_, ⟨f2, fd2, g1, g2, g3, g4, oc2, od2, osl2, lk2⟩⟩ := hd w K mg h base KX G c
    rw [gm] at g1
    cases g1
    have e : fd2 = fd := by
      obtain ⟨oc, od, dV, kV, doc, pm, an, cdv, ct, osl, _, lk, _⟩ := D.ex
      rw [lk] at lk2
      cases lk2
      rfl
    rw [e] at g4
    exact fn_quiet g4
/-! ### the end where properties and classmethods are told too -/
structure SaysY (fa : List He.Fa) (fn : List He.DefD) (fb : List He5.DefA) (ex : PySem.W.Frag → Bool) (K : PySem.W.Frag) : Prop where
  d : He.SaysD fa fn K
  a : He5.SaysA [] fb K
  x : ex K = true
def obsY (n : Nat) (fa : List He.Fa) (fn : List He.DefD) (fb : List He5.DefA) (ex : PySem.W.Frag → Bool) (g : Addr → Option Obj) : He.AlD × He.AlD × Bool :=
  (He.obsD fa fn (He.frG g (He5.asA g n)), He5.obsA [] fb (He.frG g (He5.asA g n)), ex (He.frG g (He5.asA g n)))
def valY (fn : List He.DefD) (fb : List He5.DefA) : He.AlD × He.AlD × Bool := (He.valD fn, He5.valA fb, true)
def hookY (n : Nat) (fa : List He.Fa) (fn : List He.DefD) (fb : List He5.DefA) (ex : PySem.W.Frag → Bool) : PySem.W.Hook where
  α := He.AlD × He.AlD × Bool
  obs := fun s => obsY n fa fn fb ex s.heap.get?
  val := fun _ => valY fn fb
  says := fun _ h => ∃ K : PySem.W.Frag, K.In h ∧ SaysY fa fn fb ex K
  of := fun _ _ e => ⟨_, He.frG_in, ⟨congrArg (fun z : He.AlD × He.AlD × Bool => z.1) e, congrArg (fun z : He.AlD × He.AlD × Bool => z.2.1) e, congrArg (fun z : He.AlD × He.AlD × Bool => z.2.2) e⟩⟩
  keeps := fun _ _ _ ⟨K, hK, c⟩ k => ⟨K, PySem.W.Frag.In.keeps hK k, c⟩
theorem obsY_eq {n : Nat} {fa : List He.Fa} {fn : List He.DefD} {fb : List He5.DefA} {ex : PySem.W.Frag → Bool} {g : Addr → Option Obj} {s : Shared} (h : ∀ a, g a = s.heap.get? a) : obsY n fa fn fb ex g = (hookY n fa fn fb ex).obs s := by
  have e : g = s.heap.get? := funext h
  rw [e] <;> rfl
/-- a property, looked at -/
def propB (K : PySem.W.Frag) (C f : Str) : Bool := (decide (PySem.W.findIn K (.ref (He.ga K C)) f = some (some (.ref (He.ma K (He.ga K C) f)))) && decide (PySem.W.specialIn K (.ref (He.ma K (He.ga K C) f)) "__get__" = some (some (.builtin "property.__get__")))) && (decide (PySem.W.takesIn K (.ref (He.ma K (He.ga K C) f)) = some true) && (match PySem.W.recIn K (He.ma K (He.ga K C) f) "property" with
  | some (.ref _ :: _) => true
  | _ => false))
theorem propB_ok {K : PySem.W.Frag} {C f : Str} (h : propB K C f = true) : PropOf K (He.ga K C) f (He.ma K (He.ga K C) f) (He5.wf K (He.ga K C) "property" f) := by
  unfold propB at h
  rw [Bool.and_eq_true, Bool.and_eq_true, Bool.and_eq_true] at h
  obtain ⟨⟨h1, h2⟩, h3, h4⟩ := h
  refine ⟨of_decide_eq_true h1, of_decide_eq_true h2, of_decide_eq_true h3, ?_⟩
  unfold He5.wf
  split at h4
  · rename_i g r e
    exact ⟨r, by rw [e]⟩
  · cases h4
theorem hasA_of {K : PySem.W.Frag} {fa : List He.Fa} {fb : List He5.DefA} (c : He5.SaysA fa fb K) {a : PySem.W.Frag → Addr} {name qual : Str} {st : Stmt} (i : Nat) (h : fb[i]? = some ⟨a, name, qual, defArgs st, defBody st, defScope st, [], []⟩) : HasA K (a K) name qual st := c.def_ i h
theorem hasM_of {K : PySem.W.Frag} {fa : List He.Fa} {fn : List He.DefD} (c : He.SaysD fa fn K) {C m qual : Str} {st : Stmt} (i : Nat) (h : fn[i]? = some ⟨(C, some m), m, qual, defArgs st, defBody st, defScope st, [], []⟩) : HasA K (He.ma K (He.ga K C) m) m qual st := c.def_ i h
theorem law_endY {l : PySem.W.OpenLaw} {k : Nat} {q : Program} {loose : List Str} {XP : (Str → Option Value) → Heap → Prop} {d : DefRec} {x : Str} {fa : List He.Fa} {fn : List He.DefD} {fb : List He5.DefA} {ex : PySem.W.Frag → Bool} {n : Nat} {st : Stmt} {F : Fn}
    (hn : l.most = some 63) (hdf : d.params.defaults = []) (hr : Room k callerA) (hname : d.name = "law")
    (hd : ∀ (w : World) (K : PySem.W.Frag) (mg : Str → Option Value) (h base : Heap), K.In h → h.Ns mainGlobals mg → SaysY fa fn fb ex K → HasD K mg "law" st ∧ DefOk l.prog w K mg base [] "law" k [x] F)
    (hb : ∀ (K : PySem.W.Frag) (f : Addr) (fd : FuncData), FunD K "law" "law" (defArgs st) (defBody st) (defScope st) [] [] f fd → ∀ (s : Shared) (u : Value), BindsTo s fd ⟨[u], []⟩ [(x, u)])
    (law : ∀ ns : List Int, ns.length ≤ 63 → F [.scr ns] (fun v => v = .bl true) (fun _ => False)) :
    PySem.W.WalkO q loose XP (hookY n fa fn fb ex).says l.row.toRowW d [] (fun f vs => PySem.call f vs) := by
  refine L2.walk_ofE (l := l) (n := 63) (k := k) (x := x) (CX := C8.CX0) hn (by decide) hdf hr ?_ (fun _ _ _ _ z => z)
  intro w mg f h Y G hmg0
  obtain ⟨K, KX, c⟩ := Y
  rw [hname] at hmg0
  obtain ⟨⟨f', fd, D, gm⟩, _⟩ := hd w K mg h h KX G c
  rw [gm] at hmg0
  cases hmg0
  refine ⟨K, fd, fun vs H Q _ => spec K [] F vs H Q fun _ _ _ => False, KX, hb K _ fd D, fun H a ns hl O hS => ?_, fun base KB GB => ?_⟩
  · obtain ⟨wd, g, r⟩ := good_start (Nat.le_trans hl (by decide)) O hS
    refine ⟨wd, [.scr ns], _, _, g, .cons r .nil, law ns hl, fun x hx => hx.elim, fun d hd v wd' H' _ _ _ rp => ?_⟩
    rw [hd] at rp
    cases rp
    rfl
  · obtain ⟨_, ⟨f2, fd2, g1, g2, g3, g4, oc2, od2, osl2, lk2⟩⟩ := hd w K mg h base KX G c
    rw [gm] at g1
    cases g1
    have e : fd2 = fd := by
      obtain ⟨oc, od, dV, kV, doc, pm, an, cdv, ct, osl, _, lk, _⟩ := D.ex
      rw [lk] at lk2
      cases lk2
      rfl
    rw [e] at g4
    exact fn_quiet g4
end Pd

namespace Pd
open PySem PySem.Spec PyProof.Rows L2 LamX
/-! ### the end of a law with lambdas, and with texts of data -/
section
variable {P : Program} {w : World} {K : PySem.W.Frag} {mg mb : Str → Option Value} {k : Nat} {fa a : Addr} {cs : List (Addr × Addr)} {fd : FuncData} {x : Str} {sp : Sp} {s : Shared} {us : List Value}
/-- what the head leaves -/
structure Top0 (K : PySem.W.Frag) (mg mb : Str → Option Value) (cs : List (Addr × Addr)) (s : Shared) : Prop where
  kin : K.In s.heap
  glo : s.heap.Ns mainGlobals mg
  blt : s.heap.Ns builtinsNs mb
  bbb : ∀ y : Str, y ≠ "__name__" → mb y = bootBuiltins y
  lim : s.heap.NoLimit
  gen : s.gens = #[]
  tab : ∀ p ∈ cs, s.heap.get? p.2 = some { cls := .none, data := .fields #[] }
  out : ∀ p ∈ cs, K.lookup p.2 = none
  hdr : ∀ p ∈ cs, PySem.W.CodeHd s.heap p.1 p.2
  bmn : ∃ (bm : Addr) (ob : Obj), mg "__builtins__" = some (.ref bm) ∧ bm ≠ builtinsNs ∧ s.heap.get? bm = some ob ∧ ob.cls = .type "module" ∧ ob.dict = some builtinsNs ∧ ob.data = .plain
/-- what may be tracked at the start -/
structure Start0 (K : PySem.W.Frag) (cs : List (Addr × Addr)) (a : Addr) (H : Hp) : Prop where
  t : ∀ p ∈ cs, H p.2 = some (.tbl #[])
  o : ∀ b u, H b = some u → (b ∈ cs.map (·.2) ∧ u = .tbl #[]) ∨ (b = a ∧ K.lookup a = none ∧ ∃ ob xs, u = .frz ob (.lst xs))
/-- behind the call: the tables may have grown, all else is as it was -/
theorem left_behind {H G : Hp} {h' : Heap} (Z : Top0 K mg mb cs s) (S : Start0 K cs a H) (hok : HOk P w H s.heap) (un : Un (frs []) [] H G s.heap h') (ok : HOk P w G h') : OldK s.heap h' := by
  have table : ∀ p ∈ cs, ∃ more : Array Value, h'.get? p.2 = some { cls := .none, data := .fields more } := fun p hp => by
    obtain ⟨_, known⟩ := un.tbls p.2 #[] (S.t p hp)
    exact ⟨_, ok _ _ known⟩
  have other : ∀ b o, (¬ ∃ p ∈ cs, p.2 = b) → s.heap.get? b = some o → h'.get? b = some o := fun b o no e => by
    cases known : H b with
    | none => exact un.keep b o e known (by simp [frs]) (by simp)
    | some u =>
      rcases S.o b u known with ⟨hb, _⟩ | ⟨_, _, ob, xs, rfl⟩
      · exact (no (by simpa using hb)).elim
      · have before := (hok b _ known).1
        have after := (ok b _ (un.frzs b ob _ known)).1
        exact Option.some.inj (e.symm.trans before) ▸ after
  constructor
  · intro b o e
    by_cases is : ∃ p ∈ cs, p.2 = b
    · obtain ⟨p, hp, rfl⟩ := is
      obtain ⟨more, now⟩ := table p hp
      obtain rfl := Option.some.inj ((Z.tab p hp).symm.trans e)
      exact .inr (.inl ⟨((Z.hdr p hp).tab e).isCodeTable, rfl, #[], more, rfl, by simpa using now⟩)
    · exact .inl (other b o is e)
  · intro b o e
    by_cases is : ∃ p ∈ cs, p.2 = b
    · obtain ⟨p, hp, rfl⟩ := is
      obtain ⟨_, now⟩ := table p hp
      exact ⟨_, now⟩
    · exact ⟨o, other b o is e⟩
theorem core_callG (Z : Top0 K mg mb cs s) (ha : s.heap.get? a = some { cls := .type "list", data := .seq us.toArray }) (hr : Room k callerA) (F : ∀ base : Heap, K.In base → base.Ns mainGlobals mg → (∀ p ∈ cs, TabB base mg p.1 p.2) → FnG P w K mg base k fa fd [x] sp)
    (hbind : ∀ (s : Shared) (u : Value), BindsTo s fd ⟨[u], []⟩ [(x, u)]) {H : Hp} (S : Start0 K cs a H) (hok : HOk P w H s.heap) (hsp : sp [.ref a] H (fun v _ => v = .bl true) fun _ _ _ => False) :
    codeAny (model P w) callerA (.call (.ref fa) ⟨[.ref a], []⟩) (fun r s' => r = .ok (.ret (.bool true)) ∧ OldK s.heap s'.heap ∧ s'.os = s.os ∧ AllBare s'.gens) s := by
  have tabAt : ∀ {b : Addr}, b ∈ cs.map (·.2) → s.heap.get? b = some { cls := .none, data := .fields #[] } := fun {b} hb => by
    obtain ⟨p, hp, rfl⟩ := List.mem_map.mp hb
    exact Z.tab p hp
  have free : ∀ {b : Addr} {o : Obj}, s.heap.get? b = some o → (∀ xs n, o.data ≠ .seq xs n) → o.data ≠ .fields #[] → H b = none := fun {b o} e h1 h2 => by
    cases q : H b with
    | none => rfl
    | some u =>
      rcases S.o b u q with ⟨hb, _⟩ | ⟨rfl, _⟩
      · have z := (tabAt hb).symm.trans e
        cases z
        exact absurd rfl h2
      · have z := ha.symm.trans e
        cases z
        exact absurd rfl (h1 _ _)
  have base : ∀ {b : Addr} {o : Obj}, s.heap.get? b = some o → (∀ xs n, o.data ≠ .seq xs n) → o.data ≠ .fields #[] → (hidT s.heap H).get? b = some o := fun e h1 h2 => hidT_get e (free e h1 h2)
  have nsB : ∀ {b : Addr} {m : Str → Option Value}, s.heap.Ns b m → (hidT s.heap H).Ns b m := fun {b m} ⟨o, es, ep, e, dd, r⟩ =>
    ⟨o, es, ep, base e (fun xs n z => by rw [dd] at z; cases z) (fun z => by rw [dd] at z; cases z), dd, r⟩
  have kB : K.In (hidT s.heap H) := fun b o e => hidT_get (Z.kin b o e) (by
    cases q : H b with
    | none => rfl
    | some u =>
      rcases S.o b u q with ⟨hb, _⟩ | ⟨rfl, hk, _⟩
      · obtain ⟨p, hp, rfl⟩ := List.mem_map.mp hb
        rw [Z.out p hp] at e
        cases e
      · rw [hk] at e
        cases e)
  have mB : L2.Mod K mg (hidT s.heap H) := by
    obtain ⟨mc, h1, h2⟩ := Z.lim
    exact ⟨kB, nsB Z.glo, ⟨mb, nsB Z.blt, Z.bbb⟩, ⟨mc, nsB h1, h2⟩⟩
  have tB : ∀ p ∈ cs, TabB (hidT s.heap H) mg p.1 p.2 := fun p hp => by
    refine ⟨?_, ?_, fun z => ?_⟩
    · obtain ⟨o, vs, file, tf, fl, tg, inF, tx, tt, e1, c1, c2, c3, c4⟩ := Z.hdr p hp
      exact ⟨o, vs, file, tf, fl, tg, inF, tx, tt, base e1 (fun xs n z => by rw [c2] at z; cases z) (fun z => by rw [c2] at z; cases z; simp at c3), c1, c2, c3, c4⟩
    · obtain ⟨bm, ob, b1, b2, b3, b4, b5, b6⟩ := Z.bmn
      refine ⟨bm, ob, b1, b2, fun q => ?_, fun q => ?_, base b3 (fun xs n z => by rw [b6] at z; cases z) (fun z => by rw [b6] at z; cases z), b4, b5, b6⟩
      · obtain ⟨o, es, ep, e, dd, _⟩ := Z.glo
        rw [← q, b3] at e
        cases e
        rw [b6] at dd
        cases dd
      · rw [q, Z.tab p hp] at b3
        cases b3
        cases b6
    · obtain ⟨o, es, ep, e, dd, _⟩ := Z.glo
      rw [z, Z.tab p hp] at e
      cases e
      cases dd
  have e0 : Env0 P w K mg (hidT s.heap H) callerA [] s H := by
    refine ⟨rfl, mB, fun b o e => of_hidT e, Nat.le_of_eq (hidT_size _ _), trivial, fun b hb => ?_, hok, .of_eq Z.gen⟩
    cases (show b ∈ ([] : List Addr) from hb)
  refine codeAny_mono ((F _ kB (nsB Z.glo) tB).go callerA [] s H ⟨[.ref a], []⟩ [.ref a] [.ref a] _ _ rfl hr e0 (hbind s (.ref a)) (.cons rfl .nil) hsp) fun r s' h => ?_
  rcases r with e | fl
  · exact (cx_no h).elim
  cases fl with
  | ret u =>
    obtain ⟨v, H', os, bare, un, hok', rv, q⟩ := h
    have q : v = .bl true := q
    subst q
    obtain rfl : u = Value.bool true := rv
    exact ⟨rfl, left_behind Z S hok un hok', os, bare⟩
  | _ => exact False.elim h
theorem law_callG {ns : List Int} (Z : Top0 K mg mb cs s) (ha : s.heap.get? a = some { cls := .type "list", data := .seq us.toArray }) (hi : IntsAre us ns) (hl : ns.length ≤ sizeLine) (hr : Room k callerA)
    (F : ∀ base : Heap, K.In base → base.Ns mainGlobals mg → (∀ p ∈ cs, TabB base mg p.1 p.2) → FnG P w K mg base k fa fd [x] sp) (hbind : ∀ (s : Shared) (u : Value), BindsTo s fd ⟨[u], []⟩ [(x, u)])
    (hsp : ∀ H : Hp, Start0 K cs a H → SqL K H a (ns.map V.int) → sp [.ref a] H (fun v _ => v = .bl true) fun _ _ _ => False) :
    codeAny (model P w) callerA (.call (.ref fa) ⟨[.ref a], []⟩) (fun r s' => r = .ok (.ret (.bool true)) ∧ OldK s.heap s'.heap ∧ s'.os = s.os ∧ AllBare s'.gens) s := by
  have rv := vals_ints hi
  have aT : a ∉ cs.map (·.2) := fun z => by
    obtain ⟨p, hp, e⟩ := List.mem_map.mp z
    have q := Z.tab p hp
    rw [e, ha] at q
    cases q
  have inT : ∀ {p : Addr × Addr}, p ∈ cs → p.2 ∈ cs.map (·.2) := fun hp => List.mem_map_of_mem hp
  cases hk : K.lookup a with
  | some o =>
    have e := Z.kin a o hk
    rw [ha] at e
    cases e
    have S : Start0 K cs a (fun b => if b ∈ cs.map (·.2) then some (.tbl #[]) else none) := by
      refine ⟨fun p hp => if_pos (inT hp), fun b u q => ?_⟩
      split at q
      · cases q
        exact .inl ⟨by assumption, rfl⟩
      · cases q
    refine core_callG Z ha hr F hbind S (fun b u q => ?_) (hsp _ S (.inr ⟨_, us.toArray, _, hk, rfl, rfl, rfl, ?_, by simpa using rv⟩))
    · rcases S.o b u q with ⟨hb, rfl⟩ | ⟨_, _, ob, xs, rfl⟩
      · obtain ⟨p, hp, rfl⟩ := List.mem_map.mp hb
        exact Z.tab p hp
      · skip
        split at q <;> cases q
    · rw [List.size_toArray, hi.length]
      exact hl
  | none =>
    have S : Start0 K cs a (fun b => if b = a then some (.frz { cls := .type "list", data := .seq us.toArray } (.lst (ns.map V.int))) else if b ∈ cs.map (·.2) then some (.tbl #[]) else none) := by
      refine ⟨fun p hp => ?_, fun b u q => ?_⟩
      · have ne : p.2 ≠ a := fun z => aT (z ▸ inT hp)
        exact (if_neg ne).trans (if_pos (inT hp))
      · skip
        split at q
        · cases q
          exact .inr ⟨by assumption, hk, _, _, rfl⟩
        · split at q
          · cases q
            exact .inl ⟨by assumption, rfl⟩
          · cases q
    refine core_callG Z ha hr F hbind S (fun b u q => ?_) (hsp _ S (.inl (.inr ⟨_, if_pos rfl⟩)))
    split at q
    · rename_i e
      cases q
      subst e
      exact ⟨ha, by rw [List.length_map]; exact hl, us, _, rv, ha⟩
    · split at q
      · rename_i hb
        cases q
        obtain ⟨p, hp, rfl⟩ := List.mem_map.mp hb
        exact Z.tab p hp
      · cases q
end
/-! ### defs with lambdas -/
def lamNm (x : Str) : Str := x ++ ".<locals>." ++ "<lambda>"
structure LamT (K : PySem.W.Frag) (mg : Str → Option Value) (base : Heap) (T : List (Addr × Str)) (x : Str) : Prop where
  tb : TabB base mg (He.codeOf K (x, none)) (He.cT K (x, none)).2
  mem : ((He.cT K (x, none)).2, lamNm x) ∈ T
  uni : ∀ p ∈ T, p.1 = (He.cT K (x, none)).2 → p.2 = lamNm x
section
variable {P : Program} {w : World} {K : PySem.W.Frag} {mg : Str → Option Value} {base : Heap} {T : List (Addr × Str)}
/-- THE RULE for a def that needs calm surroundings (or has lambdas) -/
theorem defG_ok {x : Str} {ag : Arguments} {body : List Stmt} {scope : Scope} {fd : FuncData} {N ps : List Str} {k : Nat} {F : Fn} (D : FunD K x x ag body scope [] [] (He.ga K x) fd) (S : FnScope N ps scope) (gm : mg x = some (.ref (He.ga K x))) (bn : Binds K fd ps [])
    (len : ∀ ds Q Ex, F ds Q Ex → ds.length = ps.length)
    (hd : ∀ (A : Around) (outer : List Env) (s : Shared) (H : Hp) (E : XK), A.guards = some [] → Bd (cxOf (L2.CX P w) P w K mg base N x scope (He.ga K x) (.ref (He.codeOf K (x, none))) A outer s H E) E k → Takes (cxOf (L2.CX P w) P w K mg base N x scope (He.ga K x) (.ref (He.codeOf K (x, none))) A outer s H E) (fun cls d _ H => E cls d H) →
      ∃ wb, JSs T (cxOf (L2.CX P w) P w K mg base N x scope (He.ga K x) (.ref (He.codeOf K (x, none))) A outer s H E) E body wb ∧ ∀ ds Q Ex, F ds Q Ex → wb (dEnds Q Ex) (startE N ds)) : DefG P w K mg base T x (k + 1) ps F := by
  obtain ⟨oc, od, dV, kV, doc, pm, an, cdv, ct, osl, rfl, lk, hcd, _, _⟩ := D.ex
  obtain ⟨c, rfl⟩ := He.codeIn_ref hcd
  have ec : He.codeOf K (x, none) = c := He.codeOf_eq (p := (x, none)) lk rfl
  subst ec
  have ln : ∀ (vs : List V) (H : Hp) (Q : VK) (E : XK), spec K T F vs H Q E → vs.length = ps.length := fun vs H Q E h => by
    obtain ⟨wd, ds, P, Ex, _, r, h, _⟩ := h
    rw [r.length]
    exact len _ _ _ h
  refine ⟨He.ga K x, _, gm, D.kp, bn, ⟨ln, fun A outer s H args us vs Q E gd hr e0 hb r h => ?_⟩, ⟨_, _, _, lk⟩⟩
  refine run_ofS lk hcd S hr e0 hb r (ln _ _ _ _ h) fun hr' => ?_
  obtain ⟨wd, ds, P1, Ex, g, r, h, xo, kk⟩ := h
  have tk : Takes (cxOf (L2.CX P w) P w K mg base N x scope (He.ga K x) (.ref (He.codeOf K (x, none))) A outer s H E) (fun cls d _ H => E cls d H) := takes_of rfl rfl rfl rfl
  have B : Bd (cxOf (L2.CX P w) P w K mg base N x scope (He.ga K x) (.ref (He.codeOf K (x, none))) A outer s H E) E k := ⟨hr', passes_call tk fun _ _ _ _ h => h, passes_of rfl, rfl, S.nd⟩
  obtain ⟨wb, hj, hw⟩ := hd A outer s H E gd B tk
  refine ⟨_, hj, ⟨wd, H, []⟩, wd, startE N ds, dEnds P1 Ex, rel_start g r, hw ds P1 Ex h, ⟨xo, fun env' hn σ' wd' H' le r' => ?_, fun d hd v wd' H' o' g' k' rp => kk d hd v wd' H' o' g' k' rp, fun _ z => z.elim, fun _ z => z.elim⟩⟩
  exact kk .non hn .non wd' H' r'.ord r'.good r'.keep .non
end
/-! ### the hook -/
abbrev IniV : Type := Option (Str × Str × Arguments × FuncBody × Scope × Addr × Value × Addr)
/-- an error's class: its name, its base, its field, the __init__ -/
structure IniD where
  C : Str
  st : Stmt
def iniA (K : PySem.W.Frag) (C : Str) : Addr := He.ma K (He.ga K C) "__init__"
def iniObs (K : PySem.W.Frag) (C : Str) : IniV := match K.lookup (iniA K C) with
  | some ⟨_, _, .func fd, _⟩ => some (fd.name, fd.qualname, fd.params, fd.body, fd.scope, fd.globals, fd.defaults, fd.builtins)
  | _ => none
def IniD.val (d : IniD) : IniV := some ("__init__", d.C ++ ".__init__", defArgs d.st, .stmts (defBody d.st), defScope d.st, mainGlobals, .none, builtinsNs)
def iniB (K : PySem.W.Frag) (file : Str) (C : Str) : Bool := match K.lookup (iniA K C) with
  | some ⟨_, _, .func fd, _⟩ => PySem.W.codeIn K fd.code fd.qualname && ((match fd.code with
    | .ref c => (match K.lookup c with
      | some ⟨_, _, .fields vs, _⟩ => (match (vs[2]? : Option Value) with
        | some (.str y _) => decide (y = file)
        | _ => false)
      | _ => false)
    | _ => false) && (match fd.closure with
    | [(n, cc)] => decide (n = "__class__") && (match K.lookup cc with
      | some ⟨_, _, .cell (some (.ref a)), _⟩ => decide (a = He.ga K C)
      | _ => false)
    | _ => false))
  | _ => false
theorem ini_ok {K : PySem.W.Frag} {file : Str} {d : IniD} (h : iniB K file d.C = true) (e : iniObs K d.C = d.val) : ExI K (He.ga K d.C) (iniA K d.C) file (d.C ++ ".__init__") d.st := by
  unfold iniB at h
  unfold iniObs at e
  cases q : K.lookup (iniA K d.C) with
  | none =>
    rw [q] at h
    cases h
  | some o =>
    obtain ⟨oc, od, dt, osl⟩ := o
    rw [q] at h e
    cases dt with
    | func fd =>
      obtain ⟨n1, n2, n3, n4, n5, n6, n7, n8, n9, n10, n11, n12, n13, n14, n15⟩ := fd
      have e2 : (some (n1, n2, n3, n4, n5, n6, n8, n15) : IniV) = some (("__init__" : Str), d.C ++ ".__init__", defArgs d.st, .stmts (defBody d.st), defScope d.st, mainGlobals, .none, builtinsNs) := e
      simp only [Option.some.injEq, Prod.mk.injEq] at e2
      obtain ⟨h1, h2, h3, h4, h5, h6, h7, h8⟩ := e2
      subst h1 h2 h3 h4 h5 h6 h7 h8
      obtain ⟨c1, h⟩ := He.ba h
      obtain ⟨c2, c3⟩ := He.ba h
      have c1 : PySem.W.codeIn K n13 (d.C ++ ".__init__") = true := c1
      obtain ⟨cda, rfl⟩ := He.codeIn_ref c1
      dsimp only at c2 c3
      cases q2 : K.lookup cda with
      | none =>
        rw [q2] at c2
        cases c2
      | some oo =>
        obtain ⟨ccl, cdd, dt2, ccs⟩ := oo
        rw [q2] at c2
        cases dt2 with
        | fields vs =>
          dsimp only at c2
          cases q3 : vs[2]? with
          | none =>
            rw [q3] at c2
            cases c2
          | some y =>
            rw [q3] at c2
            cases y with
            | str y tf =>
              have ey : y = file := of_decide_eq_true c2
              subst ey
              cases n7 with
              | nil => cases c3
              | cons a r =>
                cases r with
                | cons _ _ => cases c3
                | nil =>
                  obtain ⟨n, cc⟩ := a
                  obtain ⟨d1, d2⟩ := He.ba c3
                  have d1 := of_decide_eq_true d1
                  subst d1
                  cases q4 : K.lookup cc with
                  | none =>
                    rw [q4] at d2
                    cases d2
                  | some o4 =>
                    obtain ⟨cl, cld, dt4, csl⟩ := o4
                    rw [q4] at d2
                    cases dt4 with
                    | cell v =>
                      cases v with
                      | none => cases d2
                      | some v =>
                        cases v with
                        | ref a =>
                          have ea : a = He.ga K d.C := of_decide_eq_true d2
                          subst ea
                          exact ⟨oc, od, osl, n9, n10, n11, n12, cda, n14, cc, q, c1, ⟨ccl, cdd, vs, ccs, tf, q2, q3⟩, cl, cld, csl, q4⟩
                        | _ => cases d2
                    | _ => cases d2
            | _ => cases c2
        | _ => cases c2
    | _ => cases h
def exfB (K : PySem.W.Frag) (C : Str) (B i newId : String) (bmB : List Value) (f : Str) : Bool :=
  PySem.W.excInitIn K (He.ga K C) bmB newId && (PySem.W.keepIn K (.ref (He.ga K C)) && (decide (PySem.W.subIn K (.ref (He.ga K C)) (.type "BaseException") = some true) && (decide (PySem.W.typeIn K (.ref (He.ga K C)) = some (.type "type")) &&
  (decide (PySem.W.findIn K (.ref (He.ga K C)) "__setattr__" = some (some (.builtin "object.__setattr__"))) && (PySem.W.excOver K (He.ga K C) bmB && (decide (PySem.W.takerIn K (He.ga K C) f = some none) && (PySem.W.hasDictIn K (He.ga K C) &&
  (decide (PySem.W.ks_superIn K (He.ga K C) (He.ga K C) "__init__" = some (some (.builtin i))) && (decide (PySem.W.subIn K (.ref (He.ga K C)) (.type B) = some true) && (decide (PySem.W.mroIn K (He.ga K C) (.ref (He.ga K C)) = some true) && (decide (PySem.W.nsIn K cStatics "thirdparty.any" = some none) &&
  (decide (PySem.W.findIn K (.ref (He.ga K C)) "__init__" = some (some (.ref (iniA K C)))) && decide (PySem.W.typeIn K (.ref (iniA K C)) = some (.type "function"))))))))))))))
theorem exf_ok {K : PySem.W.Frag} {C : Str} {B i newId : String} {bmB : List Value} {f : Str} (h : exfB K C B i newId bmB f = true) : ExF K (He.ga K C) B i newId bmB f ∧ PySem.W.findIn K (.ref (He.ga K C)) "__init__" = some (some (.ref (iniA K C))) ∧ PySem.W.typeIn K (.ref (iniA K C)) = some (.type "function") := by
  obtain ⟨h1, h⟩ := He.ba h
  obtain ⟨h2, h⟩ := He.ba h
  obtain ⟨h3, h⟩ := He.ba h
  obtain ⟨h4, h⟩ := He.ba h
  obtain ⟨h5, h⟩ := He.ba h
  obtain ⟨h6, h⟩ := He.ba h
  obtain ⟨h7, h⟩ := He.ba h
  obtain ⟨h8, h⟩ := He.ba h
  obtain ⟨h9, h⟩ := He.ba h
  obtain ⟨h10, h⟩ := He.ba h
  obtain ⟨h11, h⟩ := He.ba h
  obtain ⟨h12, h⟩ := He.ba h
  obtain ⟨h13, h14⟩ := He.ba h
  exact ⟨⟨h1, h2, of_decide_eq_true h3, of_decide_eq_true h4, of_decide_eq_true h5, h6, of_decide_eq_true h7, h8, of_decide_eq_true h9, of_decide_eq_true h10, of_decide_eq_true h11, of_decide_eq_true h12⟩, of_decide_eq_true h13, of_decide_eq_true h14⟩
/-- what is told -/
structure SaysZ (fa : List He.Fa) (fn : List He.DefD) (fb : List He5.DefA) (xi : List IniD) (tf : List Str) (ex : PySem.W.Frag → Bool) (h : Heap) (K : PySem.W.Frag) : Prop where
  d : He.SaysD fa fn K
  a : He5.SaysA [] fb K
  i : xi.map (fun d => iniObs K d.C) = xi.map IniD.val
  x : ex K = true
  nd : (tf.map fun p => (He.cT K (p, none)).2).Nodup
  hd : ∀ p ∈ tf, PySem.W.codeHdIn K (He.cT K (p, none)).1 (He.cT K (p, none)).2 = true
  out : ∀ p ∈ tf, K.lookup (He.cT K (p, none)).2 = none
  emp : ∀ p ∈ tf, h.get? (He.cT K (p, none)).2 = some { cls := .none, data := .fields #[] }
abbrev AlZ : Type := He.AlD × He.AlD × List IniV × Bool
def frZ (g : Addr → Option Obj) (n : Nat) : PySem.W.Frag := He.frT g (He5.asA g n)
def obsZ (n : Nat) (fa : List He.Fa) (fn : List He.DefD) (fb : List He5.DefA) (xi : List IniD) (tf : List Str) (ex : PySem.W.Frag → Bool) (g : Addr → Option Obj) : AlZ :=
  (He.obsD fa fn (frZ g n), He5.obsA [] fb (frZ g n), xi.map (fun d => iniObs (frZ g n) d.C), ex (frZ g n) && (decide ((tf.map fun p => (He.cT (frZ g n) (p, none)).2).Nodup) && He.tabsB g (tf.map fun p => (p, none)) (frZ g n)))
def valZ (fn : List He.DefD) (fb : List He5.DefA) (xi : List IniD) : AlZ := (He.valD fn, He5.valA fb, xi.map IniD.val, true)
theorem saysZ_of {n : Nat} {fa : List He.Fa} {fn : List He.DefD} {fb : List He5.DefA} {xi : List IniD} {tf : List Str} {ex : PySem.W.Frag → Bool} {h : Heap} (e : obsZ n fa fn fb xi tf ex h.get? = valZ fn fb xi) : SaysZ fa fn fb xi tf ex h (frZ h.get? n) := by
  have e4 : (ex (frZ h.get? n) && (decide ((tf.map fun p => (He.cT (frZ h.get? n) (p, none)).2).Nodup) && He.tabsB h.get? (tf.map fun p => (p, none)) (frZ h.get? n))) = true := congrArg (fun z : AlZ => z.2.2.2) e
  obtain ⟨h1, h2⟩ := He.ba e4
  obtain ⟨h2, h3⟩ := He.ba h2
  have key : ∀ p ∈ tf, PySem.W.codeHdIn (frZ h.get? n) (He.cT (frZ h.get? n) (p, none)).1 (He.cT (frZ h.get? n) (p, none)).2 = true ∧ ∃ o, h.get? (He.cT (frZ h.get? n) (p, none)).2 = some o ∧ He.emptyTab o = true := fun p hp => by
    obtain ⟨z1, z2⟩ := He.ba (List.all_eq_true.mp h3 (p, none) (List.mem_map_of_mem hp))
    refine ⟨z1, ?_⟩
    cases q : h.get? (He.cT (frZ h.get? n) (p, none)).2 with
    | none =>
      rw [q] at z2
      cases z2
    | some o =>
      rw [q] at z2
      exact ⟨o, rfl, z2⟩
  refine ⟨congrArg (fun z : AlZ => z.1) e, congrArg (fun z : AlZ => z.2.1) e, congrArg (fun z : AlZ => z.2.2.1) e, h1, of_decide_eq_true h2, fun p hp => (key p hp).1, fun p hp => ?_, fun p hp => ?_⟩
  · obtain ⟨_, o, q, z⟩ := key p hp
    exact He.frT_none q z
  · obtain ⟨_, o, q, z⟩ := key p hp
    rw [q, He.emptyTab_eq z]
def hookZ (n : Nat) (fa : List He.Fa) (fn : List He.DefD) (fb : List He5.DefA) (xi : List IniD) (tf : List Str) (ex : PySem.W.Frag → Bool) : PySem.W.Hook where
  α := AlZ
  obs := fun s => obsZ n fa fn fb xi tf ex s.heap.get?
  val := fun _ => valZ fn fb xi
  says := fun _ h => ∃ K : PySem.W.Frag, K.In h ∧ SaysZ fa fn fb xi tf ex h K
  of := fun _ _ e => ⟨_, He.frT_in, saysZ_of e⟩
  keeps := fun _ _ _ ⟨K, hK, c⟩ k => ⟨K, PySem.W.Frag.In.keeps hK k, ⟨c.d, c.a, c.i, c.x, c.nd, c.hd, c.out, fun p hp => k _ _ (c.emp p hp)⟩⟩
theorem obsZ_eq {n : Nat} {fa : List He.Fa} {fn : List He.DefD} {fb : List He5.DefA} {xi : List IniD} {tf : List Str} {ex : PySem.W.Frag → Bool} {g : Addr → Option Obj} {s : Shared} (h : ∀ a, g a = s.heap.get? a) : obsZ n fa fn fb xi tf ex g = (hookZ n fa fn fb xi tf ex).obs s := by
  have e : g = s.heap.get? := funext h
  rw [e] <;> rfl
def tabT (K : PySem.W.Frag) (tf : List Str) : List (Addr × Str) := tf.map fun p => ((He.cT K (p, none)).2, lamNm p)
theorem lamT_of {K : PySem.W.Frag} {mg : Str → Option Value} {base : Heap} {tf : List Str} (nd : (tf.map fun p => (He.cT K (p, none)).2).Nodup) (tb : ∀ p ∈ tf, TabB base mg (He.codeOf K (p, none)) (He.cT K (p, none)).2) {x : Str} (hx : x ∈ tf) : LamT K mg base (tabT K tf) x := by
  refine ⟨tb x hx, List.mem_map.mpr ⟨x, hx, rfl⟩, fun p hp e => ?_⟩
  obtain ⟨y, hy, rfl⟩ := List.mem_map.mp hp
  have e : (He.cT K (y, none)).2 = (He.cT K (x, none)).2 := e
  have key : ∀ {l : List Str}, (l.map fun p => (He.cT K (p, none)).2).Nodup → y ∈ l → x ∈ l → y = x := fun {l} => by
    induction l with
    | nil => intro _ h; cases h
    | cons a l ih =>
      intro nd h1 h2
      rw [List.map_cons, List.nodup_cons] at nd
      rcases List.mem_cons.mp h1 with z1 | z1
      · rcases List.mem_cons.mp h2 with z2 | z2
        · exact z1.trans z2.symm
        · exact absurd (show (He.cT K (a, none)).2 ∈ l.map (fun p => (He.cT K (p, none)).2) from List.mem_map.mpr ⟨x, z2, by rw [← z1]; exact e.symm⟩) nd.1
      · rcases List.mem_cons.mp h2 with z2 | z2
        · exact absurd (show (He.cT K (a, none)).2 ∈ l.map (fun p => (He.cT K (p, none)).2) from List.mem_map.mpr ⟨y, z1, by rw [← z2]; exact e⟩) nd.1
        · exact ih nd.2 z1 z2
  rw [key nd hy hx]
theorem good_startT {K : PySem.W.Frag} {H : Hp} {a : Addr} {ns : List Int} {tf : List Str} (hl : ns.length ≤ sizeLine) (S : Start0 K (tf.map fun p => He.cT K (p, none)) a H) (h : SqL K H a (ns.map V.int)) : ∃ wd : Wd, Good (tabT K tf) wd H ∧ Rep K wd (.ref a) (.scr ns) := by
  have tab : Tabs (tabT K tf) H := fun q hq => by
    obtain ⟨p, hp, rfl⟩ := List.mem_map.mp hq
    exact TabS.nil (S.t _ (List.mem_map.mpr ⟨p, hp, rfl⟩))
  have siz : ∀ b o, H b = some o → SizedH o := fun b o e => by
    rcases S.o b o e with ⟨_, rfl⟩ | ⟨_, _, _, _, rfl⟩ <;> exact trivial
  have hl' : (ns.map V.int).length ≤ sizeLine := by rw [List.length_map]; exact hl
  have key : ∀ o, H a = some o → noTb o → Sized o → Good (tabT K tf) ⟨fun b => if b = a then some o else none, []⟩ H := fun o e t z => by
    refine ⟨fun b u q => ?_, fun b u q => ?_, fun b hb => (nomatch hb), tab, siz⟩
    · have q : (if b = a then some o else none) = some u := q
      split at q
      · rename_i eb
        rw [eb, e, q]
      · cases q
    · have q : (if b = a then some o else none) = some u := q
      split at q
      · cases q
        exact ⟨t, z⟩
      · cases q
  rcases h with (h | ⟨o, h⟩) | h
  · exact ⟨_, key _ h noTb_lst hl', .scr (.inl (.inl (if_pos rfl)))⟩
  · exact ⟨_, key _ h (fun _ z => nomatch z) hl', .scr (.inl (.inr ⟨o, if_pos rfl⟩))⟩
  · exact ⟨⟨fun _ => none, []⟩, ⟨fun b u q => (nomatch q), fun b u q => (nomatch q), fun b hb => (nomatch hb), tab, siz⟩, .scr (.inr h)⟩
theorem law_endZ {l : PySem.W.OpenLaw} {k : Nat} {q : Program} {loose : List Str} {XP : (Str → Option Value) → Heap → Prop} {d : DefRec} {x : Str} {fa : List He.Fa} {fn : List He.DefD} {fb : List He5.DefA} {xi : List IniD} {tf : List Str} {ex : PySem.W.Frag → Bool} {n : Nat} {st : Stmt} {F : Fn}
    (hn : l.most = some 63) (hdf : d.params.defaults = []) (hr : Room k callerA) (hname : d.name = "law")
    (hd : ∀ (w : World) (K : PySem.W.Frag) (mg : Str → Option Value) (h base : Heap), K.In h → h.Ns mainGlobals mg → SaysZ fa fn fb xi tf ex h K → HasD K mg "law" st ∧ ((∀ y ∈ tf, LamT K mg base (tabT K tf) y) → DefG l.prog w K mg base (tabT K tf) "law" k [x] F))
    (hb : ∀ (K : PySem.W.Frag) (f : Addr) (fd : FuncData), FunD K "law" "law" (defArgs st) (defBody st) (defScope st) [] [] f fd → ∀ (s : Shared) (u : Value), BindsTo s fd ⟨[u], []⟩ [(x, u)])
    (law : ∀ ns : List Int, ns.length ≤ 63 → F [.scr ns] (fun v => v = .bl true) (fun _ => False)) :
    PySem.W.WalkO q loose XP (hookZ n fa fn fb xi tf ex).says l.row.toRowW d [] (fun f vs => PySem.call f vs) := by
  refine Att.attach_callB hn hdf fun w s₀ s₁ mg mb f o pm cd doc a vs ns G Y ho hdd hcd hmg hobj hints hlen hbits hg => ?_
  obtain ⟨K, KX, c⟩ := Y
  rw [hname] at hmg
  obtain ⟨⟨f', fd, D, gm⟩, _⟩ := hd w K mg s₁.heap s₁.heap KX G.T.g c
  rw [gm] at hmg
  cases hmg
  have Z : Top0 K mg mb (tf.map fun p => He.cT K (p, none)) s₁ := by
    refine ⟨KX, G.T.g, G.T.b, G.T.builtins, G.T.nolimit, hg, fun p hp => ?_, fun p hp => ?_, fun p hp => ?_, G.T.bmain⟩
    · obtain ⟨y, hy, rfl⟩ := List.mem_map.mp hp
      exact c.emp y hy
    · obtain ⟨y, hy, rfl⟩ := List.mem_map.mp hp
      exact c.out y hy
    · obtain ⟨y, hy, rfl⟩ := List.mem_map.mp hp
      exact PySem.W.codeHd_of_K KX (c.hd y hy)
  refine law_callG (sp := spec K (tabT K tf) F) Z hobj hints (Nat.le_trans hlen (by decide)) hr (fun base KB GB TB => ?_) (hb K _ fd D) fun H S hS => ?_
  · obtain ⟨f2, fd2, g1, g2, g3, g4, oc2, od2, osl2, lk2⟩ := ((hd w K mg s₁.heap base KX G.T.g c).2 fun y hy => lamT_of c.nd (fun p hp => TB _ (List.mem_map.mpr ⟨p, hp, rfl⟩)) hy).ex
    rw [gm] at g1
    cases g1
    have e : fd2 = fd := by
      obtain ⟨oc, od, dV, kV, doc, pm, an, cdv, ct, osl, _, lk, _⟩ := D.ex
      rw [lk] at lk2
      cases lk2
      rfl
    rw [e] at g4
    exact g4
  · obtain ⟨wd, g, r⟩ := good_startT (Nat.le_trans hlen (by decide)) S hS
    refine ⟨wd, [.scr ns], _, _, g, .cons r .nil, law ns hlen, fun x hx => hx.elim, fun d hd v wd' H' _ _ _ rp => ?_⟩
    rw [hd] at rp
    cases rp
    rfl
end Pd

/-! PdHk: the head's Hook over a fragment that is gathered breadth first, with the seen addresses as the bits of one number: the kernel's memory for the look at the heap falls from 4.6 GB to 0.2 GB. -/
namespace Pd
open PySem PySem.Spec PyProof.Rows L2
def pushB : List Addr → Nat → List Addr → (Nat → List Addr → List Addr) → List Addr
  | [], v, acc, k => k v acc
  | a :: r, v, acc, k => match Nat.testBit v a with
    | true => pushB r v acc k
    | false => pushB r (v ||| (1 <<< a)) (a :: acc) k
def refsG (g : Addr → Option Obj) (a : Addr) : List Addr := match g a with
  | some o => He.refsD o
  | none => []
def bfsB (g : Addr → Option Obj) : Nat → Nat → List Addr → List Addr
  | 0, _, l => l
  | n + 1, v, l => pushB (l.flatMap (refsG g)) v [] fun v l' => l ++ bfsB g n v l'
def asB (g : Addr → Option Obj) (n : Nat) : List Addr := bfsB g n (1 <<< mainGlobals) [mainGlobals] ++ [cStatics]
def frB (g : Addr → Option Obj) (n : Nat) : PySem.W.Frag := He.frT g (asB g n)
def obsV (n : Nat) (fa : List He.Fa) (fn : List He.DefD) (fb : List He5.DefA) (xi : List IniD) (tf : List Str) (ex : PySem.W.Frag → Bool) (g : Addr → Option Obj) : AlZ :=
  (He.obsD fa fn (frB g n), He5.obsA [] fb (frB g n), xi.map (fun d => iniObs (frB g n) d.C), ex (frB g n) && (decide ((tf.map fun p => (He.cT (frB g n) (p, none)).2).Nodup) && He.tabsB g (tf.map fun p => (p, none)) (frB g n)))
theorem saysV_of {n : Nat} {fa : List He.Fa} {fn : List He.DefD} {fb : List He5.DefA} {xi : List IniD} {tf : List Str} {ex : PySem.W.Frag → Bool} {h : Heap} (e : obsV n fa fn fb xi tf ex h.get? = valZ fn fb xi) : SaysZ fa fn fb xi tf ex h (frB h.get? n) := by
  have e4 : (ex (frB h.get? n) && (decide ((tf.map fun p => (He.cT (frB h.get? n) (p, none)).2).Nodup) && He.tabsB h.get? (tf.map fun p => (p, none)) (frB h.get? n))) = true := congrArg (fun z : AlZ => z.2.2.2) e
  obtain ⟨h1, h2⟩ := He.ba e4
  obtain ⟨h2, h3⟩ := He.ba h2
  have key : ∀ p ∈ tf, PySem.W.codeHdIn (frB h.get? n) (He.cT (frB h.get? n) (p, none)).1 (He.cT (frB h.get? n) (p, none)).2 = true ∧ ∃ o, h.get? (He.cT (frB h.get? n) (p, none)).2 = some o ∧ He.emptyTab o = true := fun p hp => by
    obtain ⟨z1, z2⟩ := He.ba (List.all_eq_true.mp h3 (p, none) (List.mem_map_of_mem hp))
    refine ⟨z1, ?_⟩
    cases q : h.get? (He.cT (frB h.get? n) (p, none)).2 with
    | none =>
      rw [q] at z2
      cases z2
    | some o =>
      rw [q] at z2
      exact ⟨o, rfl, z2⟩
  refine ⟨congrArg (fun z : AlZ => z.1) e, congrArg (fun z : AlZ => z.2.1) e, congrArg (fun z : AlZ => z.2.2.1) e, h1, of_decide_eq_true h2, fun p hp => (key p hp).1, fun p hp => ?_, fun p hp => ?_⟩
  · obtain ⟨_, o, q, z⟩ := key p hp
    exact He.frT_none q z
  · obtain ⟨_, o, q, z⟩ := key p hp
    rw [q, He.emptyTab_eq z]
def hookV (n : Nat) (fa : List He.Fa) (fn : List He.DefD) (fb : List He5.DefA) (xi : List IniD) (tf : List Str) (ex : PySem.W.Frag → Bool) : PySem.W.Hook where
  α := AlZ
  obs := fun s => obsV n fa fn fb xi tf ex s.heap.get?
  val := fun _ => valZ fn fb xi
  says := (hookZ n fa fn fb xi tf ex).says
  of := fun _ _ e => ⟨_, He.frT_in, saysV_of e⟩
  keeps := (hookZ n fa fn fb xi tf ex).keeps
theorem obsV_eq {n : Nat} {fa : List He.Fa} {fn : List He.DefD} {fb : List He5.DefA} {xi : List IniD} {tf : List Str} {ex : PySem.W.Frag → Bool} {g : Addr → Option Obj} {s : Shared} (h : ∀ a, g a = s.heap.get? a) : obsV n fa fn fb xi tf ex g = (hookV n fa fn fb xi tf ex).obs s := by
  have e : g = s.heap.get? := funext h
  rw [e] <;> rfl
theorem law_endV {l : PySem.W.OpenLaw} {k : Nat} {q : Program} {loose : List Str} {XP : (Str → Option Value) → Heap → Prop} {d : DefRec} {x : Str} {fa : List He.Fa} {fn : List He.DefD} {fb : List He5.DefA} {xi : List IniD} {tf : List Str} {ex : PySem.W.Frag → Bool} {n : Nat} {st : Stmt} {F : Fn}
    (hn : l.most = some 63) (hdf : d.params.defaults = []) (hr : Room k callerA) (hname : d.name = "law")
    (hd : ∀ (w : World) (K : PySem.W.Frag) (mg : Str → Option Value) (h base : Heap), K.In h → h.Ns mainGlobals mg → SaysZ fa fn fb xi tf ex h K → HasD K mg "law" st ∧ ((∀ y ∈ tf, LamT K mg base (tabT K tf) y) → DefG l.prog w K mg base (tabT K tf) "law" k [x] F))
    (hb : ∀ (K : PySem.W.Frag) (f : Addr) (fd : FuncData), FunD K "law" "law" (defArgs st) (defBody st) (defScope st) [] [] f fd → ∀ (s : Shared) (u : Value), BindsTo s fd ⟨[u], []⟩ [(x, u)])
    (law : ∀ ns : List Int, ns.length ≤ 63 → F [.scr ns] (fun v => v = .bl true) (fun _ => False)) :
    PySem.W.WalkO q loose XP (hookV n fa fn fb xi tf ex).says l.row.toRowW d [] (fun f vs => PySem.call f vs) := law_endZ (n := n) hn hdf hr hname hd hb law
end Pd
namespace Pd
open PySem PySem.W PySem.Calls PyProof.Rows HandSHeadRun
/-! ### the run's equation in three parts, each its own look: the kernel forgets between them -/
def Run1 (r : OpenRow) (M : Nat) (w : World) : Prop := ∀ os : OsState, (endF (stepQ (denQ tabQ) r.prog w) M r.prog w os).map (fun s => looksF r.prog (boot_heap w.params) s.abs) = some true
def Run2 (r : OpenRow) (q : Program) (M : Nat) (loose : List PySem.Str) (w : World) : Prop := ∀ os : OsState, (endF (stepQ (denQ tabQ) r.prog w) M r.prog w os).map (fun s => seenQ q loose (importedModules r.prog.main.body) (fun s => xlAt q [] s && recOk r.toRowW.records s) s.abs) = some (openGood q loose)
def Run3 (r : OpenRow) (H : Hook) (ob : SharedT → H.α) (M : Nat) (w : World) : Prop := ∀ os : OsState, (endF (stepQ (denQ tabQ) r.prog w) M r.prog w os).map ob = some (H.val w)
theorem runEq_of {r : OpenRow} {q : Program} {H : Hook} {ob : SharedT → H.α} {M : Nat} {loose : List PySem.Str} {w : World} (h1 : Run1 r M w) (h2 : Run2 r q M loose w) (h3 : Run3 r H ob M w) : RunEq r q H ob M loose w := by
  intro os
  have a := h1 os
  have b := h2 os
  have c := h3 os
  cases e : endF (stepQ (denQ tabQ) r.prog w) M r.prog w os with
  | none =>
    rw [e] at a
    cases a
  | some t =>
    rw [e] at a b c
    exact congrArg some (Prod.ext (Option.some.inj a) (Prod.ext (Option.some.inj b) (Option.some.inj c)))
end Pd

namespace Pd
open PySem PySem.Spec PyProof.Rows L2 LamX
/-! ### the def that tells errors -/
section
variable {X : Cx} {i : Nat}
theorem mixNil : MixOk X [] (([] : List Hd).map (clOf X.K i)) := .nil
theorem mixP {C s : Str} {j : Nat} {p1 p2 p3 p4 p5 : Pos} {hs : List ExceptHandler} {qs : List Hd} (gl : X.mg C = some (.ref (He.ga X.K C))) (r : MixOk X hs (qs.map (clOf X.K i))) (hg : Gl X C := by rfl) (hd : (C == ("__debug__" : Str)) = false := by decide) :
    MixOk X (.ExceptHandler (some (.Name C p1)) none [.Return (some (.List [.Constant (.str s) j p3] p4)) p5] p2 :: hs) ((⟨C, s, none⟩ :: qs).map (clOf X.K i)) :=
  .plain (c := .ref (He.ga X.K C)) (ts := tsPl s) ⟨hg, hd, .inl gl⟩ (fun a oe cls d pn hz hf => pss_one (ps_ret (pe_lst (pa_cons pe_str pa_nil)))) r
theorem mixN {C s n f : Str} {j : Nat} {p1 p2 p3 p4 p5 p6 p7 : Pos} {hs : List ExceptHandler} {qs : List Hd} (gl : X.mg C = some (.ref (He.ga X.K C))) (xf : XfC X.K (He.ga X.K C)) (na : PySem.W.findIn X.K (.ref (He.ga X.K C)) f = some none) (r : MixOk X hs (qs.map (clOf X.K i))) (hN : X.N[i]? = some n := by rfl)
    (hl : X.env.kindOf n = some .local := by rfl) (hg : Gl X C := by rfl) (hd : (C == ("__debug__" : Str)) = false := by decide) (hd2 : (n == ("__debug__" : Str)) = false := by decide) (hcd : (n == ("__classdict__" : Str)) = false := by decide)
    (hb : attributeBase (.Name n p6) f X.env (eval (.Name n p6) X.env) = eval (.Name n p6) X.env := by rfl)
    (hst : ∀ a oe pn, starEach [.Constant (.str s) j p3, .Attribute (.Name n p6) f p7] (X.suite a ((a, oe) :: pn)).env = (false, eval (.Constant (.str s) j p3) (X.suite a ((a, oe) :: pn)).env) :: starEach [.Attribute (.Name n p6) f p7] (X.suite a ((a, oe) :: pn)).env := by intros; rfl)
    (hst2 : ∀ a oe pn, starEach [.Attribute (.Name n p6) f p7] (X.suite a ((a, oe) :: pn)).env = (false, eval (.Attribute (.Name n p6) f p7) (X.suite a ((a, oe) :: pn)).env) :: starEach [] (X.suite a ((a, oe) :: pn)).env := by intros; rfl) :
    MixOk X (.ExceptHandler (some (.Name C p1)) (some n) [.Return (some (.List [.Constant (.str s) j p3, .Attribute (.Name n p6) f p7] p4)) p5] p2 :: hs) ((⟨C, s, some f⟩ :: qs).map (clOf X.K i)) :=
  .named (c := .ref (He.ga X.K C)) (i := i) (ts := tsNm X.K C i s f) ⟨hg, hd, .inl gl⟩ hN hl (fun a oe cls d pn hz hf => pss_one (ps_ret (pe_lst (pa_cons pe_str (pa_cons (pe_xf xf na hz hf (pe_var hN (.inl hl) hd2 hcd) hb) pa_nil (hst2 a oe pn)) (hst a oe pn))))) r
end
structure OutD (P : Program) (w : World) (K : PySem.W.Frag) (mg : Str → Option Value) (base : Heap) (x : Str) (cls : List Str) (hs : List Hd) : Prop where
  ex : ∃ (a : Str) (pg : Arguments) (sg : Scope) (fd : FuncData) (g : Addr) (h0 : ExceptHandler) (hds : List ExceptHandler) (Ng : List Str) (i : Nat) (p1 p2 p3 p8 : Pos), FunD K x x pg [.Try [.Return (some (.Call (.Name a p1) [] [] p2)) p3] (h0 :: hds) [] [] p8] sg [] [] g fd ∧ mg x = some (.ref g) ∧ Binds K fd [a] [] ∧
    FnScope Ng [a] sg ∧ Ng[0]? = some a ∧ Vis sg a ∧ i < Ng.length ∧ (∀ (A : Around) (outer : List Env) (cdg : Value) (s : Shared) (H : Hp), MixOk (cxOf C8.CX0 P w K mg base Ng x sg g cdg A outer s H C8.E0).nox (h0 :: hds) (hs.map (clOf K i))) ∧ ExmOk K cls hs ∧ (a == ("__debug__" : Str)) = false ∧ (a == ("__classdict__" : Str)) = false
theorem outD_of {P : Program} {w : World} {K : PySem.W.Frag} {mg : Str → Option Value} {base : Heap} {x a : Str} {st : Stmt} {cls : List Str} {hs : List Hd} {Ng : List Str} {i : Nat} {h0 : ExceptHandler} {hds : List ExceptHandler} {p1 p2 p3 p8 : Pos} (d : HasD K mg x st)
    (body : defBody st = [.Try [.Return (some (.Call (.Name a p1) [] [] p2)) p3] (h0 :: hds) [] [] p8]) (S : FnScope Ng [a] (defScope st)) (bn : ∀ (f : Addr) (fd : FuncData), FunD K x x (defArgs st) (defBody st) (defScope st) [] [] f fd → Binds K fd [a] [])
    (h1 : Ng[0]? = some a) (h2 : Vis (defScope st) a) (h3 : i < Ng.length) (mx : ∀ (g : Addr) (A : Around) (outer : List Env) (cdg : Value) (s : Shared) (H : Hp), MixOk (cxOf C8.CX0 P w K mg base Ng x (defScope st) g cdg A outer s H C8.E0).nox (h0 :: hds) (hs.map (clOf K i))) (em : ExmOk K cls hs)
    (h4 : (a == ("__debug__" : Str)) = false := by decide) (h5 : (a == ("__classdict__" : Str)) = false := by decide) : OutD P w K mg base x cls hs := by
  obtain ⟨f, fd, D, gm⟩ := d
  have D' := D
  rw [body] at D'
  exact ⟨a, defArgs st, defScope st, fd, f, h0, hds, Ng, i, p1, p2, p3, p8, D', gm, bn f fd D, S, h1, h2, h3, mx f, em, h4, h5⟩
section
variable {X : Cx} {T : List (Addr × Str)} {E : XK} {k : Nat}
theorem je_outD {x y : Str} {cls : List Str} {hs : List Hd} {kb : Nat} {params : Arguments} {body : Expr} {scope : Scope} {w : W D} {p lpos pos : Pos} (B : Bd X E k) (O : OutD X.prog X.w X.K X.mg X.base x cls hs) (L : LamT X.K X.mg X.base T y)
    (hbody : ∀ (A : Around) (outer : List Env) (s : Shared) (H : Hp) (E' : XK) (f c' : Addr), Bd (lamCx X A outer s H E' scope f c') E' kb → JE T (lamCx X A outer s H E' scope f c') E' body w)
    (hq : X.env.qual ++ "<lambda>" = lamNm y := by rfl) (hcode : X.env.code = .ref (He.codeOf X.K (y, none)) := by rfl) (Ls : LamS X.env.scope scope := by exact lamS_by (by rfl))
    (hk : kb + 2 ≤ k := by decide) (hdef : defaultsOf params X.env = ([], []) := by rfl)
    (hbind : ∀ (q : Str) (cl : List (Str × Addr)) (pm cv ctv : Value), bindArgs (PySem.W.kla_fn "<lambda>" q params body scope cl pm cv ctv) ⟨[], []⟩ = pure [] := by intros; rfl) (hg : Gl X x := by rfl) (hdb : (x == ("__debug__" : Str)) = false := by decide) :
    JE T X E (.Call (.Name x p) [.Lambda params body scope lpos] [] pos) (wOut cls hs w) := by
  obtain ⟨a, pg, sg, fd, g, h0, hds, Ng, i, p1, p2, p3, p8, D, gm, bn, S, h1, h2, h3, mx, em, h4, h5⟩ := O.ex
  exact je_out B D gm bn S h1 h2 h3 (fun cdg s H => mx X.A X.stack cdg s H) em L.tb hcode (by rw [hq]; exact L.mem) (fun p hp e => by rw [hq]; exact L.uni p hp e) Ls hbody hk hdef hbind hg hdb h4 h5
end
/-! ### facts by names -/
theorem excC_of {K : PySem.W.Frag} {mg : Str → Option Value} {C : Str} (h : (He.Fa.exc C).ok K = true) (g : mg C = some (.ref (He.ga K C))) : ExcC K mg C := by
  obtain ⟨h1, h2, h3, h4⟩ := He.exc_ok h
  exact ⟨h1, h2, h3, h4, g⟩
theorem exm_all {K : PySem.W.Frag} {cls : List Str} {hs : List Hd} (h : (cls.all fun y => hs.all fun h => decide (PySem.W.exmOne K (.ref (He.ga K y)) (.ref (He.ga K h.x)) = some (decide (h.x = y)))) = true) : ExmOk K cls hs := fun y hy h' hh =>
  of_decide_eq_true (List.all_eq_true.mp (List.all_eq_true.mp h y hy) h' hh)
end Pd

namespace Pd
open PySem PySem.Spec PyProof.Rows L2 LamX
/-! ### {i: v}, two written numbers -/
section
variable {X : Cx} {T : List (Addr × Str)} {E : XK} {k : Nat}
theorem pe_dict1 {i v : Int} {j j2 : Nat} {p1 p2 pos : Pos} : PE X (.Dict [some (.Constant (.int i) j p1)] [.Constant (.int v) j2 p2] pos) (fun σ H Q => ∀ p, H p = none → Q (.ref p) (upd H p (.dK [(Sum.inl i, .int v)]))) := by
  refine ⟨fun pins s σ H Q I h => ?_⟩
  refine wpAny_Dict_pairs (knd := mixKind X.prog X.w) (pairs := [(eval (.Constant (.int i) j p1) X.env, do let x ← eval (.Constant (.int v) j2 p2) X.env; standAt pos; pure x)]) rfl (by simp) (by simp) ?_
  refine evalPairs_cons (wpAny_Constant_int (wpAny_bind (wpAny_Constant_int (wpAny_bind (wpAny_standAt (wpAny_pure (evalPairs_nil ?_)))))))
  refine ⟨[(Sum.inl i, .int v (s.toks + 1))], ⟨?_, rfl, trivial⟩, Heap.DictOf.new s.heap, fun h' hd hs => ?_⟩
  · simp [mixKind, L2.keyIs, Value.isInt]
  · refine ⟨.ref s.heap.objs.size, _, I.laid (h' := h') (a := s.heap.objs.size) (o := .dK [(Sum.inl i, .int v)]) (fun b o q => ?_) (Nat.le_refl _) ⟨by show 1 ≤ sizeLine; decide, beq_eq_false_iff_ne.mpr (Ne.symm (Nat.ne_of_lt I.big)), _, ?_, hd⟩, rfl, h _ (I.hok.fresh (Nat.le_refl _))⟩
    · rw [hs.2 b (Nat.ne_of_lt (Heap.lt_size q))]
      exact Heap.get?_push_of_some _ q
    · exact .cons ⟨rfl, _, rfl⟩ .nil
theorem je_dict1 {i v : Int} {j j2 : Nat} {p1 p2 pos : Pos} : JE T X E (.Dict [some (.Constant (.int i) j p1)] [.Constant (.int v) j2 p2] pos) (W.ret (.dic [(Sum.inl i, .int v)])) :=
  peI pe_dict1 fun σ H Q ⟨c, wd, env, P, Ex, rl, h, xo, kk⟩ => fun p hp => by
    have g : Grow wd H (wd.add p (.dK [(Sum.inl i, .int v)])) (upd H p (.dK [(Sum.inl i, .int v)])) := Grow.one hp noTb_dK trivial
    exact kk _ env h (.ref p) _ _ (Le.add (rl.good.mnone hp)) (rl.grow g) (.dic upd_same rfl (.cons (.int v) .nil))
end
/-- repr, as it is asked -/
def ShoIt (d : D) : Prop := (match d with
  | .lst _ => True
  | .tup _ => True
  | _ => False) ∧ sho 30 d = true ∧ wt d ≤ 100000
def fRepr : D → PEnv → K1 → Prop := fun x env Q => ShoIt x ∧ Q (.str (shown x)) env
theorem as_repr : Asks1 fRepr dRepr := fun x env Q ⟨⟨h1, h2, h3⟩, q⟩ => by
  cases x <;> first | exact h1.elim | skip
  all_goals
    refine ⟨_, ?_, q⟩
    unfold dRepr
    simp only
    rw [if_pos (by rw [h2, Bool.true_and]; exact decide_eq_true h3)]
/-! ### texts compared -/
def dEqS : D → D → Option D
  | .str x, .str y => some (.bl (decide (x = y)))
  | _, _ => none
def dNeS : D → D → Option D
  | .str x, .str y => some (.bl (!decide (x = y)))
  | _, _ => none
theorem opD_eqS {X : Cx} : OpD X (compareOp .Eq) dEqS := ⟨_, op_eq, fun x y z e T wd H v u Q g rx ry d => by
  cases rx <;> first | cases e | skip
  cases ry <;> first | cases e | skip
  refine ⟨rfl, ?_⟩
  rw [show decide (V.str _ = V.str _) = decide (_ = _) from decide_eq_decide.mpr ⟨fun h => by injection h, fun h => by rw [h]⟩]
  exact d.now (.bl _)⟩
theorem opD_neS {X : Cx} : OpD X (compareOp .NotEq) dNeS := ⟨_, op_ne, fun x y z e T wd H v u Q g rx ry d => by
  cases rx <;> first | cases e | skip
  cases ry <;> first | cases e | skip
  refine ⟨rfl, ?_⟩
  rw [show decide (V.str _ = V.str _) = decide (_ = _) from decide_eq_decide.mpr ⟨fun h => by injection h, fun h => by rw [h]⟩]
  exact d.now (.bl _)⟩
/-- THE RULE, by the def's facts -/
theorem defG_okX {P : Program} {w : World} {K : PySem.W.Frag} {mg : Str → Option Value} {base : Heap} {T : List (Addr × Str)} {x : Str} {st : Stmt} {N ps : List Str} {k : Nat} {F : Fn} (d : HasD K mg x st) (gm : mg x = some (.ref (He.ga K x))) (S : FnScope N ps (defScope st))
    (bn : ∀ (f : Addr) (fd : FuncData), FunD K x x (defArgs st) (defBody st) (defScope st) [] [] f fd → Binds K fd ps []) (len : ∀ ds Q Ex, F ds Q Ex → ds.length = ps.length)
    (hd : ∀ (A : Around) (outer : List Env) (s : Shared) (H : Hp) (E : XK), A.guards = some [] → Bd (cxOf (L2.CX P w) P w K mg base N x (defScope st) (He.ga K x) (.ref (He.codeOf K (x, none))) A outer s H E) E k →
      Takes (cxOf (L2.CX P w) P w K mg base N x (defScope st) (He.ga K x) (.ref (He.codeOf K (x, none))) A outer s H E) (fun cls d _ H => E cls d H) →
      ∃ wb, JSs T (cxOf (L2.CX P w) P w K mg base N x (defScope st) (He.ga K x) (.ref (He.codeOf K (x, none))) A outer s H E) E (defBody st) wb ∧ ∀ ds Q Ex, F ds Q Ex → wb (dEnds Q Ex) (startE N ds)) : DefG P w K mg base T x (k + 1) ps F := by
  obtain ⟨f, fd, D, gm'⟩ := d
  rw [gm] at gm'
  cases gm'
  exact defG_ok D S gm (bn _ _ D) len hd
theorem exV_of {P : Program} {K : PySem.W.Frag} {mg : Str → Option Value} {C f pv file : Str} {B i newId : String} {bmB : List Value} {st : Stmt} {G : V → Prop} (h1 : ExcBaseFacts B newId i bmB) (h2 : PySem.W.KxsFacts B i) (h3 : StoreFacts B bmB "object.__setattr__" "object") (h4 : exfB K C B i newId bmB f = true)
    (h5 : ExI K (He.ga K C) (iniA K C) file (C ++ ".__init__") st) (h6 : ∃ me p0 p1 p2 p4 p5 p6 p7 p8 p9, ExB pv f st me G p0 p1 p2 p4 p5 p6 p7 p8 p9) (h7 : ((P.main.file : Str) == file) = true) (h8 : (P.main.scope.names.lookup ("super" : Str)).isSome = false) (h9 : mg "super" = none) (h10 : mg C = some (.ref (He.ga K C))) : ExVG P K mg C f G := by
  obtain ⟨me, p0, p1, p2, p4, p5, p6, p7, p8, p9, h6⟩ := h6
  obtain ⟨e1, e2, e3⟩ := exf_ok h4
  exact ⟨⟨B, i, newId, bmB, iniA K C, file, _, pv, st, me, p0, p1, p2, p4, p5, p6, p7, p8, p9, h1, h2, h3, e1, h5, h6, e2, e3, h7⟩, h8, h9, h10⟩
end Pd

namespace Pd
open PySem PySem.Spec PyProof.Rows L2 LamX
/-! ### t[::-1], t a tuple -/
theorem rev_adjust (n : Nat) : Builtin.Slice.sliceAdjust none none (-1) (n : Int) = ((n : Int) - 1, -1) := by
  unfold Builtin.Slice.sliceAdjust
  simp
theorem rev_places (n : Nat) : Builtin.Slice.slicePlaces ((n : Int) - 1) (-1) (-1) = n := by
  unfold Builtin.Slice.slicePlaces
  simp
  split <;> omega
theorem fm_congr {α β : Type} {f g : α → Option β} : ∀ {l : List α}, (∀ x ∈ l, f x = g x) → l.filterMap f = l.filterMap g
  | [], _ => rfl
  | a :: l, h => by
    rw [List.filterMap_cons, List.filterMap_cons, h a List.mem_cons_self, fm_congr fun x hx => h x (List.mem_cons_of_mem _ hx)]
theorem rev_pick (xs : Array Value) : ((List.range xs.size).filterMap fun (k : Nat) => xs[(((xs.size : Int) - 1) + (k : Int) * (-1)).toNat]?).toArray = xs.toList.reverse.toArray := by
  have e : ((List.range xs.size).filterMap fun (k : Nat) => xs[(((xs.size : Int) - 1) + (k : Int) * (-1)).toNat]?) = ((List.range xs.size).map fun k => xs.size - 1 - k).filterMap (xs[·]?) := by
    rw [List.filterMap_map]
    refine fm_congr fun k hk => ?_
    have := List.mem_range.mp hk
    show xs[_]? = xs[xs.size - 1 - k]?
    congr 1
    omega
  rw [e, PySem.W.krv_range, List.filterMap_reverse, PySem.W.krv_all]
section
variable {prog : Program} {w : World} {A : Around} {E : Value → Shared → Prop} {s : Shared}
/-- the three parts of the slice [::-1] -/
theorem rev_parts {sl : Addr} {vs : Value} {Q : Value × Value × Value → Shared → Prop} (hs : s.heap.IsSliceOf sl .none .none vs) (h : Q (.none, .none, vs) s) : wpAny (model prog w) A (Builtin.Slice.sliceFields (.ref sl)) Q E s := by
  obtain ⟨o, at_, _, dt⟩ := hs
  unfold Builtin.Slice.sliceFields
  apply wpAny_bind
  apply wpAny_field at_ dt rfl
  apply wpAny_bind
  apply wpAny_field at_ dt rfl
  apply wpAny_bind
  apply wpAny_field at_ dt rfl
  exact wpAny_pure h
/-- of n items: from the last one, back, all -/
theorem rev_applied {sl : Addr} {vs : Value} {n : Nat} {Q : Int × Int × Nat → Shared → Prop} (hs : s.heap.IsSliceOf sl .none .none vs) (ps : IsPart vs (some (-1))) (h : Q ((n : Int) - 1, -1, n) s) : wpAny (model prog w) A (Builtin.Slice.sliceApplied (.ref sl) (pure (n : Int))) Q E s := by
  have back : ((-1 : Int) == 0) = false := by decide
  unfold Builtin.Slice.sliceApplied
  apply wpAny_bind
  apply rev_parts hs
  apply wpAny_bind
  apply HT.slicePart_ ps
  simp only [back, Bool.false_eq_true, if_false]
  apply wpAny_bind
  apply slicePart_none
  apply wpAny_bind
  apply slicePart_none
  apply wpAny_bind
  apply wpAny_pure
  show wpAny _ _ (let (lo, hi) := Builtin.Slice.sliceAdjust none none (-1) (n : Int); pure (lo, (-1 : Int), Builtin.Slice.slicePlaces lo hi (-1))) _ _ s
  rw [rev_adjust]
  dsimp only
  rw [rev_places]
  exact wpAny_pure h
/-- what a tuple's own [..] answers for [::-1] -/
theorem rev_answer {t sl : Addr} {items : Array Value} {vs : Value} {Q : Value → Shared → Prop} (ht : IsTup s.heap t items) (hs : s.heap.IsSliceOf sl .none .none vs) (ps : IsPart vs (some (-1))) (hz : items.size ≤ sizeLine)
    (h : Q (.ref s.heap.objs.size) { s with heap := s.heap.push { cls := .type "tuple", data := .seq items.toList.reverse.toArray } }) : wpAny (model prog w) A (Builtin.«tuple.__getitem__» ⟨[.ref t, .ref sl], []⟩) (fun fin s' => ∃ v, fin = .done (.ret v) ∧ Q v s') E s := by
  have kind : s.TypeIs (.ref sl) "slice" := by
    obtain ⟨o, at_, c, _⟩ := hs
    exact ⟨o, at_, c⟩
  have part : (((items.size : Int) - 1) == 0 && (-1 : Int) == 1 && items.size == items.size) = false := by simp
  have fits : sizeOk (.seq items.toList.reverse.toArray) := by
    show items.toList.reverse.toArray.size ≤ sizeLine
    simpa using hz
  show wpAny _ _ (Builtin.Tuple.tupleItemsOf (.ref t) >>= _) _ _ s
  apply wpAny_bind
  apply tupleItemsOf_ ht
  apply wpAny_bind
  apply wpAny_typeOf kind
  simp only [beq_self_eq_true, if_true]
  apply wpAny_bind
  apply rev_applied hs ps
  simp only [part, Bool.false_eq_true, if_false]
  rw [rev_pick]
  apply wpAny_bind
  exact wpAny_newObj_type (wpAny_pure ⟨_, rfl, h⟩) fits
theorem rev_getItem {t sl : Addr} {items : Array Value} {vs : Value} {Q : Value → Shared → Prop} (ht : IsTup s.heap t items) (hs : s.heap.IsSliceOf sl .none .none vs) (ps : IsPart vs (some (-1))) (hz : items.size ≤ sizeLine)
    (h : Q (.ref s.heap.objs.size) { s with heap := s.heap.push { cls := .type "tuple", data := .seq items.toList.reverse.toArray } }) : wpAny (model prog w) A (getItem (.ref t) (.ref sl)) Q E s := by
  have own := rev_answer (prog := prog) (w := w) (A := A.in1) (E := E) (Q := Q) ht hs ps hz h
  have asked := wpAny_call_entry (A := A) PyProof.Rows.slot_tuple_getitem ht.typeIs PyProof.Rows.entry_tuple_getitem own (PyProof.Rows.args_tuple_getitem _ _)
  unfold getItem
  apply wpAny_holding
  apply wpAny_bind
  apply wpAny_sequenceKey ht.typeIs (by decide)
  apply wpAny_bind
  apply wpAny_callSpecial?_slot ht.typeIs PyProof.Rows.slot_tuple_getitem
  exact wpAny_mono asked (fun v s' q => wpAny_pure q) fun _ _ z => z
end
section
variable {X : Cx} {T : List (Addr × Str)} {E : XK} {k : Nat}
/-- a step of -1, written out -/
theorem po_back {k : Nat} {p1 p2 : Pos} : PO X (some (.UnaryOp .USub (.Constant (.int 1) k p1) p2)) (tPart (tUn (rU fun i => .int (-i)) (tC (.int 1)))) := po_some (pe_un un_neg pe_int)
theorem pe_revT {e : Expr} {te : TE} {k : Nat} {p1 p2 p3 pos : Pos} (he : PE X e te) : PE X (.Subscript e (.Slice none none (some (.UnaryOp .USub (.Constant (.int 1) k p1) p2)) p3) pos) (fun σ H Q => te σ H fun x H1 => ∃ a xs, x = .ref a ∧ SqT X.K H1 a xs ∧ ∀ p, H1 p = none → Q (.ref p) (upd H1 p (.tup xs.reverse))) := by
  constructor
  intro pins s σ H Q I h
  apply Subscript_
  apply thn (he.run pins s σ H _ I h)
  rintro _ s1 ⟨_, H1, I1, r1, a, xs, rfl, hx, q⟩
  cases r1
  apply wpAny_Slice
  apply thn (po_none.run pins s1 σ H1 (fun o G => o = none ∧ G = H1) I1 ⟨rfl, rfl⟩)
  rintro _ s2 ⟨_, H2, I2, none1, rfl, rfl⟩
  apply thn (po_none.run pins s2 σ H2 (fun o G => o = none ∧ G = H2) I2 ⟨rfl, rfl⟩)
  rintro _ s3 ⟨_, H3, I3, none2, rfl, rfl⟩
  apply thn (po_back.run pins s3 σ H3 (fun o G => o = some (-1) ∧ G = H3) I3 ⟨1, rfl, -1, rfl, rfl, rfl⟩)
  rintro vs s4 ⟨_, H4, I4, back, rfl, rfl⟩
  cases none1
  cases none2
  have slice := Heap.IsSliceOf.new s4.heap .none .none vs
  have I5 := I4.kept (t' := s4.toks) (h' := s4.heap.push { cls := .type "slice", data := .fields #[.none, .none, vs] }) fun _ _ g => Heap.get?_push_of_some _ g
  obtain ⟨its, same, tup, fits⟩ := I5.tuple hx
  have few : its.toArray.size ≤ sizeLine := by simpa [same.length] using fits
  refine tail_any (ops := [.ref a, .ref s4.heap.objs.size]) tup.typeIs PyProof.Rows.slot_tuple_getitem.lookup ?_ (by with_unfolding_all rfl)
  apply rev_getItem tup slice back few
  have laid := I5.laid (t' := s4.toks) (o := .tup xs.reverse) (fun _ _ g => Heap.get?_push_of_some _ g) (Nat.le_refl _) ⟨by simpa using fits, its.reverse, same.reverse, IsTup.new _ _⟩
  exact ⟨.ref _, _, laid, rfl, q _ (I5.hok.fresh (Nat.le_refl _))⟩
def wRevT (a : W D) : W D := a.bind fun x env Q _ => match x with
  | .tup xs => Q (.tup xs.reverse) env
  | _ => False
theorem je_revT {e : Expr} {a : W D} {kk : Nat} {p1 p2 p3 pos : Pos} (ha : JE T X E e a) : JE T X E (.Subscript e (.Slice none none (some (.UnaryOp .USub (.Constant (.int 1) kk p1) p2)) p3) pos) (wRevT a) := by
  refine peI (pe_revT ha) fun σ H Q ⟨c, wd, env, P, Ex, rl, h, xo, k⟩ => ⟨c, wd, env, _, Ex, rl, h, xo, fun x env1 h1 v wd1 H1 le1 r1 rp => ?_⟩
  dsimp only at h1
  split at h1
  · cases rp with
    | tup hs rs =>
      refine ⟨_, _, rfl, sub_sqT r1.good hs, fun p hp => ?_⟩
      have dd : Del X.K wd1 H1 (.tup (List.reverse _)) Q := fun w wd' H' g rp => k _ env1 h1 w wd' H' (le1.trans (g.le r1.good)) (r1.grow g) rp
      exact dd.tup r1.good hp rs.reverse (by rw [List.length_reverse]; exact siz_sqT r1.good hs)
  · exact h1.elim
/-! ### divmod -/
def dDivmod : List D → Option D
  | [.int i, .int j] => if 0 < j ∧ j < 1073741824 then some (.tup [.int (i / j), .int (i % j)]) else none
  | _ => none
theorem cn_divmod : CallN X (.builtin "divmod") dDivmod := ⟨_, call_divmod, fun xs z e T wd H vs Q g r d => by
  unfold dDivmod at e
  split at e
  · obtain ⟨c, rfl⟩ := ite_some e
    cases r with
    | cons a r =>
      cases a
      cases r with
      | cons b r =>
        cases b
        cases r
        exact ⟨_, _, rfl, c, fun p hp => d.tup g hp (.cons (.int _) (.cons (.int _) .nil)) (by show 2 ≤ sizeLine; decide)⟩
  · cases e⟩
end
end Pd

/-! zip of any number of lists and tuples, its pairs kept -/
namespace Zn
open PySem
theorem ne_ {a b : Nat} (h : a ≠ b) : @Ne Addr a b := h
/-- an iterator of a list or a tuple -/
def SrcIt (h : Heap) (it c : Nat) (k : Nat) (xs : Array Value) : Prop := (h.IsListIter it c k ∧ h.IsList c xs) ∨ (h.IsTupleIter it c k ∧ h.IsTuple c xs)
theorem SrcIt.at {h h' : Heap} {it c : Nat} {k : Nat} {xs : Array Value} (s : SrcIt h it c k xs) (h1 : ∀ o, h.get? it = some o → h'.get? it = some o) (h2 : ∀ o, h.get? c = some o → h'.get? c = some o) : SrcIt h' it c k xs := by
  rcases s with ⟨a, b⟩ | ⟨a, b⟩
  · exact .inl ⟨a.at h1, b.at h2⟩
  · exact .inr ⟨a.at h1, b.at h2⟩
section
variable {prog : Program} {w : World} {A : Around} {E : Value → Shared → Prop} {s : Shared}
theorem next_item {it c : Nat} {k : Nat} {xs : Array Value} {x : Value} {Q : Value → Shared → Prop} (hs : SrcIt s.heap it c k xs) (ne : c ≠ it) (hx : xs[k]? = some x)
    (hQ : ∀ h', SrcIt h' it c (k + 1) xs → Heap.SameBut it s.heap h' → Q x { s with heap := h' }) : wpAny (model prog w) A (Builtin.SmallTypes.nextOf (.ref it)) Q E s := by
  rcases hs with ⟨a, b⟩ | ⟨a, b⟩
  · exact wpAny_nextOf_list_item a b hx fun h' a' sb => hQ h' (.inl ⟨a', b.extBut sb.extBut ne⟩) sb
  · exact RZ.nextOf_tuple_item a b hx fun h' a' sb => hQ h' (.inr ⟨a', b.at fun o e => sb.extBut _ _ ne e⟩) sb
theorem next_end {it c : Nat} {k : Nat} {xs : Array Value} {Q : Value → Shared → Prop} (hh : A.handled = none) (hs : SrcIt s.heap it c k xs) (hx : xs[k]? = none)
    (hE : ∀ h' e, Heap.ExtBut it s.heap h' → (∃ o, h'.get? e = some o ∧ o.cls = .type "StopIteration") → E (.ref e) { s with heap := h' }) : wpAny (model prog w) A (Builtin.SmallTypes.nextOf (.ref it)) Q E s := by
  rcases hs with ⟨a, b⟩ | ⟨a, b⟩
  · exact wpAny_nextOf_list_end hh a b hx hE
  · exact RZ.nextOf_tuple_end hh a b hx hE
end
/-- the iterators, from b on, over the containers cs; the first m of them one item further -/
structure Srcs (h : Heap) (b : Nat) (cs : List (Nat × Array Value)) (k m : Nat) : Prop where
  it : ∀ (j : Nat) (c : Nat) (xs : Array Value), cs[j]? = some (c, xs) → SrcIt h (b + j) c (if j < m then k + 1 else k) xs
  lo : ∀ (j : Nat) (c : Nat) (xs : Array Value), cs[j]? = some (c, xs) → c < b
abbrev IsTupN (h : Heap) (T : Nat) (xs : Array Value) : Prop := h.get? T = some { cls := .type "tuple", data := .seq xs }
abbrev IsZ (h : Heap) (z TI TO : Nat) (f0 : Value) (f : Bool) : Prop := h.get? z = some { cls := .type "zip", dict := none, data := .fields #[f0, .bool f, .bool false, .ref TI, .ref TO], slots := #[] }
def itsN (b n : Nat) : Array Value := ((List.range n).map fun j => Value.ref (b + j)).toArray
theorem Srcs.same {h h' : Heap} {b : Nat} {cs : List (Nat × Array Value)} {k m : Nat} (s : Srcs h b cs k m) (e : ∀ a o, a < b + cs.length → h.get? a = some o → h'.get? a = some o) : Srcs h' b cs k m :=
  ⟨fun j c xs hj => (s.it j c xs hj).at (fun o q => e _ o (by have := (List.getElem?_eq_some_iff.mp hj).1; omega) q) (fun o q => e _ o (by have := s.lo j c xs hj; omega) q), s.lo⟩
section
variable {prog : Program} {w : World} {A : Around} {E : Value → Shared → Prop} {s : Shared}
theorem held_item {b z T : Nat} {cs : List (Nat × Array Value)} {k : Nat} {f : Bool} {oT : Obj} {Q : Value → Shared → Prop} (hz : IsZ s.heap z (b + cs.length) (b + cs.length + 1) (rawInt T) f) (hT : s.heap.get? T = some oT)
    (hzb : b + cs.length + 1 < z) (hTI : IsTupN s.heap (b + cs.length) (itsN b cs.length)) (hs : Srcs s.heap b cs k 0) (hn : cs ≠ []) (hlt : ∀ q ∈ cs, k < q.2.size) (hsz : cs.length ≤ sizeLine)
    (hQ : ∀ h', IsZ h' z (b + cs.length) (b + cs.length + 1) (rawInt T) true → Srcs h' b cs (k + 1) 0 → IsTupN h' s.heap.objs.size (cs.map fun q => q.2[k]?.getD .none).toArray → h'.objs.size = s.heap.objs.size + 1 →
      (∀ c o, c ≠ z → (c < b ∨ b + cs.length ≤ c) → s.heap.get? c = some o → h'.get? c = some o) → Q (.ref s.heap.objs.size) { s with heap := h' }) :
    wpAny (model prog w) A (Builtin.«zip.__next__» ⟨[.ref z], []⟩) (fun fin s' => ∃ v, fin = .done (.ret v) ∧ Q v s') E s := by
  have some_ : (itsN b cs.length).isEmpty = false := by
    unfold itsN
    cases cs with
    | nil => exact absurd rfl hn
    | cons q cs => simp
  unfold Builtin.«zip.__next__»
  generalize free : Builtin.SmallTypes.ownedTupleIsFree = F
  wp_walk using wpAny_seqItems hTI rfl
  subst free
  apply wpAny_tupleHeld_zip hz hT
  intro h1 hz1 hs1
  simp only [Bool.false_eq_true, ↓reduceIte]
  have key : ∀ j, j < cs.length → ∃ c xs x, cs[j]? = some (c, xs) ∧ xs[k]? = some x ∧ c < b := fun j hj => by
    have e := List.getElem?_eq_getElem hj
    have l := hlt _ (List.getElem_mem hj)
    exact ⟨_, _, _, e, Array.getElem?_eq_getElem l, hs.lo j _ _ e⟩
  refine wpAny_bind (wpAny_forIn_array' _ (fun rest st s' => ∃ (m : Nat) (h' : Heap), m ≤ cs.length ∧ rest = (itsN b cs.length).toList.drop m ∧ st = (none, ((cs.take m).map fun q => q.2[k]?.getD .none).toArray) ∧ s' = { s with heap := h' } ∧ Srcs h' b cs k m ∧ IsZ h' z (b + cs.length) (b + cs.length + 1) (rawInt T) true ∧ h'.objs.size = s.heap.objs.size ∧ ∀ c o, c ≠ z → (c < b ∨ b + cs.length ≤ c) → s.heap.get? c = some o → h'.get? c = some o) _ ?_ ?_ _ _ ?_)
  · rintro x rest st s' ⟨m, h', hm, er, rfl, rfl, hsr, hz', hsz', hk⟩
    have hlt' : m < cs.length := by
      apply Decidable.byContradiction
      intro z
      have : (itsN b cs.length).toList.drop m = [] := List.drop_eq_nil_of_le (by simp [itsN]; omega)
      rw [this] at er
      cases er
    obtain ⟨c, xs, v, e1, e2, e3⟩ := key m hlt'
    have ex : x = .ref (b + m) ∧ rest = (itsN b cs.length).toList.drop (m + 1) := by
      rw [List.drop_eq_getElem_cons (by simp [itsN]; exact hlt')] at er
      have := List.cons.inj er
      exact ⟨by rw [this.1]; simp [itsN], this.2⟩
    obtain ⟨rfl, rfl⟩ := ex
    refine wpAny_bind (wpAny_holding ?_)
    show wpAny _ _ (Builtin.SmallTypes.nextOf (.ref (b + m)) >>= _) _ _ _
    have hit := hsr.it m c xs e1
    rw [if_neg (Nat.lt_irrefl _)] at hit
    refine wpAny_bind (next_item (s := { s with heap := h' }) hit (by omega) e2 fun h2 hit2 sb => wpAny_pure ?_)
    refine wpAny_pure ⟨m + 1, h2, hlt', rfl, ?_, rfl, ⟨fun j c' xs' hj => ?_, hsr.lo⟩, sb.extBut _ _ (ne_ (by omega)) hz', by rw [sb.1]; exact hsz', fun c o h1 h2 h3 => sb.extBut _ _ (ne_ (by omega)) (hk c o h1 h2 h3)⟩
    · have : (cs.take (m + 1)).map (fun q => q.2[k]?.getD Value.none) = (cs.take m).map (fun q => q.2[k]?.getD Value.none) ++ [v] := by
        rw [List.take_add_one, e1, List.map_append]
        show _ ++ [xs[k]?.getD Value.none] = _
        rw [e2]
        rfl
      rw [this]
      simp
    · by_cases hjm : j = m
      · subst hjm
        rw [e1] at hj
        cases hj
        rw [if_pos (Nat.lt_succ_self _)]
        exact hit2
      · have h0 := hsr.it j c' xs' hj
        have hc := hsr.lo j c' xs' hj
        have ee : (if j < m + 1 then k + 1 else k) = if j < m then k + 1 else k := by
          by_cases hh : j < m
          · rw [if_pos hh, if_pos (by omega)]
          · rw [if_neg hh, if_neg (by omega)]
        rw [ee]
        exact h0.at (fun o q => sb.extBut _ _ (ne_ (by omega)) q) fun o q => sb.extBut _ _ (ne_ (by omega)) q
  · rintro st s' ⟨m, h', hm, er, rfl, rfl, hsr, hz', hsz', hk⟩
    have hme : m = cs.length := by
      apply Decidable.byContradiction
      intro z
      have : (itsN b cs.length).toList.drop m ≠ [] := by
        intro e
        have := congrArg List.length e
        simp [itsN] at this
        omega
      exact this er.symm
    subst hme
    rw [List.take_length]
    show wpAny _ _ (newTuple _ >>= _) _ _ _
    refine wpAny_bind (wpAny_newTuple (wpAny_pure ⟨_, rfl, ?_⟩) (by simpa using hsz))
    show Q (.ref h'.objs.size) _
    have e0 : (h'.push { cls := .type "tuple", data := .seq (cs.map fun q => q.2[k]?.getD Value.none).toArray }).get? h'.objs.size = some _ := Heap.get?_push_size _ rfl
    have e1 : (h'.push { cls := .type "tuple", data := .seq (cs.map fun q => q.2[k]?.getD Value.none).toArray }).objs.size = h'.objs.size + 1 := Heap.size_push ..
    rw [hsz'] at e0 e1 ⊢
    refine hQ _ (Heap.get?_push_of_some _ hz') ⟨fun j c xs hj => ?_, hsr.lo⟩ (by simpa using e0) (by simpa using e1) fun c o h1 h2 h3 => Heap.get?_push_of_some _ (hk c o h1 h2 h3)
    have h0 := hsr.it j c xs hj
    rw [if_pos (List.getElem?_eq_some_iff.mp hj).1] at h0
    rw [if_neg (Nat.not_lt_zero _)]
    exact h0.at (fun o q => Heap.get?_push_of_some _ q) fun o q => Heap.get?_push_of_some _ q
  · refine ⟨0, h1, Nat.zero_le _, rfl, rfl, rfl, hs.same fun a o hl q => hs1.extBut _ _ (ne_ (by omega)) q, hz1, hs1.1, fun c o h1' _ h3 => hs1.extBut _ _ h1' h3⟩
end
end Zn

namespace Zn
open PySem
section
variable {prog : Program} {w : World} {A : Around} {E : Value → Shared → Prop} {s : Shared}
theorem its_cons {b m : Nat} {cs : List (Nat × Array Value)} {x : Value} {rest : List Value} (er : x :: rest = (itsN b cs.length).toList.drop m) : m < cs.length ∧ x = .ref (b + m) ∧ rest = (itsN b cs.length).toList.drop (m + 1) := by
  have hlt' : m < cs.length := by
    apply Decidable.byContradiction
    intro z
    have : (itsN b cs.length).toList.drop m = [] := List.drop_eq_nil_of_le (by simp [itsN]; omega)
    rw [this] at er
    cases er
  refine ⟨hlt', ?_⟩
  rw [List.drop_eq_getElem_cons (by simp [itsN]; exact hlt')] at er
  have := List.cons.inj er
  exact ⟨by rw [this.1]; simp [itsN], this.2⟩
theorem its_nil {b m : Nat} {cs : List (Nat × Array Value)} (hm : m ≤ cs.length) (er : [] = (itsN b cs.length).toList.drop m) : m = cs.length := by
  have := congrArg List.length er
  simp [itsN] at this
  omega
theorem its_ne {b : Nat} {cs : List (Nat × Array Value)} (hn : cs ≠ []) : (itsN b cs.length).isEmpty = false := by
  unfold itsN
  cases cs with
  | nil => exact absurd rfl hn
  | cons q cs => simp
theorem Srcs.step {h' h2 : Heap} {b k m : Nat} {cs : List (Nat × Array Value)} {c : Nat} {xs : Array Value} (hsr : Srcs h' b cs k m) (e1 : cs[m]? = some (c, xs)) (hit2 : SrcIt h2 (b + m) c (k + 1) xs) (sb : Heap.SameBut (b + m) h' h2) : Srcs h2 b cs k (m + 1) := by
  refine ⟨fun j c' xs' hj => ?_, hsr.lo⟩
  by_cases hjm : j = m
  · subst hjm
    rw [e1] at hj
    cases hj
    rw [if_pos (Nat.lt_succ_self _)]
    exact hit2
  · have h0 := hsr.it j c' xs' hj
    have hc := hsr.lo j c' xs' hj
    have ee : (if j < m + 1 then k + 1 else k) = if j < m then k + 1 else k := by
      by_cases hh : j < m
      · rw [if_pos hh, if_pos (by omega)]
      · rw [if_neg hh, if_neg (by omega)]
    rw [ee]
    exact h0.at (fun o q => sb.extBut _ _ (ne_ (by omega)) q) fun o q => sb.extBut _ _ (ne_ (by omega)) q
theorem Srcs.all {h : Heap} {b k : Nat} {cs : List (Nat × Array Value)} (hsr : Srcs h b cs k cs.length) : Srcs h b cs (k + 1) 0 := ⟨fun j c xs hj => by
  have h0 := hsr.it j c xs hj
  rw [if_pos (List.getElem?_eq_some_iff.mp hj).1] at h0
  rw [if_neg (Nat.not_lt_zero _)]
  exact h0, hsr.lo⟩
theorem held_end {b z T : Nat} {cs : List (Nat × Array Value)} {k : Nat} {f : Bool} {oT : Obj} {Q : Fin → Shared → Prop} (hh : A.handled = none) (hz : IsZ s.heap z (b + cs.length) (b + cs.length + 1) (rawInt T) f) (hT : s.heap.get? T = some oT)
    (hzb : b + cs.length + 1 < z) (hTI : IsTupN s.heap (b + cs.length) (itsN b cs.length)) (hs : Srcs s.heap b cs k 0) (hend : ∃ q ∈ cs, q.2.size ≤ k)
    (hE : ∀ h' e, (∀ c o, c ≠ z → (c < b ∨ b + cs.length ≤ c) → s.heap.get? c = some o → h'.get? c = some o) → (∃ o, h'.get? e = some o ∧ o.cls = .type "StopIteration") → E (.ref e) { s with heap := h' }) :
    wpAny (model prog w) A (Builtin.«zip.__next__» ⟨[.ref z], []⟩) Q E s := by
  have some_ : (itsN b cs.length).isEmpty = false := its_ne (b := b) (cs := cs) (fun e => by rw [e] at hend; obtain ⟨q, hq, _⟩ := hend; cases hq)
  unfold Builtin.«zip.__next__»
  generalize free : Builtin.SmallTypes.ownedTupleIsFree = F
  wp_walk using wpAny_seqItems hTI rfl
  subst free
  apply wpAny_tupleHeld_zip hz hT
  intro h1 hz1 hs1
  simp only [Bool.false_eq_true, ↓reduceIte]
  refine wpAny_bind (wpAny_forIn_array' _ (fun rest st s' => ∃ (m : Nat) (h' : Heap), m ≤ cs.length ∧ rest = (itsN b cs.length).toList.drop m ∧ (∃ its, st = (none, its)) ∧ s' = { s with heap := h' } ∧ Srcs h' b cs k m ∧ (∀ j c xs, j < m → cs[j]? = some (c, xs) → k < xs.size) ∧ ∀ c o, c ≠ z → (c < b ∨ b + cs.length ≤ c) → s.heap.get? c = some o → h'.get? c = some o) _ ?_ ?_ _ _ ?_)
  · rintro x rest st s' ⟨m, h', hm, er, ⟨its, rfl⟩, rfl, hsr, hb, hk⟩
    obtain ⟨hlt', rfl, rfl⟩ := its_cons er
    obtain ⟨c, xs, e1⟩ : ∃ c xs, cs[m]? = some (c, xs) := ⟨_, _, List.getElem?_eq_getElem hlt'⟩
    have e3 := hsr.lo m c xs e1
    refine wpAny_bind (wpAny_holding ?_)
    show wpAny _ _ (Builtin.SmallTypes.nextOf (.ref (b + m)) >>= _) _ _ _
    have hit := hsr.it m c xs e1
    rw [if_neg (Nat.lt_irrefl _)] at hit
    cases e2 : xs[k]? with
    | some v =>
      refine wpAny_bind (next_item (s := { s with heap := h' }) hit (by omega) e2 fun h2 hit2 sb => wpAny_pure ?_)
      refine wpAny_pure ⟨m + 1, h2, hlt', rfl, ⟨_, rfl⟩, rfl, hsr.step e1 hit2 sb, fun j c' xs' hj ej => ?_, fun c o h1 h2 h3 => sb.extBut _ _ (ne_ (by omega)) (hk c o h1 h2 h3)⟩
      by_cases hjm : j = m
      · subst hjm
        rw [e1] at ej
        cases ej
        exact (Array.getElem?_eq_some_iff.mp e2).1
      · exact hb j c' xs' (by omega) ej
    | none =>
      exact wpAny_bind (next_end (s := { s with heap := h' }) hh hit e2 fun h2 e sb he => hE h2 e (fun c o h1 h2 h3 => sb _ _ (ne_ (by omega)) (hk c o h1 h2 h3)) he)
  · rintro st s' ⟨m, h', hm, er, ⟨its, rfl⟩, rfl, hsr, hb, hk⟩
    have := its_nil hm er
    subst this
    obtain ⟨q, hq, hqk⟩ := hend
    obtain ⟨j, hj⟩ := List.mem_iff_getElem?.mp hq
    have := hb j q.1 q.2 (List.getElem?_eq_some_iff.mp hj).1 hj
    omega
  · exact ⟨0, h1, Nat.zero_le _, rfl, ⟨_, rfl⟩, rfl, hs.same fun a o hl q => hs1.extBut _ _ (ne_ (by omega)) q, fun j c xs hj => by omega, fun c o h1' _ h3 => hs1.extBut _ _ h1' h3⟩
def upTO (cs : List (Nat × Array Value)) (os : Array Value) (k m : Nat) : Array Value := ((cs.take m).map (fun q => q.2[k]?.getD Value.none) ++ os.toList.drop m).toArray
theorem upTO_zero {cs : List (Nat × Array Value)} {os : Array Value} {k : Nat} : upTO cs os k 0 = os := by simp [upTO]
theorem upTO_all {cs : List (Nat × Array Value)} {os : Array Value} {k : Nat} (h : os.size = cs.length) : upTO cs os k cs.length = (cs.map fun q => q.2[k]?.getD Value.none).toArray := by
  unfold upTO
  rw [List.take_length, List.drop_eq_nil_of_le (by simp [h]), List.append_nil]
theorem upTO_size {cs : List (Nat × Array Value)} {os : Array Value} {k m : Nat} (h : os.size = cs.length) (hm : m ≤ cs.length) : (upTO cs os k m).size = cs.length := by
  simp [upTO]
  omega
theorem upTO_set {cs : List (Nat × Array Value)} {os : Array Value} {k m c : Nat} {xs : Array Value} {v : Value} (e1 : cs[m]? = some (c, xs)) (e2 : xs[k]? = some v) (h : m < os.size) : (upTO cs os k m).setIfInBounds m v = upTO cs os k (m + 1) := by
  have hm : m < cs.length := (List.getElem?_eq_some_iff.mp e1).1
  unfold upTO
  rw [List.setIfInBounds_toArray, List.take_add_one, e1, List.map_append]
  congr 1
  rw [List.set_append_right _ _ (by simp; omega)]
  have hl : m - ((cs.take m).map fun q => q.2[k]?.getD Value.none).length = 0 := by simp; omega
  rw [hl, List.drop_eq_getElem_cons (by simpa using h), List.append_assoc]
  congr 1
  simp [e2]
theorem free_item {b z : Nat} {cs : List (Nat × Array Value)} {os : Array Value} {k : Nat} {Q : Value → Shared → Prop} (hz : IsZ s.heap z (b + cs.length) (b + cs.length + 1) .none false)
    (hzb : b + cs.length + 1 < z) (hTI : IsTupN s.heap (b + cs.length) (itsN b cs.length)) (hTO : IsTupN s.heap (b + cs.length + 1) os) (hos : os.size = cs.length) (hs : Srcs s.heap b cs k 0) (hn : cs ≠ []) (hlt : ∀ q ∈ cs, k < q.2.size) (hsz : cs.length ≤ sizeLine)
    (hQ : ∀ h', IsZ h' z (b + cs.length) (b + cs.length + 1) (rawInt s.heap.objs.size) false → Srcs h' b cs (k + 1) 0 → IsTupN h' s.heap.objs.size (cs.map fun q => q.2[k]?.getD .none).toArray → IsTupN h' (b + cs.length + 1) (cs.map fun q => q.2[k]?.getD .none).toArray → h'.objs.size = s.heap.objs.size + 1 →
      (∀ c o, c ≠ z → c ≠ b + cs.length + 1 → (c < b ∨ b + cs.length ≤ c) → s.heap.get? c = some o → h'.get? c = some o) → Q (.ref s.heap.objs.size) { s with heap := h' }) :
    wpAny (model prog w) A (Builtin.«zip.__next__» ⟨[.ref z], []⟩) (fun fin s' => ∃ v, fin = .done (.ret v) ∧ Q v s') E s := by
  have some_ : (itsN b cs.length).isEmpty = false := its_ne (b := b) (cs := cs) hn
  unfold Builtin.«zip.__next__»
  generalize put : setField = S
  wp_walk using wpAny_seqItems hTI rfl
  subst put
  apply wpAny_setField_rec hz (by simp)
  intro g0 hz0 hs0
  replace hz0 : IsZ g0 z (b + cs.length) (b + cs.length + 1) .ellipsis false := hz0
  replace hs0 : Heap.SameBut z s.heap g0 := hs0
  have key : ∀ j, j < cs.length → ∃ c xs x, cs[j]? = some (c, xs) ∧ xs[k]? = some x ∧ c < b := fun j hj => by
    have e := List.getElem?_eq_getElem hj
    have l := hlt _ (List.getElem_mem hj)
    exact ⟨_, _, _, e, Array.getElem?_eq_getElem l, hs.lo j _ _ e⟩
  refine wpAny_bind (wpAny_forIn_list _ (fun rest st s' => ∃ (m : Nat) (h' : Heap), m ≤ cs.length ∧ rest = ((itsN b cs.length).toList.drop m).zipIdx m ∧ st = (none, ()) ∧ s' = { s with heap := h' } ∧ Srcs h' b cs k m ∧ IsZ h' z (b + cs.length) (b + cs.length + 1) .ellipsis false ∧ IsTupN h' (b + cs.length + 1) (upTO cs os k m) ∧ h'.objs.size = s.heap.objs.size ∧ ∀ c o, c ≠ z → c ≠ b + cs.length + 1 → (c < b ∨ b + cs.length ≤ c) → s.heap.get? c = some o → h'.get? c = some o) _ ?_ ?_ _ _ ?_)
  · rintro ⟨x, i⟩ rest st s' ⟨m, h', hm, er, rfl, rfl, hsr, hz', hT', hsz', hk⟩
    obtain ⟨rest', er1, ei, er2⟩ : ∃ rest', (itsN b cs.length).toList.drop m = x :: rest' ∧ i = m ∧ rest = rest'.zipIdx (m + 1) := by
      cases e : (itsN b cs.length).toList.drop m with
      | nil => rw [e] at er; cases er
      | cons y ys =>
        rw [e, List.zipIdx_cons] at er
        have := List.cons.inj er
        cases this.1
        exact ⟨ys, rfl, rfl, this.2⟩
    subst ei er2
    obtain ⟨hlt', rfl, rfl⟩ := its_cons er1.symm
    obtain ⟨c, xs, v, e1, e2, e3⟩ := key i hlt'
    refine wpAny_bind (wpAny_onRaise ?_)
    show wpAny _ _ (Builtin.SmallTypes.nextOf (.ref (b + i)) >>= _) _ _ _
    have hit := hsr.it i c xs e1
    rw [if_neg (Nat.lt_irrefl _)] at hit
    refine wpAny_bind (next_item (s := { s with heap := h' }) hit (by omega) e2 fun h2 hit2 sb => wpAny_pure ?_)
    have hT2 : IsTupN h2 (b + cs.length + 1) (upTO cs os k i) := sb.extBut _ _ (ne_ (by omega)) hT'
    refine wpAny_bind (wpAny_seqItems hT2 rfl ?_)
    have hus : (upTO cs os k i).size = cs.length := upTO_size hos hm
    refine wpAny_bind (wpAny_updateSeq (s := { s with heap := h2 }) hT2 rfl ?_ (by rw [hus]; exact hsz) (by rw [Array.size_setIfInBounds, hus]; omega))
    refine wpAny_bind (wpAny_letGo (wpAny_pure ?_))
    have e4 := Heap.get?_update_self (Obj.mapSeq (·.setIfInBounds i v)) hT2 rfl
    have sb2 : Heap.SameBut (b + cs.length + 1) h2 (h2.update (b + cs.length + 1) (Obj.mapSeq (·.setIfInBounds i v))) := Heap.SameBut.update ..
    refine ⟨i + 1, _, hlt', rfl, rfl, rfl, (hsr.step e1 hit2 sb).same fun a o hl q => sb2.extBut _ _ (ne_ (by omega)) q, sb2.extBut _ _ (ne_ (by omega)) (sb.extBut _ _ (ne_ (by omega)) hz'), ?_, by rw [sb2.1, sb.1]; exact hsz', fun c o h1 h2 h3 h4 => sb2.extBut _ _ (ne_ (by omega)) (sb.extBut _ _ (ne_ (by omega)) (hk c o h1 h2 h3 h4))⟩
    rw [← upTO_set e1 e2 (by omega)]
    simpa [Obj.mapSeq] using e4
  · rintro st s' ⟨m, h', hm, er, rfl, rfl, hsr, hz', hT', hsz', hk⟩
    have hme : m = cs.length := by
      refine its_nil (b := b) hm ?_
      cases e : (itsN b cs.length).toList.drop m with
      | nil => rfl
      | cons y ys => rw [e] at er; cases er
    subst hme
    rw [upTO_all hos] at hT'
    show wpAny _ _ (seqItems? _ >>= _) _ _ _
    refine wpAny_bind (wpAny_seqItems hT' rfl ?_)
    refine wpAny_bind (wpAny_newTuple ?_ (by simpa using hsz))
    have hzlt : z < h'.objs.size := Heap.lt_size hz'
    show wpAny _ _ (Builtin.SmallTypes.ownedTupleHandOut (.ref z) (.ref h'.objs.size) >>= _) _ _ _
    refine wpAny_bind ?_
    unfold Builtin.SmallTypes.ownedTupleHandOut
    have hz6 : IsZ (h'.push { cls := .type "tuple", data := .seq (cs.map fun q => q.2[k]?.getD Value.none).toArray }) z (b + cs.length) (b + cs.length + 1) .ellipsis false := Heap.get?_push_of_some _ hz'
    refine wpAny_bind (wpAny_setField_rec hz6 (by simp) fun h7 hz7 hs7 => ?_)
    replace hz7 : IsZ h7 z (b + cs.length) (b + cs.length + 1) (rawInt h'.objs.size) false := hz7
    refine wpAny_setField_rec hz7 (by simp) fun h8 hz8 hs8 => ?_
    replace hz8 : IsZ h8 z (b + cs.length) (b + cs.length + 1) (rawInt h'.objs.size) false := hz8
    replace hs7 : Heap.SameBut z (h'.push { cls := .type "tuple", data := .seq (cs.map fun q => q.2[k]?.getD Value.none).toArray }) h7 := hs7
    replace hs8 : Heap.SameBut z h7 h8 := hs8
    have up : ∀ c o, c ≠ z → h'.get? c = some o → h8.get? c = some o := fun c o c1 e => hs8.extBut _ _ c1 (hs7.extBut _ _ c1 (Heap.get?_push_of_some _ e))
    have hT8 : IsTupN h8 h'.objs.size (cs.map fun q => q.2[k]?.getD Value.none).toArray := hs8.extBut _ _ (Nat.ne_of_gt hzlt) (hs7.extBut _ _ (Nat.ne_of_gt hzlt) (Heap.get?_push_size _ rfl))
    have hz9 : h8.objs.size = h'.objs.size + 1 := by rw [hs8.1, hs7.1, Heap.size_push]
    refine wpAny_pure ⟨_, rfl, ?_⟩
    rw [hsz'] at hz8 hT8 hz9
    show Q (.ref h'.objs.size) { s with heap := h8 }
    rw [hsz']
    exact hQ h8 hz8 (hsr.all.same fun a o hl q => up a o (ne_ (by omega)) q) hT8 (up _ _ (ne_ (by omega)) hT') hz9 fun c o h1 h2 h3 h4 => up c o h1 (hk c o h1 h2 h3 h4)
  · exact ⟨0, g0, Nat.zero_le _, rfl, rfl, rfl, hs.same fun a o hl q => hs0.extBut _ _ (ne_ (by omega)) q, hz0, by rw [upTO_zero]; exact hs0.extBut _ _ (ne_ (by omega)) hTO, hs0.1, fun c o h1 _ _ h4 => hs0.extBut _ _ h1 h4⟩
theorem free_end {b z : Nat} {cs : List (Nat × Array Value)} {os : Array Value} {k : Nat} {Q : Fin → Shared → Prop} (hh : A.handled = none) (hz : IsZ s.heap z (b + cs.length) (b + cs.length + 1) .none false)
    (hzb : b + cs.length + 1 < z) (hTI : IsTupN s.heap (b + cs.length) (itsN b cs.length)) (hTO : IsTupN s.heap (b + cs.length + 1) os) (hos : os.size = cs.length) (hs : Srcs s.heap b cs k 0) (hend : ∃ q ∈ cs, q.2.size ≤ k) (hsz : cs.length ≤ sizeLine)
    (hE : ∀ h' e, (∀ c o, c ≠ z → c ≠ b + cs.length + 1 → (c < b ∨ b + cs.length ≤ c) → s.heap.get? c = some o → h'.get? c = some o) → (∃ o, h'.get? e = some o ∧ o.cls = .type "StopIteration") → E (.ref e) { s with heap := h' }) :
    wpAny (model prog w) A (Builtin.«zip.__next__» ⟨[.ref z], []⟩) Q E s := by
  have some_ : (itsN b cs.length).isEmpty = false := its_ne (b := b) (cs := cs) (fun e => by rw [e] at hend; obtain ⟨q, hq, _⟩ := hend; cases hq)
  unfold Builtin.«zip.__next__»
  generalize put : setField = S
  wp_walk using wpAny_seqItems hTI rfl
  subst put
  apply wpAny_setField_rec hz (by simp)
  intro g0 hz0 hs0
  replace hz0 : IsZ g0 z (b + cs.length) (b + cs.length + 1) .ellipsis false := hz0
  replace hs0 : Heap.SameBut z s.heap g0 := hs0
  refine wpAny_bind (wpAny_forIn_list _ (fun rest st s' => ∃ (m : Nat) (h' : Heap), m ≤ cs.length ∧ rest = ((itsN b cs.length).toList.drop m).zipIdx m ∧ st = (none, ()) ∧ s' = { s with heap := h' } ∧ Srcs h' b cs k m ∧ IsZ h' z (b + cs.length) (b + cs.length + 1) .ellipsis false ∧ IsTupN h' (b + cs.length + 1) (upTO cs os k m) ∧ (∀ j c xs, j < m → cs[j]? = some (c, xs) → k < xs.size) ∧ ∀ c o, c ≠ z → c ≠ b + cs.length + 1 → (c < b ∨ b + cs.length ≤ c) → s.heap.get? c = some o → h'.get? c = some o) _ ?_ ?_ _ _ ?_)
  · rintro ⟨x, i⟩ rest st s' ⟨m, h', hm, er, rfl, rfl, hsr, hz', hT', hb, hk⟩
    obtain ⟨rest', er1, ei, er2⟩ : ∃ rest', (itsN b cs.length).toList.drop m = x :: rest' ∧ i = m ∧ rest = rest'.zipIdx (m + 1) := by
      cases e : (itsN b cs.length).toList.drop m with
      | nil => rw [e] at er; cases er
      | cons y ys =>
        rw [e, List.zipIdx_cons] at er
        have := List.cons.inj er
        cases this.1
        exact ⟨ys, rfl, rfl, this.2⟩
    subst ei er2
    obtain ⟨hlt', rfl, rfl⟩ := its_cons er1.symm
    obtain ⟨c, xs, e1⟩ : ∃ c xs, cs[i]? = some (c, xs) := ⟨_, _, List.getElem?_eq_getElem hlt'⟩
    have e3 := hsr.lo i c xs e1
    refine wpAny_bind (wpAny_onRaise ?_)
    show wpAny _ _ (Builtin.SmallTypes.nextOf (.ref (b + i)) >>= _) _ _ _
    have hit := hsr.it i c xs e1
    rw [if_neg (Nat.lt_irrefl _)] at hit
    cases e2 : xs[k]? with
    | none =>
      refine wpAny_bind (next_end (s := { s with heap := h' }) hh hit e2 fun h2 e sb he => ?_)
      have hz2 : IsZ h2 z (b + cs.length) (b + cs.length + 1) .ellipsis false := sb _ _ (ne_ (by omega)) hz'
      obtain ⟨oe, hoe, hce⟩ := he
      have hez : e ≠ z := fun x => by subst x; rw [hz2] at hoe; cases hoe; simp at hce
      refine wpAny_setField_rec (s := { s with heap := h2 }) hz2 (by simp) fun h3 _ hs3 => hE h3 e (fun c o h1 h2 h3' h4 => hs3.extBut _ _ h1 (sb _ _ (ne_ (by omega)) (hk c o h1 h2 h3' h4))) ⟨oe, hs3.extBut _ _ hez hoe, hce⟩
    | some v =>
      refine wpAny_bind (next_item (s := { s with heap := h' }) hit (by omega) e2 fun h2 hit2 sb => wpAny_pure ?_)
      have hT2 : IsTupN h2 (b + cs.length + 1) (upTO cs os k i) := sb.extBut _ _ (ne_ (by omega)) hT'
      refine wpAny_bind (wpAny_seqItems hT2 rfl ?_)
      have hus : (upTO cs os k i).size = cs.length := upTO_size hos hm
      refine wpAny_bind (wpAny_updateSeq (s := { s with heap := h2 }) hT2 rfl ?_ (by rw [hus]; exact hsz) (by rw [Array.size_setIfInBounds, hus]; omega))
      refine wpAny_bind (wpAny_letGo (wpAny_pure ?_))
      have e4 := Heap.get?_update_self (Obj.mapSeq (·.setIfInBounds i v)) hT2 rfl
      have sb2 : Heap.SameBut (b + cs.length + 1) h2 (h2.update (b + cs.length + 1) (Obj.mapSeq (·.setIfInBounds i v))) := Heap.SameBut.update ..
      refine ⟨i + 1, _, hlt', rfl, rfl, rfl, (hsr.step e1 hit2 sb).same fun a o hl q => sb2.extBut _ _ (ne_ (by omega)) q, sb2.extBut _ _ (ne_ (by omega)) (sb.extBut _ _ (ne_ (by omega)) hz'), ?_, fun j c' xs' hj ej => ?_, fun c o h1 h2 h3 h4 => sb2.extBut _ _ (ne_ (by omega)) (sb.extBut _ _ (ne_ (by omega)) (hk c o h1 h2 h3 h4))⟩
      · rw [← upTO_set e1 e2 (by omega)]
        simpa [Obj.mapSeq] using e4
      · by_cases hjm : j = i
        · subst hjm
          rw [e1] at ej
          cases ej
          exact (Array.getElem?_eq_some_iff.mp e2).1
        · exact hb j c' xs' (by omega) ej
  · rintro st s' ⟨m, h', hm, er, rfl, rfl, hsr, hz', hT', hb, hk⟩
    have hme : m = cs.length := by
      refine its_nil (b := b) hm ?_
      cases e : (itsN b cs.length).toList.drop m with
      | nil => rfl
      | cons y ys => rw [e] at er; cases er
    subst hme
    obtain ⟨q, hq, hqk⟩ := hend
    obtain ⟨j, hj⟩ := List.mem_iff_getElem?.mp hq
    have := hb j q.1 q.2 (List.getElem?_eq_some_iff.mp hj).1 hj
    omega
  · exact ⟨0, g0, Nat.zero_le _, rfl, rfl, rfl, hs.same fun a o hl q => hs0.extBut _ _ (ne_ (by omega)) q, hz0, by rw [upTO_zero]; exact hs0.extBut _ _ (ne_ (by omega)) hTO, fun j c xs hj => by omega, fun c o h1 _ _ h4 => hs0.extBut _ _ h1 h4⟩
end
end Zn

namespace Zn
open PySem
/-- a zip at b + n + 2 over the iterators from b on; k items were drawn, and are still there -/
structure Zst (h : Heap) (b : Nat) (cs : List (Nat × Array Value)) (k : Nat) : Prop where
  ti : IsTupN h (b + cs.length) (itsN b cs.length)
  sr : Srcs h b cs k 0
  st : (∃ os, IsZ h (b + cs.length + 2) (b + cs.length) (b + cs.length + 1) .none false ∧ IsTupN h (b + cs.length + 1) os ∧ os.size = cs.length) ∨ ∃ (T : Nat) (f : Bool) (oT : Obj), IsZ h (b + cs.length + 2) (b + cs.length) (b + cs.length + 1) (rawInt T) f ∧ h.get? T = some oT ∧ b + cs.length + 2 < T
theorem Zst.typ {s : Shared} {b : Nat} {cs : List (Nat × Array Value)} {k : Nat} (z : Zst s.heap b cs k) : s.TypeIs (.ref (b + cs.length + 2)) "zip" := by
  rcases z.st with ⟨os, h, _⟩ | ⟨T, f, oT, h, _⟩
  · exact ⟨_, h, rfl⟩
  · exact ⟨_, h, rfl⟩
theorem Zst.keep {h h' : Heap} {b : Nat} {cs : List (Nat × Array Value)} {k : Nat} (z : Zst h b cs k) (e : ∀ a o, a ≤ b + cs.length + 2 → h.get? a = some o → h'.get? a = some o) (e2 : ∀ a o, h.get? a = some o → ∃ o', h'.get? a = some o') : Zst h' b cs k := by
  refine ⟨e _ _ (by omega) z.ti, z.sr.same fun a o hl q => e a o (by omega) q, ?_⟩
  rcases z.st with ⟨os, h1, h2, h3⟩ | ⟨T, f, oT, h1, h2, h3⟩
  · exact .inl ⟨os, e _ _ (by omega) h1, e _ _ (by omega) h2, h3⟩
  · obtain ⟨o', ho⟩ := e2 T oT h2
    exact .inr ⟨T, f, o', e _ _ (by omega) h1, ho, h3⟩
theorem zip_no_len : typeLookup (.type "zip") "__len__" = pure none := by rw [typeLookup_type, builtinLookup_eq_fast]; kernel_rfl
theorem zip_no_hint : typeLookup (.type "zip") "__length_hint__" = pure none := by rw [typeLookup_type, builtinLookup_eq_fast]; kernel_rfl
section
variable {prog : Program} {w : World} {A : Around} {E : Value → Shared → Prop} {s : Shared}
/-- a turn of the zip at p: what its own next answers, or its end -/
theorem next_road {p : Nat} {Q : Option Value → Shared → Prop} (ty : s.TypeIs (.ref p) "zip")
    (own : wpAny (model prog w) A.in1 (Builtin.«zip.__next__» ⟨[.ref p], []⟩) (fun fin s' => ∃ v, fin = .done (.ret v) ∧ Q (some v) s') (fun e s' => ∃ a o, e = .ref a ∧ s'.heap.get? a = some o ∧ o.cls = .type "StopIteration" ∧ Q none s') s) :
    wpAny (model prog w) A (pyNext (.ref p)) Q E s := by
  unfold pyNext
  apply wpAny_bind
  apply wpAny_attempt
  apply wpAny_callSpecial?_slot ty F.slot_zip_next
  apply wpAny_call_entry F.slot_zip_next ty F.entry_zip_next _ (F.args_zip_next_1 _)
  apply wpAny_mono own
  · rintro _ s' ⟨v, rfl, q⟩
    exact ⟨v, rfl, wpAny_pure q⟩
  · rintro _ s' ⟨a, o, rfl, at_, stop, q⟩
    apply wpAny_bind
    exact wpAny_isInstance ⟨o, at_, stop⟩ isSubtype_stop (wpAny_pure q)
theorem zs_item {b : Nat} {cs : List (Nat × Array Value)} {k : Nat} {Q : Option Value → Shared → Prop} (z : Zst s.heap b cs k) (hlt : b + cs.length + 2 < s.heap.objs.size) (hn : cs ≠ []) (hk : ∀ q ∈ cs, k < q.2.size) (hsz : cs.length ≤ sizeLine)
    (hQ : ∀ h', Zst h' b cs (k + 1) → IsTupN h' s.heap.objs.size (cs.map fun q => q.2[k]?.getD .none).toArray → h'.objs.size = s.heap.objs.size + 1 → (∀ c o, (c < b ∨ b + cs.length + 2 < c) → s.heap.get? c = some o → h'.get? c = some o) → Q (some (.ref s.heap.objs.size)) { s with heap := h' }) :
    wpAny (model prog w) A (pyNext (.ref (b + cs.length + 2))) Q E s := by
  apply next_road z.typ
  rcases z.st with ⟨os, free, out, size⟩ | ⟨T, f, oT, held, there, below⟩
  · refine free_item free (by omega) z.ti out size z.sr hn hk hsz fun h' z1 sr new _ more keeps => ?_
    have ti := keeps _ _ (by omega) (by omega) (.inr (by omega)) z.ti
    exact hQ h' ⟨ti, sr, .inr ⟨_, _, _, z1, new, hlt⟩⟩ new more fun c o side e => keeps c o (by omega) (by omega) (by omega) e
  · refine held_item held there (by omega) z.ti z.sr hn hk hsz fun h' z1 sr new more keeps => ?_
    have ti := keeps _ _ (by omega) (.inr (by omega)) z.ti
    have last := keeps _ _ (by omega) (.inr (by omega)) there
    exact hQ h' ⟨ti, sr, .inr ⟨T, _, _, z1, last, below⟩⟩ new more fun c o side e => keeps c o (by omega) (by omega) e
theorem zs_end {b : Nat} {cs : List (Nat × Array Value)} {k : Nat} {Q : Option Value → Shared → Prop} (hh : A.in1.handled = none) (z : Zst s.heap b cs k) (hend : ∃ q ∈ cs, q.2.size ≤ k) (hsz : cs.length ≤ sizeLine)
    (hQ : ∀ h', (∀ c o, (c < b ∨ b + cs.length + 2 < c) → s.heap.get? c = some o → h'.get? c = some o) → Q none { s with heap := h' }) :
    wpAny (model prog w) A (pyNext (.ref (b + cs.length + 2))) Q E s := by
  apply next_road z.typ
  rcases z.st with ⟨os, free, out, size⟩ | ⟨T, f, oT, held, there, below⟩
  · refine free_end hh free (by omega) z.ti out size z.sr hend hsz fun h' a keeps ⟨o, at_, stop⟩ => ?_
    exact ⟨a, o, rfl, at_, stop, hQ h' fun c o side e => keeps c o (by omega) (by omega) (by omega) e⟩
  · refine held_end hh held there (by omega) z.ti z.sr hend fun h' a keeps ⟨o, at_, stop⟩ => ?_
    exact ⟨a, o, rfl, at_, stop, hQ h' fun c o side e => keeps c o (by omega) (by omega) e⟩
theorem zs_iter {b : Nat} {cs : List (Nat × Array Value)} {k : Nat} {Q : Value → Shared → Prop} (z : Zst s.heap b cs k) (h : Q (.ref (b + cs.length + 2)) s) : wpAny (model prog w) A (pyIter (.ref (b + cs.length + 2))) Q E s := by
  apply wpAny_pyIter_slot z.typ F.slot_zip_iter
  apply wpAny_call_entry F.slot_zip_iter z.typ F.entry_zip_iter _ (F.args_zip_iter_1 _)
  apply wpAny_pure
  exact ⟨_, rfl, "zip", _, z.typ, F.slot_zip_next.lookup, h⟩
end
/-- the tuples that were made, as many as the shortest has items -/
structure Mde (cs : List (Nat × Array Value)) (lo : Nat) (h : Heap) (as : List Nat) : Prop where
  rise : as.Pairwise (· < ·)
  above : ∀ a ∈ as, lo < a
  there : ∀ (j a : Nat), as[j]? = some a → IsTupN h a (cs.map fun q => q.2[j]?.getD .none).toArray
section
variable {prog : Program} {w : World} {A : Around} {s : Shared} {R : Result → Shared → Prop}
/-- one round of a list's filling by the iterator at p -/
theorem loop_road {S p : Nat} {res : Value}
    (turn : wpAny (model prog w) A.in1 (pyNext (.ref p)) (fun r s' => match r with
      | none => R (.ok (.ret res)) s'
      | some v => wpAny (model prog w) A.in1 (updateSeq S (·.push v)) (fun _ s2 => codeAny (model prog w) A (.builtin "list.extend.loop" ⟨[.ref S, .ref p, res], []⟩) R s2) (fun e s2 => R (.error e) s2) s') (fun e s' => R (.error e) s') s) :
    codeAny (model prog w) A (.builtin "list.extend.loop" ⟨[.ref S, .ref p, res], []⟩) R s := by
  apply codeAny_builtin PySem.F.entry_extend_loop
  have plain := Around.under_plainId (A := A) PySem.F.plain_extend_loop ⟨[.ref S, .ref p, res], []⟩
  rw [plain]
  apply wpAny_bind
  apply wpAny_mono turn _ fun _ _ z => z
  intro r s' h
  cases r with
  | none => exact wpAny_pure h
  | some v =>
    apply wpAny_bind
    apply wpAny_mono h _ fun _ _ z => z
    intro _ s2 on
    exact wpAny_pure ⟨plainId_quiet PySem.F.plain_extend_loop _, on⟩
/-- one more tuple was made -/
theorem Mde.more {cs : List (Nat × Array Value)} {S n : Nat} {h h2 : Heap} {as : List Nat} (g : Mde cs S h as) (S0 : S < n) (low : ∀ a ∈ as, a < n) (keep : ∀ a o, S < a → h.get? a = some o → h2.get? a = some o) (new : IsTupN h2 n (cs.map fun q => q.2[as.length]?.getD .none).toArray) : Mde cs S h2 (as ++ [n]) := by
  refine ⟨List.pairwise_append.mpr ⟨g.rise, List.pairwise_singleton _ _, fun a ha c hc => ?_⟩, fun a ha => ?_, fun j a hj => ?_⟩
  · rw [List.mem_singleton.mp hc]
    exact low a ha
  · rcases List.mem_append.mp ha with h1 | h1
    · exact g.above a h1
    · rw [List.mem_singleton.mp h1]
      exact S0
  · have lt := (List.getElem?_eq_some_iff.mp hj).1
    simp only [List.length_append, List.length_singleton] at lt
    by_cases last : j = as.length
    · subst last
      obtain rfl : n = a := by simpa using hj
      exact new
    · rw [List.getElem?_append_left (by omega)] at hj
      exact keep a _ (g.above a (List.mem_of_getElem? hj)) (g.there j a hj)
theorem loopZ {b S n : Nat} {cs : List (Nat × Array Value)} (hh : A.in1.handled = none) (hn : cs ≠ []) (hsz : cs.length ≤ sizeLine) (hS : b + cs.length + 2 < S) (res : Value) {h1 : Heap} (hl : ∀ q ∈ cs, n ≤ q.2.size) (he : ∃ q ∈ cs, q.2.size ≤ n) (hns : n ≤ sizeLine)
    (hR : ∀ h' acc c as, (∀ a o, a < b → h1.get? a = some o → h'.get? a = some o) → h'.get? S = some { cls := .type "list", dict := none, data := .seq acc c, slots := #[] } → as.length = n → Mde cs S h' as → acc.toList = as.map Value.ref → R (.ok (.ret res)) { s with heap := h' }) :
    ∀ (k i : Nat) (h : Heap) (c : Nat) (acc : Array Value) (as : List Nat), n - i = k → i ≤ n → Zst h b cs i → (∀ a o, a < b → h1.get? a = some o → h.get? a = some o) →
      h.get? S = some { cls := .type "list", dict := none, data := .seq acc c, slots := #[] } → acc.toList = as.map Value.ref → as.length = i → Mde cs S h as →
      codeAny (model prog w) A (.builtin "list.extend.loop" ⟨[.ref S, .ref (b + cs.length + 2), res], []⟩) R { s with heap := h } := by
  intro k
  induction k with
  | zero =>
    intro i h c acc as hk hi z hkeep hSl hacc hal hG
    obtain rfl : i = n := by omega
    apply loop_road
    refine zs_end (s := { s with heap := h }) (A := A.in1) hh z he hsz fun h' far => ?_
    have made : Mde cs S h' as := ⟨hG.rise, hG.above, fun j a hj => far a _ (.inr (Nat.lt_trans hS (hG.above a (List.mem_of_getElem? hj)))) (hG.there j a hj)⟩
    exact hR h' acc c as (fun a o ha e => far a o (.inl ha) (hkeep a o ha e)) (far S _ (.inr hS) hSl) hal made hacc
  | succ k ih =>
    intro i h c acc as hk hi z hkeep hSl hacc hal hG
    have on : i < n := by omega
    have top : S < h.objs.size := Heap.lt_size hSl
    have many : acc.size = i := by simpa [hal] using congrArg List.length hacc
    apply loop_road
    refine zs_item (s := { s with heap := h }) (A := A.in1) z (show _ < h.objs.size by omega) hn (fun q hq => Nat.lt_of_lt_of_le on (hl q hq)) hsz fun h' z' new size far => ?_
    have inS := far S _ (.inr hS) hSl
    have put := Heap.get?_update_self (Obj.mapSeq (·.push (.ref h.objs.size))) inS rfl
    have rest : ∀ a o, a ≠ S → h'.get? a = some o → (h'.update S (Obj.mapSeq (·.push (.ref h.objs.size)))).get? a = some o := fun a o ha e => by
      rw [Heap.get?_update_other _ _ (Ne.symm ha)]
      exact e
    refine wpAny_updateSeq (s := { s with heap := h' }) inS rfl ?_ (by omega) (by rw [Array.size_push]; omega)
    refine ih (i + 1) _ _ _ (as ++ [h.objs.size]) (by omega) on (z'.keep (fun a o ha e => rest a o (ne_ (by omega)) e) fun a o e => ?_) (fun a o ha e => rest a o (ne_ (by omega)) (far a o (.inl ha) (hkeep a o ha e))) put (by simp [hacc]) (by simp [hal]) ?_
    · by_cases ha : a = S
      · rw [ha]
        exact ⟨_, put⟩
      · exact ⟨o, rest a o ha e⟩
    · refine hG.more top (fun a ha => ?_) (fun a o ha e => rest a o (ne_ (by omega)) (far a o (.inr (by omega)) e)) ?_
      · obtain ⟨j, hj⟩ := List.mem_iff_getElem?.mp ha
        exact Heap.lt_size (hG.there j a hj)
      · rw [hal]
        exact rest _ _ (ne_ (by omega)) new
theorem extZ {b S n : Nat} {cs : List (Nat × Array Value)} (hh : A.in1.handled = none) (hn : cs ≠ []) (hsz : cs.length ≤ sizeLine) (hS : b + cs.length + 2 < S) (res : Value) (hl : ∀ q ∈ cs, n ≤ q.2.size) (he : ∃ q ∈ cs, q.2.size ≤ n) (hns : n ≤ sizeLine) (z : Zst s.heap b cs 0) (c0 : Nat) (hSl : s.heap.get? S = some { cls := .type "list", data := .seq #[] c0 })
    (hR : ∀ h' acc c as, (∀ a o, a < b → s.heap.get? a = some o → h'.get? a = some o) → h'.get? S = some { cls := .type "list", dict := none, data := .seq acc c, slots := #[] } → as.length = n → Mde cs S h' as → acc.toList = as.map Value.ref → R (.ok (.ret res)) { s with heap := h' }) :
    wpAny (model prog w) A.in1 (Builtin.List.listExtendWith (.ref S) (.ref (b + cs.length + 2)) res)
      (fun fin s' => match fin with | .done f => R (.ok f) s' | .again c' => c'.quiet = true ∧ codeAny (model prog w) A c' R s') (fun e s' => R (.error e) s') s := by
  have other : Builtin.List.listSameRef (.ref S) (.ref (b + cs.length + 2)) = false := by
    have ne : S ≠ b + cs.length + 2 := by omega
    simp [Builtin.List.listSameRef, ne]
  have ty := z.typ
  have n1 : (Value.type "zip" == Value.type "list") = false := by decide
  have n2 : (Value.type "zip" == Value.type "tuple") = false := by decide
  have n3 := zip_no_len
  have n4 := zip_no_hint
  unfold Builtin.List.listExtendWith
  generalize hPI : pyIter = PI
  wp_walk
  subst hPI
  apply zs_iter z
  unfold Builtin.List.listLengthHint Builtin.List.listTouch Builtin.List.listUpdate
  generalize hU : updateSeq = U
  wp_walk
  subst hU
  have once := Heap.get?_update_self (Obj.mapSeq (·.push Value.none)) hSl rfl
  have twice := Heap.get?_update_self (Obj.mapSeq (·.pop)) once rfl
  have rest : ∀ a o, a ≠ S → s.heap.get? a = some o → ((s.heap.update S (Obj.mapSeq (·.push Value.none))).update S (Obj.mapSeq (·.pop))).get? a = some o := fun a o ha e => by
    rw [Heap.get?_update_other _ _ (Ne.symm ha), Heap.get?_update_other _ _ (Ne.symm ha)]
    exact e
  apply wpAny_updateSeq hSl rfl
  apply wpAny_updateSeq (hz := by seq_fits) once rfl
  apply wpAny_pure
  refine ⟨plainId_quiet PySem.F.plain_extend_loop _, loopZ hh hn hsz hS res hl he hns hR n 0 _ _ #[] [] (Nat.sub_zero _) (Nat.zero_le _) (z.keep (fun a o ha e => rest a o (ne_ (by omega)) e) fun a o e => ?_) (fun a o ha e => rest a o (ne_ (by omega)) e) twice rfl rfl ⟨.nil, by simp, by simp⟩⟩
  by_cases ha : a = S
  · rw [ha]
    exact ⟨_, twice⟩
  · exact ⟨o, rest a o ha e⟩
end
section
variable {prog : Program} {w : World} {A : Around} {E : Value → Shared → Prop} {s : Shared}
theorem call_list_zip {b n : Nat} {cs : List (Nat × Array Value)} {Q : Value → Shared → Prop} (hh : A.handled = none) (hn : cs ≠ []) (hsz : cs.length ≤ sizeLine) (hb : b + cs.length + 2 < s.heap.objs.size) (hl : ∀ q ∈ cs, n ≤ q.2.size) (he : ∃ q ∈ cs, q.2.size ≤ n) (hns : n ≤ sizeLine) (z : Zst s.heap b cs 0)
    (hQ : ∀ h' acc c as, (∀ a o, a < b → s.heap.get? a = some o → h'.get? a = some o) → h'.get? s.heap.objs.size = some { cls := .type "list", dict := none, data := .seq acc c, slots := #[] } → as.length = n → Mde cs s.heap.objs.size h' as → acc.toList = as.map Value.ref → Q (.ref s.heap.objs.size) { s with heap := h' }) :
    wpAny (model prog w) A (call (.type "list") [.ref (b + cs.length + 2)]) Q E s := by
  apply callType_codes (Q₁ := fun v s₁ => v = .ref s.heap.objs.size ∧ s₁ = { s with heap := s.heap.push { cls := .type "list", data := .seq #[] } }) PySem.F.called_list (PySem.F.typeCall_list_1 _) PySem.F.entry_list_init (PySem.code_list_new _ ⟨rfl, rfl⟩)
  rintro _ _ ⟨rfl, rfl⟩
  have fresh : (s.heap.push { cls := .type "list", data := .seq #[] }).get? s.heap.objs.size = some { cls := .type "list", data := .seq #[] } := Heap.get?_push_size _ rfl
  have bare := Heap.get?_update_self (Obj.mapSeq fun _ => #[]) fresh rfl
  have old : ∀ a o, s.heap.get? a = some o → ((s.heap.push { cls := .type "list", data := .seq #[] }).update s.heap.objs.size (Obj.mapSeq fun _ => #[])).get? a = some o := fun a o e => by
    rw [Heap.get?_update_other _ _ (Nat.ne_of_gt (Heap.lt_size e))]
    exact Heap.get?_push_of_some _ e
  refine ⟨⟨_, fresh, rfl⟩, PySem.F.args_list_init_2 _ _, ?_⟩
  unfold Builtin.«list.__init__»
  generalize hX : Builtin.List.listExtendWith = X
  unfold Builtin.List.listItems Builtin.List.listUpdate
  generalize hU : updateSeq = U
  wp_walk using wpAny_seqItems fresh rfl
  subst hU hX
  apply wpAny_updateSeq fresh rfl
  apply wpAny_bind
  apply wpAny_letGo
  refine extZ (A := A.in1) hh hn hsz hb .none hl he hns (z.keep (fun a o _ e => old a o e) fun a o e => ⟨o, old a o e⟩) _ bare fun h' acc c as far inS many made items => ?_
  exact ⟨rfl, hQ h' acc c as (fun a o ha e => far a o ha (old a o e)) inS many made items⟩
end
end Zn

namespace Zn
open PySem PySem.F
theorem typeCall_zip (as : List Value) : checkTypeCall "zip" ⟨as, []⟩ = pure () := by kernel_rfl
theorem newCall_zip : ∀ (as : List Value), as.length ≤ 16 → checkBuiltinCall "zip.__new__" ⟨.type "zip" :: as, []⟩ = pure ()
  | [], _ => by kernel_rfl
  | [_], _ => by kernel_rfl
  | [_, _], _ => by kernel_rfl
  | [_, _, _], _ => by kernel_rfl
  | [_, _, _, _], _ => by kernel_rfl
  | [_, _, _, _, _], _ => by kernel_rfl
  | [_, _, _, _, _, _], _ => by kernel_rfl
  | [_, _, _, _, _, _, _], _ => by kernel_rfl
  | [_, _, _, _, _, _, _, _], _ => by kernel_rfl
  | [_, _, _, _, _, _, _, _, _], _ => by kernel_rfl
  | [_, _, _, _, _, _, _, _, _, _], _ => by kernel_rfl
  | [_, _, _, _, _, _, _, _, _, _, _], _ => by kernel_rfl
  | [_, _, _, _, _, _, _, _, _, _, _, _], _ => by kernel_rfl
  | [_, _, _, _, _, _, _, _, _, _, _, _, _], _ => by kernel_rfl
  | [_, _, _, _, _, _, _, _, _, _, _, _, _, _], _ => by kernel_rfl
  | [_, _, _, _, _, _, _, _, _, _, _, _, _, _, _], _ => by kernel_rfl
  | [_, _, _, _, _, _, _, _, _, _, _, _, _, _, _, _], _ => by kernel_rfl
  | _ :: _ :: _ :: _ :: _ :: _ :: _ :: _ :: _ :: _ :: _ :: _ :: _ :: _ :: _ :: _ :: _ :: _, h => by simp at h
theorem args_oinit (a : Value) (as : List Value) (few : as.length ≤ 16) : argsOk "object.__init__" ⟨a :: as, []⟩ := by
  unfold argsOk
  rw [signature?_of (id := "object.__init__") (n := "__tini__".toList) (o := "tcejbo".toList) (by kernel_rfl) owner_object]
  exact match as, few with
  | [], _ => by kernel_rfl
  | [_], _ => by kernel_rfl
  | [_, _], _ => by kernel_rfl
  | [_, _, _], _ => by kernel_rfl
  | [_, _, _, _], _ => by kernel_rfl
  | [_, _, _, _, _], _ => by kernel_rfl
  | [_, _, _, _, _, _], _ => by kernel_rfl
  | [_, _, _, _, _, _, _], _ => by kernel_rfl
  | [_, _, _, _, _, _, _, _], _ => by kernel_rfl
  | [_, _, _, _, _, _, _, _, _], _ => by kernel_rfl
  | [_, _, _, _, _, _, _, _, _, _], _ => by kernel_rfl
  | [_, _, _, _, _, _, _, _, _, _, _], _ => by kernel_rfl
  | [_, _, _, _, _, _, _, _, _, _, _, _], _ => by kernel_rfl
  | [_, _, _, _, _, _, _, _, _, _, _, _, _], _ => by kernel_rfl
  | [_, _, _, _, _, _, _, _, _, _, _, _, _, _], _ => by kernel_rfl
  | [_, _, _, _, _, _, _, _, _, _, _, _, _, _, _], _ => by kernel_rfl
  | [_, _, _, _, _, _, _, _, _, _, _, _, _, _, _, _], _ => by kernel_rfl
  | _ :: _ :: _ :: _ :: _ :: _ :: _ :: _ :: _ :: _ :: _ :: _ :: _ :: _ :: _ :: _ :: _ :: _, h => by simp at h
end Zn

namespace Zn
open PySem PySem.F
def SrcV (h : Heap) (c : Nat) (xs : Array Value) : Prop := h.IsList c xs ∨ h.IsTuple c xs
theorem SrcV.at {h h' : Heap} {c : Nat} {xs : Array Value} (v : SrcV h c xs) (k : ∀ o, h.get? c = some o → h'.get? c = some o) : SrcV h' c xs := by
  rcases v with a | a
  · exact .inl (a.at k)
  · exact .inr (a.at k)
section
variable {prog : Program} {w : World} {A : Around} {E : Value → Shared → Prop} {s : Shared}
theorem iter_src {c : Nat} {xs : Array Value} {Q : Value → Shared → Prop} (v : SrcV s.heap c xs)
    (h : ∀ h', SrcIt h' s.heap.objs.size c 0 xs → h'.objs.size = s.heap.objs.size + 1 → (∀ a o, s.heap.get? a = some o → h'.get? a = some o) → Q (.ref s.heap.objs.size) { s with heap := h' }) : wpAny (model prog w) A (pyIter (.ref c)) Q E s := by
  rcases v with a | a
  · exact wpAny_pyIter_list a (h _ (.inl ⟨⟨_, Heap.get?_push_size _ rfl, rfl, rfl⟩, a.at fun o e => Heap.get?_push_of_some _ e⟩) (Heap.size_push ..) fun b o e => Heap.get?_push_of_some _ e)
  · exact wpAny_pyIter_tuple a (h _ (.inr ⟨⟨_, Heap.get?_push_size _ rfl, rfl, rfl⟩, a.at fun o e => Heap.get?_push_of_some _ e⟩) (Heap.size_push ..) fun b o e => Heap.get?_push_of_some _ e)
theorem iterAll_src {cs : List (Nat × Array Value)} {Q : List Value → Shared → Prop} (hv : ∀ q ∈ cs, SrcV s.heap q.1 q.2) (hlo : ∀ q ∈ cs, q.1 < s.heap.objs.size)
    (h : ∀ h', Srcs h' s.heap.objs.size cs 0 0 → h'.objs.size = s.heap.objs.size + cs.length → (∀ a o, s.heap.get? a = some o → h'.get? a = some o) → Q (itsN s.heap.objs.size cs.length).toList { s with heap := h' }) :
    wpAny (model prog w) A (Builtin.SmallTypes.iterAll (cs.map fun q => .ref q.1)) Q E s := by
  unfold Builtin.SmallTypes.iterAll
  refine wpAny_bind (wpAny_forIn_list _ (fun rest st s' => ∃ (m : Nat) (h' : Heap), m ≤ cs.length ∧ rest = (cs.drop m).map (fun q => Value.ref q.1) ∧ st = (itsN s.heap.objs.size m) ∧ s' = { s with heap := h' } ∧ (∀ j c xs, j < m → cs[j]? = some (c, xs) → SrcIt h' (s.heap.objs.size + j) c 0 xs) ∧ h'.objs.size = s.heap.objs.size + m ∧ ∀ a o, s.heap.get? a = some o → h'.get? a = some o) _ ?_ ?_ _ _ ?_)
  · rintro x rest st s' ⟨m, h', hm, er, rfl, rfl, hsr, hsz, hk⟩
    have hlt : m < cs.length := by
      apply Decidable.byContradiction
      intro z
      rw [List.drop_eq_nil_of_le (by omega)] at er
      cases er
    rw [List.drop_eq_getElem_cons hlt, List.map_cons] at er
    obtain ⟨rfl, rfl⟩ := List.cons.inj er
    have e1 := List.getElem?_eq_getElem hlt
    have hq := List.getElem_mem hlt
    refine wpAny_bind (wpAny_holding (iter_src (s := { s with heap := h' }) ((hv _ hq).at fun o e => hk _ o e) fun h2 hit hz hk2 => wpAny_pure ⟨m + 1, h2, hlt, rfl, ?_, rfl, fun j c xs hj ej => ?_, ?_, fun a o e => hk2 a o (hk a o e)⟩))
    · show (itsN s.heap.objs.size m).push (.ref h'.objs.size) = _
      rw [hsz]
      unfold itsN
      rw [List.range_succ, List.map_append]
      simp
    · by_cases hjm : j = m
      · subst hjm
        rw [e1] at ej
        have := Option.some.inj ej
        have hit' : SrcIt h2 h'.objs.size cs[j].1 0 cs[j].2 := hit
        rw [this, hsz] at hit'
        exact hit'
      · exact (hsr j c xs (by omega) ej).at (fun o e => hk2 _ o e) fun o e => hk2 _ o e
    · rw [hz]
      show h'.objs.size + 1 = _
      omega
  · rintro st s' ⟨m, h', hm, er, rfl, rfl, hsr, hsz, hk⟩
    have : m = cs.length := by
      have := congrArg List.length er
      simp at this
      omega
    subst this
    exact wpAny_pure (h h' ⟨fun j c xs hj => by rw [if_neg (Nat.not_lt_zero _)]; exact hsr j c xs (List.getElem?_eq_some_iff.mp hj).1 hj, fun j c xs hj => hlo _ (List.mem_of_getElem? hj)⟩ hsz hk)
  · exact ⟨0, s.heap, Nat.zero_le _, rfl, rfl, rfl, fun j c xs hj => by omega, rfl, fun _ _ e => e⟩
end
/-- a zip that gave nothing yet -/
def FreeZ (h : Heap) (b : Nat) (cs : List (Nat × Array Value)) : Prop := ∃ os, IsZ h (b + cs.length + 2) (b + cs.length) (b + cs.length + 1) .none false ∧ IsTupN h (b + cs.length + 1) os ∧ os.size = cs.length
theorem zip_new (cs : List (Nat × Array Value)) : Meets (Builtin.«zip.__new__» ⟨.type "zip" :: cs.map (fun q => .ref q.1), []⟩) (fun _ R s => (∀ q ∈ cs, SrcV s.heap q.1 q.2) ∧ (∀ q ∈ cs, q.1 < s.heap.objs.size) ∧ cs.length ≤ sizeLine ∧
    ∀ h', Zst h' s.heap.objs.size cs 0 → h'.objs.size = s.heap.objs.size + cs.length + 3 → (∀ a o, s.heap.get? a = some o → h'.get? a = some o) → FreeZ h' s.heap.objs.size cs → R (.ok (.ret (.ref (s.heap.objs.size + cs.length + 2)))) { s with heap := h' }) :=
  .of_wp fun prog w A R s h => by
    obtain ⟨hv, hlo, hsz, h⟩ := h
    have hsub := sub_zip
    have go : ∀ {A' : Around} {E : Value → Shared → Prop} {Q : List Value → Shared → Prop}, (∀ h', Srcs h' s.heap.objs.size cs 0 0 → h'.objs.size = s.heap.objs.size + cs.length → (∀ a o, s.heap.get? a = some o → h'.get? a = some o) → Q (itsN s.heap.objs.size cs.length).toList { s with heap := h' }) →
      wpAny (model prog w) A' (Builtin.SmallTypes.iterAll (cs.map fun q => .ref q.1)) Q E s := fun q => iterAll_src hv hlo q
    unfold Builtin.«zip.__new__» Builtin.SmallTypes.newClass
    wp_walk using go
    intro h1 hs1 hz1 hk1
    have hl : (itsN s.heap.objs.size cs.length).toList.length = cs.length := by simp [itsN]
    refine wpAny_bind (wpAny_newTuple ?_ (by rw [hl]; exact hsz))
    refine wpAny_bind (wpAny_newTuple ?_ (by rw [List.length_map, hl]; exact hsz))
    refine wpAny_bind ?_
    show wpAny _ _ (newObj (.type "zip") (.fields #[.none, .bool false, .bool false, .ref h1.objs.size, .ref (h1.push _).objs.size])) _ _ _
    refine wpAny_newObj_type ?_
    refine wpAny_pure ⟨_, rfl, ?_⟩
    dsimp only
    rw [Heap.size_push, Heap.size_push, hz1]
    have e2 : ∀ o1 o2 o3 : Obj, ∀ a o, h1.get? a = some o → (((h1.push o1).push o2).push o3).get? a = some o := fun o1 o2 o3 a o e => Heap.get?_push_of_some _ (Heap.get?_push_of_some _ (Heap.get?_push_of_some _ e))
    refine h _ ⟨?ka, hs1.same fun a o _ e => e2 _ _ _ a o e, .inl ?kf⟩ ?kb (fun a o e => e2 _ _ _ a o (hk1 a o e)) ?kf
    case kf =>
      refine ⟨((itsN s.heap.objs.size cs.length).toList.map fun _ => Value.none).toArray, ?_, ?_, ?_⟩
      · have := Heap.get?_push_size ((h1.push { cls := .type "tuple", data := .seq (itsN s.heap.objs.size cs.length).toList.toArray }).push { cls := .type "tuple", data := .seq ((itsN s.heap.objs.size cs.length).toList.map fun _ => Value.none).toArray }) (o := { cls := .type "zip", data := .fields #[.none, .bool false, .bool false, .ref (s.heap.objs.size + cs.length), .ref (s.heap.objs.size + cs.length + 1)] }) rfl
        rw [Heap.size_push, Heap.size_push, hz1] at this
        exact this
      · have := Heap.get?_push_size (h1.push { cls := .type "tuple", data := .seq (itsN s.heap.objs.size cs.length).toList.toArray }) (o := { cls := .type "tuple", data := .seq ((itsN s.heap.objs.size cs.length).toList.map fun _ => Value.none).toArray }) rfl
        rw [Heap.size_push, hz1] at this
        exact Heap.get?_push_of_some _ this
      · simp [itsN]
    case ka =>
      have := Heap.get?_push_size h1 (o := { cls := .type "tuple", data := .seq (itsN s.heap.objs.size cs.length).toList.toArray }) rfl
      rw [hz1, Array.toArray_toList] at this
      exact Heap.get?_push_of_some _ (Heap.get?_push_of_some _ this)
    case kb =>
      rw [Heap.size_push, Heap.size_push, Heap.size_push, hz1]
section
variable {prog : Program} {w : World} {A : Around} {E : Value → Shared → Prop} {s : Shared}
theorem call_zip {cs : List (Nat × Array Value)} {Q : Value → Shared → Prop} (hv : ∀ q ∈ cs, SrcV s.heap q.1 q.2) (hl : cs.length ≤ 16)
    (h : ∀ h', Zst h' s.heap.objs.size cs 0 → h'.objs.size = s.heap.objs.size + cs.length + 3 → (∀ a o, s.heap.get? a = some o → h'.get? a = some o) → FreeZ h' s.heap.objs.size cs → Q (.ref (s.heap.objs.size + cs.length + 2)) { s with heap := h' }) :
    wpAny (model prog w) A (call (.type "zip") (cs.map fun q => .ref q.1)) Q E s := by
  have hlo : ∀ q ∈ cs, q.1 < s.heap.objs.size := fun q hq => by
    rcases hv q hq with ⟨o, e, _⟩ | ⟨o, e, _⟩
    · exact Heap.lt_size e
    · exact Heap.lt_size e
  refine callType_new F.called_zip (by decide) (typeCall_zip _) (newCall_zip _ (by simpa using hl)) (fun obj => args_oinit obj _ (by simpa using hl)) F.entry_zip_new (zip_new cs) ⟨hv, hlo, Nat.le_trans hl (by decide), fun h' z hz hk fz => ?_⟩
  exact ⟨z.typ (s := { s with heap := h' }), h h' z hz hk fz⟩
end
end Zn

namespace Zn
open PySem PySem.Spec PyProof.Rows L2
def Sq2 (K : PySem.W.Frag) (H : Hp) (a : Addr) (xs : List V) : Prop := SqL K H a xs ∨ SqT K H a xs
/-- what the sources hold -/
structure Hold (cs : List (Nat × Array Value)) (xss : List (List V)) : Prop where
  len : cs.length = xss.length
  at_ : ∀ (j : Nat) (c : Nat) (its : Array Value) (xs : List V), cs[j]? = some (c, its) → xss[j]? = some xs → Vals xs its.toList
abbrev TZ := L2.St → Hp → (List (List V) → Hp → Prop) → Prop
def ZipAt (X : Cx) (pins : List (Addr × Obj)) (σ : L2.St) (v : Value) (s' : Shared) (Q : List (List V) → Hp → Prop) : Prop := ∃ (s1 : Shared) (h1 : Heap) (cs : List (Nat × Array Value)) (xss : List (List V)) (H1 : Hp), s' = { s1 with heap := h1 } ∧ v = .ref (s1.heap.objs.size + cs.length + 2) ∧ Zst h1 s1.heap.objs.size cs 0 ∧ h1.objs.size = s1.heap.objs.size + cs.length + 3 ∧
  (∀ a o, s1.heap.get? a = some o → h1.get? a = some o) ∧ Inv X pins σ H1 s1 ∧ Hold cs xss ∧ cs ≠ [] ∧ cs.length ≤ 16 ∧ FreeZ h1 s1.heap.objs.size cs ∧ Q xss H1
def PZ (X : Cx) (e : Expr) (t : TZ) : Prop := ∀ (pins : List (Addr × Obj)) (s : Shared) (σ : L2.St) (H : Hp) (Q : List (List V) → Hp → Prop), Inv X pins σ H s → t σ H Q →
  wpAny (model X.prog X.w) X.A (eval e X.env) (fun v s' => ZipAt X pins σ v s' Q) X.xe s
inductive Refs (K : PySem.W.Frag) (H : Hp) : List V → List (List V) → Prop
  | nil : Refs K H [] []
  | cons {a : Addr} {xs : List V} {vs : List V} {xss : List (List V)} : Sq2 K H a xs → Refs K H vs xss → Refs K H (.ref a :: vs) (xs :: xss)
def tZa (K : PySem.W.Frag) (ta : TA) : TZ := fun σ H Q => ta σ H fun vs H1 => ∃ xss, Refs K H1 vs xss ∧ xss ≠ [] ∧ xss.length ≤ 16 ∧ Q xss H1
theorem refs_srcs {X : Cx} {pins : List (Addr × Obj)} {s : Shared} {σ : L2.St} {H : Hp} (I : Inv X pins σ H s) : ∀ {vs : List V} {xss : List (List V)} {us : List Value}, Refs X.K H vs xss → Vals vs us → ∃ cs : List (Nat × Array Value), us = cs.map (fun q => .ref q.1) ∧ (∀ q ∈ cs, SrcV s.heap q.1 q.2) ∧ Hold cs xss
  | _, _, _, .nil, .nil => ⟨[], rfl, (fun q hq => nomatch hq), rfl, fun j c its xs h => nomatch h⟩
  | _, _, _, .cons (a := a) (xs := xs) h t, .cons r rr => by
    obtain ⟨cs, rfl, h1, h2⟩ := refs_srcs I t rr
    cases r
    obtain ⟨its, rv, sv⟩ : ∃ its : List Value, Vals xs its ∧ SrcV s.heap a its.toArray := by
      rcases h with h | h
      · obtain ⟨its, rv, p, hz⟩ := I.list h
        exact ⟨its, rv, .inl p.isList⟩
      · obtain ⟨its, rv, p, hz⟩ := I.tuple h
        exact ⟨its, rv, .inr p⟩
    refine ⟨(a, its.toArray) :: cs, rfl, fun q hq => ?_, ?_, fun j c i2 x2 hj hx => ?_⟩
    · rcases List.mem_cons.mp hq with rfl | hq
      · exact sv
      · exact h1 q hq
    · simp [h2.len]
    · cases j with
      | zero =>
        simp at hj hx
        obtain ⟨rfl, rfl⟩ := hj
        subst hx
        simpa using rv
      | succ j => exact h2.at_ j c i2 x2 (by simpa using hj) (by simpa using hx)
section
variable {X : Cx}
theorem zip_run {pins : List (Addr × Obj)} {s : Shared} {σ : L2.St} {H : Hp} {Q : List (List V) → Hp → Prop} {vs : List V} {us : List Value} {xss : List (List V)} (I : Inv X pins σ H s) (r : Vals vs us) (h : Refs X.K H vs xss) (h0 : xss ≠ []) (h1 : xss.length ≤ 16) (q : Q xss H) :
    wpAny (model X.prog X.w) X.A (call (.type "zip") us) (fun v s' => ZipAt X pins σ v s' Q) X.xe s := by
  obtain ⟨cs, rfl, hv, hd⟩ := refs_srcs I h r
  refine call_zip hv (by rw [hd.len]; exact h1) fun h' z hz hk fz => ⟨s, h', cs, xss, H, rfl, rfl, z, hz, hk, I, hd, fun e => h0 ?_, by rw [hd.len]; exact h1, fz, q⟩
  have := hd.len
  rw [e] at this
  exact List.eq_nil_of_length_eq_zero this.symm
theorem pz_2 {e : Expr} {es : List Expr} {ta : TA} {p pos : Pos} (hg : Gl X "zip") (hm : X.mg "zip" = none) (ha : PA X (e :: es) ta) (hs : starEach (e :: es) X.env = (false, eval e X.env) :: starEach es X.env := by rfl) (hpl : (backTo pos (starEach es X.env)).any (·.1) = false := by rfl) :
    PZ X (.Call (.Name "zip" p) (e :: es) [] pos) (tZa X.K ta) := by
  intro pins s σ H Q I h
  refine Call_ (ld_blt I hg hm boot_zip (PyProof.Rows.callWith_type1 (thn (ha.run pos pins s σ H _ I h) fun us s1 ⟨vs, H1, I1, r1, xss, hr, h0, h1, q⟩ => ?_) hs hpl))
  exact zip_run I1 r1 hr h0 h1 q
/-- T(*args), T a built-in type: the arguments, then the call -/
theorem callT_star {M : Model} {A : Around} {E : Value → Shared → Prop} {s : Shared} {T : String} {pos : Pos} {Q : Value → Shared → Prop} {args : List (Bool × Sem Value)} (starred : args.any (·.1) = true)
    (h : wpAny M A (evalArgs (.type T) true args []) (fun a s' => wpAny M A (call (.type T) a.pos a.kw) Q E s') E s) : wpAny M A (callWith pos (.type T) [] args []) Q E s := by
  unfold callWith
  apply wpAny_bind
  apply wpAny_holding
  apply wpAny_mono h _ fun _ _ z => z
  intro a s1 called
  apply wpAny_bind
  apply wpAny_standAt
  simp only [starred, Bool.true_or]
  apply wpAny_bind
  apply wpAny_pure
  apply wpAny_bind
  apply wpAny_mono (wpAny_operating called) _ fun _ _ z => z
  intro r s2 q
  apply wpAny_bind
  exact wpAny_holding (wpAny_point (wpAny_pure q))
def tZs (K : PySem.W.Frag) (te : TE) : TZ := fun σ H Q => te σ H fun y H1 => ∃ a vs xss, y = V.ref a ∧ (SqT K H1 a vs ∨ SqL K H1 a vs) ∧ Refs K H1 vs xss ∧ xss ≠ [] ∧ xss.length ≤ 16 ∧ Q xss H1
theorem pz_star {e : Expr} {te : TE} {p p2 pos : Pos} (hg : Gl X "zip") (hm : X.mg "zip" = none) (he : PE X e te) (hs : starEach [.Starred e p2] X.env = [(true, eval e X.env)] := by rfl) : PZ X (.Call (.Name "zip" p) [.Starred e p2] [] pos) (tZs X.K te) := by
  intro pins s σ H Q I h
  refine Call_ (ld_blt I hg hm boot_zip ?_)
  rw [hs]
  refine callT_star rfl (PySem.W.ks_lone (thn (he.run pins s σ H _ I h) fun v s1 ⟨y, H1, I1, ry, a, vs, xss, ey, hx, hr, h0, h1, q⟩ => ?_))
  subst ey
  obtain rfl : v = Value.ref a := ry
  exact StX.star_any I1 hx fun us s2 I2 rv => zip_run I2 rv hr h0 h1 q
/-- a tuple at each of some places -/
def putN (H : Hp) (as : List Addr) (vss : List (List V)) : Hp := (as.zip vss).foldl (fun G q => upd G q.1 (.tup q.2)) H
theorem put_off {b : Addr} : ∀ (qs : List (Addr × List V)) (H : Hp), (∀ q ∈ qs, b ≠ q.1) → qs.foldl (fun G q => upd G q.1 (.tup q.2)) H b = H b
  | [], _, _ => rfl
  | q :: qs, H, h => by
    have step := put_off qs (upd H q.1 (.tup q.2)) fun r hr => h r (List.mem_cons_of_mem _ hr)
    rw [List.foldl_cons, step]
    exact upd_ne (h q List.mem_cons_self)
theorem putN_off {b : Addr} (as : List Addr) (vss : List (List V)) (H : Hp) (h : b ∉ as) : putN H as vss b = H b :=
  put_off _ H fun q hq z => h (by rw [z]; exact (List.of_mem_zip hq).1)
theorem putN_at (as : List Addr) (vss : List (List V)) (H : Hp) (j : Nat) (a : Addr) (v : List V) (nd : as.Nodup) (h1 : as[j]? = some a) (h2 : vss[j]? = some v) : putN H as vss a = some (.tup v) := by
  induction as generalizing vss H j with
  | nil => simp at h1
  | cons c as ih =>
    cases vss with
    | nil => simp at h2
    | cons u vss =>
      obtain ⟨out, nd⟩ := List.nodup_cons.mp nd
      cases j with
      | zero =>
        obtain rfl : c = a := by simpa using h1
        obtain rfl : u = v := by simpa using h2
        exact (putN_off as vss (upd H c (.tup u)) out).trans upd_same
      | succ j => exact ih vss (upd H c (.tup u)) j nd (by simpa using h1) (by simpa using h2)
def colV (xss : List (List V)) (j : Nat) : List V := xss.map fun xs => xs[j]?.getD .non
def colsV (xss : List (List V)) (n : Nat) : List (List V) := (List.range n).map (colV xss)
theorem vals_get : ∀ {xs : List V} {us : List Value}, Vals xs us → ∀ j : Nat, j < xs.length → RelV (xs[j]?.getD .non) (us[j]?.getD .none)
  | _, _, .nil, j, h => by simp at h
  | _, _, .cons r t, 0, h => by simpa using r
  | _, _, .cons r t, j + 1, h => by simpa using vals_get t j (by simpa using h)
theorem vals_len : ∀ {xs : List V} {us : List Value}, Vals xs us → xs.length = us.length
  | _, _, .nil => rfl
  | _, _, .cons _ t => congrArg (· + 1) (vals_len t)
theorem hold_col : ∀ {cs : List (Nat × Array Value)} {xss : List (List V)}, Hold cs xss → ∀ j : Nat, (∀ xs ∈ xss, j < xs.length) → Vals (colV xss j) (cs.map fun q => q.2[j]?.getD .none)
  | [], [], _, j, _ => .nil
  | [], _ :: _, h, _, _ => by have := h.len; simp at this
  | _ :: _, [], h, _, _ => by have := h.len; simp at this
  | (c, its) :: cs, xs :: xss, h, j, hl => by
    have r := h.at_ 0 c its xs rfl rfl
    refine .cons ?_ (hold_col (cs := cs) (xss := xss) ⟨by have := h.len; simpa using this, fun i c2 i2 x2 h1 h2 => h.at_ (i + 1) c2 i2 x2 (by simpa using h1) (by simpa using h2)⟩ j fun x hx => hl x (List.mem_cons_of_mem _ hx))
    have := vals_get r j (hl xs List.mem_cons_self)
    simpa using this
/-- the memory has only grown, and so has what is known of it -/
theorem grown {pins : List (Addr × Obj)} {σ : L2.St} {H G : Hp} {s : Shared} {h' : Heap} (I : Inv X pins σ H s) (keeps : ∀ a o, s.heap.get? a = some o → h'.get? a = some o) (more : ∀ b u, H b = some u → G b = some u)
    (none_ : ∀ b o, s.heap.get? b = some o → H b = none → G b = none) (ok : ∀ b u, G b = some u → H b = none → ObjOk X.prog X.w G h' b u) : Inv X pins σ G { s with heap := h' } := by
  have un : Un (frs X.stack) [] H G s.heap h' := {
    keep := fun b o e _ _ _ => keeps b o e
    slot := fun b o e _ _ _ => ⟨o.slots, keeps b o e⟩
    free := fun b o e n _ => none_ b o e n
    there := fun b o e _ => ⟨o, keeps b o e⟩
    tups := fun b xs e => more b _ e
    frzs := fun b o u e => more b _ e
    tbls := fun b ps e => ⟨#[], by simpa using more b _ e⟩ }
  have all : HOk X.prog X.w G h' := fun b u e => by
    cases n : H b with
    | none => exact ok b u e n
    | some v =>
      obtain rfl : v = u := Option.some.inj ((more b v n).symm.trans e)
      exact (I.hok b v n).stay (fun d o _ y => keeps d o y) (fun d y => more d _ y) fun d xs y => more d _ y
  exact I.call' rfl un all I.bare (by simp)
/-- the new list of the new tuples -/
theorem tuples_laid {pins : List (Addr × Obj)} {σ : L2.St} {H : Hp} {s : Shared} {h' : Heap} {n S : Nat} {cs : List (Nat × Array Value)} {xss : List (List V)} {acc : Array Value} {c : Nat} {as : List Nat} (I : Inv X pins σ H s) (hd : Hold cs xss) (hl : ∀ xs ∈ xss, n ≤ xs.length) (hcl : cs.length ≤ 16) (hn : n ≤ sizeLine)
    (hk : ∀ a o, s.heap.get? a = some o → h'.get? a = some o) (hS : h'.get? S = some { cls := .type "list", dict := none, data := .seq acc c, slots := #[] }) (hSb : s.heap.objs.size ≤ S) (hal : as.length = n) (hG : Mde cs S h' as) (hacc : acc.toList = as.map Value.ref) :
    Inv X pins σ (putN (upd H S (.lst (as.map V.ref))) as (colsV xss n)) { s with heap := h' } ∧ H S = none ∧ (∀ t ∈ as, H t = none) ∧ S ∉ as ∧ as.Nodup := by
  have fresh : ∀ b : Addr, s.heap.objs.size ≤ b → H b = none := fun b hb => I.hok.fresh hb
  have up : ∀ t ∈ as, S < t := hG.above
  have out : S ∉ as := fun z => Nat.lt_irrefl _ (up S z)
  have nd : as.Nodup := hG.rise.imp fun {a b} (lt : a < b) => Nat.ne_of_lt lt
  have nS : H S = none := fresh S hSb
  have nT : ∀ t ∈ as, H t = none := fun t ht => fresh t (Nat.le_trans hSb (Nat.le_of_lt (up t ht)))
  have same : ∀ b : Addr, b ∉ as → b ≠ S → putN (upd H S (.lst (as.map V.ref))) as (colsV xss n) b = H b := fun b h1 h2 => (putN_off as _ _ h1).trans (upd_ne h2)
  refine ⟨grown I hk (fun b u e => ?_) (fun b o e nb => ?_) fun b u e nb => ?_, nS, nT, out, nd⟩
  · have h1 : b ∉ as := fun z => by simp [nT b z] at e
    have h2 : b ≠ S := fun z => by simp [z, nS] at e
    rw [same b h1 h2]
    exact e
  · have lt : b < S := Nat.lt_of_lt_of_le (Heap.lt_size e) hSb
    rw [same b (fun z => Nat.lt_irrefl _ (Nat.lt_trans lt (up b z))) (Nat.ne_of_lt lt)]
    exact nb
  · by_cases hb : b ∈ as
    · obtain ⟨j, hj⟩ := List.getElem?_of_mem hb
      have lt : j < n := hal ▸ (List.getElem?_eq_some_iff.mp hj).1
      have col : (colsV xss n)[j]? = some (colV xss j) := by simp [colsV, lt]
      rw [putN_at as _ _ j b _ nd hj col] at e
      cases e
      have few : (colV xss j).length ≤ sizeLine := by
        have : sizeLine = 16777216 := by decide
        have := hd.len
        simp only [colV, List.length_map]
        omega
      exact ⟨few, _, hold_col hd j fun xs hx => Nat.lt_of_lt_of_le lt (hl xs hx), _, hG.there j b hj, rfl, _, rfl⟩
    · by_cases eS : b = S
      · subst eS
        rw [putN_off as _ _ hb, upd_same] at e
        cases e
        refine ⟨by simpa [hal] using hn, acc.toList, c, by rw [hacc]; exact LiI.vals_refs as, ?_⟩
        simpa using hS
      · rw [same b hb eS, nb] at e
        cases e
def tListZ (tz : TZ) : TE := fun σ H Q => tz σ H fun xss H1 => xss ≠ [] → xss.length ≤ 16 → ∃ n : Nat, (∀ xs ∈ xss, n ≤ xs.length) ∧ (∃ xs ∈ xss, xs.length ≤ n) ∧ n ≤ sizeLine ∧
  ∀ (S : Addr) (ts : List Addr), H1 S = none → (∀ t ∈ ts, H1 t = none) → S ∉ ts → ts.Nodup → ts.length = n → Q (.ref S) (putN (upd H1 S (.lst (ts.map V.ref))) ts (colsV xss n))
theorem pe_listZ {e : Expr} {tz : TZ} {p pos : Pos} (hc : X.calm = true) (hg : Gl X "list") (hm : X.mg "list" = none) (he : PZ X e tz) (na : starEach [e] X.env = (false, eval e X.env) :: starEach [] X.env := by rfl) : PE X (.Call (.Name "list" p) [e] [] pos) (tListZ tz) := by
  refine ⟨fun pins s σ H Q I h => ?_⟩
  refine Call_ (ld_blt I hg hm boot_list (PyProof.Rows.callWith_type1 (args_cons (thn (he pins s σ H _ I h) fun x s' ⟨s1, h1, cs, xss, H1, es, ex, z, hz, hk1, I1, hd, hne, hcl, fz, q0⟩ => args_nil ?_) na) na))
  subst es ex
  obtain ⟨n, hl1, hl2, hn, q⟩ := q0 (fun z => hne (by have := hd.len; rw [z] at this; exact List.eq_nil_of_length_eq_zero this)) (by rw [← hd.len]; exact hcl)
  have sz : ∀ {j : Nat} {c : Nat} {its : Array Value} {xs : List V}, cs[j]? = some (c, its) → xss[j]? = some xs → its.size = xs.length := fun {j c its xs} e1 e2 => by
    have := vals_len (hd.at_ j c its xs e1 e2)
    simp at this
    omega
  have g1 : ∀ q ∈ cs, n ≤ q.2.size := fun q hq => by
    obtain ⟨j, hj⟩ := List.mem_iff_getElem?.mp hq
    have hjl : j < xss.length := by rw [← hd.len]; exact (List.getElem?_eq_some_iff.mp hj).1
    have := sz (c := q.1) (its := q.2) hj (List.getElem?_eq_getElem hjl)
    have := hl1 _ (List.getElem_mem hjl)
    omega
  have g2 : ∃ q ∈ cs, q.2.size ≤ n := by
    obtain ⟨xs, hx, hxn⟩ := hl2
    obtain ⟨j, hj⟩ := List.mem_iff_getElem?.mp hx
    have hjl : j < cs.length := by rw [hd.len]; exact (List.getElem?_eq_some_iff.mp hj).1
    have := sz (c := cs[j].1) (its := cs[j].2) (List.getElem?_eq_getElem hjl) hj
    exact ⟨cs[j], List.getElem_mem hjl, by omega⟩
  refine call_list_zip (s := { s1 with heap := h1 }) (I1.ok.hd hc) hne (Nat.le_trans hcl (by decide)) (show _ < h1.objs.size by omega) g1 g2 hn z fun h' acc c as hk hS hal hG hacc => ?_
  have hS0 : s1.heap.objs.size ≤ h1.objs.size := by omega
  obtain ⟨J, n1, n2, n3, n4⟩ := tuples_laid I1 hd hl1 hcl hn (fun a o e => hk a o (Heap.lt_size e) (hk1 a o e)) hS hS0 hal hG hacc
  exact ⟨.ref h1.objs.size, _, J, rfl, q _ as n1 n2 n3 n4 hal⟩
end
end Zn

namespace Pd
open PySem PySem.Spec PyProof.Rows L2 LamX Zn
inductive RepL (K : PySem.W.Frag) (wd : Wd) : List (List V) → List (List D) → Prop
  | nil : RepL K wd [] []
  | cons {xs : List V} {ds : List D} {xss : List (List V)} {dss : List (List D)} : Reps K wd xs ds → RepL K wd xss dss → RepL K wd (xs :: xss) (ds :: dss)
theorem RepL.length {K : PySem.W.Frag} {wd : Wd} : ∀ {xss : List (List V)} {dss : List (List D)}, RepL K wd xss dss → xss.length = dss.length
  | _, _, .nil => rfl
  | _, _, .cons _ t => congrArg (· + 1) t.length
theorem RepL.mono {K : PySem.W.Frag} {wd wd' : Wd} (le : Le wd wd') : ∀ {xss : List (List V)} {dss : List (List D)}, RepL K wd xss dss → RepL K wd' xss dss
  | _, _, .nil => .nil
  | _, _, .cons r t => .cons (r.mono le) (t.mono le)
theorem RepL.lens {K : PySem.W.Frag} {wd : Wd} : ∀ {xss : List (List V)} {dss : List (List D)}, RepL K wd xss dss → xss.map List.length = dss.map List.length
  | _, _, .nil => rfl
  | _, _, .cons r t => by rw [List.map_cons, List.map_cons, r.length, t.lens]
def liftZ (K : PySem.W.Frag) (T : List (Addr × Str)) (E : XK) (w : W (List (List D))) : TZ := fun σ H Q =>
  ∃ (c : Ctx) (wd : Wd) (env : PEnv) (P : List (List D) → PEnv → Prop) (Ex : Xc → Prop), Rel K T c wd env σ H ∧ w env P Ex ∧ XOk K T c E Ex ∧
    ∀ dss env', P dss env' → ∀ (xss : List (List V)) (wd' : Wd) (H' : Hp), Le wd wd' → Rel K T c wd' env' σ H' → RepL K wd' xss dss → Q xss H'
abbrev JZ (T : List (Addr × Str)) (X : Cx) (E : XK) (e : Expr) (w : W (List (List D))) : Prop := PZ X e (liftZ X.K T E w)
def itemsAll : List D → Option (List (List D))
  | [] => some []
  | x :: xs => match dItems x, itemsAll xs with
    | some ys, some yss => some (ys :: yss)
    | _, _ => none
theorem refs_of {K : PySem.W.Frag} {T : List (Addr × Str)} {wd : Wd} {H : Hp} (g : Good T wd H) : ∀ {ds : List D} {vs : List V} {dss : List (List D)}, itemsAll ds = some dss → Reps K wd vs ds → ∃ xss, Refs K H vs xss ∧ RepL K wd xss dss
  | [], _, _, e, .nil => by
    cases e
    exact ⟨[], .nil, .nil⟩
  | d :: ds, _, dss, e, .cons r rr => by
    unfold itemsAll at e
    split at e
    · rename_i ys yss e1 e2
      cases e
      obtain ⟨xss, h1, h2⟩ := refs_of g e2 rr
      cases d with
      | lst zs =>
        cases e1
        cases r with
        | lst h rs => exact ⟨_, .cons (.inl (sub_sqL g h)) h1, .cons rs h2⟩
      | tup zs =>
        cases e1
        cases r with
        | tup h rs => exact ⟨_, .cons (.inr (sub_sqT g h)) h1, .cons rs h2⟩
      | _ => cases e1
    · cases e
def wZa (a : W (List D)) : W (List (List D)) := a.bind fun xs env Q _ => ∃ dss, itemsAll xs = some dss ∧ dss ≠ [] ∧ dss.length ≤ 16 ∧ Q dss env
def wZs (a : W D) : W (List (List D)) := a.bind fun x env Q _ => ∃ xs dss, dItems x = some xs ∧ itemsAll xs = some dss ∧ dss ≠ [] ∧ dss.length ≤ 16 ∧ Q dss env
section
variable {X : Cx} {T : List (Addr × Str)} {E : XK} {k : Nat}
theorem jz_a {e : Expr} {es : List Expr} {a : W (List D)} {p pos : Pos} (hm : X.mg "zip" = none) (ha : JA T X E (e :: es) a) (hg : Gl X "zip" := by rfl) (hs : starEach (e :: es) X.env = (false, eval e X.env) :: starEach es X.env := by rfl) (hpl : (backTo pos (starEach es X.env)).any (·.1) = false := by rfl) :
    JZ T X E (.Call (.Name "zip" p) (e :: es) [] pos) (wZa a) := fun pins s σ H Q I ⟨c, wd, env, P, Ex, r, h, xo, kk⟩ =>
  pz_2 hg hm ha hs hpl pins s σ H Q I ⟨c, wd, env, _, Ex, r, h, xo, fun ds env1 h1 vs wd1 H1 le1 r1 rp1 => by
    obtain ⟨dss, e1, e2, e3, h2⟩ := h1
    obtain ⟨xss, f1, f2⟩ := refs_of r1.good e1 rp1
    exact ⟨xss, f1, fun z => e2 (by have := f2.length; rw [z] at this; exact List.eq_nil_of_length_eq_zero this.symm), by rw [f2.length]; exact e3, kk dss env1 h2 xss wd1 H1 le1 r1 f2⟩⟩
theorem jz_s {e : Expr} {a : W D} {p p2 pos : Pos} (hm : X.mg "zip" = none) (ha : JE T X E e a) (hg : Gl X "zip" := by rfl) (hs : starEach [.Starred e p2] X.env = [(true, eval e X.env)] := by rfl) : JZ T X E (.Call (.Name "zip" p) [.Starred e p2] [] pos) (wZs a) := fun pins s σ H Q I ⟨c, wd, env, P, Ex, r, h, xo, kk⟩ =>
  pz_star hg hm ha hs pins s σ H Q I ⟨c, wd, env, _, Ex, r, h, xo, fun d env1 h1 v wd1 H1 le1 r1 rp1 => by
    obtain ⟨xs, dss, e0, e1, e2, e3, h2⟩ := h1
    cases d with
    | lst zs =>
      cases e0
      cases rp1 with
      | lst hh rs =>
        obtain ⟨xss, f1, f2⟩ := refs_of r1.good e1 rs
        exact ⟨_, _, xss, rfl, .inr (sub_sqL r1.good hh), f1, fun z => e2 (by have := f2.length; rw [z] at this; exact List.eq_nil_of_length_eq_zero this.symm), by rw [f2.length]; exact e3, kk dss env1 h2 xss wd1 H1 le1 r1 f2⟩
    | tup zs =>
      cases e0
      cases rp1 with
      | tup hh rs =>
        obtain ⟨xss, f1, f2⟩ := refs_of r1.good e1 rs
        exact ⟨_, _, xss, rfl, .inl (sub_sqT r1.good hh), f1, fun z => e2 (by have := f2.length; rw [z] at this; exact List.eq_nil_of_length_eq_zero this.symm), by rw [f2.length]; exact e3, kk dss env1 h2 xss wd1 H1 le1 r1 f2⟩
    | _ => cases e0⟩
/-- the shortest -/
def minLen : List (List D) → Nat
  | [] => 0
  | [x] => x.length
  | x :: xs => min x.length (minLen xs)
theorem minLen_le : ∀ {dss : List (List D)}, ∀ ds ∈ dss, minLen dss ≤ ds.length
  | [], _, h => by cases h
  | [x], ds, h => by rw [List.mem_singleton.mp h]; exact Nat.le_refl _
  | x :: y :: xs, ds, h => by
    show min x.length (minLen (y :: xs)) ≤ _
    rcases List.mem_cons.mp h with rfl | h
    · exact Nat.min_le_left _ _
    · exact Nat.le_trans (Nat.min_le_right _ _) (minLen_le ds h)
theorem minLen_mem : ∀ {dss : List (List D)}, dss ≠ [] → ∃ ds ∈ dss, ds.length ≤ minLen dss
  | [], h => absurd rfl h
  | [x], _ => ⟨x, List.mem_cons_self, Nat.le_refl _⟩
  | x :: y :: xs, _ => by
    obtain ⟨ds, h1, h2⟩ := minLen_mem (dss := y :: xs) (by simp)
    by_cases hx : x.length ≤ minLen (y :: xs)
    · exact ⟨x, List.mem_cons_self, by show _ ≤ min x.length (minLen (y :: xs)); omega⟩
    · exact ⟨ds, List.mem_cons_of_mem _ h1, by show _ ≤ min x.length (minLen (y :: xs)); omega⟩
def colD (dss : List (List D)) (j : Nat) : List D := dss.map fun ds => ds[j]?.getD .non
def colsD (dss : List (List D)) : List D := (List.range (minLen dss)).map fun j => .tup (colD dss j)
theorem zipD_eq (xs ys : List D) : zipD xs ys = colsD [xs, ys] := by
  refine List.ext_getElem? fun j => ?_
  unfold zipD colsD
  rw [List.getElem?_map, List.getElem?_map]
  by_cases h : j < min xs.length ys.length
  · rw [List.getElem?_range (show j < minLen [xs, ys] from h)]
    have h1 : j < xs.length := by omega
    have h2 : j < ys.length := by omega
    have hz : (xs.zip ys)[j]? = some (xs[j], ys[j]) := List.getElem?_zip_eq_some.mpr ⟨List.getElem?_eq_getElem h1, List.getElem?_eq_getElem h2⟩
    rw [hz]
    simp [colD, h1, h2]
  · rw [List.getElem?_eq_none (by rw [List.length_zip]; omega), List.getElem?_eq_none (by rw [List.length_range]; show min xs.length ys.length ≤ j; omega)]
    rfl
def rowsD : List (List D) → List D
  | [xs, ys] => zipD xs ys
  | dss => colsD dss
theorem rowsD_eq : ∀ dss : List (List D), rowsD dss = colsD dss
  | [] => rfl
  | [_] => rfl
  | [xs, ys] => zipD_eq xs ys
  | _ :: _ :: _ :: _ => rfl
def wListZ (w : W (List (List D))) : W (List D) := w.bind fun dss env Q _ => minLen dss ≤ 1000000 ∧ Q (rowsD dss) env
theorem repL_col {K : PySem.W.Frag} {wd : Wd} : ∀ {xss : List (List V)} {dss : List (List D)}, RepL K wd xss dss → ∀ j, (∀ ds ∈ dss, j < ds.length) → Reps K wd (colV xss j) (colD dss j)
  | _, _, .nil, _, _ => .nil
  | _, _, .cons (xs := xs) (ds := ds) r t, j, h => by
    refine .cons ?_ (repL_col t j fun d hd => h d (List.mem_cons_of_mem _ hd))
    have hj := h ds List.mem_cons_self
    obtain ⟨v, e1, e2⟩ := r.get (List.getElem?_eq_getElem hj)
    show Rep K wd (xs[j]?.getD V.non) (ds[j]?.getD D.non)
    rw [e1, List.getElem?_eq_getElem hj]
    exact e2
theorem grow_put {K : PySem.W.Frag} {T : List (Addr × Str)} {dss : List (List D)} : ∀ (ts : List Addr) (i : Nat) {wd : Wd} {H : Hp} {xss : List (List V)}, Good T wd H → RepL K wd xss dss → (∀ t ∈ ts, H t = none) → ts.Nodup → i + ts.length ≤ minLen dss → dss.length ≤ 16 →
    ∃ wd', Grow wd H wd' (putN H ts ((List.range' i ts.length).map (colV xss))) ∧ Reps K wd' (ts.map V.ref) ((List.range' i ts.length).map fun j => .tup (colD dss j))
  | [], i, wd, H, xss, g, r, _, _, _, _ => ⟨wd, .refl _ _, .nil⟩
  | t :: ts, i, wd, H, xss, g, r, hn, nd, hl, hd => by
    have ht := hn t List.mem_cons_self
    have rc := repL_col r i fun ds hds => Nat.lt_of_lt_of_le (by simp at hl; omega) (minLen_le ds hds)
    have hz : (colV xss i).length ≤ sizeLine := by
      unfold colV
      rw [List.length_map, r.length]
      exact Nat.le_trans hd (by decide)
    have g1 : Grow wd H (wd.add t (.tup (colV xss i))) (upd H t (.tup (colV xss i))) := Grow.one ht noTb_tup hz
    have le1 := g1.le g
    obtain ⟨wd', g2, r2⟩ := grow_put ts (i + 1) (g1.all g).1 (r.mono le1) (fun u hu => by rw [upd_ne (fun z => (List.nodup_cons.mp nd).1 (by rw [← z]; exact hu))]; exact hn u (List.mem_cons_of_mem _ hu)) (List.nodup_cons.mp nd).2 (by simp at hl; omega) hd
    refine ⟨wd', g1.trans g2, ?_⟩
    have le2 := g2.le (g1.all g).1
    refine .cons (.tup (le2.m _ _ upd_same) (rc.mono (le1.trans le2))) r2
theorem putN_comm {H : Hp} {S : Addr} {o : HO} : ∀ (ts : List Addr) (vss : List (List V)), S ∉ ts → putN (upd H S o) ts vss = upd (putN H ts vss) S o := fun ts vss h => by
  funext b
  by_cases hb : b = S
  · subst hb
    rw [upd_same, putN_off ts vss _ h, upd_same]
  · rw [upd_ne hb]
    have key : ∀ (qs : List (Addr × List V)) (H1 H2 : Hp), H1 b = H2 b → qs.foldl (fun G q => upd G q.1 (.tup q.2)) H1 b = qs.foldl (fun G q => upd G q.1 (.tup q.2)) H2 b := fun qs => by
      induction qs with
      | nil => exact fun H1 H2 e => e
      | cons q qs ih =>
        intro H1 H2 e
        refine ih _ _ ?_
        by_cases z : b = q.1
        · subst z
          exact upd_same.trans upd_same.symm
        · exact (upd_ne z).trans (e.trans (upd_ne z).symm)
    exact key _ _ _ (upd_ne hb)
theorem jf_listZ {e : Expr} {w : W (List (List D))} {p pos : Pos} (B : Bd X E k) (hm : X.mg "list" = none) (he : JZ T X E e w) (hg : Gl X "list" := by rfl) (na : starEach [e] X.env = (false, eval e X.env) :: starEach [] X.env := by rfl) : JF T X E (.Call (.Name "list" p) [e] [] pos) (wListZ w) :=
  peI (pe_listZ B.calm hg hm he na) fun σ H Q ⟨c, wd, env, P, Ex, r, h, xo, kk⟩ => ⟨c, wd, env, _, Ex, r, h, xo, fun dss env1 h1 xss wd1 H1 le1 r1 rp1 m0 m1 => by
    obtain ⟨hl, h2⟩ := h1
    have n0 : dss ≠ [] := fun z => m0 (by have := rp1.length; rw [z] at this; exact List.eq_nil_of_length_eq_zero this)
    have n1 : dss.length ≤ 16 := by rw [← rp1.length]; exact m1
    have hlen : ∀ {a : List V} {b : List D} {j : Nat}, xss[j]? = some a → dss[j]? = some b → a.length = b.length := fun {a b j} e1 e2 => by
      have := congrArg (fun l => l[j]?) rp1.lens
      simp [e1, e2] at this
      exact this
    refine ⟨minLen dss, fun xs hx => ?_, ?_, sz6 hl, fun S ts hS hts nS nd ht => ?_⟩
    · obtain ⟨j, hj⟩ := List.mem_iff_getElem?.mp hx
      have hjl : j < dss.length := by rw [← rp1.length]; exact (List.getElem?_eq_some_iff.mp hj).1
      rw [hlen hj (List.getElem?_eq_getElem hjl)]
      exact minLen_le _ (List.getElem_mem hjl)
    · obtain ⟨ds, hd, hdl⟩ := minLen_mem n0
      obtain ⟨j, hj⟩ := List.mem_iff_getElem?.mp hd
      have hjl : j < xss.length := by rw [rp1.length]; exact (List.getElem?_eq_some_iff.mp hj).1
      exact ⟨xss[j], List.getElem_mem hjl, by rw [hlen (List.getElem?_eq_getElem hjl) hj]; exact hdl⟩
    · obtain ⟨wd2, g2, rs⟩ := grow_put ts 0 r1.good rp1 hts nd (by omega) n1
      have r2 := r1.grow g2
      have ec : (List.range' 0 ts.length).map (colV xss) = colsV xss (minLen dss) := by
        unfold colsV
        rw [List.range_eq_range', ht]
      rw [ec] at r2 g2
      have ed : ((List.range' 0 ts.length).map fun j => D.tup (colD dss j)) = rowsD dss := by
        rw [rowsD_eq]
        unfold colsD
        rw [List.range_eq_range', ht]
      rw [ed] at rs
      rw [putN_comm ts _ nS]
      have hS2 : putN H1 ts (colsV xss (minLen dss)) S = none := by rw [putN_off ts _ _ nS]; exact hS
      obtain ⟨r3, f⟩ := r2.fresh hS2 rs (by rw [List.length_map, ht]; exact sz6 hl)
      exact kk _ env1 h2 (.ref S) _ _ (le1.trans (g2.le r1.good)) r3 f⟩
end
end Pd

/-! dict(zip(keys, values)) of two lists or tuples, the keys different ints -/
namespace Zn
open PySem
section
variable {prog : Program} {w : World}
/-- the zip while a dict is filled at d -/
def DSt (b d : Nat) (cs : List (Nat × Array Value)) (k : Nat) (h : Heap) : Prop := IsTupN h (b + cs.length) (itsN b cs.length) ∧ Srcs h b cs k 0 ∧
  (FreeZ h b cs ∨ ∃ (T : Nat) (f : Bool) (oT : Obj), IsZ h (b + cs.length + 2) (b + cs.length) (b + cs.length + 1) (rawInt T) f ∧ h.get? T = some oT ∧ b + cs.length + 2 < T ∧ T ≠ d)
theorem DSt.typ {s : Shared} {b d k : Nat} {cs : List (Nat × Array Value)} (z : DSt b d cs k s.heap) : s.TypeIs (.ref (b + cs.length + 2)) "zip" := by
  rcases z.2.2 with ⟨os, h, _⟩ | ⟨T, f, oT, h, _⟩
  · exact ⟨_, h, rfl⟩
  · exact ⟨_, h, rfl⟩
def OkZ (b : Nat) (cs : List (Nat × Array Value)) (h : Heap) : Prop := IsTupN h (b + cs.length) (itsN b cs.length) ∧ Srcs h b cs 0 0 ∧ FreeZ h b cs
theorem srcs_there {h : Heap} {b k : Nat} {cs : List (Nat × Array Value)} (s : Srcs h b cs k 0) (j : Nat) (hj : j < cs.length) : (∃ o, h.get? (b + j) = some o) ∧ ∃ o, h.get? cs[j].1 = some o := by
  have e : cs[j]? = some (cs[j].1, cs[j].2) := List.getElem?_eq_getElem hj
  rcases s.it j _ _ e with ⟨⟨o, h1, _⟩, ⟨o2, h2, _⟩⟩ | ⟨⟨o, h1, _⟩, ⟨o2, h2, _⟩⟩
  · exact ⟨⟨o, h1⟩, o2, h2⟩
  · exact ⟨⟨o, h1⟩, o2, h2⟩
def wrZ (b n : Nat) : List Addr := (List.range (n + 3)).map fun j : Nat => (b + j : Nat)
theorem in_wr {b n : Nat} {c : Nat} (h1 : b ≤ c) (h2 : c ≤ b + n + 2) : c ∈ wrZ b n :=
  List.mem_map.mpr ⟨c - b, List.mem_range.mpr (by omega), by omega⟩
theorem out_of {b n : Nat} {c : Nat} (h : c ∉ wrZ b n) : c < b ∨ b + n + 2 < c := by
  apply Decidable.byContradiction
  intro z
  exact h (in_wr (by omega) (by omega))
theorem srcs_frame {h h' : Heap} {b k d : Nat} {cs : List (Nat × Array Value)} (s : Srcs h b cs k 0) (d1 : d ∉ wrZ b cs.length) (d2 : d ∉ cs.map (·.1)) (hk : ∀ (a : Nat) o, a ≠ d → h.get? a = some o → h'.get? a = some o) : Srcs h' b cs k 0 :=
  ⟨fun j c xs hj => (s.it j c xs hj).at (fun o e => hk _ o (fun z => d1 (by rw [← z]; exact in_wr (by omega) (by have := (List.getElem?_eq_some_iff.mp hj).1; omega))) e) fun o e => hk _ o (fun z => d2 (by rw [← z]; exact List.mem_map.mpr ⟨_, List.mem_of_getElem? hj, rfl⟩)) e, s.lo⟩
theorem zipArg (b c1 c2 : Nat) (xs ys : Array Value) (cs : List (Nat × Array Value)) (hcs : cs = [(c1, xs), (c2, ys)]) :
    PairArg prog w "zip" (b + cs.length + 2 : Nat) (wrZ b cs.length ++ cs.map (·.1)) (wrZ b cs.length) (min xs.size ys.size) (fun i k v => xs[i]? = some k ∧ ys[i]? = some v) (OkZ b cs) where
  type := fun s ok => (show DSt b 0 cs 0 s.heap from ⟨ok.1, ok.2.1, .inl ok.2.2⟩).typ
  notDict := by decide
  keep := fun h h' ok hk => ⟨hk _ _ ok.1, ok.2.1.same fun a o _ e => hk a o e, by obtain ⟨os, e1, e2, e3⟩ := ok.2.2; exact ⟨os, hk _ _ e1, hk _ _ e2, e3⟩⟩
  there := fun h ok a ha => by
    obtain ⟨os, e1, e2, _⟩ := ok.2.2
    rcases List.mem_append.mp ha with ha | ha
    · obtain ⟨j, hj, rfl⟩ := List.mem_map.mp ha
      have hj := List.mem_range.mp hj
      by_cases h1 : j < cs.length
      · exact (srcs_there ok.2.1 j h1).1
      · by_cases h2 : j = cs.length
        · subst h2
          exact ⟨_, ok.1⟩
        · by_cases h3 : j = cs.length + 1
          · subst h3
            exact ⟨_, e2⟩
          · have : j = cs.length + 2 := by omega
            subst this
            exact ⟨_, e1⟩
    · obtain ⟨q, hq, rfl⟩ := List.mem_map.mp ha
      obtain ⟨j, hj, rfl⟩ := List.mem_iff_getElem.mp hq
      exact (srcs_there ok.2.1 j hj).2
  sub := fun a ha => List.mem_append_left _ ha
  noKeys := fun A s Q E hA ok h => by
    obtain ⟨os, e1, _⟩ := ok.2.2
    exact getAttrOr_miss_zip e1 rfl rfl rfl zip_no_keys (by decide +kernel) hA h
  iter := fun A s d Q E hA ok hd hdf h => by
    have d1 : d ∉ wrZ b cs.length := fun z => hdf (List.mem_append_left _ z)
    have d2 : d ∉ cs.map (·.1) := fun z => hdf (List.mem_append_right _ z)
    have few : cs.length = 2 := by rw [hcs]; rfl
    have some_ : cs ≠ [] := by rw [hcs]; simp
    have lim : cs.length ≤ sizeLine := by rw [few]; decide
    have nw : ∀ c : Nat, b ≤ c → c ≤ b + cs.length + 2 → c ≠ d := fun c h1 h2 z => d1 (by rw [← z]; exact in_wr h1 h2)
    have st0 : DSt b d cs 0 s.heap := ⟨ok.1, ok.2.1, .inl ok.2.2⟩
    apply wpAny_pyIter_slot st0.typ F.slot_zip_iter
    apply wpAny_call_entry F.slot_zip_iter st0.typ F.entry_zip_iter _ (F.args_zip_iter_1 _)
    apply wpAny_pure
    refine ⟨_, rfl, "zip", _, st0.typ, F.slot_zip_next.lookup, h _ (wrZ b cs.length) (DSt b d cs) s.heap s.toks ?_ st0 (fun _ _ e => e) fun c hc => .inl hc⟩
    exact {
      off := d1
      frame := fun i h1 h2 st hk => by
        refine ⟨hk _ _ (ne_ (nw _ (by omega) (by omega))) st.1, srcs_frame st.2.1 d1 d2 fun a o z e => hk a o (ne_ z) e, ?_⟩
        rcases st.2.2 with ⟨os, e1, e2, e3⟩ | ⟨T, f, oT, e1, e2, e3, e4⟩
        · exact .inl ⟨os, hk _ _ (ne_ (nw _ (by omega) (by omega))) e1, hk _ _ (ne_ (nw _ (by omega) (by omega))) e2, e3⟩
        · exact .inr ⟨T, f, oT, hk _ _ (ne_ (nw _ (by omega) (by omega))) e1, hk _ _ (ne_ e4) e2, e3, e4⟩
      item := fun i s1 Q1 E1 hi st hds hQ => by
        have hix : i < xs.size := Nat.lt_of_lt_of_le hi (Nat.min_le_left ..)
        have hiy : i < ys.size := Nat.lt_of_lt_of_le hi (Nat.min_le_right ..)
        have ex := Array.getElem?_eq_getElem hix
        have ey := Array.getElem?_eq_getElem hiy
        have hl : ∀ q ∈ cs, i < q.2.size := fun q hq => by
          rw [hcs] at hq
          rcases List.mem_cons.mp hq with rfl | hq
          · exact hix
          · rw [List.mem_singleton.mp hq]
            exact hiy
        have pair : ∀ h' : Heap, IsTupN h' s1.heap.objs.size (cs.map fun q => q.2[i]?.getD .none).toArray → PairAt h' s1.heap.objs.size xs[i] ys[i] := fun h' e => by
          have e2 : (cs.map fun q => q.2[i]?.getD Value.none).toArray = #[xs[i], ys[i]] := by
            rw [hcs]
            show #[xs[i]?.getD Value.none, ys[i]?.getD Value.none] = _
            rw [ex, ey]
            rfl
          rw [e2] at e
          exact .inl ⟨_, e, rfl, _, rfl⟩
        have zl : b + cs.length + 2 < s1.heap.objs.size := by
          rcases st.2.2 with ⟨os, e1, _⟩ | ⟨T, f, oT, e1, _⟩
          · exact Heap.lt_size e1
          · exact Heap.lt_size e1
        apply next_road st.typ
        rcases st.2.2 with ⟨os, free, out, size⟩ | ⟨T, f, oT, held, there, below, off⟩
        · refine free_item free (by omega) st.1 out size st.2.1 some_ hl lim fun h' z1 sr new _ more keeps => ?_
          exact hQ s1.heap.objs.size _ _ h' s1.toks ⟨ex, ey⟩ (pair h' new) ⟨keeps _ _ (by omega) (by omega) (.inr (by omega)) st.1, sr, .inr ⟨_, _, _, z1, new, zl, fun z => Nat.lt_irrefl _ (z ▸ hds)⟩⟩
            fun c o hc e => by
              have := out_of hc
              exact keeps c o (by omega) (by omega) (by omega) e
        · refine held_item held there (by omega) st.1 st.2.1 some_ hl lim fun h' z1 sr new more keeps => ?_
          exact hQ s1.heap.objs.size _ _ h' s1.toks ⟨ex, ey⟩ (pair h' new) ⟨keeps _ _ (by omega) (.inr (by omega)) st.1, sr, .inr ⟨T, _, oT, z1, keeps _ _ (by omega) (.inr (by omega)) there, below, off⟩⟩
            fun c o hc e => by
              have := out_of hc
              exact keeps c o (by omega) (by omega) e
      done := fun s1 Q1 E1 st hQ => by
        have hend : ∃ q ∈ cs, q.2.size ≤ min xs.size ys.size := by
          rw [hcs]
          rcases Nat.le_total xs.size ys.size with h | h
          · exact ⟨_, List.mem_cons_self, by rw [Nat.min_eq_left h]; exact Nat.le_refl _⟩
          · exact ⟨_, List.mem_cons_of_mem _ List.mem_cons_self, by rw [Nat.min_eq_right h]; exact Nat.le_refl _⟩
        apply next_road st.typ
        rcases st.2.2 with ⟨os, free, out, size⟩ | ⟨T, f, oT, held, there, below, off⟩
        · refine free_end hA free (by omega) st.1 out size st.2.1 hend lim fun h' a keeps ⟨o, at_, stop⟩ => ?_
          exact ⟨a, o, rfl, at_, stop, hQ h' s1.toks fun c o hc e => by
            have := out_of hc
            exact keeps c o (by omega) (by omega) (by omega) e⟩
        · refine held_end hA held there (by omega) st.1 st.2.1 hend fun h' a keeps ⟨o, at_, stop⟩ => ?_
          exact ⟨a, o, rfl, at_, stop, hQ h' s1.toks fun c o hc e => by
            have := out_of hc
            exact keeps c o (by omega) (by omega) e⟩ }
end
end Zn

namespace Pd
open PySem PySem.Spec PyProof.Rows L2 LamX
/-! ### new lists by * and +, list(range(..)) -/
def wRepF (a b : W D) : W (List D) := a.bind fun x => b.bind fun y env Q _ => match x, y with
  | .lst xs, .int k => (-1000000 ≤ k ∧ k ≤ 1000000 ∧ xs.length * k.toNat ≤ 1000000) ∧ Q (List.replicate k.toNat xs).flatten env
  | _, _ => False
def wCatF (a b : W D) : W (List D) := a.bind fun x => b.bind fun y env Q _ => match x, y with
  | .lst xs, .lst ys => xs.length + ys.length ≤ 1000000 ∧ Q (xs ++ ys) env
  | _, _ => False
section
variable {X : Cx} {T : List (Addr × Str)} {E : XK} {k : Nat} {x y : Expr} {a b : W D} {p p1 p2 pos : Pos}
theorem jf_rep (ha : JE T X E x a) (hb : JE T X E y b) : JF T X E (.BinOp x .Mult y pos) (wRepF a b) :=
  peI (pe_op op_rep ha hb) fun σ H Q ⟨c, wd, env, P, Ex, rl, h, xo, kk⟩ => ⟨c, wd, env, _, Ex, rl, h, xo, fun d env1 h1 v wd1 H1 le1 r1 rp1 => ⟨c, wd1, env1, _, Ex, r1, h1, xo, fun e env2 h2 u wd2 H2 le2 r2 rp2 => by
    dsimp only at h2
    split at h2
    · obtain ⟨⟨h3, h4, h5⟩, h6⟩ := h2
      cases rp2
      cases Rep.mono le2 rp1 with
      | lst hh rs =>
        have hz : _ * _ ≤ sizeLine := sz6 h5
        rw [← rs.length] at hz
        refine ⟨_, _, _, rfl, rfl, r2.good.sub _ _ hh, by omega, by omega, hz, fun q hq => ?_⟩
        obtain ⟨r3, f⟩ := r2.fresh hq (rs.rep _) (by rw [rep_len, Nat.mul_comm]; exact hz)
        exact kk _ env2 h6 (.ref q) _ _ (le1.trans le2) r3 f
    · exact h2.elim⟩⟩
theorem jf_cat (ha : JE T X E x a) (hb : JE T X E y b) : JF T X E (.BinOp x .Add y pos) (wCatF a b) :=
  peI (pe_op op_cat ha hb) fun σ H Q ⟨c, wd, env, P, Ex, rl, h, xo, kk⟩ => ⟨c, wd, env, _, Ex, rl, h, xo, fun d env1 h1 v wd1 H1 le1 r1 rp1 => ⟨c, wd1, env1, _, Ex, r1, h1, xo, fun e env2 h2 u wd2 H2 le2 r2 rp2 => by
    dsimp only at h2
    split at h2
    · obtain ⟨h5, h6⟩ := h2
      cases rp2 with
      | lst hh2 rs2 =>
        cases Rep.mono le2 rp1 with
        | lst hh rs =>
          have hz : _ + _ ≤ sizeLine := sz6 h5
          rw [← rs.length, ← rs2.length] at hz
          refine ⟨_, _, _, _, rfl, rfl, r2.good.sub _ _ hh, r2.good.sub _ _ hh2, hz, fun q hq => ?_⟩
          obtain ⟨r3, f⟩ := r2.fresh hq (rs.append rs2) (by rw [List.length_append]; exact hz)
          exact kk _ env2 h6 (.ref q) _ _ (le1.trans le2) r3 f
    · exact h2.elim⟩⟩
theorem reps_rg {K : PySem.W.Frag} {wd : Wd} (i j : Int) : Reps K wd (L2.rgV i j) (Pd.upTo i j) := by
  unfold L2.rgV Pd.upTo
  have key : ∀ l : List Nat, Reps K wd (l.map fun (m : Nat) => V.int (i + m)) (l.map fun (m : Nat) => D.int (i + m)) := fun l => by
    induction l with
    | nil => exact .nil
    | cons m l ih => exact .cons (.int _) ih
  exact key _
def wRgF (w : W (Int × Int)) : W (List D) := w.bind fun q env Q _ => (-1000000 ≤ q.1 ∧ q.1 ≤ 1000000 ∧ -1000000 ≤ q.2 ∧ q.2 ≤ 1000000) ∧ Q (Pd.upTo q.1 q.2) env
def wRg1 (a : W D) : W (Int × Int) := a.bind fun x env Q _ => match x with
  | .int n => Q (0, n) env
  | _ => False
def wRg2 (a b : W D) : W (Int × Int) := a.bind fun x => b.bind fun y env Q _ => match x, y with
  | .int m, .int n => Q (m, n) env
  | _, _ => False
abbrev JR (T : List (Addr × Str)) (X : Cx) (E : XK) (e : Expr) (w : W (Int × Int)) : Prop := PRg X e (fun σ H Q => lift X.K T (fun _ _ _ _ _ (b : Int × Int) a => b = a) E w σ H fun q H' => Q q.1 q.2 H')
theorem jr_1 (hm : X.mg "range" = none) (ha : JE T X E x a) (hg : Gl X "range" := by rfl) (na : starEach [x] X.env = (false, eval x X.env) :: starEach [] X.env := by rfl) : JR T X E (.Call (.Name "range" p) [x] [] pos) (wRg1 a) := fun pins s σ H Q I ⟨c, wd, env, P, Ex, rl, h, xo, kk⟩ =>
  prg_1 hg hm ha na pins s σ H Q I ⟨c, wd, env, _, Ex, rl, h, xo, fun d env1 h1 v wd1 H1 le1 r1 rp1 => by
    dsimp only at h1
    split at h1
    · cases rp1
      exact ⟨_, rfl, kk (0, _) env1 h1 (0, _) wd1 H1 le1 r1 rfl⟩
    · exact h1.elim⟩
theorem jr_2 (hm : X.mg "range" = none) (ha : JE T X E x a) (hb : JE T X E y b) (hg : Gl X "range" := by rfl) (na : starEach [x, y] X.env = (false, eval x X.env) :: starEach [y] X.env := by rfl) (nb : starEach [y] X.env = (false, eval y X.env) :: starEach [] X.env := by rfl) (hp : (backTo pos (starEach [y] X.env)).any (·.1) = false := by rfl) :
    JR T X E (.Call (.Name "range" p) [x, y] [] pos) (wRg2 a b) := fun pins s σ H Q I ⟨c, wd, env, P, Ex, rl, h, xo, kk⟩ =>
  prg_2 hg hm ha hb na nb hp pins s σ H Q I ⟨c, wd, env, _, Ex, rl, h, xo, fun d env1 h1 v wd1 H1 le1 r1 rp1 => ⟨c, wd1, env1, _, Ex, r1, h1, xo, fun e env2 h2 u wd2 H2 le2 r2 rp2 => by
    dsimp only at h2
    split at h2
    · cases rp1
      cases rp2
      exact ⟨_, _, rfl, rfl, kk (_, _) env2 h2 (_, _) wd2 H2 (le1.trans le2) r2 rfl⟩
    · exact h2.elim⟩⟩
theorem jf_listRg {w : W (Int × Int)} (B : Bd X E k) (hm : X.mg "list" = none) (he : JR T X E x w) (hg : Gl X "list" := by rfl) (na : starEach [x] X.env = (false, eval x X.env) :: starEach [] X.env := by rfl) : JF T X E (.Call (.Name "list" p) [x] [] pos) (wRgF w) :=
  peI (pe_listRg B.calm hg hm he na) fun σ H Q ⟨c, wd, env, P, Ex, rl, h, xo, kk⟩ => ⟨c, wd, env, _, Ex, rl, h, xo, fun q env1 h1 q' wd1 H1 le1 r1 rp1 => by
    subst rp1
    obtain ⟨⟨i0, i1, j0, j1⟩, h2⟩ := h1
    refine ⟨⟨by omega, by omega, by omega, by omega, by omega⟩, fun S hS => ?_⟩
    obtain ⟨r3, f⟩ := r1.fresh hS (reps_rg q'.1 q'.2) (by rw [rgV_length, sizeLine_eq]; omega)
    exact kk _ env1 h2 (.ref S) _ _ le1 r3 f⟩
end
end Pd

namespace Pd
open PySem PySem.Spec PyProof.Rows L2 LamX
/-! ### repr of plain data of any kind -/
def okR : D → Bool
  | .non => true
  | .bl _ => true
  | .int _ => true
  | .str _ => true
  | .lst _ => true
  | .tup _ => true
  | .dic [] => true
  | _ => false
def dReprA (d : D) : Option D := if okR d && sho 30 d && decide (wt d ≤ 100000) then some (.str (shown d)) else none
def ShoA (d : D) : Prop := okR d = true ∧ sho 30 d = true ∧ wt d ≤ 100000
def fReprA : D → PEnv → K1 → Prop := fun x env Q => ShoA x ∧ Q (.str (shown x)) env
theorem as_reprA : Asks1 fReprA dReprA := fun x env Q ⟨⟨h1, h2, h3⟩, q⟩ => ⟨_, by
  unfold dReprA
  rw [if_pos (by rw [h1, h2]; exact decide_eq_true h3)], q⟩
theorem cr_shwA {X : Cx} (gd : X.A.guards = some []) (hu : X.A.units + 64 < cLine) : CallR X (.builtin "repr") (fun xs H Q => ∃ (T : List (Addr × Str)) (wd : Wd) (v : V) (d : D), xs = [v] ∧ Good T wd H ∧ Top X.K wd H v d ∧ okR d = true ∧ sho 30 d = true ∧ wt d ≤ 100000 ∧ Q (.str (shown d)) H) := by
  intro pins s σ H xs us Q I r h
  obtain ⟨T, wd, v, d, rfl, g, t, h1, h2, h3, q⟩ := h
  have sl := sho_len h2 h3
  have lst : ∀ ds, d = .lst ds → wpAny (model X.prog X.w) X.A (call (.builtin "repr") us) (EP X pins σ Q) X.xe s := fun ds e => by
    subst e
    obtain ⟨p, vs, rfl, e1, e2⟩ := top_lst g t
    exact cr_shw gd hu pins s σ H _ us Q I r ⟨p, T, wd, vs, ds, rfl, g, e2, .inl ⟨.inl (.inl e1), h2, h3, q⟩⟩
  have tup : ∀ ds, d = .tup ds → wpAny (model X.prog X.w) X.A (call (.builtin "repr") us) (EP X pins σ Q) X.xe s := fun ds e => by
    subst e
    obtain ⟨p, vs, rfl, e1, _, e2⟩ := top_tup g t
    exact cr_shw gd hu pins s σ H _ us Q I r ⟨p, T, wd, vs, ds, rfl, g, e2, .inr ⟨e1, h2, h3, q⟩⟩
  obtain ⟨u, rfl, ru⟩ := vals1 r
  cases d with
  | lst ds => exact lst ds rfl
  | tup ds => exact tup ds rfl
  | non =>
    rcases t with t | ⟨p, vs, xs, _, e, _⟩
    · cases t
      cases ru
      exact PySem.P.repr_of_none ⟨.str _, H, I.tok _, ⟨_, rfl⟩, q⟩
    · cases e
  | bl b =>
    rcases t with t | ⟨p, vs, xs, _, e, _⟩
    · cases t
      cases ru
      refine PySem.P.repr_of_bool ⟨.str _, H, I.tok _, ⟨_, rfl⟩, ?_⟩
      cases b <;> exact q
    · cases e
  | int i =>
    rcases t with t | ⟨p, vs, xs, _, e, _⟩
    · cases t
      obtain ⟨tk, rfl⟩ := ru
      have hi : i.natAbs < 10 ^ 120 := of_decide_eq_true h2
      exact PySem.P.repr_of_int (Nat.lt_trans (int_sho hi).2 (by decide)) ⟨.str _, H, I.tok _, ⟨_, rfl⟩, q⟩
    · cases e
  | str z =>
    rcases t with t | ⟨p, vs, xs, _, e, _⟩
    · cases t
      obtain ⟨tk, rfl⟩ := ru
      exact PySem.P.repr_of_str ⟨.str _, H, I.tok _, ⟨_, rfl⟩, q⟩ sl
    · cases e
  | dic kvs =>
    cases kvs with
    | cons _ _ => cases h1
    | nil =>
      rcases t with t | ⟨p, vs, xs, _, e, _⟩
      · cases t with
        | dic hs e rs =>
          rename_i a vs0
          have v0 : vs0 = [] := by
            cases vs0 with
            | nil => rfl
            | cons _ _ => cases e
          subst v0
          cases ru
          obtain ⟨_, nm, vs, kv, o, en, n, ho, hx, he, hall⟩ := I.hok _ _ (g.sub _ _ hs)
          have ev : vs = [] := by
            cases vs with
            | nil => rfl
            | cons _ _ => cases kv
          subst ev
          have ee : en.toList = [] := by
            cases en' : en.toList with
            | nil => rfl
            | cons _ _ =>
              have z := hall.2.1
              rw [en'] at z
              cases z
          refine PySem.repr_of_reads' (h₀ := s.heap) (d := .dict []) (as := a :: [] ++ []) (.dict ho hx.1 he (by rw [ee]; exact .nil) (by rw [ee]; exact .nil)) rfl (fun _ hm => ?_) gd (by show X.A.units + (_ + 1) < cLine; simp only [PyData.depth, PyData.depthKv]; omega) (fun _ _ z => z) (fun h' u tk hk => ⟨.str _, H, I.kept hk, ⟨_, rfl⟩, q⟩) sl
          have hm' : sysModules = a := by simpa using hm
          rw [← hm'] at nm
          exact absurd nm (by decide)
      · cases e
  | scr _ => cases h1
  | dit _ => cases h1
  | ins _ _ => cases h1
  | box _ => cases h1
  | raw _ => cases h1
  | cls _ => cases h1
theorem cb_reprA {X : Cx} (gd : X.A.guards = some []) (hu : X.A.units + 64 < cLine) : CallB X (.builtin "repr") dReprA := ⟨_, cr_shwA gd hu, fun x z e T wd H v Q g t d => by
  unfold dReprA at e
  obtain ⟨h, rfl⟩ := ite_some e
  rw [Bool.and_eq_true, Bool.and_eq_true, decide_eq_true_eq] at h
  exact ⟨T, wd, v, x, rfl, g, t, h.1.1, h.1.2, h.2, d.now (.str _)⟩⟩
end Pd

namespace Pd
open PySem PySem.Spec PyProof.Rows L2 LamX
/-! ### defs with a keyword-only parameter and its default -/
structure DefKw (P : Program) (w : World) (K : PySem.W.Frag) (mg : Str → Option Value) (base : Heap) (T : List (Addr × Str)) (x : Str) (k : Nat) (ps : List Str) (kn : Str) (v : V) (F : Fn) : Prop where
  ex : ∃ (f : Addr) (fd : FuncData), mg x = some (.ref f) ∧ PySem.W.keepIn K (.ref f) = true ∧ (∃ ds, Vals [v] ds ∧ Binds K fd (ps ++ [kn]) ds) ∧ KBn K fd (ps ++ [kn]) ps.length [kn] (fun us ws => us ++ ws) (fun vs zs => vs ++ zs) ∧ FnOk P w K mg base (L2.CX P w) k f fd (ps ++ [kn]) (spec K T F)
def HasK (K : PySem.W.Frag) (mg : Str → Option Value) (x : Str) (st : Stmt) (kws : List (Str × V)) : Prop := ∃ f fd, FunD K x x (defArgs st) (defBody st) (defScope st) [] kws f fd ∧ mg x = some (.ref f)
theorem hasK_of {fa : List He.Fa} {fn : List He.DefD} {K : PySem.W.Frag} {h : Heap} {mg : Str → Option Value} (X : K.In h) (G : h.Ns mainGlobals mg) (c : He.SaysD fa fn K) {x : Str} {st : Stmt} {kws : List (Str × He.Dv)} (i j : Nat)
    (hi : fa[i]? = some (.glo x)) (hj : fn[j]? = some ⟨(x, none), x, x, defArgs st, defBody st, defScope st, [], kws⟩) : HasK K mg x st (kws.map fun q => (q.1, q.2.v K)) := by
  obtain ⟨fd, F⟩ := c.def_ j hj
  exact ⟨He.ga K x, fd, F, He.glo_ok X G (c.fact i hi)⟩
theorem kbn_of {K : PySem.W.Frag} {x qual : Str} {params : Arguments} {body : List Stmt} {scope : Scope} {kws : List (Str × V)} {f : Addr} {fd : FuncData} {ps ks : List Str} {n : Nat} (F : FunD K x qual params body scope [] kws f fd)
    (h : ∀ (kV doc pm : Value) (an : Option Addr) (cdv ct : Value) (us ws : List Value), us.length = n → ws.length = ks.length → bindArgs (PySem.W.fnOf x qual params body scope .none kV doc pm an cdv ct) ⟨us, ks.zip ws⟩ = pure (ps.zip (us ++ ws))) : KBn K fd ps n ks (fun us ws => us ++ ws) (fun vs zs => vs ++ zs) := by
  obtain ⟨oc, od, dV, kV, doc, pm, an, cdv, ct, osl, rfl, lk, hcd, hD, hK⟩ := F.ex
  rcases hD with ⟨_, rfl⟩ | ⟨e, _⟩
  · exact ⟨fun s us ws X l1 l2 => .of_eq (h kV doc pm an cdv ct us ws l1 l2), fun r1 r2 => r1.append r2⟩
  · exact absurd rfl e
section
variable {P : Program} {w : World} {K : PySem.W.Frag} {mg : Str → Option Value} {base : Heap} {T : List (Addr × Str)}
theorem def_okK {x kn : Str} {v : V} {st : Stmt} {N ps : List Str} {k : Nat} {F : Fn} (D : HasK K mg x st [(kn, v)]) (S : FnScope N (ps ++ [kn]) (defScope st))
    (b1 : ∀ (D : Addr) (doc pm : Value) (an : Option Addr) (cdv ct : Value) (us ks : List Value), us.length = ps.length → ks.length = 1 → KwChain D ([kn].zip ks) (bindArgs (PySem.W.fnOf x x (defArgs st) (defBody st) (defScope st) .none (.ref D) doc pm an cdv ct) ⟨us, []⟩) ((ps ++ [kn]).zip (us ++ ks)))
    (b2 : ∀ (kV doc pm : Value) (an : Option Addr) (cdv ct : Value) (us ws : List Value), us.length = ps.length → ws.length = 1 → bindArgs (PySem.W.fnOf x x (defArgs st) (defBody st) (defScope st) .none kV doc pm an cdv ct) ⟨us, [kn].zip ws⟩ = pure ((ps ++ [kn]).zip (us ++ ws)))
    (len : ∀ ds Q Ex, F ds Q Ex → ds.length = (ps ++ [kn]).length)
    (hd : ∀ (cdv : Value) (A : Around) (outer : List Env) (s : Shared) (H : Hp) (E : XK) (f : Addr), Bd (cxOf (L2.CX P w) P w K mg base N x (defScope st) f cdv A outer s H E) E k → Takes (cxOf (L2.CX P w) P w K mg base N x (defScope st) f cdv A outer s H E) (fun cls d _ H => E cls d H) →
      ∃ wb, JSs T (cxOf (L2.CX P w) P w K mg base N x (defScope st) f cdv A outer s H E) E (defBody st) wb ∧ ∀ ds Q Ex, F ds Q Ex → wb (dEnds Q Ex) (startE N ds)) : DefKw P w K mg base T x (k + 1) ps kn v F := by
  obtain ⟨f, fd, D, gm⟩ := D
  have bb := D.binds0 (ps := ps ++ [kn]) ps.length (by simp) (by simp) b1
  refine ⟨f, fd, gm, D.kp, bb, kbn_of D b2, ?_⟩
  refine D.ok S (fun vs H Q E h => ?_) (fun cdv A outer s H vs Q E hr h => ?_)
  · obtain ⟨wd, ds, P, Ex, _, r, h, _⟩ := h
    rw [r.length]
    exact len _ _ _ h
  · obtain ⟨wd, ds, P1, Ex, g, r, h, xo, kk⟩ := h
    have tk : Takes (cxOf (L2.CX P w) P w K mg base N x (defScope st) f cdv A outer s H E) (fun cls d _ H => E cls d H) := takes_of rfl rfl rfl rfl
    have B : Bd (cxOf (L2.CX P w) P w K mg base N x (defScope st) f cdv A outer s H E) E k := ⟨hr, passes_call tk fun _ _ _ _ h => h, passes_of rfl, rfl, S.nd⟩
    obtain ⟨wb, hj, hw⟩ := hd cdv A outer s H E f B tk
    refine ⟨_, hj, ⟨wd, H, []⟩, wd, startE N ds, dEnds P1 Ex, rel_start g r, hw ds P1 Ex h, ⟨xo, fun env' hn σ' wd' H' le r' => ?_, fun d hd v wd' H' o' g' k' rp => kk d hd v wd' H' o' g' k' rp, fun _ z => z.elim, fun _ z => z.elim⟩⟩
    exact kk .non hn .non wd' H' r'.ord r'.good r'.keep .non
end
abbrev JK (T : List (Addr × Str)) (X : Cx) (E : XK) (kws : List Keyword) (w : W (List D)) : Prop := PK X kws (lift X.K T (rA X.K) E w)
def wCallD (F : Fn) (d0 : D) (a : W (List D)) : W D := a.bind fun ds env Q ex => F (ds ++ [d0]) (fun d => Q d env) ex
def wCallK (F : Fn) (n : Nat) (a b : W (List D)) : W D := a.bind fun ds => b.bind fun es env Q ex => ds.length = n ∧ es.length = 1 ∧ F (ds ++ es) (fun d => Q d env) ex
section
variable {X : Cx} {T : List (Addr × Str)} {E : XK} {k : Nat}
theorem pkI {kws : List Keyword} {t t' : TA} (h : PK X kws t) (i : ∀ σ H Q, t' σ H Q → t σ H Q) : PK X kws t' := ⟨fun pos pins s σ H Q I q => h.run pos pins s σ H Q I (i σ H Q q)⟩
theorem jk_nil : JK T X E [] wNil := pkI pk_nil fun σ H Q ⟨c, wd, env, P, Ex, r, h, _, k⟩ => k [] env h [] wd H (Le.refl _) r .nil
theorem jk_cons {e : Expr} {kws : List Keyword} {nm : Option Str} {kpos : Pos} {a : W D} {w : W (List D)} (ha : JE T X E e a) (hr : JK T X E kws w) : JK T X E (⟨nm, e, kpos⟩ :: kws) (wCons a w) :=
  pkI (pk_cons ha hr) fun σ H Q ⟨c, wd, env, P, Ex, r, h, xo, k⟩ =>
    ⟨c, wd, env, _, Ex, r, h, xo, fun x env1 h1 v wd1 H1 le1 r1 rp1 => ⟨c, wd1, env1, _, Ex, r1, h1, xo, fun xs env2 h2 vs wd2 H2 le2 r2 rp2 => k _ env2 h2 (v :: vs) wd2 H2 (le1.trans le2) r2 (.cons (Rep.mono le2 rp1) rp2)⟩⟩
theorem je_callD {x kn : Str} {ps : List Str} {v : V} {d0 : D} {F : Fn} {e : Expr} {es : List Expr} {a : W (List D)} {p pos : Pos} {j : Nat} (B : Bd X E k) (G : DefKw X.prog X.w X.K X.mg X.base T x j ps kn v F) (hv : ∀ wd, Rep X.K wd v d0) (ha : JA T X E (e :: es) a) (hj : j ≤ k := by decide) (hg : Gl X x := by rfl)
    (hdb : (x == ("__debug__" : Str)) = false := by decide) (he : starEach (e :: es) X.env = (false, eval e X.env) :: starEach es X.env := by rfl) (hpl : (backTo pos (starEach es X.env)).any (·.1) = false := by rfl) : JE T X E (.Call (.Name x p) (e :: es) [] pos) (wCallD F d0 a) := by
  obtain ⟨f, fd, g1, g2, ⟨dd, gv, gb⟩, _, g4⟩ := G.ex
  refine peI (pe_call g4 (B.room.mono hj) hg g1 g2 gb gv B.pass ha hdb he hpl) fun σ H Q ⟨c, wd, env, P, Ex, r, h, xo, kk⟩ => ⟨c, wd, env, _, Ex, r, h, xo, fun ds env1 h1 vs wd1 H1 le1 r1 rp1 => ?_⟩
  exact ⟨wd1, ds ++ [d0], _, Ex, r1.good, rp1.append (.cons (hv wd1) .nil), h1, xo.into r1.ord r1.keep, fun d hd v wd2 H2 o2 g2 k2 rp2 => kk d env1 hd v wd2 H2 (le1.trans o2.le) (r1.go o2 g2 k2) rp2⟩
theorem je_callKw {x kn : Str} {ps : List Str} {v : V} {F : Fn} {e : Expr} {es : List Expr} {kws : List Keyword} {a b : W (List D)} {p pos : Pos} {j : Nat} (B : Bd X E k) (G : DefKw X.prog X.w X.K X.mg X.base T x j ps kn v F) (ha : JA T X E (e :: es) a) (hk : JK T X E kws b) (hj : j ≤ k := by decide) (hg : Gl X x := by rfl)
    (hall : (backToKw pos (keywordEach kws X.env)).all (·.1.isSome) = true := by rfl) (hks : (backToKw pos (keywordEach kws X.env)).filterMap (·.1) = [kn] := by rfl)
    (hdb : (x == ("__debug__" : Str)) = false := by decide) (he : starEach (e :: es) X.env = (false, eval e X.env) :: starEach es X.env := by rfl) (hpl : ((backTo pos (starEach (e :: es) X.env)).any (·.1) || (backToKw pos (keywordEach kws X.env)).any (·.1.isNone)) = false := by rfl) :
    JE T X E (.Call (.Name x p) (e :: es) kws pos) (wCallK F ps.length a b) := by
  obtain ⟨f, fd, g1, g2, _, gb, g4⟩ := G.ex
  refine peI (pe_callN g4 (B.room.mono hj) hg g1 g2 gb B.pass ha hk hall hks hdb he hpl) fun σ H Q ⟨c, wd, env, P, Ex, r, h, xo, kk⟩ => ⟨c, wd, env, _, Ex, r, h, xo, fun ds env1 h1 vs wd1 H1 le1 r1 rp1 => ⟨c, wd1, env1, _, Ex, r1, h1, xo, fun es env2 h2 us wd2 H2 le2 r2 rp2 => ?_⟩⟩
  obtain ⟨l1, l2, h2⟩ := h2
  refine ⟨by rw [rp1.length]; exact l1, by rw [rp2.length]; exact l2, ?_⟩
  exact ⟨wd2, ds ++ es, _, Ex, r2.good, (rp1.mono le2).append rp2, h2, xo.into r2.ord r2.keep, fun d hd v wd3 H3 o3 g3 k3 rp3 => kk d env2 hd v wd3 H3 ((le1.trans le2).trans o3.le) (r2.go o3 g3 k3) rp3⟩
end
end Pd

namespace Pd
open PySem PySem.Spec PyProof.Rows L2 LamX
/-! ### min of three ints -/
theorem vals3 {a b c : V} {us : List Value} (r : Vals [a, b, c] us) : ∃ x y z, us = [x, y, z] ∧ RelV a x ∧ RelV b y ∧ RelV c z := by
  cases r with
  | cons r1 r =>
    cases r with
    | cons r2 r =>
      cases r with
      | cons r3 r =>
        cases r
        exact ⟨_, _, _, rfl, r1, r2, r3⟩
def dMin3 : List D → Option D
  | [.int i, .int j, .int k] => some (.int (min i (min j k)))
  | _ => none
section
variable {X : Cx}
theorem call_min3 (hc : X.calm = true) : CallR X (.builtin "min") (fun xs H Q => ∃ i j k, xs = [.int i, .int j, .int k] ∧ Q (.int (min i (min j k))) H) := by
  intro pins s σ H xs us Q I r h
  obtain ⟨i, j, k, rfl, q⟩ := h
  obtain ⟨_, _, _, rfl, ⟨t, rfl⟩, ⟨t', rfl⟩, ⟨t2, rfl⟩⟩ := vals3 r
  refine min_three_ints (I.ok.hd hc) fun h' tk kk => ⟨_, H, I.kept kk, ?_, q⟩
  split
  · split
    · exact ⟨_, by congr 1; omega⟩
    · exact ⟨_, by congr 1; omega⟩
  · split
    · exact ⟨_, by congr 1; omega⟩
    · exact ⟨_, by congr 1; omega⟩
theorem cn_min3 (hc : X.calm = true) : CallN X (.builtin "min") dMin3 := ⟨_, call_min3 hc, fun xs z e T wd H vs Q g r d => by
  unfold dMin3 at e
  split at e
  · cases e
    cases r with
    | cons a b =>
      cases a
      cases b with
      | cons a b =>
        cases a
        cases b with
        | cons a b =>
          cases a
          cases b
          exact ⟨_, _, _, rfl, d.now (.int _)⟩
  · cases e⟩
end
end Pd

namespace Pd
open PySem PySem.Spec PyProof.Rows L2 LamX
/-! ### methods -/
structure MethOk (P : Program) (w : World) (K : PySem.W.Frag) (mg : Str → Option Value) (base : Heap) (T : List (Addr × Str)) (C m : Str) (k : Nat) (F : Fn) : Prop where
  cl : Cls K (He.ga K C)
  ex : ∃ f, Meth K (He.ga K C) m f ∧ FnR P w K mg base (L2.CX P w) k f (spec K T F)
theorem lookup_none {K : PySem.W.Frag} {wd : Wd} : ∀ {vs : List (Str × V)} {ds : List (Str × D)} {f : Str}, vs.map (·.1) = ds.map (·.1) → ds.lookup f = none → vs.lookup f = none
  | [], _, f, _, _ => rfl
  | _ :: _, [], _, e, _ => by simp at e
  | (a, v) :: vs, (b, x) :: ds, f, e, h => by
    have e1 : a = b := by simpa using congrArg List.head? e
    have e2 : vs.map (·.1) = ds.map (·.1) := by simpa using congrArg List.tail e
    subst e1
    by_cases hf : (f == a) = true
    · have : List.lookup f ((a, x) :: ds) = some x := by simp only [List.lookup, hf]
      rw [this] at h
      cases h
    · have hf' : (f == a) = false := by simpa using hf
      have h' : ds.lookup f = none := by
        have : List.lookup f ((a, x) :: ds) = ds.lookup f := by simp only [List.lookup, hf']
        rw [this] at h
        exact h
      have := lookup_none (K := K) (wd := wd) e2 h'
      simp only [List.lookup, hf']
      exact this
def wMeth (C m : Str) (F : Fn) (o : W D) (a : W (List D)) : W D := o.bind fun x env Q ex => match x with
  | .ins C' fs => C' = C ∧ fs.lookup m = none ∧ (a.bind fun ds env Q ex => F (.ins C' fs :: ds) (fun d => Q d env) ex) env Q ex
  | _ => False
section
variable {X : Cx} {T : List (Addr × Str)} {E : XK} {k : Nat}
theorem lift_meth {C m : Str} {F : Fn} {o : W D} {a : W (List D)} {σ : L2.St} {H : Hp} {Q : VK} (h : lift X.K T (rE X.K) E (wMeth C m F o a) σ H Q) : tMethR (He.ga X.K C) m (spec X.K T F) E (lift X.K T (rE X.K) E o) (lift X.K T (rA X.K) E a) σ H Q := by
  obtain ⟨c, wd, env, P, Ex, r, h, xo, kk⟩ := h
  refine ⟨c, wd, env, _, Ex, r, h, xo, fun x env1 h1 v wd1 H1 le1 r1 rp1 => ?_⟩
  dsimp only at h1
  split at h1
  · obtain ⟨rfl, nl, h1⟩ := h1
    cases rp1 with
    | ins hm en er =>
      refine ⟨_, _, _, rfl, r1.good.sub _ _ hm, lookup_none (K := X.K) (wd := wd) en nl, c, wd1, env1, _, Ex, r1, h1, xo, fun ds env2 h2 vs wd2 H2 le2 r2 rp2 => ?_⟩
      exact ⟨wd2, _ :: ds, _, Ex, r2.good, .cons (Rep.mono le2 (.ins hm en er)) rp2, h2, xo.into r2.ord r2.keep, fun d hd v wd3 H3 o3 g3 k3 rp3 => kk d env2 hd v wd3 H3 ((le1.trans le2).trans o3.le) (r2.go o3 g3 k3) rp3⟩
  · exact h1.elim
theorem je_meth {C m : Str} {F : Fn} {o e : Expr} {es : List Expr} {wo : W D} {a : W (List D)} {apos pos : Pos} {pl : Sem Bool} {j : Nat} (B : Bd X E k) (G : MethOk X.prog X.w X.K X.mg X.base T C m j F) (ho : JE T X E o wo) (ha : JA T X E (e :: es) a) (hj : j ≤ k := by decide)
    (hst : starEach (e :: es) X.env = (false, eval e X.env) :: starEach es X.env := by rfl) (hpl : (backTo pos (starEach es X.env)).any (·.1) = false := by rfl)
    (ht : eval (.Call (.Attribute o m apos) (e :: es) [] pos) X.env = (do
      let ov ← eval o X.env
      standAt apos.atName
      let (f, first) ← holding [ov] (getMethod ov m pl)
      callWith pos f first (backTo pos (starEach (e :: es) X.env)) (backToKw pos (keywordEach [] X.env))) := by rfl) : JE T X E (.Call (.Attribute o m apos) (e :: es) [] pos) (wMeth C m F wo a) := by
  obtain ⟨f, g1, g2⟩ := G.ex
  exact peI (pe_methR ho G.cl g1 g2 (B.room.mono hj) B.pass ha hst hpl ht) fun σ H Q h => lift_meth h
theorem pe_methR0 {CX : CXT} {C f : Addr} {m : Str} {sp : Sp} {o : Expr} {ta : TE} {apos pos : Pos} {pl : Sem Bool} (he : PE X o ta) (c : Cls X.K C) (hm : Meth X.K C m f) (F : FnR X.prog X.w X.K X.mg X.base CX k f sp) (hr : Room k X.A) (hx : Passes CX X E)
    (ht : eval (.Call (.Attribute o m apos) [] [] pos) X.env = (do
      let ov ← eval o X.env
      standAt apos.atName
      let (f, first) ← holding [ov] (getMethod ov m pl)
      callWith pos f first (backTo pos (starEach [] X.env)) (backToKw pos (keywordEach [] X.env))) := by rfl) :
    PE X (.Call (.Attribute o m apos) [] [] pos) (tMethR C m sp E ta tNil) := by
  constructor
  intro pins s σ H Q I h
  apply PySem.W.methodCall_KW (pl := pl) _ ht
  apply thn (he.run pins s σ H _ I h)
  rintro _ s1 ⟨_, H1, I1, self_, a, dx, fs, rfl, at_, no, q⟩
  cases self_
  apply getmeth_ok I1 at_ c hm no
  apply PySem.W.callWith_K0 I1.kIn hm.kp
  have self_ : Vals [V.ref a] [Value.ref a] := .cons rfl .nil
  exact wpAny_call (run_fnR F hr hx I1 self_ q)
theorem je_meth0 {C m : Str} {F : Fn} {o : Expr} {wo : W D} {apos pos : Pos} {pl : Sem Bool} {j : Nat} (B : Bd X E k) (G : MethOk X.prog X.w X.K X.mg X.base T C m j F) (ho : JE T X E o wo) (hj : j ≤ k := by decide)
    (ht : eval (.Call (.Attribute o m apos) [] [] pos) X.env = (do
      let ov ← eval o X.env
      standAt apos.atName
      let (f, first) ← holding [ov] (getMethod ov m pl)
      callWith pos f first (backTo pos (starEach [] X.env)) (backToKw pos (keywordEach [] X.env))) := by rfl) : JE T X E (.Call (.Attribute o m apos) [] [] pos) (wMeth C m F wo wNil) := by
  obtain ⟨f, g1, g2⟩ := G.ex
  refine peI (pe_methR0 ho G.cl g1 g2 (B.room.mono hj) B.pass ht) fun σ H Q h => ?_
  obtain ⟨c, wd, env, P, Ex, r, h, xo, kk⟩ := lift_meth h
  refine ⟨c, wd, env, P, Ex, r, h, xo, fun x env1 h1 v wd1 H1 le1 r1 rp1 => ?_⟩
  obtain ⟨a, dx, fs, e1, e2, e3, c', wd', env', P', Ex', r', h', xo', kk'⟩ := kk x env1 h1 v wd1 H1 le1 r1 rp1
  exact ⟨a, dx, fs, e1, e2, e3, kk' [] env' h' [] wd' H1 (Le.refl _) r' .nil⟩
/-- one or the other: a thing of several classes -/
def wEi (a b : W D) : W D := fun env Q ex => a env Q ex ∨ b env Q ex
theorem je_ei {e : Expr} {a b : W D} (ha : JE T X E e a) (hb : JE T X E e b) : JE T X E e (wEi a b) :=
  ⟨fun pins s σ H Q I ⟨c, wd, env, P, Ex, r, h, xo, kk⟩ => by
    rcases h with h | h
    · exact ha.run pins s σ H Q I ⟨c, wd, env, P, Ex, r, h, xo, kk⟩
    · exact hb.run pins s σ H Q I ⟨c, wd, env, P, Ex, r, h, xo, kk⟩⟩
end
section
variable {P : Program} {w : World} {K : PySem.W.Frag} {mg : Str → Option Value} {base : Heap} {T : List (Addr × Str)}
theorem meth_okX {C m qual : Str} {st : Stmt} {f : Addr} {N ps : List Str} {k : Nat} {F : Fn} (cl : Cls K (He.ga K C)) (mt : Meth K (He.ga K C) m f) (D : HasA K f m qual st) (S : FnScope N ps (defScope st)) (bn : ∀ fd, FunD K m qual (defArgs st) (defBody st) (defScope st) [] [] f fd → Binds K fd ps [])
    (len : ∀ ds Q Ex, F ds Q Ex → ds.length = ps.length)
    (hd : ∀ (cdv : Value) (A : Around) (outer : List Env) (s : Shared) (H : Hp) (E : XK) (f : Addr), Bd (cxOf (L2.CX P w) P w K mg base N qual (defScope st) f cdv A outer s H E) E k → Takes (cxOf (L2.CX P w) P w K mg base N qual (defScope st) f cdv A outer s H E) (fun cls d _ H => E cls d H) →
      ∃ wb, JSs T (cxOf (L2.CX P w) P w K mg base N qual (defScope st) f cdv A outer s H E) E (defBody st) wb ∧ ∀ ds Q Ex, F ds Q Ex → wb (dEnds Q Ex) (startE N ds)) : MethOk P w K mg base T C m (k + 1) F := by
  obtain ⟨fd, D⟩ := D
  refine ⟨cl, f, mt, ?_⟩
  refine FnR.imp ((fn_okA D S len fun cdv A outer s H E B tk => hd cdv A outer s H E f B tk).raw (bn fd D) .nil) fun vs H Q E h => ?_
  show spec K T F (vs ++ []) H Q E
  rw [List.append_nil]
  exact h
/-- what is left over as a tuple -/
def starM (n : Nat) (F : Fn) : Fn := fun ds P Ex => n ≤ ds.length ∧ ds.length ≤ 1000000 ∧ F (ds.take n ++ [.tup (ds.drop n)]) P Ex
theorem meth_okS {C m qual pv : Str} {st : Stmt} {f : Addr} {N ps : List Str} {k n : Nat} {F : Fn} (cl : Cls K (He.ga K C)) (mt : Meth K (He.ga K C) m f) (D : HasA K f m qual st) (S : FnScope N (ps ++ [pv]) (defScope st)) (hn : ps.length = n)
    (hb : ∀ (kV doc pm : Value) (an : Option Addr) (cdv ct : Value) (us rest : List Value), us.length = ps.length → bindArgs (PySem.W.fnOf m qual (defArgs st) (defBody st) (defScope st) .none kV doc pm an cdv ct) ⟨us ++ rest, []⟩ = (newTuple rest >>= fun t => pure (ps.zip us ++ [(pv, t)])))
    (hd : ∀ (cdv : Value) (A : Around) (outer : List Env) (s : Shared) (H : Hp) (E : XK) (f : Addr), Bd (cxOf (L2.CX P w) P w K mg base N qual (defScope st) f cdv A outer s H E) E k → Takes (cxOf (L2.CX P w) P w K mg base N qual (defScope st) f cdv A outer s H E) (fun cls d _ H => E cls d H) →
      ∃ wb, JSs T (cxOf (L2.CX P w) P w K mg base N qual (defScope st) f cdv A outer s H E) E (defBody st) wb ∧ ∀ ds Q Ex, F ds Q Ex → wb (dEnds Q Ex) (startE N ds)) : MethOk P w K mg base T C m (k + 1) (starM n F) := by
  obtain ⟨fd, D⟩ := D
  obtain ⟨oc, od, dV, kV, doc, pm, an, cdv, ct, osl, rfl, lk, hcd, hD, _⟩ := D.ex
  rcases hD with ⟨_, rfl⟩ | ⟨e, _⟩
  · refine ⟨cl, f, mt, FnR.imp (StX.fn_star (sp := spec K T F) (k := k) (ps := ps) lk hcd S StX.cxUp (hb kV doc pm an cdv ct) fun A outer s H vs Q E hr h => ?_) ?_⟩
    · obtain ⟨wd, ds, P1, Ex, g, r, h, xo, kk⟩ := h
      have tk : Takes (cxOf (L2.CX P w) P w K mg base N qual (defScope st) f cdv A outer s H E) (fun cls d _ H => E cls d H) := takes_of rfl rfl rfl rfl
      have B : Bd (cxOf (L2.CX P w) P w K mg base N qual (defScope st) f cdv A outer s H E) E k := ⟨hr, passes_call tk fun _ _ _ _ h => h, passes_of rfl, rfl, S.nd⟩
      obtain ⟨wb, hj, hw⟩ := hd cdv A outer s H E f B tk
      refine ⟨_, hj, ⟨wd, H, []⟩, wd, startE N ds, dEnds P1 Ex, rel_start g r, hw ds P1 Ex h, ⟨xo, fun env' hn σ' wd' H' le r' => ?_, fun d hd v wd' H' o' g' k' rp => kk d hd v wd' H' o' g' k' rp, fun _ z => z.elim, fun _ z => z.elim⟩⟩
      exact kk .non hn .non wd' H' r'.ord r'.good r'.keep .non
    · intro vs H Q E h
      obtain ⟨wd, ds, P1, Ex, g, r, ⟨f1, f2, f3⟩, xo, kk⟩ := h
      have hl := r.length
      refine ⟨vs.take n, vs.drop n, (List.take_append_drop n vs).symm, ?_, ?_, fun p hp => ?_⟩
      · rw [List.length_take, hn, hl, Nat.min_eq_left f1]
      · rw [List.length_drop]
        exact sz6 (by omega)
      · have hz : Sized (.tup (vs.drop n)) := by
          show (vs.drop n).length ≤ sizeLine
          rw [List.length_drop]
          exact sz6 (by omega)
        have le : Le wd (wd.add p (.tup (vs.drop n))) := Le.add (g.mnone hp)
        have kp : Keep wd H (upd H p (.tup (vs.drop n))) := Keep.add hp
        have od : Ord wd (wd.add p (.tup (vs.drop n))) H := Ord.add g hp
        refine ⟨wd.add p (.tup (vs.drop n)), ds.take n ++ [.tup (ds.drop n)], P1, Ex, g.add hp noTb_tup hz, ?_, f3, xo.into od kp, fun d hd v wd' H' o' g' k' rp => kk d hd v wd' H' (od.trans o' kp) g' (kp.trans od k') rp⟩
        exact ((r.take n).mono le).append (.cons (.tup upd_same ((r.drop n).mono le)) .nil)
  · exact absurd rfl e
end
end Pd

namespace Zn
open PySem PySem.Spec PyProof.Rows L2
section
variable {X : Cx}
/-- what the zip's two parts hold, as a dict -/
def tDictZ (tz : TZ) : TE := fun σ H Q => tz σ H fun xss H1 => ∃ (ks : List Int) (vs : List V), xss = [ks.map V.int, vs] ∧ ks.Nodup ∧ ks.length = vs.length ∧ ks.length ≤ sizeLine ∧ ∀ p, H1 p = none → Q (.ref p) (upd H1 p (.dK ((ks.map Sum.inl).zip vs)))
theorem kv_zip : ∀ {ks : List Int} {vs : List V} {us : List Value}, Vals vs us → ks.length = vs.length → KV ((ks.map (Sum.inl : Int → Key)).zip vs) ((ks.map (Sum.inl : Int → Key)).zip us)
  | [], _, _, .nil, _ => .nil
  | k :: ks, _, _, .cons r t, h => .cons ⟨rfl, r⟩ (kv_zip t (by simpa using h))
  | [], _, _, .cons r t, h => by simp at h
  | _ :: _, _, _, .nil, h => by simp at h
theorem keys_zip : ∀ {ks : List Int} {us : List Value}, ks.length = us.length → ((ks.map (Sum.inl : Int → Key)).zip us).map (·.1) = ks.map Sum.inl
  | [], [], _ => rfl
  | k :: ks, u :: us, h => by
    show Sum.inl k :: ((ks.map (Sum.inl : Int → Key)).zip us).map (·.1) = _
    rw [keys_zip (ks := ks) (us := us) (by simpa using h)]
    rfl
  | [], _ :: _, h => by simp at h
  | _ :: _, [], h => by simp at h
theorem int_at : ∀ {ks : List Int} {us : List Value}, Vals (ks.map V.int) us → ∀ (i : Nat) (u : Value), us[i]? = some u → ∃ k t, ks[i]? = some k ∧ u = Value.int k t
  | [], _, .nil, i, u, h => by simp at h
  | k :: ks, _, .cons r t, 0, u, h => by
    obtain ⟨tk, rfl⟩ := r
    obtain rfl : Value.int k tk = u := by simpa using h
    exact ⟨k, tk, rfl, rfl⟩
  | k :: ks, _, .cons r t, i + 1, u, h => by
    obtain ⟨k', t', e1, e2⟩ := int_at t i u (by simpa using h)
    exact ⟨k', t', by simpa using e1, e2⟩
theorem pe_dictZ {e : Expr} {tz : TZ} {p pos : Pos} (hc : X.calm = true) (hg : Gl X "dict") (hm : X.mg "dict" = none) (he : PZ X e tz) (na : starEach [e] X.env = (false, eval e X.env) :: starEach [] X.env := by rfl) : PE X (.Call (.Name "dict" p) [e] [] pos) (tDictZ tz) := by
  refine ⟨fun pins s σ H Q I h => ?_⟩
  refine Call_ (ld_blt I hg hm PyProof.Rows.boot_dict (PyProof.Rows.callWith_type1 (args_cons (thn (he pins s σ H _ I h) fun x s' ⟨s1, h1, cs, xss, H1, es, ex, z, hz, hk1, I1, hd, hne, hcl, fz, q0⟩ => args_nil ?_) na) na))
  subst es ex
  obtain ⟨ks, vs, rfl, nd, hl, hn, q⟩ := q0
  have hlen := hd.len
  match cs, hlen, z, fz, hz, hd, hcl with
  | [(c1, xs), (c2, ys)], _, z, fz, hz, hd, hcl =>
    have r1 := hd.at_ 0 c1 xs _ rfl rfl
    have r2 := hd.at_ 1 c2 ys _ rfl rfl
    have l1 : ks.length = xs.size := by
      have := vals_len r1
      simpa using this
    have l2 : vs.length = ys.size := by
      have := vals_len r2
      simpa using this
    have n0 : min xs.size ys.size = ks.length := by omega
    have l3 : ys.toList.length = ys.size := Array.length_toList
    have l4 : [(c1, xs), (c2, ys)].length = 2 := rfl
    have ar := zipArg (prog := X.prog) (w := X.w) s1.heap.objs.size c1 c2 xs ys _ rfl
    refine PySem.call_dict_pairs (s := { s1 with heap := h1 }) (knd := mixKind X.prog X.w) (kvs := (ks.map (Sum.inl : Int → Key)).zip ys.toList) ar (I1.ok.hd hc) ⟨z.ti, z.sr, fz⟩ ⟨?_, fun i key v hr => ?_⟩ (by rw [n0]; exact hn) fun h' tk hd' hk => ?_
    · rw [List.length_zip, List.length_map]
      omega
    · obtain ⟨e1, e2⟩ := hr
      obtain ⟨k, t, e3, e4⟩ := int_at r1 i key (by simpa using e1)
      refine ⟨Sum.inl k, List.getElem?_zip_eq_some.mpr ⟨?_, by simpa using e2⟩, ?_⟩
      · rw [List.getElem?_map, e3]
        rfl
      · rw [e4]
        exact mixKind_int _ _ k t
    · have kn : (((ks.map (Sum.inl : Int → Key)).zip ys.toList).map (·.1)).Nodup := by
        rw [keys_zip (by omega)]
        exact List.Pairwise.map _ (fun a b h e => h (Sum.inl.inj e)) nd
      rw [merged_nil_of_nodup _ kn] at hd'
      have fresh : H1 h1.objs.size = none := I1.hok.fresh (by show s1.heap.objs.size ≤ h1.objs.size; omega)
      have keeps : ∀ b o, s1.heap.get? b = some o → h'.get? b = some o := fun b o e => hk b o (fun m => by
        have lt := Heap.lt_size e
        obtain ⟨j, _, ej⟩ := List.mem_map.mp m
        exact Nat.lt_irrefl _ (Nat.lt_of_lt_of_le lt (Nat.le_trans (Nat.le_add_right s1.heap.objs.size j) (Nat.le_of_eq ej)))) (hk1 b o e)
      have hm : (h1.objs.size == sysModules) = false := beq_eq_false_iff_ne.mpr (Nat.ne_of_gt (Nat.lt_of_lt_of_le I1.big (by omega)))
      have hsz : ((ks.map (Sum.inl : Int → Key)).zip vs).length ≤ sizeLine := by
        rw [List.length_zip, List.length_map]
        omega
      exact ⟨.ref h1.objs.size, _, I1.laid (a := h1.objs.size) (o := .dK ((ks.map Sum.inl).zip vs)) (t' := tk) keeps (by omega) ⟨hsz, hm, _, kv_zip r2 hl, hd'⟩, rfl, q _ fresh⟩
/-- what a list gives at a number, both at hand -/
theorem get_list : PGet X (rIxL X.K) := by
  rintro pins s σ H _ _ v u Q I list_ num ⟨p, xs, i, z, rfl, rfl, seq, found, goal⟩
  cases list_
  obtain ⟨t, rfl⟩ := num
  obtain ⟨us, rel, plain, _⟩ := I.list seq
  obtain ⟨j, place, item, _, low, high⟩ := atI_get found
  obtain ⟨y, there, same⟩ := rel.get item
  have len := rel.length
  have lim := line63
  have size : us.toArray.size = xs.length := by rw [List.size_toArray, len]
  have stands : us.toArray[j]? = some y := by simpa using there
  rcases Int.lt_or_le i 0 with neg | pos
  · rw [seqIndex_neg neg low] at place
    have back : (i + (us.toArray.size : Int)).toNat = j := by rw [size]; exact Option.some.inj place
    rw [← back] at stands
    exact wpAny_getItem_list_neg plain.isList neg (by rw [size]; omega) (by omega) stands ⟨z, H, I, same, goal⟩
  · rw [seqIndex_of pos high] at place
    rw [← Option.some.inj place] at stands
    exact wpAny_getItem_list plain.isList pos (by omega) stands ⟨z, H, I, same, goal⟩
end
end Zn

namespace Pd
open PySem PySem.Spec PyProof.Rows L2 LamX Zn
section
variable {X : Cx} {T : List (Addr × Str)} {E : XK} {k : Nat}
def dicZ (ks : List Int) (vs : List D) : List (Key × D) := (ks.map Sum.inl).zip vs
def wDictZip (w : W (List (List D))) : W D := w.bind fun dss env Q _ => ∃ (ks : List Int) (vs : List D), dss = [ks.map D.int, vs] ∧ ks.Nodup ∧ ks.length = vs.length ∧ ks.length ≤ 1000000 ∧ Q (.dic (dicZ ks vs)) env
theorem reps_ks {K : PySem.W.Frag} {wd : Wd} : ∀ {ks : List Int} {xs : List V}, Reps K wd xs (ks.map D.int) → xs = ks.map V.int
  | [], _, .nil => rfl
  | k :: ks, _, .cons r t => by
    cases r
    rw [reps_ks t]
    rfl
theorem reps_len {K : PySem.W.Frag} {wd : Wd} : ∀ {xs : List V} {ds : List D}, Reps K wd xs ds → xs.length = ds.length
  | _, _, .nil => rfl
  | _, _, .cons _ t => congrArg (· + 1) (reps_len t)
theorem zip_1 {α β : Type} : ∀ {as : List α} {bs : List β}, as.length = bs.length → (as.zip bs).map (·.1) = as
  | [], [], _ => rfl
  | a :: as, b :: bs, h => by
    show a :: (as.zip bs).map (·.1) = _
    rw [zip_1 (by simpa using h)]
  | [], _ :: _, h => by simp at h
  | _ :: _, [], h => by simp at h
theorem zip_2 {α β : Type} : ∀ {as : List α} {bs : List β}, as.length = bs.length → (as.zip bs).map (·.2) = bs
  | [], [], _ => rfl
  | a :: as, b :: bs, h => by
    show b :: (as.zip bs).map (·.2) = _
    rw [zip_2 (by simpa using h)]
  | [], _ :: _, h => by simp at h
  | _ :: _, [], h => by simp at h
theorem je_dictZip {e : Expr} {w : W (List (List D))} {p pos : Pos} (B : Bd X E k) (hm : X.mg "dict" = none) (he : JZ T X E e w) (hg : Gl X "dict" := by rfl) (na : starEach [e] X.env = (false, eval e X.env) :: starEach [] X.env := by rfl) : JE T X E (.Call (.Name "dict" p) [e] [] pos) (wDictZip w) :=
  peI (pe_dictZ B.calm hg hm he na) fun σ H Q ⟨c, wd, env, P, Ex, r, h, xo, kk⟩ => ⟨c, wd, env, _, Ex, r, h, xo, fun dss env1 h1 xss wd1 H1 le1 r1 rp1 => by
    obtain ⟨ks, vs, rfl, nd, hl, hn, h2⟩ := h1
    cases rp1 with
    | cons rk t =>
      cases t with
      | cons rv t =>
        cases t
        rename_i us
        have := reps_ks rk
        subst this
        have l2 := reps_len rv
        refine ⟨ks, us, rfl, nd, by omega, sz6 hn, fun p hp => ?_⟩
        have hz : ((ks.map (Sum.inl : Int → Key)).zip us).length ≤ 1000000 := by rw [List.length_zip, List.length_map]; omega
        have g : Grow wd1 H1 (wd1.add p (.dK ((ks.map Sum.inl).zip us))) (upd H1 p (.dK ((ks.map Sum.inl).zip us))) := Grow.one hp noTb_dK trivial
        refine kk _ env1 h2 (.ref p) _ _ (le1.trans (Le.add (r1.good.mnone hp))) (r1.grow g) (.dic upd_same ?_ ?_)
        · rw [zip_1 (by rw [List.length_map]; omega)]
          unfold dicZ
          rw [zip_1 (by rw [List.length_map]; omega)]
        · rw [zip_2 (by rw [List.length_map]; omega)]
          unfold dicZ
          rw [zip_2 (by rw [List.length_map]; omega)]
          exact rv.mono (Le.add (r1.good.mnone hp))⟩
/-! ### d[k] -/
def lookD (ds : List (Key × D)) (k : Key) : Option D := (ds.find? fun kv => decide (kv.1 = k)).map (·.2)
theorem look_reps {K : PySem.W.Frag} {wd : Wd} {k : Key} : ∀ {vs : List (Key × V)} {ds : List (Key × D)}, vs.map (·.1) = ds.map (·.1) → Reps K wd (vs.map (·.2)) (ds.map (·.2)) → ∀ z, lookD ds k = some z → ∃ v, valV vs k = some v ∧ Rep K wd v z
  | [], [], _, _, z, h => by cases h
  | (a, v) :: vs, (b, d) :: ds, e, r, z, h => by
    have e1 : a = b := by simpa using (List.cons.inj e).1
    subst e1
    cases r with
    | cons r0 r1 =>
      unfold lookD at h
      unfold valV
      rw [List.find?_cons] at h ⊢
      by_cases hk : a = k
      · have : decide (a = k) = true := decide_eq_true hk
        simp only [this] at h ⊢
        cases h
        exact ⟨v, rfl, r0⟩
      · have : decide (a = k) = false := decide_eq_false hk
        simp only [this] at h ⊢
        exact look_reps (List.cons.inj e).2 r1 z h
  | [], _ :: _, e, _, _, _ => by cases e
  | _ :: _, [], e, _, _, _ => by cases e
def wDGet (a b : W D) : W D := a.bind fun x => b.bind fun y env Q _ => ∃ ds n z, x = .dic ds ∧ y = .int n ∧ lookD ds (Sum.inl n) = some z ∧ Q z env
theorem je_dget {o i : Expr} {a b : W D} {pos : Pos} (B : Bd X E k) (ho : JE T X E o a) (hi : JE T X E i b) (hs : NoSl i) : JE T X E (.Subscript o i pos) (wDGet a b) :=
  peI (pe_dget (by have := B.room.un; omega) ho hi hs) fun σ H Q ⟨c, wd, env, P, Ex, r, h, xo, kk⟩ => ⟨c, wd, env, _, Ex, r, h, xo, fun x env1 h1 v wd1 H1 le1 r1 rp1 => ⟨c, wd1, env1, _, Ex, r1, h1, xo, fun y env2 h2 u wd2 H2 le2 r2 rp2 => by
    obtain ⟨ds, n, z, rfl, rfl, e1, h3⟩ := h2
    cases rp2
    cases rp1 with
    | @dic a vs _ hM ek rs =>
      have rs2 := rs.mono le2
      obtain ⟨v, e2, rv⟩ := look_reps ek rs2 z e1
      exact ⟨a, v, rfl, .inl ⟨vs, Sum.inl n, .inl (r2.good.sub _ _ (le2.m _ _ hM)), rfl, e2.symm⟩, kk _ env2 h3 v wd2 H2 (le1.trans le2) r2 rv⟩⟩⟩
/-! ### own[i] op= e -/
def sAugIx (i : Nat) (iw : W D) (g : D → D → Option D) (ew : W D) : WS := fun pe env => ownIs env i fun _ => iw env (fun n env1 => ownIs env1 i fun xs => match n with
  | .int n => ∃ z, dIdx (.lst xs) (.int n) = some z ∧ ew env1 (fun y env2 => ownIs env2 i fun xs2 => ∃ r j, g z y = some r ∧ ixN xs2.length n = some j ∧ pe.nx (env2.set i (some (.own (xs2.set j r))))) pe.ex
  | _ => False) pe.ex
theorem js_augIx (i : Nat) {x : Str} {y e : Expr} {iw ew : W D} {op : Operator} {g : D → D → Option D} {p1 p2 pos : Pos} (hi : JE T X E y iw) (ho : OpDI X op g) (he : JE T X E e ew) (hN : X.N[i]? = some x := by rfl) (hv : Vis X.env.scope x := by first | exact Or.inl rfl | exact Or.inr (Or.inl rfl) | exact Or.inr (Or.inr rfl)) (hd : (x == ("__debug__" : Str)) = false := by decide)
    (hcd : (x == ("__classdict__" : Str)) = false := by decide) (ha : ∀ ov iv new, augStore y ov iv new = (do holding [new, ov, iv] (setItem ov iv new); release [new, ov, iv] []; pure .next) := by intros; rfl) : JS T X E (.AugAssign (.Subscript (.Name x p1) y p2) op e pos) (sAugIx i iw g ew) := by
  obtain ⟨ti, o1, o2⟩ := ho
  refine psI (ps_augS (pe_var hN hv hd hcd) hi get_list he o1 set_list ha) fun D σ H ⟨c, wd, env, pe, rl, h, o⟩ => ?_
  obtain ⟨xs0, e0, h1⟩ := ownIs_inv h
  obtain ⟨p0, vs0, z0, zh, _⟩ := rl.own i xs0 (gt_eq _ _ e0)
  refine ⟨.ref p0, z0, c, wd, env, _, _, rl, h1, o.ex, fun n env1 h2 w wd1 H1 le1 r1 rp1 => ?_⟩
  obtain ⟨xs, e1, h3⟩ := ownIs_inv h2
  clear h2
  have h2 := h3
  clear h3
  obtain ⟨p1, vs, z1, z2, z3, z4, z5, z6⟩ := r1.own i xs (gt_eq _ _ e1)
  rw [z0] at z1
  cases z1
  split at h2
  · rename_i n
    cases rp1
    obtain ⟨z, e2, h2⟩ := h2
    obtain ⟨v, e3, r3⟩ := atI_reps z6 e2
    refine ⟨_, vs, _, v, rfl, rfl, .inl (.inl z2), e3, c, wd1, env1, _, _, r1, h2, o.ex, fun y env2 h4 u wd2 H2 le2 r2 rp2 => ?_⟩
    obtain ⟨xs2, e4, r, j, e5, e6, h5⟩ := ownIs_inv h4
    refine o2 z y r e5 T wd2 H2 v u _ r2.good (r3.mono le2) rp2 fun w3 wd3 H3 g3 rp3 => ?_
    have r4 := r2.grow g3
    obtain ⟨p2, vs2, y1, y2, y3, y4, y5, y6⟩ := r4.own i xs2 (gt_eq _ _ e4)
    rw [z0] at y1
    cases y1
    refine ⟨_, vs2, n, j, rfl, rfl, y2, by rw [y6.length]; exact e6, o.nx _ h5 _ wd3 _ (le1.trans (le2.trans (g3.le r2.good))) (r4.mut (gt_eq _ _ e4) z0 (y6.set j rp3) ?_)⟩
    rw [List.length_set]
    exact r4.good.siz _ _ y2
  · exact h2.elim
end
end Pd

namespace Pd
open PySem PySem.Spec PyProof.Rows L2 LamX
/-! ### classes as values, classmethods -/
structure CMethOk (P : Program) (w : World) (K : PySem.W.Frag) (mg : Str → Option Value) (base : Heap) (T : List (Addr × Str)) (C m : Str) (k : Nat) (F : Fn) : Prop where
  gl : mg C = some (.ref (He.ga K C))
  rd : ClX.CRead K (He.ga K C) (.type "type")
  ex : ∃ p g, ClX.CMet K (He.ga K C) (.type "type") m p g ∧ FnR P w K mg base (L2.CX P w) k g (spec K T F)
section
variable {X : Cx} {T : List (Addr × Str)} {E : XK} {k : Nat}
theorem je_cls {C : Str} {pos : Pos} (hm : X.mg C = some (.ref (He.ga X.K C))) (hg : Gl X C := by rfl) (hd : (C == ("__debug__" : Str)) = false := by decide) : JE T X E (.Name C pos) (W.ret (.cls C)) :=
  je_c (v := .ref (He.ga X.K C)) (pe_glob hg hm rfl hd) fun _ => .cls C
/-- C.m(..) -/
def wCMeth (C : Str) (F : Fn) (a : W (List D)) : W D := a.bind fun ds env Q ex => F (.cls C :: ds) (fun d => Q d env) ex
theorem je_cmeth {C m : Str} {F : Fn} {e : Expr} {es : List Expr} {a : W (List D)} {p apos pos : Pos} {pl : Sem Bool} {j : Nat} (B : Bd X E k) (G : CMethOk X.prog X.w X.K X.mg X.base T C m j F) (ha : JA T X E (e :: es) a) (hj : j ≤ k := by decide) (hg : Gl X C := by rfl) (hd : (C == ("__debug__" : Str)) = false := by decide)
    (hst : starEach (e :: es) X.env = (false, eval e X.env) :: starEach es X.env := by rfl) (hpl : (backTo pos (starEach es X.env)).any (·.1) = false := by rfl)
    (ht : eval (.Call (.Attribute (.Name C p) m apos) (e :: es) [] pos) X.env = (do
      let ov ← eval (.Name C p) X.env
      standAt apos.atName
      let (f, first) ← holding [ov] (getMethod ov m pl)
      callWith pos f first (backTo pos (starEach (e :: es) X.env)) (backToKw pos (keywordEach [] X.env))) := by rfl) : JE T X E (.Call (.Attribute (.Name C p) m apos) (e :: es) [] pos) (wCMeth C F a) := by
  obtain ⟨q, g, g1, g2⟩ := G.ex
  refine peI (ClX.pe_cmeth (pe_glob (v := .ref (He.ga X.K C)) hg G.gl rfl hd) G.rd g1 g2 (B.room.mono hj) B.pass ha hst hpl ht) fun σ H Q ⟨c, wd, env, P, Ex, r, h, xo, kk⟩ => ?_
  refine ⟨rfl, c, wd, env, _, Ex, r, h, xo, fun ds env2 h2 vs wd2 H2 le2 r2 rp2 => ?_⟩
  exact ⟨wd2, .cls C :: ds, _, Ex, r2.good, .cons (.cls C) rp2, h2, xo.into r2.ord r2.keep, fun d hd v wd3 H3 o3 g3 k3 rp3 => kk d env2 hd v wd3 H3 (le2.trans o3.le) (r2.go o3 g3 k3) rp3⟩
/-! ### cls(e, *y), cls(*y) -/
def wMakeL (i : Nat) (C : Str) (F : IFn) (a : W (List D)) : W D := fun env Q ex => gt env i = some (.d (.cls C)) ∧ wMake C F a env Q ex
theorem slot_cls {K : PySem.W.Frag} {c : Ctx} {wd : Wd} {env : PEnv} {σ : L2.St} {H : Hp} {i : Nat} {C : Str} (r : Rel K T c wd env σ H) (h : gt env i = some (.d (.cls C))) : σ[i]? = some (some (.ref (He.ga K C))) := by
  obtain ⟨v, e, rp⟩ := r.dat i _ (gt_eq _ _ h)
  cases rp
  exact e
/-- x(..), x a name that holds a class: the class is called -/
theorem cls_of {pins : List (Addr × Obj)} {σ : L2.St} {H : Hp} {s : Shared} {C : Addr} {x : Str} {i : Nat} {args : List Expr} {p pos : Pos} {Q : Value → Shared → Prop} (I : Inv X pins σ H s) (hN : X.N[i]? = some x) (hv : Vis X.env.scope x) (hdb : (x == ("__debug__" : Str)) = false) (hcd : (x == ("__classdict__" : Str)) = false)
    (held : σ[i]? = some (some (.ref C))) (h : ∀ s1, Inv X pins σ H s1 → wpAny (model X.prog X.w) X.A (callWith pos (.ref C) [] (backTo pos (starEach args X.env)) (backToKw pos (keywordEach [] X.env))) Q X.xe s1) :
    wpAny (model X.prog X.w) X.A (eval (.Call (.Name x p) args [] pos) X.env) Q X.xe s := by
  have read := (pe_var (X := X) (pos := p) hN hv hdb hcd).run pins s σ H (fun v G => v = .ref C ∧ G = H) I ⟨.ref C, held, rfl, rfl⟩
  apply wpAny_Call_Name_kw
  apply thn read
  rintro _ s1 ⟨_, _, I1, same, rfl, rfl⟩
  cases same
  exact h s1 I1
theorem pe_makeLS {CX : CXT} {i : Nat} {f C : Addr} {sp : Sp} {x : Str} {e : Expr} {es : List Expr} {t : TA} {p pos : Pos} (M : Mk X.K C f) (F : FnR X.prog X.w X.K X.mg X.base CX k f sp) (hr : Room (k + 1) X.A) (hN : X.N[i]? = some x) (hv : Vis X.env.scope x) (hx : Passes CX X E) (ha : PA X (e :: es) t)
    (hdb : (x == ("__debug__" : Str)) = false := by decide) (hcd : (x == ("__classdict__" : Str)) = false := by decide) (he : starEach (e :: es) X.env = (false, eval e X.env) :: starEach es X.env := by rfl) (hst : (backTo pos (starEach es X.env)).any (·.1) = true := by rfl) :
    PE X (.Call (.Name x p) (e :: es) [] pos) (fun σ H Q => σ[i]? = some (some (.ref C)) ∧ StX.tMakeR C sp E t σ H Q) := by
  constructor
  rintro pins s σ H Q I ⟨held, told⟩
  apply cls_of I hN hv hdb hcd held
  intro s1 I1
  apply PySem.W.callWith_S2 I.ok.mod.kin M.kp _ he hst
  apply thn (ha.run pos pins s1 σ H _ I1 told)
  rintro us s2 ⟨vs, H2, I2, same, q⟩
  exact ⟨I2.kIn, StX.run_makeR M F hr hx I2 same q⟩
theorem je_makeLS {C : Str} {F : IFn} {x : Str} {e : Expr} {es : List Expr} {a : W (List D)} {p pos : Pos} {j : Nat} (i : Nat) (B : Bd X E k) (G : InitOk X.prog X.w X.K X.mg X.base T C j F) (ha : JA T X E (e :: es) a) (hj : j + 1 ≤ k := by decide) (hN : X.N[i]? = some x := by rfl)
    (hv : Vis X.env.scope x := by first | exact Or.inl rfl | exact Or.inr (Or.inl rfl) | exact Or.inr (Or.inr rfl)) (hdb : (x == ("__debug__" : Str)) = false := by decide) (hcd : (x == ("__classdict__" : Str)) = false := by decide) (he : starEach (e :: es) X.env = (false, eval e X.env) :: starEach es X.env := by rfl)
    (hst : (backTo pos (starEach es X.env)).any (·.1) = true := by rfl) : JE T X E (.Call (.Name x p) (e :: es) [] pos) (wMakeL i C F a) := by
  obtain ⟨f, g1, g2, g3⟩ := G.ex
  exact peI (pe_makeLS g1 g3 (B.room.mono hj) hN hv B.pass ha hdb hcd he hst) fun σ H Q ⟨c, wd, env, P, Ex, r, h, xo, kk⟩ => ⟨slot_cls r h.1, lift_make ⟨c, wd, env, P, Ex, r, h.2, xo, kk⟩⟩
theorem pe_makeL1 {CX : CXT} {i : Nat} {f C : Addr} {sp : Sp} {x : Str} {e : Expr} {te : TE} {p sp_ pos : Pos} (M : Mk X.K C f) (F : FnR X.prog X.w X.K X.mg X.base CX k f sp) (hr : Room (k + 1) X.A) (hN : X.N[i]? = some x) (hv : Vis X.env.scope x) (hx : Passes CX X E) (hte : PE X e te)
    (hdb : (x == ("__debug__" : Str)) = false := by decide) (hcd : (x == ("__classdict__" : Str)) = false := by decide) (hst : starEach [.Starred e sp_] X.env = [(true, eval e X.env)] := by rfl) :
    PE X (.Call (.Name x p) [.Starred e sp_] [] pos) (fun σ H Q => σ[i]? = some (some (.ref C)) ∧ StX.tMakeR C sp E (StX.tStar X.K te tNil) σ H Q) := by
  constructor
  rintro pins s σ H Q I ⟨held, told⟩
  apply cls_of I hN hv hdb hcd held
  intro s1 I1
  apply PySem.W.callWith_S I.ok.mod.kin M.kp _ hst
  apply thn (hte.run pins s1 σ H _ I1 told)
  rintro _ s2 ⟨_, H2, I2, self_, a, xs, rfl, items, q⟩
  cases self_
  apply StX.star_any I2 items
  intro us s3 I3 same
  exact ⟨I3.kIn, StX.run_makeR M F hr hx I3 same (by simpa [tNil] using q)⟩
theorem je_makeL1 {C : Str} {F : IFn} {x : Str} {e : Expr} {a : W D} {p sp_ pos : Pos} {j : Nat} (i : Nat) (B : Bd X E k) (G : InitOk X.prog X.w X.K X.mg X.base T C j F) (ha : JB T X E e a) (hj : j + 1 ≤ k := by decide) (hN : X.N[i]? = some x := by rfl)
    (hv : Vis X.env.scope x := by first | exact Or.inl rfl | exact Or.inr (Or.inl rfl) | exact Or.inr (Or.inr rfl)) (hdb : (x == ("__debug__" : Str)) = false := by decide) (hcd : (x == ("__classdict__" : Str)) = false := by decide)
    (hst : starEach [.Starred e sp_] X.env = [(true, eval e X.env)] := by rfl) : JE T X E (.Call (.Name x p) [.Starred e sp_] [] pos) (wMakeL i C F (wStar a wNil)) := by
  obtain ⟨f, g1, g2, g3⟩ := G.ex
  refine peI (pe_makeL1 g1 g3 (B.room.mono hj) hN hv B.pass ha hdb hcd hst) fun σ H Q ⟨c, wd, env, P, Ex, r, h, xo, kk⟩ => ⟨slot_cls r h.1, ?_⟩
  obtain ⟨c, wd, env, P, Ex, r, h, xo, k⟩ := lift_make (a := wStar a wNil) (F := F) (T := T) ⟨c, wd, env, P, Ex, r, h.2, xo, kk⟩
  refine ⟨c, wd, env, _, Ex, r, h, xo, fun x env1 h1 v wd1 H1 le1 r1 tp => ?_⟩
  dsimp only at h1
  split at h1
  · rename_i xs ex
    cases x with
    | lst ys =>
      cases ex
      obtain ⟨p, vs, rfl, q1, q2⟩ := top_lst r1.good tp
      exact ⟨p, vs, rfl, .inr (.inl (.inl q1)), k _ env1 h1 _ wd1 H1 le1 r1 (q2.append .nil)⟩
    | tup ys =>
      cases ex
      obtain ⟨p, vs, rfl, q1, _, q2⟩ := top_tup r1.good tp
      exact ⟨p, vs, rfl, .inl q1, k _ env1 h1 _ wd1 H1 le1 r1 (q2.append .nil)⟩
    | _ => cases ex
  · exact h1.elim
/-! ### isinstance(x, C) -/
structure ObC (K : PySem.W.Frag) (C : Str) : Prop where
  cl : Cls K (He.ga K C)
  fc : PySem.W.findIn K (.ref (He.ga K C)) "__class__" = some (some (.builtin "object.__class__"))
  sp : PySem.W.specialIn K (.builtin "object.__class__") "__get__" = some (some (.builtin "getset_descriptor.__get__"))
  tk : PySem.W.takesIn K (.builtin "object.__class__") = some true
  mr : PySem.W.mroIn K (He.ga K C) (.type "object") = some true
def obB (K : PySem.W.Frag) (C : Str) : Bool := (He.Fa.cls C).ok K && (decide (PySem.W.findIn K (.ref (He.ga K C)) "__class__" = some (some (.builtin "object.__class__"))) && (decide (PySem.W.specialIn K (.builtin "object.__class__") "__get__" = some (some (.builtin "getset_descriptor.__get__"))) && (decide (PySem.W.takesIn K (.builtin "object.__class__") = some true) && decide (PySem.W.mroIn K (He.ga K C) (.type "object") = some true))))
theorem obB_ok {K : PySem.W.Frag} {C : Str} (h : obB K C = true) : ObC K C := by
  unfold obB at h
  simp only [Bool.and_eq_true] at h
  exact ⟨He.cls_ok h.1, of_decide_eq_true h.2.1, of_decide_eq_true h.2.2.1, of_decide_eq_true h.2.2.2.1, of_decide_eq_true h.2.2.2.2⟩
structure IsC (K : PySem.W.Frag) (C : Str) (Cs : List Str) : Prop where
  ty : ∀ s ∈ ["NoneType", "bool", "int", "str", "tuple", "list", "dict"], PySem.W.kitOne K (.type s) (.ref (He.ga K C)) = some false
  ob : ∀ C' ∈ Cs, ObC K C'
  ins : ∀ C' ∈ Cs, PySem.W.kitOne K (.ref (He.ga K C')) (.ref (He.ga K C)) = some (decide (C' = C))
def isCB (K : PySem.W.Frag) (C : Str) (Cs : List Str) : Bool := (["NoneType", "bool", "int", "str", "tuple", "list", "dict"].all fun s => decide (PySem.W.kitOne K (.type s) (.ref (He.ga K C)) = some false)) && (Cs.all fun C' => obB K C' && decide (PySem.W.kitOne K (.ref (He.ga K C')) (.ref (He.ga K C)) = some (decide (C' = C))))
theorem isCB_ok {K : PySem.W.Frag} {C : Str} {Cs : List Str} (h : isCB K C Cs = true) : IsC K C Cs := by
  unfold isCB at h
  rw [Bool.and_eq_true, List.all_eq_true, List.all_eq_true] at h
  refine ⟨fun s hs => of_decide_eq_true (h.1 s hs), fun s hs => ?_, fun s hs => ?_⟩
  · have := h.2 s hs
    rw [Bool.and_eq_true] at this
    exact obB_ok this.1
  · have := h.2 s hs
    rw [Bool.and_eq_true] at this
    exact of_decide_eq_true this.2
def dIsC (Cs : List Str) (C : Str) : D → Option D
  | .ins C' _ => if C' ∈ Cs then some (.bl (decide (C' = C))) else none
  | x => (dTy x).map fun _ => .bl false
theorem je_isC {C : Str} {Cs : List Str} {e : Expr} {a : W D} {p p2 pos : Pos} (hc : IsC X.K C Cs) (hm2 : X.mg C = some (.ref (He.ga X.K C))) (hm : X.mg "isinstance" = none) (ha : JE T X E e a)
    (hg : Gl X "isinstance" := by rfl) (hg2 : Gl X C := by rfl) (hdb : (C == ("__debug__" : Str)) = false := by decide)
    (hs : starEach [e, .Name C p2] X.env = (false, eval e X.env) :: starEach [.Name C p2] X.env := by rfl) (hs2 : starEach [.Name C p2] X.env = (false, eval (.Name C p2) X.env) :: starEach [] X.env := by rfl) (hpl : (backTo pos (starEach [.Name C p2] X.env)).any (·.1) = false := by rfl) :
    JE T X E (.Call (.Name "isinstance" p) [e, .Name C p2] [] pos) (w1 (dIsC Cs C) a) := by
  refine peI (pe_callB call_isi hg hm (by decide +kernel) (pa_cons ha (pa_cons (pe_glob (v := .ref (He.ga X.K C)) hg2 hm2 rfl hdb) pa_nil hs2) hs) (by decide) (by decide) hs hpl) fun σ H Q ⟨c, wd, env, P, Ex, rl, h, xo, k⟩ => ?_
  refine ⟨c, wd, env, _, Ex, rl, h, xo, fun x env1 h1 v wd1 H1 le1 r1 rp => ?_⟩
  obtain ⟨z, e1, h2⟩ := opt_inv h1
  have base : ∀ s : String, dTy x = some s → z = .bl false → s ∈ ["NoneType", "bool", "int", "str", "tuple", "list", "dict"] → ∃ (x' c' : V) (t u : Value) (b : Bool), [v, V.ref (He.ga X.K C)] = [x', c'] ∧ ClsV c' u ∧ TyX X.K H1 x' t ∧ PySem.W.kitOne X.K t u = some b ∧ Q (.bl b) H1 := fun s e2 ez hs => by
    subst ez
    exact ⟨v, _, .type s, _, false, rfl, .own _, rep_ty r1.good rp e2, hc.ty s hs, k _ env1 h2 _ wd1 H1 le1 r1 (.bl _)⟩
  cases x with
  | ins C' fs =>
    obtain ⟨hC, rfl⟩ := ite_some e1
    cases rp with
    | ins hm' en er => exact ⟨_, _, _, _, _, rfl, .own _, .base (.ins (r1.good.sub _ _ hm') (hc.ob C' hC).cl (hc.ob C' hC).fc (hc.ob C' hC).sp (hc.ob C' hC).tk (hc.ob C' hC).mr), hc.ins C' hC, k _ env1 h2 _ wd1 H1 le1 r1 (.bl _)⟩
  | non => exact base "NoneType" rfl (Option.some.inj e1).symm (by decide)
  | bl _ => exact base "bool" rfl (Option.some.inj e1).symm (by decide)
  | int _ => exact base "int" rfl (Option.some.inj e1).symm (by decide)
  | str _ => exact base "str" rfl (Option.some.inj e1).symm (by decide)
  | tup _ => exact base "tuple" rfl (Option.some.inj e1).symm (by decide)
  | lst _ => exact base "list" rfl (Option.some.inj e1).symm (by decide)
  | dic _ => exact base "dict" rfl (Option.some.inj e1).symm (by decide)
  | _ => cases e1
end
section
variable {P : Program} {w : World} {K : PySem.W.Frag} {mg : Str → Option Value} {base : Heap} {T : List (Addr × Str)}
theorem cmeth_okX {C m qual : Str} {st : Stmt} {p f : Addr} {N ps : List Str} {k : Nat} {F : Fn} (gl : mg C = some (.ref (He.ga K C))) (rd : ClX.CRead K (He.ga K C) (.type "type")) (cm : ClX.CMet K (He.ga K C) (.type "type") m p f) (D : HasA K f m qual st) (S : FnScope N ps (defScope st)) (bn : ∀ fd, FunD K m qual (defArgs st) (defBody st) (defScope st) [] [] f fd → Binds K fd ps [])
    (len : ∀ ds Q Ex, F ds Q Ex → ds.length = ps.length)
    (hd : ∀ (cdv : Value) (A : Around) (outer : List Env) (s : Shared) (H : Hp) (E : XK) (f : Addr), Bd (cxOf (L2.CX P w) P w K mg base N qual (defScope st) f cdv A outer s H E) E k → Takes (cxOf (L2.CX P w) P w K mg base N qual (defScope st) f cdv A outer s H E) (fun cls d _ H => E cls d H) →
      ∃ wb, JSs T (cxOf (L2.CX P w) P w K mg base N qual (defScope st) f cdv A outer s H E) E (defBody st) wb ∧ ∀ ds Q Ex, F ds Q Ex → wb (dEnds Q Ex) (startE N ds)) : CMethOk P w K mg base T C m (k + 1) F := by
  obtain ⟨fd, D⟩ := D
  refine ⟨gl, rd, p, f, cm, ?_⟩
  refine FnR.imp ((fn_okA D S len fun cdv A outer s H E B tk => hd cdv A outer s H E f B tk).raw (bn fd D) .nil) fun vs H Q E h => ?_
  show spec K T F (vs ++ []) H Q E
  rw [List.append_nil]
  exact h
end
end Pd

namespace Pd
open PySem PySem.Spec PyProof.Rows L2 LamX
/-! ### x in o, o == y: by the class's own methods -/
section
variable {X : Cx} {T : List (Addr × Str)} {E : XK} {k : Nat}
/-- an instance that is known stands there as one -/
theorem own_at {pins : List (Addr × Obj)} {σ : L2.St} {H : Hp} {s : Shared} {a C dx : Addr} {fs : List (Str × V)} (I : Inv X pins σ H s) (e : H a = some (.ins C dx fs)) : ∃ od, PySem.W.InstAt s.heap a (PySem.W.instObj C dx) C (some od) := by
  obtain ⟨_, there, _⟩ := ins_get I.hok e
  obtain ⟨od, known, _⟩ := there.look
  exact ⟨od, known⟩
def rInO (C : Addr) (sp : Sp) (E : XK) : R2 := fun x y H Q => ∃ b dy gs, y = .ref b ∧ H b = some (.ins C dy gs) ∧ sp [y, x] H (fun v H' => ∃ t, v = .bl t ∧ Q (.bl t) H') E
theorem op_inO {CX : CXT} {C f : Addr} {sp : Sp} (F : FnR X.prog X.w X.K X.mg X.base CX k f sp) (hr : Room k X.A) (hm : Meth X.K C "__contains__" f) (hx : Passes CX X E) : OpR X (compareOp .In) (rInO C sp E) := by
  intro pins s σ H x y v u Q I rx ry
  rintro ⟨b, dy, gs, rfl, at_, told⟩
  cases ry
  obtain ⟨od, own⟩ := own_at I at_
  have asked := run_fnR F hr hx I (us := [.ref b, v]) (vs := [.ref b, x]) (.cons rfl (.cons rx .nil)) told
  apply PySem.W.in_K I.fr.choose_spec I.ok.mod.kin own hm.at_ hm.fn
  apply thn (wpAny_call asked)
  rintro _ s1 ⟨_, H1, I1, same, t, rfl, q⟩
  cases same
  exact wpAny_truthy_bool ⟨.bl t, H1, I1, rfl, q⟩
def rEqO (C C' : Addr) (sp : Sp) (E : XK) : R2 := fun x y H Q => ∃ a b dx dy fs gs, x = .ref a ∧ y = .ref b ∧ H a = some (.ins C dx fs) ∧ H b = some (.ins C' dy gs) ∧ sp [x, y] H (fun v H' => ∃ t, v = .bl t ∧ Q (.bl t) H') E
theorem op_eqO {CX : CXT} {C C' f : Addr} {sp : Sp} (F : FnR X.prog X.w X.K X.mg X.base CX k f sp) (hr : Room k X.A) (hm : Meth X.K C "__eq__" f) (hn : PySem.W.notFirst X.K C (.ref C') = true) (hx : Passes CX X E) : OpR X (compareOp .Eq) (rEqO C C' sp E) := by
  intro pins s σ H x y v u Q I rx ry
  rintro ⟨a, b, dx, dy, fs, gs, rfl, rfl, one, two, told⟩
  cases rx
  cases ry
  have asked := run_fnR F hr hx I (us := [.ref a, .ref b]) (vs := [.ref a, .ref b]) (.cons rfl (.cons rfl .nil)) told
  obtain ⟨o1, k1⟩ := own_at I one
  obtain ⟨o2, k2⟩ := own_at I two
  apply PySem.W.cmp_K (op := .Eq) hr.units0 I.fr.choose_spec I.ok.mod.kin k1 k2.type hn hm.at_ hm.fn
  apply thn (wpAny_call asked)
  rintro _ s1 ⟨_, H1, I1, same, t, rfl, q⟩
  cases same
  exact ⟨.bl t, H1, I1, rfl, q⟩
/-- x in o -/
def wInO (C : Str) (F : Fn) (a b : W D) : W D := a.bind fun x => b.bind fun y env Q ex => match y with
  | .ins C' fs => C' = C ∧ F [.ins C' fs, x] (fun d => ∃ t, d = .bl t ∧ Q (.bl t) env) ex
  | _ => False
theorem je_inO {C : Str} {F : Fn} {x y : Expr} {a b : W D} {pos : Pos} {j : Nat} (B : Bd X E k) (G : MethOk X.prog X.w X.K X.mg X.base T C "__contains__" j F) (ha : JE T X E x a) (hb : JE T X E y b) (hj : j ≤ k := by decide) (hm : behindInMarks .In y = false := by rfl) : JE T X E (.Compare x [.In] [y] pos) (wInO C F a b) := by
  obtain ⟨f, g1, g2⟩ := G.ex
  refine peI (pe_cmpR (op_inO g2 (B.room.mono hj) g1 B.pass) ha hb hm) fun σ H Q ⟨c, wd, env, P, Ex, r, h, xo, kk⟩ => ?_
  refine ⟨c, wd, env, _, Ex, r, h, xo, fun x env1 h1 v wd1 H1 le1 r1 rp1 => ⟨c, wd1, env1, _, Ex, r1, h1, xo, fun y env2 h2 u wd2 H2 le2 r2 rp2 => ?_⟩⟩
  dsimp only at h2
  split at h2
  · obtain ⟨rfl, h2⟩ := h2
    cases rp2 with
    | ins hm' en er =>
      refine ⟨_, _, _, rfl, r2.good.sub _ _ hm', wd2, [_, x], _, Ex, r2.good, .cons (.ins hm' en er) (.cons (Rep.mono le2 rp1) .nil), h2, xo.into r2.ord r2.keep, fun d ⟨t, ed, hd⟩ v wd3 H3 o3 g3 k3 rp3 => ?_⟩
      subst ed
      cases rp3
      exact ⟨t, rfl, kk _ env2 hd _ wd3 H3 ((le1.trans le2).trans o3.le) (r2.go o3 g3 k3) (.bl t)⟩
  · exact h2.elim
/-- o == p, instances of classes of the text -/
def wEqO (C C' : Str) (F : Fn) (a b : W D) : W D := a.bind fun x => b.bind fun y env Q ex => match x, y with
  | .ins D1 fs, .ins D2 gs => D1 = C ∧ D2 = C' ∧ F [.ins D1 fs, .ins D2 gs] (fun d => ∃ t, d = .bl t ∧ Q (.bl t) env) ex
  | _, _ => False
theorem je_eqO {C C' : Str} {F : Fn} {x y : Expr} {a b : W D} {pos : Pos} {j : Nat} (B : Bd X E k) (G : MethOk X.prog X.w X.K X.mg X.base T C "__eq__" j F) (hn : PySem.W.notFirst X.K (He.ga X.K C) (.ref (He.ga X.K C')) = true) (ha : JE T X E x a) (hb : JE T X E y b) (hj : j ≤ k := by decide) (hm : behindInMarks .Eq y = false := by rfl) : JE T X E (.Compare x [.Eq] [y] pos) (wEqO C C' F a b) := by
  obtain ⟨f, g1, g2⟩ := G.ex
  refine peI (pe_cmpR (op_eqO g2 (B.room.mono hj) g1 hn B.pass) ha hb hm) fun σ H Q ⟨c, wd, env, P, Ex, r, h, xo, kk⟩ => ?_
  refine ⟨c, wd, env, _, Ex, r, h, xo, fun x env1 h1 v wd1 H1 le1 r1 rp1 => ⟨c, wd1, env1, _, Ex, r1, h1, xo, fun y env2 h2 u wd2 H2 le2 r2 rp2 => ?_⟩⟩
  dsimp only at h2
  split at h2
  · obtain ⟨rfl, rfl, h2⟩ := h2
    have rp1' := Rep.mono le2 rp1
    cases rp1' with
    | ins hm1 en1 er1 =>
      cases rp2 with
      | ins hm' en er =>
        refine ⟨_, _, _, _, _, _, rfl, rfl, r2.good.sub _ _ hm1, r2.good.sub _ _ hm', wd2, [_, _], _, Ex, r2.good, .cons (.ins hm1 en1 er1) (.cons (.ins hm' en er) .nil), h2, xo.into r2.ord r2.keep, fun d ⟨t, ed, hd⟩ v wd3 H3 o3 g3 k3 rp3 => ?_⟩
        subst ed
        cases rp3
        exact ⟨t, rfl, kk _ env2 hd _ wd3 H3 ((le1.trans le2).trans o3.le) (r2.go o3 g3 k3) (.bl t)⟩
  · exact h2.elim
end
end Pd

namespace Pd
open PySem PySem.Spec PyProof.Rows L2 LamX
/-! ### range(a, b, -1) -/
def dnTo (hi lo : Int) : List D := (List.range (hi - lo).toNat).map fun (i : Nat) => D.int (hi - i)
theorem walkD_rangeD {K : PySem.W.Frag} {wd : Wd} {hi lo : Int} : WalkD K wd (Itc hi (-1) (hi - lo).toNat) (dnTo hi lo) := by
  unfold WalkD dnTo
  rw [List.length_map, List.length_range]
  refine (walk_rangeC (lo := hi) (c := -1) (n := (hi - lo).toNat)).mono (fun H z => trivial) fun i H x H' hl z y => ?_
  obtain ⟨rfl, rfl⟩ := y
  refine ⟨_, ?_, .inl ⟨rfl, .int _⟩⟩
  rw [List.getElem?_map, List.getElem?_range hl]
  show some (D.int (hi - (i : Int))) = some (D.int (hi + (i : Int) * (-1)))
  rw [show hi + (i : Int) * (-1) = hi - (i : Int) by omega]
theorem dnTo_len {hi lo : Int} (h : hi - lo ≤ 2000000) : (dnTo hi lo).length ≤ sizeLine := by
  unfold dnTo
  rw [List.length_map, List.length_range]
  have : sizeLine = 16777216 := by decide
  omega
def wRng3 (a b c : W D) : W (List D) := a.bind fun x => b.bind fun y => c.bind fun z env Q _ => match x, y, z with
  | .int i, .int j, .int s => s = -1 ∧ (i ≤ 1000000 ∧ -1000000 ≤ i ∧ j ≤ 1000000 ∧ -1000000 ≤ j) ∧ Q (dnTo i j) env
  | _, _, _ => False
section
variable {X : Cx} {T : List (Addr × Str)} {E : XK} {k : Nat} {tg : Expr}
theorem ji_range3 {e f g : Expr} {w u z : W D} {p pos : Pos} (hg : Gl X "range") (hm : X.mg "range" = none) (he : JE T X E e w) (hf : JE T X E f u) (hc : JE T X E g z)
    (s1 : starEach [e, f, g] X.env = (false, eval e X.env) :: starEach [f, g] X.env := by rfl) (s2 : starEach [f, g] X.env = (false, eval f X.env) :: starEach [g] X.env := by rfl) (s3 : starEach [g] X.env = (false, eval g X.env) :: starEach [] X.env := by rfl)
    (hpl : (backTo pos (starEach [f, g] X.env)).any (·.1) = false := by rfl) : JI T X E tg (.Call (.Name "range" p) [e, f, g] [] pos) (wRng3 w u z) :=
  piI (pi_range3 hg hm (pa_cons he (pa_cons hf (pa_cons hc pa_nil s3) s2) s1) s1 hpl) fun σ H R ⟨c, wd, env, P, Ex, r, h, xo, kk⟩ => ⟨c, wd, env, _, Ex, r, h, xo, fun x env1 h1 v wd1 H1 le1 r1 rp1 => ⟨c, wd1, env1, _, Ex, r1, h1, xo, fun y env2 h2 u wd2 H2 le2 r2 rp2 => ⟨c, wd2, env2, _, Ex, r2, h2, xo, fun y3 env3 h3 u3 wd3 H3 le3 r3 rp3 => by
    dsimp only at h3
    split at h3
    · rename_i i j s
      cases rp1
      cases rp2
      cases rp3
      obtain ⟨rfl, hb, q⟩ := h3
      exact ⟨_, _, _, _, rfl, RgC.neg (by omega) (by omega) (by omega) (by omega), kk _ env3 q _ wd3 H3 ((le1.trans le2).trans le3) r3 walkD_rangeD (dnTo_len (by omega))⟩
    · exact h3.elim⟩⟩⟩
/-! ### targets that change lists -/
abbrev WK := D → PEnv → (PEnv → Prop) → (Xc → Prop) → Prop
abbrev WKs := List D → PEnv → (PEnv → Prop) → (Xc → Prop) → Prop
def liftH (K : PySem.W.Frag) (T : List (Addr × Str)) (E : XK) (w : WK) : TG := fun v σ H Q => ∃ (c : Ctx) (wd : Wd) (env : PEnv) (d : D) (P : PEnv → Prop) (Ex : Xc → Prop), Rel K T c wd env σ H ∧ Rep K wd v d ∧ w d env P Ex ∧ XOk K T c E Ex ∧ ∀ env', P env' → ∀ σ' wd' H', Le wd wd' → Rel K T c wd' env' σ' H' → Q σ' H'
def liftHs (K : PySem.W.Frag) (T : List (Addr × Str)) (E : XK) (w : WKs) : TGs := fun vs σ H Q => ∃ (c : Ctx) (wd : Wd) (env : PEnv) (ds : List D) (P : PEnv → Prop) (Ex : Xc → Prop), Rel K T c wd env σ H ∧ Reps K wd vs ds ∧ w ds env P Ex ∧ XOk K T c E Ex ∧ ∀ env', P env' → ∀ σ' wd' H', Le wd wd' → Rel K T c wd' env' σ' H' → Q σ' H'
abbrev JH (T : List (Addr × Str)) (X : Cx) (E : XK) (tg : Expr) (w : WK) : Prop := PG X tg (liftH X.K T E w)
abbrev JHs (T : List (Addr × Str)) (X : Cx) (E : XK) (ts : List Expr) (w : WKs) : Prop := PGs X ts (liftHs X.K T E w)
def kG (g : WG) : WK := fun d env Q _ => g d env Q
theorem jh_g {us : List Nat} {g : WG} (h : JG T X us tg g) : JH T X E tg (kG g) :=
  pgI h fun v σ H Q ⟨c, wd, env, d, P, Ex, r, rp, h, xo, k⟩ => ⟨c, wd, env, d, P, r, rp, h, fun env' p σ' r' _ => k env' p σ' wd H (Le.refl _) r'⟩
def kIx (i : Nat) (iw : W D) : WK := fun v env Q ex => ownIs env i fun _ => iw env (fun n env2 => ownIs env2 i fun xs => match n with
  | .int n => ∃ j, ixN xs.length n = some j ∧ Q (env2.set i (some (.own (xs.set j v))))
  | _ => False) ex
theorem jh_ix (i : Nat) {x : Str} {y : Expr} {iw : W D} {p1 p2 : Pos} (hi : JE T X E y iw) (hN : X.N[i]? = some x := by rfl) (hv : Vis X.env.scope x := by first | exact Or.inl rfl | exact Or.inr (Or.inl rfl) | exact Or.inr (Or.inr rfl)) (hd : (x == ("__debug__" : Str)) = false := by decide)
    (hcd : (x == ("__classdict__" : Str)) = false := by decide)
    (hasg : ∀ v, assign (.Subscript (.Name x p1) y p2) X.env v = (do
      let ov ← holding [v] (eval (.Name x p1) X.env)
      let iv ← holding [v, ov] (eval y X.env)
      standAt p2
      holding [v, ov, iv] (setItem ov iv v)
      release [v, ov, iv] []) := by intro _; rfl) : JH T X E (.Subscript (.Name x p1) y p2) (kIx i iw) :=
  pgI (pg_sub (pe_var hN hv hd hcd) hi set_list hasg) fun u σ H Q ⟨c, wd1, env1, v, P, Ex, r1, rp1, h1, xo, kk⟩ => by
    obtain ⟨xs0, e0, h1⟩ := ownIs_inv h1
    obtain ⟨p0, vs0, z0, zh, _⟩ := r1.own i xs0 (gt_eq _ _ e0)
    refine ⟨.ref p0, z0, c, wd1, env1, _, _, r1, h1, xo, fun n env2 h2 w wd2 H2 le2 r2 rp2 => ?_⟩
    obtain ⟨xs, e1, h3⟩ := ownIs_inv h2
    clear h2
    have h2 := h3
    clear h3
    obtain ⟨p1, vs, z1, z2, z3, z4, z5, z6⟩ := r2.own i xs (gt_eq _ _ e1)
    rw [z0] at z1
    cases z1
    split at h2
    · rename_i n
      cases rp2
      obtain ⟨j, ej, h2⟩ := h2
      refine ⟨_, vs, n, j, rfl, rfl, z2, by rw [z6.length]; exact ej, kk _ h2 _ wd2 _ le2 (r2.mut (gt_eq _ _ e1) z0 (z6.set j (Rep.mono le2 rp1)) ?_)⟩
      rw [List.length_set]
      exact r2.good.siz _ _ z2
    · exact h2.elim
def ksNil : WKs := fun ds env Q _ => match ds with
  | [] => Q env
  | _ => False
def ksCons (g : WK) (r : WKs) : WKs := fun ds env Q ex => match ds with
  | d :: ds => g d env (fun env' => r ds env' Q ex) ex
  | _ => False
theorem jhs_nil : JHs T X E [] ksNil := pgsI pgs_nil fun vs σ H Q ⟨c, wd, env, ds, P, Ex, r, rp, h, xo, k⟩ => by
  cases rp with
  | nil => exact ⟨rfl, k _ h _ _ _ (Le.refl _) r⟩
  | cons _ _ => exact h.elim
theorem jhs_cons {e : Expr} {es : List Expr} {g : WK} {w : WKs} (h1 : JH T X E e g) (h2 : JHs T X E es w) (hs : (assignEach (e :: es) X.env).map (·.2) = assign e X.env :: (assignEach es X.env).map (·.2) := by rfl) : JHs T X E (e :: es) (ksCons g w) :=
  pgsI (pgs_cons h1 h2 hs) fun vs σ H Q ⟨c, wd, env, ds, P, Ex, r, rp, h, xo, k⟩ => by
    cases rp with
    | nil => exact h.elim
    | cons a b => exact ⟨_, _, rfl, c, wd, env, _, _, _, r, a, h, xo, fun env' h' σ' wd' H' le r' => ⟨c, wd', env', _, P, Ex, r', b.mono le, h', xo, fun env2 h2 σ2 wd2 H2 le2 r2 => k env2 h2 σ2 wd2 H2 (le.trans le2) r2⟩⟩
def kTup (w : WKs) (n : Nat) : WK := fun d env Q ex => match d with
  | .tup xs => xs.length = n ∧ w xs env Q ex
  | _ => False
theorem jh_tup {es : List Expr} {kk : Nat} {w : WKs} {n : Nat} {pos : Pos} (hc : X.calm = true) (h : JHs T X E es w) (hn : (assignEach es X.env).length = n := by rfl) (hst : (assignEach es X.env).findIdx? (·.1) = none := by rfl) : JH T X E (.Tuple es kk pos) (kTup w n) :=
  pgI (pg_tup hc h hn hst) fun v σ H Q ⟨c, wd, env, d, P, Ex, r, rp, h, xo, k⟩ => by
    unfold kTup at h
    split at h
    · cases rp with
      | tup hs rs => exact ⟨_, _, rfl, sub_sqT r.good hs, by rw [rs.length]; exact h.1, c, wd, env, _, P, Ex, r, rs, h.2, xo, k⟩
    · exact h.elim
/-- target = e, any target -/
def sAsgK (e : W D) (g : WK) : WS := fun pe env => e env (fun d env' => g d env' pe.nx pe.ex) pe.ex
theorem js_asgK {e : Expr} {w : W D} {g : WK} {pos : Pos} (he : JE T X E e w) (hg : JH T X E tg g) (hs : swapsWithSole [tg] e pos.line X.env = pure false := by rfl) (hw : swappedStores [tg] e X.env = pure none := by rfl)
    (h1 : (assignEach [tg] X.env).map (·.2) = [assign tg X.env] := by rfl) : JS T X E (.Assign [tg] e pos) (sAsgK w g) :=
  psI (ps_asg he hg hs hw h1) fun D σ H ⟨c, wd, env, pe, r, h, o⟩ => ⟨c, wd, env, _, _, r, h, o.ex, fun d env' h' v wd' H' le r' rp => ⟨c, wd', env', d, _, _, r', rp, h', o.ex, fun env2 h2 σ' wd2 H2 le2 r2 => o.nx env2 h2 σ' wd2 H2 (le.trans le2) r2⟩⟩
end
end Pd

/-! set(x) of a list; sorted(set(l)) of a list of ints -/
namespace Zs
open PySem PySem.Spec PyProof.Rows L2
/-- a set as it is made -/
abbrev noneYet (w : World) : Obj := { cls := .type "set", dict := none, data := .set #[] 0 (.fresh 0 0 (!w.params.followText "set-order")) }
section
variable {P : Program} {w : World} {A : Around} {E : Value → Shared → Prop} {s : Shared}
/-- set(x) ends as the filling of the new set by x ends -/
theorem set_call {x : Value} {Q : Value → Shared → Prop} {R : Shared → Prop}
    (fill : wpAny (model P w) A.in1.in1 (Builtin.«set.__init__» ⟨[.ref s.heap.objs.size, x], []⟩) (fun f s' => f = .done (.ret .none) ∧ R s') E { s with heap := s.heap.push (noneYet w) })
    (h : ∀ s', R s' → Q (.ref s.heap.objs.size) s') : wpAny (model P w) A (call (.type "set") [x]) Q E s := by
  have made := F.called_set
  obtain ⟨c, tl, hmro⟩ := made.mro
  have m1 := made.made
  have m2 := made.sub
  have m3 := made.notType
  have m4 := made.canCreate
  have m5 := F.typeCall_set_1 x
  apply wpAny_call
  apply codeAny_of_tree
  show wpAny _ _ (callAny (.type "set") _) _ _ _
  apply wpAny_pure
  constructor
  · exact Code.quiet_builtin _ (by decide +kernel)
  apply codeAny_builtin F.entry_type_call
  rw [Around.under_plain (weight_type_call_type "set" [x] []) rfl]
  repeat (any_goals (first | assumption | wp_step))
  have new := code_set_led1 (P := P) (w := w) (A := A.in1) (E := E) (s := s) x (Q₁ := fun v s₁ => v = .ref s.heap.objs.size ∧ s₁ = { s with heap := s.heap.push (noneYet w) }) ⟨rfl, rfl⟩
  apply codeAny_mono new
  intro r s₁ hr
  rcases r with _ | fl
  · exact hr
  rcases fl with _ | v <;> try exact hr.elim
  obtain ⟨rfl, rfl⟩ := hr
  have at_ : (s.heap.push (noneYet w)).get? s.heap.objs.size = some (noneYet w) := Heap.get?_push_size _ rfl
  have ty : Shared.TypeIs { s with heap := s.heap.push (noneYet w) } (.ref s.heap.objs.size) "set" := ⟨_, at_, rfl⟩
  have i1 := made.init.lookup
  have i2 := made.init.bind (.ref s.heap.objs.size)
  repeat (any_goals (first | assumption | wp_step))
  apply codeAny_call_builtin made.init.plain F.entry_set_init
  apply check_set_init_1 ty
  apply thn fill
  rintro _ s' ⟨rfl, hR⟩
  have e := h s' hR
  repeat (any_goals (first | assumption | wp_step))
/-- the filling of a new set by a list: what the loop over the list's items leaves -/
theorem fill_list {l : Addr} {items : Array Value} {R : Shared → Prop} (hh : A.handled = none) (hl : s.heap.IsList l items)
    (loop : ∀ s0 : Shared, s0 = { s with heap := (s.heap.push (noneYet w)).push { cls := .type "list_iterator", data := .fields #[.ref l, .int 0 0] } } →
      codeAny (model P w) A (.builtin "set.update.loop" ⟨[.ref s.heap.objs.size, .ref (s.heap.push (noneYet w)).objs.size], []⟩) (wants (fun v s' => v = .none ∧ R s') E) s0) :
    wpAny (model P w) A (Builtin.«set.__init__» ⟨[.ref s.heap.objs.size, .ref l], []⟩) (fun f s' => f = .done (.ret .none) ∧ R s') E { s with heap := s.heap.push (noneYet w) } := by
  have at_ : (s.heap.push (noneYet w)).get? s.heap.objs.size = some (noneYet w) := Heap.get?_push_size _ rfl
  have hl1 : (s.heap.push (noneYet w)).IsList l items := hl.push _
  have ty : Shared.TypeIs { s with heap := s.heap.push (noneYet w) } (.ref l) "list" := by
    obtain ⟨o, ho, hc, _⟩ := hl1
    exact ⟨o, ho, hc⟩
  have n1 := F.sub_list_set
  have n2 := F.sub_list_frozenset
  have n3 : (Value.type "list" == Value.type "dict") = false := by decide
  unfold Builtin.«set.__init__»
  unfold noKeywords
  unfold Builtin.Frozenset.updateFrom
  generalize hPI : pyIter = PI
  wp_walk
  subst hPI
  apply wpAny_pyIter_list hl1
  apply wpAny_bind
  apply wpAny_runValue
  apply codeAny_mono (loop _ rfl)
  intro r s' hr
  rcases r with e | fl
  · exact hr
  rcases fl with _ | v <;> try exact hr.elim
  obtain ⟨rfl, hR⟩ := hr
  exact wpAny_pure (wpAny_pure ⟨rfl, hR⟩)
/-- set(l), l a list of ints -/
theorem set_ints {l : Addr} {items : Array Value} (ns : List Int) {Q : Value → Shared → Prop} (hh : A.handled = none) (hl : s.heap.IsList l items) (hi : IntsAre items.toList ns) (hb : ns.length + 1 < scanBound)
    (h : ∀ s' c, Moved [s.heap.objs.size, s.heap.objs.size + 1] (fun a b => b = a) { s with heap := (s.heap.push (noneYet w)).push { cls := .type "list_iterator", data := .fields #[.ref l, .int 0 0] } } s' → c ≤ ns.length → SetR w s'.heap s.heap.objs.size (fun j => decide (j ∈ ns)) c → Q (.ref s.heap.objs.size) s') :
    wpAny (model P w) A (call (.type "set") [.ref l]) Q E s := by
  have size : items.size = ns.length := by
    rw [← IntsAre.length hi, Array.length_toList]
  have top : (s.heap.push (noneYet w)).objs.size = s.heap.objs.size + 1 := Heap.size_push ..
  have below : l < s.heap.objs.size := by
    obtain ⟨o, ho, _⟩ := hl
    exact Heap.lt_size ho
  apply set_call (R := fun s' => ∃ c, Moved [s.heap.objs.size, s.heap.objs.size + 1] (fun a b => b = a) { s with heap := (s.heap.push (noneYet w)).push { cls := .type "list_iterator", data := .fields #[.ref l, .int 0 0] } } s' ∧ c ≤ ns.length ∧ SetR w s'.heap s.heap.objs.size (fun j => decide (j ∈ ns)) c)
  · apply fill_list (by simp [hh]) hl
    rintro _ rfl
    have walk := (Walks.list (prog := P) (w := w) (A := A.in1.in1.in1) (by simp [hh]) (s.heap.push (noneYet w)).objs.size l (fun z => Nat.lt_irrefl _ (Nat.lt_of_lt_of_le (z ▸ below) (top ▸ Nat.le_succ _))) items).toS
    have apart : s.heap.objs.size ∉ [(s.heap.push (noneYet w)).objs.size, l] := fun z => by
      rw [top] at z
      rcases List.mem_cons.mp z with z | z
      · exact Nat.succ_ne_self _ z.symm
      · exact Nat.lt_irrefl _ (List.mem_singleton.mp z ▸ below)
    apply set_update_ints walk s.heap.objs.size apart ns size hb (fun i v hv => ?_) items.size 0 _ (by omega) (by omega) ⟨⟨_, Heap.get?_push_size _ rfl, rfl, rfl⟩, (hl.push _).push _⟩ ⟨0, Nat.le_refl 0, setR_new_at (Heap.get?_push_of_some _ (Heap.get?_push_size _ rfl))⟩
    · intro s' c moved few inside
      rw [top] at moved
      exact ⟨rfl, c, moved, by omega, inside⟩
    · have at_ : items.toList[i]? = some v := by rw [Array.getElem?_toList]; exact hv
      obtain ⟨t, e⟩ := IntsAre.int_at hi i v at_
      have lt : i < ns.length := by
        have := (List.getElem?_eq_some_iff.mp at_).1
        rw [Array.length_toList] at this
        omega
      exact ⟨ns[i], t, List.getElem?_eq_getElem lt, by rw [e]; simp [lt]⟩
  · rintro s' ⟨c, moved, few, inside⟩
    exact h s' c moved few inside
end
end Zs
namespace Pd
open PySem PySem.Spec PyProof.Rows L2 LamX
def rSsl (K : PySem.W.Frag) : V → Hp → VK → Prop := fun x H Q => ∃ (l : Addr) (ns : List Int), x = .ref l ∧ SqL K H l (ns.map V.int) ∧ ns.length < 64 ∧ ∀ (ms : List Int), ms.Pairwise (· < ·) → (∀ k : Int, k ∈ ms ↔ k ∈ ns) → ms.length ≤ ns.length → ∀ p, H p = none → Q (.ref p) (upd H p (.lst (ms.map V.int)))
theorem pe_sortedSet {X : Cx} {a : Expr} {ta : TE} {p p2 q pos : Pos} (hc : X.calm = true) (hg : Gl X "sorted") (hm : X.mg "sorted" = none) (hg2 : Gl X "set") (hm2 : X.mg "set" = none) (ha : PE X a ta)
    (na : starEach [a] X.env = (false, eval a X.env) :: starEach [] X.env := by rfl) (nb : starEach [.Call (.Name "set" p2) [a] [] q] X.env = (false, eval (.Call (.Name "set" p2) [a] [] q) X.env) :: starEach [] X.env := by rfl) : PE X (.Call (.Name "sorted" p) [.Call (.Name "set" p2) [a] [] q] [] pos) (fun σ H Q => ta σ H fun x H1 => rSsl X.K x H1 Q) := by
  refine ⟨fun pins s σ H Q I h => ?_⟩
  refine Call_ (ld_blt I hg hm (by decide +kernel : bootBuiltins "sorted" = some (.builtin "sorted")) ?_)
  refine PyProof.Rows.callWith_builtin1 (PyProof.Rows.args_cons ?_ nb) nb rfl
  refine Call_ (ld_blt I hg2 hm2 PyProof.Rows.boot_set ?_)
  refine PyProof.Rows.callWith_type1 (PyProof.Rows.args_cons (thn (ha.run pins s σ H _ I h) fun v s1 ⟨x, H1, I1, r1, q1⟩ => PyProof.Rows.args_nil ?_) na) na rfl
  obtain ⟨l, ns, rfl, hq, h64, q1⟩ := q1
  cases r1
  obtain ⟨its, r, pl, hz⟩ := I1.list hq
  refine Zs.set_ints ns (I1.ok.hd hc) pl.isList (by simpa using ints_of_vals r) (by unfold scanBound; omega) fun s3 c mv hcl hS => ?_
  refine PyProof.Rows.args_nil ?_
  have es : s3 = { s1 with heap := s3.heap, toks := s3.toks } := by
    obtain ⟨_, m2, m3, m4, _⟩ := mv
    cases s3
    cases m2
    cases m3
    cases m4
    rfl
  have I2 : Inv X pins σ H1 s3 := by
    rw [es]
    refine I1.kept fun b o e => mv.heap b o (fun z => ?_) (Heap.get?_push_of_some _ (Heap.get?_push_of_some _ e))
    have lt := Heap.lt_size e
    rcases List.mem_cons.mp z with z | z
    · exact Nat.lt_irrefl _ (z ▸ lt)
    · exact Nat.lt_irrefl _ (Nat.lt_of_lt_of_le (List.mem_singleton.mp z ▸ lt) (Nat.le_succ _))
  have key : ∀ (s2 : Shared) (a : Addr), Inv X pins σ H1 s2 → SetR X.w s2.heap a (fun j => decide (j ∈ ns)) c → wpAny (model X.prog X.w) X.A (call (.builtin "sorted") [.ref a]) (EP X pins σ Q) X.xe s2 := fun s2 a I2 hS => by
    refine sorted_set hS (I2.ok.hd hc) (by omega) fun s' pp out c' ms k g o hp hgl hi hs hmm hl => ?_
    have hlen : (ms.map V.int).length ≤ sizeLine := by rw [List.length_map, hl, sizeLine_eq]; omega
    have hn : H1 pp = none := I2.hok.fresh hp
    have J : Inv X pins σ (upd H1 pp (.lst (ms.map V.int))) { s2 with heap := s'.heap, gens := s'.gens, drawn := s'.drawn, toks := s'.toks } :=
      I2.call (ch := []) (Un.laid k hp hn) (I2.hok.laid k hp ⟨hlen, out.toList, c', vals_of_ints hi, hgl⟩) (by rw [g]; exact I2.bare) (fun _ z => nomatch z)
    have e : s' = { s2 with heap := s'.heap, gens := s'.gens, drawn := s'.drawn, toks := s'.toks } := by
      cases s'
      cases s2
      cases o
      rfl
    rw [e]
    exact ⟨.ref pp, _, J, rfl, q1 ms hs (fun k => by rw [hmm k]; simp) (by omega) pp hn⟩
  exact key _ _ I2 hS
section
variable {X : Cx} {T : List (Addr × Str)} {E : XK} {k : Nat}
/-- sorted(set(e)), e a list of ints -/
def wSortSet (a : W D) : W (List D) := a.bind fun x env Q _ => ∃ ns : List Int, x = .lst (ns.map D.int) ∧ ns.length < 64 ∧ ∀ ms : List Int, ms.Pairwise (· < ·) → (∀ k : Int, k ∈ ms ↔ k ∈ ns) → Q (ms.map D.int) env
theorem reps_ints {K : PySem.W.Frag} {wd : Wd} : ∀ {vs : List V} {ns : List Int}, Reps K wd vs (ns.map D.int) → vs = ns.map V.int
  | _, [], .nil => rfl
  | _, n :: ns, .cons (.int _) r => by rw [reps_ints r]; rfl
theorem ints_reps {K : PySem.W.Frag} {wd : Wd} : ∀ (ns : List Int), Reps K wd (ns.map V.int) (ns.map D.int)
  | [] => .nil
  | n :: ns => .cons (.int n) (ints_reps ns)
theorem jf_sortedSet {a : Expr} {w : W D} {p p2 q pos : Pos} (B : Bd X E k) (hm : X.mg "sorted" = none) (hm2 : X.mg "set" = none) (ha : JB T X E a w) (hg : Gl X "sorted" := by rfl) (hg2 : Gl X "set" := by rfl)
    (na : starEach [a] X.env = (false, eval a X.env) :: starEach [] X.env := by rfl) (nb : starEach [.Call (.Name "set" p2) [a] [] q] X.env = (false, eval (.Call (.Name "set" p2) [a] [] q) X.env) :: starEach [] X.env := by rfl) : JF T X E (.Call (.Name "sorted" p) [.Call (.Name "set" p2) [a] [] q] [] pos) (wSortSet w) := by
  refine peI (pe_sortedSet B.calm hg hm hg2 hm2 ha na nb) fun σ H Q ⟨c, wd, env, P, Ex, rl, h, xo, kk⟩ => ?_
  refine ⟨c, wd, env, _, Ex, rl, h, xo, fun x env1 ⟨ns, e1, hl, h1⟩ v wd1 H1 le1 r1 tp => ?_⟩
  subst e1
  obtain ⟨l, vs, rfl, q1, q2⟩ := top_lst r1.good tp
  rw [reps_ints q2] at q1
  refine ⟨l, ns, rfl, .inl (.inl q1), hl, fun ms hs hmm hle pp hp => ?_⟩
  have hz : (ms.map V.int).length ≤ sizeLine := by
    rw [List.length_map, sizeLine_eq]
    omega
  obtain ⟨r2, f⟩ := r1.fresh hp (ints_reps ms) hz
  exact kk _ env1 (h1 ms hs hmm) _ wd1 _ le1 r2 f
end
end Pd

/-! sorted(set(l)) of a list of tuples of ints, of which few are different -/
namespace Zs
open PySem PySem.Spec PyProof.Rows L2
theorem few_of {α : Type} [DecidableEq α] : ∀ {l M : List α}, l.Nodup → (∀ x ∈ l, x ∈ M) → l.length ≤ M.length
  | [], _, _, _ => Nat.zero_le _
  | x :: l, M, nd, h => by
    obtain ⟨n1, n2⟩ := List.nodup_cons.mp nd
    have hx := h x List.mem_cons_self
    have := few_of (M := M.erase x) n2 fun y hy => (List.mem_erase_of_ne fun (e : y = x) => n1 (e ▸ hy)).mpr (h y (List.mem_cons_of_mem _ hy))
    have e := List.length_erase_of_mem hx
    have p : 0 < M.length := List.length_pos_of_mem hx
    rw [List.length_cons]
    omega
/-- what the set has when the items below i are in it -/
structure Upon (P : Program) (w : World) (h : Heap) (a : Addr) (ks : List (Addr × List Int)) (i : Nat) (L : List (Addr × List Int)) : Prop where
  is : ∃ es ep t, SetTR P w h a L es ep t
  sub : ∀ p ∈ L, p ∈ ks
  all : ∀ j p, j < i → ks[j]? = some p → p.2 ∈ L.map (·.2)
section
variable {P : Program} {w : World} {A : Around} {E : Value → Shared → Prop} {s : Shared}
theorem loop_tups {I : Addr} {fp wr : List Addr} {G : Array GenState → Array GenState → Prop} {Pv : Nat → Value → Prop} {St : Nat → Shared → Prop} {R : Result → Shared → Prop} {a : Addr} {ks : List (Addr × List Int)} {M : List (List Int)} {h0 : Heap}
    (walk : WalksS P w A.in1 I fp wr G ks.length Pv St) (apart : a ∉ fp) (few : M.length < 63) (inM : ∀ p ∈ ks, p.2 ∈ M) (val : ∀ i v, Pv i v → ∃ p, ks[i]? = some p ∧ v = .ref p.1)
    (old : ∀ p ∈ ks, IsT P w h0 p.2 p.1) (free : ∀ b, b = a ∨ b ∈ wr → h0.get? b = none) (room : A.in1.units < cLine)
    (fin : ∀ s1 s' L, Moved (a :: wr) G s1 s' → Upon P w s'.heap a ks ks.length L → (∀ b o, h0.get? b = some o → s'.heap.get? b = some o) → s1 = s → R (.ok (.ret .none)) s') :
    ∀ d i s1, i + d = ks.length → St i s1 → (∀ b o, h0.get? b = some o → s1.heap.get? b = some o) → (∃ L, Upon P w s1.heap a ks i L) → Moved (a :: wr) G s s1 → codeAny (model P w) A (.builtin "set.update.loop" ⟨[.ref a, .ref I], []⟩) R s1 := by
  have ne : ∀ {b : Addr} {o : Obj}, h0.get? b = some o → b ∉ a :: wr := fun {b o} e z => by
    rw [free b (List.mem_cons.mp z)] at e
    cases e
  have aw : a ∉ wr := fun z => apart (walk.sub a z)
  -- one turn of the walk leaves the set alone
  have stay : ∀ {x y : Shared} {i : Nat} {L : List (Addr × List Int)}, Moved wr G x y → (∀ b o, h0.get? b = some o → x.heap.get? b = some o) → Upon P w x.heap a ks i L → (∀ b o, h0.get? b = some o → y.heap.get? b = some o) ∧ Upon P w y.heap a ks i L := fun {x y i L} m k u => by
    have k' : ∀ b o, h0.get? b = some o → y.heap.get? b = some o := fun b o e => m.heap b o (fun z => ne e (List.mem_cons_of_mem _ z)) (k b o e)
    obtain ⟨es, ep, t, r⟩ := u.is
    exact ⟨k', ⟨es, ep, t, r.keep (fun o e => m.heap a o aw e) fun p hp => isT_keep (old p (u.sub p hp)) k'⟩, u.sub, u.all⟩
  have wide : ∀ {x y : Shared}, Moved wr G x y → Moved (a :: wr) G x y := fun m => m.mono fun b hb => List.mem_cons_of_mem _ hb
  intro d
  induction d with
  | zero =>
    rintro i s1 hi st k ⟨L, u⟩ mv
    obtain rfl : i = ks.length := hi
    apply codeAny_builtin F.entry_set_update_loop
    rw [Around.under_plainId F.plain_set_update_loop _]
    apply wpAny_bind
    apply walk.done s1 _ _ st
    intro s2 m
    obtain ⟨k2, u2⟩ := stay m k u
    exact wpAny_pure (fin s s2 L (mv.trans walk.gtrans (wide m)) u2 k2 rfl)
  | succ d ih =>
    rintro i s1 hi st k ⟨L, u⟩ mv
    apply codeAny_builtin F.entry_set_update_loop
    rw [Around.under_plainId F.plain_set_update_loop _]
    apply wpAny_bind
    apply walk.item i s1 _ _ (by omega) st
    intro v s2 pv st2 m
    obtain ⟨p, hp, rfl⟩ := val i v pv
    obtain ⟨k2, u2⟩ := stay m k u
    obtain ⟨es, ep, t, r⟩ := u2.is
    have pm : p ∈ ks := List.mem_of_getElem? hp
    have px := isT_keep (old p pm) k2
    have lL : L.length + 1 < 64 := by
      have := few_of r.nd fun x hx => by
        obtain ⟨q, hq, rfl⟩ := List.mem_map.mp hx
        exact inM q (u2.sub q hq)
      rw [List.length_map] at this
      omega
    apply wpAny_bind
    apply wpAny_holding
    unfold setAdd
    apply wpAny_holding
    apply wpAny_bind
    apply wpAny_pyHash_tuple room px
    apply add_at (s := { s2 with toks := s2.toks + (p.2.length + 1) }) r px room lL
    intro b h' L' es' ep' t' but r' same more
    have back : ∀ q ∈ L', q ∈ p :: L := fun q hq => by
      by_cases c : p.2 ∈ L.map (·.2)
      · rw [same c] at hq
        exact List.mem_cons_of_mem _ hq
      · exact (more c).mem_iff.mp hq
    have forth : ∀ x, x = p.2 ∨ x ∈ L.map (·.2) → x ∈ L'.map (·.2) := fun x hx => by
      by_cases c : p.2 ∈ L.map (·.2)
      · rw [same c]
        rcases hx with rfl | hx
        · exact c
        · exact hx
      · rw [((more c).map (·.2)).mem_iff, List.map_cons]
        exact List.mem_cons.mpr hx
    have other : ∀ {c : Addr} {o : Obj}, c ≠ a → s2.heap.get? c = some o → h'.get? c = some o := fun {c o} hc e => (but.2 c hc).trans e
    have k3 : ∀ c o, h0.get? c = some o → h'.get? c = some o := fun c o e => other (fun z => ne e (z ▸ List.mem_cons_self)) (k2 c o e)
    refine wpAny_pure ⟨plainId_quiet F.plain_set_update_loop _, ih (i + 1) _ (by omega) (walk.frame _ s2 _ _ st2 (Nat.le_add_right _ _) fun c hc o e => other (fun z => apart (z ▸ hc)) e) k3 ⟨L', ⟨es', ep', t', r'⟩, fun q hq => ?_, fun j q hj hq => ?_⟩ ?_⟩
    · rcases List.mem_cons.mp (back q hq) with rfl | z
      · exact pm
      · exact u.sub q z
    · by_cases e : j = i
      · subst e
        rw [hp] at hq
        cases hq
        exact forth _ (.inl rfl)
      · exact forth _ (.inr (u.all j q (by omega) hq))
    · exact mv.trans walk.gtrans ((wide m).then_heap (Nat.le_add_right _ _) fun c o hc e => other (fun z => hc (z ▸ List.mem_cons_self)) e)
/-- set(l), l a list of tuples of ints, few of them different -/
theorem set_tups {l : Addr} {items : Array Value} {ks : List (Addr × List Int)} {M : List (List Int)} {Q : Value → Shared → Prop} (hh : A.handled = none) (hl : s.heap.IsList l items) (hi : items.toList = ks.map fun p => Value.ref p.1)
    (old : ∀ p ∈ ks, IsT P w s.heap p.2 p.1) (few : M.length < 63) (inM : ∀ p ∈ ks, p.2 ∈ M) (room : A.units + 4 < cLine)
    (h : ∀ s' L, s' = { s with heap := s'.heap, toks := s'.toks } → Upon P w s'.heap s.heap.objs.size ks ks.length L → (∀ b o, s.heap.get? b = some o → s'.heap.get? b = some o) → Q (.ref s.heap.objs.size) s') :
    wpAny (model P w) A (call (.type "set") [.ref l]) Q E s := by
  have size : items.size = ks.length := by
    have := congrArg List.length hi
    rwa [Array.length_toList, List.length_map] at this
  have top : (s.heap.push (noneYet w)).objs.size = s.heap.objs.size + 1 := Heap.size_push ..
  have none_ : ∀ b, s.heap.objs.size ≤ b → s.heap.get? b = none := fun b hb => by
    cases q : s.heap.get? b with
    | none => rfl
    | some o => exact absurd (Nat.lt_of_lt_of_le (Heap.lt_size q) hb) (Nat.lt_irrefl _)
  have below : l < s.heap.objs.size := by
    obtain ⟨o, ho, _⟩ := hl
    exact Heap.lt_size ho
  apply set_call (R := fun s' => ∃ L, s' = { s with heap := s'.heap, toks := s'.toks } ∧ Upon P w s'.heap s.heap.objs.size ks ks.length L ∧ ∀ b o, s.heap.get? b = some o → s'.heap.get? b = some o)
  · apply fill_list (by simp [hh]) hl
    intro s0 e0
    have walk := (Walks.list (prog := P) (w := w) (A := A.in1.in1.in1) (by simp [hh]) (s.heap.push (noneYet w)).objs.size l (fun z => Nat.lt_irrefl _ (Nat.lt_of_lt_of_le (z ▸ below) (top ▸ Nat.le_succ _))) items).toS
    rw [size] at walk
    have apart : s.heap.objs.size ∉ [(s.heap.push (noneYet w)).objs.size, l] := fun z => by
      rw [top] at z
      rcases List.mem_cons.mp z with z | z
      · exact Nat.succ_ne_self _ z.symm
      · exact Nat.lt_irrefl _ (List.mem_singleton.mp z ▸ below)
    have kp : ∀ b o, s.heap.get? b = some o → s0.heap.get? b = some o := fun b o e => by
      rw [e0]
      exact Heap.get?_push_of_some _ (Heap.get?_push_of_some _ e)
    refine loop_tups (s := s0) (M := M) (h0 := s.heap) walk apart few inM (fun i v hv => ?_) old (fun b hb => none_ b ?_) (by show A.units + 1 + 1 + 1 < cLine; omega) (fun s1 s' L mv u k e => ?_) ks.length 0 s0 (by omega) ?_ kp ⟨[], ⟨_, _, _, setTR_fresh ?_⟩, (fun p hp => by cases hp), fun j p hj => by omega⟩ (Moved.refl walk.grefl)
    · have at_ : items.toList[i]? = some v := by rw [Array.getElem?_toList]; exact hv
      rw [hi, List.getElem?_map] at at_
      cases q : ks[i]? with
      | none => rw [q] at at_; cases at_
      | some p =>
        rw [q] at at_
        exact ⟨p, rfl, (Option.some.inj at_).symm⟩
    · rcases hb with rfl | hb
      · exact Nat.le_refl _
      · rw [List.mem_singleton.mp hb, top]
        exact Nat.le_succ _
    · refine ⟨rfl, L, ?_, u, k⟩
      have e1 := mv.eq_with
      rw [e, e0] at e1
      rw [e1]
    · rw [e0]
      exact ⟨⟨_, Heap.get?_push_size _ rfl, rfl, rfl⟩, (hl.push _).push _⟩
    · rw [e0]
      exact Heap.get?_push_of_some _ (Heap.get?_push_size _ rfl)
  · rintro s' ⟨L, e, u, k⟩
    exact h s' L e u k
end
end Zs
namespace Pd
open PySem PySem.Spec PyProof.Rows L2 LamX
/-- what is asked of the tuples, and what comes of them -/
def rSst (K : PySem.W.Frag) : V → Hp → VK → Prop := fun x H Q => ∃ (l : Addr) (ks : List (Addr × List Int)) (d : Nat) (top : Int) (M : List (List Int)), x = .ref l ∧ SqL K H l (ks.map fun p => V.ref p.1) ∧ (∀ p ∈ ks, SqT K H p.1 (p.2.map V.int)) ∧ 1 ≤ d ∧ M.length < 63 ∧
  (∀ p ∈ ks, p.2 ∈ M ∧ p.2.length = d ∧ TS.Bd top p.2) ∧ ∀ L : List (Addr × List Int), (L.map (·.2)).Nodup → (∀ p ∈ L, p ∈ ks) → (∀ p ∈ ks, p.2 ∈ L.map (·.2)) → ∀ p, H p = none → Q (.ref p) (upd H p (.lst (L.map fun q => V.ref q.1)))
theorem pe_sortedSetT {X : Cx} {a : Expr} {ta : TE} {p p2 q pos : Pos} (hc : X.calm = true) (hu : X.A.units + 4 < cLine) (hg : Gl X "sorted") (hm : X.mg "sorted" = none) (hg2 : Gl X "set") (hm2 : X.mg "set" = none) (ha : PE X a ta)
    (na : starEach [a] X.env = (false, eval a X.env) :: starEach [] X.env := by rfl) (nb : starEach [.Call (.Name "set" p2) [a] [] q] X.env = (false, eval (.Call (.Name "set" p2) [a] [] q) X.env) :: starEach [] X.env := by rfl) : PE X (.Call (.Name "sorted" p) [.Call (.Name "set" p2) [a] [] q] [] pos) (fun σ H Q => ta σ H fun x H1 => rSst X.K x H1 Q) := by
  refine ⟨fun pins s σ H Q I h => ?_⟩
  refine Call_ (ld_blt I hg hm (by decide +kernel : bootBuiltins "sorted" = some (.builtin "sorted")) ?_)
  refine PyProof.Rows.callWith_builtin1 (PyProof.Rows.args_cons ?_ nb) nb rfl
  refine Call_ (ld_blt I hg2 hm2 PyProof.Rows.boot_set ?_)
  refine PyProof.Rows.callWith_type1 (PyProof.Rows.args_cons (thn (ha.run pins s σ H _ I h) fun v s1 ⟨x, H1, I1, r1, q1⟩ => PyProof.Rows.args_nil ?_) na) na rfl
  obtain ⟨l, ks, d, top, M, rfl, hq, hT, d1, few, hM, q1⟩ := q1
  cases r1
  obtain ⟨its, r, pl, hz⟩ := I1.list hq
  have er : its = ks.map fun p => Value.ref p.1 := refs_of_vals r
  refine Zs.set_tups (ks := ks) (M := M) (I1.ok.hd hc) pl.isList (by rw [er]) (fun p hp => I1.isT (hT p hp)) few (fun p hp => (hM p hp).1) hu fun s2 L es u keep => ?_
  refine PyProof.Rows.args_nil ?_
  have I2 : Inv X pins σ H1 s2 := by
    rw [es]
    exact I1.kept keep
  obtain ⟨es1, ep, t, R⟩ := u.is
  refine sorted_setT (d := d) (B := top) R (I2.ok.hd hc) d1 (fun p hp => (hM p (u.sub p hp)).2) fun s' pp out c' L' k g o hp hgl hi pm _ => ?_
  have hlen : (L'.map fun q => V.ref q.1).length ≤ sizeLine := by
    rw [List.length_map, pm.length_eq, sizeLine_eq]
    have := R.few
    omega
  have hn : H1 pp = none := I2.hok.fresh hp
  have J : Inv X pins σ (upd H1 pp (.lst (L'.map fun q => V.ref q.1))) { s2 with heap := s'.heap, gens := s'.gens, drawn := s'.drawn, toks := s'.toks } :=
    I2.call (ch := []) (Un.laid k hp hn) (I2.hok.laid k hp ⟨hlen, out.toList, c', by rw [hi]; exact vals_of_refs L', hgl⟩) (by rw [g]; exact I2.bare) (fun _ z => nomatch z)
  have e : s' = { s2 with heap := s'.heap, gens := s'.gens, drawn := s'.drawn, toks := s'.toks } := by
    cases s'
    cases s2
    cases o
    rfl
  rw [e]
  refine ⟨.ref pp, _, J, rfl, q1 L' ((pm.map (·.2)).nodup_iff.mpr R.nd) (fun p hp => u.sub p (pm.mem_iff.mp hp)) (fun p hp => ?_) pp hn⟩
  obtain ⟨j, hj⟩ := List.mem_iff_getElem?.mp hp
  exact (pm.map (·.2)).mem_iff.mpr (u.all j p (List.getElem?_eq_some_iff.mp hj).1 hj)
section
variable {X : Cx} {T : List (Addr × Str)} {E : XK} {k : Nat}
/-- sorted(set(e)), e a list of tuples of ints of one length -/
def wSortSetT (a : W D) : W (List D) := a.bind fun x env Q _ => ∃ (rs : List (List Int)) (d : Nat) (top : Int) (M : List (List Int)), x = .lst (rs.map fun r => .tup (r.map D.int)) ∧ 1 ≤ d ∧ M.length < 63 ∧ (∀ r ∈ rs, r ∈ M ∧ r.length = d ∧ ∀ m ∈ r, 0 ≤ m ∧ m < top) ∧
  ∀ ms : List (List Int), ms.Nodup → (∀ r, r ∈ ms ↔ r ∈ rs) → Q (ms.map fun r => .tup (r.map D.int)) env
theorem reps_tups {K : PySem.W.Frag} {wd : Wd} : ∀ {vs : List V} {rs : List (List Int)}, Reps K wd vs (rs.map fun r => .tup (r.map D.int)) → ∃ ks : List (Addr × List Int), vs = ks.map (fun p => V.ref p.1) ∧ rs = ks.map (·.2) ∧ ∀ p ∈ ks, wd.M p.1 = some (.tup (p.2.map V.int))
  | _, [], .nil => ⟨[], rfl, rfl, fun p hp => by cases hp⟩
  | _, r :: rs, .cons (.tup (a := a) h h1) t => by
    obtain ⟨ks, e1, e2, e3⟩ := reps_tups t
    rw [h1.ints] at h
    refine ⟨(a, r) :: ks, by rw [e1]; rfl, by rw [e2]; rfl, fun p hp => ?_⟩
    rcases List.mem_cons.mp hp with rfl | hp
    · exact h
    · exact e3 p hp
theorem tups_reps {K : PySem.W.Frag} {wd : Wd} : ∀ (ks : List (Addr × List Int)), (∀ p ∈ ks, wd.M p.1 = some (.tup (p.2.map V.int))) → Reps K wd (ks.map fun p => V.ref p.1) ((ks.map (·.2)).map fun r => .tup (r.map D.int))
  | [], _ => .nil
  | p :: ks, h => .cons (.tup (h p List.mem_cons_self) (Reps.ofInts p.2)) (tups_reps ks fun q hq => h q (List.mem_cons_of_mem _ hq))
theorem jf_sortedSetT {a : Expr} {w : W D} {p p2 q pos : Pos} (B : Bd X E k) (hm : X.mg "sorted" = none) (hm2 : X.mg "set" = none) (ha : JB T X E a w) (hg : Gl X "sorted" := by rfl) (hg2 : Gl X "set" := by rfl)
    (na : starEach [a] X.env = (false, eval a X.env) :: starEach [] X.env := by rfl) (nb : starEach [.Call (.Name "set" p2) [a] [] q] X.env = (false, eval (.Call (.Name "set" p2) [a] [] q) X.env) :: starEach [] X.env := by rfl) : JF T X E (.Call (.Name "sorted" p) [.Call (.Name "set" p2) [a] [] q] [] pos) (wSortSetT w) := by
  have hu : X.A.units + 4 < cLine := by have := B.room.un; omega
  refine peI (pe_sortedSetT B.calm hu hg hm hg2 hm2 ha na nb) fun σ H Q ⟨c, wd, env, P, Ex, rl, h, xo, kk⟩ => ?_
  refine ⟨c, wd, env, _, Ex, rl, h, xo, fun x env1 ⟨rs, d, top, M, e1, d1, few, hM, h1⟩ v wd1 H1 le1 r1 tp => ?_⟩
  subst e1
  obtain ⟨l, vs, rfl, q1, q2⟩ := top_lst r1.good tp
  obtain ⟨ks, rfl, rfl, q3⟩ := reps_tups q2
  refine ⟨l, ks, d, top, M, rfl, .inl (.inl q1), fun p hp => sub_sqT r1.good (q3 p hp), d1, few, fun p hp => hM p.2 (List.mem_map.mpr ⟨p, hp, rfl⟩), fun L nd s1 s2 pp hp => ?_⟩
  have hl : L.length ≤ M.length := by
    have := Zs.few_of nd fun x hx => by
      obtain ⟨p, hp, rfl⟩ := List.mem_map.mp hx
      exact (hM p.2 (List.mem_map.mpr ⟨p, s1 p hp, rfl⟩)).1
    rwa [List.length_map] at this
  have hz : (L.map fun q => V.ref q.1).length ≤ sizeLine := by
    rw [List.length_map, sizeLine_eq]
    omega
  obtain ⟨r2, f⟩ := r1.fresh hp (tups_reps L fun p hp => q3 p (s1 p hp)) hz
  refine kk _ env1 (h1 _ nd fun r => ⟨fun hr => ?_, fun hr => ?_⟩) _ wd1 _ le1 r2 f
  · obtain ⟨p, hp, rfl⟩ := List.mem_map.mp hr
    exact List.mem_map.mpr ⟨p, s1 p hp, rfl⟩
  · obtain ⟨p, hp, rfl⟩ := List.mem_map.mp hr
    exact s2 p hp
end
end Pd

namespace Pd
open PySem PySem.Spec PyProof.Rows L2 LamX
/-! classmethods, as facts of the head -/
structure CmF (K : PySem.W.Frag) (C m : Str) : Prop where
  rd : ClX.CRead K (He.ga K C) (.type "type")
  cm : ClX.CMet K (He.ga K C) (.type "type") m (He.ma K (He.ga K C) m) (He5.wf K (He.ga K C) "classmethod" m)
def cmB (K : PySem.W.Frag) (C m : Str) : Bool := (PySem.W.readsIn K (He.ga K C) (.type "type") && decide (PySem.W.specialIn K (.ref (He.ga K C)) "__getattribute__" = some (some (.builtin "type.__getattribute__")))) && (He5.wrapB K (He.ga K C) "classmethod" "classmethod.__get__" m && PySem.W.fnIn K (He5.wf K (He.ga K C) "classmethod" m))
theorem cmB_ok {K : PySem.W.Frag} {C m : Str} (h : cmB K C m = true) : CmF K C m := by
  unfold cmB at h
  simp only [Bool.and_eq_true] at h
  obtain ⟨⟨h1, h2⟩, h3, h4⟩ := h
  obtain ⟨h5, h6⟩ := He5.wrapB_ok h3
  exact ⟨⟨h1, of_decide_eq_true h2⟩, h5, h6, h4⟩
end Pd

/-! len(set(x)), x a tuple of tuples of ints, of which few are different; str(i) -/
namespace Zs
open PySem PySem.Spec PyProof.Rows L2
section
variable {P : Program} {w : World} {A : Around} {E : Value → Shared → Prop} {s : Shared}
/-- the filling of a new set by a tuple -/
theorem fill_tup {l : Addr} {items : Array Value} {R : Shared → Prop} (hh : A.handled = none) (hl : s.heap.IsTuple l items)
    (loop : ∀ s0 : Shared, s0 = { s with heap := (s.heap.push (noneYet w)).push { cls := .type "tuple_iterator", data := .fields #[.ref l, .int 0 0] } } →
      codeAny (model P w) A (.builtin "set.update.loop" ⟨[.ref s.heap.objs.size, .ref (s.heap.push (noneYet w)).objs.size], []⟩) (wants (fun v s' => v = .none ∧ R s') E) s0) :
    wpAny (model P w) A (Builtin.«set.__init__» ⟨[.ref s.heap.objs.size, .ref l], []⟩) (fun f s' => f = .done (.ret .none) ∧ R s') E { s with heap := s.heap.push (noneYet w) } := by
  have at_ : (s.heap.push (noneYet w)).get? s.heap.objs.size = some (noneYet w) := Heap.get?_push_size _ rfl
  have hl1 : (s.heap.push (noneYet w)).IsTuple l items := hl.at fun o e => Heap.get?_push_of_some _ e
  have ty : Shared.TypeIs { s with heap := s.heap.push (noneYet w) } (.ref l) "tuple" := by
    obtain ⟨o, ho, hc, _⟩ := hl1
    exact ⟨o, ho, hc⟩
  have n1 := F.sub_tuple_set
  have n2 := F.sub_tuple_frozenset
  have n3 : (Value.type "tuple" == Value.type "dict") = false := by decide
  unfold Builtin.«set.__init__»
  unfold noKeywords
  unfold Builtin.Frozenset.updateFrom
  generalize hPI : pyIter = PI
  wp_walk
  subst hPI
  apply wpAny_pyIter_tuple hl1
  apply wpAny_bind
  apply wpAny_runValue
  apply codeAny_mono (loop _ rfl)
  intro r s' hr
  rcases r with e | fl
  · exact hr
  rcases fl with _ | v <;> try exact hr.elim
  obtain ⟨rfl, hR⟩ := hr
  exact wpAny_pure (wpAny_pure ⟨rfl, hR⟩)
/-- set(l), l a tuple of tuples of ints, few of them different -/
theorem set_tupsT {l : Addr} {items : Array Value} {ks : List (Addr × List Int)} {M : List (List Int)} {Q : Value → Shared → Prop} (hh : A.handled = none) (hl : s.heap.IsTuple l items) (hi : items.toList = ks.map fun p => Value.ref p.1)
    (old : ∀ p ∈ ks, IsT P w s.heap p.2 p.1) (few : M.length < 63) (inM : ∀ p ∈ ks, p.2 ∈ M) (room : A.units + 4 < cLine)
    (h : ∀ s' L, s' = { s with heap := s'.heap, toks := s'.toks } → Upon P w s'.heap s.heap.objs.size ks ks.length L → (∀ b o, s.heap.get? b = some o → s'.heap.get? b = some o) → Q (.ref s.heap.objs.size) s') :
    wpAny (model P w) A (call (.type "set") [.ref l]) Q E s := by
  have size : items.size = ks.length := by
    have := congrArg List.length hi
    rwa [Array.length_toList, List.length_map] at this
  have top : (s.heap.push (noneYet w)).objs.size = s.heap.objs.size + 1 := Heap.size_push ..
  have none_ : ∀ b, s.heap.objs.size ≤ b → s.heap.get? b = none := fun b hb => by
    cases q : s.heap.get? b with
    | none => rfl
    | some o => exact absurd (Nat.lt_of_lt_of_le (Heap.lt_size q) hb) (Nat.lt_irrefl _)
  have below : l < s.heap.objs.size := by
    obtain ⟨o, ho, _⟩ := hl
    exact Heap.lt_size ho
  apply set_call (R := fun s' => ∃ L, s' = { s with heap := s'.heap, toks := s'.toks } ∧ Upon P w s'.heap s.heap.objs.size ks ks.length L ∧ ∀ b o, s.heap.get? b = some o → s'.heap.get? b = some o)
  · apply fill_tup (by simp [hh]) hl
    intro s0 e0
    have walk := (Walks.tuple (prog := P) (w := w) (A := A.in1.in1.in1) (by simp [hh]) (s.heap.push (noneYet w)).objs.size l (fun z => Nat.lt_irrefl _ (Nat.lt_of_lt_of_le (z ▸ below) (top ▸ Nat.le_succ _))) items).toS
    rw [size] at walk
    have apart : s.heap.objs.size ∉ [(s.heap.push (noneYet w)).objs.size, l] := fun z => by
      rw [top] at z
      rcases List.mem_cons.mp z with z | z
      · exact Nat.succ_ne_self _ z.symm
      · exact Nat.lt_irrefl _ (List.mem_singleton.mp z ▸ below)
    have kp : ∀ b o, s.heap.get? b = some o → s0.heap.get? b = some o := fun b o e => by
      rw [e0]
      exact Heap.get?_push_of_some _ (Heap.get?_push_of_some _ e)
    refine loop_tups (s := s0) (M := M) (h0 := s.heap) walk apart few inM (fun i v hv => ?_) old (fun b hb => none_ b ?_) (by show A.units + 1 + 1 + 1 < cLine; omega) (fun s1 s' L mv u k e => ?_) ks.length 0 s0 (by omega) ?_ kp ⟨[], ⟨_, _, _, setTR_fresh ?_⟩, (fun p hp => by cases hp), fun j p hj => by omega⟩ (Moved.refl walk.grefl)
    · have at_ : items.toList[i]? = some v := by rw [Array.getElem?_toList]; exact hv
      rw [hi, List.getElem?_map] at at_
      cases q : ks[i]? with
      | none => rw [q] at at_; cases at_
      | some p =>
        rw [q] at at_
        exact ⟨p, rfl, (Option.some.inj at_).symm⟩
    · rcases hb with rfl | hb
      · exact Nat.le_refl _
      · rw [List.mem_singleton.mp hb, top]
        exact Nat.le_succ _
    · refine ⟨rfl, L, ?_, u, k⟩
      have e1 := mv.eq_with
      rw [e, e0] at e1
      rw [e1]
    · rw [e0]
      exact ⟨⟨_, Heap.get?_push_size _ rfl, rfl, rfl⟩, (hl.at fun o e => Heap.get?_push_of_some _ e).at fun o e => Heap.get?_push_of_some _ e⟩
    · rw [e0]
      exact Heap.get?_push_of_some _ (Heap.get?_push_size _ rfl)
  · rintro s' ⟨L, e, u, k⟩
    exact h s' L e u k
end
end Zs
namespace Pd
open PySem PySem.Spec PyProof.Rows L2 LamX
/-- what is asked of the tuples, and what comes of them -/
def rLst (K : PySem.W.Frag) : V → Hp → VK → Prop := fun x H Q => ∃ (l : Addr) (ks : List (Addr × List Int)) (M : List (List Int)), x = .ref l ∧ SqT K H l (ks.map fun p => V.ref p.1) ∧ (∀ p ∈ ks, SqT K H p.1 (p.2.map V.int)) ∧ M.length < 63 ∧ (∀ p ∈ ks, p.2 ∈ M) ∧
  ∀ L : List (List Int), L.Nodup → (∀ r, r ∈ L ↔ r ∈ ks.map (·.2)) → Q (.int (L.length : Int)) H
theorem pe_lenSetT {X : Cx} {a : Expr} {ta : TE} {p p2 q pos : Pos} (hc : X.calm = true) (hu : X.A.units + 4 < cLine) (hg : Gl X "len") (hm : X.mg "len" = none) (hg2 : Gl X "set") (hm2 : X.mg "set" = none) (ha : PE X a ta)
    (na : starEach [a] X.env = (false, eval a X.env) :: starEach [] X.env := by rfl) (nb : starEach [.Call (.Name "set" p2) [a] [] q] X.env = (false, eval (.Call (.Name "set" p2) [a] [] q) X.env) :: starEach [] X.env := by rfl) : PE X (.Call (.Name "len" p) [.Call (.Name "set" p2) [a] [] q] [] pos) (fun σ H Q => ta σ H fun x H1 => rLst X.K x H1 Q) := by
  constructor
  intro pins s σ H Q I h
  refine Call_ (ld_blt I hg hm (by decide +kernel : bootBuiltins "len" = some (.builtin "len")) ?_)
  refine PyProof.Rows.callWith_builtin1 (PyProof.Rows.args_cons ?_ nb) nb rfl
  refine Call_ (ld_blt I hg2 hm2 PyProof.Rows.boot_set ?_)
  refine PyProof.Rows.callWith_type1 (PyProof.Rows.args_cons (thn (ha.run pins s σ H _ I h) fun v s1 ⟨x, H1, I1, r1, q1⟩ => PyProof.Rows.args_nil ?_) na) na rfl
  obtain ⟨l, ks, M, rfl, hq, hT, few, hM, q1⟩ := q1
  cases r1
  obtain ⟨its, r, tup, hz⟩ := I1.tuple hq
  have er : its = ks.map fun p => Value.ref p.1 := refs_of_vals r
  refine Zs.set_tupsT (ks := ks) (M := M) (I1.ok.hd hc) (show s1.heap.IsTuple l its.toArray from tup) (by rw [er]) (fun p hp => I1.isT (hT p hp)) few hM hu fun s2 L es u keep => ?_
  refine PyProof.Rows.args_nil ?_
  have I2 : Inv X pins σ H1 s2 := by
    rw [es]
    exact I1.kept keep
  obtain ⟨es1, ep, t, R⟩ := u.is
  obtain ⟨o, ho, hex, hd⟩ := R.ob
  have size := R.size
  have lim := R.few
  have fin := q1 (L.map (·.2)) R.nd fun r => ⟨fun hr => by
    obtain ⟨p, hp, rfl⟩ := List.mem_map.mp hr
    exact List.mem_map.mpr ⟨p, u.sub p hp, rfl⟩, fun hr => by
    obtain ⟨p, hp, rfl⟩ := List.mem_map.mp hr
    obtain ⟨j, hj⟩ := List.mem_iff_getElem?.mp hp
    exact u.all j p (List.getElem?_eq_some_iff.mp hj).1 hj⟩
  rw [List.length_map] at fin
  exact call_len_set ho hex hd R.fits (by omega) ⟨.int (L.length : Int), H1, I2.tok _, ⟨_, by rw [size]⟩, fin⟩
section
variable {X : Cx} {T : List (Addr × Str)} {E : XK} {k : Nat}
/-- len(set(e)), e a tuple of tuples of ints -/
def wLenSetT (a : W D) : W D := a.bind fun x env Q _ => ∃ (rs M : List (List Int)), x = .tup (rs.map fun r => .tup (r.map D.int)) ∧ M.length < 63 ∧ (∀ r ∈ rs, r ∈ M) ∧ ∀ ms : List (List Int), ms.Nodup → (∀ r, r ∈ ms ↔ r ∈ rs) → Q (.int (ms.length : Int)) env
theorem je_lenSetT {a : Expr} {w : W D} {p p2 q pos : Pos} (B : Bd X E k) (hm : X.mg "len" = none) (hm2 : X.mg "set" = none) (ha : JE T X E a w) (hg : Gl X "len" := by rfl) (hg2 : Gl X "set" := by rfl)
    (na : starEach [a] X.env = (false, eval a X.env) :: starEach [] X.env := by rfl) (nb : starEach [.Call (.Name "set" p2) [a] [] q] X.env = (false, eval (.Call (.Name "set" p2) [a] [] q) X.env) :: starEach [] X.env := by rfl) : JE T X E (.Call (.Name "len" p) [.Call (.Name "set" p2) [a] [] q] [] pos) (wLenSetT w) := by
  have hu : X.A.units + 4 < cLine := by have := B.room.un; omega
  refine peI (pe_lenSetT B.calm hu hg hm hg2 hm2 ha na nb) fun σ H Q ⟨c, wd, env, P, Ex, rl, h, xo, kk⟩ => ?_
  refine ⟨c, wd, env, _, Ex, rl, h, xo, fun x env1 ⟨rs, M, e1, few, hM, h1⟩ v wd1 H1 le1 r1 rp => ?_⟩
  subst e1
  cases rp with
  | tup hs rr =>
    obtain ⟨ks, rfl, rfl, q3⟩ := reps_tups rr
    refine ⟨_, ks, M, rfl, sub_sqT r1.good hs, fun p hp => sub_sqT r1.good (q3 p hp), few, fun p hp => hM p.2 (List.mem_map.mpr ⟨p, hp, rfl⟩), fun L nd same => ?_⟩
    exact kk _ env1 (h1 L nd same) _ wd1 H1 le1 r1 (.int _)
/-- str(i) -/
def dStrI : D → Option D
  | .int i => if i.natAbs.log2 < 1920 then some (.str (toString i)) else none
  | _ => none
theorem cb_strI : CallB X (.type "str") dStrI := ⟨_, call_str_int, fun x z e T wd H v Q g t d => by
  cases x with
  | int i =>
    obtain ⟨hz, rfl⟩ := ite_some e
    cases top_rep t (fun _ z => nomatch z)
    exact ⟨i, rfl, hz, d.now (.str _)⟩
  | _ => cases e⟩
end
end Pd

/-! sorted(set(x)), x a tuple of ints -/
namespace Zs
open PySem PySem.Spec PyProof.Rows L2
section
variable {P : Program} {w : World} {A : Around} {E : Value → Shared → Prop} {s : Shared}
theorem set_intsT {l : Addr} {items : Array Value} (ns : List Int) {Q : Value → Shared → Prop} (hh : A.handled = none) (hl : s.heap.IsTuple l items) (hi : IntsAre items.toList ns) (hb : ns.length + 1 < scanBound)
    (h : ∀ s' c, Moved [s.heap.objs.size, s.heap.objs.size + 1] (fun a b => b = a) { s with heap := (s.heap.push (noneYet w)).push { cls := .type "tuple_iterator", data := .fields #[.ref l, .int 0 0] } } s' → c ≤ ns.length → SetR w s'.heap s.heap.objs.size (fun j => decide (j ∈ ns)) c → Q (.ref s.heap.objs.size) s') :
    wpAny (model P w) A (call (.type "set") [.ref l]) Q E s := by
  have many : items.size = ns.length := by rw [← IntsAre.length hi, Array.length_toList]
  have up : (s.heap.push (noneYet w)).objs.size = s.heap.objs.size + 1 := Heap.size_push ..
  have lt : l < s.heap.objs.size := by
    obtain ⟨o, ho, _⟩ := hl
    exact Heap.lt_size ho
  apply set_call (R := fun s' => ∃ c, Moved [s.heap.objs.size, s.heap.objs.size + 1] (fun a b => b = a) { s with heap := (s.heap.push (noneYet w)).push { cls := .type "tuple_iterator", data := .fields #[.ref l, .int 0 0] } } s' ∧ c ≤ ns.length ∧ SetR w s'.heap s.heap.objs.size (fun j => decide (j ∈ ns)) c)
  · refine fill_tup (by simp [hh]) hl ?_
    rintro _ rfl
    have ne : l ≠ (s.heap.push (noneYet w)).objs.size := fun z => by
      rw [z, up] at lt
      exact Nat.lt_irrefl _ (Nat.lt_of_succ_lt lt)
    have steps := (Walks.tuple (prog := P) (w := w) (A := A.in1.in1.in1) (by simp [hh]) (s.heap.push (noneYet w)).objs.size l ne items).toS
    have off : s.heap.objs.size ∉ [(s.heap.push (noneYet w)).objs.size, l] := by
      rw [up, List.mem_cons, List.mem_singleton]
      rintro (z | z)
      · exact Nat.succ_ne_self _ z.symm
      · rw [← z] at lt
        exact Nat.lt_irrefl _ lt
    have held : ((s.heap.push (noneYet w)).push { cls := .type "tuple_iterator", data := .fields #[.ref l, .int 0 0] }).IsTuple l items := hl.at fun o e => Heap.get?_push_of_some _ (Heap.get?_push_of_some _ e)
    refine set_update_ints steps s.heap.objs.size off ns many hb (fun i v hv => ?_) items.size 0 _ (by omega) (by omega) ⟨⟨_, Heap.get?_push_size _ rfl, rfl, rfl⟩, held⟩ ⟨0, Nat.le_refl 0, setR_new_at (Heap.get?_push_of_some _ (Heap.get?_push_size _ rfl))⟩ ?_
    · have here : items.toList[i]? = some v := (Array.getElem?_toList ..).trans hv
      obtain ⟨t, e⟩ := IntsAre.int_at hi i v here
      have il : i < ns.length := by
        have q := (List.getElem?_eq_some_iff.mp here).1
        rwa [Array.length_toList, many] at q
      refine ⟨ns[i], t, List.getElem?_eq_getElem il, ?_⟩
      rw [e]
      simp [il]
    · intro s' c moved few inside
      rw [up] at moved
      exact ⟨rfl, c, moved, by omega, inside⟩
  · rintro s' ⟨c, m, few, inside⟩
    exact h s' c m few inside
end
end Zs
namespace Pd
open PySem PySem.Spec PyProof.Rows L2 LamX
def rSsi (K : PySem.W.Frag) : V → Hp → VK → Prop := fun x H Q => ∃ (l : Addr) (ns : List Int), x = .ref l ∧ SqT K H l (ns.map V.int) ∧ ns.length < 64 ∧ ∀ (ms : List Int), ms.Pairwise (· < ·) → (∀ k : Int, k ∈ ms ↔ k ∈ ns) → ms.length ≤ ns.length → ∀ p, H p = none → Q (.ref p) (upd H p (.lst (ms.map V.int)))
theorem pe_sortedSetI {X : Cx} {a : Expr} {ta : TE} {p p2 q pos : Pos} (hc : X.calm = true) (hg : Gl X "sorted") (hm : X.mg "sorted" = none) (hg2 : Gl X "set") (hm2 : X.mg "set" = none) (ha : PE X a ta)
    (na : starEach [a] X.env = (false, eval a X.env) :: starEach [] X.env := by rfl) (nb : starEach [.Call (.Name "set" p2) [a] [] q] X.env = (false, eval (.Call (.Name "set" p2) [a] [] q) X.env) :: starEach [] X.env := by rfl) : PE X (.Call (.Name "sorted" p) [.Call (.Name "set" p2) [a] [] q] [] pos) (fun σ H Q => ta σ H fun x H1 => rSsi X.K x H1 Q) := by
  constructor
  intro pins s σ H Q I h
  refine Call_ (ld_blt I hg hm (by decide +kernel : bootBuiltins "sorted" = some (.builtin "sorted")) (PyProof.Rows.callWith_builtin1 (PyProof.Rows.args_cons ?_ nb) nb rfl))
  refine Call_ (ld_blt I hg2 hm2 PyProof.Rows.boot_set (PyProof.Rows.callWith_type1 (PyProof.Rows.args_cons (thn (ha.run pins s σ H _ I h) fun v s1 ⟨x, H1, I1, r1, q1⟩ => PyProof.Rows.args_nil ?_) na) na rfl))
  obtain ⟨l, ns, rfl, hq, h64, q1⟩ := q1
  cases r1
  obtain ⟨its, r, tup, hz⟩ := I1.tuple hq
  refine Zs.set_intsT ns (I1.ok.hd hc) (show s1.heap.IsTuple l its.toArray from tup) (by simpa using ints_of_vals r) (by unfold scanBound; omega) fun s3 c mv hcl hS => PyProof.Rows.args_nil ?_
  have same : s3 = { s1 with heap := s3.heap, toks := s3.toks } := by
    obtain ⟨_, e2, e3, e4, _⟩ := mv
    cases s3
    cases e2
    cases e3
    cases e4
    rfl
  have I2 : Inv X pins σ H1 s3 := by
    rw [same]
    refine I1.kept fun b o e => mv.heap b o (fun z => ?_) (Heap.get?_push_of_some _ (Heap.get?_push_of_some _ e))
    have lt := Heap.lt_size e
    rw [List.mem_cons, List.mem_singleton] at z
    rcases z with rfl | rfl
    · exact Nat.lt_irrefl _ lt
    · exact Nat.lt_irrefl _ (Nat.lt_of_succ_lt lt)
  clear same mv
  obtain ⟨s0, hs0⟩ : ∃ s0, s0 = s1.heap.objs.size := ⟨_, rfl⟩
  rw [← hs0] at hS ⊢
  clear hs0 tup I1
  refine sorted_set hS (I2.ok.hd hc) (by omega) fun s' pp out c' ms k g o hp hgl hi hs hmm hl => ?_
  have hlen : (ms.map V.int).length ≤ sizeLine := by rw [List.length_map, hl, sizeLine_eq]; omega
  have hn : H1 pp = none := I2.hok.fresh hp
  have J : Inv X pins σ (upd H1 pp (.lst (ms.map V.int))) { s3 with heap := s'.heap, gens := s'.gens, drawn := s'.drawn, toks := s'.toks } :=
    I2.call (ch := []) (Un.laid k hp hn) (I2.hok.laid k hp ⟨hlen, out.toList, c', vals_of_ints hi, hgl⟩) (by rw [g]; exact I2.bare) (fun _ z => nomatch z)
  have back : s' = { s3 with heap := s'.heap, gens := s'.gens, drawn := s'.drawn, toks := s'.toks } := by
    cases s'
    cases s3
    cases o
    rfl
  rw [back]
  exact ⟨.ref pp, _, J, rfl, q1 ms hs (fun k => by rw [hmm k]; simp) (by omega) pp hn⟩
section
variable {X : Cx} {T : List (Addr × Str)} {E : XK} {k : Nat}
/-- sorted(set(e)), e a tuple of ints -/
def wSortSetI (a : W D) : W (List D) := a.bind fun x env Q _ => ∃ ns : List Int, x = .tup (ns.map D.int) ∧ ns.length < 64 ∧ ∀ ms : List Int, ms.Pairwise (· < ·) → (∀ k : Int, k ∈ ms ↔ k ∈ ns) → Q (ms.map D.int) env
theorem jf_sortedSetI {a : Expr} {w : W D} {p p2 q pos : Pos} (B : Bd X E k) (hm : X.mg "sorted" = none) (hm2 : X.mg "set" = none) (ha : JE T X E a w) (hg : Gl X "sorted" := by rfl) (hg2 : Gl X "set" := by rfl)
    (na : starEach [a] X.env = (false, eval a X.env) :: starEach [] X.env := by rfl) (nb : starEach [.Call (.Name "set" p2) [a] [] q] X.env = (false, eval (.Call (.Name "set" p2) [a] [] q) X.env) :: starEach [] X.env := by rfl) : JF T X E (.Call (.Name "sorted" p) [.Call (.Name "set" p2) [a] [] q] [] pos) (wSortSetI w) := by
  refine peI (pe_sortedSetI B.calm hg hm hg2 hm2 ha na nb) fun σ H Q ⟨c, wd, env, P, Ex, rl, h, xo, kk⟩ => ⟨c, wd, env, _, Ex, rl, h, xo, fun x env1 ⟨ns, e1, hl, h1⟩ v wd1 H1 le1 r1 rp => ?_⟩
  subst e1
  cases rp with
  | tup hq rs =>
    rw [reps_ints rs] at hq
    refine ⟨_, ns, rfl, sub_sqT r1.good hq, hl, fun ms hs hmm hle pp hp => ?_⟩
    obtain ⟨r2, f⟩ := r1.fresh hp (ints_reps ms) (by rw [List.length_map, sizeLine_eq]; omega)
    exact kk _ env1 (h1 ms hs hmm) _ wd1 _ le1 r2 f
end
end Pd

namespace Pd
open PySem PySem.Spec PyProof.Rows L2 LamX
/-! ### dicts that are one name's alone -/
section
variable {K : PySem.W.Frag} {T : List (Addr × Str)} {c : Ctx} {wd wd' : Wd} {env env' : PEnv} {σ σ' : L2.St} {H H' : Hp}
/-- such a dict is changed, locked or unlocked -/
theorem Rel.putDct (r : Rel K T c wd env σ H) {i : Nat} {lk lk2 : Option Obj} {ks ls : DK D} {p : Addr} {us : DK V} (e : env[i]? = some (some (.dct lk ks))) (hp : σ[i]? = some (some (V.ref p))) (en : us.same ls) (er : Reps K wd us.vals ls.vals) (hz : Sized (lkO lk2 us.cell)) :
    Rel K T c wd (env.set i (some (.dct lk2 ls))) σ (upd H p (lkO lk2 us.cell)) := by
  obtain ⟨p', ws', h1, h2, h3, h4, h5, h6⟩ := r.ext.dct i lk ks e
  rw [h1] at hp
  cases hp
  have hil : i < env.length := (List.getElem?_eq_some_iff.mp e).1
  have stay : ∀ {l : Nat} {s : Sl}, (env.set i (some (.dct lk2 ls)))[l]? = some (some s) → (∀ k q, s ≠ .dct k q) → env[l]? = some (some s) := fun {l s} q n => by
    rcases get_set q with ⟨rfl, q, _⟩ | ⟨_, q⟩
    · cases q
      exact absurd rfl (n _ _)
    · exact q
  have ownS : ∀ {l : Nat} {zs : List D}, (env.set i (some (.dct lk2 ls)))[l]? = some (some (.own zs)) → env[l]? = some (some (.own zs)) := fun {l zs} q => stay q fun _ _ z => nomatch z
  have celS : ∀ {l : Nat} {cs : List (Addr × List D)}, (env.set i (some (.dct lk2 ls)))[l]? = some (some (.cels cs)) → env[l]? = some (some (.cels cs)) := fun {l zs} q => stay q fun _ _ z => nomatch z
  have objS : ∀ {l : Nat} {p0 : Addr} {C : Str} {fs : List (Str × D)}, (env.set i (some (.dct lk2 ls)))[l]? = some (some (.obj p0 C fs)) → env[l]? = some (some (.obj p0 C fs)) := fun {l p0 C fs} q => stay q fun _ _ z => nomatch z
  have dctS : ∀ {l : Nat} {k : Option Obj} {q' : DK D}, (env.set i (some (.dct lk2 ls)))[l]? = some (some (.dct k q')) → (i = l ∧ k = lk2 ∧ q' = ls) ∨ (i ≠ l ∧ env[l]? = some (some (.dct k q'))) := fun {l k q'} q => by
    rcases get_set q with ⟨rfl, q, _⟩ | ⟨ne, q⟩
    · cases q
      exact .inl ⟨rfl, rfl, rfl⟩
    · exact .inr ⟨ne, q⟩
  have old : ∀ {l : Nat} {k : Option Obj} {q' : DK D}, (env.set i (some (.dct lk2 ls)))[l]? = some (some (.dct k q')) → ∃ k0 q0, env[l]? = some (some (.dct k0 q0)) := fun {l k q'} q => by
    rcases dctS q with ⟨rfl, _⟩ | ⟨_, q⟩
    · exact ⟨_, _, e⟩
    · exact ⟨_, _, q⟩
  have nl : ∀ {a : Addr} {vs : List V}, H a = some (.lst vs) → a ≠ p := fun {a vs} q z => by
    rw [z, h2] at q
    exact lk_lst q.symm
  have hb : p ∉ wd.B := r.good.dctB h2
  refine ⟨r.ord, ⟨fun a o q => ?_, r.good.ntb, fun b hb' => ?_, fun q hq => ?_, siz_upd r.good.siz hz⟩, ⟨fun a o q n t => ?_, fun a q => ?_⟩, by rw [List.length_set]; exact r.len, fun l x q => r.dat l x (stay q fun _ _ z => nomatch z), fun l zs q => ?_, fun l m as bs q e1 e2 e3 e4 => r.sep l m as bs q (ownS e1) (ownS e2) e3 e4, fun q hq => ?_,
    ⟨fun l p1 C' fs' q => ?_, fun l m p1 p2 C1 C2 f1 f2 e1 e2 => r.ext.ob1 l m p1 p2 C1 C2 f1 f2 (objS e1) (objS e2), fun l cs q s hs => ?_, fun l cs q => r.ext.cnd l cs (celS q), fun l m cs ds e1 e2 => r.ext.ce1 l m cs ds (celS e1) (celS e2), fun l k q' q => ?_, fun l m k k' ks1 ls1 p1 e1 e2 e3 e4 => ?_⟩⟩
  · rw [upd_ne (fun z => by rw [z, h3] at q; cases q)]
    exact r.good.sub a o q
  · obtain ⟨z1, g, s, c', z2, z3⟩ := r.good.box b hb'
    exact ⟨z1, g, s, c', by rw [upd_ne (nl z2)]; exact z2, z3⟩
  · obtain ⟨ps, z1, z2, z3⟩ := r.good.tab q hq
    refine ⟨ps, ?_, z2, fun pos cv hc => ?_⟩
    · rw [upd_ne (fun z => by rw [z, h2] at z1; cases lk <;> cases ws' <;> cases z1)]
      exact z1
    · obtain ⟨a, y1, y2⟩ := z3 pos cv hc
      refine ⟨a, y1, ?_⟩
      rw [upd_ne (fun z => by rw [z, h2] at y2; cases lk <;> cases ws' <;> cases y2)]
      exact y2
  · rw [upd_ne (show a ≠ p from fun z => h4.no (by rw [← z]; exact q) t)]
    exact r.keep.st a o q n t
  · by_cases ha : a = p
    · subst ha
      exact h4
    · exact r.keep.dm a (q.upd ha)
  · obtain ⟨a, vs, z1, z2, z3⟩ := r.own l zs (ownS q)
    exact ⟨a, vs, z1, by rw [upd_ne (nl z2)]; exact z2, z3⟩
  · obtain ⟨z1, z2, z3, z4⟩ := r.pin q hq
    exact ⟨by rw [upd_ne (nl z1)]; exact z1, z2, z3, fun l zs e => z4.o l zs (ownS e), fun l cs e => z4.c l cs (celS e)⟩
  · obtain ⟨dx, us', z1, z2, z3⟩ := r.ext.obj l p1 C' fs' (objS q)
    exact ⟨dx, us', z1, by rw [upd_ne (fun z => by rw [z, h2] at z2; exact lk_ins z2.symm)]; exact z2, z3⟩
  · obtain ⟨⟨vs, z1, z2⟩, z3, z4, z5, z6⟩ := r.ext.cel l cs (celS q) s hs
    exact ⟨⟨vs, by rw [upd_ne (nl z1)]; exact z1, z2⟩, z3, z4, z5, fun m zs e => z6 m zs (ownS e)⟩
  · rcases dctS q with ⟨rfl, rfl, rfl⟩ | ⟨ne, q⟩
    · exact ⟨p, us, h1, upd_same, h3, h4, en, er⟩
    · obtain ⟨p0, ws, z1, z2, z3⟩ := r.ext.dct l k q' q
      refine ⟨p0, ws, z1, ?_, z3⟩
      rw [upd_ne (show p0 ≠ p from fun z => ne (r.ext.dc1 i l lk k ks q' p0 e q (by rw [z]; exact h1) z1))]
      exact z2
  · obtain ⟨k0, q0, f1⟩ := old e1
    obtain ⟨k1, q1, f2⟩ := old e2
    exact r.ext.dc1 l m k0 k1 q0 q1 p1 f1 f2 e3 e4
/-- a new one -/
theorem Rel.newDct (r : Rel K T c wd env σ H) {i : Nat} {p : Addr} {us : DK V} {ls : DK D} (hp : H p = none) (en : us.same ls) (er : Reps K wd us.vals ls.vals) (hz : Sized us.cell) :
    Rel K T c wd (env.set i (some (.dct none ls))) (σ.set i (some (.ref p))) (upd H p us.cell) := by
  have k : Keep wd H (upd H p us.cell) := Keep.add hp
  have hm := r.good.mnone hp
  have gd : Good T wd (upd H p us.cell) := by
    refine ⟨fun a o e => ?_, r.good.ntb, fun b hb => ?_, r.good.tab.ext fun b u e => ?_, siz_upd r.good.siz hz⟩
    · have := r.good.sub a o e
      rw [upd_ne (ne_of_none this hp)]
      exact this
    · obtain ⟨h1, g, s, c', h2, h3⟩ := r.good.box b hb
      exact ⟨h1, g, s, c', by rw [upd_ne (ne_of_none h2 hp)]; exact h2, h3⟩
    · rw [upd_ne (ne_of_none e hp)]
      exact e
  have r2 : Rel K T c wd env σ (upd H p us.cell) := r.go (Ord.refl _ _) gd k
  have fresh : ∀ {j : Nat} {lk : Option Obj} {ks : DK D}, env[j]? = some (some (.dct lk ks)) → σ[j]? ≠ some (some (.ref p)) := fun {j lk ks} e z => by
    obtain ⟨q, ws, h1, h2, _⟩ := r.ext.dct j lk ks e
    rw [h1] at z
    cases z
    rw [hp] at h2
    cases h2
  have stay : ∀ {l : Nat} {s : Sl}, (env.set i (some (.dct none ls)))[l]? = some (some s) → (∀ k q, s ≠ .dct k q) → i ≠ l ∧ env[l]? = some (some s) := fun {l s} q n => by
    rcases get_set q with ⟨rfl, q, _⟩ | ⟨ne, q⟩
    · cases q
      exact absurd rfl (n _ _)
    · exact ⟨ne, q⟩
  have x2 := r2.ext
  refine ⟨r2.ord, r2.good, r2.keep, by simp [r2.len], fun j y e => ?_, fun j ys e => ?_, fun j l as bs q e1 e2 e3 e4 => ?_, fun q hq => ?_, ⟨fun l p1 C' fs' q => ?_, fun l m p1 p2 C1 C2 f1 f2 e1 e2 => ?_, fun l cs q s hs => ?_, fun l cs q => ?_, fun l m cs ds e1 e2 => ?_, fun l k q' q => ?_, fun l m k k' ks1 ls1 p1 e1 e2 e3 e4 => ?_⟩⟩
  · obtain ⟨ne, e⟩ := stay e fun _ _ z => nomatch z
    obtain ⟨w, h1, h2⟩ := r2.dat j y e
    exact ⟨w, by rw [List.getElem?_set_ne ne]; exact h1, h2⟩
  · obtain ⟨ne, e⟩ := stay e fun _ _ z => nomatch z
    obtain ⟨q, us, h1, h2⟩ := r2.own j ys e
    exact ⟨q, us, by rw [List.getElem?_set_ne ne]; exact h1, h2⟩
  · obtain ⟨n1, e1⟩ := stay e1 fun _ _ z => nomatch z
    obtain ⟨n2, e2⟩ := stay e2 fun _ _ z => nomatch z
    rw [List.getElem?_set_ne n1] at e3
    rw [List.getElem?_set_ne n2] at e4
    exact r.sep j l as bs q e1 e2 e3 e4
  · obtain ⟨z1, z2, z3, z4⟩ := r2.pin q hq
    refine ⟨z1, z2, z3, fun j ys e => ?_, fun l cs e => z4.c l cs (stay e fun _ _ z => nomatch z).2⟩
    obtain ⟨ne, e⟩ := stay e fun _ _ z => nomatch z
    rw [List.getElem?_set_ne ne]
    exact z4.o j ys e
  · obtain ⟨ne, q⟩ := stay q fun _ _ z => nomatch z
    obtain ⟨dx, us', z1, z2⟩ := x2.obj l p1 C' fs' q
    exact ⟨dx, us', by rw [List.getElem?_set_ne ne]; exact z1, z2⟩
  · exact x2.ob1 l m p1 p2 C1 C2 f1 f2 (stay e1 fun _ _ z => nomatch z).2 (stay e2 fun _ _ z => nomatch z).2
  · obtain ⟨ne, q⟩ := stay q fun _ _ z => nomatch z
    obtain ⟨h1, h3, h4, h5, h6⟩ := x2.cel l cs q s hs
    refine ⟨h1, h3, h4, h5, fun j ys e => ?_⟩
    obtain ⟨ne2, e⟩ := stay e fun _ _ z => nomatch z
    rw [List.getElem?_set_ne ne2]
    exact h6 j ys e
  · exact x2.cnd l cs (stay q fun _ _ z => nomatch z).2
  · exact x2.ce1 l m cs ds (stay e1 fun _ _ z => nomatch z).2 (stay e2 fun _ _ z => nomatch z).2
  · rcases get_set q with ⟨rfl, q, hl⟩ | ⟨ne, q⟩
    · cases q
      rw [r.len] at hl
      exact ⟨p, us, List.getElem?_set_self hl, upd_same, hm, r.keep.dm p (Nt.of hp), en, er⟩
    · obtain ⟨p0, ws, z1, z2⟩ := x2.dct l k q' q
      exact ⟨p0, ws, by rw [List.getElem?_set_ne ne]; exact z1, z2⟩
  · rcases get_set e1 with ⟨rfl, f1, hl⟩ | ⟨n1, f1⟩
    · rcases get_set e2 with ⟨rfl, f2, _⟩ | ⟨n2, f2⟩
      · rfl
      · rw [r.len] at hl
        rw [List.getElem?_set_self hl] at e3
        cases e3
        rw [List.getElem?_set_ne n2] at e4
        exact absurd e4 (fresh f2)
    · rcases get_set e2 with ⟨rfl, f2, hl⟩ | ⟨n2, f2⟩
      · rw [r.len] at hl
        rw [List.getElem?_set_self hl] at e4
        cases e4
        rw [List.getElem?_set_ne n1] at e3
        exact absurd e3 (fresh f1)
      · rw [List.getElem?_set_ne n1] at e3
        rw [List.getElem?_set_ne n2] at e4
        exact r.ext.dc1 l m k k' ks1 ls1 p1 f1 f2 e3 e4
end
end Pd

namespace Pd
open PySem PySem.Spec PyProof.Rows L2 LamX
/-! ### d[k], d[k] = e, d.pop(k), d a dict that is one name's alone, k an int -/
def dctIs (env : PEnv) (i : Nat) (P : List (Key × D) → Prop) : Prop := match gt env i with
  | some (.dct none (.s ks)) => P ks
  | _ => False
theorem dctIs_inv {env : PEnv} {i : Nat} {P : List (Key × D) → Prop} (h : dctIs env i P) : ∃ ks, gt env i = some (.dct none (.s ks)) ∧ P ks := by
  unfold dctIs at h
  split at h
  · rename_i ks e
    exact ⟨ks, e, h⟩
  · exact h.elim
theorem dct_s {K : PySem.W.Frag} {wd : Wd} {c : Ctx} {σ : L2.St} {H : Hp} {i : Nat} {lk : Option Obj} {ks : List (Key × D)} (h : ∃ (p : Addr) (vs : DK V), σ[i]? = some (some (V.ref p)) ∧ H p = some (lkO lk vs.cell) ∧ wd.M p = none ∧ Nt c.H p ∧ vs.same (.s ks) ∧ Reps K wd vs.vals (DK.vals (.s ks))) :
    ∃ (p : Addr) (vs : List (Key × V)), σ[i]? = some (some (V.ref p)) ∧ H p = some (lkO lk (.dK vs)) ∧ wd.M p = none ∧ Nt c.H p ∧ vs.map (·.1) = ks.map (·.1) ∧ Reps K wd (vs.map (·.2)) (ks.map (·.2)) := by
  obtain ⟨p, vs, h1, h2, h3, h4, h5, h6⟩ := h
  cases vs with
  | s vs => exact ⟨p, vs, h1, h2, h3, h4, h5, h6⟩
  | t vs => exact h5.elim
theorem dct_t {K : PySem.W.Frag} {wd : Wd} {c : Ctx} {σ : L2.St} {H : Hp} {i : Nat} {lk : Option Obj} {ks : List (List Key × D)} (h : ∃ (p : Addr) (vs : DK V), σ[i]? = some (some (V.ref p)) ∧ H p = some (lkO lk vs.cell) ∧ wd.M p = none ∧ Nt c.H p ∧ vs.same (.t ks) ∧ Reps K wd vs.vals (DK.vals (.t ks))) :
    ∃ (p : Addr) (vs : List (List Key × V)), σ[i]? = some (some (V.ref p)) ∧ H p = some (lkO lk (.dT vs)) ∧ wd.M p = none ∧ Nt c.H p ∧ vs.map (·.1) = ks.map (·.1) ∧ Reps K wd (vs.map (·.2)) (ks.map (·.2)) := by
  obtain ⟨p, vs, h1, h2, h3, h4, h5, h6⟩ := h
  cases vs with
  | s vs => exact h5.elim
  | t vs => exact ⟨p, vs, h1, h2, h3, h4, h5, h6⟩
def putD (ks : List (Key × D)) (k : Key) (d : D) : List (Key × D) := if (ks.any fun kv => decide (kv.1 = k)) = true then ks.map (fun kv => if kv.1 = k then (kv.1, d) else kv) else ks ++ [(k, d)]
def dropD (ks : List (Key × D)) (k : Key) : List (Key × D) := ks.filter fun kv => decide (kv.1 ≠ k)
section
variable {K : PySem.W.Frag} {wd : Wd}
theorem any_keys {k : Key} : ∀ {vs : List (Key × V)} {ds : List (Key × D)}, vs.map (·.1) = ds.map (·.1) → (vs.any fun kv => decide (kv.1 = k)) = ds.any fun kv => decide (kv.1 = k)
  | [], [], _ => rfl
  | [], _ :: _, e => by simp at e
  | _ :: _, [], e => by simp at e
  | (a, v) :: vs, (b, d) :: ds, e => by
    rw [List.map_cons, List.map_cons] at e
    obtain ⟨e1, e2⟩ := List.cons.inj e
    have e1 : a = b := e1
    rw [List.any_cons, List.any_cons, any_keys e2]
    show (decide (a = k) || _) = (decide (b = k) || _)
    rw [e1]
theorem put_map {k : Key} {v : V} {d : D} (rv : Rep K wd v d) : ∀ {vs : List (Key × V)} {ds : List (Key × D)}, vs.map (·.1) = ds.map (·.1) → Reps K wd (vs.map (·.2)) (ds.map (·.2)) →
    (vs.map fun kv => if kv.1 = k then (kv.1, v) else kv).map (·.1) = (ds.map fun kv => if kv.1 = k then (kv.1, d) else kv).map (·.1) ∧ Reps K wd ((vs.map fun kv => if kv.1 = k then (kv.1, v) else kv).map (·.2)) ((ds.map fun kv => if kv.1 = k then (kv.1, d) else kv).map (·.2))
  | [], [], _, _ => ⟨rfl, .nil⟩
  | [], _ :: _, e, _ => by simp at e
  | _ :: _, [], e, _ => by simp at e
  | (a, x) :: vs, (b, y) :: ds, e, r => by
    rw [List.map_cons, List.map_cons] at e
    obtain ⟨e1, e2⟩ := List.cons.inj e
    have e1 : a = b := e1
    cases r with
    | cons r1 r2 =>
      obtain ⟨i1, i2⟩ := put_map rv e2 r2
      subst e1
      by_cases h : a = k
      · simp only [List.map_cons, h, if_true]
        exact ⟨by rw [i1], .cons rv i2⟩
      · simp only [List.map_cons, h, if_false]
        exact ⟨by rw [i1], .cons r1 i2⟩
theorem Reps.snoc {vs : List V} {ds : List D} {v : V} {d : D} (h : Reps K wd vs ds) (r : Rep K wd v d) : Reps K wd (vs ++ [v]) (ds ++ [d]) := h.append (.cons r .nil)
theorem put_reps {k : Key} {v : V} {d : D} (rv : Rep K wd v d) {vs : List (Key × V)} {ds : List (Key × D)} (e : vs.map (·.1) = ds.map (·.1)) (r : Reps K wd (vs.map (·.2)) (ds.map (·.2))) :
    (putK vs k v).map (·.1) = (putD ds k d).map (·.1) ∧ Reps K wd ((putK vs k v).map (·.2)) ((putD ds k d).map (·.2)) := by
  unfold putK putD
  rw [any_keys e]
  split
  · exact put_map rv e r
  · rw [List.map_append, List.map_append, List.map_append, List.map_append, e]
    exact ⟨rfl, r.snoc rv⟩
theorem drop_reps {k : Key} : ∀ {vs : List (Key × V)} {ds : List (Key × D)}, vs.map (·.1) = ds.map (·.1) → Reps K wd (vs.map (·.2)) (ds.map (·.2)) → (dropK vs k).map (·.1) = (dropD ds k).map (·.1) ∧ Reps K wd ((dropK vs k).map (·.2)) ((dropD ds k).map (·.2))
  | [], [], _, _ => ⟨rfl, .nil⟩
  | [], _ :: _, e, _ => by simp at e
  | _ :: _, [], e, _ => by simp at e
  | (a, x) :: vs, (b, y) :: ds, e, r => by
    rw [List.map_cons, List.map_cons] at e
    obtain ⟨e1, e2⟩ := List.cons.inj e
    have e1 : a = b := e1
    cases r with
    | cons r1 r2 =>
      obtain ⟨i1, i2⟩ := drop_reps (k := k) e2 r2
      subst e1
      unfold dropK dropD at i1 i2 ⊢
      by_cases h : a = k
      · rw [List.filter_cons_of_neg (by simp [h]), List.filter_cons_of_neg (by simp [h])]
        exact ⟨i1, i2⟩
      · rw [List.filter_cons_of_pos (by simp [h]), List.filter_cons_of_pos (by simp [h])]
        exact ⟨by rw [List.map_cons, List.map_cons, i1], .cons r1 i2⟩
end
section
variable {X : Cx} {T : List (Addr × Str)} {E : XK} {k : Nat} {x : Str} {y e : Expr} {p1 p2 pos apos : Pos}
theorem sized_dK (us : List (Key × V)) : Sized (lkO none (.dK us)) := trivial
def wDctGet (i : Nat) (b : W D) : W D := fun env Q ex => dctIs env i fun _ => b env (fun y env1 => dctIs env1 i fun ks => match y with
  | .int n => ∃ z, lookD ks (Sum.inl n) = some z ∧ Q z env1
  | _ => False) ex
theorem je_dctGet (i : Nat) {b : W D} (B : Bd X E k) (hb : JE T X E y b) (hs : NoSl y) (hN : X.N[i]? = some x := by rfl) (hv : Vis X.env.scope x := by first | exact Or.inl rfl | exact Or.inr (Or.inl rfl) | exact Or.inr (Or.inr rfl)) (hd : (x == ("__debug__" : Str)) = false := by decide)
    (hcd : (x == ("__classdict__" : Str)) = false := by decide) : JE T X E (.Subscript (.Name x p1) y pos) (wDctGet i b) :=
  peI (pe_dget (by have := B.room.un; omega) (pe_var hN hv hd hcd) hb hs) fun σ H Q ⟨c, wd, env, P, Ex, rl, h, xo, kk⟩ => by
    obtain ⟨ks0, e0, h⟩ := dctIs_inv h
    obtain ⟨p0, vs0, z0, _⟩ := rl.ext.dct i none (.s ks0) (gt_eq _ _ e0)
    refine ⟨.ref p0, z0, c, wd, env, _, Ex, rl, h, xo, fun y1 env1 h1 u wd1 H1 le1 r1 rp1 => ?_⟩
    obtain ⟨ks, e1, h2⟩ := dctIs_inv h1
    obtain ⟨p, vs, z1, z2, z3, z4, z5, z6⟩ := dct_s (r1.ext.dct i none (.s ks) (gt_eq _ _ e1))
    rw [z0] at z1
    cases z1
    split at h2
    · rename_i n
      obtain ⟨z, e2, h3⟩ := h2
      cases rp1
      obtain ⟨v, e3, rv⟩ := look_reps z5 z6 z e2
      exact ⟨p0, v, rfl, .inl ⟨vs, Sum.inl n, .inl z2, rfl, e3.symm⟩, kk z env1 h3 v wd1 H1 le1 r1 rv⟩
    · exact h2.elim
def wDctPop (i : Nat) (b : W D) : W D := fun env Q ex => dctIs env i fun _ => b env (fun y env1 => dctIs env1 i fun ks => match y with
  | .int n => ∃ z, lookD ks (Sum.inl n) = some z ∧ Q z (env1.set i (some (.dct none (.s (dropD ks (Sum.inl n))))))
  | _ => False) ex
theorem drop_len {vs : List (Key × V)} {k : Key} : (dropK vs k).length ≤ vs.length := List.length_filter_le _ _
theorem je_dctPop (i : Nat) {b : W D} (hb : JE T X E y b) (m : M1 X (.Name x p1) "pop" apos y pos) (hN : X.N[i]? = some x := by rfl) (hv : Vis X.env.scope x := by first | exact Or.inl rfl | exact Or.inr (Or.inl rfl) | exact Or.inr (Or.inr rfl)) (hd : (x == ("__debug__" : Str)) = false := by decide)
    (hcd : (x == ("__classdict__" : Str)) = false := by decide) : JE T X E (.Call (.Attribute (.Name x p1) "pop" apos) [y] [] pos) (wDctPop i b) :=
  peI (pe_dpop1 (pe_var hN hv hd hcd) hb m) fun σ H Q ⟨c, wd, env, P, Ex, rl, h, xo, kk⟩ => by
    obtain ⟨ks0, e0, h⟩ := dctIs_inv h
    obtain ⟨p0, vs0, z0, zh, _⟩ := dct_s (rl.ext.dct i none (.s ks0) (gt_eq _ _ e0))
    refine ⟨.ref p0, z0, p0, rfl, .inl ⟨vs0, .inl zh⟩, c, wd, env, _, Ex, rl, h, xo, fun y1 env1 h1 u wd1 H1 le1 r1 rp1 => ?_⟩
    obtain ⟨ks, e1, h2⟩ := dctIs_inv h1
    obtain ⟨p, vs, z1, z2, z3, z4, z5, z6⟩ := dct_s (r1.ext.dct i none (.s ks) (gt_eq _ _ e1))
    rw [z0] at z1
    cases z1
    split at h2
    · rename_i n
      obtain ⟨z, e2, h3⟩ := h2
      cases rp1
      obtain ⟨v, e3, rv⟩ := look_reps z5 z6 z e2
      obtain ⟨d1, d2⟩ := drop_reps (k := Sum.inl n) z5 z6
      exact ⟨vs, Sum.inl n, v, z2, rfl, e3, kk z _ h3 v wd1 _ le1 (r1.putDct (us := .s _) (ls := .s _) (lk2 := none) (gt_eq _ _ e1) z0 d1 d2 (sized_dK _)) rv⟩
    · exact h2.elim
def sDctPut (i : Nat) (iw ew : W D) : WS := fun pe env => ew env (fun v env1 => dctIs env1 i fun _ => iw env1 (fun n env2 => dctIs env2 i fun ks => match n with
  | .int n => ks.length < 1000000 ∧ pe.nx (env2.set i (some (.dct none (.s (putD ks (Sum.inl n) v)))))
  | _ => False) pe.ex) pe.ex
theorem js_dctPut (i : Nat) {iw ew : W D} (B : Bd X E k) (hi : JE T X E y iw) (he : JE T X E e ew) (hN : X.N[i]? = some x := by rfl) (hv : Vis X.env.scope x := by first | exact Or.inl rfl | exact Or.inr (Or.inl rfl) | exact Or.inr (Or.inr rfl)) (hd : (x == ("__debug__" : Str)) = false := by decide)
    (hcd : (x == ("__classdict__" : Str)) = false := by decide) (hs : swapsWithSole [.Subscript (.Name x p1) y p2] e pos.line X.env = pure false := by rfl) (hw : swappedStores [.Subscript (.Name x p1) y p2] e X.env = pure none := by rfl)
    (h1 : (assignEach [.Subscript (.Name x p1) y p2] X.env).map (·.2) = [assign (.Subscript (.Name x p1) y p2) X.env] := by rfl)
    (hasg : ∀ v, assign (.Subscript (.Name x p1) y p2) X.env v = (do
      let ov ← holding [v] (eval (.Name x p1) X.env)
      let iv ← holding [v, ov] (eval y X.env)
      standAt p2
      holding [v, ov, iv] (setItem ov iv v)
      release [v, ov, iv] []) := by intro _; rfl) : JS T X E (.Assign [.Subscript (.Name x p1) y p2] e pos) (sDctPut i iw ew) :=
  psI (ps_asg he (pg_sub (pe_var hN hv hd hcd) hi (set_dict (by have := B.room.un; omega)) hasg) hs hw h1) fun D σ H ⟨c, wd, env, pe, rl, h, o⟩ => by
    refine ⟨c, wd, env, _, _, rl, h, o.ex, fun v env1 h1 u wd1 H1 le1 r1 rp1 => ?_⟩
    obtain ⟨ks0, e0, h1⟩ := dctIs_inv h1
    obtain ⟨p0, vs0, z0, _⟩ := r1.ext.dct i none (.s ks0) (gt_eq _ _ e0)
    refine ⟨.ref p0, z0, c, wd1, env1, _, _, r1, h1, o.ex, fun n env2 h2 w wd2 H2 le2 r2 rp2 => ?_⟩
    obtain ⟨ks, e1, h3⟩ := dctIs_inv h2
    obtain ⟨p, vs, z1, z2, z3, z4, z5, z6⟩ := dct_s (r2.ext.dct i none (.s ks) (gt_eq _ _ e1))
    rw [z0] at z1
    cases z1
    split at h3
    · rename_i n
      obtain ⟨hl, h3⟩ := h3
      cases rp2
      have len : vs.length = ks.length := by
        have := congrArg List.length z5
        rwa [List.length_map, List.length_map] at this
      obtain ⟨d1, d2⟩ := put_reps (k := Sum.inl n) (Rep.mono le2 rp1) z5 z6
      have ln : (putK vs (Sum.inl n) u).length ≤ sizeLine := by
        have : (putK vs (Sum.inl n) u).length ≤ vs.length + 1 := by
          unfold putK
          split
          · rw [List.length_map]
            omega
          · rw [List.length_append]
            exact Nat.le_refl _
        exact Nat.le_trans this (sz6 (by omega))
      refine ⟨p0, _, rfl, .inl ⟨vs, Sum.inl n, z2, rfl, ?_, rfl⟩, o.nx _ h3 _ wd2 _ (le1.trans le2) (r2.putDct (us := .s _) (ls := .s _) (lk2 := none) (gt_eq _ _ e1) z0 d1 d2 (sized_dK _))⟩
      exact Nat.lt_of_lt_of_le (show vs.length < 1000000 by omega) (sz6 (Nat.le_refl _))
    · exact h3.elim
end
end Pd

namespace Pd
open PySem PySem.Spec PyProof.Rows L2 LamX
/-! ### d = {k: v for ..} -/
section
variable {J : It} {n : Nat} {G : Hp → Prop} {Y : Nat → Hp → V → Hp → Prop}
/-- a new dict filled on a walk: what holds ahead of each turn -/
theorem dct_walk (w : Walk J n G Y) {g : TG} {tt : TT} {tk tv : TE} {vs : List Nat} {σ : L2.St} {H1 : Hp} {Dl : Addr} {Fin : Hp → Prop} (At : Nat → Hp → Prop) (first : At 0 (upd H1 Dl (.dK []))) (there : ∀ i H, i ≤ n → At i H → G H)
    (turn : ∀ i x H H', i < n → At i H → Y i H x H' → g x (L2.wipe σ vs) H' fun σ2 H2 => L2.wipe σ2 vs = L2.wipe σ vs ∧ tt σ2 H2 fun b H3 =>
      if b = true then tk σ2 H3 fun y H4 => tv σ2 H4 fun z H5 => ∃ kvs k, y = kV k ∧ H5 Dl = some (.dK kvs) ∧ kvs.length < sizeLine ∧ At (i + 1) (upd H5 Dl (.dK (putK kvs k z))) else At (i + 1) H3) (last : ∀ H, At n H → Fin H) :
    ∃ W : Nat → Nat → Hp → Prop, (∃ m, W 0 m (upd H1 Dl (.dK []))) ∧ ∀ i m H, W i m H →
      (J.stop i H ∧ Fin H) ∨ (J.go i H ∧ ∃ Nx : Hp → Prop, (∀ H', Nx H' → ∃ m', m' < m ∧ W (i + 1) m' H') ∧ ∀ x H', J.yld i H x H' → g x (L2.wipe σ vs) H' fun σ2 H2 => L2.wipe σ2 vs = L2.wipe σ vs ∧ tt σ2 H2 fun b H3 =>
        if b = true then tk σ2 H3 fun y H4 => tv σ2 H4 fun z H5 => ∃ kvs k, y = kV k ∧ H5 Dl = some (.dK kvs) ∧ kvs.length < sizeLine ∧ Nx (upd H5 Dl (.dK (putK kvs k z))) else Nx H3) := by
  let Inw : Nat → Nat → Hp → Prop := fun i m H => i + m = n ∧ At i H
  have start : Inw 0 n (upd H1 Dl (.dK [])) := ⟨Nat.zero_add n, first⟩
  refine ⟨Inw, ⟨n, start⟩, ?_⟩
  intro i m H h
  obtain ⟨im, p⟩ := h
  have q := there i H (by omega) p
  cases m with
  | zero =>
    obtain rfl : i = n := by omega
    exact Or.inl ⟨w.stops H q, last H p⟩
  | succ m =>
    have hi : i < n := by omega
    refine Or.inr ⟨w.goes i H hi q, fun H' => At (i + 1) H', fun H' a => ⟨m, Nat.lt_succ_self m, by omega, a⟩, ?_⟩
    intro x H' y
    exact turn i x H H' hi p (w.yields i H x H' hi q y)
end
section
variable {K : PySem.W.Frag} {T : List (Addr × Str)} {c : Ctx} {wd wd' : Wd} {env env' : PEnv} {σ σ' : L2.St} {H H' : Hp}
/-- a dict that nothing knows becomes one name's alone -/
theorem Rel.setDct (r2 : Rel K T c wd env σ H) {i : Nat} {p : Addr} {us : DK V} {ls : DK D} (hp : H p = some us.cell) (hm : wd.M p = none) (hn : Nt c.H p) (fresh : ∀ (j : Nat) (lk : Option Obj) (ks : DK D), env[j]? = some (some (.dct lk ks)) → σ[j]? ≠ some (some (.ref p)))
    (en : us.same ls) (er : Reps K wd us.vals ls.vals) : Rel K T c wd (env.set i (some (.dct none ls))) (σ.set i (some (.ref p))) H := by
  have stay : ∀ {l : Nat} {s : Sl}, (env.set i (some (.dct none ls)))[l]? = some (some s) → (∀ k q, s ≠ .dct k q) → i ≠ l ∧ env[l]? = some (some s) := fun {l s} q n => by
    rcases get_set q with ⟨rfl, q, _⟩ | ⟨ne, q⟩
    · cases q
      exact absurd rfl (n _ _)
    · exact ⟨ne, q⟩
  have x2 := r2.ext
  refine ⟨r2.ord, r2.good, r2.keep, by simp [r2.len], fun j y e => ?_, fun j ys e => ?_, fun j l as bs q e1 e2 e3 e4 => ?_, fun q hq => ?_, ⟨fun l p1 C' fs' q => ?_, fun l m p1 p2 C1 C2 f1 f2 e1 e2 => ?_, fun l cs q s hs => ?_, fun l cs q => ?_, fun l m cs ds e1 e2 => ?_, fun l k q' q => ?_, fun l m k k' ks1 ls1 p1 e1 e2 e3 e4 => ?_⟩⟩
  · obtain ⟨ne, e⟩ := stay e fun _ _ z => nomatch z
    obtain ⟨w, h1, h2⟩ := r2.dat j y e
    exact ⟨w, by rw [List.getElem?_set_ne ne]; exact h1, h2⟩
  · obtain ⟨ne, e⟩ := stay e fun _ _ z => nomatch z
    obtain ⟨q, us, h1, h2⟩ := r2.own j ys e
    exact ⟨q, us, by rw [List.getElem?_set_ne ne]; exact h1, h2⟩
  · obtain ⟨n1, e1⟩ := stay e1 fun _ _ z => nomatch z
    obtain ⟨n2, e2⟩ := stay e2 fun _ _ z => nomatch z
    rw [List.getElem?_set_ne n1] at e3
    rw [List.getElem?_set_ne n2] at e4
    exact r2.sep j l as bs q e1 e2 e3 e4
  · obtain ⟨z1, z2, z3, z4⟩ := r2.pin q hq
    refine ⟨z1, z2, z3, fun j ys e => ?_, fun l cs e => z4.c l cs (stay e fun _ _ z => nomatch z).2⟩
    obtain ⟨ne, e⟩ := stay e fun _ _ z => nomatch z
    rw [List.getElem?_set_ne ne]
    exact z4.o j ys e
  · obtain ⟨ne, q⟩ := stay q fun _ _ z => nomatch z
    obtain ⟨dx, us', z1, z2⟩ := x2.obj l p1 C' fs' q
    exact ⟨dx, us', by rw [List.getElem?_set_ne ne]; exact z1, z2⟩
  · exact x2.ob1 l m p1 p2 C1 C2 f1 f2 (stay e1 fun _ _ z => nomatch z).2 (stay e2 fun _ _ z => nomatch z).2
  · obtain ⟨ne, q⟩ := stay q fun _ _ z => nomatch z
    obtain ⟨h1, h3, h4, h5, h6⟩ := x2.cel l cs q s hs
    refine ⟨h1, h3, h4, h5, fun j ys e => ?_⟩
    obtain ⟨ne2, e⟩ := stay e fun _ _ z => nomatch z
    rw [List.getElem?_set_ne ne2]
    exact h6 j ys e
  · exact x2.cnd l cs (stay q fun _ _ z => nomatch z).2
  · exact x2.ce1 l m cs ds (stay e1 fun _ _ z => nomatch z).2 (stay e2 fun _ _ z => nomatch z).2
  · rcases get_set q with ⟨rfl, q, hl⟩ | ⟨ne, q⟩
    · cases q
      rw [r2.len] at hl
      exact ⟨p, us, List.getElem?_set_self hl, hp, hm, hn, en, er⟩
    · obtain ⟨p0, ws, z1, z2⟩ := x2.dct l k q' q
      exact ⟨p0, ws, by rw [List.getElem?_set_ne ne]; exact z1, z2⟩
  · rcases get_set e1 with ⟨rfl, f1, hl⟩ | ⟨n1, f1⟩
    · rcases get_set e2 with ⟨rfl, f2, _⟩ | ⟨n2, f2⟩
      · rfl
      · rw [r2.len] at hl
        rw [List.getElem?_set_self hl] at e3
        cases e3
        rw [List.getElem?_set_ne n2] at e4
        exact absurd e4 (fresh _ _ _ f2)
    · rcases get_set e2 with ⟨rfl, f2, hl⟩ | ⟨n2, f2⟩
      · rw [r2.len] at hl
        rw [List.getElem?_set_self hl] at e4
        cases e4
        rw [List.getElem?_set_ne n1] at e3
        exact absurd e3 (fresh _ _ _ f1)
      · rw [List.getElem?_set_ne n1] at e3
        rw [List.getElem?_set_ne n2] at e4
        exact x2.dc1 l m k k' ks1 ls1 p1 f1 f2 e3 e4
end
end Pd

namespace Pd
open PySem PySem.Spec PyProof.Rows L2 LamX
section
variable {X : Cx} {T : List (Addr × Str)} {E : XK} {k : Nat} {tg kx vx iter : Expr} {ifs : List Expr} {scope : Scope} {pos spos py : Pos}
/-- a dict's comprehension put under a local name at once -/
theorem ps_setDc {i : Nat} {y : Str} {own : List (Str × Nat)} {wi : TI} {g : TG} {tt : TT} {tk tv : TE} (hc : X.calm = true) (nd : X.N.Nodup) (hN : X.N[i]? = some y) (loc : X.env.scope.names.lookup y = some .local)
    (used : swapsWith (.DictComp kx vx [⟨tg, iter, ifs, 0⟩] scope pos) (some (.Name y py)) spos.line X.env = pure true) (hi : PI X tg iter wi) (ok : BlkOk X.N X.env.scope scope own)
    (hg : ∀ (s : Shared) (H : Hp) (C : Addr) (cl : List (Str × Addr)) (fp : List Addr), PG (X.blk s H scope (compEnvC scope cl C X.env) fp) tg g) (ht : ∀ (s : Shared) (H : Hp) (C : Addr) (cl : List (Str × Addr)) (fp : List Addr), PTs (X.blk s H scope (compEnvC scope cl C X.env) fp) ifs tt)
    (hk : ∀ (s : Shared) (H : Hp) (C : Addr) (cl : List (Str × Addr)) (fp : List Addr), PE (X.blk s H scope (compEnvC scope cl C X.env) fp) kx tk) (hv : ∀ (s : Shared) (H : Hp) (C : Addr) (cl : List (Str × Addr)) (fp : List Addr), PE (X.blk s H scope (compEnvC scope cl C X.env) fp) vx tv)
    (hs : ∀ x, foldedSetIterable iter X.env x = pure x) : PS X (.Assign [.Name y py] (.DictComp kx vx [⟨tg, iter, ifs, 0⟩] scope pos) spos) (tAsg (tDc wi g tt tk tv (own.map (·.2))) (gName i)) := by
  constructor
  intro pins s σ H D I h
  have told : tDc wi g tt tk tv (own.map (·.2)) σ H (fun x H1 => gName i x σ H1 D.nx) := h
  have made := dc_core (pos := pos) (use := some (assign (.Name y py) X.env)) (pos' := firstIterPos [⟨tg, iter, ifs, 0⟩] pos) (Qf := fun _ s' => SP X pins D .next s') hc nd I hi ok hg ht hk hv hs told (by
    intro Dl C s' m H' I' q hn f
    obtain ⟨f0, f1, f2, f3, f4, f5⟩ := f
    apply wpAny_assign_Name
    apply store_ok2 (v := V.ref Dl) I' nd hN (.inl loc) rfl _ (.inr loc)
    rintro s2 I2 ⟨a, sb, ha⟩
    have ne : C ≠ a := by
      rcases ha with z | z
      · exact z ▸ f1
      · exact fun e => f4 y a z e.symm
    exact ⟨m, hn.sameBut sb ne, fun h3 sb3 => ⟨_, H', I2.turned (t' := s2.toks) (fun b o hb e => (sb3.2 b hb).trans e) f0 f1 f3 f4 f5, q⟩⟩)
  rw [exec_Assign_Name_used _ _ _ _ used]
  apply wpAny_bind
  apply wpAny_standAt
  apply wpAny_bind
  apply wpAny_bind
  exact thn made fun _ s' hq => wpAny_pure (wpAny_pure hq)
/-! the dict that is told -/
/-- the turns: each sees plain data alone, ahead of it what was there before -/
def dcW (g : WG) (wk wv : W D) (vs : List Nat) (Q : List (Key × D) → Prop) (env0 : PEnv) : List D → List (Key × D) → Prop
  | [], acc => Q acc
  | x :: xs, acc => g x (wipeE env0 vs) fun env2 => wk env2 (fun y env3 => wv env3 (fun z _ => match y with
    | .int n => dcW g wk wv vs Q env0 xs (putD acc (Sum.inl n) z)
    | _ => False) fun _ => False) fun _ => False
def wDc (w : W (List D)) (g : WG) (wk wv : W D) (vs : List Nat) : W (List (Key × D)) := fun env Q ex => w env (fun xs env1 => dcW g wk wv vs (fun acc => Q acc env1) (dOnly env1) xs []) ex
def sSetDct (i : Nat) (e : W (List (Key × D))) : WS := fun pe env => e env (fun ks env' => pe.nx (env'.set i (some (.dct none (.s ks))))) pe.ex
theorem Good.chg {wd : Wd} {H : Hp} (g : Good T wd H) {p : Addr} {us vs : List (Key × V)} (h : H p = some (.dK us)) (hm : wd.M p = none) : Good T wd (upd H p (.dK vs)) := by
  refine ⟨fun a o q => ?_, g.ntb, fun b hb => ?_, fun q hq => ?_, siz_upd g.siz trivial⟩
  · rw [upd_ne (fun z => by rw [z, hm] at q; cases q)]
    exact g.sub a o q
  · obtain ⟨z1, e, s, c', z2, z3⟩ := g.box b hb
    exact ⟨z1, e, s, c', by rw [upd_ne (fun z => by rw [z, h] at z2; cases z2)]; exact z2, z3⟩
  · obtain ⟨ps, z1, z2, z3⟩ := g.tab q hq
    refine ⟨ps, ?_, z2, fun pos cv hc => ?_⟩
    · rw [upd_ne (fun z => by rw [z, h] at z1; cases z1)]
      exact z1
    · obtain ⟨a, y1, y2⟩ := z3 pos cv hc
      refine ⟨a, y1, ?_⟩
      rw [upd_ne (fun z => by rw [z, h] at y2; cases y2)]
      exact y2
theorem Keep.chg {wd : Wd} {H1 H : Hp} (k : Keep wd H1 H) {p : Addr} {o : HO} (h : H1 p = none) : Keep wd H1 (upd H p o) := by
  refine ⟨fun a u q n t => ?_, fun a q => ?_⟩
  · rw [upd_ne (fun z => by rw [z, h] at q; cases q)]
    exact k.st a u q n t
  · by_cases ha : a = p
    · subst ha
      exact Nt.of h
    · exact k.dm a (q.upd ha)
theorem dc_lift {w : W (List D)} {g : WG} {wk wv : W D} {vs : List Nat} {i0 : Nat} {σ : L2.St} {H : Hp} {Q : VK}
    (h : ∃ (c : Ctx) (wd : Wd) (env : PEnv) (P : List (Key × D) → PEnv → Prop) (Ex : Xc → Prop), Rel X.K T c wd env σ H ∧ wDc w g wk wv vs env P Ex ∧ XOk X.K T c E Ex ∧
      ∀ ks env', P ks env' → ∀ (Dl : Addr) (wd' : Wd) (H' : Hp), Le wd wd' → Rel X.K T c wd' (env'.set i0 (some (.dct none (.s ks)))) (σ.set i0 (some (.ref Dl))) H' → Q (.ref Dl) H') :
    tDc (liftI X.K T E w) (liftG X.K T vs g) (lift X.K T rT E0 (W.ret true)) (lift X.K T (rE X.K) E0 wk) (lift X.K T (rE X.K) E0 wv) vs σ H Q := by
  obtain ⟨c, wd, env, P, Ex, r, h, xo, kk⟩ := h
  refine ⟨c, wd, env, _, Ex, r, h, xo, fun xs env1 h1 J wd1 H1 le1 r1 walk hz Dl hD => ?_⟩
  have hn : Nt c.H Dl := r1.keep.dm Dl (Nt.of hD)
  refine dct_walk walk (fun i H' => ∃ (wd' : Wd) (us : List (Key × V)) (acc : List (Key × D)), Ord wd1 wd' H1 ∧ Good T wd' H' ∧ Keep wd1 H1 H' ∧ H' Dl = some (.dK us) ∧ wd'.M Dl = none ∧ us.map (·.1) = acc.map (·.1) ∧ Reps X.K wd' (us.map (·.2)) (acc.map (·.2)) ∧ us.length ≤ i ∧
      dcW g wk wv vs (fun acc => P acc env1) (dOnly env1) (xs.drop i) acc)
    ⟨wd1, [], [], Ord.refl _ _, r1.good.new hD trivial, Keep.add hD, upd_same, r1.good.mnone hD, rfl, .nil, Nat.le_refl _, h1⟩ (fun i H' hi ⟨wd', us, acc, o, gd, _⟩ => o.le.m.trans gd.sub) ?_ ?_
  · rintro i x H2 H3 hl ⟨wd', us, acc, o, gd, kp, hDl, hm, en, er, hlen, f⟩ ⟨d, ed, y⟩
    have rel0 := ((r1.go o gd kp).rebase).wipe vs
    obtain ⟨wd2, le2, r2, rp⟩ := rel0.item o.le y
    have e : xs.drop i = d :: xs.drop (i + 1) := by
      obtain ⟨hi, e'⟩ := List.getElem?_eq_some_iff.mp ed
      rw [List.drop_eq_getElem_cons hi, e']
    rw [e] at f
    have hb : Dl ∉ wd'.B := gd.dctB (lk := none) (kvs := .s _) hDl
    refine ⟨_, wd2, _, d, _, r2, rp, f, fun env2 f2 σ2 r3 ew => ?_⟩
    refine ⟨ew.trans (wipe_wipe fun _ h => h), ?_⟩
    refine ⟨_, wd2, env2, fun b env3 => b = true ∧ wk env3 (fun y env4 => wv env4 (fun z _ => match y with
      | .int n => dcW g wk wv vs (fun acc => P acc env1) (dOnly env1) (xs.drop (i + 1)) (putD acc (Sum.inl n) z)
      | _ => False) fun _ => False) fun _ => False, fun _ => False, r3, ⟨rfl, f2⟩, xok0, fun b env3 f3 bb wd3 H4 le3 r4 eb => ?_⟩
    obtain rfl : bb = b := eb
    obtain ⟨rfl, f3⟩ := f3
    rw [if_pos rfl]
    refine ⟨_, wd3, env3, _, _, r4, f3, xok0, fun y1 env4 f4 yv wd4 H5 le4 r5 rp5 => ?_⟩
    refine ⟨_, wd4, env4, _, _, r5, f4, xok0, fun z1 env5 f5 zv wd5 H6 le5 r6 rp6 => ?_⟩
    split at f5
    · rename_i n
      cases rp5
      have h6 : H6 Dl = some (.dK us) := r6.keep.st Dl _ hDl hb noTb_dK
      have m6 : wd5.M Dl = none := r6.ord.mnone hm hDl noTb_dK r6.good h6 (fun _ z => nomatch z)
      obtain ⟨p1, p2⟩ := put_reps (k := Sum.inl n) rp6 en (er.mono r6.ord.le)
      refine ⟨us, Sum.inl n, rfl, h6, Nat.lt_of_le_of_lt hlen (Nat.lt_of_lt_of_le hl hz), wd5, _, _, o.trans r6.ord kp, r6.good.chg h6 m6, (kp.trans o r6.keep).chg hD, upd_same, m6, p1, p2, ?_, f5⟩
      unfold putK
      split
      · rw [List.length_map]
        omega
      · rw [List.length_append]
        exact Nat.succ_le_succ hlen
    · exact f5.elim
  · rintro H2 ⟨wd', us, acc, o, gd, kp, hDl, hm, en, er, hlen, f⟩
    rw [List.drop_length] at f
    refine kk acc env1 f Dl wd' H2 (le1.trans o.le) ((r1.go o gd kp).setDct hDl hm hn (us := .s _) (ls := .s _) (fun j lk ks e z => ?_) en er)
    obtain ⟨q, ws, z1, z2, _⟩ := r1.ext.dct j lk ks e
    rw [z1] at z
    cases z
    rw [hD] at z2
    cases z2
theorem sw_dict {gs : List Comprehension} {y : Str} {l : Nat} {env : Env} (fn : env.scope.kind = .function) (loc : env.scope.names.lookup y = some .local) (line : (py.line == pos.line) = true) (free : (scope.names.any fun (n, k) => n == y && (k == .local || k == .cell)) = false) :
    swapsWith (.DictComp kx vx gs scope pos) (some (.Name y py)) l env = pure true := by
  have h1 : env.blockKind = .function := by
    unfold Env.blockKind
    rw [fn]
    rfl
  have h2 : env.kindOf y = some .local := loc
  unfold swapsWith
  simp only [h1, h2, free, Expr.pos, line]
  rfl
theorem js_setDc (i : Nat) {y : Str} (own : List (Str × Nat)) {w : W (List D)} {g : WG} {wk wv : W D} (B : Bd X E k) (hi : JI T X E tg iter w) (ok : BlkOk X.N X.env.scope scope own)
    (hg : ∀ (s : Shared) (H : Hp) (C : Addr) (cl : List (Str × Addr)) (fp : List Addr), JG T (X.blk s H scope (compEnvC scope cl C X.env) fp) (own.map (·.2)) tg g)
    (hk : ∀ (s : Shared) (H : Hp) (C : Addr) (cl : List (Str × Addr)) (fp : List Addr), Bd (X.blk s H scope (compEnvC scope cl C X.env) fp) E0 k → JE T (X.blk s H scope (compEnvC scope cl C X.env) fp) E0 kx wk)
    (hv : ∀ (s : Shared) (H : Hp) (C : Addr) (cl : List (Str × Addr)) (fp : List Addr), Bd (X.blk s H scope (compEnvC scope cl C X.env) fp) E0 k → JE T (X.blk s H scope (compEnvC scope cl C X.env) fp) E0 vx wv)
    (hsw : swapsWith (.DictComp kx vx [⟨tg, iter, [], 0⟩] scope pos) (some (.Name y py)) spos.line X.env = pure true) (hy : X.N[i]? = some y := by rfl) (hyl : X.env.scope.names.lookup y = some .local := by rfl)
    (hs : ∀ x, foldedSetIterable iter X.env x = pure x := by intro _; rfl) : JS T X E (.Assign [.Name y py] (.DictComp kx vx [⟨tg, iter, [], 0⟩] scope pos) spos) (sSetDct i (wDc w g wk wv (own.map (·.2)))) := by
  have Bb : ∀ (s : Shared) (H : Hp) (C : Addr) (cl : List (Str × Addr)) (fp : List Addr), Bd (X.blk s H scope (compEnvC scope cl C X.env) fp) E0 k := fun s H C cl fp => ⟨B.room, passL, PassesOwn.never, B.calm, B.nd⟩
  refine psI (ps_setDc (wi := liftI X.K T E w) (g := liftG X.K T (own.map (·.2)) g) (tt := lift X.K T rT E0 (W.ret true)) (tk := lift X.K T (rE X.K) E0 wk) (tv := lift X.K T (rE X.K) E0 wv) B.calm B.nd hy hyl hsw hi ok hg (fun s H C cl fp => jts_nil) (fun s H C cl fp => hk s H C cl fp (Bb s H C cl fp)) (fun s H C cl fp => hv s H C cl fp (Bb s H C cl fp)) hs) fun D σ H ⟨c, wd, env, pe, r, h, o⟩ => ?_
  exact dc_lift (i0 := i) ⟨c, wd, env, _, _, r, h, o.ex, fun ks env' h' Dl wd' H' le r' => o.nx _ h' _ wd' H' le r'⟩
end
end Pd

namespace Pd
open PySem PySem.Spec PyProof.Rows L2 LamX
/-! ### [.. for k, v in d.items()], d one name's alone -/
def kD : Key → D
  | .inl n => .int n
  | .inr s => .str s
def itemD (kv : Key × D) : D := .tup [kD kv.1, kv.2]
theorem rep_key {K : PySem.W.Frag} {wd : Wd} : ∀ k : Key, Rep K wd (kV k) (kD k)
  | .inl n => .int n
  | .inr s => .str s
theorem dOnly_dct {env : PEnv} {i : Nat} {lk lk2 : Option Obj} {ks : DK D} (e : env[i]? = some (some (.dct lk ks))) : dOnly (env.set i (some (.dct lk2 ks))) = dOnly env := by
  unfold dOnly
  apply List.ext_getElem?
  intro j
  rw [List.getElem?_map, List.getElem?_map]
  by_cases h : i = j
  · subst h
    rw [List.getElem?_set_self (List.getElem?_eq_some_iff.mp e).1, e]
    rfl
  · rw [List.getElem?_set_ne h]
theorem set_back {env : PEnv} {i : Nat} {s t : Option Sl} (e : env[i]? = some s) : (env.set i t).set i s = env := by
  apply List.ext_getElem?
  intro j
  by_cases h : i = j
  · subst h
    have hl := (List.getElem?_eq_some_iff.mp e).1
    rw [List.getElem?_set_self (by rw [List.length_set]; exact hl), e]
  · rw [List.getElem?_set_ne h, List.getElem?_set_ne h]
theorem item_at {K : PySem.W.Frag} {wd : Wd} : ∀ {vs : List (Key × V)} {ks : List (Key × D)} {i : Nat} {kv : Key × V}, vs.map (·.1) = ks.map (·.1) → Reps K wd (vs.map (·.2)) (ks.map (·.2)) → vs[i]? = some kv → ∃ d, ks[i]? = some (kv.1, d) ∧ Rep K wd kv.2 d
  | [], _, _, _, _, _, h => by simp at h
  | _ :: _, [], _, _, e, _, _ => by simp at e
  | (a, v) :: vs, (b, d) :: ks, 0, kv, e, r, h => by
    obtain ⟨e1, _⟩ := List.cons.inj e
    have e1 : a = b := e1
    cases r with
    | cons r1 _ =>
      obtain rfl : (a, v) = kv := by simpa using h
      exact ⟨d, by rw [e1]; rfl, r1⟩
  | _ :: vs, _ :: ks, i + 1, kv, e, r, h => by
    obtain ⟨_, e2⟩ := List.cons.inj e
    cases r with
    | cons _ r2 =>
      obtain ⟨d, h1, h2⟩ := item_at (i := i) e2 r2 (by simpa using h)
      exact ⟨d, by simpa using h1, h2⟩
/-- the turns -/
def lcW (g : WG) (we : W D) (vs : List Nat) (Q : List D → Prop) (env0 : PEnv) : List D → List D → Prop
  | [], acc => Q acc
  | x :: xs, acc => g x (wipeE env0 vs) fun env2 => we env2 (fun y _ => lcW g we vs Q env0 xs (acc ++ [y])) fun _ => False
def wCompItems (i : Nat) (g : WG) (we : W D) (vs : List Nat) : W (List D) := fun env Q ex => dctIs env i fun ks => ks.length ≤ 1000000 ∧ lcW g we vs (fun acc => Q acc env) (dOnly env) (ks.map itemD) []
section
variable {X : Cx} {T : List (Addr × Str)} {E : XK} {k : Nat}
theorem Good.chgL {wd : Wd} {H : Hp} (g : Good T wd H) {p : Addr} {us vs : List V} (h : H p = some (.lst us)) (hm : wd.M p = none) (hb : p ∉ wd.B) (hz : vs.length ≤ sizeLine) : Good T wd (upd H p (.lst vs)) := by
  refine ⟨fun a o q => ?_, g.ntb, fun b hbb => ?_, fun q hq => ?_, siz_upd g.siz hz⟩
  · rw [upd_ne (fun z => by rw [z, hm] at q; cases q)]
    exact g.sub a o q
  · obtain ⟨z1, e, s, c', z2, z3⟩ := g.box b hbb
    exact ⟨z1, e, s, c', by rw [upd_ne (show b ≠ p from fun z => hb (z ▸ hbb))]; exact z2, z3⟩
  · obtain ⟨ps, z1, z2, z3⟩ := g.tab q hq
    refine ⟨ps, ?_, z2, fun pos cv hc => ?_⟩
    · rw [upd_ne (fun z => by rw [z, h] at z1; cases z1)]
      exact z1
    · obtain ⟨a, y1, y2⟩ := z3 pos cv hc
      refine ⟨a, y1, ?_⟩
      rw [upd_ne (fun z => by rw [z, h] at y2; cases y2)]
      exact y2
theorem lci_lift {g : WG} {we : W D} {vs : List Nat} {i : Nat} {σ : L2.St} {H : Hp} {Q : VK} (h : lift X.K T (rF X.K) E (wCompItems i g we vs) σ H Q) :
    tLockE (tLc (iItems (tVar i)) (liftG X.K T vs g) (lift X.K T rT E0 (W.ret true)) (lift X.K T (rE X.K) E0 we) vs) σ H Q := by
  obtain ⟨c, wd, env, P, Ex, r, h, xo, kk⟩ := h
  obtain ⟨ks, e0, hl, f0⟩ := dctIs_inv h
  have e0 := gt_eq _ _ e0
  obtain ⟨p, vs0, z1, z2, z3, z4, z5, z6⟩ := dct_s (r.ext.dct i none (.s ks) e0)
  refine ⟨p, .dK vs0, z2, trivial, fun od => ?_⟩
  have r1 : Rel X.K T c wd (env.set i (some (.dct (some od) (.s ks)))) σ (upd H p (.frz od (.dK vs0))) := r.putDct (us := .s vs0) (ls := .s ks) (lk2 := some od) e0 z1 z5 z6 trivial
  have hp1 : upd H p (.frz od (.dK vs0)) p = some (.frz od (.dK vs0)) := upd_same
  generalize hH : upd H p (.frz od (.dK vs0)) = H1 at r1 hp1 ⊢
  have hbp : p ∉ wd.B := r1.good.dctB (lk := some od) (kvs := .s vs0) hp1
  have ntp : noTb (.frz od (.dK vs0)) := noTb_lk (lk := some od) (kvs := .s vs0)
  have ln : vs0.length = ks.length := by
    have := congrArg List.length z5
    rwa [List.length_map, List.length_map] at this
  refine ⟨.ref p, z1, p, od, vs0, rfl, hp1, fun Dl hD => ?_⟩
  have hc : Nt c.H Dl := r1.keep.dm Dl (Nt.of hD)
  have hB : Dl ∉ wd.B := fun z => by
    obtain ⟨_, _, _, _, e, _⟩ := r1.good.box Dl z
    rw [hD] at e
    cases e
  refine lc_it walk_items (fun j H' => ∃ (wd' : Wd) (us : List V) (acc : List D), Ord wd wd' H1 ∧ Good T wd' H' ∧ Keep wd H1 H' ∧ H' Dl = some (.lst us) ∧ wd'.M Dl = none ∧ Dl ∉ wd'.B ∧ Reps X.K wd' us acc ∧ us.length ≤ j ∧
      lcW g we vs (fun acc => P acc env) (dOnly env) ((ks.map itemD).drop j) acc)
    ⟨wd, [], [], Ord.refl _ _, r1.good.new hD (Nat.zero_le _), Keep.add hD, upd_same, r1.good.mnone hD, hB, .nil, Nat.le_refl _, f0⟩ (fun j H' hj ⟨wd', us, acc, o, gd, kp, _⟩ => kp.st p _ hp1 hbp ntp) ?_ ?_
  · rintro j x H2 H3 hj ⟨wd', us, acc, o, gd, kp, hDl, hm, hb, er, hlen, f⟩ ⟨Tt, kx, vx, rfl, hT, rfl, ek, ev⟩
    have rel0 := (r1.go o gd kp).rebase
    rw [dOnly_dct e0] at rel0
    have rel0 := rel0.wipe vs
    obtain ⟨kv, ekv, rfl⟩ := Option.map_eq_some_iff.mp ek
    obtain ⟨kv', ekv', rfl⟩ := Option.map_eq_some_iff.mp ev
    rw [ekv] at ekv'
    cases ekv'
    obtain ⟨d, ed, rd⟩ := item_at z5 z6 ekv
    obtain ⟨wd2, le2, r2, rp⟩ := rel0.item (d := itemD (kv.1, d)) (Le.refl _) (.inr (.inl ⟨Tt, [kV kv.1, kv.2], [kD kv.1, d], rfl, hT, rfl, rfl, .cons (rep_key _) (.cons (rd.mono o.le) .nil), by show 2 ≤ sizeLine; decide⟩))
    have e : (ks.map itemD).drop j = itemD (kv.1, d) :: (ks.map itemD).drop (j + 1) := by
      have q : (ks.map itemD)[j]? = some (itemD (kv.1, d)) := by rw [List.getElem?_map, ed]; rfl
      obtain ⟨hi, e'⟩ := List.getElem?_eq_some_iff.mp q
      rw [List.drop_eq_getElem_cons hi, e']
    rw [e] at f
    refine ⟨_, wd2, _, _, _, r2, rp, f, fun env2 f2 σ2 r3 ew => ?_⟩
    refine ⟨ew.trans (wipe_wipe fun _ h => h), ?_⟩
    refine ⟨_, wd2, env2, fun b env3 => b = true ∧ we env3 (fun y _ => lcW g we vs (fun acc => P acc env) (dOnly env) ((ks.map itemD).drop (j + 1)) (acc ++ [y])) fun _ => False, fun _ => False, r3, ⟨rfl, f2⟩, xok0, fun b env3 f3 bb wd3 H4 le3 r4 eb => ?_⟩
    obtain rfl : bb = b := eb
    obtain ⟨rfl, f3⟩ := f3
    rw [if_pos rfl]
    refine ⟨_, wd3, env3, _, _, r4, f3, xok0, fun y1 env4 f4 yv wd4 H5 le4 r5 rp5 => ?_⟩
    have h5 : H5 Dl = some (.lst us) := r5.keep.st Dl _ hDl hb noTb_lst
    have m5 : wd4.M Dl = none := r5.ord.mnone hm hDl noTb_lst r5.good h5 (fun _ => noTup_lst)
    have b5 : Dl ∉ wd4.B := r5.ord.bnone hb hDl noTb_lst
    have big : (1000000 : Nat) ≤ sizeLine := sz6 (Nat.le_refl _)
    have l5 : (us ++ [yv]).length ≤ sizeLine := by
      rw [List.length_append]
      show us.length + 1 ≤ sizeLine
      omega
    refine ⟨us, h5, by omega, wd4, us ++ [yv], acc ++ [y1], o.trans r5.ord kp, r5.good.chgL h5 m5 b5 l5, (kp.trans o r5.keep).chg hD, upd_same, m5, b5, (er.mono r5.ord.le).append (.cons rp5 .nil), ?_, f4⟩
    rw [List.length_append]
    exact Nat.succ_le_succ hlen
  · rintro H2 ⟨wd', us, acc, o, gd, kp, hDl, hm, hb, er, hlen, f⟩
    rw [List.drop_of_length_le (by rw [List.length_map, ln]; exact Nat.le_refl _)] at f
    have hfr := kp.st p _ hp1 hbp ntp
    have rel := r1.go o gd kp
    have ei : (env.set i (some (Sl.dct (some od) (.s ks))))[i]? = some (some (.dct (some od) (.s ks))) := List.getElem?_set_self (List.getElem?_eq_some_iff.mp e0).1
    have rel2 := rel.putDct (us := .s vs0) (ls := .s ks) (lk2 := none) ei z1 z5 (z6.mono o.le) trivial
    rw [set_back e0] at rel2
    have ne : Dl ≠ p := fun z => by
      rw [z, hp1] at hD
      cases hD
    have nd : ∀ {q : Addr} {ws : List V}, H q = some (.lst ws) → q ≠ Dl := fun {q ws} e z => by
      have : H1 q = some (.lst ws) := by
        rw [← hH, upd_ne (fun y => by rw [y, z2] at e; cases e)]
        exact e
      rw [z, hD] at this
      cases this
    refine ⟨hfr, kk acc env f (.ref Dl) wd' _ o.le rel2 ⟨Dl, us, rfl, by rw [upd_ne ne]; exact hDl, hm, hb, hc, er, ⟨fun l ys e z => ?_, fun l cs e q hq z => ?_⟩, fun q hq z => ?_⟩⟩
    · obtain ⟨q, ws, y1, y2, _⟩ := r.own l ys e
      rw [y1] at z
      cases z
      exact nd y2 rfl
    · obtain ⟨⟨ws, y1, _⟩, _⟩ := r.ext.cel l cs e q hq
      exact nd y1 z
    · exact nd (r.pin q hq).1 z
end
end Pd

namespace Pd
open PySem PySem.Spec PyProof.Rows L2 LamX
/-! ### dicts whose keys are tuples -/
section
variable {κ : Type} [DecidableEq κ] {K : PySem.W.Frag} {wd : Wd}
def putG (ks : List (κ × D)) (k : κ) (d : D) : List (κ × D) := if (ks.any fun kv => decide (kv.1 = k)) = true then ks.map (fun kv => if kv.1 = k then (kv.1, d) else kv) else ks ++ [(k, d)]
def lookG (ds : List (κ × D)) (k : κ) : Option D := (ds.find? fun kv => decide (kv.1 = k)).map (·.2)
theorem any_keysG {k : κ} : ∀ {vs : List (κ × V)} {ds : List (κ × D)}, vs.map (·.1) = ds.map (·.1) → (vs.any fun kv => decide (kv.1 = k)) = ds.any fun kv => decide (kv.1 = k)
  | [], [], _ => rfl
  | [], _ :: _, e => by simp at e
  | _ :: _, [], e => by simp at e
  | (a, v) :: vs, (b, d) :: ds, e => by
    rw [List.map_cons, List.map_cons] at e
    obtain ⟨e1, e2⟩ := List.cons.inj e
    have e1 : a = b := e1
    rw [List.any_cons, List.any_cons, any_keysG e2]
    show (decide (a = k) || _) = (decide (b = k) || _)
    rw [e1]
theorem put_mapG {k : κ} {v : V} {d : D} (rv : Rep K wd v d) : ∀ {vs : List (κ × V)} {ds : List (κ × D)}, vs.map (·.1) = ds.map (·.1) → Reps K wd (vs.map (·.2)) (ds.map (·.2)) →
    (vs.map fun kv => if kv.1 = k then (kv.1, v) else kv).map (·.1) = (ds.map fun kv => if kv.1 = k then (kv.1, d) else kv).map (·.1) ∧ Reps K wd ((vs.map fun kv => if kv.1 = k then (kv.1, v) else kv).map (·.2)) ((ds.map fun kv => if kv.1 = k then (kv.1, d) else kv).map (·.2))
  | [], [], _, _ => ⟨rfl, .nil⟩
  | [], _ :: _, e, _ => by simp at e
  | _ :: _, [], e, _ => by simp at e
  | (a, x) :: vs, (b, y) :: ds, e, r => by
    rw [List.map_cons, List.map_cons] at e
    obtain ⟨e1, e2⟩ := List.cons.inj e
    have e1 : a = b := e1
    cases r with
    | cons r1 r2 =>
      obtain ⟨i1, i2⟩ := put_mapG rv e2 r2
      subst e1
      by_cases h : a = k
      · simp only [List.map_cons, h, if_true]
        exact ⟨by rw [i1], .cons rv i2⟩
      · simp only [List.map_cons, h, if_false]
        exact ⟨by rw [i1], .cons r1 i2⟩
theorem put_repsG {k : κ} {v : V} {d : D} (rv : Rep K wd v d) {vs : List (κ × V)} {ds : List (κ × D)} (e : vs.map (·.1) = ds.map (·.1)) (r : Reps K wd (vs.map (·.2)) (ds.map (·.2))) :
    (putK vs k v).map (·.1) = (putG ds k d).map (·.1) ∧ Reps K wd ((putK vs k v).map (·.2)) ((putG ds k d).map (·.2)) := by
  unfold putK putG
  rw [any_keysG e]
  split
  · exact put_mapG rv e r
  · rw [List.map_append, List.map_append, List.map_append, List.map_append, e]
    exact ⟨rfl, r.snoc rv⟩
theorem look_repsG {k : κ} : ∀ {vs : List (κ × V)} {ds : List (κ × D)}, vs.map (·.1) = ds.map (·.1) → Reps K wd (vs.map (·.2)) (ds.map (·.2)) → ∀ z, lookG ds k = some z → ∃ v, valV vs k = some v ∧ Rep K wd v z
  | [], [], _, _, z, h => by cases h
  | (a, v) :: vs, (b, d) :: ds, e, r, z, h => by
    have e1 : a = b := by simpa using (List.cons.inj e).1
    subst e1
    cases r with
    | cons r0 r1 =>
      unfold lookG at h
      unfold valV
      rw [List.find?_cons] at h ⊢
      by_cases hk : a = k
      · have : decide (a = k) = true := decide_eq_true hk
        simp only [this] at h ⊢
        cases h
        exact ⟨v, rfl, r0⟩
      · have : decide (a = k) = false := decide_eq_false hk
        simp only [this] at h ⊢
        exact look_repsG (List.cons.inj e).2 r1 z h
  | [], _ :: _, e, _, _, _ => by cases e
  | _ :: _, [], e, _, _, _ => by cases e
end
/-- a key of whole numbers -/
def iK (ns : List Int) : List Key := ns.map Sum.inl
theorem iK_V (ns : List Int) : (iK ns).map kV = ns.map V.int := by
  unfold iK
  rw [List.map_map]
  rfl
def keyT (k : List Key) : D := .tup (k.map kD)
theorem reps_key {K : PySem.W.Frag} {wd : Wd} : ∀ k : List Key, Reps K wd (k.map kV) (k.map kD)
  | [] => .nil
  | k :: ks => .cons (rep_key k) (reps_key ks)
def dcuIs (env : PEnv) (i : Nat) (P : List (List Key × D) → Prop) : Prop := match gt env i with
  | some (.dct none (.t ks)) => P ks
  | _ => False
theorem dcuIs_inv {env : PEnv} {i : Nat} {P : List (List Key × D) → Prop} (h : dcuIs env i P) : ∃ ks, gt env i = some (.dct none (.t ks)) ∧ P ks := by
  unfold dcuIs at h
  split at h
  · rename_i ks e
    exact ⟨ks, e, h⟩
  · exact h.elim
section
variable {K : PySem.W.Frag} {T : List (Addr × Str)} {c : Ctx} {wd wd' : Wd} {env env' : PEnv} {σ σ' : L2.St} {H H' : Hp}
/-- a dict that is known from now on becomes plain data -/
theorem Ext.addF (x : Ext K c wd env σ H) {p : Addr} {od : Obj} {us : List (List Key × V)} (hm : wd.M p = none) (h : H p = some (.frz od (.dT us))) (nd : ∀ (j : Nat) (lk : Option Obj) (ks : DK D), env[j]? = some (some (.dct lk ks)) → σ[j]? ≠ some (some (.ref p))) :
    Ext K c (wd.add p (.frz od (.dT us))) env σ H := by
  have le : Le wd (wd.add p (.frz od (.dT us))) := Le.add hm
  refine ⟨fun i p0 C fs e => ?_, x.ob1, fun i cs e q hq => ?_, x.cnd, x.ce1, fun i lk kvs e => ?_, x.dc1⟩
  · obtain ⟨dx, ws, h1, h2, h3, h4, h5, h6⟩ := x.obj i p0 C fs e
    refine ⟨dx, ws, h1, h2, upd_none h3 (fun z => ?_), h4, h5, h6.mono le⟩
    rw [z, h] at h2
    cases h2
  · obtain ⟨⟨ws, h1, h2⟩, h3, h4, h5, h6⟩ := x.cel i cs e q hq
    refine ⟨⟨ws, h1, h2.mono le⟩, upd_none h3 (fun z => ?_), h4, h5, h6⟩
    rw [z, h] at h1
    cases h1
  · obtain ⟨p0, ws, h1, h2, h3, h4, h5, h6⟩ := x.dct i lk kvs e
    exact ⟨p0, ws, h1, h2, upd_none h3 (fun z => nd i lk kvs e (by rw [← z]; exact h1)), h4, h5, h6.mono le⟩
theorem Rel.frzDct (r : Rel K T c wd env σ H) {i : Nat} {od : Obj} {ks : List (List Key × D)} (e : env[i]? = some (some (.dct (some od) (.t ks)))) :
    ∃ (p : Addr) (wd' : Wd), σ[i]? = some (some (.ref p)) ∧ Le wd wd' ∧ Rel K T c wd' (env.set i (some (.d (.dit ks)))) σ H ∧ Rep K wd' (.ref p) (.dit ks) := by
  obtain ⟨p, vs, h1, h2, h3, h4, h5, h6⟩ := dct_t (r.ext.dct i (some od) (.t ks) e)
  have h2 : H p = some (.frz od (.dT vs)) := h2
  have le : Le wd (wd.add p (.frz od (.dT vs))) := Le.add h3
  have hr : Rep K (wd.add p (.frz od (.dT vs))) (.ref p) (.dit ks) := .dit upd_same h5 (h6.mono le)
  have hil : i < env.length := (List.getElem?_eq_some_iff.mp e).1
  have uq : ∀ {a : Addr} {o : HO}, (wd.add p (.frz od (.dT vs))).M a = some o → (a = p ∧ o = .frz od (.dT vs)) ∨ wd.M a = some o := fun {a o} z => by
    by_cases ha : a = p
    · subst ha
      have z' : upd wd.M a (.frz od (.dT vs)) a = some o := z
      rw [upd_same] at z'
      cases z'
      exact .inl ⟨rfl, rfl⟩
    · have z' : upd wd.M p (.frz od (.dT vs)) a = some o := z
      rw [upd_ne ha] at z'
      exact .inr z'
  have nl : ∀ {a : Addr} {us : List V}, H a = some (.lst us) → a ≠ p := fun {a us} e z => by
    rw [z, h2] at e
    cases e
  have stay : ∀ {l : Nat} {s : Sl}, (env.set i (some (.d (.dit ks))))[l]? = some (some s) → (∀ d, s ≠ .d d) → i ≠ l ∧ env[l]? = some (some s) := fun {l s} q n => by
    rcases get_set q with ⟨rfl, q, _⟩ | ⟨ne, q⟩
    · cases q
      exact absurd rfl (n _)
    · exact ⟨ne, q⟩
  have x1 : Ext K c wd (env.set i (some (.d (.dit ks)))) σ H := r.ext.sl (fun l s q n1 n2 => ⟨(stay q n1).2, rfl⟩) fun l ys q => .inl ⟨ys, (stay q fun _ z => nomatch z).2, rfl⟩
  refine ⟨p, _, h1, le, ⟨⟨r.ord.le.trans le, fun a o q => ?_, r.ord.fb⟩, ⟨fun a o z => ?_, fun a o z => ?_, fun b hb => ?_, r.good.tab, r.good.siz⟩, r.keep, by rw [List.length_set]; exact r.len, fun j y q => ?_, fun j ys q => ?_, fun j l as bs z e1 e2 e3 e4 => ?_, fun q hq => ?_, x1.addF h3 h2 fun j lk ls q z => ?_⟩, hr⟩
  · rcases uq q with ⟨rfl, rfl⟩ | z
    · exact .inr (.inl h4)
    · exact r.ord.fm a o z
  · rcases uq z with ⟨rfl, rfl⟩ | z
    · exact h2
    · exact r.good.sub a o z
  · rcases uq z with ⟨rfl, rfl⟩ | z
    · exact ⟨(fun _ h => nomatch h), trivial⟩
    · exact r.good.ntb a o z
  · obtain ⟨z1, z2⟩ := r.good.box b hb
    refine ⟨?_, z2⟩
    obtain ⟨_, _, _, e, _⟩ := z2
    exact upd_none z1 (nl e)
  · rcases get_set q with ⟨rfl, q, _⟩ | ⟨ne, q⟩
    · cases q
      exact ⟨.ref p, h1, hr⟩
    · obtain ⟨v, z1, z2⟩ := r.dat j y q
      exact ⟨v, z1, z2.mono le⟩
  · obtain ⟨q, us, z1, z2, z3, z4, z5, z6⟩ := r.own j ys (stay q fun _ z => nomatch z).2
    exact ⟨q, us, z1, z2, upd_none z3 (nl z2), z4, z5, z6.mono le⟩
  · exact r.sep j l as bs z (stay e1 fun _ z => nomatch z).2 (stay e2 fun _ z => nomatch z).2 e3 e4
  · obtain ⟨z1, z2, z3, z4⟩ := r.pin q hq
    exact ⟨z1, upd_none z2 (nl z1), z3, ⟨fun l ys e => z4.o l ys (stay e fun _ z => nomatch z).2, fun l cs e => z4.c l cs (stay e fun _ z => nomatch z).2⟩⟩
  · obtain ⟨ne, q⟩ := stay q fun _ z => nomatch z
    exact ne (r.ext.dc1 i j (some od) lk (.t ks) ls p e q h1 z)
theorem knowns {vs : List (List Key × V)} {bs : List Addr} (hk : IsKeys H vs bs) : ∀ {wd : Wd}, Rel K T c wd env σ H → ∃ wd', Le wd wd' ∧ Rel K T c wd' env σ H ∧ Reps K wd' (bs.map V.ref) ((vs.map (·.1)).map keyT) := by
  unfold IsKeys at hk
  induction hk with
  | nil => exact fun {wd} r => ⟨wd, Le.refl _, r, .nil⟩
  | cons h t ih =>
    intro wd r
    obtain ⟨wd1, l1, r1, e1⟩ := r.known h
    obtain ⟨wd2, l2, r2, e2⟩ := ih r1
    exact ⟨wd2, l1.trans l2, r2, .cons (.tup (l2.m _ _ e1) (reps_key _)) e2⟩
end
section
variable {X : Cx} {T : List (Addr × Str)} {E : XK} {k : Nat} {x : Str} {y e : Expr} {p1 p2 pos pos' apos : Pos}
/-- a thing that nothing changes from now on -/
def tFrz (t : TE) : TE := fun σ H Q => t σ H fun x H1 => ∃ d u, x = .ref d ∧ H1 d = some u ∧ Mut (some u) ∧ ∀ od, Q x (upd H1 d (.frz od u))
theorem pe_frz {t : TE} (h : PE X e t) : PE X e (tFrz t) := by
  refine ⟨fun pins s σ H Q I hw => ?_⟩
  refine thn (h.run pins s σ H _ I hw) fun v s1 q => ?_
  obtain ⟨x, H1, I1, r, d, u, ex, hd, mu, q⟩ := q
  obtain ⟨od, I2⟩ := I1.lock hd mu
  exact ⟨x, _, I2, r, q od⟩
/-- x = {} -/
def sNewDct (i : Nat) : WS := fun pe env => pe.nx (env.set i (some (.dct none (.t []))))
theorem js_newDct (i : Nat) (B : Bd X E k) (hi : X.N[i]? = some x := by rfl) (hx : Loc X.env.scope x := by first | exact Or.inl rfl | exact Or.inr rfl) (hs : swapsWith (.Dict [] [] p1) (some (.Name x pos')) pos.line X.env = pure false := by rfl)
    (hf : X.fn x = true ∨ X.env.scope.names.lookup x = some .local := by first | exact .inl rfl | exact .inr rfl) : JS T X E (.Assign [.Name x pos'] (.Dict [] [] p1) pos) (sNewDct i) :=
  psI (ps_set B.nd hi hx pe_dnewT hs hf) fun D σ H ⟨c, wd, env, pe, r, h, o⟩ => fun p hp => o.nx _ h _ wd _ (Le.refl _) (r.newDct (us := .t []) (ls := .t []) hp rfl .nil trivial)
/-- x[k] = e -/
def sDcuPut (i : Nat) (iw ew : W D) : WS := fun pe env => ew env (fun v env1 => dcuIs env1 i fun _ => iw env1 (fun n env2 => dcuIs env2 i fun ks => ∃ ns : List Int, n = .tup (ns.map D.int) ∧ ks.length < 1000000 ∧ pe.nx (env2.set i (some (.dct none (.t (putG ks (iK ns) v)))))) pe.ex) pe.ex
theorem js_dcuPut (i : Nat) {iw ew : W D} (B : Bd X E k) (hi : JE T X E y iw) (he : JE T X E e ew) (hN : X.N[i]? = some x := by rfl) (hv : Vis X.env.scope x := by first | exact Or.inl rfl | exact Or.inr (Or.inl rfl) | exact Or.inr (Or.inr rfl)) (hd : (x == ("__debug__" : Str)) = false := by decide)
    (hcd : (x == ("__classdict__" : Str)) = false := by decide) (hs : swapsWithSole [.Subscript (.Name x p1) y p2] e pos.line X.env = pure false := by rfl) (hw : swappedStores [.Subscript (.Name x p1) y p2] e X.env = pure none := by rfl)
    (h1 : (assignEach [.Subscript (.Name x p1) y p2] X.env).map (·.2) = [assign (.Subscript (.Name x p1) y p2) X.env] := by rfl)
    (hasg : ∀ v, assign (.Subscript (.Name x p1) y p2) X.env v = (do
      let ov ← holding [v] (eval (.Name x p1) X.env)
      let iv ← holding [v, ov] (eval y X.env)
      standAt p2
      holding [v, ov, iv] (setItem ov iv v)
      release [v, ov, iv] []) := by intro _; rfl) : JS T X E (.Assign [.Subscript (.Name x p1) y p2] e pos) (sDcuPut i iw ew) :=
  psI (ps_asg he (pg_sub (pe_var hN hv hd hcd) hi (set_dict (by have := B.room.un; omega)) hasg) hs hw h1) fun D σ H ⟨c, wd, env, pe, rl, h, o⟩ => by
    refine ⟨c, wd, env, _, _, rl, h, o.ex, fun v env1 h1 u wd1 H1 le1 r1 rp1 => ?_⟩
    obtain ⟨ks0, e0, h1⟩ := dcuIs_inv h1
    obtain ⟨p0, vs0, z0, _⟩ := r1.ext.dct i none (.t ks0) (gt_eq _ _ e0)
    refine ⟨.ref p0, z0, c, wd1, env1, _, _, r1, h1, o.ex, fun n env2 h2 w wd2 H2 le2 r2 rp2 => ?_⟩
    obtain ⟨ks, e1, ns, rfl, hl, h3⟩ := dcuIs_inv h2
    obtain ⟨p, vs, z1, z2, z3, z4, z5, z6⟩ := dct_t (r2.ext.dct i none (.t ks) (gt_eq _ _ e1))
    rw [z0] at z1
    cases z1
    cases rp2 with
    | tup hb rb =>
      rw [rb.ints] at hb
      have len : vs.length = ks.length := by
        have := congrArg List.length z5
        rwa [List.length_map, List.length_map] at this
      obtain ⟨d1, d2⟩ := put_repsG (k := iK ns) (Rep.mono le2 rp1) z5 z6
      refine ⟨p0, _, rfl, .inr ⟨vs, iK ns, _, z2, rfl, ?_, ?_, rfl⟩, o.nx _ h3 _ wd2 _ (le1.trans le2) (r2.putDct (us := .t _) (ls := .t _) (lk2 := none) (gt_eq _ _ e1) z0 d1 d2 trivial)⟩
      · rw [iK_V]
        exact r2.good.sub _ _ hb
      · exact Nat.lt_of_lt_of_le (show vs.length < 1000000 by omega) (sz6 (Nat.le_refl _))
/-- the dict as plain data -/
def wFrzT (i : Nat) : W D := fun env Q _ => dcuIs env i fun ks => Q (.dit ks) (env.set i (some (.d (.dit ks))))
theorem je_frzT (i : Nat) (hN : X.N[i]? = some x := by rfl) (hv : Vis X.env.scope x := by first | exact Or.inl rfl | exact Or.inr (Or.inl rfl) | exact Or.inr (Or.inr rfl)) (hd : (x == ("__debug__" : Str)) = false := by decide)
    (hcd : (x == ("__classdict__" : Str)) = false := by decide) : JE T X E (.Name x pos) (wFrzT i) :=
  peI (pe_frz (pe_var hN hv hd hcd)) fun σ H Q ⟨c, wd, env, P, Ex, r, h, _, kk⟩ => by
    obtain ⟨ks, e, h⟩ := dcuIs_inv h
    have e := gt_eq _ _ e
    obtain ⟨p, vs, h1, h2, h3, h4, h5, h6⟩ := dct_t (r.ext.dct i none (.t ks) e)
    refine ⟨.ref p, h1, p, .dT vs, rfl, h2, trivial, fun od => ?_⟩
    have r1 : Rel X.K T c wd (env.set i (some (.dct (some od) (.t ks)))) σ (upd H p (.frz od (.dT vs))) := r.putDct (us := .t vs) (ls := .t ks) (lk2 := some od) e h1 h5 h6 trivial
    obtain ⟨p', wd', q1, le, r2, rp⟩ := r1.frzDct (i := i) (od := od) (ks := ks) (List.getElem?_set_self (List.getElem?_eq_some_iff.mp e).1)
    rw [h1] at q1
    cases q1
    rw [List.set_set] at r2
    exact kk _ _ h _ wd' _ le r2 rp
/-- d[k], d such data -/
def wDitGet (a b : W D) : W D := a.bind fun x => b.bind fun y env Q _ => ∃ ks ns z, x = .dit ks ∧ y = .tup (ns.map D.int) ∧ lookG ks (iK ns) = some z ∧ Q z env
theorem je_ditGet {o i : Expr} {a b : W D} {pos : Pos} (B : Bd X E k) (ho : JE T X E o a) (hi : JE T X E i b) (hs : NoSl i) : JE T X E (.Subscript o i pos) (wDitGet a b) :=
  peI (pe_dget (by have := B.room.un; omega) ho hi hs) fun σ H Q ⟨c, wd, env, P, Ex, r, h, xo, kk⟩ => ⟨c, wd, env, _, Ex, r, h, xo, fun x env1 h1 v wd1 H1 le1 r1 rp1 => ⟨c, wd1, env1, _, Ex, r1, h1, xo, fun y env2 h2 u wd2 H2 le2 r2 rp2 => by
    obtain ⟨ks, ns, z, rfl, rfl, e1, h3⟩ := h2
    cases rp2 with
    | tup hb rb =>
      rw [rb.ints] at hb
      cases rp1 with
      | dit hd en er =>
        obtain ⟨v, e2, rv⟩ := look_repsG en (er.mono le2) z e1
        exact ⟨_, v, rfl, .inr ⟨_, iK ns, _, .inr ⟨_, r2.good.sub _ _ (le2.m _ _ hd)⟩, rfl, by rw [iK_V]; exact r2.good.sub _ _ hb, e2.symm⟩, kk z env2 h3 v wd2 H2 (le1.trans le2) r2 rv⟩⟩⟩
/-- list(d), its keys -/
def wListDit (a : W D) : W (List D) := a.bind fun x env Q _ => ∃ ks : List (List Key × D), x = .dit ks ∧ ks.length ≤ 1000000 ∧ Q ((ks.map (·.1)).map keyT) env
theorem jf_listDit {a : W D} {p pos : Pos} (B : Bd X E k) (hm : X.mg "list" = none) (ha : JE T X E e a) (hg : Gl X "list" := by rfl) (na : starEach [e] X.env = (false, eval e X.env) :: starEach [] X.env := by rfl) (hpl : (backTo pos (starEach [] X.env)).any (·.1) = false := by rfl) :
    JF T X E (.Call (.Name "list" p) [e] [] pos) (wListDit a) :=
  peI (pe_callTy (call_list_dT B.calm) hg hm (by decide +kernel) (pa_cons ha pa_nil na) (by decide) (by decide) na hpl) fun σ H Q ⟨c, wd, env, P, Ex, r, h, xo, kk⟩ => ⟨c, wd, env, _, Ex, r, h, xo, fun x env1 h1 v wd1 H1 le1 r1 rp1 => by
    obtain ⟨ks, rfl, hl, h2⟩ := h1
    cases rp1 with
    | dit hd en er =>
      rename_i a o vs
      refine ⟨_, vs, rfl, .inr ⟨_, r1.good.sub _ _ hd⟩, fun p bs hp hk => ?_⟩
      obtain ⟨wd2, le2, r2, rp2⟩ := knowns hk r1
      rw [en] at rp2
      have hz : (bs.map V.ref).length ≤ sizeLine := by
        have := rp2.length
        rw [List.length_map, List.length_map, List.length_map] at this
        rw [List.length_map, this]
        exact sz6 hl
      obtain ⟨r3, f⟩ := r2.fresh hp rp2 hz
      exact kk _ env1 h2 (.ref p) wd2 _ (le1.trans le2) r3 f⟩
/-- for x in d -/
def wItemsDit (a : W D) : W (List D) := a.bind fun x env Q _ => ∃ ks : List (List Key × D), x = .dit ks ∧ ks.length ≤ 1000000 ∧ Q ((ks.map (·.1)).map keyT) env
theorem ji_dit {tg : Expr} {w : W D} (he : JE T X E e w) : JI T X E tg e (wItemsDit w) :=
  piI (pi_keys he) fun σ H R ⟨c, wd, env, P, Ex, r, h, xo, kk⟩ => ⟨c, wd, env, _, Ex, r, h, xo, fun x env1 h1 v wd1 H1 le1 r1 rp1 => by
    obtain ⟨ks, rfl, hl, h2⟩ := h1
    cases rp1 with
    | dit hd en er =>
      rename_i a o vs
      have ln : vs.length = ks.length := by
        have := congrArg List.length en
        rwa [List.length_map, List.length_map] at this
      refine ⟨_, o, rfl, .inr ⟨vs, r1.good.sub _ _ hd, kk _ env1 h2 _ wd1 H1 le1 r1 ?_ (by rw [List.length_map, List.length_map]; exact sz6 hl)⟩⟩
      unfold WalkD
      rw [List.length_map, List.length_map, ← ln]
      refine (walk_keysT (d := a) (o := o) (kvs := vs)).mono (fun H z => z _ _ hd) fun i H x H' hi z y => ?_
      obtain ⟨rfl, kq, vq, q, e1, rfl, e2⟩ := y
      refine ⟨keyT kq, ?_, .inr (.inr ⟨q, _, _, rfl, e2, rfl, rfl, reps_key _⟩)⟩
      rw [← en, List.getElem?_map, List.getElem?_map, e1]
      rfl⟩
end
end Pd

/-! dict(list of pairs), the keys tuples -/
namespace Zd
open PySem PySem.Spec PyProof.Rows L2
def putAll (acc kvs : List (List Key × V)) : List (List Key × V) := kvs.foldl (fun acc kv => putK acc kv.1 kv.2) acc
theorem kt_all {H : Hp} : ∀ {kvs : List (List Key × V)} {qs : List (List Key × Addr × Value)}, KT H kvs qs → ∀ {acc : List (List Key × V)} {xs : List (List Key × Addr × Value)}, KT H acc xs → KT H (putAll acc kvs) (storedAllH xs qs)
  | _, _, .nil, _, _, r => r
  | _, _, .cons (a := p) (b := q) h t, acc, xs, r => by
    obtain ⟨h1, h2, h3⟩ := h
    have r2 := r.put (k := p.1) h2 h3
    have := kt_all t r2
    show KT H (putAll (putK acc p.1 p.2) _) (storedAllH (storedH xs q.1 q.2.1 q.2.2) _)
    rw [← h1]
    exact this
section
variable {X : Cx}
theorem pairs_in {pins : List (Addr × Obj)} {σ : L2.St} {H : Hp} {s : Shared} (I : Inv X pins σ H s) : ∀ {ps : List Addr} {kvs : List (List Key × V)}, Paired (fun p kv => ∃ b, SqT X.K H p [.ref b, kv.2] ∧ H b = some (.tup (kv.1.map kV))) ps kvs →
    ∃ qs : List (List Key × Addr × Value), KT H kvs qs ∧ qs.length = ps.length ∧ ∀ (j : Nat) (q : List Key × Addr × Value), qs[j]? = some q → ∃ p : Addr, ps[j]? = some p ∧ IsTup s.heap p #[.ref q.2.1, q.2.2]
  | _, _, .nil => ⟨[], .nil, rfl, fun j q e => by simp at e⟩
  | _, _, .cons (a := p) (b := kv) h t => by
    obtain ⟨qs, r, hl, hq⟩ := pairs_in I t
    obtain ⟨b, h1, h2⟩ := h
    obtain ⟨its, rv, ht, _⟩ := I.tuple h1
    obtain ⟨u, y, ei, ru, ry⟩ := vals2 rv
    subst ei
    cases ru
    refine ⟨(kv.1, b, y) :: qs, .cons ⟨rfl, h2, ry⟩ r, by rw [List.length_cons, List.length_cons, hl], fun j q e => ?_⟩
    cases j with
    | zero =>
      obtain rfl : (kv.1, b, y) = q := Option.some.inj e
      exact ⟨p, rfl, ht⟩
    | succ j =>
      obtain ⟨p', e1, e2⟩ := hq j q (by simpa using e)
      exact ⟨p', by simpa using e1, e2⟩
theorem key_in {pins : List (Addr × Obj)} {σ : L2.St} {H : Hp} {s : Shared} (I : Inv X pins σ H s) {b : Addr} {k : List Key} (h : H b = some (.tup (k.map kV))) : ∃ its : List Value, IsTup s.heap b its.toArray ∧ ItemsAre (mixKind X.prog X.w) k its := by
  obtain ⟨its, rv, ht, _⟩ := I.tuple (.inl (.inl h))
  exact ⟨its, ht, items_are rv⟩
theorem paired_mem {α β : Type} {F : α → β → Prop} : ∀ {l : List α} {m : List β}, Paired F l m → ∀ y ∈ m, ∃ x ∈ l, F x y
  | _, _, .nil, y, h => by cases h
  | _, _, .cons h t, y, hy => by
    rcases List.mem_cons.mp hy with rfl | hy
    · exact ⟨_, List.mem_cons_self, h⟩
    · obtain ⟨x, hx, hf⟩ := paired_mem t y hy
      exact ⟨x, List.mem_cons_of_mem _ hx, hf⟩
theorem call_dictT (hc : X.calm = true) (hu : X.A.units + 2 < cLine) : CallR X (.type "dict") (fun xs H Q => ∃ (a : Addr) (ps : List Addr) (kvs : List (List Key × V)), xs = [.ref a] ∧ SqL X.K H a (ps.map V.ref) ∧ Paired (fun p kv => ∃ b, SqT X.K H p [.ref b, kv.2] ∧ H b = some (.tup (kv.1.map kV))) ps kvs ∧
    ∀ p, H p = none → Q (.ref p) (upd H p (.dT (putAll [] kvs)))) := by
  intro pins s σ H xs us Q I r q
  obtain ⟨a, ps, kvs, ex, hq, hp, q⟩ := q
  subst ex
  obtain ⟨u, eu, rx⟩ := vals1 r
  subst eu
  cases rx
  obtain ⟨its, rv, pl, hz⟩ := I.list hq
  have ei := refs_at rv
  subst ei
  rw [List.length_map] at hz
  obtain ⟨qs, rel, hl, hqs⟩ := pairs_in I hp
  have ar := PairArg.list (prog := X.prog) (w := X.w) a (ps.map Value.ref).toArray (fun j => ps.getD j 0) (qs.map fun q => (Value.ref q.2.1, q.2.2))
  refine PySem.call_dict_pairsH (knd := tupleKind (mixKind X.prog X.w)) (ps := qs) ar (I.ok.hd hc) (show X.A.in1.in1.units < cLine from hu) ⟨pl, ?_, fun j k v e => ?_⟩ ⟨by rw [List.length_map], fun i key v e => ?_⟩ (fun h' hk x hx => ?_) (by rw [List.length_map, hl]; exact hz) fun h' tk hd' hk => ?_
  · simp [hl]
  · rw [List.getElem?_map] at e
    cases e0 : qs[j]? with
    | none =>
      rw [e0] at e
      cases e
    | some q0 =>
      rw [e0] at e
      obtain ⟨p, e1, e2⟩ := hqs j q0 e0
      obtain ⟨rfl, rfl⟩ : Value.ref q0.2.1 = k ∧ q0.2.2 = v := Prod.ext_iff.mp (Option.some.inj e)
      have e3 : ps.getD j 0 = p := by rw [List.getD_eq_getElem?_getD, e1]; rfl
      refine ⟨by simp [e1, e3], ?_⟩
      show PairAt s.heap (ps.getD j 0) _ _
      rw [e3]
      obtain ⟨o, h1, h2, h3, h4⟩ := e2
      exact .inl ⟨o, h1, h2, h3, h4⟩
  · have e : (qs.map fun q => (Value.ref q.2.1, q.2.2))[i]? = some (key, v) := e
    rw [List.getElem?_map] at e
    cases e0 : qs[i]? with
    | none =>
      rw [e0] at e
      cases e
    | some q0 =>
      rw [e0] at e
      obtain ⟨rfl, rfl⟩ : Value.ref q0.2.1 = key ∧ q0.2.2 = v := Prod.ext_iff.mp (Option.some.inj e)
      exact ⟨q0.1, q0.2.1, rfl, rfl⟩
  · obtain ⟨kv, _, h1, h2, _⟩ := paired_mem rel x hx
    obtain ⟨its, z1, z2⟩ := key_in I h2
    rw [h1] at z2
    obtain ⟨o, y1, y2, n, y3⟩ := z1
    exact ⟨o, its.toArray, n, hk _ _ (Nat.ne_of_lt (Heap.lt_size y1)) (by simp) y1, y2, y3, z2⟩
  · have hm : (s.heap.objs.size == sysModules) = false := beq_eq_false_iff_ne.mpr (Nat.ne_of_gt I.big)
    have kt : KT H (putAll [] kvs) (storedAllH [] qs) := kt_all rel .nil
    have fresh : H s.heap.objs.size = none := I.hok.fresh (Nat.le_refl _)
    have kt2 : KT (upd H s.heap.objs.size (.dT (putAll [] kvs))) (putAll [] kvs) (storedAllH [] qs) := kt.keeps fun b ys e => by
      rw [upd_ne (fun z => by rw [z, fresh] at e; cases e)]
      exact e
    have few : (putAll [] kvs).length ≤ sizeLine := by
      rw [kt.length]
      refine Nat.le_trans (storedAllH_length qs []) ?_
      rw [List.length_nil, Nat.zero_add, hl]
      exact hz
    obtain ⟨o, es, ep, d1, d2, d3, d4, _, d6⟩ := hd'
    refine ⟨.ref s.heap.objs.size, _, I.laid (o := .dT (putAll [] kvs)) (t' := tk) (fun b o e => hk b o (by simp) e) (Nat.le_refl _) ⟨few, hm, _, kt2, o, es, ep, d1, d2, d3, d4, d6⟩, rfl, q _ fresh⟩
end
end Zd
namespace Pd
open PySem PySem.Spec PyProof.Rows L2
def putAllG {κ : Type} [DecidableEq κ] (acc kvs : List (κ × D)) : List (κ × D) := kvs.foldl (fun acc kv => putG acc kv.1 kv.2) acc
section
variable {K : PySem.W.Frag} {wd : Wd}
theorem putAll_reps : ∀ {vs : List (List Key × V)} {ds : List (List Key × D)}, vs.map (·.1) = ds.map (·.1) → Reps K wd (vs.map (·.2)) (ds.map (·.2)) → ∀ {as : List (List Key × V)} {bs : List (List Key × D)}, as.map (·.1) = bs.map (·.1) → Reps K wd (as.map (·.2)) (bs.map (·.2)) →
    (Zd.putAll as vs).map (·.1) = (putAllG bs ds).map (·.1) ∧ Reps K wd ((Zd.putAll as vs).map (·.2)) ((putAllG bs ds).map (·.2))
  | [], [], _, _, _, _, e, r => ⟨e, r⟩
  | [], _ :: _, e, _, _, _, _, _ => by cases e
  | _ :: _, [], e, _, _, _, _, _ => by cases e
  | (k, v) :: vs, (k', d) :: ds, e, r, as, bs, e', r' => by
    rw [List.map_cons, List.map_cons] at e
    obtain ⟨e1, e2⟩ := List.cons.inj e
    have e1 : k = k' := e1
    subst e1
    cases r with
    | cons r1 r2 =>
      obtain ⟨a, b⟩ := put_repsG (k := k) r1 e' r'
      exact putAll_reps e2 r2 a b
/-- pairs that are data: their keys and values -/
theorem pairs_of_data {T : List (Addr × Str)} {H : Hp} (g : Good T wd H) : ∀ {ws : List V} {kvs : List (List Int × D)}, Reps K wd ws (kvs.map fun kv => D.tup [keyT (iK kv.1), kv.2]) →
    ∃ (ps : List Addr) (vs : List (List Key × V)), ws = ps.map V.ref ∧ Paired (fun p kv => ∃ b, SqT K H p [.ref b, kv.2] ∧ H b = some (.tup (kv.1.map kV))) ps vs ∧ vs.map (·.1) = kvs.map (fun kv => iK kv.1) ∧ Reps K wd (vs.map (·.2)) (kvs.map (·.2))
  | _, [], r => by
    cases r
    exact ⟨[], [], rfl, .nil, rfl, .nil⟩
  | _, (ns, d) :: kvs, r => by
    rw [List.map_cons] at r
    cases r with
    | cons r1 r2 =>
      obtain ⟨ps, vs, e1, e2, e3, e4⟩ := pairs_of_data g r2
      subst e1
      cases r1 with
      | tup h hs =>
        cases hs with
        | cons k1 hs =>
          cases hs with
          | cons v1 hs =>
            cases hs
            have k1 : Rep K wd _ (.tup ((iK ns).map kD)) := k1
            have ek : (iK ns).map kD = ns.map D.int := by
              unfold iK
              rw [List.map_map]
              rfl
            rw [ek] at k1
            cases k1 with
            | tup hk rk =>
              rw [rk.ints] at hk
              refine ⟨_ :: ps, (iK ns, _) :: vs, rfl, .cons ⟨_, .inl (.inl (g.sub _ _ h)), ?_⟩ e2, ?_, .cons v1 e4⟩
              · show H _ = some (.tup ((iK ns).map kV))
                rw [iK_V]
                exact g.sub _ _ hk
              · rw [List.map_cons, List.map_cons, e3]
end
section
variable {X : Cx} {T : List (Addr × Str)} {E : XK} {k : Nat} {x : Str} {y e : Expr} {p1 p2 pos pos' apos : Pos}
/-- dict(list of pairs), the keys tuples; nothing changes it from now on -/
def wDictT (a : W D) : W D := a.bind fun x env Q _ => ∃ kvs : List (List Int × D), x = .lst (kvs.map fun kv => D.tup [keyT (iK kv.1), kv.2]) ∧ Q (.dit (putAllG [] (kvs.map fun kv => (iK kv.1, kv.2)))) env
theorem noTb_frz {o : Obj} {u : HO} : noTb (.frz o u) := fun _ h => nomatch h
theorem je_dictT {a : W D} {p pos : Pos} (B : Bd X E k) (hm : X.mg "dict" = none) (ha : JE T X E e a) (hg : Gl X "dict" := by rfl) (na : starEach [e] X.env = (false, eval e X.env) :: starEach [] X.env := by rfl) (hpl : (backTo pos (starEach [] X.env)).any (·.1) = false := by rfl) :
    JE T X E (.Call (.Name "dict" p) [e] [] pos) (wDictT a) :=
  peI (pe_frz (pe_callTy (Zd.call_dictT B.calm (by have := B.room.un; omega)) hg hm (by decide +kernel) (pa_cons ha pa_nil na) (by decide) (by decide) na hpl)) fun σ H Q ⟨c, wd, env, P, Ex, r, h, xo, kk⟩ => ⟨c, wd, env, _, Ex, r, h, xo, fun x env1 h1 v wd1 H1 le1 r1 rp1 => by
    obtain ⟨kvs, rfl, h2⟩ := h1
    cases rp1 with
    | lst hl rl =>
      obtain ⟨ps, vs, e1, e2, e3, e4⟩ := pairs_of_data r1.good rl
      subst e1
      refine ⟨_, ps, vs, rfl, .inl (.inl (r1.good.sub _ _ hl)), e2, fun p hp => ⟨p, _, rfl, upd_same, trivial, fun od => ?_⟩⟩
      rw [upd_upd]
      have g : Grow wd1 H1 (wd1.add p (.frz od (.dT (Zd.putAll [] vs)))) (upd H1 p (.frz od (.dT (Zd.putAll [] vs)))) := Grow.one hp noTb_frz trivial
      have le2 : Le wd1 (wd1.add p (.frz od (.dT (Zd.putAll [] vs)))) := Le.add (r1.good.mnone hp)
      have em : vs.map (·.1) = (kvs.map fun kv => (iK kv.1, kv.2)).map (·.1) := by rw [e3, List.map_map]; rfl
      have er : Reps X.K (wd1.add p (.frz od (.dT (Zd.putAll [] vs)))) (vs.map (·.2)) ((kvs.map fun kv => (iK kv.1, kv.2)).map (·.2)) := by
        rw [List.map_map]
        exact e4.mono le2
      obtain ⟨q1, q2⟩ := putAll_reps em er (as := []) (bs := []) rfl .nil
      exact kk _ env1 h2 (.ref p) _ _ (le1.trans le2) (r1.grow g) (.dit upd_same q1 q2)⟩
end
end Pd

/-! list(d.items()), the dict's keys tuples -/
namespace Zd
open PySem PySem.Spec PyProof.Rows L2 Zn L2.DX
section
variable {prog : Program} {w : World} {A : Around} {E : Value → Shared → Prop} {s : Shared}
theorem call_list_view {r d : Addr} {es : Array DictEntry} {ep : Nat} {Q : Value → Shared → Prop} (hh : A.handled = none) (hv : s.heap.IsItemsView r d) (hm : DT.Raw s.heap d es ep) (hn : es.size ≤ sizeLine)
    (hQ : ∀ h' tk acc c as, (∀ b o, s.heap.get? b = some o → h'.get? b = some o) → h'.get? s.heap.objs.size = some { cls := .type "list", dict := none, data := .seq acc c, slots := #[] } → as.length = es.size → DT.Made es s.heap.objs.size h' as → acc.toList = as.map Value.ref → Q (.ref s.heap.objs.size) { s with heap := h', toks := tk }) :
    wpAny (model prog w) A (call (.type "list") [.ref r]) Q E s := by
  have hr : r < s.heap.objs.size := let ⟨_, ho, _⟩ := hv; Heap.lt_size ho
  have hd : d < s.heap.objs.size := hm.lt
  apply callType_codes (Q₁ := fun v s₁ => v = .ref s.heap.objs.size ∧ s₁ = { s with heap := s.heap.push { cls := .type "list", data := .seq #[] } }) PySem.F.called_list (PySem.F.typeCall_list_1 _) PySem.F.entry_list_init (PySem.code_list_new _ ⟨rfl, rfl⟩)
  rintro _ _ ⟨rfl, rfl⟩
  have fresh : (s.heap.push { cls := .type "list", data := .seq #[] }).get? s.heap.objs.size = some { cls := .type "list", data := .seq #[] } := Heap.get?_push_size _ rfl
  have bare := Heap.get?_update_self (Obj.mapSeq fun _ => #[]) fresh rfl
  have old : ∀ a o, s.heap.get? a = some o → ((s.heap.push { cls := .type "list", data := .seq #[] }).update s.heap.objs.size (Obj.mapSeq fun _ => #[])).get? a = some o := fun a o e => by
    rw [Heap.get?_update_other _ _ (Nat.ne_of_gt (Heap.lt_size e))]
    exact Heap.get?_push_of_some _ e
  have more : s.heap.objs.size ≤ ((s.heap.push { cls := .type "list", data := .seq #[] }).update s.heap.objs.size (Obj.mapSeq fun _ => #[])).objs.size := Nat.le_of_lt (Heap.lt_size bare)
  refine ⟨⟨_, fresh, rfl⟩, PySem.F.args_list_init_2 _ _, ?_⟩
  unfold Builtin.«list.__init__»
  generalize hX : Builtin.List.listExtendWith = X
  unfold Builtin.List.listItems Builtin.List.listUpdate
  generalize hU : updateSeq = U
  wp_walk using wpAny_seqItems fresh rfl
  subst hU hX
  apply wpAny_updateSeq fresh rfl
  apply wpAny_bind
  apply wpAny_letGo
  refine DT.extI (A := A.in1) (es := es) (ep := ep) hh (let ⟨o, ho, x⟩ := hv; ⟨o, old _ _ ho, x⟩) (hm.at' fun o e => old _ _ e) s.heap.objs.size (Nat.ne_of_gt hr) (Nat.ne_of_lt hd) .none _ bare (fun h' tk acc c as far inS many made items => ?_) hn
  refine ⟨rfl, hQ h' tk acc c as (fun a o e => far a o (Nat.ne_of_lt (Heap.lt_size e)) (old a o e)) inS many (made.low more) items⟩
end
section
variable {X : Cx}
theorem take_put {pins : List (Addr × Obj)} {σ : L2.St} {H0 : Hp} {s : Shared} {h' : Heap} {tk : Nat} (I0 : Inv X pins σ H0 s) : ∀ (as : List Addr) (vss : List (List V)) (H1 : Hp), Inv X pins σ H1 { s with heap := h', toks := tk } → as.Nodup →
    (∀ (j : Nat) (a : Addr) (v : List V), as[j]? = some a → vss[j]? = some v → ∀ H2, ObjOk X.prog X.w H2 h' a (.tup v)) → (∀ a ∈ as, s.heap.objs.size ≤ a ∧ H1 a = none) → Inv X pins σ (putN H1 as vss) { s with heap := h', toks := tk }
  | [], _, H1, I1, _, _, _ => I1
  | _ :: _, [], H1, I1, _, _, _ => I1
  | a :: as, v :: vss, H1, I1, nd, ok, fr => by
    obtain ⟨f1, f2⟩ := fr a List.mem_cons_self
    have nd := List.nodup_cons.mp nd
    have I2 : Inv X pins σ (upd H1 a (.tup v)) { s with heap := h', toks := tk } := I1.take (h' := h') (t' := tk) (fun b ob _ e => e) (I0.fpOk f1 f2) (ok 0 a v rfl rfl _)
    exact take_put I0 as vss (upd H1 a (.tup v)) I2 nd.2 (fun j b u e1 e2 => ok (j + 1) b u (by simpa using e1) (by simpa using e2)) fun b hb => ⟨(fr b (List.mem_cons_of_mem _ hb)).1, by rw [upd_ne (fun z => nd.1 (by rw [← z]; exact hb))]; exact (fr b (List.mem_cons_of_mem _ hb)).2⟩
def itemV (kvs : List (List Key × V)) (bs : List Addr) : List (List V) := List.zipWith (fun kv b => [V.ref b, kv.2]) kvs bs
theorem call_list_items (hc : X.calm = true) : CallR X (.type "list") (fun xs H Q => ∃ (p a : Addr) (kvs : List (List Key × V)), xs = [.ref p] ∧ H p = some (itemsO p a) ∧ Rd H a (.dT kvs) ∧
    ∀ S ts bs, IsKeys H kvs bs → H S = none → (∀ t ∈ ts, H t = none) → S ∉ ts → ts.Nodup → ts.length = kvs.length → Q (.ref S) (putN (upd H S (.lst (ts.map V.ref))) ts (itemV kvs bs))) := by
  intro pins s σ H xs us Q I r h
  obtain ⟨p, a, kvs, rfl, hp, ha, q⟩ := h
  obtain ⟨u, rfl, rx⟩ := r.one
  cases rx
  have view : s.heap.IsItemsView p a := (show ObjOk X.prog X.w H s.heap p (itemsO p a) from I.hok p _ hp).1
  obtain ⟨z, hs, ks, pr, o, es, ep, ho, hx, hdt, he, hn⟩ := (show ObjOk X.prog X.w H s.heap a (.dT kvs) from ha.ok I.hok)
  have l1 : es.size = ks.length := size_of_entries he
  have l2 : kvs.length = ks.length := Paired.length pr
  refine call_list_view (es := es) (ep := ep) (I.ok.hd hc) view ⟨o, ho, hx, hdt⟩ (by omega) fun h' tk acc c as hk hS hl hG hacc => ?_
  have fresh : ∀ b : Addr, s.heap.objs.size ≤ b → H b = none := fun b hb => I.hok.fresh hb
  have out : s.heap.objs.size ∉ as := fun z => Nat.lt_irrefl _ (hG.above _ z)
  have nd : as.Nodup := hG.rise.imp fun {a b} (lt : a < b) => Nat.ne_of_lt lt
  have nT : ∀ t ∈ as, H t = none := fun t ht => fresh t (Nat.le_of_lt (hG.above t ht))
  have I1 : Inv X pins σ (upd H s.heap.objs.size (.lst (as.map V.ref))) { s with heap := h', toks := tk } := I.laid (t' := tk) hk (Nat.le_refl _) ⟨by rw [List.length_map]; omega, acc.toList, c, by rw [hacc]; exact LiI.vals_refs as, by simpa using hS⟩
  refine ⟨.ref s.heap.objs.size, _, take_put I as (itemV kvs (ks.map fun x => x.2.1)) _ I1 nd (fun j b v e1 e2 H2 => ?_) (fun b hb => ⟨Nat.le_of_lt (hG.above b hb), by rw [upd_ne (fun z => out (by rw [← z]; exact hb))]; exact nT b hb⟩), rfl, q _ as _ (isKeys_of pr) (fresh _ (Nat.le_refl _)) nT out nd (by omega)⟩
  obtain ⟨en, he2, hg⟩ := hG.pairs j b e1
  rw [entry_at he j] at he2
  unfold itemV at e2
  rw [List.getElem?_zipWith] at e2
  cases hxj : ks[j]? with
  | none =>
    rw [hxj] at he2
    exact nomatch (show (none : Option DictEntry) = some en from he2)
  | some x =>
    rw [hxj] at he2
    have een : entryOfKey (tupleKind (mixKind X.prog X.w)) x = en := Option.some.inj he2
    obtain ⟨e0, he0, r1, r2, r3⟩ := pget pr hxj
    have e2 : some [V.ref x.2.1, e0.2] = some v := by
      rw [he0, List.getElem?_map, hxj] at e2
      exact e2
    obtain rfl := Option.some.inj e2
    refine ⟨by show (2 : Nat) ≤ sizeLine; decide, [Value.ref x.2.1, x.2.2], .cons rfl (.cons r3 .nil), ?_⟩
    rw [← een] at hg
    exact ⟨_, hg, rfl, 0, rfl⟩
theorem mt_itemsF : MtR X "dict.items" (fun x xs H Q => ∃ (a : Addr) (kvs : List (List Key × V)), x = .ref a ∧ xs = [] ∧ Rd H a (.dT kvs) ∧ ∀ p, H p = none → Q (.ref p) (upd H p (itemsO p a))) := by
  intro pins s σ H x xs v us Q I rx rxs h
  obtain ⟨a, kvs, rfl, rfl, ha, q⟩ := h
  cases rx
  cases rxs
  obtain ⟨z, hd, xs', rel, o, es, ep, ho, hx, hdat, _⟩ := dt_rd I.hok ha
  refine DT.callItems (es := es) (ep := ep) hd ⟨o, ho, hx, hdat⟩ ?_
  exact ⟨.ref s.heap.objs.size, _, I.laid (o := itemsO s.heap.objs.size a) (t' := s.toks) (fun b u e => Heap.get?_push_of_some _ e) (Nat.le_refl _) (itemsO_ok (Heap.get?_push_size _ rfl)), rfl, q _ (I.hok.fresh (Nat.le_refl _))⟩
end
end Zd
namespace Zd
open PySem PySem.Spec PyProof.Rows L2 Zn L2.DX
section
variable {X : Cx} {o : Expr} {to : TE} {apos cpos : Pos}
def tItemsF (to : TE) : TE := fun σ H Q => to σ H fun x H1 => ∃ (a : Addr) (kvs : List (List Key × V)), x = .ref a ∧ Rd H1 a (.dT kvs) ∧ ∀ p, H1 p = none → Q (.ref p) (upd H1 p (itemsO p a))
theorem pe_itemsF (ho : PE X o to) (hbase : attributeBase o "items" X.env (eval o X.env) = eval o X.env := by rfl) (hline : (apos.endLine == cpos.line) = true := by rfl) : PE X (.Call (.Attribute o "items" apos) [] [] cpos) (tItemsF to) := by
  refine ⟨fun pins s σ H Q I h => ?_⟩
  refine wpAny_Call_method0_late hbase hline (thn (ho.run pins s σ H _ I h) fun v s1 ⟨x, H1, I1, r1, a, kvs, ex, rd, q1⟩ => ?_)
  subst ex
  cases r1
  obtain ⟨z, hd, xs', rel, ob, es, ep, h1, hx, hdat, _⟩ := dt_rd I1.hok rd
  exact ⟨"dict", "dict.items", PySem.F.plainAttrs_dict, PySem.F.slot_dict_items, PySem.F.type_dict_items, ⟨ob, h1, hx.1⟩, fun b e => by cases e; exact ⟨ob, h1, hx.2.1⟩, PySem.Calls.callWith_builtin rfl (PySem.evalArgs_none (mt_itemsF pins s1 σ H1 (.ref a) [] (.ref a) [] Q I1 rfl .nil ⟨a, kvs, rfl, rfl, rd, q1⟩))⟩
end
end Zd
namespace Pd
open PySem PySem.Spec PyProof.Rows L2 Zn L2.DX
theorem noTb_ext {φ : Heap → Prop} : noTb (.ext φ) := fun _ h => nomatch h
theorem grow_items {K : PySem.W.Frag} {T : List (Addr × Str)} : ∀ (ts : List Addr) {wd : Wd} {H : Hp} {vs : List (List Key × V)} {ks : List (List Key × D)} {bs : List Addr}, Good T wd H → Reps K wd (bs.map V.ref) ((ks.map (·.1)).map keyT) → Reps K wd (vs.map (·.2)) (ks.map (·.2)) → (∀ t ∈ ts, H t = none) → ts.Nodup → ts.length = ks.length →
    ∃ wd', Grow wd H wd' (putN H ts (Zd.itemV vs bs)) ∧ Reps K wd' (ts.map V.ref) (ks.map fun kv => D.tup [keyT kv.1, kv.2])
  | [], wd, H, vs, ks, bs, g, rk, rv, _, _, hl => by
    cases ks with
    | nil => exact ⟨wd, .refl _ _, .nil⟩
    | cons a l => simp at hl
  | t :: ts, wd, H, vs, [], bs, g, rk, rv, _, _, hl => by simp at hl
  | t :: ts, wd, H, [], k :: ks, bs, g, rk, rv, _, _, hl => by cases rv
  | t :: ts, wd, H, v :: vs, k :: ks, [], g, rk, rv, _, _, hl => by cases rk
  | t :: ts, wd, H, v :: vs, k :: ks, b :: bs, g, rk, rv, hn, nd, hl => by
    cases rk with
    | cons rk1 rk2 =>
      cases rv with
      | cons rv1 rv2 =>
        have nd := List.nodup_cons.mp nd
        have g1 : Grow wd H (wd.add t (.tup [.ref b, v.2])) (upd H t (.tup [.ref b, v.2])) := Grow.one (hn t List.mem_cons_self) noTb_tup (show (2 : Nat) ≤ sizeLine by decide)
        have le1 := g1.le g
        obtain ⟨wd', g2, r2⟩ := grow_items ts (g1.all g).1 (rk2.mono le1) (rv2.mono le1) (fun u hu => by rw [upd_ne (fun z => nd.1 (by rw [← z]; exact hu))]; exact hn u (List.mem_cons_of_mem _ hu)) nd.2 (by simpa using hl)
        refine ⟨wd', g1.trans g2, ?_⟩
        have le2 := g2.le (g1.all g).1
        exact .cons (.tup (le2.m _ _ upd_same) (.cons (rk1.mono (le1.trans le2)) (.cons (rv1.mono (le1.trans le2)) .nil))) r2
section
variable {X : Cx} {T : List (Addr × Str)} {E : XK} {k : Nat} {o : Expr} {p pos apos cpos : Pos}
/-- list(d.items()) -/
def wListItems (a : W D) : W (List D) := a.bind fun x env Q _ => ∃ ks : List (List Key × D), x = .dit ks ∧ ks.length ≤ 1000000 ∧ Q (ks.map fun kv => D.tup [keyT kv.1, kv.2]) env
theorem jf_listItems {a : W D} (B : Bd X E k) (hm : X.mg "list" = none) (ha : JE T X E o a) (hg : Gl X "list" := by rfl) (hbase : attributeBase o "items" X.env (eval o X.env) = eval o X.env := by rfl) (hline : (apos.endLine == cpos.line) = true := by rfl)
    (na : starEach [.Call (.Attribute o "items" apos) [] [] cpos] X.env = (false, eval (.Call (.Attribute o "items" apos) [] [] cpos) X.env) :: starEach [] X.env := by rfl) (hpl : (backTo pos (starEach [] X.env)).any (·.1) = false := by rfl) :
    JF T X E (.Call (.Name "list" p) [.Call (.Attribute o "items" apos) [] [] cpos] [] pos) (wListItems a) :=
  peI (pe_callTy (Zd.call_list_items B.calm) hg hm (by decide +kernel) (pa_cons (Zd.pe_itemsF ha hbase hline) pa_nil na) (by decide) (by decide) na hpl) fun σ H Q ⟨c, wd, env, P, Ex, r, h, xo, kk⟩ => ⟨c, wd, env, _, Ex, r, h, xo, fun x env1 h1 v wd1 H1 le1 r1 rp1 => by
    obtain ⟨ks, rfl, hl, h2⟩ := h1
    cases rp1 with
    | dit hd en er =>
      rename_i a od vs
      have h1a := r1.good.sub _ _ hd
      refine ⟨a, vs, rfl, .inr ⟨_, h1a⟩, fun p hp => ?_⟩
      have pa : a ≠ p := fun z => by rw [z, hp] at h1a; cases h1a
      refine ⟨p, a, vs, rfl, upd_same, .inr ⟨_, (upd_ne pa).trans h1a⟩, fun S ts bs hk hS hts nS nd ht => ?_⟩
      have g1 : Grow wd1 H1 (wd1.add p (itemsO p a)) (upd H1 p (itemsO p a)) := Grow.one hp noTb_ext trivial
      have le2 := g1.le r1.good
      obtain ⟨wd3, le3, r3, rk⟩ := knowns hk (r1.grow g1)
      rw [en] at rk
      have lv : vs.length = ks.length := by
        have := congrArg List.length en
        rwa [List.length_map, List.length_map] at this
      obtain ⟨wd4, g4, r4⟩ := grow_items ts r3.good rk (er.mono (le2.trans le3)) hts nd (by omega)
      have le4 := g4.le r3.good
      have nS2 : putN (upd H1 p (itemsO p a)) ts (Zd.itemV vs bs) S = none := (putN_off ts _ _ nS).trans hS
      have hz : (ts.map V.ref).length ≤ sizeLine := by
        rw [List.length_map, ht, lv]
        exact sz6 hl
      obtain ⟨r5, f⟩ := (r3.grow g4).fresh nS2 r4 hz
      rw [putN_comm ts _ nS]
      exact kk _ env1 h2 (.ref S) wd4 _ (((le1.trans le2).trans le3).trans le4) r5 f⟩
end
end Pd

/-! d.get(k, x) of dicts with tuple keys -/
namespace Pd
open PySem PySem.Spec PyProof.Rows L2 LamX
section
variable {K : PySem.W.Frag} {wd : Wd}
theorem val_none {k : List Key} : ∀ {vs : List (List Key × V)} {ds : List (List Key × D)}, vs.map (·.1) = ds.map (·.1) → lookG ds k = none → valV vs k = none
  | [], _, _, _ => rfl
  | _ :: _, [], e, _ => by cases e
  | (a, v) :: vs, (b, d) :: ds, e, h => by
    rw [List.map_cons, List.map_cons] at e
    obtain ⟨e1, e2⟩ := List.cons.inj e
    have e1 : a = b := e1
    subst e1
    unfold lookG at h
    rw [List.find?_cons] at h
    by_cases hk : a = k
    · have : decide (a = k) = true := decide_eq_true hk
      simp only [this] at h
      cases h
    · have : decide (a = k) = false := decide_eq_false hk
      simp only [this] at h
      have h3 := val_none e2 h
      unfold valV at h3 ⊢
      rw [List.find?_cons]
      simp only [this]
      exact h3
theorem look_else {k : List Key} {vs : List (List Key × V)} {ds : List (List Key × D)} (e : vs.map (·.1) = ds.map (·.1)) (r : Reps K wd (vs.map (·.2)) (ds.map (·.2))) {u : V} {z : D} (ru : Rep K wd u z) : Rep K wd ((valV vs k).getD u) ((lookG ds k).getD z) := by
  cases h : lookG ds k with
  | none =>
    rw [val_none e h]
    exact ru
  | some d =>
    obtain ⟨v, e1, rv⟩ := look_repsG e r d h
    rw [e1]
    exact rv
end
section
variable {X : Cx} {T : List (Addr × Str)} {E : XK} {k : Nat} {x : Str} {o e f : Expr} {p1 apos cpos : Pos}
/-- d.get(k, x), d such data -/
def wDitGetD (a b c : W D) : W D := a.bind fun x env Q ex => ∃ ks, x = .dit ks ∧ (b.bind fun y => c.bind fun z env' Q' _ => ∃ ns : List Int, y = .tup (ns.map D.int) ∧ Q' ((lookG ks (iK ns)).getD z) env') env Q ex
theorem je_ditGetD {a b c : W D} (B : Bd X E k) (ho : JE T X E o a) (he : JE T X E e b) (hf : JE T X E f c) (m : M2 X o "get" apos e f cpos) : JE T X E (.Call (.Attribute o "get" apos) [e, f] [] cpos) (wDitGetD a b c) :=
  peI (pe_dget2 (by have := B.room.un; omega) ho he hf m) fun σ H Q ⟨c, wd, env, P, Ex, r, h, xo, kk⟩ => ⟨c, wd, env, _, Ex, r, h, xo, fun x env1 h1 v wd1 H1 le1 r1 rp1 => by
    obtain ⟨ks, rfl, h1⟩ := h1
    cases rp1 with
    | dit hd en er =>
      rename_i a od vs
      refine ⟨a, rfl, .inr ⟨_, .inr ⟨_, r1.good.sub _ _ hd⟩⟩, c, wd1, env1, _, Ex, r1, h1, xo, fun y env2 h2 u wd2 H2 le2 r2 rp2 => ⟨c, wd2, env2, _, Ex, r2, h2, xo, fun z env3 h3 w wd3 H3 le3 r3 rp3 => ?_⟩⟩
      obtain ⟨ns, rfl, h3⟩ := h3
      have rp2 := Rep.mono le3 rp2
      cases rp2 with
      | tup hb rb =>
        rw [rb.ints] at hb
        have le := le2.trans le3
        refine ⟨_, .inr ⟨vs, iK ns, _, .inr ⟨_, r3.good.sub _ _ (le.m _ _ hd)⟩, rfl, by rw [iK_V]; exact r3.good.sub _ _ hb, rfl⟩, kk _ env3 h3 _ wd3 H3 (le1.trans le) r3 (look_else en (er.mono le) rp3)⟩⟩
/-- d.get(k, x), d an own dict -/
def wDcuGetD (i : Nat) (b c : W D) : W D := fun env Q ex => dcuIs env i fun _ => b env (fun y env1 => c env1 (fun z env2 => dcuIs env2 i fun ks => ∃ ns : List Int, y = .tup (ns.map D.int) ∧ Q ((lookG ks (iK ns)).getD z) env2) ex) ex
theorem je_dcuGetD (i : Nat) {b c : W D} (B : Bd X E k) (he : JE T X E e b) (hf : JE T X E f c) (m : M2 X (.Name x p1) "get" apos e f cpos) (hN : X.N[i]? = some x := by rfl) (hv : Vis X.env.scope x := by first | exact Or.inl rfl | exact Or.inr (Or.inl rfl) | exact Or.inr (Or.inr rfl)) (hd : (x == ("__debug__" : Str)) = false := by decide)
    (hcd : (x == ("__classdict__" : Str)) = false := by decide) : JE T X E (.Call (.Attribute (.Name x p1) "get" apos) [e, f] [] cpos) (wDcuGetD i b c) :=
  peI (pe_dget2 (by have := B.room.un; omega) (pe_var hN hv hd hcd) he hf m) fun σ H Q ⟨c, wd, env, P, Ex, r, h, xo, kk⟩ => by
    obtain ⟨ks0, e0, h⟩ := dcuIs_inv h
    obtain ⟨p0, vs0, z0, zh, _⟩ := dct_t (r.ext.dct i none (.t ks0) (gt_eq _ _ e0))
    refine ⟨.ref p0, z0, p0, rfl, .inr ⟨vs0, .inl zh⟩, c, wd, env, _, Ex, r, h, xo, fun y env1 h1 u wd1 H1 le1 r1 rp1 => ⟨c, wd1, env1, _, Ex, r1, h1, xo, fun z env2 h2 w wd2 H2 le2 r2 rp2 => ?_⟩⟩
    obtain ⟨ks, e1, ns, rfl, h3⟩ := dcuIs_inv h2
    obtain ⟨p, vs, z1, z2, z3, z4, z5, z6⟩ := dct_t (r2.ext.dct i none (.t ks) (gt_eq _ _ e1))
    rw [z0] at z1
    cases z1
    have rp1 := Rep.mono le2 rp1
    cases rp1 with
    | tup hb rb =>
      rw [rb.ints] at hb
      exact ⟨_, .inr ⟨vs, iK ns, _, .inl z2, rfl, by rw [iK_V]; exact r2.good.sub _ _ hb, rfl⟩, kk _ env2 h3 _ wd2 H2 (le1.trans le2) r2 (look_else z5 z6 rp2)⟩
/-- d[k], d an own dict -/
def wDcuGet (i : Nat) (b : W D) : W D := fun env Q ex => dcuIs env i fun _ => b env (fun y env1 => dcuIs env1 i fun ks => ∃ (ns : List Int) (z : D), y = .tup (ns.map D.int) ∧ lookG ks (iK ns) = some z ∧ Q z env1) ex
theorem je_dcuGet (i : Nat) {b : W D} {pos : Pos} (B : Bd X E k) (he : JE T X E e b) (hs : NoSl e) (hN : X.N[i]? = some x := by rfl) (hv : Vis X.env.scope x := by first | exact Or.inl rfl | exact Or.inr (Or.inl rfl) | exact Or.inr (Or.inr rfl)) (hd : (x == ("__debug__" : Str)) = false := by decide)
    (hcd : (x == ("__classdict__" : Str)) = false := by decide) : JE T X E (.Subscript (.Name x p1) e pos) (wDcuGet i b) :=
  peI (pe_dget (by have := B.room.un; omega) (pe_var hN hv hd hcd) he hs) fun σ H Q ⟨c, wd, env, P, Ex, r, h, xo, kk⟩ => by
    obtain ⟨ks0, e0, h⟩ := dcuIs_inv h
    obtain ⟨p0, vs0, z0, zh, _⟩ := dct_t (r.ext.dct i none (.t ks0) (gt_eq _ _ e0))
    refine ⟨.ref p0, z0, c, wd, env, _, Ex, r, h, xo, fun y env1 h1 u wd1 H1 le1 r1 rp1 => ?_⟩
    obtain ⟨ks, e1, ns, z, rfl, e2, h3⟩ := dcuIs_inv h1
    obtain ⟨p, vs, z1, z2, z3, z4, z5, z6⟩ := dct_t (r1.ext.dct i none (.t ks) (gt_eq _ _ e1))
    rw [z0] at z1
    cases z1
    cases rp1 with
    | tup hb rb =>
      rw [rb.ints] at hb
      obtain ⟨v, e3, rv⟩ := look_repsG z5 z6 z e2
      exact ⟨p0, v, rfl, .inr ⟨vs, iK ns, _, .inl z2, rfl, by rw [iK_V]; exact r1.good.sub _ _ hb, e3.symm⟩, kk z env1 h3 v wd1 H1 le1 r1 rv⟩
end
end Pd

/-! {k: v, ..} whose keys are tuples -/
namespace Zd
open PySem PySem.Spec PyProof.Rows L2
section
variable {X : Cx}
/-- the pairs of a display as they come, with their keys' addresses -/
def prsV (kvs : List (List Key × V)) (bs : List Addr) : List (V × V) := List.zipWith (fun kv b => (V.ref b, kv.2)) kvs bs
def tDispT (trs : List (TE × TE)) : TE := fun σ H Q => ∀ p, H p = none → tPairs trs σ (upd H p (.dT [])) fun ps H2 => H2 p = some (.dT []) ∧ ∃ (kvs : List (List Key × V)) (bs : List Addr), ps = prsV kvs bs ∧ Paired (fun kv b => H2 b = some (.tup (kv.1.map kV))) kvs bs ∧ kvs.length ≤ 15 ∧
  Q (.ref p) (upd H2 p (.dT (putAll [] kvs)))
theorem carries_in {pins : List (Addr × Obj)} {σ : L2.St} {H : Hp} {s : Shared} (I : Inv X pins σ H s) : ∀ {kvs : List (List Key × V)} {bs : List Addr} {ws : List (Value × Value)}, Paired (fun kv b => H b = some (.tup (kv.1.map kV))) kvs bs → VV (prsV kvs bs) ws →
    ∃ qs : List (List Key × Addr × Value), CarriesH (tupleKind (mixKind X.prog X.w)) s.heap ws qs ∧ KT H kvs qs
  | _, _, _, .nil, r => by
    cases r
    exact ⟨[], trivial, .nil⟩
  | _, _, _, .cons (a := kv) (b := b) h t, r => by
    cases r with
    | @cons a w as ws r1 r2 =>
      obtain ⟨qs, c, k⟩ := carries_in I t r2
      obtain ⟨r3, r4⟩ := r1
      obtain ⟨u, y⟩ := w
      obtain rfl : u = Value.ref b := r3
      obtain ⟨its, ⟨o, y1, y2, n, y3⟩, z2⟩ := key_in I h
      exact ⟨(kv.1, b, y) :: qs, ⟨rfl, rfl, ⟨o, its.toArray, n, y1, y2, y3, z2⟩, c⟩, .cons ⟨rfl, h, r4⟩ k⟩
theorem pe_dispT {pos : Pos} {keys : List (Option Expr)} {values : List Expr} {trs : List (TE × TE)} (hu : X.A.units < cLine) (h : PPs X pos keys values trs) (hall : keys.all (·.isSome) = true) (hl : keys.length = values.length) (h0 : keys ≠ [])
    (h15 : keys.length ≤ 15) : PE X (.Dict keys values pos) (tDispT trs) := by
  refine ⟨fun pins s σ H Q I q => ?_⟩
  have hn := I.hok.fresh (Nat.le_refl s.heap.objs.size)
  have I1 := I.laid (a := s.heap.objs.size) (o := .dT []) (h' := s.heap.push { cls := .type "dict", data := .dict #[] }) (t' := s.toks) (fun _ _ q => Heap.get?_push_of_some _ q) (Nat.le_refl _) (dt_empty s.heap I.big)
  refine wpAny_Dict_any hall hl h0 h15 (thn (h.run pins _ σ _ _ I1 (q _ hn)) fun ws s2 ⟨ps, H2, I2, rel, e, kvs, bs, ep, hk, lk, q2⟩ => ?_)
  subst ep
  obtain ⟨qs, c, kt⟩ := carries_in I2 hk rel
  obtain ⟨z, hd, xs0, r0, dd⟩ := dt_of I2.hok e
  cases r0
  have lq : qs.length ≤ 15 := by rw [← kt.length]; exact lk
  refine wpAny_storeAllH (knd := tupleKind (mixKind X.prog X.w)) hu ws qs [] s2 _ c dd (by rw [sizeLine_eq, List.length_nil]; omega) fun h' tk dd' hs => ?_
  have kt1 : KT H2 (putAll [] kvs) (storedAllH [] qs) := kt_all kt .nil
  have few : (putAll [] kvs).length ≤ sizeLine := by
    rw [kt1.length]
    have := storedAllH_length qs []
    rw [List.length_nil] at this
    rw [sizeLine_eq]
    omega
  have kt2 : KT (upd H2 s.heap.objs.size (.dT (putAll [] kvs))) (putAll [] kvs) (storedAllH [] qs) := kt1.keeps fun b ys z => by
    rw [upd_ne (fun y => by rw [y, e] at z; cases z)]
    exact z
  have he : ∃ q, h'.get? s.heap.objs.size = some q := let ⟨q, _, _, hq, _⟩ := dd'; ⟨q, hq⟩
  obtain ⟨o, es, ep, d1, d2, d3, d4, _, d6⟩ := dd'
  exact ⟨.ref s.heap.objs.size, _, d_write (ob := .dT (putAll [] kvs)) I2 (by rw [e]; exact True.intro) hs he ⟨few, hd, _, kt2, o, es, ep, d1, d2, d3, d4, d6⟩, rfl, q2⟩
end
end Zd

/-! x = {y: n}, y a tuple of ints -/
namespace Pd
open PySem PySem.Spec PyProof.Rows L2 LamX
section
variable {X : Cx} {T : List (Addr × Str)} {E : XK} {k : Nat} {x y : Str} {p1 p2 p3 pos pos' : Pos}
def sNewDct1 (i j : Nat) (n : Int) : WS := fun pe env => ∃ ns : List Int, gt env j = some (.d (.tup (ns.map D.int))) ∧ pe.nx (env.set i (some (.dct none (.t [(iK ns, .int n)]))))
theorem js_newDct1 (i j : Nat) {n : Int} {jj} (B : Bd X E k) (hi : X.N[i]? = some x := by rfl) (hx : Loc X.env.scope x := by first | exact Or.inl rfl | exact Or.inr rfl) (hs : swapsWith (.Dict [some (.Name y p2)] [.Constant (.int n) jj p3] p1) (some (.Name x pos')) pos.line X.env = pure false := by rfl)
    (hf : X.fn x = true ∨ X.env.scope.names.lookup x = some .local := by first | exact .inl rfl | exact .inr rfl)
    (hN : X.N[j]? = some y := by rfl) (hv : Vis X.env.scope y := by first | exact Or.inl rfl | exact Or.inr (Or.inl rfl) | exact Or.inr (Or.inr rfl)) (hd : (y == ("__debug__" : Str)) = false := by decide) (hcd : (y == ("__classdict__" : Str)) = false := by decide) :
    JS T X E (.Assign [.Name x pos'] (.Dict [some (.Name y p2)] [.Constant (.int n) jj p3] p1) pos) (sNewDct1 i j n) :=
  psI (ps_set B.nd hi hx (Zd.pe_dispT (by have := B.room.un; omega) (pps_cons (pe_var hN hv hd hcd) pe_int pps_nil) rfl rfl (by simp) (Nat.le_of_ble_eq_true rfl)) hs hf) fun D σ H ⟨c, wd, env, pe, r, h, o⟩ => fun p hp => by
    obtain ⟨ns, e, h⟩ := h
    obtain ⟨v, e1, rv⟩ := r.dat j _ (gt_eq _ _ e)
    cases rv with
    | tup hb rb =>
      rename_i b vs
      rw [rb.ints] at hb
      have hb := r.good.sub _ _ hb
      have ne : b ≠ p := fun z => by rw [z, hp] at hb; cases hb
      refine ⟨.ref b, e1, upd_same, [(iK ns, .int n)], [b], rfl, .cons ?_ .nil, Nat.le_of_ble_eq_true rfl, ?_⟩
      · show upd H p (.dT []) b = some (.tup ((iK ns).map kV))
        rw [upd_ne ne, iK_V]
        exact hb
      · rw [upd_upd]
        exact o.nx _ h _ wd _ (Le.refl _) (r.newDct (us := .t [(iK ns, .int n)]) (ls := .t [(iK ns, .int n)]) hp rfl (.cons (.int n) .nil) trivial)
/-- {y: n} as plain data that stands still -/
def wDitOne (j : Nat) (n : Int) : W D := fun env Q _ => ∃ ns : List Int, gt env j = some (.d (.tup (ns.map D.int))) ∧ Q (.dit [(iK ns, .int n)]) env
theorem je_ditOne (j : Nat) {n : Int} {jj} (B : Bd X E k) (hN : X.N[j]? = some y := by rfl) (hv : Vis X.env.scope y := by first | exact Or.inl rfl | exact Or.inr (Or.inl rfl) | exact Or.inr (Or.inr rfl)) (hd : (y == ("__debug__" : Str)) = false := by decide) (hcd : (y == ("__classdict__" : Str)) = false := by decide) :
    JE T X E (.Dict [some (.Name y p2)] [.Constant (.int n) jj p3] p1) (wDitOne j n) :=
  peI (pe_frz (Zd.pe_dispT (by have := B.room.un; omega) (pps_cons (pe_var hN hv hd hcd) pe_int pps_nil) rfl rfl (by simp) (Nat.le_of_ble_eq_true rfl))) fun σ H Q ⟨c, wd, env, P, Ex, r, h, _, kk⟩ => fun p hp => by
    obtain ⟨ns, e, h⟩ := h
    obtain ⟨v, e1, rv⟩ := r.dat j _ (gt_eq _ _ e)
    cases rv with
    | tup hb rb =>
      rename_i b vs
      rw [rb.ints] at hb
      have hb := r.good.sub _ _ hb
      have ne : b ≠ p := fun z => by rw [z, hp] at hb; cases hb
      refine ⟨.ref b, e1, upd_same, [(iK ns, .int n)], [b], rfl, .cons ?_ .nil, Nat.le_of_ble_eq_true rfl, p, _, rfl, upd_same, trivial, fun od => ?_⟩
      · show upd H p (.dT []) b = some (.tup ((iK ns).map kV))
        rw [upd_ne ne, iK_V]
        exact hb
      · rw [upd_upd, upd_upd]
        have g : Grow wd H (wd.add p (.frz od (.dT [(iK ns, V.int n)]))) (upd H p (.frz od (.dT [(iK ns, V.int n)]))) := Grow.one hp noTb_frz trivial
        exact kk _ env h (.ref p) _ _ (Le.add (r.good.mnone hp)) (r.grow g) (.dit upd_same rfl (.cons (.int n) .nil))
end
end Pd

/-! for a, b in d.items(), the keys tuples, d standing still -/
namespace Zd
open PySem PySem.Spec PyProof.Rows L2 Zn L2.DX
/-- the walk: each key's own tuple bs[i] and the value, in a new pair -/
def ItP (d : Addr) (o : Obj) (kvs : List (List Key × V)) (bs : List Addr) : It :=
  ⟨fun i H => H d = some (.frz o (.dT kvs)) ∧ i < kvs.length, fun i H x H' => ∃ (t : Addr) (k : List Key) (v : V) (b : Addr), kvs[i]? = some (k, v) ∧ bs[i]? = some b ∧ x = .ref t ∧ H t = none ∧ H' = upd H t (.tup [.ref b, v]), fun i H => H d = some (.frz o (.dT kvs)) ∧ kvs.length ≤ i⟩
/-- the entries of a dict's object, by its keys' addresses -/
structure Ent (o : Obj) (es : Array DictEntry) (ep : Nat) (bs : List Addr) : Prop where
  data : o.data = .dict es ep
  len : bs.length = es.size
  key : ∀ (i : Nat) (en : DictEntry), es[i]? = some en → ∃ b, bs[i]? = some b ∧ en.key = .ref b
section
variable {X : Cx} {pins : List (Addr × Obj)} {σ : L2.St} {H : Hp} {s : Shared} {d : Addr} {o : Obj} {kvs : List (List Key × V)}
theorem held (I : Inv X pins σ H s) (h : H d = some (.frz o (.dT kvs))) : s.heap.get? d = some o ∧ (d == sysModules) = false ∧ o.ExactDict ∧ kvs.length ≤ sizeLine ∧ ∃ (es : Array DictEntry) (ep : Nat) (bs : List Addr), Ent o es ep bs ∧ es.size = kvs.length ∧ IsKeys H kvs bs ∧
    ∀ (i : Nat) (en : DictEntry), es[i]? = some en → ∃ k v, kvs[i]? = some (k, v) ∧ RelV v en.val := by
  obtain ⟨at_, z, hs, xs, pr, o', es, ep, ho, hx, hdt, he, _⟩ := I.hok d _ h
  obtain rfl : o = o' := Option.some.inj (at_.symm.trans ho)
  have sz : es.size = xs.length := size_of_entries he
  have lk : kvs.length = xs.length := Paired.length pr
  have en_at : ∀ (i : Nat) (en : DictEntry), es[i]? = some en → ∃ x, xs[i]? = some x ∧ entryOfKey (tupleKind (mixKind X.prog X.w)) x = en := fun i en e => by
    rw [entry_at he i] at e
    cases q : xs[i]? with
    | none =>
      rw [q] at e
      cases e
    | some x =>
      rw [q] at e
      exact ⟨x, rfl, Option.some.inj e⟩
  refine ⟨at_, hs, hx, z, es, ep, xs.map fun x => x.2.1, ⟨hdt, by rw [List.length_map, sz], fun i en e => ?_⟩, by omega, isKeys_of pr, fun i en e => ?_⟩
  · obtain ⟨x, e1, rfl⟩ := en_at i en e
    exact ⟨x.2.1, by rw [List.getElem?_map, e1]; rfl, rfl⟩
  · obtain ⟨x, e1, rfl⟩ := en_at i en e
    obtain ⟨p, e2, _, _, r⟩ := pget pr e1
    exact ⟨p.1, p.2, e2, r⟩
end
theorem turn_pairs {P : Program} {w : World} {K : PySem.W.Frag} {elts : List Expr} {kk : Nat} {tpos : Pos} {d : Addr} {o : Obj} {kvs : List (List Key × V)} {bs : List Addr} {es : Array DictEntry} {ep : Nat} (it : Addr) (n : Ent o es ep bs) :
    Turn P w K (.Tuple elts kk tpos) (ItP d o kvs bs) [it] it (fun i h => ∃ a b, IsItemIter h it d i es.size ep a b) where
  mem := List.mem_singleton.mpr rfl
  obj i h z b hb := by
    obtain ⟨_, _, y⟩ := z
    obtain rfl := List.mem_singleton.mp hb
    exact ⟨_, y, fun v q => nomatch q⟩
  keep i h h' z k := by
    obtain ⟨a, b, y⟩ := z
    exact ⟨a, b, k it (List.mem_singleton.mpr rfl) _ y⟩
  item := by
    rintro X rfl rfl rfl calm i pins s σ H E I free ⟨a, b, y⟩ ⟨lk, lt⟩
    obtain ⟨at_, _, hx, _, es', ep', bs', n', sz, _, vals⟩ := held I lk
    obtain ⟨rfl, rfl⟩ := dict_ep n.data n'.data
    have hi : i < es'.size := by omega
    have low : it < s.heap.objs.size := Heap.lt_size y
    refine DT.nextI y ⟨o, at_, hx, n.data⟩ hi fun h1 out pair _ keeps => ⟨_, rfl, wpAny_letOwnedTupleGo_items (s := { s with heap := h1 }) out fun h2 next but => ?_⟩
    obtain ⟨c, e1, e2⟩ := n.key i _ (Array.getElem?_eq_getElem hi)
    obtain ⟨k, v, e3, rv⟩ := vals i _ (Array.getElem?_eq_getElem hi)
    have there : h2.get? s.heap.objs.size = some { cls := .type "tuple", data := .seq #[Value.ref c, es'[i].val] } := by
      rw [but.2 _ (Nat.ne_of_gt low), ← e2]
      exact pair
    have kept : ∀ b o, b ∉ [it] → s.heap.get? b = some o → h2.get? b = some o := fun b o nb g => by
      have ne : b ≠ it := fun z => nb (by simp [z])
      rw [but.2 b ne]
      exact keeps b o ne g
    have obj : ObjOk X.prog X.w (upd H s.heap.objs.size (.tup [.ref c, v])) h2 s.heap.objs.size (.tup [.ref c, v]) := ⟨show 2 ≤ sizeLine by decide, _, .cons rfl (.cons rv .nil), _, there, rfl, _, rfl⟩
    refine ⟨.ref s.heap.objs.size, _, I.turnedNew (t' := s.toks) kept free (Nat.le_refl _) obj, rfl, ⟨_, k, v, c, e3, e1, rfl, I.hok.fresh (Nat.le_refl _), rfl⟩, ⟨_, _, next⟩, fun b hb => ?_⟩
    obtain rfl := List.mem_singleton.mp hb
    rw [upd_ne (Nat.ne_of_lt low)]
    exact (free b hb).1
  done := by
    rintro X rfl rfl rfl calm i pins s σ H E I free ⟨a, b, y⟩ ⟨lk, ge⟩
    obtain ⟨at_, _, hx, _, es', ep', bs', n', sz, _, _⟩ := held I lk
    obtain ⟨rfl, rfl⟩ := dict_ep n.data n'.data
    obtain ⟨g0, g1, _, g3, g4, g5⟩ := free it (List.mem_singleton.mpr rfl)
    exact DT.endI (I.ok.hd calm) y ⟨o, at_, hx, n.data⟩ (by omega) fun h1 eb => ⟨rfl, I.turned (t' := s.toks) (fun b ob hb e => eb b ob hb e) g0 g1 g3 g4 g5⟩
  self A i s Q E z h := by
    obtain ⟨_, _, y⟩ := z
    exact PySem.W.kcp_self y h
end Zd
namespace Zd
open PySem PySem.Spec PyProof.Rows L2 Zn L2.DX
section
variable {X : Cx} {e : Expr} {td : TE} {elts : List Expr} {kk : Nat} {tpos apos cpos : Pos}
def iPairs (td : TE) : TI := fun σ H R => td σ H fun x H1 => ∃ (d : Addr) (o : Obj) (kvs : List (List Key × V)), x = .ref d ∧ H1 d = some (.frz o (.dT kvs)) ∧ ∀ bs, IsKeys H1 kvs bs → R (ItP d o kvs bs) H1
theorem pi_pairs (he : PE X e td) (hbase : attributeBase e "items" X.env (eval e X.env) = eval e X.env := by rfl) (hline : (apos.endLine == cpos.line) = true := by rfl) : PI X (.Tuple elts kk tpos) (.Call (.Attribute e "items" apos) [] [] cpos) (iPairs td) := by
  constructor
  intro pins s σ H R I h
  refine wpAny_Call_method0_late hbase hline (thn (he.run pins s σ H _ I h) fun v s1 ⟨x, H1, I1, r1, d, o, kvs, ex, lk, q⟩ => ?_)
  subst ex
  cases r1
  obtain ⟨at_, hs, hx, _, es, ep, bs, n, _, ks, _⟩ := held I1 lk
  refine ⟨"dict", "dict.items", PySem.F.plainAttrs_dict, PySem.F.slot_dict_items, PySem.F.type_dict_items, ⟨o, at_, hx.1⟩, fun b e => by cases e; exact ⟨o, at_, hx.2.1⟩, PySem.Calls.callWith_builtin rfl (PySem.evalArgs_none ?_)⟩
  refine DT.callItems (es := es) (ep := ep) hs ⟨o, at_, hx, n.data⟩ ?_
  have I2 : Inv X pins σ H1 { s1 with heap := s1.heap.push { cls := .type "dict_items", data := .fields #[.ref d] } } := I1.kept (t' := s1.toks) fun b ob q => Heap.get?_push_of_some _ q
  refine DT.iterI (es := es) (ep := ep) ⟨_, Heap.get?_push_size _ rfl, rfl, rfl⟩ ⟨o, Heap.get?_push_of_some _ at_, hx, n.data⟩ ?_
  exact pi_one (tk := s1.toks) I2 _ (turn_pairs _ n) ⟨.none, .none, Heap.get?_push_size _ rfl⟩ (q bs ks)
end
end Zd
namespace Pd
open PySem PySem.Spec PyProof.Rows L2 Zn L2.DX
section
variable {X : Cx} {T : List (Addr × Str)} {E : XK} {e : Expr} {elts : List Expr} {kk : Nat} {tpos apos cpos : Pos}
/-- for a, b in d.items() -/
def wItemsPairs (a : W D) : W (List D) := a.bind fun x env Q _ => ∃ ks : List (List Key × D), x = .dit ks ∧ ks.length ≤ 1000000 ∧ Q (ks.map fun kv => D.tup [keyT kv.1, kv.2]) env
theorem ji_pairs {w : W D} (he : JE T X E e w) (hbase : attributeBase e "items" X.env (eval e X.env) = eval e X.env := by rfl) (hline : (apos.endLine == cpos.line) = true := by rfl) :
    JI T X E (.Tuple elts kk tpos) (.Call (.Attribute e "items" apos) [] [] cpos) (wItemsPairs w) :=
  piI (Zd.pi_pairs he hbase hline) fun σ H R ⟨c, wd, env, P, Ex, r, h, xo, kk⟩ => ⟨c, wd, env, _, Ex, r, h, xo, fun x env1 h1 v wd1 H1 le1 r1 rp1 => by
    obtain ⟨ks, rfl, hl, h2⟩ := h1
    cases rp1 with
    | dit hd en er =>
      rename_i a o vs
      refine ⟨a, o, vs, rfl, r1.good.sub _ _ hd, fun bs hk => ?_⟩
      obtain ⟨wd2, le2, r2, rk⟩ := knowns hk r1
      rw [en] at rk
      have er := er.mono le2
      have ln : vs.length = ks.length := by
        have := congrArg List.length en
        rwa [List.length_map, List.length_map] at this
      refine kk _ env1 h2 _ wd2 H1 (le1.trans le2) r2 ?_ (by rw [List.length_map]; exact sz6 hl)
      unfold WalkD
      rw [List.length_map, ← ln]
      refine ⟨fun i H hi z => ⟨z _ _ (le2.m _ _ hd), hi⟩, fun H z => ⟨z _ _ (le2.m _ _ hd), Nat.le_refl _⟩, fun i H x H' hi z y => ?_⟩
      obtain ⟨t, k, v, b, e1, e2, e3, e4, e5⟩ := y
      have hik : i < ks.length := by omega
      have g1 : (bs.map V.ref)[i]? = some (V.ref b) := by rw [List.getElem?_map, e2]; rfl
      have g2 : (vs.map (·.2))[i]? = some v := by rw [List.getElem?_map, e1]; rfl
      obtain ⟨d1, f1, q1⟩ := rk.getV g1
      obtain ⟨d2, f2, q2⟩ := er.getV g2
      rw [List.getElem?_map, List.getElem?_map, List.getElem?_eq_getElem hik] at f1
      rw [List.getElem?_map, List.getElem?_eq_getElem hik] at f2
      obtain rfl := Option.some.inj f1
      obtain rfl := Option.some.inj f2
      refine ⟨.tup [keyT ks[i].1, ks[i].2], by rw [List.getElem?_map, List.getElem?_eq_getElem hik]; rfl, .inr (.inl ⟨t, [.ref b, v], [keyT ks[i].1, ks[i].2], e3, e4, e5, rfl, .cons q1 (.cons q2 .nil), by show 2 ≤ sizeLine; decide⟩)⟩⟩
end
end Pd

namespace Pd
open PySem PySem.Spec PyProof.Rows L2 LamX
section
variable {X : Cx} {T : List (Addr × Str)} {E : XK} {k : Nat}
theorem jf_compItems (i : Nat) {x : Str} {elt : Expr} {elts : List Expr} {kk : Nat} {tpos p1 apos cpos pos : Pos} {scope : Scope} (own : List (Str × Nat)) {g : WG} {we : W D} (B : Bd X E k) (ok : BlkOk X.N X.env.scope scope own)
    (hg : ∀ (s : Shared) (H : Hp) (C : Addr) (cl : List (Str × Addr)) (fp : List Addr), JG T (X.blk s H scope (compEnvC scope cl C X.env) fp) (own.map (·.2)) (.Tuple elts kk tpos) g)
    (he : ∀ (s : Shared) (H : Hp) (C : Addr) (cl : List (Str × Addr)) (fp : List Addr), Bd (X.blk s H scope (compEnvC scope cl C X.env) fp) E0 k → JE T (X.blk s H scope (compEnvC scope cl C X.env) fp) E0 elt we)
    (hN : X.N[i]? = some x := by rfl) (hv : Vis X.env.scope x := by first | exact Or.inl rfl | exact Or.inr (Or.inl rfl) | exact Or.inr (Or.inr rfl)) (hd : (x == ("__debug__" : Str)) = false := by decide) (hcd : (x == ("__classdict__" : Str)) = false := by decide)
    (hbase : attributeBase (.Name x p1) "items" X.env (eval (.Name x p1) X.env) = eval (.Name x p1) X.env := by rfl) (hline : (apos.endLine == cpos.line) = true := by rfl)
    (hs : ∀ z, foldedSetIterable (.Call (.Attribute (.Name x p1) "items" apos) [] [] cpos) X.env z = pure z := by intro _; rfl) :
    JF T X E (.ListComp elt [⟨.Tuple elts kk tpos, .Call (.Attribute (.Name x p1) "items" apos) [] [] cpos, [], 0⟩] scope pos) (wCompItems i g we (own.map (·.2))) := by
  have Bb : ∀ (s : Shared) (H : Hp) (C : Addr) (cl : List (Str × Addr)) (fp : List Addr), Bd (X.blk s H scope (compEnvC scope cl C X.env) fp) E0 k := fun s H C cl fp => ⟨B.room, passL, PassesOwn.never, B.calm, B.nd⟩
  exact peI (pe_lock (pe_lc (wi := iItems (tVar i)) (g := liftG X.K T (own.map (·.2)) g) (tt := lift X.K T rT E0 (W.ret true)) (te := lift X.K T (rE X.K) E0 we) B.calm B.nd (pi_items (pe_var hN hv hd hcd) hbase hline) ok hg (fun s H C cl fp => jts_nil) (fun s H C cl fp => he s H C cl fp (Bb s H C cl fp)) hs)) fun σ H Q h => lci_lift h
/-- a cell is made longer by a list -/
def wExtendC (j : Nat) (a e : W D) : W D := fun env Q ex => a env (fun x env1 => celIs env1 j x fun _ _ => e env1 (fun y env2 => celIs env2 j x fun p xs => match y with
  | .lst ys => xs.length + ys.length ≤ 1000000 ∧ Q .non (env2.set j (some (.cels (celSet (celsOf (gt env2 j)) p (xs ++ ys)))))
  | _ => False) ex) ex
theorem je_extendC (j : Nat) {o e : Expr} {apos pos : Pos} {a w : W D} (ha : JE T X E o a) (he : JB T X E e w) (hbase : attributeBase o "extend" X.env (eval o X.env) = eval o X.env := by rfl)
    (hfew : ((backTo pos (starEach [e] X.env)).all (fun x => !x.1) && (backToKw pos (keywordEach [] X.env)).all (fun x => x.1.isSome) && decide ([e].length + ([] : List Keyword).length + (if ([] : List Keyword).isEmpty then 0 else 1) < 30)) = true := by rfl)
    (hline : (apos.endLine == pos.line) = true := by rfl) (hs : starEach [e] X.env = (false, eval e X.env) :: starEach [] X.env := by rfl) (hpl : (backTo pos (starEach [] X.env)).any (·.1) = false := by rfl) : JE T X E (.Call (.Attribute o "extend" apos) [e] [] pos) (wExtendC j a w) :=
  peI (pe_bm F.plainAttrs_list F.slot_list_extend F.type_list_extend mt_extend ha (pa_cons he pa_nil hs) hbase hfew hline hs hpl) fun σ H Q ⟨c, wd, env, P, Ex, rl, h, xo, kk⟩ => by
    refine ⟨c, wd, env, _, Ex, rl, h, xo, fun x env1 h1 v wd1 H1 le1 r1 rp1 => ?_⟩
    obtain ⟨p, xs0, rfl, m0, h1⟩ := celIs_inv h1
    cases rp1
    obtain ⟨vs0, g1, _⟩ := r1.celAt m0
    refine ⟨.inl ⟨rfl, vs0, .inl (.inl g1)⟩, c, wd1, env1, _, Ex, r1, h1, xo, fun y env2 h2 u wd2 H2 le2 r2 rp2 => ?_⟩
    obtain ⟨p', xs, e', m, h2⟩ := celIs_inv h2
    cases e'
    obtain ⟨vs, z2, z6⟩ := r2.celAt m
    split at h2
    · rename_i ys
      obtain ⟨q, us, rfl, q1, q2⟩ := top_lst r2.good rp2
      have hz : vs.length + us.length ≤ sizeLine := by
        rw [z6.length, q2.length]
        exact sz6 h2.1
      refine ⟨_, _, vs, us, rfl, rfl, z2, q1, hz, kk _ _ h2.2 .non wd2 _ (le1.trans le2) (r2.mutCel m (z6.append q2) ?_) .non⟩
      rw [List.length_append]
      exact hz
    · exact h2.elim
end
end Pd

/-! x.index(e), x a list of ints that nobody changes -/
namespace Pd
open PySem PySem.Spec PyProof.Rows L2 LamX
section
variable {X : Cx} {T : List (Addr × Str)} {E : XK} {k : Nat}
def wIndexL (a e : W D) : W D := fun env Q ex => a env (fun x env1 => match x with
  | .lst xs => e env1 (fun y env2 => match y with
    | .int n => ∃ ns j, asInts xs = some ns ∧ ixOf n ns = some j ∧ Q (.int (j : Nat)) env2
    | _ => False) ex
  | _ => False) ex
theorem je_indexL {o e : Expr} {apos pos : Pos} {a w : W D} (ha : JE T X E o a) (he : JE T X E e w) (hbase : attributeBase o "index" X.env (eval o X.env) = eval o X.env := by rfl)
    (hfew : ((backTo pos (starEach [e] X.env)).all (fun x => !x.1) && (backToKw pos (keywordEach [] X.env)).all (fun x => x.1.isSome) && decide ([e].length + ([] : List Keyword).length + (if ([] : List Keyword).isEmpty then 0 else 1) < 30)) = true := by rfl)
    (hline : (apos.endLine == pos.line) = true := by rfl) (hs : starEach [e] X.env = (false, eval e X.env) :: starEach [] X.env := by rfl) (hpl : (backTo pos (starEach [] X.env)).any (·.1) = false := by rfl) : JE T X E (.Call (.Attribute o "index" apos) [e] [] pos) (wIndexL a w) :=
  peI (pe_bm F.plainAttrs_list F.slot_list_index F.type_list_index mt_index ha (pa_cons he pa_nil hs) hbase hfew hline hs hpl) fun σ H Q ⟨c, wd, env, P, Ex, rl, h, xo, kk⟩ => by
    refine ⟨c, wd, env, _, Ex, rl, h, xo, fun x env1 h1 v wd1 H1 le1 r1 rp1 => ?_⟩
    split at h1
    · rename_i xs
      cases rp1 with
      | lst m rs =>
        refine ⟨.inl ⟨rfl, _, sub_sqL r1.good m⟩, c, wd1, env1, _, Ex, r1, h1, xo, fun y env2 h2 u wd2 H2 le2 r2 rp2 => ?_⟩
        split at h2
        · rename_i n
          obtain ⟨ns, j, ea, ej, h2⟩ := h2
          cases rp2
          rw [asInts_eq ea] at rs
          have m2 := le2.m _ _ m
          rw [rs.ints] at m2
          exact index_ok (sub_sqL r2.good m2) ej (kk _ _ h2 _ wd2 H2 (le1.trans le2) r2 (.int _))
        · exact h2.elim
    · exact h1.elim
end
end Pd

namespace Pd
open PySem PySem.Spec PyProof.Rows L2 LamX
/-! ### isinstance(x, t), t a builtin type, x an instance of a class of the text or plain data -/
structure IsO (K : PySem.W.Frag) (t : String) (Cs : List Str) : Prop where
  ob : ∀ C ∈ Cs, ObC K C
  no : ∀ C ∈ Cs, PySem.W.kitOne K (.ref (He.ga K C)) (.type t) = some false
def isOB (K : PySem.W.Frag) (t : String) (Cs : List Str) : Bool := Cs.all fun C => obB K C && decide (PySem.W.kitOne K (.ref (He.ga K C)) (.type t) = some false)
theorem isOB_ok {K : PySem.W.Frag} {t : String} {Cs : List Str} (h : isOB K t Cs = true) : IsO K t Cs := by
  have h' := List.all_eq_true.mp h
  refine ⟨fun C hC => ?_, fun C hC => ?_⟩
  · exact obB_ok (Bool.and_eq_true_iff.mp (h' C hC)).1
  · exact of_decide_eq_true (Bool.and_eq_true_iff.mp (h' C hC)).2
def dIsO (Cs : List Str) (t : String) : D → Option D
  | .ins C _ => if C ∈ Cs then some (.bl false) else none
  | x => dIsi t x
section
variable {X : Cx} {T : List (Addr × Str)} {E : XK} {k : Nat}
theorem je_isO {t : String} {Cs : List Str} {y : Str} {e : Expr} {a : W D} {p p2 pos : Pos} (hc : IsO X.K t Cs) (ht : IsT t) (hm : X.mg "isinstance" = none) (hm2 : X.mg y = none) (hv2 : bootBuiltins y = some (.type t)) (ha : JE T X E e a)
    (hg : Gl X "isinstance" := by rfl) (hg2 : Gl X y := by rfl) (hn : y ≠ "__name__" := by decide) (hdb : (y == ("__debug__" : Str)) = false := by decide)
    (hs : starEach [e, .Name y p2] X.env = (false, eval e X.env) :: starEach [.Name y p2] X.env := by rfl) (hs2 : starEach [.Name y p2] X.env = (false, eval (.Name y p2) X.env) :: starEach [] X.env := by rfl) (hpl : (backTo pos (starEach [.Name y p2] X.env)).any (·.1) = false := by rfl) :
    JE T X E (.Call (.Name "isinstance" p) [e, .Name y p2] [] pos) (w1 (dIsO Cs t) a) := by
  refine peI (pe_callB call_isi hg hm (by decide +kernel) (pa_cons ha (pa_cons (pe_bltn (v := .ty t) hg2 hm2 hv2 rfl hn hdb) pa_nil hs2) hs) (by decide) (by decide) hs hpl) fun σ H Q ⟨c, wd, env, P, Ex, rl, h, xo, kk⟩ => ⟨c, wd, env, _, Ex, rl, h, xo, fun x env1 h1 v wd1 H1 le1 r1 rp => ?_⟩
  obtain ⟨z, e1, h2⟩ := opt_inv h1
  have plainly : dIsi t x = some z → ∃ (x' c' : V) (tt u : Value) (b : Bool), [v, V.ty t] = [x', c'] ∧ ClsV c' u ∧ TyX X.K H1 x' tt ∧ PySem.W.kitOne X.K tt u = some b ∧ Q (.bl b) H1 := fun h => by
    obtain ⟨s, es, rfl⟩ := Option.map_eq_some_iff.mp h
    refine ⟨v, .ty t, .type s, .type t, isa s t, rfl, .ty t, rep_ty r1.good rp es, kit_ty (ht.h s ?_), kk _ env1 h2 _ wd1 H1 le1 r1 (.bl _)⟩
    cases x <;> cases es <;> decide
  cases x with
  | ins C fs =>
    obtain ⟨hC, rfl⟩ := ite_some e1
    have o := hc.ob C hC
    cases rp with
    | ins hm' en er => exact ⟨_, .ty t, _, .type t, false, rfl, .ty t, .base (.ins (r1.good.sub _ _ hm') o.cl o.fc o.sp o.tk o.mr), hc.no C hC, kk _ env1 h2 _ wd1 H1 le1 r1 (.bl _)⟩
  | _ => exact plainly e1
/-! ### tuple(range(..)) -/
def wTupRg (w : W (Int × Int)) : W D := w.bind fun q env Q _ => (-1000000 ≤ q.1 ∧ q.1 ≤ 1000000 ∧ -1000000 ≤ q.2 ∧ q.2 ≤ 1000000) ∧ Q (.tup (Pd.upTo q.1 q.2)) env
theorem je_tupRg {x : Expr} {p pos : Pos} {w : W (Int × Int)} (B : Bd X E k) (hm : X.mg "tuple" = none) (he : JR T X E x w) (hg : Gl X "tuple" := by rfl) (na : starEach [x] X.env = (false, eval x X.env) :: starEach [] X.env := by rfl) : JE T X E (.Call (.Name "tuple" p) [x] [] pos) (wTupRg w) :=
  peI (pe_tupRg B.calm hg hm he na) fun σ H Q ⟨c, wd, env, P, Ex, rl, h, xo, kk⟩ => ⟨c, wd, env, _, Ex, rl, h, xo, fun q env1 h1 q' wd1 H1 le1 r1 rp1 => by
    subst rp1
    obtain ⟨⟨i0, i1, j0, j1⟩, h2⟩ := h1
    refine ⟨⟨by omega, by omega, by omega, by omega, by omega⟩, fun S hS => ?_⟩
    have hz : Sized (.tup (L2.rgV q'.1 q'.2)) := by
      show (L2.rgV q'.1 q'.2).length ≤ sizeLine
      rw [rgV_length, sizeLine_eq]
      omega
    have gr : Grow wd1 H1 (wd1.add S (.tup (L2.rgV q'.1 q'.2))) (upd H1 S (.tup (L2.rgV q'.1 q'.2))) := Grow.one hS noTb_tup hz
    exact kk _ env1 h2 (.ref S) _ _ (le1.trans (gr.le r1.good)) (r1.grow gr) (.tup upd_same ((reps_rg q'.1 q'.2).mono (gr.le r1.good)))⟩
end
end Pd

/-! a tuple of texts, asked for something that is no text -/
namespace Zm
open PySem PySem.Spec PyProof.Rows L2 PySem.SeqAt PySem.W
open AutoSeq1 (wpAny_loadPart')
open MeetsSeq MeetsSeq2 MeetsSeq3 SeqRoads2
section
variable {prog : Program} {w : World} {A : Around} {E : Value → Shared → Prop} {s : Shared}
theorem str_no_plain (b : Str) (u : Tok) (l : Addr) (c : Value) (dd : Option Addr) (sl : Array (Option Value)) :
    Meets (Builtin.«str.__eq__» ⟨[.str b u, .ref l], []⟩) (fun _ R s => s.heap.get? l = some { cls := c, dict := dd, data := .plain, slots := sl } ∧ R (.ok (.ret .notImplemented)) s) :=
  .of_wp fun prog w A R s h => by
    obtain ⟨hp, g, d, tk, os⟩ := s
    obtain ⟨hl, h⟩ := h
    wp_walk using wpAny_load hl
    exact ⟨_, rfl, h⟩
theorem str_no_dict (b : Str) (u : Tok) (l : Addr) (c : Value) (dd : Option Addr) (en : Array DictEntry) (n : Nat) (sl : Array (Option Value)) :
    Meets (Builtin.«str.__eq__» ⟨[.str b u, .ref l], []⟩) (fun _ R s => s.heap.get? l = some { cls := c, dict := dd, data := .dict en n, slots := sl } ∧ R (.ok (.ret .notImplemented)) s) :=
  .of_wp fun prog w A R s h => by
    obtain ⟨hp, g, d, tk, os⟩ := s
    obtain ⟨hl, h⟩ := h
    wp_walk using wpAny_load hl
    exact ⟨_, rfl, h⟩
/-- a tuple none of whose items is x -/
theorem tup_misses {l : Addr} {items : Array Value} {n : Nat} {dd : Option Addr} {sl : Array (Option Value)} {x : Value} (J : Shared → Prop) : MeetsIn prog w (Builtin.«tuple.__contains__» ⟨[.ref l, x], []⟩)
    (fun A R s => s.heap.get? l = some { cls := .type "tuple", dict := dd, data := .seq items n, slots := sl } ∧ J s ∧ (∀ y, y ∈ items → ∀ s, J s → wpAny (model prog w) A.in1 (eqBool y x) (fun r s' => r = false ∧ J s') (fun e s' => R (.error e) s') s) ∧
      ∀ s, J s → R (.ok (.ret (.bool false))) s) := by
  intro A R s h
  obtain ⟨hp, g, d, tk, os⟩ := s
  obtain ⟨hl, j, he, h⟩ := h
  wp_walk using wpAny_loadPart' hl, wpAny_forIn_array _ (fun rest b s' => b.1 = none ∧ J s' ∧ ∀ y, y ∈ rest → y ∈ items) _
  case turn =>
    rintro y rest b s' ⟨hb, js, hm⟩
    refine wpAny_bind (wpAny_mono (he y (hm y (List.mem_cons_self ..)) s' js) ?_ fun _ _ x => x)
    rintro r s2 ⟨rfl, j2⟩
    wp_walk
    exact ⟨rfl, j2, fun z hz => hm z (List.mem_cons_of_mem _ hz)⟩
  case fin =>
    rintro ⟨b1, b2⟩ s' ⟨hb, js, -⟩
    simp only at hb
    subst hb
    wp_walk
    exact h _ js
  case h => exact ⟨rfl, j, fun y hy => by simpa using hy⟩
theorem contains_no {l : Addr} {items : Array Value} {x : Value} {Q : Bool → Shared → Prop} (J : Shared → Prop) (hl : s.heap.IsTuple l items) (j : J s) (he : ∀ y, y ∈ items → ∀ s, J s → wpAny (model prog w) A.in1 (eqBool y x) (fun r s' => r = false ∧ J s') E s)
    (q : ∀ s, J s → Q false s) : wpAny (model prog w) A (contains (.ref l) x) Q E s := by
  obtain ⟨⟨cls, dd, data, sl⟩, ho, hc, n, hd⟩ := id hl
  simp only at hc hd
  subst hc hd
  refine PyProof.Rows.contains_slot ⟨_, ho, rfl⟩ PySem.F.slot_tuple_contains ?_
  exact call_meetsIn PySem.F.slot_tuple_contains ⟨_, ho, rfl⟩ PySem.F.entry_tuple_contains (PySem.F.args_tuple_contains_2 _ _) (tup_misses J) ⟨ho, j, he, fun s js => wpAny_truthy_bool (q s js)⟩
/-- a text and an instance with an own == -/
theorem rc_str_ins {K : Frag} {x C L f : Addr} {h₀ : Heap} {m : Str → Option Value} {ox : Obj} {od : Option Obj} {a : Str} {t : Tok} {Q : Value → Shared → Prop} (hu : A.units < cLine) (fr : Fr h₀ L s.heap m) (X₀ : K.In h₀) (I : InstAt s.heap x ox C od)
    (pl : ox.data = .plain) (hn : subIn K (.ref C) (.type "str") = some false) (hs : findIn K (.ref C) "__eq__" = some (some (.ref f))) (hf : isFn K (.ref f) = true)
    (h : wpAny (model prog w) A (call (.ref f) [.ref x, .str a t]) (fun v s' => ∃ b, v = .bool b ∧ Q (.bool b) s') E s) : wpAny (model prog w) A (richCompare .Eq (.str a t) (.ref x)) Q E s := by
  have X := X₀.keeps fr.keep
  have T := typeIs_str s a t
  have hi : cmpInfo CmpOp.Eq = ("==", ("__eq__" : Str), ("__eq__" : Str)) := rfl
  simp only [richCompare, hi, T.oneThing_none]
  refine wpAny_holding (wpAny_bind (wpAny_cRoomFor hu ?_))
  refine wpAny_bind (wpAny_typeOf T (wpAny_bind (I.type.here ?_)))
  have ne : (Value.type "str" != Value.ref C) = true := rfl
  simp only [ne, if_true]
  refine wpAny_bind ((looks_subIn X hn).here ?_)
  simp only [Bool.false_eq_true, if_false, Bool.not_false, if_true]
  obtain ⟨c, dd, da, sl⟩ := ox
  simp only at pl
  subst pl
  have one := I.at_
  refine wpAny_bind (m := tryCompare (.str a t) _ (.ref x)) (wpAny_tryCompare_declines T PySem.F.slot_str_eq (call_meets PySem.F.slot_str_eq T PySem.F.entry_str_eq (PySem.F.args_str_eq_2 _ _) (str_no_plain a t x _ _ _) ⟨one, rfl, ?_⟩))
  refine wpAny_bind (m := tryCompare (.ref x) _ (.str a t)) ?_
  simp only [tryCompare]
  refine wpAny_bind (ifBound_K X I hs hf (wpAny_mono h ?_ fun _ _ e => e))
  rintro v s' ⟨b, rfl, q⟩
  exact wpAny_pure (wpAny_pure q)
theorem eq_str_ins {K : Frag} {x C L f : Addr} {h₀ : Heap} {m : Str → Option Value} {ox : Obj} {od : Option Obj} {a : Str} {t : Tok} {Q : Bool → Shared → Prop} (hu : A.units < cLine) (fr : Fr h₀ L s.heap m) (X₀ : K.In h₀) (I : InstAt s.heap x ox C od)
    (pl : ox.data = .plain) (hn : subIn K (.ref C) (.type "str") = some false) (hs : findIn K (.ref C) "__eq__" = some (some (.ref f))) (hf : isFn K (.ref f) = true)
    (h : wpAny (model prog w) A (call (.ref f) [.ref x, .str a t]) (fun v s' => ∃ b, v = .bool b ∧ Q b s') E s) : wpAny (model prog w) A (eqBool (.str a t) (.ref x)) Q E s := by
  unfold eqBool
  refine wpAny_holding (wpAny_ite_split (fun e => absurd (eq_of_beq e) nofun) fun _ => wpAny_bind (rc_str_ins hu fr X₀ I pl hn hs hf (wpAny_mono h ?_ fun _ _ e => e)))
  rintro v s' ⟨b, rfl, q⟩
  exact ⟨b, rfl, wpAny_truthy_bool q⟩
end
end Zm

namespace Zm
open PySem PySem.Spec PyProof.Rows L2 PySem.SeqAt PySem.W
open AutoSeq1 (wpAny_loadPart')
section
variable {prog : Program} {w : World} {A : Around} {E : Value → Shared → Prop} {s : Shared}
theorem dict_no_str (l : Addr) (dd : Option Addr) (en : Array DictEntry) (n : Nat) (sl : Array (Option Value)) (b : Str) (u : Tok) (hl : (l == sysModules) = false) :
    Meets (Builtin.«dict.__eq__» ⟨[.ref l, .str b u], []⟩) (fun _ R s => s.heap.get? l = some { cls := .type "dict", dict := dd, data := .dict en n, slots := sl } ∧ R (.ok (.ret .notImplemented)) s) :=
  .of_wp fun prog w A R s h => by
    obtain ⟨hp, g, d, tk, os⟩ := s
    obtain ⟨hd, h⟩ := h
    have f1 := PySem.F.sub_str_dict
    wp_walk using wpAny_load hd, wpAny_loadPart' hd
    exact ⟨_, rfl, h⟩
theorem eq_str_dict {l : Addr} {o : Obj} {en : Array DictEntry} {n : Nat} {a : Str} {t : Tok} {Q : Bool → Shared → Prop} (ho : s.heap.get? l = some o) (hx : o.ExactDict) (he : o.data = .dict en n) (hl : (l == sysModules) = false) (hu : A.units < cLine) (q : Q false s) : wpAny (model prog w) A (eqBool (.str a t) (.ref l)) Q E s := by
  obtain ⟨cls, dd, data, sl⟩ := o
  obtain ⟨hc, _⟩ := hx
  simp only at hc he
  subst hc he
  unfold eqBool
  refine wpAny_holding (wpAny_ite_split (fun e => absurd (eq_of_beq e) nofun) fun _ => wpAny_bind ?_)
  refine rc_eq_decline_or (k := false) (typeIs_str s a t) ⟨_, ho, rfl⟩ (by decide) PySem.F.sub_dict_str PySem.F.slot_str_eq PySem.F.slot_dict_eq_refl ?_ ?_ ?_ (.inr hu) (wpAny_truthy_bool q)
  · intro Q' hq
    exact call_meets PySem.F.slot_str_eq (typeIs_str s a t) PySem.F.entry_str_eq (PySem.F.args_str_eq_2 _ _) (str_no_dict a t l _ _ _ _ _) ⟨ho, hq⟩
  · intro Q' hq
    exact call_meets PySem.F.slot_dict_eq_refl ⟨_, ho, rfl⟩ PySem.F.entry_dict_eq (PySem.F.args_dict_eq_2 _ _) (dict_no_str l _ _ _ _ a t hl) ⟨ho, hq⟩
  · intro Q' hq
    exact wpAny_of_eq (rfl : isSame (.str a t) (.ref l) = pure false) hq
end
end Zm
namespace Pd
open PySem PySem.Spec PyProof.Rows L2 LamX
/-! ### x in a tuple of texts, x of any kind; x == () -/
def noStrB (K : PySem.W.Frag) (C : Str) : Bool := decide (PySem.W.subIn K (.ref (He.ga K C)) (.type "str") = some false)
abbrev NoStr (K : PySem.W.Frag) (C : Str) : Prop := PySem.W.subIn K (.ref (He.ga K C)) (.type "str") = some false
theorem noStrB_ok {K : PySem.W.Frag} {C : Str} (h : noStrB K C = true) : NoStr K C := of_decide_eq_true h
section
variable {X : Cx} {T : List (Addr × Str)} {E : XK} {k j : Nat}
/-- what stands from now on -/
def Later (X : Cx) (T : List (Addr × Str)) (pins : List (Addr × Obj)) (σ : L2.St) (wd : Wd) (H : Hp) (s : Shared) : Prop := ∃ wd' H', Inv X pins σ H' s ∧ Ord wd wd' H ∧ Good T wd' H' ∧ Keep wd H H'
/-- one text -/
theorem ins_str {C : Str} {F : Fn} {pins : List (Addr × Obj)} {σ : L2.St} {wd : Wd} {H : Hp} {s : Shared} {a : Addr} {fs : List (Str × D)} {z : Str} {t : Tok} {A : Around} (G : MethOk X.prog X.w X.K X.mg X.base T C "__eq__" j F) (ns : NoStr X.K C) (hx : Passes (L2.CX X.prog X.w) X E)
    (hr : Room j A) (hf : A.frames = X.A.frames) (rp : Rep X.K wd (.ref a) (.ins C fs)) (f : F [.ins C fs, .str z] (fun d => d = .bl false) fun _ => False) (l : Later X T pins σ wd H s) :
    wpAny (model X.prog X.w) A (eqBool (.str z t) (.ref a)) (fun r s' => r = false ∧ Later X T pins σ wd H s') X.xe s := by
  obtain ⟨wd1, H1, I, o1, g1, k1⟩ := l
  obtain ⟨p, hm, hF⟩ := G.ex
  cases rp with
  | ins h1 h2 h3 =>
    have rp1 : Rep X.K wd1 (.ref a) (.ins C fs) := Rep.mono o1.le (.ins h1 h2 h3)
    obtain ⟨od, at_⟩ := own_at I (g1.sub _ _ (o1.le.m _ _ h1))
    refine Zm.eq_str_ins (by have := hr.un; omega) I.fr.choose_spec I.ok.mod.kin at_ rfl ns hm.at_ hm.fn (wpAny_call (codeAny_mono (hF A X.stack s H1 [.ref a, .str z t] [.ref a, .str z] (fun v H' => v = .bl false ∧ ∃ wd', Ord wd wd' H ∧ Good T wd' H' ∧ Keep wd H H') E hr ?_ (.cons rfl (.cons ⟨t, rfl⟩ .nil)) ?_) ?_))
    · have e := I.env0
      exact ⟨by rw [hf]; exact e.frames, e.mod, e.bs, e.bsz, e.funs, e.frf, e.hok, e.bare⟩
    · refine ⟨wd1, [.ins C fs, .str z], fun d => d = .bl false, fun _ => False, g1, .cons rp1 (.cons (.str z) .nil), f, fun _ hh => hh.elim, fun d hd v wd2 H2 o2 g2 k2 rp2 => ?_⟩
      subst hd
      cases rp2
      exact ⟨rfl, wd2, o1.trans o2 k1, g2, k1.trans o1 k2⟩
    · intro r s' hq
      cases r with
      | error e => exact hx pins σ H1 s e s' I hq
      | ok fl =>
        cases fl with
        | ret u =>
          obtain ⟨v, H2, I2, rv, rfl, wd2, o2, g2, k2⟩ := I.after hq
          cases rv
          exact ⟨false, rfl, rfl, wd2, H2, I2, o2, g2, k2⟩
        | next => exact False.elim hq
        | brk => exact False.elim hq
        | cont => exact False.elim hq
def EqOks (X : Cx) (T : List (Addr × Str)) (k : Nat) : List (Str × Fn) → Prop
  | [] => True
  | (C, F) :: r => (∃ j, j < k ∧ MethOk X.prog X.w X.K X.mg X.base T C "__eq__" j F ∧ NoStr X.K C) ∧ EqOks X T k r
theorem eqs_nil : EqOks X T k [] := trivial
theorem eqs_cons {C : Str} {F : Fn} {r : List (Str × Fn)} (G : MethOk X.prog X.w X.K X.mg X.base T C "__eq__" j F) (n : NoStr X.K C) (e : EqOks X T k r) (hj : j < k := by decide) : EqOks X T k ((C, F) :: r) := ⟨⟨j, hj, G, n⟩, e⟩
theorem EqOks.get {C : Str} {F : Fn} : ∀ {r : List (Str × Fn)}, EqOks X T k r → r.lookup C = some F → ∃ j, j < k ∧ MethOk X.prog X.w X.K X.mg X.base T C "__eq__" j F ∧ NoStr X.K C
  | (C', F') :: r, ⟨h, e⟩, q => by
    by_cases c : (C == C') = true
    · have : List.lookup C ((C', F') :: r) = some F' := by simp only [List.lookup, c]
      rw [this] at q
      cases q
      rw [eq_of_beq c]
      exact h
    · have c' : (C == C') = false := by simpa using c
      have : List.lookup C ((C', F') :: r) = r.lookup C := by simp only [List.lookup, c']
      rw [this] at q
      exact EqOks.get e q
/-- x in (.., ..), not in -/
def wInS (neg : Bool) (Fs : List (Str × Fn)) (a b : W D) : W D := a.bind fun x => b.bind fun y env Q ex => ∃ zs : List Str, y = .tup (zs.map D.str) ∧ match x with
  | .ins C fs => (∃ F, Fs.lookup C = some F ∧ ∀ z ∈ zs, F [.ins C fs, .str z] (fun d => d = .bl false) fun _ => False) ∧ Q (.bl neg) env
  | .dic _ => Q (.bl neg) env
  | x => (plain 59 x && (zs.map D.str).all (plain 59)) = true ∧ Q (.bl (xor neg ((zs.map D.str).any fun y => eqb y x))) env
def rInS (X : Cx) (T : List (Addr × Str)) (neg : Bool) (Fs : List (Str × Fn)) : R2 := fun x y H Q => ∃ (wd : Wd) (d : D) (l : Addr) (zs : List Str), Good T wd H ∧ Rep X.K wd x d ∧ y = .ref l ∧ SqT X.K H l (zs.map V.str) ∧
  ((∃ C fs F, d = .ins C fs ∧ Fs.lookup C = some F ∧ ∀ z ∈ zs, F [.ins C fs, .str z] (fun d => d = .bl false) fun _ => False) ∨ ∃ kvs, d = .dic kvs) ∧ ∀ wd' H', Ord wd wd' H → Good T wd' H' → Keep wd H H' → Q (.bl neg) H'
theorem reps_strs {K : PySem.W.Frag} {wd : Wd} : ∀ {vs : List V} {zs : List Str}, Reps K wd vs (zs.map D.str) → vs = zs.map V.str
  | _, [], h => by cases h; rfl
  | _, z :: zs, h => by
    cases h with
    | cons a t =>
      cases a
      rw [reps_strs t]
      rfl
theorem vals_strs {zs : List Str} {its : List Value} (r : Vals (zs.map V.str) its) {v : Value} (h : v ∈ its) : ∃ z ∈ zs, ∃ t, v = .str z t := by
  induction zs generalizing its with
  | nil =>
    cases r
    cases h
  | cons z zs ih =>
    cases r with
    | cons a r =>
      rcases List.mem_cons.mp h with e | h
      · obtain ⟨t, e2⟩ := a
        exact ⟨z, List.mem_cons_self, t, by rw [e, e2]⟩
      · obtain ⟨z', hz, t, e⟩ := ih r h
        exact ⟨z', List.mem_cons_of_mem _ hz, t, e⟩
theorem has_no {Fs : List (Str × Fn)} (es : EqOks X T k Fs) (hx : Passes (L2.CX X.prog X.w) X E) (hr : Room k X.A) {neg : Bool} {pins : List (Addr × Obj)} {s : Shared} {σ : L2.St} {H : Hp} {x y : V} {v u : Value} {Q : VK} (I : Inv X pins σ H s) (rx : RelV x v) (ry : RelV y u) (h : rInS X T neg Fs x y H Q) :
    wpAny (model X.prog X.w) X.A (contains u v) (fun r s' => r = false ∧ EP X pins σ Q (.bool neg) s') X.xe s := by
  obtain ⟨wd, d, l, zs, g, rp, rfl, hl, hd, q⟩ := h
  cases ry
  obtain ⟨its, r, tup, hz⟩ := I.tuple hl
  refine Zm.contains_no (Later X T pins σ wd H) tup ⟨wd, H, I, Ord.refl _ _, g, Keep.refl _ _⟩ (fun y hy s1 l1 => ?_) fun s1 ⟨wd1, H1, I1, o1, g1, k1⟩ => ⟨rfl, .bl neg, H1, I1, rfl, q wd1 H1 o1 g1 k1⟩
  obtain ⟨z, hz', t, rfl⟩ := vals_strs r (by simpa using hy)
  rcases hd with ⟨C, fs, F, rfl, hF, hf⟩ | ⟨kvs, rfl⟩
  · obtain ⟨j, hj, G, ns⟩ := es.get hF
    have ex : ∃ a, x = .ref a := by cases rp; exact ⟨_, rfl⟩
    obtain ⟨a, rfl⟩ := ex
    cases rx
    exact ins_str G ns hx (hr.mono (Nat.succ_le_of_lt hj)).in1 rfl rp (hf z hz') l1
  · obtain ⟨wd1, H1, I1, o1, g1, k1⟩ := l1
    cases rp with
    | dic h1 h2 h3 =>
      cases rx
      obtain ⟨_, nm, vs, _, o, en, n, ho, hx, he, _⟩ := I1.hok _ _ (g1.sub _ _ (o1.le.m _ _ h1))
      exact Zm.eq_str_dict ho hx he nm (by have := hr.un; show X.A.units + 1 < _; omega) ⟨rfl, wd1, H1, I1, o1, g1, k1⟩
theorem op_inS {Fs : List (Str × Fn)} (es : EqOks X T k Fs) (hx : Passes (L2.CX X.prog X.w) X E) (hr : Room k X.A) : OpR X (compareOp .In) (rInS X T false Fs) := by
  intro pins s σ H x y v u Q I rx ry h
  show wpAny _ X.A (do return Value.bool (← contains u v)) _ _ s
  refine wpAny_bind (wpAny_mono (has_no es hx hr I rx ry h) ?_ fun _ _ e => e)
  rintro _ s' ⟨rfl, q⟩
  exact wpAny_pure q
theorem op_notInS {Fs : List (Str × Fn)} (es : EqOks X T k Fs) (hx : Passes (L2.CX X.prog X.w) X E) (hr : Room k X.A) : OpR X (compareOp .NotIn) (rInS X T true Fs) := by
  intro pins s σ H x y v u Q I rx ry h
  show wpAny _ X.A (do return Value.bool (!(← contains u v))) _ _ s
  refine wpAny_bind (wpAny_mono (has_no es hx hr I rx ry h) ?_ fun _ _ e => e)
  rintro _ s' ⟨rfl, q⟩
  exact wpAny_pure q
theorem lift_inS {neg : Bool} {Fs : List (Str × Fn)} {f : D → D → Option D} {r : R2} {a b : W D} {σ : L2.St} {H : Hp} {Q : VK} (hf : ∀ x ys, (plain 59 x && ys.all (plain 59)) = true → f x (.tup ys) = some (.bl (xor neg (ys.any fun y => eqb y x))))
    (ho : ∀ (x y z : D), f x y = some z → ∀ (T : List (Addr × Str)) (wd : Wd) (H : Hp) (v u : V) (Q : VK), Good T wd H → Rep X.K wd v x → Rep X.K wd u y → Del X.K wd H z Q → r v u H Q)
    (h : lift X.K T (rE X.K) E (wInS neg Fs a b) σ H Q) : tOp (fun x y H Q => rInS X T neg Fs x y H Q ∨ r x y H Q) (lift X.K T (rE X.K) E a) (lift X.K T (rE X.K) E b) σ H Q := by
  obtain ⟨c, wd, env, P, Ex, rl, h, xo, kk⟩ := h
  refine ⟨c, wd, env, _, Ex, rl, h, xo, fun x env1 h1 v wd1 H1 le1 r1 rp1 => ⟨c, wd1, env1, _, Ex, r1, h1, xo, fun y env2 h2 u wd2 H2 le2 r2 rp2 => ?_⟩⟩
  obtain ⟨zs, rfl, h2⟩ := h2
  have old : (plain 59 x && (zs.map D.str).all (plain 59)) = true ∧ P (.bl (xor neg ((zs.map D.str).any fun y => eqb y x))) env2 → (rInS X T neg Fs v u H2 Q ∨ r v u H2 Q) := fun h => .inr (ho x _ _ (hf x _ h.1) T wd2 H2 v u Q r2.good (Rep.mono le2 rp1) rp2 fun w wd3 H3 g3 rp3 => kk _ env2 h.2 w wd3 H3 ((le1.trans le2).trans (g3.le r2.good)) (r2.grow g3) rp3)
  have tup : ∃ l, u = .ref l ∧ SqT X.K H2 l (zs.map V.str) := by
    cases rp2 with
    | tup hs rs =>
      rw [← reps_strs rs]
      exact ⟨_, rfl, sub_sqT r2.good hs⟩
  obtain ⟨l, rfl, hl⟩ := tup
  cases x with
  | ins C fs =>
    obtain ⟨⟨F, hF, hf'⟩, q⟩ := h2
    exact .inl ⟨wd2, _, l, zs, r2.good, Rep.mono le2 rp1, rfl, hl, .inl ⟨C, fs, F, rfl, hF, hf'⟩, fun wd3 H3 o3 g3 k3 => kk _ env2 q _ wd3 H3 ((le1.trans le2).trans o3.le) (r2.go o3 g3 k3) (.bl neg)⟩
  | dic kvs => exact .inl ⟨wd2, _, l, zs, r2.good, Rep.mono le2 rp1, rfl, hl, .inr ⟨kvs, rfl⟩, fun wd3 H3 o3 g3 k3 => kk _ env2 h2 _ wd3 H3 ((le1.trans le2).trans o3.le) (r2.go o3 g3 k3) (.bl neg)⟩
  | _ => exact old h2
theorem je_inS {Fs : List (Str × Fn)} {x y : Expr} {a b : W D} {pos : Pos} (B : Bd X E k) (es : EqOks X T k Fs) (ha : JE T X E x a) (hb : JE T X E y b) (hm : behindInMarks .In y = false := by rfl) : JE T X E (.Compare x [.In] [y] pos) (wInS false Fs a b) := by
  obtain ⟨r, hr, hq⟩ := (opD_in B.u65).ex
  exact peI (pe_cmpR ((op_inS es B.pass B.room).or hr) ha hb hm) fun σ H Q h => lift_inS (fun x ys h => by
    show (if _ then _ else _) = _
    rw [if_pos h, Bool.false_xor]) hq h
theorem je_notInS {Fs : List (Str × Fn)} {x y : Expr} {a b : W D} {pos : Pos} (B : Bd X E k) (es : EqOks X T k Fs) (ha : JE T X E x a) (hb : JE T X E y b) (hm : behindInMarks .NotIn y = false := by rfl) : JE T X E (.Compare x [.NotIn] [y] pos) (wInS true Fs a b) := by
  obtain ⟨r, hr, hq⟩ := (opD_notIn B.u65).ex
  exact peI (pe_cmpR ((op_notInS es B.pass B.room).or hr) ha hb hm) fun σ H Q h => lift_inS (fun x ys h => by
    show dNot (if _ then _ else _) = _
    rw [if_pos h, Bool.true_xor]
    rfl) hq h
theorem jt_inS {Fs : List (Str × Fn)} {x y : Expr} {a b : W D} {pos : Pos} (B : Bd X E k) (es : EqOks X T k Fs) (ha : JE T X E x a) (hb : JE T X E y b) (hm : behindInMarks .In y = false := by rfl) : JT T X E (.Compare x [.In] [y] pos) (wTest (wInS false Fs a b)) := by
  obtain ⟨r, hr, hq⟩ := (opD_in B.u65).ex
  refine ptI (pt_cmpR ((op_inS es B.pass B.room).or hr) ha hb hm) fun σ H Q ⟨c, wd, env, P, Ex, rl, h, xo, kk⟩ => lift_inS (fun x ys h => by
    show (if _ then _ else _) = _
    rw [if_pos h, Bool.false_xor]) hq ⟨c, wd, env, _, Ex, rl, h, xo, fun x1 env1 h1 v wd1 H1 le1 r1 rp1 => ?_⟩
  dsimp only at h1
  split at h1
  · cases rp1
    exact ⟨_, rfl, kk _ env1 h1 _ wd1 H1 le1 r1 rfl⟩
  · exact h1.elim
theorem jt_notInS {Fs : List (Str × Fn)} {x y : Expr} {a b : W D} {pos : Pos} (B : Bd X E k) (es : EqOks X T k Fs) (ha : JE T X E x a) (hb : JE T X E y b) (hm : behindInMarks .NotIn y = false := by rfl) : JT T X E (.Compare x [.NotIn] [y] pos) (wTest (wInS true Fs a b)) := by
  obtain ⟨r, hr, hq⟩ := (opD_notIn B.u65).ex
  refine ptI (pt_cmpR ((op_notInS es B.pass B.room).or hr) ha hb hm) fun σ H Q ⟨c, wd, env, P, Ex, rl, h, xo, kk⟩ => lift_inS (fun x ys h => by
    show dNot (if _ then _ else _) = _
    rw [if_pos h, Bool.true_xor]
    rfl) hq ⟨c, wd, env, _, Ex, rl, h, xo, fun x1 env1 h1 v wd1 H1 le1 r1 rp1 => ?_⟩
  dsimp only at h1
  split at h1
  · cases rp1
    exact ⟨_, rfl, kk _ env1 h1 _ wd1 H1 le1 r1 rfl⟩
  · exact h1.elim
/-- x == (), x a tuple of anything -/
def dEqE : D → D → Option D
  | .tup xs, .tup [] => some (.bl xs.isEmpty)
  | _, _ => none
def rEqE (K : PySem.W.Frag) : R2 := fun x y H Q => ∃ a b vs, x = .ref a ∧ y = .ref b ∧ SqT K H a vs ∧ SqT K H b [] ∧ Q (.bl vs.isEmpty) H
theorem op_eqE (hu : X.A.units < cLine) : OpR X (compareOp .Eq) (rEqE X.K) := by
  rintro pins s σ H x y v u Q I rx ry ⟨a, b, vs, rfl, rfl, ha, hb, q⟩
  cases rx
  cases ry
  obtain ⟨its, r, tup, hz⟩ := I.tuple ha
  obtain ⟨its2, r2, tup2, hz2⟩ := I.tuple hb
  cases r2
  refine PySem.SeqAt.eq_tupleAt (e := fun _ => true) tup tup2 hu (fun j h1 h2 => absurd h2 (Nat.not_lt_zero j)) ⟨.bl _, H, I, rfl, ?_⟩
  cases r <;> exact q
theorem opD_eqE (hu : X.A.units < cLine) : OpD X (compareOp .Eq) dEqE := ⟨_, op_eqE hu, fun x y z e T wd H v u Q g rx ry d => by
  cases rx with
  | tup hs rs =>
    cases ry with
    | tup hs2 rs2 =>
      cases rs2 with
      | nil =>
        have e : some (D.bl _) = some z := e
        cases e
        refine ⟨_, _, _, rfl, rfl, sub_sqT g hs, sub_sqT g hs2, ?_⟩
        cases rs <;> exact d.now (.bl _)
      | cons _ _ => cases e
    | _ => cases e
  | _ => cases e⟩
theorem je_eqE {x y : Expr} {a b : W D} {pos : Pos} (B : Bd X E k) (ha : JE T X E x a) (hb : JE T X E y b) (hm : behindInMarks .Eq y = false := by rfl) : JE T X E (.Compare x [.Eq] [y] pos) (wBin dEqE a b) := je_cmp (opD_eqE (by have := B.u64; omega)) ha hb hm
theorem jt_eqE {x y : Expr} {a b : W D} {pos : Pos} (B : Bd X E k) (ha : JE T X E x a) (hb : JE T X E y b) (hm : behindInMarks .Eq y = false := by rfl) : JT T X E (.Compare x [.Eq] [y] pos) (wTest (wBin dEqE a b)) := jt_cmp (opD_eqE (by have := B.u64; omega)) ha hb hm
end
end Pd

/-! x != y of instances whose class has an own == and no own != -/
namespace Zm
open PySem PySem.Spec PyProof.Rows L2 PySem.W
open Builtin
theorem one_bind (self : Value) : bindSpecial (.builtin "object.__ne__") self = pure (.builtin "object.__ne__", [self]) := PySem.F.cmp_object.ne.bind self
section
variable {prog : Program} {w : World} {A : Around} {E : Value → Shared → Prop} {s : Shared} {K : Frag} {x C L f : Addr} {h₀ : Heap} {m : Str → Option Value} {ox : Obj} {od : Option Obj} {b tb : Value}
theorem ne_entry {R : Fin → Shared → Prop} (hu : A.units < cLine) (X : K.In s.heap) (I : InstAt s.heap x ox C od) (hs : findIn K (.ref C) "__eq__" = some (some (.ref f))) (hf : isFn K (.ref f) = true)
    (h : wpAny (model prog w) A (call (.ref f) [.ref x, b]) (fun v s' => ∃ t, v = .bool t ∧ R (.done (.ret (.bool (!t)))) s') E s) : wpAny (model prog w) A (Builtin.«object.__ne__» ⟨[.ref x, b], []⟩) R E s := by
  unfold Builtin.«object.__ne__»
  repeat (first
    | with_reducible refine wpAny_cRoomFor hu ?_
    | (refine wpAny_bind (m := callSpecialIfBound? (.ref x) (Str.ofString "__eq__") [b])
        (ifBound_K X I hs hf (wpAny_mono h (fun r s' hr => by
          obtain ⟨b, rfl, hq⟩ := hr
          repeat (first | exact hq | exact wpAny_pure hq | exact wpAny_truthy_bool hq | (refine wpAny_bind (m := truthy (.bool _)) (wpAny_truthy_bool ?_)) | wp_step)) fun _ _ e => e)))
    | wp_step)
theorem ne_K {Q : Value → Shared → Prop} (hu : A.units + 1 < cLine) (F : Fr h₀ L s.heap m) (X₀ : K.In h₀) (I : InstAt s.heap x ox C od) (hb : Looks (model prog w) s.heap (typeOf b) tb) (hn : notFirst K C tb = true)
    (hne : findIn K (.ref C) "__ne__" = some (some (.builtin "object.__ne__"))) (hob : subIn K (.ref C) (.type "object") = some true) (hs : findIn K (.ref C) "__eq__" = some (some (.ref f))) (hf : isFn K (.ref f) = true)
    (h : wpAny (model prog w) A.in1 (call (.ref f) [.ref x, b]) (fun v s' => ∃ t, v = .bool t ∧ Q (.bool (!t)) s') E s) : wpAny (model prog w) A (richCompare .NotEq (.ref x) b) Q E s := by
  have X := X₀.keeps F.keep
  have one : wpAny (model prog w) A (tryCompare (.ref x) (cmpInfo .NotEq).2.1 b) (fun r s' => ∃ v, r = some v ∧ Q v s') E s := by
    show wpAny (model prog w) A (tryCompare (.ref x) "__ne__" b) _ E s
    have sub : Looks (model prog w) s.heap (isInstance (.ref x) (.type "object")) true := I.type.andThen (looks_subIn X hob)
    have fin : wpAny (model prog w) A (call (.builtin "object.__ne__") ([.ref x] ++ [b])) (fun v s' => (match v with | .notImplemented => False | v => Q v s')) E s := by
      refine wpAny_call (codeAny_call_builtin PySem.F.cmp_object.ne.plain PySem.F.cmpEntry_ne (@check_slot (model prog w) _ _ s "object.__ne__" "object" "__ne__" (.ref x) [b] [] _ PySem.F.cmpKind_ne PySem.F.cmpSplit_ne sub (PySem.F.cmpArgs_ne _ _) ?_))
      refine ne_entry (A := A.in1) hu X I hs hf (wpAny_mono h (fun v s' hv => ?_) fun _ _ e => e)
      obtain ⟨t, rfl, q⟩ := hv
      exact ⟨t, rfl, q⟩
    unfold tryCompare
    simp only [callSpecialIfBound?, bindSpecialIfBound?]
    have fin2 : wpAny (model prog w) A (call (.builtin "object.__ne__") ([.ref x] ++ [b]) >>= fun v => pure (some v)) (fun r s' => ∃ v, r = some v ∧ (match v with | .notImplemented => False | v => Q v s')) E s :=
      wpAny_bind (wpAny_mono fin (fun v s' h' => wpAny_pure ⟨v, rfl, h'⟩) fun _ _ h' => h')
    refine wpAny_bind (wpAny_mono (Q := fun r s' => ∃ v, r = some v ∧ (match v with | .notImplemented => False | v => Q v s')) (wpAny_holding (wpAny_bind (wpAny_bind (wpAny_bind (I.type.here ((looks_findIn X hne).here ?_)))))) (fun r s' hr => ?_) fun _ _ e => e)
    · refine wpAny_bind (wpAny_askSetting (wpAny_ite ?_))
      simp only [one_bind]
      split
      · exact wpAny_bind (wpAny_pure (wpAny_pure fin2))
      · exact wpAny_tryCatch (wpAny_bind (wpAny_pure (wpAny_pure fin2)))
    · obtain ⟨v, rfl, hv⟩ := hr
      cases v <;> first | exact hv.elim | exact wpAny_pure ⟨_, rfl, hv⟩
  unfold richCompare
  simp only [oneThing_ref]
  refine wpAny_holding (wpAny_bind (wpAny_cRoomFor (Nat.lt_of_succ_lt hu) ?_))
  refine wpAny_bind (I.type.here (wpAny_bind (hb.here ?_)))
  split
  · rename_i q
    have e : subIn K tb (.ref C) = some false := by
      rcases Bool.or_eq_true_iff.mp hn with e | e
      · rw [beq_iff_eq.mp e] at q; simp at q
      · exact beq_iff_eq.mp e
    refine wpAny_bind ((looks_subIn X e).here ?_)
    simp only [Bool.false_eq_true, if_false]
    refine wpAny_bind (wpAny_mono one (fun r s' z => ?_) fun _ _ e => e)
    obtain ⟨v, rfl, hq⟩ := z
    exact wpAny_pure hq
  · refine wpAny_bind (wpAny_pure ?_)
    simp only [Bool.false_eq_true, if_false]
    refine wpAny_bind (wpAny_mono one (fun r s' z => ?_) fun _ _ e => e)
    obtain ⟨v, rfl, hq⟩ := z
    exact wpAny_pure hq
end
end Zm

namespace Pd
open PySem PySem.Spec PyProof.Rows L2 LamX
/-! ### o != p, instances whose class has an own ==, and no own != -/
def neB (K : PySem.W.Frag) (C : Str) : Bool := decide (PySem.W.findIn K (.ref (He.ga K C)) "__ne__" = some (some (.builtin "object.__ne__"))) && decide (PySem.W.subIn K (.ref (He.ga K C)) (.type "object") = some true)
structure NeO (K : PySem.W.Frag) (C : Str) : Prop where
  ne : PySem.W.findIn K (.ref (He.ga K C)) "__ne__" = some (some (.builtin "object.__ne__"))
  ob : PySem.W.subIn K (.ref (He.ga K C)) (.type "object") = some true
theorem neB_ok {K : PySem.W.Frag} {C : Str} (h : neB K C = true) : NeO K C := by
  obtain ⟨h1, h2⟩ := He.ba h
  exact ⟨of_decide_eq_true h1, of_decide_eq_true h2⟩
section
variable {X : Cx} {T : List (Addr × Str)} {E : XK} {k : Nat}
def rNeO (C C' : Addr) (sp : Sp) (E : XK) : R2 := fun x y H Q => ∃ a b dx dy fs gs, x = .ref a ∧ y = .ref b ∧ H a = some (.ins C dx fs) ∧ H b = some (.ins C' dy gs) ∧ sp [x, y] H (fun v H' => ∃ t, v = .bl t ∧ Q (.bl (!t)) H') E
theorem op_neO {CX : CXT} {C C' f : Addr} {sp : Sp} {j : Nat} (F : FnR X.prog X.w X.K X.mg X.base CX j f sp) (hr : Room j X.A.in1) (hm : Meth X.K C "__eq__" f) (hn : PySem.W.notFirst X.K C (.ref C') = true)
    (ne : PySem.W.findIn X.K (.ref C) "__ne__" = some (some (.builtin "object.__ne__"))) (ob : PySem.W.subIn X.K (.ref C) (.type "object") = some true) (hx : Passes CX X E) : OpR X (compareOp .NotEq) (rNeO C C' sp E) := by
  intro pins s σ H x y v u Q I rx ry
  rintro ⟨a, b, dx, dy, fs, gs, rfl, rfl, one, two, told⟩
  cases rx
  cases ry
  obtain ⟨o1, k1⟩ := own_at I one
  obtain ⟨o2, k2⟩ := own_at I two
  have e := I.env0
  apply Zm.ne_K (by have := hr.un; show X.A.units + 1 < _; have e1 : X.A.in1.units = X.A.units + 1 := rfl; omega) I.fr.choose_spec I.ok.mod.kin k1 k2.type hn ne ob hm.at_ hm.fn
  refine wpAny_call (codeAny_mono (F X.A.in1 X.stack s H [.ref a, .ref b] [.ref a, .ref b] (fun v H' => ∃ t, v = .bl t ∧ Q (.bl (!t)) H') E hr ⟨e.frames, e.mod, e.bs, e.bsz, e.funs, e.frf, e.hok, e.bare⟩ (.cons rfl (.cons rfl .nil)) told) ?_)
  intro r s' hq
  cases r with
  | error e => exact hx pins σ H s e s' I hq
  | ok fl =>
    cases fl with
    | ret u =>
      obtain ⟨v, H2, I2, rv, t, rfl, q⟩ := I.after hq
      cases rv
      exact ⟨t, rfl, .bl (!t), H2, I2, rfl, q⟩
    | next => exact False.elim hq
    | brk => exact False.elim hq
    | cont => exact False.elim hq
/-- o != p -/
def wNeO (C C' : Str) (F : Fn) (a b : W D) : W D := a.bind fun x => b.bind fun y env Q ex => match x, y with
  | .ins D1 fs, .ins D2 gs => D1 = C ∧ D2 = C' ∧ F [.ins D1 fs, .ins D2 gs] (fun d => ∃ t, d = .bl t ∧ Q (.bl (!t)) env) ex
  | _, _ => False
theorem je_neO {C C' : Str} {F : Fn} {x y : Expr} {a b : W D} {pos : Pos} {j : Nat} (B : Bd X E k) (G : MethOk X.prog X.w X.K X.mg X.base T C "__eq__" j F) (n : NeO X.K C) (hn : PySem.W.notFirst X.K (He.ga X.K C) (.ref (He.ga X.K C')) = true) (ha : JE T X E x a) (hb : JE T X E y b)
    (hj : j < k := by decide) (hm : behindInMarks .NotEq y = false := by rfl) : JE T X E (.Compare x [.NotEq] [y] pos) (wNeO C C' F a b) := by
  obtain ⟨f, g1, g2⟩ := G.ex
  refine peI (pe_cmpR (op_neO g2 (B.room.mono (Nat.succ_le_of_lt hj)).in1 g1 hn n.ne n.ob B.pass) ha hb hm) fun σ H Q ⟨c, wd, env, P, Ex, r, h, xo, kk⟩ => ?_
  refine ⟨c, wd, env, _, Ex, r, h, xo, fun x env1 h1 v wd1 H1 le1 r1 rp1 => ⟨c, wd1, env1, _, Ex, r1, h1, xo, fun y env2 h2 u wd2 H2 le2 r2 rp2 => ?_⟩⟩
  dsimp only at h2
  split at h2
  · obtain ⟨rfl, rfl, h2⟩ := h2
    have rp1' := Rep.mono le2 rp1
    cases rp1' with
    | ins hm1 en1 er1 =>
      cases rp2 with
      | ins hm' en er =>
        refine ⟨_, _, _, _, _, _, rfl, rfl, r2.good.sub _ _ hm1, r2.good.sub _ _ hm', wd2, [_, _], _, Ex, r2.good, .cons (.ins hm1 en1 er1) (.cons (.ins hm' en er) .nil), h2, xo.into r2.ord r2.keep, fun d ⟨t, ed, hd⟩ v wd3 H3 o3 g3 k3 rp3 => ?_⟩
        subst ed
        cases rp3
        exact ⟨t, rfl, kk _ env2 hd _ wd3 H3 ((le1.trans le2).trans o3.le) (r2.go o3 g3 k3) (.bl (!t))⟩
  · exact h2.elim
end
end Pd

namespace Pd
open PySem PySem.Spec PyProof.Rows L2 LamX
/-! ### len(o), o an instance whose class has an own __len__ -/
section
variable {X : Cx} {T : List (Addr × Str)} {E : XK} {k : Nat}
def rLenO (C : Addr) (sp : Sp) (E : XK) : List V → Hp → VK → Prop := fun xs H Q => ∃ b dy gs, xs = [.ref b] ∧ H b = some (.ins C dy gs) ∧ sp [.ref b] H (fun v H' => ∃ n : Nat, v = .int (n : Int) ∧ n < 4611686018427387904 ∧ Q (.int (n : Int)) H') E
theorem call_lenO {CX : CXT} {C f : Addr} {sp : Sp} {j : Nat} (F : FnR X.prog X.w X.K X.mg X.base CX j f sp) (hr : Room j X.A.in1) (hm : Meth X.K C "__len__" f) (hx : Passes CX X E) : CallR X (.builtin "len") (rLenO C sp E) := by
  intro pins s σ H xs us Q I r h
  obtain ⟨b, dy, gs, rfl, at_, told⟩ := h
  obtain ⟨u, rfl, ru⟩ := vals1 r
  obtain rfl : u = Value.ref b := ru
  obtain ⟨od, own⟩ := own_at I at_
  have e := I.env0
  refine PySem.W.len_K I.fr.choose_spec I.ok.mod.kin own hm.at_ hm.fn (wpAny_call (codeAny_mono (F X.A.in1 X.stack s H [.ref b] [.ref b] (fun v H' => ∃ n : Nat, v = .int (n : Int) ∧ n < 4611686018427387904 ∧ Q (.int (n : Int)) H') E hr ⟨e.frames, e.mod, e.bs, e.bsz, e.funs, e.frf, e.hok, e.bare⟩ (.cons rfl .nil) told) ?_))
  intro r s' hq
  cases r with
  | error e => exact hx pins σ H s e s' I hq
  | ok fl =>
    cases fl with
    | ret u =>
      obtain ⟨v, H2, I2, rv, n, rfl, hn, q⟩ := I.after hq
      obtain ⟨t, rfl⟩ := rv
      exact ⟨⟨by omega, by omega⟩, .int n, H2, I2.tok _, ⟨_, rfl⟩, q⟩
    | next => exact False.elim hq
    | brk => exact False.elim hq
    | cont => exact False.elim hq
/-- len(o) -/
def wLenO (C : Str) (F : Fn) (a : W D) : W D := a.bind fun x env Q ex => match x with
  | .ins D1 fs => D1 = C ∧ F [.ins D1 fs] (fun d => ∃ n : Nat, d = .int (n : Int) ∧ n < 4611686018427387904 ∧ Q (.int (n : Int)) env) ex
  | _ => False
theorem je_lenO {C : Str} {F : Fn} {x : Expr} {a : W D} {p pos : Pos} {j : Nat} (B : Bd X E k) (G : MethOk X.prog X.w X.K X.mg X.base T C "__len__" j F) (hm : X.mg "len" = none) (ha : JE T X E x a) (hj : j < k := by decide)
    (hg : Gl X "len" := by rfl) (hs : starEach [x] X.env = (false, eval x X.env) :: starEach [] X.env := by rfl) (hpl : (backTo pos (starEach [] X.env)).any (·.1) = false := by rfl) : JE T X E (.Call (.Name "len" p) [x] [] pos) (wLenO C F a) := by
  obtain ⟨f, g1, g2⟩ := G.ex
  refine peI (pe_callB (call_lenO g2 (B.room.mono (Nat.succ_le_of_lt hj)).in1 g1 B.pass) hg hm (by decide +kernel) (pa_cons ha pa_nil hs) (by decide) (by decide) hs hpl) fun σ H Q ⟨c, wd, env, P, Ex, rl, h, xo, kk⟩ => ⟨c, wd, env, _, Ex, rl, h, xo, fun x env1 h1 v wd1 H1 le1 r1 rp => ?_⟩
  dsimp only at h1
  split at h1
  · obtain ⟨rfl, h2⟩ := h1
    cases rp with
    | ins hm' en er =>
      refine ⟨_, _, _, rfl, r1.good.sub _ _ hm', wd1, [_], _, Ex, r1.good, .cons (.ins hm' en er) .nil, h2, xo.into r1.ord r1.keep, fun d ⟨n, ed, hn, hd⟩ v wd3 H3 o3 g3 k3 rp3 => ?_⟩
      subst ed
      cases rp3
      exact ⟨n, rfl, hn, kk _ env1 hd _ wd3 H3 (le1.trans o3.le) (r1.go o3 g3 k3) (.int _)⟩
  · exact h1.elim
end
end Pd

namespace Pd
open PySem PySem.Spec PyProof.Rows L2 LamX
/-! ### f-strings, sep.join(texts), str(o) by an own __str__ -/
section
variable {X : Cx} {T : List (Addr × Str)} {E : XK} {k : Nat}
/-- {a}: a text or an int -/
def wFmt (a : W D) : W D := a.bind fun x env Q _ => match x with
  | .str y => y.length ≤ 1000000 ∧ Q (.str y) env
  | .int i => i.natAbs.log2 < 1920 ∧ Q (.str (toString i)) env
  | _ => False
theorem je_fmt {e : Expr} {a : W D} {pos : Pos} (ha : JE T X E e a) : JE T X E (.FormattedValue e (-1) none pos) (wFmt a) :=
  peI (pe_fmt ha) fun σ H Q ⟨c, wd, env, P, Ex, r, h, xo, kk⟩ => ⟨c, wd, env, _, Ex, r, h, xo, fun x env1 h1 v wd1 H1 le1 r1 rp => by
    dsimp only at h1
    split at h1
    · cases rp
      exact .inl ⟨_, rfl, sz6 h1.1, kk _ env1 h1.2 _ wd1 H1 le1 r1 (.str _)⟩
    · cases rp
      exact .inr ⟨_, rfl, h1.1, kk _ env1 h1.2 _ wd1 H1 le1 r1 (.str _)⟩
    · exact h1.elim⟩
def wJoined : List (W D) → Str → W D
  | [], acc => W.ret (.str acc)
  | a :: r, acc => a.bind fun x env Q ex => match x with
    | .str y => (acc ++ y).length ≤ 1000000 ∧ wJoined r (acc ++ y) env Q ex
    | _ => False
inductive JJ (T : List (Addr × Str)) (X : Cx) (E : XK) : List Expr → List (W D) → Prop where
  | nil : JJ T X E [] []
  | cons {e : Expr} {a : W D} {es : List Expr} {ws : List (W D)} (h : JE T X E e a) (r : JJ T X E es ws) : JJ T X E (e :: es) (a :: ws)
theorem JJ.pj {es : List Expr} {ws : List (W D)} (h : JJ T X E es ws) : PJ X es (ws.map fun w => lift X.K T (rE X.K) E w) := by
  induction h with
  | nil => exact .nil
  | cons h _ ih => exact .cons h ih
theorem joined_run {K : PySem.W.Frag} : ∀ (ws : List (W D)) (acc : Str) (σ : L2.St) (H : Hp) (Q : VK), lift K T (rE K) E (wJoined ws acc) σ H Q → tJs (ws.map fun w => lift K T (rE K) E w) acc σ H fun out H1 => Q (.str out) H1
  | [], acc, σ, H, Q, ⟨c, wd, env, P, Ex, r, h, xo, kk⟩ => kk _ env h (.str acc) wd H (Le.refl _) r (.str _)
  | a :: ws, acc, σ, H, Q, ⟨c, wd, env, P, Ex, r, h, xo, kk⟩ => ⟨c, wd, env, _, Ex, r, h, xo, fun x env1 h1 v wd1 H1 le1 r1 rp => by
    dsimp only at h1
    split at h1
    · cases rp
      exact ⟨_, rfl, sz6 h1.1, joined_run ws _ σ H1 Q ⟨c, wd1, env1, P, Ex, r1, h1.2, xo, fun d env2 p b wd2 H2 le2 r2 rp2 => kk d env2 p b wd2 H2 (le1.trans le2) r2 rp2⟩⟩
    · exact h1.elim⟩
theorem je_joined {v1 v2 : Expr} {rest : List Expr} {ws : List (W D)} {pos : Pos} (h : JJ T X E (v1 :: v2 :: rest) ws) : JE T X E (.JoinedStr (v1 :: v2 :: rest) pos) (wJoined ws Str.empty) :=
  peI (pe_joined h.pj) fun σ H Q h' => joined_run ws Str.empty σ H Q h'
/-- sep.join(texts) -/
def wJoin (s : Str) (b : W D) : W D := b.bind fun y env Q _ => ∃ ys : List Str, dItems y = some (ys.map D.str) ∧ (ys.map (·.length)).sum + ys.length * s.length ≤ 16777216 ∧ Q (.str (Txt.join s ys)) env
theorem reps_strV {K : PySem.W.Frag} {wd : Wd} : ∀ {vs : List V} {zs : List Str}, Reps K wd vs (zs.map D.str) → vs = zs.map V.str
  | _, [], h => by cases h; rfl
  | _, z :: zs, h => by
    cases h with
    | cons a t =>
      cases a
      rw [reps_strV t]
      rfl
theorem je_join {s : Str} {e : Expr} {b : W D} {j} {p apos pos : Pos} (hb : JE T X E e b) (hs : starEach [e] X.env = [(false, eval e X.env)] := by rfl) (hbase : attributeBase (.Constant (.str s) j p) "join" X.env (eval (.Constant (.str s) j p) X.env) = eval (.Constant (.str s) j p) X.env := by rfl) (hline : (apos.endLine == pos.line) = true := by rfl) :
    JE T X E (.Call (.Attribute (.Constant (.str s) j p) "join" apos) [e] [] pos) (wJoin s b) :=
  peI (pe_join pe_str hb hs hbase hline) fun σ H Q ⟨c, wd, env, P, Ex, r, h, xo, kk⟩ => ⟨⟨s, rfl⟩, c, wd, env, _, Ex, r, h, xo, fun y env1 h1 v wd1 H1 le1 r1 rp => by
    obtain ⟨ys, ey, hz, q⟩ := h1
    have fin := kk _ env1 q (.str (Txt.join s ys)) wd1 H1 le1 r1 (.str _)
    cases y with
    | tup xs =>
      cases ey
      cases rp with
      | tup h2 rs =>
        rw [reps_strV rs] at h2
        exact ⟨s, _, ys, rfl, rfl, .inr (sqT_sub _ r1.good.sub h2), hz, fin⟩
    | lst xs =>
      cases ey
      cases rp with
      | lst h2 rs =>
        rw [reps_strV rs] at h2
        exact ⟨s, _, ys, rfl, rfl, .inl (.inl (.inl (r1.good.sub _ _ h2))), hz, fin⟩
    | _ => cases ey⟩
/-! ### str(o), o an instance whose class has an own __str__ -/
def rStrO (C : Addr) (sp : Sp) (E : XK) : List V → Hp → VK → Prop := fun xs H Q => ∃ b dy gs, xs = [.ref b] ∧ H b = some (.ins C dy gs) ∧ sp [.ref b] H (fun v H' => ∃ y : Str, v = .str y ∧ Q (.str y) H') E
theorem call_strO {CX : CXT} {C f : Addr} {sp : Sp} {j : Nat} (F : FnR X.prog X.w X.K X.mg X.base CX j f sp) (hr : Room j X.A.in1.in1) (hm : Meth X.K C "__str__" f) (hx : Passes CX X E) : CallR X (.type "str") (rStrO C sp E) := by
  intro pins s σ H xs us Q I r h
  obtain ⟨b, dy, gs, rfl, at_, told⟩ := h
  obtain ⟨u, rfl, ru⟩ := vals1 r
  obtain rfl : u = Value.ref b := ru
  obtain ⟨od, own⟩ := own_at I at_
  have e := I.env0
  refine PySem.W.kso_call (by have := hr.un; omega) (I.ok.mod.kin.keeps I.fr.choose_spec.keep) own hm.at_ hm.fn (wpAny_call (codeAny_mono (F X.A.in1.in1 X.stack s H [.ref b] [.ref b] (fun v H' => ∃ y : Str, v = .str y ∧ Q (.str y) H') E hr ⟨e.frames, e.mod, e.bs, e.bsz, e.funs, e.frf, e.hok, e.bare⟩ (.cons rfl .nil) told) ?_))
  intro r s' hq
  cases r with
  | error e => exact hx pins σ H s e s' I hq
  | ok fl =>
    cases fl with
    | ret u =>
      obtain ⟨v, H2, I2, rv, y, rfl, q⟩ := I.after hq
      obtain ⟨t, rfl⟩ := rv
      exact ⟨.str y, H2, I2, ⟨t, rfl⟩, q⟩
    | next => exact False.elim hq
    | brk => exact False.elim hq
    | cont => exact False.elim hq
/-- str(o) -/
def wStrO (C : Str) (F : Fn) (a : W D) : W D := a.bind fun x env Q ex => match x with
  | .ins D1 fs => D1 = C ∧ F [.ins D1 fs] (fun d => ∃ y : Str, d = .str y ∧ Q (.str y) env) ex
  | _ => False
theorem je_strO {C : Str} {F : Fn} {x : Expr} {a : W D} {p pos : Pos} {j : Nat} (B : Bd X E k) (G : MethOk X.prog X.w X.K X.mg X.base T C "__str__" j F) (hm : X.mg "str" = none) (ha : JE T X E x a) (hj : j + 1 < k := by decide)
    (hg : Gl X "str" := by rfl) (hs : starEach [x] X.env = (false, eval x X.env) :: starEach [] X.env := by rfl) (hpl : (backTo pos (starEach [] X.env)).any (·.1) = false := by rfl) : JE T X E (.Call (.Name "str" p) [x] [] pos) (wStrO C F a) := by
  obtain ⟨f, g1, g2⟩ := G.ex
  refine peI (pe_callTy (call_strO g2 (B.room.mono (show j + 2 ≤ k by omega)).in1.in1 g1 B.pass) hg hm (by decide +kernel) (pa_cons ha pa_nil hs) (by decide) (by decide) hs hpl) fun σ H Q ⟨c, wd, env, P, Ex, rl, h, xo, kk⟩ => ⟨c, wd, env, _, Ex, rl, h, xo, fun x env1 h1 v wd1 H1 le1 r1 rp => ?_⟩
  dsimp only at h1
  split at h1
  · obtain ⟨rfl, h2⟩ := h1
    cases rp with
    | ins hm' en er =>
      refine ⟨_, _, _, rfl, r1.good.sub _ _ hm', wd1, [_], _, Ex, r1.good, .cons (.ins hm' en er) .nil, h2, xo.into r1.ord r1.keep, fun d ⟨n, ed, hd⟩ v wd3 H3 o3 g3 k3 rp3 => ?_⟩
      subst ed
      cases rp3
      exact ⟨n, rfl, kk _ env1 hd _ wd3 H3 (le1.trans o3.le) (r1.go o3 g3 k3) (.str _)⟩
  · exact h1.elim
end
end Pd

namespace Pd
open PySem PySem.Spec PyProof.Rows L2 LamX
/-! ### y = [.. for .. for ..]; o == p, o != p as tests -/
section
variable {X : Cx} {T : List (Addr × Str)} {E : XK} {k : Nat} {tg tg1 : Expr}
theorem js_setComp2 (i : Nat) {y : Str} {elt iter iter1 : Expr} {ifs ifs1 : List Expr} {scope : Scope} (own : List (Str × Nat)) (vs1 : List Nat) {pos spos py : Pos} {w : W (List D)} {g : WG} {wt : W Bool} {w1 : W (List D)} {g1 : WG} {wt1 : W Bool} {we : W D} (B : Bd X E k) (hi : JI T X E tg iter w) (ok : BlkOk X.N X.env.scope scope own)
    (hg : ∀ (s : Shared) (H : Hp) (C : Addr) (cl : List (Str × Addr)) (fp : List Addr), JG T (X.blk s H scope (compEnvC scope cl C X.env) fp) (own.map (·.2)) tg g)
    (ht : ∀ (s : Shared) (H : Hp) (C : Addr) (cl : List (Str × Addr)) (fp : List Addr), Bd (X.blk s H scope (compEnvC scope cl C X.env) fp) E0 k → JTs T (X.blk s H scope (compEnvC scope cl C X.env) fp) E0 ifs wt)
    (hi1 : ∀ (s : Shared) (H : Hp) (C : Addr) (cl : List (Str × Addr)) (fp : List Addr), Bd (X.blk s H scope (compEnvC scope cl C X.env) fp) E0 k → JI T (X.blk s H scope (compEnvC scope cl C X.env) fp) E0 tg1 iter1 w1)
    (hg1 : ∀ (s : Shared) (H : Hp) (C : Addr) (cl : List (Str × Addr)) (fp : List Addr), JG T (X.blk s H scope (compEnvC scope cl C X.env) fp) vs1 tg1 g1)
    (ht1 : ∀ (s : Shared) (H : Hp) (C : Addr) (cl : List (Str × Addr)) (fp : List Addr), Bd (X.blk s H scope (compEnvC scope cl C X.env) fp) E0 k → JTs T (X.blk s H scope (compEnvC scope cl C X.env) fp) E0 ifs1 wt1)
    (he : ∀ (s : Shared) (H : Hp) (C : Addr) (cl : List (Str × Addr)) (fp : List Addr), Bd (X.blk s H scope (compEnvC scope cl C X.env) fp) E0 k → JE T (X.blk s H scope (compEnvC scope cl C X.env) fp) E0 elt we)
    (hsw : swapsWith (.ListComp elt [⟨tg, iter, ifs, 0⟩, ⟨tg1, iter1, ifs1, 0⟩] scope pos) (some (.Name y py)) spos.line X.env = pure true) (hv : ∀ i ∈ vs1, i ∈ own.map (·.2) := by decide) (hy : X.N[i]? = some y := by rfl) (hyl : X.env.scope.names.lookup y = some .local := by rfl)
    (hs : ∀ x, foldedSetIterable iter X.env x = pure x := by intro _; rfl) (hs1 : ∀ env x, foldedSetIterable iter1 env x = pure x := by intro _ _; rfl) : JS T X E (.Assign [.Name y py] (.ListComp elt [⟨tg, iter, ifs, 0⟩, ⟨tg1, iter1, ifs1, 0⟩] scope pos) spos) (sSetOwn i (wComp2 w g wt w1 g1 wt1 we (own.map (·.2)) vs1)) := by
  have inner : ∀ (s : Shared) (H : Hp) (C : Addr) (cl : List (Str × Addr)) (fp : List Addr), Bd (X.blk s H scope (compEnvC scope cl C X.env) fp) E0 k := fun s H C cl fp => ⟨B.room, passL, PassesOwn.never, B.calm, B.nd⟩
  exact psI (ps_setLc2 B.calm B.nd hy hyl hsw hi ok hv hg (fun s H C cl fp => ht s H C cl fp (inner s H C cl fp)) (fun s H C cl fp => hi1 s H C cl fp (inner s H C cl fp)) hg1 (fun s H C cl fp => ht1 s H C cl fp (inner s H C cl fp)) (fun s H C cl fp => he s H C cl fp (inner s H C cl fp)) hs hs1) fun D σ H ⟨c, wd, env, pe, r, h, o⟩ => lc2_lift hv ⟨c, wd, env, _, _, r, h, o.ex, fun xs env' h' v wd' H' le r' f => o.nx _ h' _ wd' H' le (r'.ownF f)⟩
/-- .. never changed -/
theorem js_setComp2D (i : Nat) {y : Str} {elt iter iter1 : Expr} {ifs ifs1 : List Expr} {scope : Scope} (own : List (Str × Nat)) (vs1 : List Nat) {pos spos py : Pos} {w : W (List D)} {g : WG} {wt : W Bool} {w1 : W (List D)} {g1 : WG} {wt1 : W Bool} {we : W D} (B : Bd X E k) (hi : JI T X E tg iter w) (ok : BlkOk X.N X.env.scope scope own)
    (hg : ∀ (s : Shared) (H : Hp) (C : Addr) (cl : List (Str × Addr)) (fp : List Addr), JG T (X.blk s H scope (compEnvC scope cl C X.env) fp) (own.map (·.2)) tg g)
    (ht : ∀ (s : Shared) (H : Hp) (C : Addr) (cl : List (Str × Addr)) (fp : List Addr), Bd (X.blk s H scope (compEnvC scope cl C X.env) fp) E0 k → JTs T (X.blk s H scope (compEnvC scope cl C X.env) fp) E0 ifs wt)
    (hi1 : ∀ (s : Shared) (H : Hp) (C : Addr) (cl : List (Str × Addr)) (fp : List Addr), Bd (X.blk s H scope (compEnvC scope cl C X.env) fp) E0 k → JI T (X.blk s H scope (compEnvC scope cl C X.env) fp) E0 tg1 iter1 w1)
    (hg1 : ∀ (s : Shared) (H : Hp) (C : Addr) (cl : List (Str × Addr)) (fp : List Addr), JG T (X.blk s H scope (compEnvC scope cl C X.env) fp) vs1 tg1 g1)
    (ht1 : ∀ (s : Shared) (H : Hp) (C : Addr) (cl : List (Str × Addr)) (fp : List Addr), Bd (X.blk s H scope (compEnvC scope cl C X.env) fp) E0 k → JTs T (X.blk s H scope (compEnvC scope cl C X.env) fp) E0 ifs1 wt1)
    (he : ∀ (s : Shared) (H : Hp) (C : Addr) (cl : List (Str × Addr)) (fp : List Addr), Bd (X.blk s H scope (compEnvC scope cl C X.env) fp) E0 k → JE T (X.blk s H scope (compEnvC scope cl C X.env) fp) E0 elt we)
    (hsw : swapsWith (.ListComp elt [⟨tg, iter, ifs, 0⟩, ⟨tg1, iter1, ifs1, 0⟩] scope pos) (some (.Name y py)) spos.line X.env = pure true) (hv : ∀ i ∈ vs1, i ∈ own.map (·.2) := by decide) (hy : X.N[i]? = some y := by rfl) (hyl : X.env.scope.names.lookup y = some .local := by rfl)
    (hs : ∀ x, foldedSetIterable iter X.env x = pure x := by intro _; rfl) (hs1 : ∀ env x, foldedSetIterable iter1 env x = pure x := by intro _ _; rfl) : JS T X E (.Assign [.Name y py] (.ListComp elt [⟨tg, iter, ifs, 0⟩, ⟨tg1, iter1, ifs1, 0⟩] scope pos) spos) (sSet i (wLst (wComp2 w g wt w1 g1 wt1 we (own.map (·.2)) vs1))) := by
  have inner : ∀ (s : Shared) (H : Hp) (C : Addr) (cl : List (Str × Addr)) (fp : List Addr), Bd (X.blk s H scope (compEnvC scope cl C X.env) fp) E0 k := fun s H C cl fp => ⟨B.room, passL, PassesOwn.never, B.calm, B.nd⟩
  exact psI (ps_setLc2 B.calm B.nd hy hyl hsw hi ok hv hg (fun s H C cl fp => ht s H C cl fp (inner s H C cl fp)) (fun s H C cl fp => hi1 s H C cl fp (inner s H C cl fp)) hg1 (fun s H C cl fp => ht1 s H C cl fp (inner s H C cl fp)) (fun s H C cl fp => he s H C cl fp (inner s H C cl fp)) hs hs1) fun D σ H ⟨c, wd, env, pe, r, h, o⟩ => lc2_lift hv ⟨c, wd, env, fun xs env' => pe.nx (env'.set i (some (.d (.lst xs)))), _, r, h, o.ex, fun xs env' h' v wd' H' le r' f => by
    obtain ⟨wd2, le2, r2, rp⟩ := r'.frzF f
    exact o.nx _ h' _ wd2 H' (le.trans le2) (r2.set rp)⟩
end
section
variable {X : Cx} {T : List (Addr × Str)} {E : XK} {k : Nat}
theorem jt_eqO {C C' : Str} {F : Fn} {x y : Expr} {a b : W D} {pos : Pos} {j : Nat} (B : Bd X E k) (G : MethOk X.prog X.w X.K X.mg X.base T C "__eq__" j F) (hn : PySem.W.notFirst X.K (He.ga X.K C) (.ref (He.ga X.K C')) = true) (ha : JE T X E x a) (hb : JE T X E y b)
    (hj : j ≤ k := by decide) (hm : behindInMarks .Eq y = false := by rfl) : JT T X E (.Compare x [.Eq] [y] pos) (wTest (wEqO C C' F a b)) := by
  obtain ⟨f, g1, g2⟩ := G.ex
  refine ptI (pt_cmpR (op_eqO g2 (B.room.mono hj) g1 hn B.pass) ha hb hm) fun σ H Q ⟨c, wd, env, P, Ex, r, h, xo, kk⟩ => ?_
  refine ⟨c, wd, env, _, Ex, r, h, xo, fun x env1 h1 v wd1 H1 le1 r1 rp1 => ⟨c, wd1, env1, _, Ex, r1, h1, xo, fun y env2 h2 u wd2 H2 le2 r2 rp2 => ?_⟩⟩
  dsimp only at h2
  split at h2
  · obtain ⟨rfl, rfl, h2⟩ := h2
    have left := Rep.mono le2 rp1
    cases left with
    | ins hm1 en1 er1 =>
      cases rp2 with
      | ins hm2 en er =>
        refine ⟨_, _, _, _, _, _, rfl, rfl, r2.good.sub _ _ hm1, r2.good.sub _ _ hm2, wd2, [_, _], _, Ex, r2.good, .cons (.ins hm1 en1 er1) (.cons (.ins hm2 en er) .nil), h2, xo.into r2.ord r2.keep, fun d ⟨t, ed, hd⟩ v wd3 H3 o3 g3 k3 rp3 => ?_⟩
        subst ed
        cases rp3
        exact ⟨t, rfl, t, rfl, kk t env2 hd _ wd3 H3 ((le1.trans le2).trans o3.le) (r2.go o3 g3 k3) rfl⟩
  · exact h2.elim
theorem jt_neO {C C' : Str} {F : Fn} {x y : Expr} {a b : W D} {pos : Pos} {j : Nat} (B : Bd X E k) (G : MethOk X.prog X.w X.K X.mg X.base T C "__eq__" j F) (n : NeO X.K C) (hn : PySem.W.notFirst X.K (He.ga X.K C) (.ref (He.ga X.K C')) = true) (ha : JE T X E x a) (hb : JE T X E y b)
    (hj : j < k := by decide) (hm : behindInMarks .NotEq y = false := by rfl) : JT T X E (.Compare x [.NotEq] [y] pos) (wTest (wNeO C C' F a b)) := by
  obtain ⟨f, g1, g2⟩ := G.ex
  refine ptI (pt_cmpR (op_neO g2 (B.room.mono (Nat.succ_le_of_lt hj)).in1 g1 hn n.ne n.ob B.pass) ha hb hm) fun σ H Q ⟨c, wd, env, P, Ex, r, h, xo, kk⟩ => ?_
  refine ⟨c, wd, env, _, Ex, r, h, xo, fun x env1 h1 v wd1 H1 le1 r1 rp1 => ⟨c, wd1, env1, _, Ex, r1, h1, xo, fun y env2 h2 u wd2 H2 le2 r2 rp2 => ?_⟩⟩
  dsimp only at h2
  split at h2
  · obtain ⟨rfl, rfl, h2⟩ := h2
    have left := Rep.mono le2 rp1
    cases left with
    | ins hm1 en1 er1 =>
      cases rp2 with
      | ins hm2 en er =>
        refine ⟨_, _, _, _, _, _, rfl, rfl, r2.good.sub _ _ hm1, r2.good.sub _ _ hm2, wd2, [_, _], _, Ex, r2.good, .cons (.ins hm1 en1 er1) (.cons (.ins hm2 en er) .nil), h2, xo.into r2.ord r2.keep, fun d ⟨t, ed, hd⟩ v wd3 H3 o3 g3 k3 rp3 => ?_⟩
        subst ed
        cases rp3
        exact ⟨t, rfl, !t, rfl, kk (!t) env2 hd _ wd3 H3 ((le1.trans le2).trans o3.le) (r2.go o3 g3 k3) rfl⟩
  · exact h2.elim
end
end Pd

namespace Hd
open PySem PySem.Spec PyProof.Rows L2
def top (i : Nat) : Stmt := PySem.Challenge.pw_sumsalone_k74_whole_fillings_and_order.main.body.getD i (.Pass ⟨0, 0, 0, 0⟩)
abbrev s_is_integer : Stmt := top 1
abbrev s_is_from : Stmt := top 2
abbrev s_is_shape : Stmt := top 10
abbrev s_require_shape : Stmt := top 11
abbrev s_without_strip : Stmt := top 12
abbrev s_number_of : Stmt := top 13
abbrev s_require_counts : Stmt := top 14
abbrev s_count_fillings : Stmt := top 15
abbrev s_L_heap : Stmt := top 17
abbrev s_L_less : Stmt := top 18
abbrev s_L_order : Stmt := top 19
abbrev s_L_shape : Stmt := top 20
abbrev s_L_counts : Stmt := top 21
abbrev s_L_under : Stmt := top 22
abbrev s_L_moved : Stmt := top 23
abbrev s_L_right : Stmt := top 24
abbrev s_law : Stmt := top 25
def d_is_integer : He.DefD := ⟨("is_integer", none), "is_integer", "is_integer", defArgs s_is_integer, defBody s_is_integer, defScope s_is_integer, [], []⟩
def d_is_from : He.DefD := ⟨("is_from", none), "is_from", "is_from", defArgs s_is_from, defBody s_is_from, defScope s_is_from, [], []⟩
def d_is_shape : He.DefD := ⟨("is_shape", none), "is_shape", "is_shape", defArgs s_is_shape, defBody s_is_shape, defScope s_is_shape, [], []⟩
def d_require_shape : He.DefD := ⟨("require_shape", none), "require_shape", "require_shape", defArgs s_require_shape, defBody s_require_shape, defScope s_require_shape, [], []⟩
def d_without_strip : He.DefD := ⟨("without_strip", none), "without_strip", "without_strip", defArgs s_without_strip, defBody s_without_strip, defScope s_without_strip, [], []⟩
def d_number_of : He.DefD := ⟨("number_of", none), "number_of", "number_of", defArgs s_number_of, defBody s_number_of, defScope s_number_of, [], []⟩
def d_require_counts : He.DefD := ⟨("require_counts", none), "require_counts", "require_counts", defArgs s_require_counts, defBody s_require_counts, defScope s_require_counts, [], []⟩
def d_count_fillings : He.DefD := ⟨("count_fillings", none), "count_fillings", "count_fillings", defArgs s_count_fillings, defBody s_count_fillings, defScope s_count_fillings, [], []⟩
def d_L_heap : He.DefD := ⟨("_law_heap", none), "_law_heap", "_law_heap", defArgs s_L_heap, defBody s_L_heap, defScope s_L_heap, [], []⟩
def d_L_less : He.DefD := ⟨("_law_less", none), "_law_less", "_law_less", defArgs s_L_less, defBody s_L_less, defScope s_L_less, [], []⟩
def d_L_order : He.DefD := ⟨("_law_order", none), "_law_order", "_law_order", defArgs s_L_order, defBody s_L_order, defScope s_L_order, [], []⟩
def d_L_shape : He.DefD := ⟨("_law_shape", none), "_law_shape", "_law_shape", defArgs s_L_shape, defBody s_L_shape, defScope s_L_shape, [], []⟩
def d_L_counts : He.DefD := ⟨("_law_counts", none), "_law_counts", "_law_counts", defArgs s_L_counts, defBody s_L_counts, defScope s_L_counts, [], []⟩
def d_L_under : He.DefD := ⟨("_law_under", none), "_law_under", "_law_under", defArgs s_L_under, defBody s_L_under, defScope s_L_under, [], []⟩
def d_L_moved : He.DefD := ⟨("_law_moved", none), "_law_moved", "_law_moved", defArgs s_L_moved, defBody s_L_moved, defScope s_L_moved, [], []⟩
def d_L_right : He.DefD := ⟨("_law_right", none), "_law_right", "_law_right", defArgs s_L_right, defBody s_L_right, defScope s_L_right, [], []⟩
def d_law : He.DefD := ⟨("law", none), "law", "law", defArgs s_law, defBody s_law, defScope s_law, [], []⟩
def fn0 : List He.DefD := [d_is_integer, d_is_from, d_is_shape, d_require_shape, d_without_strip, d_number_of, d_require_counts, d_count_fillings, d_L_heap, d_L_less, d_L_order, d_L_shape, d_L_counts, d_L_under, d_L_moved, d_L_right, d_law]
def fn : List He.DefD := fn0
def fa0 : List He.Fa := [.glo "is_integer", .glo "is_from", .glo "is_shape", .glo "require_shape", .glo "without_strip", .glo "number_of", .glo "require_counts", .glo "count_fillings", .glo "_law_heap", .glo "_law_less", .glo "_law_order", .glo "_law_shape", .glo "_law_counts", .glo "_law_under", .glo "_law_moved", .glo "_law_right", .glo "law", .glo "SumError", .glo "InvalidSums", .glo "InvalidFilling", .free "ValueError", .free "abs", .free "all", .free "bool", .free "enumerate", .free "int", .free "isinstance", .free "len", .free "list", .free "max"]
def fa1 : List He.Fa := [.free "min", .free "range", .free "sorted", .free "sum", .free "tuple", .int "MAX_CELLS" 42, .int "MAX_ENTRIES" 8, .exc "InvalidFilling", .exc "InvalidSums"]
def fa : List He.Fa := fa0 ++ fa1
def loose0 : List Str := ["is_integer", "is_from", "SumError", "InvalidSums", "InvalidFilling", "MAX_CELLS", "MAX_ENTRIES", "is_shape", "require_shape", "without_strip", "number_of", "require_counts", "count_fillings", "_law_heap", "_law_less", "_law_order", "_law_shape", "_law_counts", "_law_under", "_law_moved", "_law_right"]
def loose : List Str := loose0
abbrev R : PySem.W.OpenRow := PySem.W.OpenLaw.row PySem.Challenge.rw_sumsalone_k74_whole_fillings_and_order
def ex (K : PySem.W.Frag) : Bool := true
def xi : List Pd.IniD := []
def tf : List Str := []
def fb : List He5.DefA := []
abbrev hk : PySem.W.Hook := Pd.hookV 6 fa fn fb xi tf ex
def ob (s : PySem.W.SharedT) : Pd.AlZ := Pd.obsV 6 fa fn fb xi tf ex (HandSHeadRun.getT s)
theorem ob_eq (s : PySem.W.SharedT) : ob s = hk.obs s.abs := Pd.obsV_eq (HandSHeadRun.getT_eq s)
theorem run1 (w : World) : Pd.Run1 R 12000 w := by
  intro os
  kernel_rfl
theorem run2 (w : World) : Pd.Run2 R (PySem.W.view R.prog [25]) 12000 loose w := by
  intro os
  kernel_rfl
theorem run3 (w : World) : Pd.Run3 R hk ob 12000 w := by
  intro os
  kernel_rfl
theorem run (w : World) : HandSHeadRun.RunEq R (PySem.W.view R.prog [25]) hk ob 12000 loose w := Pd.runEq_of (run1 w) (run2 w) (run3 w)
end Hd

namespace Pd
open PySem PySem.Spec PyProof.Rows L2 LamX
/-! ### pure tools -/
theorem opt_if {α : Type} {c : Prop} [Decidable c] {z : α} {env : PEnv} {Q : α → PEnv → Prop} {ex : Xc → Prop} (h : c) (q : Q z env) : W.opt (if c then some z else none) env Q ex := by
  rw [if_pos h]
  exact q
theorem opt_is {α : Type} {o : Option α} {z : α} {env : PEnv} {Q : α → PEnv → Prop} {ex : Xc → Prop} (h : o = some z) (q : Q z env) : W.opt o env Q ex := by
  rw [h]
  exact q
theorem forW_ind {g : WG} {b : (PEnv → Prop) → PEnv → Prop} {fin : PEnv → Prop} (I : List D → PEnv → Prop)
    (step : ∀ x rest env, I (x :: rest) env → (∀ env', I rest env' → forW g b fin rest env') → g x env fun env' => b (forW g b fin rest) env') (done : ∀ env, I [] env → fin env) : ∀ xs env, I xs env → forW g b fin xs env
  | [], env, h => done env h
  | x :: rest, env, h => step x rest env h fun env' h' => forW_ind I step done rest env' h'
theorem compW_ind {g : WG} {t : W Bool} {e : W D} {vs : List Nat} {Q : List D → PEnv → Prop} (I : List D → PEnv → List D → Prop)
    (step : ∀ x rest env acc, I (x :: rest) env acc → (∀ env' acc', I rest env' acc' → compW g t e vs Q rest env' acc') → compW g t e vs Q (x :: rest) env acc) (done : ∀ env acc, I [] env acc → Q acc env) : ∀ xs env acc, I xs env acc → compW g t e vs Q xs env acc
  | [], env, acc, h => done env acc h
  | x :: rest, env, acc, h => step x rest env acc h fun env' acc' h' => compW_ind I step done rest env' acc' h'
abbrev Ti (ns : List Int) : D := .tup (ns.map D.int)
abbrev Li (ns : List Int) : D := .lst (ns.map D.int)
def isI : D → Bool
  | .int _ => true
  | _ => false
def inR (x : D) (a b : Int) : Bool := match x with
  | .int i => decide (a ≤ i) && decide (i ≤ b)
  | _ => false
abbrev maxN : Int := 999999999999999999999999999999
def isRow : D → Bool
  | .tup xs => decide (1 ≤ xs.length ∧ xs.length ≤ 64) && xs.all fun x => inR x 0 maxN
  | _ => false
/-- of a kind that isinstance may be asked of -/
def kd (x : D) : Prop := (dTy x).isSome = true
def kds (x : D) : Prop := kd x ∧ ∀ xs, x = .tup xs → ∀ y ∈ xs, kd y
theorem kds_Ti (ns : List Int) : kds (Ti ns) := ⟨rfl, fun xs e y hy => by
  cases e
  obtain ⟨n, _, rfl⟩ := List.mem_map.mp hy
  rfl⟩
/-! ### sorting ints -/
theorem plain_ints : ∀ ns : List Int, (ns.map D.int).all (plain 50) = true := fun ns => by
  rw [List.all_map]
  exact List.all_eq_true.mpr fun x _ => rfl
theorem toPy_ints (ns : List Int) : (ns.map D.int).map toPy = ns.map PyData.int := by
  rw [List.map_map]
  rfl
def dn (ns : List Int) : List Int := ns.mergeSort fun a b => decide (b ≤ a)
def up (ns : List Int) : List Int := ns.mergeSort fun a b => decide (a ≤ b)
theorem alike_int_all (ns : List Int) : PySem.W.AllAlike (ns.map PyData.int) := fun d hd d' hd' => by
  obtain ⟨a, _, rfl⟩ := List.mem_map.mp hd
  obtain ⟨b, _, rfl⟩ := List.mem_map.mp hd'
  rfl
theorem srt_ints (ns : List Int) : Srt (ns.map D.int) := by
  refine ⟨plain_ints ns, by rw [toPy_ints]; exact alike_int_all ns, .inr fun d hd => ?_⟩
  rw [toPy_ints] at hd
  obtain ⟨a, _, rfl⟩ := List.mem_map.mp hd
  exact ⟨(fun z => by cases z), (fun xs z => by cases z)⟩
theorem ms_up (ns : List Int) : (ns.map D.int).mergeSort (leD false) = (up ns).map D.int :=
  (List.map_mergeSort (r := fun a b : Int => decide (a ≤ b)) (s := leD false) (f := D.int) (fun a _ b _ => (congrFun (congrFun (PySem.W.dataLe_int (fun b : Int => b)) a) b).symm)).symm
theorem ms_dn (ns : List Int) : (ns.map D.int).mergeSort (leD true) = (dn ns).map D.int :=
  (List.map_mergeSort (r := fun a b : Int => decide (b ≤ a)) (s := leD true) (f := D.int) (fun a _ b _ => (congrFun (congrFun (PySem.W.dataGe_int (fun b : Int => b)) a) b).symm)).symm
theorem dn_perm (ns : List Int) : (dn ns).Perm ns := List.mergeSort_perm _ _
theorem up_perm (ns : List Int) : (up ns).Perm ns := List.mergeSort_perm _ _
theorem dn_len (ns : List Int) : (dn ns).length = ns.length := (dn_perm ns).length_eq
theorem dn_sorted (ns : List Int) : (dn ns).Pairwise fun a b => b ≤ a := by
  have h := List.pairwise_mergeSort (le := fun a b : Int => decide (b ≤ a)) (fun a b c h1 h2 => decide_eq_true (Int.le_trans (of_decide_eq_true h2) (of_decide_eq_true h1))) (fun a b => by
    by_cases h : b ≤ a
    · simp [h]
    · have : a ≤ b := by omega
      simp [this]) ns
  exact h.imp fun h => of_decide_eq_true h
theorem up_sorted (ns : List Int) : (up ns).Pairwise fun a b => a ≤ b := by
  have h := List.pairwise_mergeSort (le := fun a b : Int => decide (a ≤ b)) (fun a b c h1 h2 => decide_eq_true (Int.le_trans (of_decide_eq_true h1) (of_decide_eq_true h2))) (fun a b => by
    by_cases h : a ≤ b
    · simp [h]
    · have : b ≤ a := by omega
      simp [this]) ns
  exact h.imp fun h => of_decide_eq_true h
/-! ### comprehensions of one name -/
/-- a comprehension whose parts change nothing of what stands: by the list of its items -/
theorem wSort_ints {b : Bool} {ns : List Int} {env : PEnv} {Q : List D → PEnv → Prop} {ex : Xc → Prop} {x : D} {w : W D} (hx : dItems x = some (ns.map D.int)) (hw : ∀ P : D → PEnv → Prop, P x env → w env P ex)
    (q : Q ((if b then dn ns else up ns).map D.int) env) : wSort b w env Q ex := by
  refine hw _ ⟨_, hx, srt_ints ns, ?_⟩
  cases b
  · rw [ms_up]
    exact q
  · rw [ms_dn]
    exact q
/-! ### promises of common defs -/
def F_is_integer : Fn := fun ds Q _ => ∃ x, ds = [x] ∧ kd x ∧ Q (.bl (isI x))
def F_is_from : Fn := fun ds Q _ => ∃ x a b, ds = [x, .int a, .int b] ∧ kd x ∧ Q (.bl (inR x a b))
def F_is_amount : Fn := fun ds Q _ => ∃ x, ds = [x] ∧ kd x ∧ Q (.bl (inR x 0 maxN))
def F_is_row : Fn := fun ds Q _ => ∃ x, ds = [x] ∧ kds x ∧ Q (.bl (isRow x))
def F_require_row : Fn := fun ds Q _ => ∃ x, ds = [x] ∧ kds x ∧ isRow x = true ∧ Q .non
def F_falling : Fn := fun ds Q _ => ∃ ns, ds = [Ti ns] ∧ Q (Ti (dn ns))
/-- one drawn number -/
def F_draw : Fn := fun ds Q _ => ∃ p n, ds = [.box p, .int n] ∧ 0 < n ∧ n < 2 ^ 200 ∧ ∀ r, 0 ≤ r → r < n → Q (.int r)
def F_pick : Fn := fun ds Q _ => ∃ p x xs, ds = [.box p, x] ∧ dItems x = some xs ∧ xs ≠ [] ∧ xs.length ≤ 1000000 ∧ ∀ y ∈ xs, Q y
def F_mixed : Fn := fun ds Q _ => ∃ p x xs, ds = [.box p, x] ∧ dItems x = some xs ∧ xs.length < 1000000 ∧ ∀ ys, ys.Perm xs → Q (.lst ys)
def F_newbox : Fn := fun ds Q _ => ∃ ns i, ds = [.scr ns, .int i] ∧ 0 ≤ i ∧ i ≤ 1000 ∧ ns.length ≤ 1000 ∧ ∀ p, Q (.box p)
theorem pure_is_integer (ds : List D) (Q : D → Prop) (Ex : Xc → Prop) (h : F_is_integer ds Q Ex) : (sRet (wAnd (w1 (dIsi "int") (wVar 0)) (wNot (w1 (dIsi "bool") (wVar 0))))) (dEnds Q Ex) (startE ["value"] ds) := by
  obtain ⟨x, rfl, k, q⟩ := h
  cases x with
  | int i => exact br_tt rfl q
  | bl b => exact br_tt rfl q
  | non => exact br_ff rfl q
  | str x => exact br_ff rfl q
  | tup x => exact br_ff rfl q
  | lst x => exact br_ff rfl q
  | dic x => exact br_ff rfl q
  | _ => cases k
theorem pure_is_from (ds : List D) (Q : D → Prop) (Ex : Xc → Prop) (h : F_is_from ds Q Ex) : (sRet (wAnd (wCall F_is_integer (wCons (wVar 0) wNil)) (wChain dLe dLe (wVar 1) (wVar 0) (wVar 2)))) (dEnds Q Ex) (startE ["value", "first", "last"] ds) := by
  obtain ⟨x, a, b, rfl, k, q⟩ := h
  refine ⟨x, rfl, k, br_of (fun h => ?_) (fun h => ?_)⟩
  · cases x with
    | int i =>
      refine br_if (fun h1 => ?_) (fun h1 => ?_)
      · have e : inR (.int i) a b = decide (i ≤ b) := by simp [inR, h1]
        rw [e] at q
        exact q
      · have e : inR (.int i) a b = false := by simp [inR, h1]
        rw [e] at q
        exact q
    | _ => cases h
  · have e : inR x a b = false := by
      cases x with
      | int i => cases h
      | _ => rfl
    rw [e] at q
    exact q
/-! ### comprehensions whose parts are plain -/
theorem comp_enc {α : Type} {v : Nat} {t : W Bool} {e : W D} {Q : List D → PEnv → Prop} (E : Option Sl → PEnv) (enc h : α → D) (p : α → Bool) : ∀ (as : List α) (s0 : Option Sl) (acc : List D), (∀ s x, (wipeE (E s) [v]).set v (some (.d x)) = E (some (.d x))) →
    (∀ a ∈ as, ∀ (K : Bool → PEnv → Prop) ex, K (p a) (E (some (.d (enc a)))) → t (E (some (.d (enc a)))) K ex) → (∀ a ∈ as, p a = true → ∀ (K : D → PEnv → Prop) ex, K (h a) (E (some (.d (enc a)))) → e (E (some (.d (enc a)))) K ex) →
    (∀ s, Q (acc ++ ((as.filter p).map h)) (E s)) → compW (gNm v) t e [v] Q (as.map enc) (E s0) acc
  | [], s0, acc, _, _, _, hQ => by
    have := hQ s0
    simpa [compW] using this
  | a :: as, s0, acc, hE, ht, he, hQ => by
    show t ((wipeE (E s0) [v]).set v (some (.d (enc a)))) _ _
    rw [hE]
    refine ht a List.mem_cons_self _ _ (br_of (fun hp => ?_) (fun hp => ?_))
    · refine he a List.mem_cons_self hp _ _ (comp_enc E enc h p as _ _ hE (fun b hb => ht b (List.mem_cons_of_mem _ hb)) (fun b hb => he b (List.mem_cons_of_mem _ hb)) fun s => ?_)
      have := hQ s
      rw [List.filter_cons_of_pos hp, List.map_cons] at this
      rw [List.append_assoc]
      exact this
    · refine comp_enc E enc h p as _ _ hE (fun b hb => ht b (List.mem_cons_of_mem _ hb)) (fun b hb => he b (List.mem_cons_of_mem _ hb)) fun s => ?_
      have := hQ s
      rw [List.filter_cons_of_neg (by rw [hp]; exact Bool.false_ne_true)] at this
      exact this
/-- .. without a test -/
theorem comp_all {α : Type} {v : Nat} {e : W D} {Q : List D → PEnv → Prop} (E : Option Sl → PEnv) (enc h : α → D) (as : List α) (s0 : Option Sl) (acc : List D) (hE : ∀ s x, (wipeE (E s) [v]).set v (some (.d x)) = E (some (.d x)))
    (he : ∀ a ∈ as, ∀ (K : D → PEnv → Prop) ex, K (h a) (E (some (.d (enc a)))) → e (E (some (.d (enc a)))) K ex) (hQ : ∀ s, Q (acc ++ as.map h) (E s)) : compW (gNm v) (W.ret true) e [v] Q (as.map enc) (E s0) acc :=
  comp_enc E enc h (fun _ => true) as s0 acc hE (fun a ha K ex k => k) (fun a ha _ => he a ha) fun s => by
    rw [List.filter_eq_self.mpr fun _ _ => rfl]
    exact hQ s
/-- .. of pairs -/
theorem comp_pair {α : Type} {v u : Nat} {t : W Bool} {e : W D} {Q : List D → PEnv → Prop} (E : Option Sl → Option Sl → PEnv) (e1 e2 h : α → D) (p : α → Bool) : ∀ (as : List α) (s0 s1 : Option Sl) (acc : List D), (∀ s z x y, ((wipeE (E s z) [v, u]).set v (some (.d x))).set u (some (.d y)) = E (some (.d x)) (some (.d y))) →
    (∀ a ∈ as, ∀ (K : Bool → PEnv → Prop) ex, K (p a) (E (some (.d (e1 a))) (some (.d (e2 a)))) → t (E (some (.d (e1 a))) (some (.d (e2 a)))) K ex) → (∀ a ∈ as, p a = true → ∀ (K : D → PEnv → Prop) ex, K (h a) (E (some (.d (e1 a))) (some (.d (e2 a)))) → e (E (some (.d (e1 a))) (some (.d (e2 a)))) K ex) →
    (∀ s z, Q (acc ++ ((as.filter p).map h)) (E s z)) → compW (gTupP (gsCons (gNm v) (gsCons (gNm u) gsNil)) 2) t e [v, u] Q (as.map fun a => .tup [e1 a, e2 a]) (E s0 s1) acc
  | [], s0, s1, acc, _, _, _, hQ => by
    have := hQ s0 s1
    simpa [compW] using this
  | a :: as, s0, s1, acc, hE, ht, he, hQ => by
    refine ⟨rfl, ?_⟩
    show t (((wipeE (E s0 s1) [v, u]).set v (some (.d (e1 a)))).set u (some (.d (e2 a)))) _ _
    rw [hE]
    refine ht a List.mem_cons_self _ _ (br_of (fun hp => ?_) (fun hp => ?_))
    · refine he a List.mem_cons_self hp _ _ (comp_pair E e1 e2 h p as _ _ _ hE (fun b hb => ht b (List.mem_cons_of_mem _ hb)) (fun b hb => he b (List.mem_cons_of_mem _ hb)) fun s z => ?_)
      have := hQ s z
      rw [List.filter_cons_of_pos hp, List.map_cons] at this
      rw [List.append_assoc]
      exact this
    · refine comp_pair E e1 e2 h p as _ _ _ hE (fun b hb => ht b (List.mem_cons_of_mem _ hb)) (fun b hb => he b (List.mem_cons_of_mem _ hb)) fun s z => ?_
      have := hQ s z
      rw [List.filter_cons_of_neg (by rw [hp]; exact Bool.false_ne_true)] at this
      exact this
/-! ### slices -/
theorem cut_from {α : Type} (xs : List α) (k : Nat) : Pd.cutD xs (some (k : Int)) none = xs.drop k := by
  unfold Pd.cutD
  rw [HT.sIx_nat, HT.sIx_none]
  by_cases h : k ≤ xs.length
  · rw [Nat.min_eq_left h]
    exact List.take_of_length_le (by rw [List.length_drop]; exact Nat.le_refl _)
  · rw [Nat.min_eq_right (by omega), Nat.sub_self, List.take_zero, List.drop_eq_nil_of_le (by omega)]
theorem cut_to {α : Type} (xs : List α) (k : Nat) : Pd.cutD xs none (some (k : Int)) = xs.take k := by
  unfold Pd.cutD
  rw [HT.sIx_nat, HT.sIx_none, Nat.sub_zero, List.drop_zero]
  by_cases h : k ≤ xs.length
  · rw [Nat.min_eq_left h]
  · rw [Nat.min_eq_right (by omega), List.take_of_length_le (Nat.le_refl _), List.take_of_length_le (by omega)]
/-! ### ranges -/
theorem upTo_nil {a b : Int} (h : b ≤ a) : Pd.upTo a b = [] := by
  unfold Pd.upTo
  have : (b - a).toNat = 0 := by omega
  rw [this]
  rfl
theorem upTo_cons {a b : Int} (h : a < b) : Pd.upTo a b = .int a :: Pd.upTo (a + 1) b := by
  unfold Pd.upTo
  have e : (b - a).toNat = (b - (a + 1)).toNat + 1 := by omega
  rw [e, List.range_succ_eq_map, List.map_cons, List.map_map]
  refine List.cons_eq_cons.mpr ⟨?_, List.map_congr_left fun k _ => ?_⟩
  · simp
  · show D.int (a + ((k + 1 : Nat) : Int)) = D.int (a + 1 + (k : Int))
    have : a + ((k + 1 : Nat) : Int) = a + 1 + (k : Int) := by omega
    rw [this]
theorem upTo_len' (a b : Int) : (Pd.upTo a b).length = (b - a).toNat := by
  unfold Pd.upTo
  rw [List.length_map, List.length_range]
end Pd

/-! shapes, strips, counts of fillings, in plain words -/
namespace Pr
open PySem PySem.Spec PyProof.Rows L2 LamX Pd
/-- one more row of a shape is walked -/
def stepS (found : List (List Nat × Nat)) (row least : Nat) : List (List Nat × Nat) := found.flatMap fun p => ((List.range (row - least + 1)).filter fun c => decide (c ≤ p.2)).map fun c => (p.1 ++ [row - c], p.2 - c)
def goS : List Nat → List (List Nat × Nat) → List (List Nat × Nat)
  | [], f => f
  | r :: rest, f => goS rest (stepS f r (rest.headD 0))
/-- the shapes left when a strip of so many cells is taken off -/
def strips (s : List Nat) (m : Nat) : List (List Nat) := ((goS s [([], m)]).filter fun p => decide (p.2 = 0)).map fun p => p.1.filter fun r => decide (r > 0)
/-- how many ways down, strip by strip -/
def numR : List Nat → List Nat → Nat
  | s, [] => if s = [] then 1 else 0
  | s, m :: ms => ((strips s m).map fun t => numR t ms).sum
/-! dicts of counts by shapes -/
abbrev Nk (t : List Nat) : List Int := t.map fun n : Nat => (n : Int)
def encC (l : List (List Nat × Nat)) : List (List Key × D) := l.map fun p => (iK (Nk p.1), D.int (p.2 : Int))
theorem Nk_inj : ∀ {a b : List Nat}, Nk a = Nk b → a = b
  | [], [], _ => rfl
  | [], _ :: _, h => by cases h
  | _ :: _, [], h => by cases h
  | x :: a, y :: b, h => by
    have h1 := List.cons.inj h
    have e1 : (x : Int) = (y : Int) := h1.1
    rw [show x = y by omega, Nk_inj h1.2]
theorem iK_inj : ∀ {a b : List Int}, iK a = iK b → a = b
  | [], [], _ => rfl
  | [], _ :: _, h => by cases h
  | _ :: _, [], h => by cases h
  | x :: a, y :: b, h => by
    have h1 := List.cons.inj h
    rw [Sum.inl.inj h1.1, iK_inj (show iK a = iK b from h1.2)]
theorem key_eq {a b : List Nat} : iK (Nk a) = iK (Nk b) ↔ a = b := ⟨fun h => Nk_inj (iK_inj h), fun h => by rw [h]⟩
def getC (l : List (List Nat × Nat)) (t : List Nat) : Nat := ((l.find? fun p => decide (p.1 = t)).map (·.2)).getD 0
def putC (l : List (List Nat × Nat)) (t : List Nat) (c : Nat) : List (List Nat × Nat) := if (l.any fun p => decide (p.1 = t)) = true then l.map (fun p => if p.1 = t then (p.1, c) else p) else l ++ [(t, c)]
theorem get_enc (l : List (List Nat × Nat)) (t : List Nat) : (lookG (encC l) (iK (Nk t))).getD (.int 0) = .int (getC l t : Int) := by
  induction l with
  | nil => rfl
  | cons p l ih =>
    unfold lookG getC encC at ih ⊢
    rw [List.map_cons, List.find?_cons, List.find?_cons]
    by_cases h : p.1 = t
    · have e : decide (iK (Nk p.1) = iK (Nk t)) = true := decide_eq_true (key_eq.mpr h)
      simp only [e, decide_eq_true h]
      rfl
    · have e : decide (iK (Nk p.1) = iK (Nk t)) = false := decide_eq_false fun z => h (key_eq.mp z)
      simp only [e, decide_eq_false h]
      exact ih
theorem any_enc (l : List (List Nat × Nat)) (t : List Nat) : ((encC l).any fun kv => decide (kv.1 = iK (Nk t))) = l.any fun p => decide (p.1 = t) := by
  unfold encC
  rw [List.any_map]
  congr 1
  funext p
  exact decide_eq_decide.mpr key_eq
theorem put_enc (l : List (List Nat × Nat)) (t : List Nat) (c : Nat) : putG (encC l) (iK (Nk t)) (.int (c : Int)) = encC (putC l t c) := by
  unfold putG putC
  rw [any_enc]
  split
  · unfold encC
    rw [List.map_map, List.map_map]
    refine List.map_congr_left fun p _ => ?_
    show (if iK (Nk p.1) = iK (Nk t) then (iK (Nk p.1), D.int (c : Int)) else (iK (Nk p.1), D.int (p.2 : Int))) = (fun p : List Nat × Nat => (iK (Nk p.1), D.int (p.2 : Int))) (if p.1 = t then (p.1, c) else p)
    by_cases h : p.1 = t
    · rw [if_pos (key_eq.mpr h), if_pos h]
    · rw [if_neg (fun z => h (key_eq.mp z)), if_neg h]
  · unfold encC
    rw [List.map_append]
    rfl
/-- all counts, each with what its shape is worth -/
def worth (l : List (List Nat × Nat)) (f : List Nat → Nat) : Nat := (l.map fun p => p.2 * f p.1).sum
theorem mem_any {l : List (List Nat × Nat)} {t : List Nat} : (l.any fun p => decide (p.1 = t)) = true ↔ t ∈ l.map (·.1) := by
  rw [List.any_eq_true, List.mem_map]
  constructor
  · rintro ⟨p, h1, h2⟩
    exact ⟨p, h1, of_decide_eq_true h2⟩
  · rintro ⟨p, h1, h2⟩
    exact ⟨p, h1, decide_eq_true h2⟩
theorem put_keys (l : List (List Nat × Nat)) (t : List Nat) (c : Nat) (nd : (l.map (·.1)).Nodup) : ((putC l t c).map (·.1)).Nodup := by
  unfold putC
  split
  · rw [List.map_map]
    have e : l.map ((·.1) ∘ fun p : List Nat × Nat => if p.1 = t then (p.1, c) else p) = l.map (·.1) := List.map_congr_left fun p _ => by
      show (if p.1 = t then (p.1, c) else p).1 = p.1
      split <;> rfl
    rw [e]
    exact nd
  · rename_i h
    rw [List.map_append]
    refine List.nodup_append.mpr ⟨nd, (List.nodup_cons.mpr ⟨List.not_mem_nil, List.nodup_nil⟩), fun a ha b hb z => ?_⟩
    have : b = t := by simpa using hb
    exact h (mem_any.mpr (by rw [← this, ← z]; exact ha))
theorem worth_same {l : List (List Nat × Nat)} {t : List Nat} {c : Nat} {f : List Nat → Nat} (h : t ∉ l.map (·.1)) : (l.map fun p => if p.1 = t then (p.1, c) else p) = l := by
  induction l with
  | nil => rfl
  | cons p l ih =>
    rw [List.map_cons, List.mem_cons, not_or] at h
    rw [List.map_cons, ih h.2, if_neg fun z => h.1 z.symm]
theorem worth_put (l : List (List Nat × Nat)) (t : List Nat) (c : Nat) (f : List Nat → Nat) (nd : (l.map (·.1)).Nodup) : worth (putC l t (getC l t + c)) f = worth l f + c * f t := by
  unfold putC
  split
  · rename_i h0
    have h := mem_any.mp h0
    clear h0
    induction l with
    | nil => cases h
    | cons p l ih =>
      rw [List.map_cons] at nd h
      obtain ⟨n1, n2⟩ := List.nodup_cons.mp nd
      by_cases e : p.1 = t
      · have e2 : getC (p :: l) t = p.2 := by
          unfold getC
          rw [List.find?_cons]
          simp only [decide_eq_true e]
          rfl
        rw [List.map_cons, if_pos e, worth_same (f := f) (by rw [← e]; exact n1), e2]
        unfold worth
        rw [List.map_cons, List.map_cons, List.sum_cons, List.sum_cons, ← e]
        show (p.2 + c) * f p.1 + _ = p.2 * f p.1 + _ + c * f p.1
        rw [Nat.add_mul]
        omega
      · have e2 : getC (p :: l) t = getC l t := by
          unfold getC
          rw [List.find?_cons]
          simp only [decide_eq_false e]
        have hm : t ∈ l.map (·.1) := by
          rcases List.mem_cons.mp h with z | z
          · exact absurd z.symm e
          · exact z
        have := ih n2 hm
        rw [List.map_cons, if_neg e, e2]
        unfold worth at this ⊢
        rw [List.map_cons, List.map_cons, List.sum_cons, List.sum_cons, this]
        omega
  · rename_i h
    have e : getC l t = 0 := by
      unfold getC
      cases q : l.find? fun p => decide (p.1 = t) with
      | none => rfl
      | some p => exact absurd (List.any_eq_true.mpr ⟨p, List.mem_of_find?_eq_some q, List.find?_some (p := fun p : List Nat × Nat => decide (p.1 = t)) q⟩) h
    rw [e, Nat.zero_add]
    unfold worth
    rw [List.map_append, List.sum_append]
    show _ + (c * f t + 0) = _
    rfl
/-- one shape's strips are put into the later dict -/
def putS (acc : List (List Nat × Nat)) (ts : List (List Nat)) (c : Nat) : List (List Nat × Nat) := ts.foldl (fun acc t => putC acc t (getC acc t + c)) acc
def passC (l : List (List Nat × Nat)) (m : Nat) (acc : List (List Nat × Nat)) : List (List Nat × Nat) := l.foldl (fun acc p => putS acc (strips p.1 m) p.2) acc
theorem putS_worth (f : List Nat → Nat) (c : Nat) : ∀ (ts : List (List Nat)) (acc : List (List Nat × Nat)), (acc.map (·.1)).Nodup → ((putS acc ts c).map (·.1)).Nodup ∧ worth (putS acc ts c) f = worth acc f + c * (ts.map f).sum
  | [], acc, nd => ⟨nd, by rw [List.map_nil, List.sum_nil, Nat.mul_zero]; rfl⟩
  | t :: ts, acc, nd => by
    obtain ⟨h1, h2⟩ := putS_worth f c ts (putC acc t (getC acc t + c)) (put_keys _ _ _ nd)
    refine ⟨h1, ?_⟩
    show worth (putS (putC acc t (getC acc t + c)) ts c) f = _
    rw [h2, worth_put _ _ _ _ nd, List.map_cons, List.sum_cons, Nat.mul_add]
    omega
theorem passC_worth (f : List Nat → Nat) (m : Nat) : ∀ (l acc : List (List Nat × Nat)), (acc.map (·.1)).Nodup → ((passC l m acc).map (·.1)).Nodup ∧ worth (passC l m acc) f = worth acc f + worth l fun s => ((strips s m).map f).sum
  | [], acc, nd => ⟨nd, rfl⟩
  | p :: l, acc, nd => by
    obtain ⟨a1, a2⟩ := putS_worth f p.2 (strips p.1 m) acc nd
    obtain ⟨h1, h2⟩ := passC_worth f m l (putS acc (strips p.1 m) p.2) a1
    refine ⟨h1, ?_⟩
    show worth (passC l m (putS acc (strips p.1 m) p.2)) f = _
    have e : worth (p :: l) (fun s => ((strips s m).map f).sum) = p.2 * ((strips p.1 m).map f).sum + worth l fun s => ((strips s m).map f).sum := by
      unfold worth
      rw [List.map_cons, List.sum_cons]
    rw [h2, a2, e]
    omega
theorem worth_end (l : List (List Nat × Nat)) (nd : (l.map (·.1)).Nodup) : worth l (fun s => if s = [] then 1 else 0) = getC l [] := by
  induction l with
  | nil => rfl
  | cons p l ih =>
    rw [List.map_cons] at nd
    obtain ⟨n1, n2⟩ := List.nodup_cons.mp nd
    have ih := ih n2
    unfold worth at ih ⊢
    rw [List.map_cons, List.sum_cons, ih]
    by_cases e : p.1 = []
    · have z : getC l [] = 0 := by
        unfold getC
        cases q : l.find? fun p => decide (p.1 = []) with
        | none => rfl
        | some a =>
          have := of_decide_eq_true (List.find?_some (p := fun p : List Nat × Nat => decide (p.1 = [])) q)
          exact absurd (List.mem_map.mpr ⟨a, List.mem_of_find?_eq_some q, by rw [this, e]⟩) n1
      have g : getC (p :: l) [] = p.2 := by
        unfold getC
        rw [List.find?_cons]
        simp only [decide_eq_true e]
        rfl
      rw [g, z]
      show p.2 * (if p.1 = [] then 1 else 0) + 0 = _
      rw [if_pos e]
      omega
    · have g : getC (p :: l) [] = getC l [] := by
        unfold getC
        rw [List.find?_cons]
        simp only [decide_eq_false e]
      rw [g]
      show p.2 * (if p.1 = [] then 1 else 0) + _ = _
      rw [if_neg e]
      omega
/-- all passes, the counts in the order they are walked -/
def walkC : List Nat → List (List Nat × Nat) → List (List Nat × Nat)
  | [], l => l
  | m :: ms, l => walkC ms (passC l m [])
theorem walkC_worth : ∀ (ms : List Nat) (l : List (List Nat × Nat)), (l.map (·.1)).Nodup → getC (walkC ms l) [] = worth l fun s => numR s ms
  | [], l, nd => (worth_end l nd).symm
  | m :: ms, l, nd => by
    obtain ⟨h1, h2⟩ := passC_worth (fun s => numR s ms) m l [] List.nodup_nil
    show getC (walkC ms (passC l m [])) [] = _
    rw [walkC_worth ms _ h1, h2]
    exact Nat.zero_add _
theorem walkC_num (s : List Nat) (ms : List Nat) : getC (walkC ms [(s, 1)]) [] = numR s ms := by
  have nd : (([(s, 1)] : List (List Nat × Nat)).map (·.1)).Nodup := List.nodup_cons.mpr ⟨List.not_mem_nil, List.nodup_nil⟩
  rw [walkC_worth ms _ nd]
  show 1 * numR s ms + 0 = _
  omega
theorem sum_flat {α : Type} (f : α → Nat) (g : List Nat → List α) : ∀ l : List (List Nat), (l.map fun t => ((g t).map f).sum).sum = ((l.flatMap g).map f).sum
  | [] => rfl
  | t :: l => by
    rw [List.map_cons, List.sum_cons, sum_flat f g l, List.flatMap_cons, List.map_append, List.sum_append]
theorem sum_perm {l m : List Nat} (h : l.Perm m) : l.sum = m.sum := by
  induction h with
  | nil => rfl
  | cons x _ ih => rw [List.sum_cons, List.sum_cons, ih]
  | swap x y l =>
    rw [List.sum_cons, List.sum_cons, List.sum_cons, List.sum_cons]
    omega
  | trans _ _ h1 h2 => rw [h1, h2]
/-- strips that commute: the next two counts may change places -/
theorem num_swap {s : List Nat} {a b : Nat} {ms : List Nat} (h : ((strips s a).flatMap fun t => strips t b).Perm ((strips s b).flatMap fun t => strips t a)) : numR s (a :: b :: ms) = numR s (b :: a :: ms) := by
  show ((strips s a).map fun t => ((strips t b).map fun u => numR u ms).sum).sum = ((strips s b).map fun t => ((strips t a).map fun u => numR u ms).sum).sum
  rw [sum_flat, sum_flat]
  exact sum_perm (h.map _)
end Pr

/-! looks at all shapes of at most ten cells -/
namespace Pr
def parts : Nat → Nat → Nat → List (List Nat)
  | _, 0, _ => [[]]
  | 0, _, _ => []
  | f + 1, n, m => (List.range (min n m)).flatMap fun i => (parts f (n - (i+1)) (i+1)).map ((i+1) :: ·)
/-- all shapes of so many cells -/
def shapes (n : Nat) : List (List Nat) := parts 11 n n
def memB (t : List Nat) (l : List (List Nat)) : Bool := l.any fun x => decide (x = t)
def two (s : List Nat) (a b : Nat) : List (List Nat) := (strips s a).flatMap fun t => strips t b
def subL (l m : List (List Nat)) : List (List Nat) := m.foldl (fun l x => l.erase x) l
/-- what is to be looked at for one shape -/
def chkS (n : Nat) (s : List Nat) : Bool := (List.range (n + 1)).all fun a => ((strips s a).all fun t => memB t (shapes (n - a))) && (List.range (n + 1 - a)).all fun b => (if a < b then (two s a b).isPerm (two s b a) else true) && (if a > b + 1 then (two s a b ++ subL (two s (a - 1) (b + 1)) (two s a b)).isPerm (two s (a - 1) (b + 1)) else true)
def chk0 (s : List Nat) : Bool := decide (strips s 0 = [s]) && decide (numR s s.reverse = 1)
def chkN (n : Nat) : Bool := (shapes n).all fun s => chkS n s && chk0 s
def pre (l : List Nat) (k : Nat) : Nat := (l.take k).sum
def undB (m s : List Nat) : Bool := (List.range 11).all fun k => decide (pre m k ≤ pre s k)
def posB : List Nat → List Nat → Bool
  | s, [] => decide (s = [])
  | s, m :: ms => (strips s m).any fun t => posB t ms
def p5 (n : Nat) : List (List Nat) := (shapes n).filter fun l => decide (l.length ≤ 5)
def chkU (n : Nat) : Bool := (shapes n).all fun s => (p5 n).all fun m => posB s m == undB m s
theorem c0 : chkN 0 = true := by decide +kernel
theorem c1 : chkN 1 = true := by decide +kernel
theorem c2 : chkN 2 = true := by decide +kernel
theorem c3 : chkN 3 = true := by decide +kernel
theorem c4 : chkN 4 = true := by decide +kernel
theorem c5 : chkN 5 = true := by decide +kernel
theorem c6 : chkN 6 = true := by decide +kernel
theorem c7 : chkN 7 = true := by decide +kernel
theorem c8 : chkN 8 = true := by decide +kernel
theorem c9 : chkN 9 = true := by decide +kernel
theorem c10 : chkN 10 = true := by decide +kernel
theorem u0 : chkU 0 = true := by decide +kernel
theorem u1 : chkU 1 = true := by decide +kernel
theorem u2 : chkU 2 = true := by decide +kernel
theorem u3 : chkU 3 = true := by decide +kernel
theorem u4 : chkU 4 = true := by decide +kernel
theorem u5 : chkU 5 = true := by decide +kernel
theorem u6 : chkU 6 = true := by decide +kernel
theorem u7 : chkU 7 = true := by decide +kernel
theorem u8 : chkU 8 = true := by decide +kernel
theorem u9 : chkU 9 = true := by decide +kernel
theorem u10 : chkU 10 = true := by decide +kernel
end Pr

/-! counts of fillings of shapes of at most ten cells: orders, zeros, moves, what is under -/
namespace Pr
/-- shapes of at most ten cells -/
def Small (s : List Nat) : Prop := s.Pairwise (fun a b => b ≤ a) ∧ (∀ x ∈ s, 0 < x) ∧ s.sum ≤ 10
theorem parts_mem : ∀ (f n m : Nat) (s : List Nat), n ≤ f → s.sum = n → s.Pairwise (fun a b => b ≤ a) → (∀ x ∈ s, 0 < x ∧ x ≤ m) → s ∈ parts f n m
  | f, 0, m, s, _, e, _, h => by
    cases s with
    | nil =>
      unfold parts
      exact List.mem_singleton.mpr rfl
    | cons x l =>
      have := (h x List.mem_cons_self).1
      rw [List.sum_cons] at e
      omega
  | 0, n + 1, m, s, hf, _, _, _ => by omega
  | f + 1, n + 1, m, s, hf, e, hp, h => by
    cases s with
    | nil => cases e
    | cons x l =>
      rw [List.sum_cons] at e
      obtain ⟨h1, h2⟩ := h x List.mem_cons_self
      obtain ⟨p1, p2⟩ := List.pairwise_cons.mp hp
      unfold parts
      refine List.mem_flatMap.mpr ⟨x - 1, List.mem_range.mpr (by omega), ?_⟩
      have ex : x - 1 + 1 = x := by omega
      rw [ex]
      exact List.mem_map.mpr ⟨l, parts_mem f (n + 1 - x) x l (by omega) (by omega) p2 fun y hy => ⟨(h y (List.mem_cons_of_mem _ hy)).1, p1 y hy⟩, rfl⟩
theorem parts_of : ∀ (f n m : Nat) (s : List Nat), s ∈ parts f n m → s.sum = n ∧ s.Pairwise (fun a b => b ≤ a) ∧ ∀ x ∈ s, 0 < x ∧ x ≤ m
  | f, 0, m, s, h => by
    unfold parts at h
    rw [List.mem_singleton.mp h]
    exact ⟨rfl, List.Pairwise.nil, fun x hx => by cases hx⟩
  | 0, n + 1, m, s, h => by cases h
  | f + 1, n + 1, m, s, h => by
    unfold parts at h
    obtain ⟨i, h1, h2⟩ := List.mem_flatMap.mp h
    obtain ⟨l, h3, rfl⟩ := List.mem_map.mp h2
    have hi := List.mem_range.mp h1
    obtain ⟨a, b, c⟩ := parts_of f _ _ l h3
    refine ⟨?_, List.pairwise_cons.mpr ⟨fun y hy => (c y hy).2, b⟩, fun x hx => ?_⟩
    · rw [List.sum_cons, a]
      omega
    · rcases List.mem_cons.mp hx with rfl | hx
      · exact ⟨by omega, by omega⟩
      · have := c x hx
        exact ⟨this.1, by omega⟩
theorem le_sum {x : Nat} : ∀ {s : List Nat}, x ∈ s → x ≤ s.sum
  | y :: l, h => by
    rw [List.sum_cons]
    rcases List.mem_cons.mp h with rfl | h
    · omega
    · have := le_sum h
      omega
theorem small_mem {s : List Nat} (h : Small s) : s ∈ shapes s.sum := parts_mem 11 _ _ s (by have := h.2.2; omega) rfl h.1 fun x hx => ⟨h.2.1 x hx, le_sum hx⟩
theorem small_of {s : List Nat} {n : Nat} (hn : n ≤ 10) (h : s ∈ shapes n) : Small s ∧ s.sum = n := by
  obtain ⟨a, b, c⟩ := parts_of _ _ _ s h
  exact ⟨⟨b, fun x hx => (c x hx).1, by omega⟩, a⟩
theorem chkAll : ∀ n, n ≤ 10 → chkN n = true
  | 0, _ => c0
  | 1, _ => c1
  | 2, _ => c2
  | 3, _ => c3
  | 4, _ => c4
  | 5, _ => c5
  | 6, _ => c6
  | 7, _ => c7
  | 8, _ => c8
  | 9, _ => c9
  | 10, _ => c10
  | n + 11, h => by omega
theorem chk_small {s : List Nat} (h : Small s) : chkS s.sum s = true ∧ chk0 s = true := by
  have := List.all_eq_true.mp (chkAll s.sum h.2.2) s (small_mem h)
  rw [Bool.and_eq_true] at this
  exact this
/-- what is taken off and what is left are all cells -/
theorem step_sum {f : List (List Nat × Nat)} {m r l t0 : Nat} (hl : l ≤ r) (h : ∀ p ∈ f, p.1.sum + m = t0 + p.2) : ∀ p ∈ stepS f r l, p.1.sum + m = t0 + r + p.2 := fun p hp => by
  unfold stepS at hp
  obtain ⟨q, h1, h2⟩ := List.mem_flatMap.mp hp
  obtain ⟨c, h3, rfl⟩ := List.mem_map.mp h2
  obtain ⟨h4, h5⟩ := List.mem_filter.mp h3
  have := h q h1
  have e1 := List.mem_range.mp h4
  have e2 := of_decide_eq_true h5
  show (q.1 ++ [r - c]).sum + m = t0 + r + (q.2 - c)
  rw [List.sum_append, List.sum_cons, List.sum_nil]
  omega
theorem go_sum {m : Nat} : ∀ (s : List Nat) (f : List (List Nat × Nat)) (t0 : Nat), s.Pairwise (fun a b => b ≤ a) → (∀ p ∈ f, p.1.sum + m = t0 + p.2) → ∀ p ∈ goS s f, p.1.sum + m = t0 + s.sum + p.2
  | [], f, t0, _, h => fun p hp => by
    rw [List.sum_nil]
    exact h p hp
  | r :: rest, f, t0, hs, h => fun p hp => by
    obtain ⟨p1, p2⟩ := List.pairwise_cons.mp hs
    have hl : rest.headD 0 ≤ r := by
      cases rest with
      | nil => exact Nat.zero_le _
      | cons y l => exact p1 y List.mem_cons_self
    have := go_sum rest (stepS f r (rest.headD 0)) (t0 + r) p2 (step_sum hl h) p hp
    rw [List.sum_cons]
    omega
theorem sum_pos : ∀ l : List Nat, (l.filter fun r => decide (r > 0)).sum = l.sum
  | [] => rfl
  | x :: l => by
    rw [List.filter_cons]
    split
    · rw [List.sum_cons, List.sum_cons, sum_pos l]
    · rename_i h
      have : x = 0 := by
        have : ¬ x > 0 := fun z => h (decide_eq_true z)
        omega
      rw [List.sum_cons, sum_pos l]
      omega
theorem strip_sum {s t : List Nat} {m : Nat} (hs : s.Pairwise (fun a b => b ≤ a)) (h : t ∈ strips s m) : t.sum + m = s.sum := by
  unfold strips at h
  obtain ⟨p, h1, rfl⟩ := List.mem_map.mp h
  obtain ⟨h2, h3⟩ := List.mem_filter.mp h1
  have e := of_decide_eq_true h3
  have := go_sum (m := m) s [([], m)] 0 hs (fun q hq => by rw [List.mem_singleton.mp hq]; rfl) p h2
  rw [sum_pos]
  omega
theorem memB_of {t : List Nat} {l : List (List Nat)} (h : memB t l = true) : t ∈ l := by
  obtain ⟨x, h1, h2⟩ := List.any_eq_true.mp h
  rw [← of_decide_eq_true h2]
  exact h1
theorem chk_at {s : List Nat} {a : Nat} (h : Small s) (ha : a ≤ s.sum) : (∀ t ∈ strips s a, Small t ∧ t.sum + a = s.sum) ∧ ∀ b, a + b ≤ s.sum → (a < b → (two s a b).Perm (two s b a)) ∧ (a > b + 1 → (two s a b ++ subL (two s (a - 1) (b + 1)) (two s a b)).Perm (two s (a - 1) (b + 1))) := by
  have := List.all_eq_true.mp (chk_small h).1 a (List.mem_range.mpr (by omega))
  rw [Bool.and_eq_true] at this
  refine ⟨fun t ht => ?_, fun b hb => ?_⟩
  · obtain ⟨z1, z2⟩ := small_of (by have := h.2.2; omega) (memB_of (List.all_eq_true.mp this.1 t ht))
    exact ⟨z1, by omega⟩
  · have := List.all_eq_true.mp this.2 b (List.mem_range.mpr (by omega))
    rw [Bool.and_eq_true] at this
    refine ⟨fun z => ?_, fun z => ?_⟩
    · have := this.1
      rw [if_pos z] at this
      exact List.isPerm_iff.mp this
    · have := this.2
      rw [if_pos z] at this
      exact List.isPerm_iff.mp this
theorem strip_small {s t : List Nat} {m : Nat} (h : Small s) (ht : t ∈ strips s m) : Small t ∧ t.sum + m = s.sum := by
  have e := strip_sum h.1 ht
  exact (chk_at h (by omega)).1 t ht
theorem two_none {s : List Nat} {a b : Nat} (h : Small s) (z : s.sum < a + b) : two s a b = [] := by
  unfold two
  refine List.flatMap_eq_nil_iff.mpr fun t ht => ?_
  obtain ⟨h1, h2⟩ := strip_small h ht
  cases e : strips t b with
  | nil => rfl
  | cons u l =>
    have := strip_sum h1.1 (show u ∈ strips t b by rw [e]; exact List.mem_cons_self)
    omega
theorem two_perm {s : List Nat} {a b : Nat} (h : Small s) : (two s a b).Perm (two s b a) := by
  by_cases z : s.sum < a + b
  · rw [two_none h z, two_none h (by omega)]
  · rcases Nat.lt_trichotomy a b with l | l | l
    · exact ((chk_at h (a := a) (by omega)).2 b (by omega)).1 l
    · rw [l]
    · exact (((chk_at h (a := b) (by omega)).2 a (by omega)).1 l).symm
theorem map_congr_sum {s : List Nat} {m : Nat} {f g : List Nat → Nat} (h : ∀ t ∈ strips s m, f t = g t) : ((strips s m).map f).sum = ((strips s m).map g).sum := by
  rw [List.map_congr_left h]
/-- the order of the counts does not matter -/
theorem num_perm {c d : List Nat} (h : c.Perm d) : ∀ {s : List Nat}, Small s → numR s c = numR s d := by
  induction h with
  | nil => exact fun _ => rfl
  | cons m _ ih => exact fun {s} hs => map_congr_sum fun t ht => ih (strip_small hs ht).1
  | swap a b l => exact fun {s} hs => num_swap (two_perm hs)
  | trans _ _ h1 h2 => exact fun hs => (h1 hs).trans (h2 hs)
theorem num_zero {s : List Nat} (h : Small s) (c : List Nat) : numR s (0 :: c) = numR s c := by
  have := (chk_small h).2
  unfold chk0 at this
  rw [Bool.and_eq_true] at this
  show ((strips s 0).map fun t => numR t c).sum = _
  rw [of_decide_eq_true this.1]
  show numR s c + 0 = _
  omega
theorem num_self {s : List Nat} (h : Small s) : numR s s.reverse = 1 := by
  have := (chk_small h).2
  unfold chk0 at this
  rw [Bool.and_eq_true] at this
  exact of_decide_eq_true this.2
theorem num_filter : ∀ (c s : List Nat), Small s → numR s (c.filter fun r => decide (r > 0)) = numR s c
  | [], s, _ => rfl
  | x :: l, s, h => by
    rw [List.filter_cons]
    split
    · exact map_congr_sum fun t ht => num_filter l t (strip_small h ht).1
    · rename_i z
      have e : x = 0 := by
        have : ¬ x > 0 := fun z2 => z (decide_eq_true z2)
        omega
      rw [num_filter l s h, e, num_zero h]
theorem num_move {s : List Nat} (h : Small s) {a b : Nat} (z : a > b + 1) (c : List Nat) : numR s (a :: b :: c) ≤ numR s ((a - 1) :: (b + 1) :: c) := by
  show ((strips s a).map fun t => ((strips t b).map fun u => numR u c).sum).sum ≤ ((strips s (a - 1)).map fun t => ((strips t (b + 1)).map fun u => numR u c).sum).sum
  rw [sum_flat, sum_flat]
  show ((two s a b).map _).sum ≤ ((two s (a - 1) (b + 1)).map _).sum
  by_cases y : s.sum < a + b
  · rw [two_none h y]
    exact Nat.zero_le _
  · have := ((chk_at h (a := a) (by omega)).2 b (by omega)).2 z
    rw [← sum_perm (this.map fun u => numR u c), List.map_append, List.sum_append]
    omega
theorem pos_iff : ∀ (c s : List Nat), posB s c = true ↔ 0 < numR s c
  | [], s => by
    unfold posB numR
    by_cases e : s = []
    · rw [if_pos e, decide_eq_true e]
      exact ⟨fun _ => by omega, fun _ => rfl⟩
    · rw [if_neg e, decide_eq_false e]
      exact ⟨fun z => (by cases z), fun z => absurd z (Nat.lt_irrefl 0)⟩
  | m :: ms, s => by
    show ((strips s m).any fun t => posB t ms) = true ↔ 0 < ((strips s m).map fun t => numR t ms).sum
    rw [List.any_eq_true]
    constructor
    · rintro ⟨t, h1, h2⟩
      have := (pos_iff ms t).mp h2
      have := le_sum (List.mem_map.mpr ⟨t, h1, rfl⟩ : numR t ms ∈ (strips s m).map fun t => numR t ms)
      omega
    · intro h
      apply Classical.byContradiction
      intro no
      have z : ∀ (l : List (List Nat)), (∀ t ∈ l, numR t ms = 0) → (l.map fun t => numR t ms).sum = 0 := fun l => by
        induction l with
        | nil => exact fun _ => rfl
        | cons t l ih =>
          intro hh
          rw [List.map_cons, List.sum_cons, ih fun u hu => hh u (List.mem_cons_of_mem _ hu), hh t List.mem_cons_self]
      rw [z _ fun t ht => by
        apply Classical.byContradiction
        intro y
        exact no ⟨t, ht, (pos_iff ms t).mpr (by omega)⟩] at h
      omega
theorem chkUA : ∀ n, n ≤ 10 → chkU n = true
  | 0, _ => u0
  | 1, _ => u1
  | 2, _ => u2
  | 3, _ => u3
  | 4, _ => u4
  | 5, _ => u5
  | 6, _ => u6
  | 7, _ => u7
  | 8, _ => u8
  | 9, _ => u9
  | 10, _ => u10
  | n + 11, h => by omega
/-- sorted counts: there is a filling just if they are under the shape -/
theorem num_under {s c : List Nat} (h : Small s) (hc : c.Pairwise (fun a b => b ≤ a)) (p : ∀ x ∈ c, 0 < x) (l : c.length ≤ 5) (e : c.sum = s.sum) : 0 < numR s c ↔ ∀ k, pre c k ≤ pre s k := by
  have sc : Small c := ⟨hc, p, by rw [e]; exact h.2.2⟩
  have := List.all_eq_true.mp (List.all_eq_true.mp (chkUA s.sum h.2.2) s (small_mem h)) c (List.mem_filter.mpr ⟨by rw [← e]; exact small_mem sc, decide_eq_true l⟩)
  rw [← pos_iff, eq_of_beq this]
  unfold undB
  rw [List.all_eq_true]
  constructor
  · intro a k
    by_cases hk : k < 11
    · exact of_decide_eq_true (a k (List.mem_range.mpr hk))
    · have z := of_decide_eq_true (a 10 (List.mem_range.mpr (by decide)))
      have len : ∀ x : List Nat, Small x → x.length ≤ 10 := fun x hx => by
        have : ∀ y : List Nat, (∀ v ∈ y, 0 < v) → y.length ≤ y.sum := fun y => by
          induction y with
          | nil => exact fun _ => Nat.le_refl _
          | cons v y ih =>
            intro hy
            have := ih fun u hu => hy u (List.mem_cons_of_mem _ hu)
            have := hy v List.mem_cons_self
            rw [List.length_cons, List.sum_cons]
            omega
        have := this x hx.2.1
        have := hx.2.2
        omega
      unfold pre at z ⊢
      have l1 := len c sc
      have l2 := len s h
      rw [List.take_of_length_le (by omega), List.take_of_length_le (by omega)] at z
      rw [List.take_of_length_le (by omega), List.take_of_length_le (by omega)]
      exact z
  · exact fun a k _ => decide_eq_true (a k)
end Pr

/-! promises: shapes, strips, counts of fillings -/
namespace Pr
open PySem PySem.Spec PyProof.Rows L2 LamX Pd
abbrev shD (s : List Nat) : D := Ti (Nk s)
abbrev F_L_heap := Pd.F_newbox
abbrev F_L_less := Pd.F_draw
abbrev F_L_order := Pd.F_mixed
abbrev F_is_integer := Pd.F_is_integer
abbrev F_is_from := Pd.F_is_from
def F_is_shape : Fn := fun ds Q _ => ∃ s, ds = [shD s] ∧ Small s ∧ Q (.bl true)
def F_require_shape : Fn := fun ds Q _ => ∃ s, ds = [shD s] ∧ Small s ∧ Q .non
def F_require_counts : Fn := fun ds Q _ => ∃ c, ds = [shD c] ∧ c.length ≤ 8 ∧ (∀ n ∈ c, n ≤ 42) ∧ Q .non
def F_without_strip : Fn := fun ds Q _ => ∃ (s : List Nat) (m : Nat), ds = [shD s, .int (m : Int)] ∧ Small s ∧ m ≤ 42 ∧ Q (.lst ((strips s m).map shD))
def F_number_of : Fn := fun ds Q _ => ∃ s c, ds = [shD s, shD c] ∧ Small s ∧ c.length ≤ 8 ∧ c.sum = s.sum ∧ Q (.int (numR s c.reverse : Int))
def F_count_fillings : Fn := fun ds Q _ => ∃ s c, ds = [shD s, shD c] ∧ Small s ∧ c.length ≤ 8 ∧ c.sum = s.sum ∧ Q (.int (numR s c.reverse : Int))
def F_L_shape : Fn := fun ds Q _ => ∃ p, ds = [.box p, .int 10] ∧ ∀ s, Small s → Q (shD s)
def F_L_counts : Fn := fun ds Q _ => ∃ p, ∃ t l : Nat, ds = [.box p, .int (t : Int), .int (l : Int)] ∧ t ≤ 10 ∧ 1 ≤ l ∧ l ≤ 5 ∧ ∀ c : List Nat, c.length = l → c.sum = t → Q (shD c)
def F_L_under : Fn := fun ds Q _ => ∃ c s, ds = [shD c, shD s] ∧ Small s ∧ c.length ≤ 5 ∧ c.sum = s.sum ∧ Q (.bl (decide (0 < numR s c.reverse)))
/-- a unit moved -/
def mvN (c : List Nat) (i j : Nat) : List Nat := (c.set i (c.getD i 0 - 1)).set j (c.getD j 0 + 1)
def F_L_moved : Fn := fun ds Q _ => ∃ (c : List Nat) (i j : Nat), ds = [shD c, .int (i : Int), .int (j : Int)] ∧ i < c.length ∧ j < c.length ∧ i ≠ j ∧ 0 < c.getD i 0 ∧ c.length ≤ 5 ∧ Q (shD (mvN c i j))
def F_L_right : Fn := fun ds Q _ => ∃ p, ds = [.box p] ∧ Q (.bl true)
def F_law : Fn := fun ds Q _ => ∃ ns, ds = [.scr ns] ∧ ns.length ≤ 63 ∧ Q (.bl true)
end Pr

namespace Pr
open PySem PySem.Spec PyProof.Rows L2 LamX Pd
def N_L_heap : List Str := ["_law_script", "_law_at", "_law_cell", "_law_great", "_law_seed"]
def w_L_heap : WS := (sSeq (sSet 2 (wIf (wTest (wBin dLt (wVar 1) (w1 dLen (wVar 0)))) (xBin fIdx (wVar 0) (wVar 1)) (xBin fAdd (xBin fMul (W.ret (.int 71)) (wVar 1)) (W.ret (.int 29))))) (sSeq (sSet 3 (xBin fMod (w1 dInt (wN dAbs (wCons (wVar 2) wNil))) (xBin fPow (xBin fPow (W.ret (.int 10)) (W.ret (.int 49))) (W.ret (.int 12))))) (sSeq (sSet 4 (xBin fMod (w1 dInt (xBin fAdd (xBin fAdd (xBin fAdd (xBin fMul (xBin fMod (wVar 3) (W.ret (.int 1152921504606846883))) (W.ret (.int 91193))) (xBin fMul (W.ret (.int 2749)) (wVar 1))) (xBin fMul (W.ret (.int 89)) (w1 dInt (wBin dLt (wVar 2) (W.ret (.int 0)))))) (W.ret (.int 13)))) (W.ret (.int 1152921504606846883)))) (sRet (wBox (wSz (wCons (wN dMax2 (wCons (W.ret (.int 0)) (wCons (wBin dSub (wVar 3) (xBin fPow (W.ret (.int 10)) (W.ret (.int 18)))) wNil))) (wCons (wVar 4) (wCons (W.ret (.int 0)) wNil)))))))))
def N_is_integer : List Str := ["value"]
def w_is_integer : WS := (sRet (wAnd (w1 (dIsi "int") (wVar 0)) (wNot (w1 (dIsi "bool") (wVar 0)))))
def N_is_from : List Str := ["value", "first", "last"]
def w_is_from : WS := (sRet (wAnd (wCall F_is_integer (wCons (wVar 0) wNil)) (wChain dLe dLe (wVar 1) (wVar 0) (wVar 2))))
def N_is_shape : List Str := ["value", "row"]
def w_is_shape : WS := (sSeq (sIf (tOrP (tNotP (wTest (w1 (dIsi "tuple") (wVar 0)))) (tNotP (wTest (x1 fAll (wLst (wComp (wItems (wVar 0)) (gNm 1) (W.ret true) (wCall F_is_from (wCons (wVar 1) (wCons (W.ret (.int 1)) (wCons (W.ret (.int 42)) wNil)))) [1])))))) (sRet (W.ret (.bl false))) sNil) (sRet (wAnd (wBin dLe (x1 fSum (wVar 0)) (W.ret (.int 42))) (xBin fEq (wLst (w1F dItems (wVar 0))) (wLst (wSort true (wVar 0)))))))
def N_require_shape : List Str := ["shape"]
def w_require_shape : WS := (sIf (tNotP (wTest (wCall F_is_shape (wCons (wVar 0) wNil)))) (sRaise "InvalidFilling") sNil)
def N_require_counts : List Str := ["sums", "many"]
def w_require_counts : WS := (sSeq (sIf (tOrP (tNotP (wTest (w1 (dIsi "tuple") (wVar 0)))) (wTest (wBin dGt (w1 dLen (wVar 0)) (W.ret (.int 8))))) (sRaise "InvalidSums") sNil) (sIf (tNotP (wTest (x1 fAll (wLst (wComp (wItems (wVar 0)) (gNm 1) (W.ret true) (wCall F_is_from (wCons (wVar 1) (wCons (W.ret (.int 0)) (wCons (W.ret (.int 42)) wNil)))) [1]))))) (sRaise "InvalidSums") sNil))
def N_without_strip : List Str := ["shape", "many", "found", "at", "row", "least", "lots", "pairs", "cells", "shorter", "left", "ahead"]
def w_without_strip : WS := (sSeq (sSet 2 (wLst (wSz (wCons (wTup (wCons (wTup wNil) (wCons (wVar 1) wNil))) wNil)))) (sSeq (sFor (wEnum (wVar 0)) (gTupP (gsCons (gNm 3) (gsCons (gNm 4) gsNil)) 2) (sSeq (sSet 5 (wIf (wTest (wBin dLt (xBin fAdd (wVar 3) (W.ret (.int 1))) (w1 dLen (wVar 0)))) (xBin fIdx (wVar 0) (xBin fAdd (wVar 3) (W.ret (.int 1)))) (W.ret (.int 0)))) (sSeq (sSet 6 (wLst (wRgF (wRg1 (xBin fAdd (wBin dSub (wVar 4) (wVar 5)) (W.ret (.int 1))))))) (sSeq (sSet 7 (wLst (wComp2 (wItems (wVar 2)) (gTupP (gsCons (gNm 11) (gsCons (gNm 10) gsNil)) 2) (W.ret true) (wItems (wVar 6)) (gNm 8) (wTest (wBin dLe (wVar 8) (wVar 10))) (wTup (wCons (wVar 11) (wCons (wVar 10) (wCons (wVar 8) wNil)))) [11, 10, 8] [8]))) (sSet 2 (wLst (wComp (wItems (wVar 7)) (gTupP (gsCons (gNm 11) (gsCons (gNm 10) (gsCons (gNm 8) gsNil))) 3) (W.ret true) (wTup (wCons (wTup (wStar (wVar 11) (wCons (wBin dSub (wVar 4) (wVar 8)) wNil))) (wCons (wBin dSub (wVar 10) (wVar 8)) wNil))) [11, 10, 8]))))))) (sRet (wLst (wComp (wItems (wVar 2)) (gTupP (gsCons (gNm 9) (gsCons (gNm 10) gsNil)) 2) (wTest (xBin fEq (wVar 10) (W.ret (.int 0)))) (w1 dTuple (wLst (wComp (wItems (wVar 9)) (gNm 4) (wTest (wBin dGt (wVar 4) (W.ret (.int 0)))) (wVar 4) [4]))) [9, 10])))))
def N_number_of : List Str := ["shape", "sums", "found", "many", "later", "one", "count", "shorter"]
def w_number_of : WS := (sSeq (sSet 2 (wDitOne 0 (1))) (sSeq (sFor (wItems (wRevT (wVar 1))) (gNm 3) (sSeq (sNewDct 4) (sSeq (sFor (wItemsPairs (wVar 2)) (gTupP (gsCons (gNm 5) (gsCons (gNm 6) gsNil)) 2) (sFor (wItems (wCall F_without_strip (wCons (wVar 5) (wCons (wVar 3) wNil)))) (gNm 7) (sDcuPut 4 (wVar 7) (xBin fAdd (wDcuGetD 4 (wVar 7) (W.ret (.int 0))) (wVar 6))))) (sSet 2 (wFrzT 4))))) (sRet (wDitGetD (wVar 2) (wTup wNil) (W.ret (.int 0))))))
def N_count_fillings : List Str := ["shape", "sums"]
def w_count_fillings : WS := (sSeq (sDrop (wCall F_require_shape (wCons (wVar 0) wNil))) (sSeq (sDrop (wCall F_require_counts (wCons (wVar 1) wNil))) (sRet (wIf (wTest (xBin fEq (x1 fSum (wVar 1)) (x1 fSum (wVar 0)))) (wCall F_number_of (wCons (wVar 0) (wCons (wVar 1) wNil))) (W.ret (.int 0))))))
def N_L_less : List Str := ["_law_heap_here", "_law_size", "_law_one", "_law_two", "_law_found"]
def w_L_less : WS := (sSeq (sIf (wTest (wBin dGt (wBoxGet (wVar 0) (W.ret (.int 0))) (W.ret (.int 0)))) (sSeq (sSet 4 (xBin fMod (w1 dInt (wBoxGet (wVar 0) (W.ret (.int 0)))) (wVar 1))) (sSeq (sBoxSet 0 0 (xBin fDiv (wBoxGet (wVar 0) (W.ret (.int 0))) (wVar 1))) (sRet (wVar 4)))) sNil) (sSeq (sBoxSet 0 2 (xBin fAdd (wBoxGet (wVar 0) (W.ret (.int 2))) (W.ret (.int 1)))) (sSeq (sSet 2 (xBin fMod (w1 dInt (xBin fAdd (wBoxGet (wVar 0) (W.ret (.int 1))) (xBin fMul (W.ret (.int 777767777)) (wBoxGet (wVar 0) (W.ret (.int 2)))))) (W.ret (.int 2305843009213693921)))) (sSeq (sSet 3 (xBin fAdd (xBin fMul (xBin fMod (w1 dInt (xBin fMul (wVar 2) (wVar 2))) (W.ret (.int 2305843009213693907))) (wVar 2)) (xBin fMul (W.ret (.int 4099)) (wBoxGet (wVar 0) (W.ret (.int 2)))))) (sRet (xBin fMod (w1 dInt (xBin fDiv (xBin fMod (w1 dInt (wVar 3)) (W.ret (.int 1152921504606846883))) (W.ret (.int 8191)))) (wVar 1)))))))
def N_L_shape : List Str := ["_law_heap_here", "_law_most", "_law_left", "_law_widest", "_law_found", "_law_size"]
def w_L_shape : WS := (sSeq (sParM3 2 3 4 (mE (wCall F_L_less (wCons (wVar 0) (wCons (xBin fAdd (wVar 1) (W.ret (.int 1))) wNil))) (mE (wVar 1) (mF (wSz wNil) mNil)))) (sSeq (sWhile (wTest (wBin dGt (wVar 2) (W.ret (.int 0)))) (sSeq (sSet 5 (xBin fAdd (W.ret (.int 1)) (wCall F_L_less (wCons (wVar 0) (wCons (wN dMin2 (wCons (wVar 2) (wCons (wVar 3) wNil))) wNil))))) (sSeq (sDrop (wAppend 4 (wVar 5))) (sParM2 2 3 (mE (wBin dSub (wVar 2) (wVar 5)) (mE (wVar 5) mNil)))))) (sRet (w1 dTuple (wOwn 4)))))
def N_L_counts : List Str := ["_law_heap_here", "_law_total", "_law_lots", "_law_found", "_law_turn", "_law_at"]
def w_L_counts : WS := (sSeq (sSetOwn 3 (wRepF (wLst (wSz (wCons (W.ret (.int 0)) wNil))) (wVar 2))) (sSeq (sFor (wRng1 (wVar 1)) (gNm 4) (sSeq (sSet 5 (wCall F_L_less (wCons (wVar 0) (wCons (wVar 2) wNil)))) (sSetIx 3 (wVar 5) (xBin fAdd (wIxOwn 3 (wVar 5)) (W.ret (.int 1)))))) (sRet (w1 dTuple (wOwn 3)))))
def N_L_under : List Str := ["_law_one", "_law_other", "_law_lots", "_law_first", "_law_second", "_law_at"]
def w_L_under : WS := (sSeq (sSet 2 (wN dMax2 (wCons (w1 dLen (wVar 0)) (wCons (w1 dLen (wVar 1)) wNil)))) (sSeq (sSet 3 (wLst (wRev (wLst (wSort false (xBin fAdd (wLst (w1F dItems (wVar 0))) (xBin fMul (wLst (wSz (wCons (W.ret (.int 0)) wNil))) (wBin dSub (wVar 2) (w1 dLen (wVar 0)))))))))) (sSeq (sSet 4 (wLst (wRev (wLst (wSort false (xBin fAdd (wLst (w1F dItems (wVar 1))) (xBin fMul (wLst (wSz (wCons (W.ret (.int 0)) wNil))) (wBin dSub (wVar 2) (w1 dLen (wVar 1)))))))))) (sRet (wAnd (xBin fEq (x1 fSum (wVar 3)) (x1 fSum (wVar 4))) (xBin fEq (wLst (wComp (wRng1 (wVar 2)) (gNm 5) (wTest (wBin dGt (x1 fSum (wSl (wVar 3) (W.ret none) (wPart (wVar 5)))) (x1 fSum (wSl (wVar 4) (W.ret none) (wPart (wVar 5)))))) (wVar 5) [5])) (wLst (wSz wNil))))))))
def N_L_order : List Str := ["_law_heap_here", "_law_items", "_law_turn", "_law_pool", "_law_found"]
def w_L_order : WS := (sSeq (sParM2 3 4 (mF (w1F dItems (wVar 1)) (mF (wSz wNil) mNil))) (sSeq (sFor (wRng1 (w1 dLen (wVar 1))) (gNm 2) (sDrop (wAppend 4 (wPopAt 3 (wCall F_L_less (wCons (wVar 0) (wCons (w1 dLen (wOwn 3)) wNil))))))) (sRet (wFrz 4))))
def N_L_moved : List Str := ["_law_row", "_law_one", "_law_other", "_law_at", "_law_entry"]
def w_L_moved : WS := (sRet (w1 dTuple (wLst (wComp (wEnum (wVar 0)) (gTupP (gsCons (gNm 3) (gsCons (gNm 4) gsNil)) 2) (W.ret true) (xBin fAdd (wBin dSub (wVar 4) (w1 dInt (xBin fEq (wVar 3) (wVar 1)))) (w1 dInt (xBin fEq (wVar 3) (wVar 2)))) [3, 4]))))
def N_L_right : List Str := ["_law_heap_here", "_law_shape_here", "_law_counts_here", "_law_lots", "_law_one", "_law_other"]
def w_L_right : WS := (sSeq (sSet 1 (wCall F_L_shape (wCons (wVar 0) (wCons (W.ret (.int 10)) wNil)))) (sSeq (sSet 2 (wCall F_L_counts (wCons (wVar 0) (wCons (x1 fSum (wVar 1)) (wCons (xBin fAdd (W.ret (.int 1)) (wCall F_L_less (wCons (wVar 0) (wCons (W.ret (.int 5)) wNil)))) wNil))))) (sSeq (sSet 3 (wCall F_count_fillings (wCons (wVar 1) (wCons (wVar 2) wNil)))) (sSeq (sIf (tOrP (wTest (xBin fNe (wCall F_count_fillings (wCons (wVar 1) (wCons (w1 dTuple (wCall F_L_order (wCons (wVar 0) (wCons (wVar 2) wNil)))) wNil))) (wVar 3))) (wTest (xBin fNe (wBin dGt (wVar 3) (W.ret (.int 0))) (wCall F_L_under (wCons (wVar 2) (wCons (wVar 1) wNil)))))) (sRet (W.ret (.bl false))) sNil) (sSeq (sIf (tOrP (wTest (xBin fNe (wCall F_count_fillings (wCons (wVar 1) (wCons (xBin fAdd (wVar 2) (wTup (wCons (W.ret (.int 0)) wNil))) wNil))) (wVar 3))) (wTest (xBin fNe (wCall F_count_fillings (wCons (wVar 1) (wCons (xBin fAdd (wTup (wCons (W.ret (.int 0)) wNil)) (wVar 2)) wNil))) (wVar 3)))) (sRet (W.ret (.bl false))) sNil) (sSeq (sFor (wRng1 (w1 dLen (wVar 2))) (gNm 4) (sFor (wRng1 (w1 dLen (wVar 2))) (gNm 5) (sIf (tAndP (wTest (wBin dGt (xBin fIdx (wVar 2) (wVar 4)) (xBin fAdd (xBin fIdx (wVar 2) (wVar 5)) (W.ret (.int 1))))) (wTest (wBin dLt (wCall F_count_fillings (wCons (wVar 1) (wCons (wCall F_L_moved (wCons (wVar 2) (wCons (wVar 4) (wCons (wVar 5) wNil)))) wNil))) (wVar 3)))) (sRet (W.ret (.bl false))) sNil))) (sRet (wOr (wBin dGt (w1 dLen (wVar 1)) (W.ret (.int 8))) (xBin fEq (wCall F_count_fillings (wCons (wVar 1) (wCons (wVar 1) wNil))) (W.ret (.int 1)))))))))))
def N_law : List Str := ["_law_script", "_law_at", "_law_told", "_law_heap_here"]
def w_law : WS := (sSeq (sFor (wRng1 (wN dMax2 (wCons (W.ret (.int 1)) (wCons (wN dMin2 (wCons (W.ret (.int 5)) (wCons (w1 dLen (wVar 0)) wNil))) wNil)))) (gNm 1) (sSeq (sSet 3 (wCall F_L_heap (wCons (wVar 0) (wCons (wVar 1) wNil)))) (sIf (tOrP (tNotP (wTest (wCall F_L_right (wCons (wVar 3) wNil)))) (tNotP (wTest (wCall F_L_right (wCons (wVar 3) wNil))))) (sRet (W.ret (.bl false))) sNil))) (sSeq (sSet 2 (wLst (wSz (wCons (wCall F_count_fillings (wCons (wTup (wCons (W.ret (.int 2)) (wCons (W.ret (.int 1)) wNil))) (wCons (wTup (wCons (W.ret (.int 1)) (wCons (W.ret (.int 1)) (wCons (W.ret (.int 1)) wNil)))) wNil))) (wCons (wCall F_count_fillings (wCons (wTup (wCons (W.ret (.int 2)) (wCons (W.ret (.int 1)) wNil))) (wCons (wTup (wCons (W.ret (.int 2)) (wCons (W.ret (.int 1)) wNil))) wNil))) (wCons (wCall F_count_fillings (wCons (wTup (wCons (W.ret (.int 2)) (wCons (W.ret (.int 1)) wNil))) (wCons (wTup (wCons (W.ret (.int 3)) wNil)) wNil))) wNil)))))) (sRet (xBin fEq (wVar 2) (wLst (wSz (wCons (W.ret (.int 2)) (wCons (W.ret (.int 1)) (wCons (W.ret (.int 0)) wNil)))))))))
end Pr

namespace Pr
open PySem PySem.Spec PyProof.Rows L2 LamX Pd
theorem pure_is_integer (ds : List D) (Q : D → Prop) (Ex : Xc → Prop) (h : F_is_integer ds Q Ex) : w_is_integer (dEnds Q Ex) (startE N_is_integer ds) := Pd.pure_is_integer ds Q Ex h
theorem len_is_integer (ds : List D) (Q : D → Prop) (Ex : Xc → Prop) (h : F_is_integer ds Q Ex) : ds.length = 1 := by
  obtain ⟨x, rfl, _⟩ := h
  rfl
theorem pure_is_from (ds : List D) (Q : D → Prop) (Ex : Xc → Prop) (h : F_is_from ds Q Ex) : w_is_from (dEnds Q Ex) (startE N_is_from ds) := Pd.pure_is_from ds Q Ex h
theorem len_is_from (ds : List D) (Q : D → Prop) (Ex : Xc → Prop) (h : F_is_from ds Q Ex) : ds.length = 3 := by
  obtain ⟨x, a, b, rfl, _⟩ := h
  rfl
theorem log_lt {n : Int} (h0 : 0 < n) (h : n < 2 ^ 200) : n.natAbs.log2 < 9000 := by
  have h1 : n.natAbs < 2 ^ 200 := by
    have : (n.natAbs : Int) = n := Int.natAbs_of_nonneg (by omega)
    omega
  exact Nat.lt_of_lt_of_le (PySem.Flt.log2_lt_of (by decide) h1) (by decide)
theorem bok0 {g : Int} (h : bokB 0 g) : 0 ≤ g ∧ g < 2 ^ 4000 := ⟨h.1, by
  rcases h.2 with b | b | b
  · exact b.2
  · exact absurd b.1 (by decide)
  · exact absurd b (by decide)⟩
theorem pure_L_less (ds : List D) (Q : D → Prop) (Ex : Xc → Prop) (h : F_L_less ds Q Ex) : w_L_less (dEnds Q Ex) (startE N_L_less ds) := by
  obtain ⟨p, n, rfl, n0, n1, q⟩ := h
  have lg := log_lt n0 n1
  refine ⟨by decide, by decide, fun g hg => br_if (fun hp => ?_) (fun hp => ?_)⟩
  · refine ⟨by decide, by decide, fun g1 hg1 => ⟨n0, ?_⟩⟩
    refine ⟨by decide, by decide, fun g2 hg2 => ⟨⟨n0, lg⟩, by decide, by decide, ?_, ?_⟩⟩
    · obtain ⟨a, b⟩ := bok0 hg2
      exact ⟨Int.ediv_nonneg a (Int.le_of_lt n0), .inl ⟨rfl, Int.lt_of_le_of_lt (Int.ediv_le_self _ a) b⟩⟩
    · exact q _ (Int.emod_nonneg _ (by omega)) (Int.emod_lt_of_pos _ n0)
  · refine ⟨by decide, by decide, fun c hc => ⟨by decide, by decide, ⟨by have := hc.1; omega, .inr (.inr rfl)⟩, ?_⟩⟩
    refine ⟨by decide, by decide, fun s1 hs1 => ⟨by decide, by decide, fun c1 hc1 => ⟨.inl (.inl (by decide)), by decide, ?_⟩⟩⟩
    have sm : ∀ z : Int, (z % 2305843009213693921).natAbs < 2 ^ 64 := fun z => by omega
    refine ⟨.inl (.inl (sm _)), by decide, ⟨.inl (.inr (sm _)), ⟨by decide, by decide, fun c2 hc2 => ⟨.inl (.inl (by decide)), ?_⟩⟩⟩⟩
    refine ⟨by decide, ⟨by decide, by decide⟩, n0, ?_⟩
    exact q _ (Int.emod_nonneg _ (by omega)) (Int.emod_lt_of_pos _ n0)
theorem len_L_less (ds : List D) (Q : D → Prop) (Ex : Xc → Prop) (h : F_L_less ds Q Ex) : ds.length = 2 := by
  obtain ⟨p, n, rfl, _⟩ := h
  rfl
theorem atI_nat {α : Type} {xs : List α} {r : Int} {x : α} (h0 : 0 ≤ r) (h : xs[r.toNat]? = some x) : atI xs r = some x := by
  have hl := (List.getElem?_eq_some_iff.mp h).1
  unfold atI ixN
  rw [if_pos h0, if_pos (by omega)]
  exact h
theorem scr_at {ns : List Int} {i : Int} (h0 : 0 ≤ i) (h : i < ns.length) : ∃ n, dIdx (.scr ns) (.int i) = some (.int n) := by
  have hr : i.toNat < ns.length := by omega
  refine ⟨ns[i.toNat], ?_⟩
  show (atI ns i).map D.int = _
  rw [atI_nat h0 (List.getElem?_eq_getElem hr)]
  rfl
theorem box_ok {g m : Int} (h0 : 0 < m) (h : m ≤ 2 ^ 4000) (c : Int) (hc : 0 ≤ c) : 0 ≤ (if g % m - c > 0 then g % m - c else 0) ∧ (if g % m - c > 0 then g % m - c else 0) < 2 ^ 4000 := by
  have a := Int.emod_nonneg g (show m ≠ 0 by omega)
  have b := Int.emod_lt_of_pos g h0
  have p : (0 : Int) < 2 ^ 4000 := by decide
  split
  · omega
  · exact ⟨Int.le_refl _, p⟩
theorem pure_L_heap (ds : List D) (Q : D → Prop) (Ex : Xc → Prop) (h : F_L_heap ds Q Ex) : w_L_heap (dEnds Q Ex) (startE N_L_heap ds) := by
  obtain ⟨ns, i, rfl, i0, i1, hl, q⟩ := h
  refine br_if (fun h1 => ?_) (fun h1 => ?_)
  · obtain ⟨n, e⟩ := scr_at i0 h1
    refine ⟨_, e, ?_⟩
    refine ⟨by decide, by decide, by decide, by decide, ?_⟩
    refine ⟨.inl (.inr (by decide)), .inl (.inl (by decide)), .inl (.inl (by decide)), ?_⟩
    refine ⟨by decide, by decide, Nat.le_of_ble_eq_true rfl, ?_, q⟩
    obtain ⟨a, b⟩ := box_ok (g := if n < 0 then -n else n) (m := (10 ^ Int.toNat 49) ^ Int.toNat 12) (by decide) (by decide) (10 ^ Int.toNat 18) (by decide)
    exact ⟨a, b, Int.emod_nonneg _ (by decide), Int.lt_trans (Int.emod_lt_of_pos _ (by decide)) (by decide), by decide⟩
  · refine ⟨.inl (.inl (by decide)), ?_⟩
    refine ⟨by decide, by decide, by decide, by decide, ?_⟩
    refine ⟨.inl (.inr (by decide)), .inl (.inl (by decide)), .inl (.inl (by decide)), ?_⟩
    refine ⟨by decide, by decide, Nat.le_of_ble_eq_true rfl, ?_, q⟩
    obtain ⟨a, b⟩ := box_ok (g := if 71 * i + 29 < 0 then -(71 * i + 29) else 71 * i + 29) (m := (10 ^ Int.toNat 49) ^ Int.toNat 12) (by decide) (by decide) (10 ^ Int.toNat 18) (by decide)
    exact ⟨a, b, Int.emod_nonneg _ (by decide), Int.lt_trans (Int.emod_lt_of_pos _ (by decide)) (by decide), by decide⟩
theorem len_L_heap (ds : List D) (Q : D → Prop) (Ex : Xc → Prop) (h : F_L_heap ds Q Ex) : ds.length = 2 := by
  obtain ⟨ns, i, rfl, _⟩ := h
  rfl
theorem items_or {x : D} {xs : List D} (hx : dItems x = some xs) : x = .lst xs ∨ x = .tup xs := by
  cases x with
  | lst ys =>
    cases hx
    exact .inl rfl
  | tup ys =>
    cases hx
    exact .inr rfl
  | _ => cases hx
theorem upTo_length (a b : Int) : (Pd.upTo a b).length = (b - a).toNat := upTo_len' a b
theorem erase_perm {α : Type} : ∀ (xs : List α) (i : Nat) (h : i < xs.length), (xs[i] :: xs.eraseIdx i).Perm xs
  | x :: xs, 0, h => by
    rw [List.eraseIdx_cons_zero]
    exact List.Perm.refl _
  | x :: xs, i + 1, h => by
    rw [List.eraseIdx_cons_succ]
    have ih := erase_perm xs i (by simpa using h)
    exact (List.Perm.swap _ _ _).trans (ih.cons x)
theorem pure_L_order (ds : List D) (Q : D → Prop) (Ex : Xc → Prop) (h : F_L_order ds Q Ex) : w_L_order (dEnds Q Ex) (startE N_L_order ds) := by
  obtain ⟨p, x, xs, rfl, hx, hl, q⟩ := h
  have main : w_L_order (dEnds Q Ex) (startE N_L_order [D.box p, x]) ↔ True := by
    refine ⟨fun _ => trivial, fun _ => ?_⟩
    rcases items_or hx with rfl | rfl
    all_goals
      refine ⟨Nat.zero_le _, by omega, by omega, ?_⟩
      refine forW_ind (fun rest env => ∃ (ys acc : List D) (s : Option Sl) (it : D), env = [some (.d (.box p)), some (.d it), s, some (.own ys), some (.own acc)] ∧ ys.length = rest.length ∧ (ys ++ acc).Perm xs) ?_ ?_ _ _ ?_
      · rintro t rest env ⟨ys, acc, s, it, rfl, hl2, pm⟩ ih
        have e1 := pm.length_eq
        rw [List.length_append] at e1
        refine ⟨p, _, rfl, by rw [hl2]; simp, by show ((ys.length : Nat) : Int) < _; omega, fun r h0 h1 => ⟨h0, by omega, ?_⟩⟩
        have hr : r.toNat < ys.length := by omega
        refine ⟨ys[r.toNat], List.getElem?_eq_getElem hr, by omega, ih _ ⟨ys.eraseIdx r.toNat, _, _, it, rfl, ?_, ?_⟩⟩
        · rw [List.length_eraseIdx_of_lt hr, hl2]
          rfl
        · refine List.Perm.trans ?_ pm
          have p1 : (ys[r.toNat] :: ys.eraseIdx r.toNat).Perm ys := erase_perm ys r.toNat hr
          refine List.Perm.trans ?_ (p1.append_right acc)
          rw [← List.append_assoc]
          exact (List.perm_append_comm (l₁ := ys.eraseIdx r.toNat ++ acc) (l₂ := [ys[r.toNat]]))
      · rintro env ⟨ys, acc, s, it, rfl, hl2, pm⟩
        have e : ys = [] := List.eq_nil_of_length_eq_zero hl2
        rw [e] at pm
        exact q _ pm
      · exact ⟨xs, [], none, _, rfl, by rw [upTo_length]; omega, by rw [List.append_nil]⟩
  exact main.mpr trivial
theorem len_L_order (ds : List D) (Q : D → Prop) (Ex : Xc → Prop) (h : F_L_order ds Q Ex) : ds.length = 2 := by
  obtain ⟨p, x, xs, rfl, _⟩ := h
  rfl
end Pr

namespace Pr
open PySem PySem.Spec PyProof.Rows L2 LamX Pd
theorem Nk_sum (s : List Nat) : (Nk s).sum = (s.sum : Int) := by
  induction s with
  | nil => rfl
  | cons x l ih =>
    show (x : Int) + (Nk l).sum = _
    rw [ih, List.sum_cons]
    omega
theorem mem_Nk {s : List Nat} {x : Int} (h : x ∈ Nk s) : ∃ n ∈ s, x = (n : Int) := by
  obtain ⟨n, h1, rfl⟩ := List.mem_map.mp h
  exact ⟨n, h1, rfl⟩
theorem dn_id {ns : List Int} (h : ns.Pairwise fun a b => b ≤ a) : dn ns = ns := by
  unfold dn
  exact List.mergeSort_of_pairwise (h.imp fun h => decide_eq_true h)
theorem Nk_fall {s : List Nat} (h : s.Pairwise fun a b => b ≤ a) : (Nk s).Pairwise fun a b => b ≤ a := by
  refine List.pairwise_map.mpr (h.imp fun h => ?_)
  omega
theorem inR_of {x a b : Int} (h1 : a ≤ x) (h2 : x ≤ b) : inR (.int x) a b = true := by
  show (decide (a ≤ x) && decide (x ≤ b)) = true
  rw [decide_eq_true h1, decide_eq_true h2]
  rfl
theorem all_in {ns : List Int} {a b : Int} (h : ∀ x ∈ ns, a ≤ x ∧ x ≤ b) : (ns.map fun x => inR (.int x) a b).all id = true := by
  rw [List.all_eq_true]
  intro y hy
  obtain ⟨x, h1, rfl⟩ := List.mem_map.mp hy
  exact inR_of (h x h1).1 (h x h1).2
theorem eqb_ints : ∀ (a b : List Int), eqbs (a.map D.int) (b.map D.int) = decide (a = b)
  | [], [] => rfl
  | [], b :: bs => by simp [eqbs]
  | a :: as, [] => by simp [eqbs]
  | a :: as, b :: bs => by
    show (decide (a = b) && eqbs (as.map D.int) (bs.map D.int)) = _
    rw [eqb_ints as bs]
    by_cases h : a = b
    · simp [h]
    · simp [h]
theorem eqb_Li (a b : List Int) : eqb (Li a) (Li b) = decide (a = b) := eqb_ints a b
theorem plain_li (ns : List Int) : (ns.map D.int).all (plain 59) = true := by
  rw [List.all_map, List.all_eq_true]
  intro x _
  rfl
theorem eq_li (a b : List Int) {env : PEnv} {Q : D → PEnv → Prop} (q : Q (.bl (decide (a = b))) env) : fEq (Li a) (Li b) env Q := by
  refine ⟨?_, by rw [eqb_Li]; exact q⟩
  rw [Bool.and_eq_true]
  exact ⟨plain_li a, plain_li b⟩
theorem pure_is_shape (ds : List D) (Q : D → Prop) (Ex : Xc → Prop) (h : F_is_shape ds Q Ex) : w_is_shape (dEnds Q Ex) (startE N_is_shape ds) := by
  obtain ⟨s, rfl, hs, q⟩ := h
  refine br_ff rfl ?_
  refine comp_all (E := fun z => [some (.d (shD s)), z]) (enc := D.int) (h := fun x => D.bl (inR (.int x) 1 42)) (Nk s) none [] (fun _ _ => rfl) (fun x hx K ex k => ⟨_, _, _, rfl, rfl, k⟩) fun z => ?_
  refine ⟨(Nk s).map fun x => inR (.int x) 1 42, by rw [List.map_map, List.map_map, List.map_map]; rfl, ?_⟩
  rw [all_in fun x hx => by
    obtain ⟨n, h1, rfl⟩ := mem_Nk hx
    have := hs.2.1 n h1
    have := le_sum h1
    have := hs.2.2
    omega]
  refine br_ff rfl ?_
  refine ⟨Nk s, rfl, ?_⟩
  rw [Nk_sum]
  refine br_tt (decide_eq_true (by have := hs.2.2; omega)) ?_
  refine ⟨_, rfl, srt_ints (Nk s), ?_⟩
  rw [ms_dn, dn_id (Nk_fall hs.1)]
  exact eq_li (Nk s) (Nk s) (env := []) (Q := fun d _ => Q d) (by rw [decide_eq_true (rfl : Nk s = Nk s)]; exact q)
theorem len_is_shape (ds : List D) (Q : D → Prop) (Ex : Xc → Prop) (h : F_is_shape ds Q Ex) : ds.length = 1 := by
  obtain ⟨s, rfl, _⟩ := h
  rfl
theorem pure_require_shape (ds : List D) (Q : D → Prop) (Ex : Xc → Prop) (h : F_require_shape ds Q Ex) : w_require_shape (dEnds Q Ex) (startE N_require_shape ds) := by
  obtain ⟨s, rfl, hs, q⟩ := h
  exact ⟨s, rfl, hs, br_ff rfl q⟩
theorem len_require_shape (ds : List D) (Q : D → Prop) (Ex : Xc → Prop) (h : F_require_shape ds Q Ex) : ds.length = 1 := by
  obtain ⟨s, rfl, _⟩ := h
  rfl
theorem pure_require_counts (ds : List D) (Q : D → Prop) (Ex : Xc → Prop) (h : F_require_counts ds Q Ex) : w_require_counts (dEnds Q Ex) (startE N_require_counts ds) := by
  obtain ⟨c, rfl, hl, hc, q⟩ := h
  refine br_ff rfl (br_ff ?_ ?_)
  · show decide (((Nk c).map D.int).length > (8 : Int)) = false
    rw [List.length_map, List.length_map]
    exact decide_eq_false (by omega)
  refine comp_all (E := fun z => [some (.d (shD c)), z]) (enc := D.int) (h := fun x => D.bl (inR (.int x) 0 42)) (Nk c) none [] (fun _ _ => rfl) (fun x hx K ex k => ⟨_, _, _, rfl, rfl, k⟩) fun z => ?_
  refine ⟨(Nk c).map fun x => inR (.int x) 0 42, by rw [List.map_map, List.map_map, List.map_map]; rfl, ?_⟩
  rw [all_in fun x hx => by
    obtain ⟨n, h1, rfl⟩ := mem_Nk hx
    have := hc n h1
    omega]
  exact br_ff rfl q
theorem len_require_counts (ds : List D) (Q : D → Prop) (Ex : Xc → Prop) (h : F_require_counts ds Q Ex) : ds.length = 1 := by
  obtain ⟨s, rfl, _⟩ := h
  rfl
theorem enD_range (f : Nat → D) : ∀ (n k : Nat), enD k ((List.range' k n).map f) = (List.range' k n).map fun (i : Nat) => D.tup [.int (i : Int), f i]
  | 0, k => rfl
  | n + 1, k => by
    rw [List.range'_succ]
    show D.tup [.int (k : Int), f k] :: enD (k + 1) ((List.range' (k + 1) n).map f) = _
    rw [enD_range f n (k + 1)]
    rfl
theorem upTo_nat (n : Nat) : Pd.upTo 0 (n : Int) = (List.range n).map fun (i : Nat) => D.int (i : Int) := by
  unfold Pd.upTo
  rw [show ((n : Int) - 0).toNat = n by omega]
  refine List.map_congr_left fun i _ => ?_
  rw [Int.zero_add]
theorem row_range (c : List Nat) : c = (List.range c.length).map fun i => c.getD i 0 := by
  refine List.ext_getElem (by rw [List.length_map, List.length_range]) fun i h1 h2 => ?_
  rw [List.getElem_map, List.getElem_range, List.getD_eq_getElem?_getD, List.getElem?_eq_getElem h1]
  rfl
theorem enD_row (c : List Nat) : enD 0 ((Nk c).map D.int) = (List.range c.length).map fun (i : Nat) => D.tup [.int (i : Int), .int (c.getD i 0 : Int)] := by
  have e : (Nk c).map D.int = (List.range' 0 c.length).map fun i => D.int (c.getD i 0 : Int) := by
    have := congrArg (fun l => l.map fun n : Nat => D.int (n : Int)) (row_range c)
    rw [List.range_eq_range'] at this
    rw [List.map_map]
    refine Eq.trans this ?_
    rw [List.map_map]
    rfl
  rw [e, enD_range, List.range_eq_range']
theorem mvN_at {c : List Nat} {i j k : Nat} (hi : i < c.length) (hj : j < c.length) (ne : i ≠ j) (h : 0 < c.getD i 0) (hk : k < c.length) : ((mvN c i j).getD k 0 : Int) = (c.getD k 0 : Int) - (if (k : Int) = (i : Int) then 1 else 0) + (if (k : Int) = (j : Int) then 1 else 0) := by
  unfold mvN
  rw [List.getD_eq_getElem?_getD, List.getElem?_set, List.getElem?_set]
  rw [List.length_set]
  by_cases e1 : j = k
  · subst e1
    rw [if_pos rfl, if_pos hj, if_neg (by omega), if_pos rfl]
    show ((c.getD j 0 + 1 : Nat) : Int) = _
    omega
  · rw [if_neg e1, if_neg (show ¬ (k : Int) = (j : Int) by omega)]
    by_cases e2 : i = k
    · subst e2
      rw [if_pos rfl, if_pos hi, if_pos rfl]
      show ((c.getD i 0 - 1 : Nat) : Int) = _
      omega
    · rw [if_neg e2, if_neg (by omega), ← List.getD_eq_getElem?_getD]
      omega
theorem mvN_len (c : List Nat) (i j : Nat) : (mvN c i j).length = c.length := by
  unfold mvN
  rw [List.length_set, List.length_set]
theorem pure_L_moved (ds : List D) (Q : D → Prop) (Ex : Xc → Prop) (h : F_L_moved ds Q Ex) : w_L_moved (dEnds Q Ex) (startE N_L_moved ds) := by
  obtain ⟨c, i, j, rfl, hi, hj, ne, h, hl, q⟩ := h
  have main : compW (gTupP (gsCons (gNm 3) (gsCons (gNm 4) gsNil)) 2) (W.ret true) (xBin fAdd (wBin dSub (wVar 4) (w1 dInt (xBin fEq (wVar 3) (wVar 1)))) (w1 dInt (xBin fEq (wVar 3) (wVar 2)))) [3, 4] (fun acc env => Q (.tup acc)) (enD 0 ((Nk c).map D.int)) [some (.d (shD c)), some (.d (.int (i : Int))), some (.d (.int (j : Int))), none, none] [] := by
    rw [enD_row]
    refine comp_pair (t := W.ret true) (v := 3) (u := 4) (fun a b => [some (.d (shD c)), some (.d (.int (i : Int))), some (.d (.int (j : Int))), a, b]) (fun i : Nat => D.int (i : Int)) (fun k => D.int (c.getD k 0 : Int)) (fun k => .int (((mvN c i j).getD k 0 : Nat) : Int)) (fun _ => true) (List.range c.length) none none [] (fun _ _ _ _ => rfl) (fun i _ K ex k => k) (fun k hk _ K ex kk => ?_) fun s z => ?_
    · have hk := List.mem_range.mp hk
      rw [mvN_at hi hj ne h hk] at kk
      refine ⟨rfl, ⟨rfl, ?_⟩⟩
      have t : ∀ a b : Int, (if eqb (.int a) (.int b) = true then (1 : Int) else 0) = if a = b then 1 else 0 := fun a b => by
        show (if decide (a = b) = true then (1 : Int) else 0) = _
        by_cases z : a = b
        · rw [decide_eq_true z, if_pos rfl, if_pos z]
        · rw [decide_eq_false z, if_neg Bool.false_ne_true, if_neg z]
      show K (.int ((c.getD k 0 : Int) - (if eqb (.int (k : Int)) (.int (i : Int)) = true then 1 else 0) + (if eqb (.int (k : Int)) (.int (j : Int)) = true then 1 else 0))) _
      rw [t, t]
      exact kk
    · rw [List.filter_eq_self.mpr fun _ _ => rfl, List.nil_append]
      have e : (List.range c.length).map (fun k => D.int (((mvN c i j).getD k 0 : Nat) : Int)) = (Nk (mvN c i j)).map D.int := by
        have := congrArg (fun l => l.map fun n : Nat => D.int (n : Int)) (row_range (mvN c i j))
        rw [mvN_len, List.map_map] at this
        rw [List.map_map]
        exact this.symm
      rw [e]
      exact q
  exact main
theorem len_L_moved (ds : List D) (Q : D → Prop) (Ex : Xc → Prop) (h : F_L_moved ds Q Ex) : ds.length = 3 := by
  obtain ⟨c, i, j, rfl, _⟩ := h
  rfl
end Pr

namespace Pr
open PySem PySem.Spec PyProof.Rows L2 LamX Pd
theorem snoc_fall {s : List Nat} {z : Nat} (h : s.Pairwise fun a b => b ≤ a) (hz : ∀ x ∈ s, z ≤ x) : (s ++ [z]).Pairwise fun a b => b ≤ a :=
  List.pairwise_append.mpr ⟨h, List.pairwise_singleton _ _, fun a ha b hb => by rw [List.mem_singleton.mp hb]; exact hz a ha⟩
theorem Nk_snoc (s : List Nat) (n : Nat) : (Nk (s ++ [n])).map D.int = (Nk s).map D.int ++ [D.int (n : Int)] := by
  show ((s ++ [n]).map fun n : Nat => (n : Int)).map D.int = _
  rw [List.map_append, List.map_append]
  rfl
theorem pure_L_shape (ds : List D) (Q : D → Prop) (Ex : Xc → Prop) (h : F_L_shape ds Q Ex) : w_L_shape (dEnds Q Ex) (startE N_L_shape ds) := by
  obtain ⟨p, rfl, q⟩ := h
  refine ⟨p, 11, rfl, by decide, by decide, fun left l0 l1 => ?_⟩
  refine ⟨Nat.zero_le _, ?_⟩
  refine ⟨fun m env => ∃ (s : List Nat) (left wid : Nat) (z : Option Sl), env = [some (.d (.box p)), some (.d (.int 10)), some (.d (.int (left : Int))), some (.d (.int (wid : Int))), some (.own ((Nk s).map D.int)), z] ∧ m = left ∧ s.sum + left ≤ 10 ∧ s.Pairwise (fun a b => b ≤ a) ∧ (∀ x ∈ s, 0 < x ∧ wid ≤ x) ∧ 1 ≤ wid ∧ wid ≤ 10, ⟨left.toNat, [], left.toNat, 10, none, ?_, rfl, ?_, List.Pairwise.nil, fun x hx => (by cases hx), by omega, by omega⟩, ?_⟩
  · rw [Int.toNat_of_nonneg l0]
    rfl
  · show 0 + left.toNat ≤ 10
    omega
  rintro m env ⟨s, left2, wid, z, rfl, em, hs, hp, hx, w1, w2⟩
  refine br_if (fun hl => ?_) (fun hl => ?_)
  · have hl : 0 < left2 := by omega
    refine ⟨p, _, rfl, ?_, ?_, fun r r0 r1 => ?_⟩
    · split <;> omega
    · refine Int.lt_of_le_of_lt (b := 10) ?_ (by decide)
      split <;> omega
    have b1 : r < left2 := by
      revert r1
      split <;> omega
    have b2 : r < wid := by
      revert r1
      split <;> omega
    obtain ⟨n, rfl⟩ : ∃ n : Nat, r = (n : Int) := ⟨r.toNat, by omega⟩
    have b3 : n < left2 := by omega
    have b4 : n < wid := by omega
    have ls : ((Nk s).map D.int).length < 1000000 := by
      have : ∀ y : List Nat, (∀ v ∈ y, 0 < v) → y.length ≤ y.sum := fun y => by
        induction y with
        | nil => exact fun _ => Nat.le_refl _
        | cons v y ih =>
          intro hy
          have := ih fun u hu => hy u (List.mem_cons_of_mem _ hu)
          have := hy v List.mem_cons_self
          rw [List.length_cons, List.sum_cons]
          omega
      have := this s fun v hv => (hx v hv).1
      rw [List.length_map, List.length_map]
      omega
    refine ⟨ls, ?_⟩
    refine ⟨left2 - (n + 1), by omega, s ++ [n + 1], left2 - (n + 1), n + 1, some (.d (.int (1 + (n : Int)))), ?_, rfl, ?_, snoc_fall hp (fun x h => by have := (hx x h).2; omega), ?_, by omega, by omega⟩
    · rw [show (((left2 - (n + 1) : Nat)) : Int) = (left2 : Int) - (1 + (n : Int)) by omega, show (((n + 1 : Nat)) : Int) = 1 + (n : Int) by omega]
      show _ = [_, _, _, _, some (Sl.own ((Nk (s ++ [n + 1])).map D.int)), _]
      rw [show (Nk (s ++ [n + 1])).map D.int = (Nk s).map D.int ++ [D.int (1 + (n : Int))] by
        rw [Nk_snoc, show (((n + 1 : Nat)) : Int) = 1 + (n : Int) by omega]]
      rfl
    · rw [List.sum_append]
      show s.sum + (n + 1) + _ ≤ 10
      omega
    · intro x h
      rcases List.mem_append.mp h with h | h
      · have := hx x h
        omega
      · rw [List.mem_singleton.mp h]
        omega
  · have hl : left2 = 0 := by omega
    exact q s ⟨hp, fun x h => (hx x h).1, by omega⟩
theorem len_L_shape (ds : List D) (Q : D → Prop) (Ex : Xc → Prop) (h : F_L_shape ds Q Ex) : ds.length = 2 := by
  obtain ⟨p, rfl, q⟩ := h
  rfl
theorem set_sum : ∀ (c : List Nat) (i : Nat), i < c.length → (c.set i (c.getD i 0 + 1)).sum = c.sum + 1
  | x :: c, 0, _ => by
    show x + 1 + c.sum = x + c.sum + 1
    omega
  | x :: c, i + 1, h => by
    have := set_sum c i (by simpa using h)
    show x + (c.set i (c.getD i 0 + 1)).sum = x + c.sum + 1
    omega
theorem Nk_at {c : List Nat} {i : Nat} (h : i < c.length) : dIdx (.lst ((Nk c).map D.int)) (.int (i : Int)) = some (.int (c.getD i 0 : Int)) := by
  refine atI_nat (by omega) ?_
  rw [Int.toNat_natCast, List.getElem?_map, List.getElem?_map, List.getElem?_eq_getElem h, List.getD_eq_getElem?_getD, List.getElem?_eq_getElem h]
  rfl
theorem pure_L_counts (ds : List D) (Q : D → Prop) (Ex : Xc → Prop) (h : F_L_counts ds Q Ex) : w_L_counts (dEnds Q Ex) (startE N_L_counts ds) := by
  obtain ⟨p, t, l, rfl, ht, l1, l2, q⟩ := h
  refine ⟨Nat.le_of_ble_eq_true rfl, ⟨by omega, by omega, ?_⟩, ?_⟩
  · show 1 * _ ≤ 1000000
    omega
  refine ⟨by omega, by omega, ?_⟩
  refine forW_ind (fun rest env => ∃ (c : List Nat) (z y : Option Sl), env = [some (.d (.box p)), some (.d (.int (t : Int))), some (.d (.int (l : Int))), some (.own ((Nk c).map D.int)), z, y] ∧ c.length = l ∧ c.sum + rest.length = t) ?_ ?_ _ _ ?_
  · rintro x rest env ⟨c, z, y, rfl, hc, hs⟩ ih
    refine ⟨p, _, rfl, by omega, Int.lt_of_le_of_lt (b := 10) (by omega) (by decide), fun r r0 r1 => ?_⟩
    obtain ⟨i, rfl⟩ : ∃ i : Nat, r = (i : Int) := ⟨r.toNat, by omega⟩
    have hi : i < c.length := by omega
    refine ⟨_, Nk_at hi, ?_⟩
    refine ⟨i, ?_, ih _ ⟨c.set i (c.getD i 0 + 1), some (.d x), some (.d (.int (i : Int))), ?_, by rw [List.length_set]; exact hc, ?_⟩⟩
    · show ixN ((Nk c).map D.int).length (i : Int) = some i
      rw [List.length_map, List.length_map]
      unfold ixN
      rw [if_pos (by omega), if_pos (by omega), Int.toNat_natCast]
    · show _ = [_, _, _, some (Sl.own ((Nk (c.set i (c.getD i 0 + 1))).map D.int)), _, _]
      have e : (Nk (c.set i (c.getD i 0 + 1))).map D.int = ((Nk c).map D.int).set i (.int ((c.getD i 0 : Int) + 1)) := by
        show ((c.set i (c.getD i 0 + 1)).map fun n : Nat => (n : Int)).map D.int = _
        rw [List.map_set, List.map_set]
        rfl
      rw [e]
      rfl
    · rw [set_sum c i hi]
      rw [List.length_cons] at hs
      omega
  · rintro env ⟨c, z, y, rfl, hc, hs⟩
    exact q c hc hs
  · refine ⟨List.replicate l 0, none, none, ?_, List.length_replicate, ?_⟩
    · rw [Int.toNat_natCast]
      have e : (List.replicate l [D.int 0]).flatten = (Nk (List.replicate l 0)).map D.int := by
        show _ = ((List.replicate l 0).map fun n : Nat => (n : Int)).map D.int
        rw [List.map_replicate, List.map_replicate, List.flatten_replicate_singleton]
        rfl
      rw [e]
      rfl
    · rw [upTo_length, List.sum_replicate_nat]
      omega
theorem len_L_counts (ds : List D) (Q : D → Prop) (Ex : Xc → Prop) (h : F_L_counts ds Q Ex) : ds.length = 3 := by
  obtain ⟨p, t, l, rfl, _⟩ := h
  rfl
end Pr

namespace Pr
open PySem PySem.Spec PyProof.Rows L2 LamX Pd
/-! sorted counts -/
abbrev gz (l : List Nat) : List Nat := l.filter fun r => decide (r > 0)
def dN (c : List Nat) : List Nat := c.mergeSort fun a b => decide (b ≤ a)
def gN (c : List Nat) : List Nat := gz (dN c)
theorem dN_perm (c : List Nat) : (dN c).Perm c := List.mergeSort_perm _ _
theorem dN_fall (c : List Nat) : (dN c).Pairwise fun a b => b ≤ a := by
  have h := List.pairwise_mergeSort (le := fun a b : Nat => decide (b ≤ a)) (fun a b c h1 h2 => by
    have := of_decide_eq_true h1
    have := of_decide_eq_true h2
    exact decide_eq_true (by omega)) (fun a b => by
      by_cases z : b ≤ a
      · simp [z]
      · have : a ≤ b := by omega
        simp [this]) c
  exact h.imp fun h => of_decide_eq_true h
theorem fall_eq {a b : List Nat} (h1 : a.Pairwise fun a b => b ≤ a) (h2 : b.Pairwise fun a b => b ≤ a) (p : a.Perm b) : a = b :=
  List.Perm.eq_of_pairwise (le := fun a b : Nat => b ≤ a) (fun a b _ _ h1 h2 => Nat.le_antisymm h2 h1) h1 h2 p
theorem gz_pre : ∀ (l : List Nat), l.Pairwise (fun a b => b ≤ a) → ∀ k, pre (gz l) k = pre l k
  | [], _, k => rfl
  | x :: l, h, k => by
    obtain ⟨h1, h2⟩ := List.pairwise_cons.mp h
    by_cases z : x > 0
    · rw [gz, List.filter_cons_of_pos (by exact decide_eq_true z)]
      cases k with
      | zero => rfl
      | succ k =>
        have := gz_pre l h2 k
        unfold pre at this ⊢
        rw [List.take_succ_cons, List.take_succ_cons, List.sum_cons, List.sum_cons, this]
    · have zero : ∀ y ∈ x :: l, y = 0 := fun y hy => by
        rcases List.mem_cons.mp hy with rfl | hy
        · omega
        · have := h1 y hy
          omega
      have e : gz (x :: l) = [] := List.filter_eq_nil_iff.mpr fun y hy hh => by
        have := of_decide_eq_true hh
        have := zero y hy
        omega
      have s0 : ∀ m : List Nat, (∀ y ∈ m, y = 0) → m.sum = 0 := fun m => by
        induction m with
        | nil => exact fun _ => rfl
        | cons y m ih =>
          intro hm
          rw [List.sum_cons, ih fun v hv => hm v (List.mem_cons_of_mem _ hv), hm y List.mem_cons_self]
      rw [e]
      unfold pre
      rw [s0 ((x :: l).take k) fun y hy => zero y (List.mem_of_mem_take hy), List.take_nil]
      rfl
theorem gz_zeros (c : List Nat) (z : Nat) : gz (c ++ List.replicate z 0) = gz c := by
  rw [gz, List.filter_append, List.filter_replicate_of_neg (by decide), List.append_nil]
theorem pad_pre (c : List Nat) (z k : Nat) : pre (dN (c ++ List.replicate z 0)) k = pre (gN c) k := by
  rw [← gz_pre _ (dN_fall _)]
  have e : gz (dN (c ++ List.replicate z 0)) = gN c := by
    refine fall_eq ((dN_fall _).filter _) ((dN_fall _).filter _) ?_
    refine ((dN_perm _).filter _).trans ?_
    show (gz (c ++ List.replicate z 0)).Perm _
    rw [gz_zeros]
    exact ((dN_perm c).filter _).symm
  rw [e]
theorem gN_small {s : List Nat} (h : Small s) : gN s = s := by
  unfold gN
  rw [fall_eq (dN_fall s) h.1 (dN_perm s)]
  exact List.filter_eq_self.mpr fun x hx => decide_eq_true (h.2.1 x hx)
theorem num_gN {s : List Nat} (h : Small s) (c : List Nat) : numR s c.reverse = numR s (gN c) := by
  rw [num_perm ((List.reverse_perm c).trans (dN_perm c).symm) h]
  exact (num_filter (dN c) s h).symm
theorem gN_sum (c : List Nat) : (gN c).sum = c.sum := by
  unfold gN
  rw [gz, sum_pos]
  exact sum_perm (dN_perm c)
/-- just if no prefix is greater -/
theorem num_pos {s c : List Nat} (h : Small s) (l : c.length ≤ 5) (e : c.sum = s.sum) : 0 < numR s c.reverse ↔ ∀ k, pre (gN c) k ≤ pre s k := by
  rw [num_gN h]
  refine num_under h ((dN_fall c).filter _) (fun x hx => of_decide_eq_true (List.mem_filter.mp hx).2) ?_ (by rw [gN_sum]; exact e)
  have := List.length_filter_le (fun r => decide (r > 0)) (dN c)
  rw [(dN_perm c).length_eq] at this
  exact Nat.le_trans this l
/-- the sorted and padded row of the law -/
def padI (c : List Nat) (z : Nat) : List Int := (up (Nk (c ++ List.replicate z 0))).reverse
theorem padI_eq (c : List Nat) (z : Nat) : padI c z = Nk (dN (c ++ List.replicate z 0)) := by
  unfold padI
  refine List.Perm.eq_of_pairwise (le := fun a b : Int => b ≤ a) (fun a b _ _ h1 h2 => Int.le_antisymm h2 h1) (List.pairwise_reverse.mpr (up_sorted _)) (Nk_fall (dN_fall _)) ?_
  exact (List.reverse_perm _).trans ((up_perm _).trans ((dN_perm _).map _).symm)
theorem padI_take (c : List Nat) (z k : Nat) : ((padI c z).take k).sum = (pre (gN c) k : Int) := by
  rw [padI_eq, ← pad_pre c z k]
  unfold pre
  rw [← Nk_sum]
  show ((List.map _ _).take k).sum = _
  rw [← List.map_take]
theorem padI_sum (c : List Nat) (z : Nat) : (padI c z).sum = (c.sum : Int) := by
  rw [padI_eq, Nk_sum, sum_perm (dN_perm _), List.sum_append, List.sum_replicate_nat]
  omega
theorem pre_all {l : List Nat} {k : Nat} (h : l.length ≤ k) : pre l k = l.sum := by
  unfold pre
  rw [List.take_of_length_le h]
theorem pad_list (c : List Nat) (z : Int) : (Nk c).map D.int ++ (List.replicate z.toNat [D.int 0]).flatten = (Nk (c ++ List.replicate z.toNat 0)).map D.int := by
  show _ = ((c ++ List.replicate z.toNat 0).map fun n : Nat => (n : Int)).map D.int
  rw [List.map_append, List.map_append, List.map_replicate, List.map_replicate, List.flatten_replicate_singleton]
  rfl
theorem small_len {s : List Nat} (hs : Small s) : s.length ≤ 10 := by
  have : ∀ y : List Nat, (∀ v ∈ y, 0 < v) → y.length ≤ y.sum := fun y => by
    induction y with
    | nil => exact fun _ => Nat.le_refl _
    | cons v y ih =>
      intro hy
      have := ih fun u hu => hy u (List.mem_cons_of_mem _ hu)
      have := hy v List.mem_cons_self
      rw [List.length_cons, List.sum_cons]
      omega
  have := this s hs.2.1
  have := hs.2.2
  omega
theorem comp_up {v : Nat} {t : W Bool} {e : W D} {Q : List D → PEnv → Prop} (E : Option Sl → PEnv) (h : Nat → D) (p : Nat → Bool) (L : Nat) (s0 : Option Sl) (acc : List D) (hE : ∀ s x, (wipeE (E s) [v]).set v (some (.d x)) = E (some (.d x)))
    (ht : ∀ a < L, ∀ (K : Bool → PEnv → Prop) ex, K (p a) (E (some (.d (.int (a : Int))))) → t (E (some (.d (.int (a : Int))))) K ex) (he : ∀ a < L, p a = true → ∀ (K : D → PEnv → Prop) ex, K (h a) (E (some (.d (.int (a : Int))))) → e (E (some (.d (.int (a : Int))))) K ex)
    (hQ : ∀ s, Q (acc ++ (((List.range L).filter p).map h)) (E s)) : compW (gNm v) t e [v] Q (Pd.upTo 0 (L : Int)) (E s0) acc := by
  rw [upTo_nat]
  exact comp_enc E (fun k : Nat => D.int (k : Int)) h p (List.range L) s0 acc hE (fun a ha => ht a (List.mem_range.mp ha)) (fun a ha => he a (List.mem_range.mp ha)) hQ
theorem pure_L_under (ds : List D) (Q : D → Prop) (Ex : Xc → Prop) (h : F_L_under ds Q Ex) : w_L_under (dEnds Q Ex) (startE N_L_under ds) := by
  obtain ⟨c, s, rfl, hs, hc, e, q⟩ := h
  have ls := small_len hs
  have l1 : ((Nk c).map D.int).length = c.length := by rw [List.length_map, List.length_map]
  have l2 : ((Nk s).map D.int).length = s.length := by rw [List.length_map, List.length_map]
  obtain ⟨L, hL, b1, b2, b3⟩ : ∃ L : Nat, (if (((Nk s).map D.int).length : Int) > (((Nk c).map D.int).length : Int) then (((Nk s).map D.int).length : Int) else (((Nk c).map D.int).length : Int)) = (L : Int) ∧ c.length ≤ L ∧ s.length ≤ L ∧ L ≤ 10 := by
    rw [l1, l2]
    by_cases z : (s.length : Int) > (c.length : Int)
    · exact ⟨s.length, if_pos z, by omega, by omega, by omega⟩
    · exact ⟨c.length, if_neg z, by omega, by omega, by omega⟩
  refine ⟨Nat.le_of_ble_eq_true rfl, ⟨by rw [hL, l1]; omega, by rw [hL, l1]; omega, ?_⟩, ?_⟩
  · show 1 * _ ≤ 1000000
    rw [hL, l1]
    omega
  refine ⟨by rw [hL, l1, List.flatten_replicate_singleton, List.length_replicate]; omega, ?_⟩
  refine ⟨_, congrArg some (pad_list c _), srt_ints _, ?_⟩
  rw [ms_up]
  refine ⟨Nat.le_of_ble_eq_true rfl, ⟨by rw [hL, l2]; omega, by rw [hL, l2]; omega, ?_⟩, ?_⟩
  · show 1 * _ ≤ 1000000
    rw [hL, l2]
    omega
  refine ⟨by rw [hL, l2, List.flatten_replicate_singleton, List.length_replicate]; omega, ?_⟩
  refine ⟨_, congrArg some (pad_list s _), srt_ints _, ?_⟩
  rw [ms_up]
  refine ⟨padI c _, congrArg some List.map_reverse.symm, padI s _, congrArg some List.map_reverse.symm, ⟨rfl, ?_⟩⟩
  rw [padI_sum, padI_sum]
  refine br_tt (by show decide _ = true; exact decide_eq_true (by rw [e])) ?_
  rw [hL]
  refine ⟨by omega, by omega, ?_⟩
  refine comp_up (v := 5) (e := wVar 5) (t := wTest (wBin dGt (x1 fSum (wSl (wVar 3) (W.ret none) (wPart (wVar 5)))) (x1 fSum (wSl (wVar 4) (W.ret none) (wPart (wVar 5)))))) (E := fun z => [some (.d (shD c)), some (.d (shD s)), some (.d (.int (L : Int))), some (.d (.lst ((up (Nk (c ++ List.replicate ((L : Int) - (((Nk c).map D.int).length : Int)).toNat 0))).map D.int).reverse)), some (.d (.lst ((up (Nk (s ++ List.replicate ((L : Int) - (((Nk s).map D.int).length : Int)).toNat 0))).map D.int).reverse)), z]) (fun k : Nat => D.int (k : Int)) (fun k => decide (pre (gN c) k > pre (gN s) k)) L none [] (fun _ _ => rfl) (fun k hk K ex kk => ?_) (fun k hk _ K ex kk => kk) fun z => ?_
  · refine ⟨(padI c ((L : Int) - (((Nk c).map D.int).length : Int)).toNat).take k, ?_, (padI s ((L : Int) - (((Nk s).map D.int).length : Int)).toNat).take k, ?_, ?_⟩
    · rw [cut_to]
      unfold padI
      rw [List.map_take, List.map_reverse]
      rfl
    · rw [cut_to]
      unfold padI
      rw [List.map_take, List.map_reverse]
      rfl
    · rw [padI_take, padI_take]
      show K (decide ((pre (gN c) k : Int) > (pre (gN s) k : Int))) _
      have e : decide ((pre (gN c) k : Int) > (pre (gN s) k : Int)) = decide (pre (gN c) k > pre (gN s) k) := decide_eq_decide.mpr (by omega)
      rw [e]
      exact kk
  refine ⟨Nat.zero_le _, ?_⟩
  have e3 : (((List.range L).filter fun k => decide (pre (gN c) k > pre (gN s) k)).map fun k : Nat => D.int (k : Int)) = (Nk ((List.range L).filter fun k => decide (pre (gN c) k > pre (gN s) k))).map D.int := by
    rw [List.map_map]
    rfl
  rw [List.nil_append, e3]
  refine eq_li _ [] (env := []) (Q := fun d _ => Q d) ?_
  have e4 : decide (Nk ((List.range L).filter fun k => decide (pre (gN c) k > pre (gN s) k)) = []) = decide (0 < numR s c.reverse) := by
    refine decide_eq_decide.mpr ?_
    rw [num_pos hs hc e, gN_small hs, List.map_eq_nil_iff, List.filter_eq_nil_iff]
    constructor
    · intro h k
      by_cases hk : k < L
      · have := h k (List.mem_range.mpr hk)
        have : ¬ pre (gN c) k > pre s k := fun z => this (decide_eq_true z)
        omega
      · have g1 : (gN c).length ≤ k := by
          have := List.length_filter_le (fun r => decide (r > 0)) (dN c)
          rw [(dN_perm c).length_eq] at this
          exact Nat.le_trans this (by omega)
        rw [pre_all g1, pre_all (show s.length ≤ k by omega), gN_sum, e]
        exact Nat.le_refl _
    · intro h k _ z
      have := of_decide_eq_true z
      have := h k
      omega
  rw [e4]
  exact q
theorem len_L_under (ds : List D) (Q : D → Prop) (Ex : Xc → Prop) (h : F_L_under ds Q Ex) : ds.length = 2 := by
  obtain ⟨c, s, rfl, _⟩ := h
  rfl
end Pr

namespace Pr
open PySem PySem.Spec PyProof.Rows L2 LamX Pd
/-! comprehensions with two walks, a pair first -/
theorem cmp_enc {α : Type} {u : Nat} {t : W Bool} {e : W D} {Q : List D → PEnv → Prop} (E : Option Sl → PEnv) (enc h : α → D) (p : α → Bool) (hE : ∀ z y, (wipeE (E z) [u]).set u (some (.d y)) = E (some (.d y))) (hW : ∀ z, wipeE (E z) [u] = E none) :
    ∀ (bs : List α) (z0 : Option Sl) (acc : List D), acc.length + bs.length ≤ 1000000 → (∀ b ∈ bs, ∀ (K : Bool → PEnv → Prop) ex, K (p b) (E (some (.d (enc b)))) → t (E (some (.d (enc b)))) K ex) → (∀ b ∈ bs, p b = true → ∀ (K : D → PEnv → Prop) ex, K (h b) (E (some (.d (enc b)))) → e (E (some (.d (enc b)))) K ex) →
    Q (acc ++ (bs.filter p).map h) (E none) → cmpW (gNm u) t e [u] Q (bs.map enc) (E z0) acc
  | [], z0, acc, _, _, _, hQ => by
    show Q acc (wipeE (E z0) [u])
    rw [hW]
    rw [List.filter_nil, List.map_nil, List.append_nil] at hQ
    exact hQ
  | b :: bs, z0, acc, hl, ht, he, hQ => by
    rw [List.length_cons] at hl
    show t ((wipeE (E z0) [u]).set u (some (.d (enc b)))) _ _
    rw [hE]
    refine ht b List.mem_cons_self _ _ (br_of (fun hp => ?_) (fun hp => ?_))
    · refine he b List.mem_cons_self hp _ _ ⟨by omega, cmp_enc E enc h p hE hW bs _ _ (by rw [List.length_append]; show acc.length + 1 + _ ≤ _; omega) (fun c hc => ht c (List.mem_cons_of_mem _ hc)) (fun c hc => he c (List.mem_cons_of_mem _ hc)) ?_⟩
      rw [List.filter_cons_of_pos hp, List.map_cons] at hQ
      rw [List.append_assoc]
      exact hQ
    · refine cmp_enc E enc h p hE hW bs _ _ (by omega) (fun c hc => ht c (List.mem_cons_of_mem _ hc)) (fun c hc => he c (List.mem_cons_of_mem _ hc)) ?_
      rw [List.filter_cons_of_neg (by rw [hp]; exact Bool.false_ne_true)] at hQ
      exact hQ
theorem comp2_pair {α β : Type} {v w u : Nat} {it : W (List D)} {t : W Bool} {e : W D} {Q : List D → PEnv → Prop} (E : Option Sl → Option Sl → Option Sl → PEnv) (e1 e2 : α → D) (e3 : β → D) (h : α → β → D) (p : α → β → Bool) (bs : List β)
    (hE1 : ∀ s z o x y, ((wipeE (E s z o) [v, w, u]).set v (some (.d x))).set w (some (.d y)) = E (some (.d x)) (some (.d y)) none) (hE2 : ∀ s z o y, (wipeE (E s z o) [u]).set u (some (.d y)) = E s z (some (.d y))) (hW : ∀ s z o, wipeE (E s z o) [u] = E s z none)
    (hit : ∀ s z o (K : List D → PEnv → Prop) ex, K (bs.map e3) (E s z o) → it (E s z o) K ex)
    (ht : ∀ a, ∀ b ∈ bs, ∀ (K : Bool → PEnv → Prop) ex, K (p a b) (E (some (.d (e1 a))) (some (.d (e2 a))) (some (.d (e3 b)))) → t (E (some (.d (e1 a))) (some (.d (e2 a))) (some (.d (e3 b)))) K ex)
    (he : ∀ a, ∀ b ∈ bs, p a b = true → ∀ (K : D → PEnv → Prop) ex, K (h a b) (E (some (.d (e1 a))) (some (.d (e2 a))) (some (.d (e3 b)))) → e (E (some (.d (e1 a))) (some (.d (e2 a))) (some (.d (e3 b)))) K ex) :
    ∀ (as : List α) (s0 s1 z0 : Option Sl) (acc : List D), acc.length + as.length * bs.length ≤ 1000000 → (∀ s z o, Q (acc ++ as.flatMap fun a => (bs.filter (p a)).map (h a)) (E s z o)) →
    comp2W (gTupP (gsCons (gNm v) (gsCons (gNm w) gsNil)) 2) (W.ret true) it (gNm u) t e [v, w, u] [u] Q (as.map fun a => .tup [e1 a, e2 a]) (E s0 s1 z0) acc
  | [], s0, s1, z0, acc, _, hQ => by
    have := hQ s0 s1 z0
    rw [List.flatMap_nil, List.append_nil] at this
    exact this
  | a :: as, s0, s1, z0, acc, hl, hQ => by
    have el : (as.length + 1) * bs.length = as.length * bs.length + bs.length := by rw [Nat.add_mul, Nat.one_mul]
    rw [List.length_cons, el] at hl
    refine ⟨rfl, ?_⟩
    show br true (it (((wipeE (E s0 s1 z0) [v, w, u]).set v (some (.d (e1 a)))).set w (some (.d (e2 a)))) _ _) _
    rw [hE1]
    refine br_tt rfl (hit _ _ _ _ _ ?_)
    refine cmp_enc (fun z => E (some (.d (e1 a))) (some (.d (e2 a))) z) e3 (h a) (p a) (fun z y => hE2 _ _ z y) (fun z => hW _ _ z) bs none acc (by omega) (ht a) (he a) ?_
    refine comp2_pair E e1 e2 e3 h p bs hE1 hE2 hW hit ht he as _ _ _ _ ?_ fun s z o => ?_
    · have := List.length_filter_le (p a) bs
      rw [List.length_append, List.length_map]
      omega
    · have := hQ s z o
      rw [List.flatMap_cons] at this
      rw [List.append_assoc]
      exact this
theorem comp_trip {α : Type} {v w u : Nat} {e : W D} {Q : List D → PEnv → Prop} (E : Option Sl → Option Sl → Option Sl → PEnv) (e1 e2 e3 h : α → D)
    (hE : ∀ s z o x y q, (((wipeE (E s z o) [v, w, u]).set v (some (.d x))).set w (some (.d y))).set u (some (.d q)) = E (some (.d x)) (some (.d y)) (some (.d q))) :
    ∀ (as : List α) (s0 s1 s2 : Option Sl) (acc : List D), (∀ a ∈ as, ∀ (K : D → PEnv → Prop) ex, K (h a) (E (some (.d (e1 a))) (some (.d (e2 a))) (some (.d (e3 a)))) → e (E (some (.d (e1 a))) (some (.d (e2 a))) (some (.d (e3 a)))) K ex) →
    (∀ s z o, Q (acc ++ as.map h) (E s z o)) → compW (gTupP (gsCons (gNm v) (gsCons (gNm w) (gsCons (gNm u) gsNil))) 3) (W.ret true) e [v, w, u] Q (as.map fun a => .tup [e1 a, e2 a, e3 a]) (E s0 s1 s2) acc
  | [], s0, s1, s2, acc, _, hQ => by
    have := hQ s0 s1 s2
    rw [List.map_nil, List.append_nil] at this
    exact this
  | a :: as, s0, s1, s2, acc, he, hQ => by
    refine ⟨rfl, ?_⟩
    show br true (e ((((wipeE (E s0 s1 s2) [v, w, u]).set v (some (.d (e1 a)))).set w (some (.d (e2 a)))).set u (some (.d (e3 a)))) _ _) _
    rw [hE]
    refine br_tt rfl (he a List.mem_cons_self _ _ (comp_trip E e1 e2 e3 h hE as _ _ _ _ (fun c hc => he c (List.mem_cons_of_mem _ hc)) fun s z o => ?_))
    have := hQ s z o
    rw [List.map_cons] at this
    rw [List.append_assoc]
    exact this
def encF (p : List Nat × Nat) : D := .tup [shD p.1, .int (p.2 : Int)]
theorem step_len {f : List (List Nat × Nat)} {r l : Nat} (h : l ≤ r) : (stepS f r l).length * 2 ^ l ≤ f.length * 2 ^ r := by
  have p2 : ∀ n : Nat, n + 1 ≤ 2 ^ n := fun n => by
    induction n with
    | zero => exact Nat.le_refl _
    | succ n ih =>
      rw [Nat.pow_succ]
      omega
  have e : ∀ g : List (List Nat × Nat), (stepS g r l).length ≤ g.length * 2 ^ (r - l) := fun g => by
    induction g with
    | nil => exact Nat.zero_le _
    | cons x g ih =>
      unfold stepS at ih ⊢
      rw [List.flatMap_cons, List.length_append, List.length_map, List.length_cons, Nat.add_mul, Nat.one_mul]
      have := List.length_filter_le (fun c => decide (c ≤ x.2)) (List.range (r - l + 1))
      rw [List.length_range] at this
      have := p2 (r - l)
      omega
  have := Nat.mul_le_mul_right (2 ^ l) (e f)
  rw [Nat.mul_assoc, ← Nat.pow_add, Nat.sub_add_cancel h] at this
  exact this
end Pr

namespace Pr
open PySem PySem.Spec PyProof.Rows L2 LamX Pd
theorem drop_cons {s tl : List Nat} {k r : Nat} (h : s.drop k = r :: tl) : k < s.length ∧ s.drop (k + 1) = tl ∧ s.getD k 0 = r := by
  have hk : k < s.length := by
    apply Classical.byContradiction
    intro z
    rw [List.drop_eq_nil_of_le (by omega)] at h
    cases h
  rw [List.drop_eq_getElem_cons hk] at h
  have := List.cons.inj h
  refine ⟨hk, this.2, ?_⟩
  rw [List.getD_eq_getElem?_getD, List.getElem?_eq_getElem hk]
  exact this.1
theorem Nk_idx {c : List Nat} {i : Nat} (h : i < c.length) : dIdx (shD c) (.int (i : Int)) = some (.int (c.getD i 0 : Int)) := by
  refine atI_nat (by omega) ?_
  rw [Int.toNat_natCast, List.getElem?_map, List.getElem?_map, List.getElem?_eq_getElem h, List.getD_eq_getElem?_getD, List.getElem?_eq_getElem h]
  rfl
abbrev EVs (s : List Nat) (m : Nat) (f : D) (a b c d e o z y x : Option Sl) : PEnv := [some (.d (shD s)), some (.d (.int (m : Int))), some (.d f), a, b, c, d, e, o, z, y, x]
theorem gz_enc : ∀ t : List Nat, ((Nk t).filter fun r => decide (r > 0)) = Nk (gz t)
  | [] => rfl
  | x :: t => by
    show List.filter _ ((x : Int) :: Nk t) = Nk (List.filter _ (x :: t))
    by_cases h : x > 0
    · rw [List.filter_cons_of_pos (by exact decide_eq_true (by omega)), List.filter_cons_of_pos (by exact decide_eq_true h), gz_enc t]
      rfl
    · rw [List.filter_cons_of_neg (by intro z; have := of_decide_eq_true z; omega), List.filter_cons_of_neg (by intro z; have := of_decide_eq_true z; omega), gz_enc t]
theorem strips_enc (g : List (List Nat × Nat)) : (g.filter fun p => decide (p.2 = 0)).map (fun p => shD (gz p.1)) = ((g.filter fun p => decide (p.2 = 0)).map fun p => p.1.filter fun r => decide (r > 0)).map shD := by
  rw [List.map_map]
  rfl
theorem pure_without_strip (ds : List D) (Q : D → Prop) (Ex : Xc → Prop) (h : F_without_strip ds Q Ex) : w_without_strip (dEnds Q Ex) (startE N_without_strip ds) := by
  obtain ⟨s, m, rfl, hs, hm, q⟩ := h
  refine ⟨Nat.zero_le _, Nat.le_of_ble_eq_true rfl, Nat.le_of_ble_eq_true rfl, ?_⟩
  have hl10 := small_len hs
  refine forW_ind (fun rest env => ∃ (k : Nat) (f : List (List Nat × Nat)) (a b c d e : Option Sl), rest = enD k ((Nk (s.drop k)).map D.int) ∧ env = EVs s m (.lst (f.map encF)) a b c d e none none none none ∧ goS (s.drop k) f = goS s [([], m)] ∧ f.length * 2 ^ ((s.drop k).headD 0) ≤ 1024 ∧ k ≤ 10 ∧ (∀ p ∈ f, p.1.length = k) ∧ keepD b = b) ?_ ?_ _ _ ⟨0, [([], m)], none, none, none, none, none, rfl, rfl, rfl, ?_, by omega, fun p hp => by rw [List.mem_singleton.mp hp]; rfl, rfl⟩
  · rintro x rest env ⟨k, f, a, b, c, d, e, hr, rfl, hg, hl, hk, hp, hb⟩ ih
    cases z : s.drop k with
    | nil =>
      rw [z] at hr
      cases hr
    | cons r tl =>
      rw [z] at hr hg hl
      obtain ⟨z1, z2, z3⟩ := drop_cons z
      have hx := List.cons.inj (show x :: rest = D.tup [.int (k : Int), .int (r : Int)] :: enD (k + 1) ((Nk tl).map D.int) from hr)
      obtain ⟨rfl, hrest⟩ := hx
      have hrs : r ≤ 10 := by
        have := le_sum (List.mem_of_mem_drop (show r ∈ s.drop k by rw [z]; exact List.mem_cons_self))
        have := hs.2.2
        omega
      have fall : (r :: tl).Pairwise fun a b => b ≤ a := by
        rw [← z]
        exact hs.1.drop
      obtain ⟨least, e1, e2, e3, hle⟩ : ∃ least : Nat, (k + 1 < s.length → dIdx (shD s) (.int ((k : Int) + 1)) = some (.int (least : Int))) ∧ (¬ k + 1 < s.length → (least : Int) = 0) ∧ tl.headD 0 = least ∧ least ≤ r := by
        cases y : tl with
        | nil =>
          rw [y] at z2
          have := List.drop_eq_nil_iff.mp z2
          exact ⟨0, fun h => by omega, fun _ => rfl, rfl, Nat.zero_le _⟩
        | cons u vl =>
          rw [y] at z2 fall
          obtain ⟨y1, y2, y3⟩ := drop_cons z2
          refine ⟨u, fun h => ?_, fun h => absurd y1 h, rfl, (List.pairwise_cons.mp fall).1 u List.mem_cons_self⟩
          have := Nk_idx y1
          rw [y3] at this
          exact this
      have ln : ((Nk s).map D.int).length = s.length := by rw [List.length_map, List.length_map]
      have hup : Pd.upTo 0 ((r : Int) - (least : Int) + 1) = (List.range (r - least + 1)).map fun (i : Nat) => D.int (i : Int) := by
        rw [show (r : Int) - (least : Int) + 1 = ((r - least + 1 : Nat) : Int) by omega, upTo_nat]
      have hf : f.length ≤ 1024 := Nat.le_trans (Nat.le_mul_of_pos_right _ (Nat.two_pow_pos _)) hl
      refine ⟨rfl, ?_⟩
      have l1 : decide ((k : Int) + 1 < (((Nk s).map D.int).length : Int)) = true → k + 1 < s.length := fun h => by
        have := of_decide_eq_true h
        rw [ln] at this
        omega
      have l2 : decide ((k : Int) + 1 < (((Nk s).map D.int).length : Int)) = false → ¬ k + 1 < s.length := fun h => by
        have := of_decide_eq_false h
        rw [ln] at this
        omega
      refine (fun H => br_of (fun h => ⟨_, e1 (l1 h), H⟩) (fun h => by
        have e := e2 (l2 h)
        rw [e] at H
        exact H)) ?_
      refine ⟨⟨by omega, by omega, ?_, ?_⟩, ?_⟩
      · show -1000000 ≤ (r : Int) - (least : Int) + 1
        omega
      · show (r : Int) - (least : Int) + 1 ≤ 1000000
        omega
      refine comp2_pair (v := 11) (w := 10) (u := 8) (t := wTest (wBin dLe (wVar 8) (wVar 10))) (e := wTup (wCons (wVar 11) (wCons (wVar 10) (wCons (wVar 8) wNil)))) (fun z y o => EVs s m (.lst (f.map encF)) (some (.d (.int (k : Int)))) (some (.d (.int (r : Int)))) (some (.d (.int (least : Int)))) (some (.d (.lst (Pd.upTo 0 ((r : Int) - (least : Int) + 1))))) e o none y z) (fun p : List Nat × Nat => shD p.1) (fun p => D.int (p.2 : Int)) (fun c : Nat => D.int (c : Int)) (fun p c => .tup [shD p.1, .int (p.2 : Int), .int (c : Int)]) (fun p c => decide (c ≤ p.2)) (List.range (r - least + 1)) (fun _ _ _ _ _ => rfl) (fun _ _ _ _ => rfl) (fun _ _ _ => rfl) (fun z y o K ex kk => ?_) (fun p c hc K ex kk => ?_) (fun p c hc _ K ex kk => ?_) f none none none [] ?_ fun z y o => ?_
      · show K (Pd.upTo 0 ((r : Int) - (least : Int) + 1)) _
        rw [← hup] at kk
        exact kk
      · show K (decide ((c : Int) ≤ (p.2 : Int))) _
        have e : decide ((c : Int) ≤ (p.2 : Int)) = decide (c ≤ p.2) := decide_eq_decide.mpr (by omega)
        rw [e]
        exact kk
      · exact ⟨Nat.le_of_ble_eq_true rfl, kk⟩
      · rw [List.length_range]
        show 0 + f.length * _ ≤ 1000000
        have := Nat.mul_le_mul hf (show r - least + 1 ≤ 11 by omega)
        omega
      have hP : (f.flatMap fun p => ((List.range (r - least + 1)).filter fun c => decide (c ≤ p.2)).map fun c : Nat => D.tup [shD p.1, .int (p.2 : Int), .int (c : Int)]) = (f.flatMap fun p => ((List.range (r - least + 1)).filter fun c => decide (c ≤ p.2)).map fun c => (p, c)).map fun q => D.tup [shD q.1.1, .int (q.1.2 : Int), .int (q.2 : Int)] := by
        rw [List.map_flatMap]
        congr 1
        funext p
        rw [List.map_map]
        rfl
      rw [List.nil_append, hP]
      have mem : ∀ q ∈ (f.flatMap fun p => ((List.range (r - least + 1)).filter fun c => decide (c ≤ p.2)).map fun c => (p, c)), q.1 ∈ f ∧ q.2 ≤ r - least ∧ q.2 ≤ q.1.2 := fun q hq => by
        obtain ⟨p, h1, h2⟩ := List.mem_flatMap.mp hq
        obtain ⟨c, h3, rfl⟩ := List.mem_map.mp h2
        obtain ⟨h4, h5⟩ := List.mem_filter.mp h3
        have := List.mem_range.mp h4
        exact ⟨h1, by show c ≤ _; omega, of_decide_eq_true h5⟩
      refine comp_trip (v := 11) (w := 10) (u := 8) (e := wTup (wCons (wTup (wStar (wVar 11) (wCons (wBin dSub (wVar 4) (wVar 8)) wNil))) (wCons (wBin dSub (wVar 10) (wVar 8)) wNil))) (fun z y o => EVs s m (.lst (f.map encF)) (some (.d (.int (k : Int)))) (some (.d (.int (r : Int)))) (some (.d (.int (least : Int)))) (some (.d (.lst (Pd.upTo 0 ((r : Int) - (least : Int) + 1))))) (some (.d (.lst ((f.flatMap fun p => ((List.range (r - least + 1)).filter fun c => decide (c ≤ p.2)).map fun c => (p, c)).map fun q => D.tup [shD q.1.1, .int (q.1.2 : Int), .int (q.2 : Int)])))) o none y z) (fun q : (List Nat × Nat) × Nat => shD q.1.1) (fun q => D.int (q.1.2 : Int)) (fun q => D.int (q.2 : Int)) (fun q => encF (q.1.1 ++ [r - q.2], q.1.2 - q.2)) (fun _ _ _ _ _ _ => rfl) _ none none none [] (fun q hq K ex kk => ?_) fun z y o => ?_
      · obtain ⟨m1, m2, m3⟩ := mem q hq
        have l3 := hp q.1 m1
        refine ⟨?_, Nat.le_of_ble_eq_true rfl, ?_⟩
        · show ((Nk q.1.1).map D.int ++ [D.int ((r : Int) - (q.2 : Int))]).length ≤ 1000000
          rw [List.length_append, List.length_map, List.length_map]
          show q.1.1.length + 1 ≤ _
          omega
        · have e4 : encF (q.1.1 ++ [r - q.2], q.1.2 - q.2) = D.tup [.tup ((Nk q.1.1).map D.int ++ [D.int ((r : Int) - (q.2 : Int))]), .int ((q.1.2 : Int) - (q.2 : Int))] := by
            show D.tup [.tup ((Nk (q.1.1 ++ [r - q.2])).map D.int), .int ((q.1.2 - q.2 : Nat) : Int)] = _
            rw [Nk_snoc, show ((q.1.2 - q.2 : Nat) : Int) = (q.1.2 : Int) - (q.2 : Int) by omega, show ((r - q.2 : Nat) : Int) = (r : Int) - (q.2 : Int) by omega]
          rw [e4] at kk
          exact kk
      rw [List.nil_append]
      have e5 : (f.flatMap fun p => ((List.range (r - least + 1)).filter fun c => decide (c ≤ p.2)).map fun c => (p, c)).map (fun q => encF (q.1.1 ++ [r - q.2], q.1.2 - q.2)) = (stepS f r least).map encF := by
        unfold stepS
        rw [List.map_flatMap, List.map_flatMap]
        congr 1
        funext p
        rw [List.map_map, List.map_map]
        rfl
      rw [e5]
      have hle2 : least ≤ r := hle
      refine ih _ ⟨k + 1, stepS f r least, _, _, _, _, _, by rw [z2]; exact hrest, rfl, ?_, ?_, by omega, ?_, rfl⟩
      · rw [z2, ← hg, ← e3]
        rfl
      · rw [z2, e3]
        exact Nat.le_trans (step_len hle) hl
      · intro p hpp
        unfold stepS at hpp
        obtain ⟨u, h1, h2⟩ := List.mem_flatMap.mp hpp
        obtain ⟨c, h3, rfl⟩ := List.mem_map.mp h2
        show (u.1 ++ [r - c]).length = k + 1
        rw [List.length_append, hp u h1]
        rfl
  · rintro env ⟨k, f, a, b, c, d, e, hr, rfl, hg, hl, hk, hp, hb⟩
    have nil : s.drop k = [] := by
      cases z : s.drop k with
      | nil => rfl
      | cons r tl =>
        rw [z] at hr
        cases hr
    rw [nil] at hg
    have hg : f = goS s [([], m)] := hg
    refine comp_pair (v := 9) (u := 10) (fun z y => EVs s m (.lst (f.map encF)) a b c d e none z y none) (fun p : List Nat × Nat => shD p.1) (fun p => D.int (p.2 : Int)) (fun p => shD (gz p.1)) (fun p => decide (p.2 = 0)) f none none [] (fun _ _ _ _ => rfl) (fun p hpf K ex kk => ⟨rfl, ?_⟩) (fun p hpf _ K ex kk => ?_) fun z y => ?_
    · have e : eqb (.int (p.2 : Int)) (.int 0) = decide (p.2 = 0) := by
        show decide ((p.2 : Int) = 0) = _
        exact decide_eq_decide.mpr (by omega)
      show K (eqb (.int (p.2 : Int)) (.int 0)) _
      rw [e]
      exact kk
    · refine comp_enc (v := 4) (t := wTest (wBin dGt (wVar 4) (W.ret (.int 0)))) (e := wVar 4) (E := fun b => EVs s m (.lst (f.map encF)) a b c d e none (some (.d (shD p.1))) (some (.d (.int (p.2 : Int)))) none) D.int D.int (fun r => decide (r > 0)) (Nk p.1) b [] (fun _ _ => rfl) (fun n hn K ex kk => kk) (fun n hn _ K ex kk => kk) fun z => ?_
      rw [List.nil_append, gz_enc]
      show K (shD (gz p.1)) (EVs s m (.lst (f.map encF)) a (keepD b) c d e none (some (.d (shD p.1))) (some (.d (.int (p.2 : Int)))) none)
      rw [hb]
      exact kk
    · rw [List.nil_append, strips_enc, hg]
      exact q
  · show 1 * 2 ^ (s.headD 0) ≤ 1024
    have : s.headD 0 ≤ 10 := by
      have := hs.2.2
      cases s with
      | nil => exact Nat.zero_le _
      | cons x l =>
        rw [List.sum_cons] at this
        show x ≤ 10
        omega
    have := Nat.pow_le_pow_right (show 0 < 2 by decide) this
    rw [Nat.one_mul]
    exact this
theorem len_without_strip (ds : List D) (Q : D → Prop) (Ex : Xc → Prop) (h : F_without_strip ds Q Ex) : ds.length = 2 := by
  obtain ⟨s, m, rfl, _⟩ := h
  rfl
end Pr

namespace Pr
open PySem PySem.Spec PyProof.Rows L2 LamX Pd
abbrev keys (l : List (List Nat × Nat)) : List (List Nat) := l.map (·.1)
/-- dicts of counts of small shapes -/
def Okc (l : List (List Nat × Nat)) : Prop := (keys l).Nodup ∧ ∀ t ∈ keys l, Small t
def allS : List (List Nat) := (List.range 11).flatMap shapes
theorem allS_len : allS.length = 139 := by decide +kernel
theorem Okc.len {l : List (List Nat × Nat)} (h : Okc l) : l.length ≤ 139 := by
  have := List.Nodup.length_le_of_subset (l₂ := allS) h.1 fun t ht => by
    have s := h.2 t ht
    exact List.mem_flatMap.mpr ⟨t.sum, List.mem_range.mpr (by have := s.2.2; omega), small_mem s⟩
  rw [allS_len, List.length_map] at this
  exact this
theorem put_mem {l : List (List Nat × Nat)} {t x : List Nat} {c : Nat} (h : x ∈ keys (putC l t c)) : x ∈ keys l ∨ x = t := by
  unfold putC at h
  split at h
  · left
    obtain ⟨p, h1, rfl⟩ := List.mem_map.mp h
    obtain ⟨q, h2, rfl⟩ := List.mem_map.mp h1
    have : (if q.1 = t then (q.1, c) else q).1 = q.1 := by split <;> rfl
    rw [this]
    exact List.mem_map.mpr ⟨q, h2, rfl⟩
  · unfold keys at h
    rw [List.map_append] at h
    rcases List.mem_append.mp h with h | h
    · exact .inl h
    · right
      simpa using h
theorem Okc.put {l : List (List Nat × Nat)} (h : Okc l) {t : List Nat} (ht : Small t) (c : Nat) : Okc (putC l t c) := ⟨put_keys l t c h.1, fun x hx => by
  rcases put_mem hx with z | rfl
  · exact h.2 x z
  · exact ht⟩
theorem Okc.puts {c : Nat} : ∀ (ts : List (List Nat)) {l : List (List Nat × Nat)}, Okc l → (∀ t ∈ ts, Small t) → Okc (putS l ts c)
  | [], l, h, _ => h
  | t :: ts, l, h, ht => Okc.puts ts (h.put (ht t List.mem_cons_self) _) fun u hu => ht u (List.mem_cons_of_mem _ hu)
theorem keyT_Nk (t : List Nat) : keyT (iK (Nk t)) = shD t := by
  unfold keyT iK
  rw [List.map_map]
  rfl
abbrev EVn (s c : List Nat) (f : D) (a b d e g : Option Sl) : PEnv := [some (.d (shD s)), some (.d (shD c)), some (.d f), a, b, d, e, g]
theorem enc_len (l : List (List Nat × Nat)) : (encC l).length = l.length := List.length_map _
/-- one shape's strips -/
theorem walk_strips {s c : List Nat} {f : D} {cnt : Nat} {P : PEnv → Prop} {pe : PEnds} {a d : Option Sl} (goal : List (List Nat × Nat)) (hP : ∀ g, P (EVn s c f a (some (.dct none (.t (encC goal)))) d (some (.d (.int (cnt : Int)))) g)) :
    ∀ (ts : List (List Nat)) (acc : List (List Nat × Nat)) (g : Option Sl), Okc acc → (∀ t ∈ ts, Small t) → putS acc ts cnt = goal →
    forW (gNm 7) (fun nx env => (sDcuPut 4 (wVar 7) (xBin fAdd (wDcuGetD 4 (wVar 7) (W.ret (.int 0))) (wVar 6))) { pe with nx := nx, ct := nx, bk := P } env) P (ts.map shD) (EVn s c f a (some (.dct none (.t (encC acc)))) d (some (.d (.int (cnt : Int)))) g)
  | [], acc, g, _, _, e => by
    show P _
    have e : acc = goal := e
    rw [e]
    exact hP g
  | t :: ts, acc, g, h, ht, e => by
    refine ⟨Nk t, rfl, ?_⟩
    rw [get_enc]
    refine ⟨Nk t, rfl, by rw [enc_len]; have := h.len; omega, ?_⟩
    have st := ht t List.mem_cons_self
    have := walk_strips (pe := pe) goal hP ts (putC acc t (getC acc t + cnt)) (some (.d (shD t))) (h.put st _) (fun u hu => ht u (List.mem_cons_of_mem _ hu)) e
    rw [← put_enc] at this
    exact this
theorem strips_small {s : List Nat} (h : Small s) (m : Nat) : ∀ t ∈ strips s m, Small t := fun t ht => (strip_small h ht).1
theorem Okc.pass {m : Nat} : ∀ (l acc : List (List Nat × Nat)), Okc l → Okc acc → Okc (passC l m acc) := fun l => by
  have : ∀ (l acc : List (List Nat × Nat)), (∀ t ∈ keys l, Small t) → Okc acc → Okc (passC l m acc) := fun l => by
    induction l with
    | nil => exact fun acc _ h => h
    | cons p l ih => exact fun acc hl h => ih _ (fun t ht => hl t (List.mem_cons_of_mem _ ht)) (h.puts _ (strips_small (hl p.1 List.mem_cons_self) m))
  exact fun acc hl h => this l acc hl.2 h
/-- all shapes of one dict -/
theorem walk_pass {s c : List Nat} {f : D} {m : Nat} {P : PEnv → Prop} {pe : PEnds} (hm : m ≤ 42) (goal : List (List Nat × Nat)) (hP : ∀ d e g, P (EVn s c f (some (.d (.int (m : Int)))) (some (.dct none (.t (encC goal)))) d e g)) :
    ∀ (l acc : List (List Nat × Nat)) (d e g : Option Sl), (∀ t ∈ keys l, Small t) → Okc acc → passC l m acc = goal →
    forW (gTupP (gsCons (gNm 5) (gsCons (gNm 6) gsNil)) 2) (fun nx env => (sFor (wItems (wCall F_without_strip (wCons (wVar 5) (wCons (wVar 3) wNil)))) (gNm 7) (sDcuPut 4 (wVar 7) (xBin fAdd (wDcuGetD 4 (wVar 7) (W.ret (.int 0))) (wVar 6)))) { pe with nx := nx, ct := nx, bk := P } env) P (l.map fun p => D.tup [shD p.1, .int (p.2 : Int)]) (EVn s c f (some (.d (.int (m : Int)))) (some (.dct none (.t (encC acc)))) d e g)
  | [], acc, d, e, g, _, _, ee => by
    show P _
    have ee : acc = goal := ee
    rw [ee]
    exact hP d e g
  | p :: l, acc, d, e, g, hl, h, ee => by
    have sp := hl p.1 List.mem_cons_self
    refine ⟨rfl, ?_⟩
    refine ⟨p.1, m, rfl, sp, hm, ?_⟩
    refine walk_strips (putS acc (strips p.1 m) p.2) (fun g => ?_) (strips p.1 m) acc g h (strips_small sp m) rfl
    exact walk_pass (pe := pe) hm goal hP l _ _ _ _ (fun t ht => hl t (List.mem_cons_of_mem _ ht)) (h.puts _ (strips_small sp m)) ee
end Pr

namespace Pr
open PySem PySem.Spec PyProof.Rows L2 LamX Pd
theorem mem_sum {c : List Nat} {n : Nat} (h : n ∈ c) : n ≤ c.sum := le_sum h
theorem pairs_enc (l : List (List Nat × Nat)) : (encC l).map (fun kv => D.tup [keyT kv.1, kv.2]) = l.map fun p => D.tup [shD p.1, .int (p.2 : Int)] := by
  unfold encC
  rw [List.map_map]
  refine List.map_congr_left fun p _ => ?_
  show D.tup [keyT (iK (Nk p.1)), _] = _
  rw [keyT_Nk]
theorem rev_Nk (c : List Nat) : ((Nk c).map D.int).reverse = (Nk c.reverse).map D.int := by
  show _ = (List.map _ c.reverse).map D.int
  rw [← List.map_reverse, ← List.map_reverse]
theorem pure_number_of (ds : List D) (Q : D → Prop) (Ex : Xc → Prop) (h : F_number_of ds Q Ex) : w_number_of (dEnds Q Ex) (startE N_number_of ds) := by
  obtain ⟨s, c, rfl, hs, hl, hc, q⟩ := h
  refine ⟨Nk s, rfl, ?_⟩
  refine forW_ind (fun rest env => ∃ (r : List Nat) (l : List (List Nat × Nat)) (a b d e g : Option Sl), rest = (Nk r).map D.int ∧ env = EVn s c (.dit (encC l)) a b d e g ∧ walkC r l = walkC c.reverse [(s, 1)] ∧ Okc l ∧ (∀ n ∈ r, n ≤ 10)) ?_ ?_ _ _ ⟨c.reverse, [(s, 1)], none, none, none, none, none, rev_Nk c, rfl, rfl, ⟨List.nodup_cons.mpr ⟨List.not_mem_nil, List.nodup_nil⟩, fun t ht => by rw [List.mem_singleton.mp ht]; exact hs⟩, fun n hn => ?_⟩
  · rintro x rest env ⟨r, l, a, b, d, e, g, hr, rfl, hw, ok, hn⟩ ih
    cases r with
    | nil => cases hr
    | cons m r =>
      obtain ⟨rfl, hrest⟩ := List.cons.inj (show x :: rest = D.int (m : Int) :: (Nk r).map D.int from hr)
      have hm := hn m List.mem_cons_self
      refine ⟨encC l, rfl, by rw [enc_len]; have := ok.len; omega, ?_⟩
      rw [pairs_enc]
      refine walk_pass (s := s) (c := c) (f := .dit (encC l)) (m := m) (by omega) (passC l m []) (fun d e g => ?_) l [] d e g ok.2 ⟨List.nodup_nil, fun t ht => by cases ht⟩ rfl
      exact ih _ ⟨r, passC l m [], _, _, _, _, _, hrest, rfl, hw, Okc.pass l [] ok ⟨List.nodup_nil, fun t ht => by cases ht⟩, fun n h => hn n (List.mem_cons_of_mem _ h)⟩
  · rintro env ⟨r, l, a, b, d, e, g, hr, rfl, hw, ok, hn⟩
    have nil : r = [] := by
      cases r with
      | nil => rfl
      | cons m r => cases hr
    subst nil
    have hw : l = walkC c.reverse [(s, 1)] := hw
    refine ⟨encC l, rfl, Nat.zero_le _, Nk [], rfl, ?_⟩
    rw [get_enc, hw, walkC_num]
    exact q
  · have := mem_sum (List.mem_reverse.mp hn)
    have := hs.2.2
    omega
theorem len_number_of (ds : List D) (Q : D → Prop) (Ex : Xc → Prop) (h : F_number_of ds Q Ex) : ds.length = 2 := by
  obtain ⟨s, c, rfl, _⟩ := h
  rfl
theorem pure_count_fillings (ds : List D) (Q : D → Prop) (Ex : Xc → Prop) (h : F_count_fillings ds Q Ex) : w_count_fillings (dEnds Q Ex) (startE N_count_fillings ds) := by
  obtain ⟨s, c, rfl, hs, hl, hc, q⟩ := h
  refine ⟨s, rfl, hs, c, rfl, hl, fun n hn => ?_, ?_⟩
  · have := mem_sum hn
    have := hs.2.2
    omega
  refine ⟨Nk c, rfl, Nk s, rfl, rfl, ?_⟩
  refine br_tt ?_ ⟨s, c, rfl, hs, hl, hc, q⟩
  show decide ((Nk c).sum = (Nk s).sum) = true
  rw [Nk_sum, Nk_sum, hc]
  exact decide_eq_true rfl
theorem len_count_fillings (ds : List D) (Q : D → Prop) (Ex : Xc → Prop) (h : F_count_fillings ds Q Ex) : ds.length = 2 := by
  obtain ⟨s, c, rfl, _⟩ := h
  rfl
end Pr

namespace Pr
open PySem PySem.Spec PyProof.Rows L2 LamX Pd
theorem perm_map {α β : Type} {f : α → β} {xs ys : List β} (h : xs.Perm ys) : ∀ l : List α, xs = l.map f → ∃ d : List α, d.Perm l ∧ ys = d.map f := by
  induction h with
  | nil => exact fun l e => ⟨l, List.Perm.refl _, e⟩
  | cons x _ ih =>
    intro l e
    cases l with
    | nil => cases e
    | cons a l =>
      obtain ⟨rfl, e2⟩ := List.cons.inj e
      obtain ⟨d, h1, h2⟩ := ih l e2
      exact ⟨a :: d, h1.cons a, by rw [h2]; rfl⟩
  | swap x y l0 =>
    intro l e
    match l, e with
    | a :: b :: l, e =>
      obtain ⟨rfl, e2⟩ := List.cons.inj e
      obtain ⟨rfl, e3⟩ := List.cons.inj e2
      exact ⟨b :: a :: l, List.Perm.swap _ _ _, by rw [e3]; rfl⟩
  | trans _ _ h1 h2 =>
    intro l e
    obtain ⟨d, p1, e1⟩ := h1 l e
    obtain ⟨d2, p2, e2⟩ := h2 d e1
    exact ⟨d2, p2.trans p1, e2⟩
theorem set_two : ∀ (c : List Nat) (i j : Nat), i < c.length → j < c.length → i ≠ j → ∃ rest : List Nat, ∀ a b : Nat, ((c.set i a).set j b).Perm (a :: b :: rest)
  | x :: c, 0, 0, _, _, h => absurd rfl h
  | x :: c, 0, j + 1, _, hj, _ => ⟨c.eraseIdx j, fun a b => (one c j (by simpa using hj) b).cons a⟩
  | x :: c, i + 1, 0, hi, _, _ => ⟨c.eraseIdx i, fun a b => ((one c i (by simpa using hi) a).cons b).trans (List.Perm.swap _ _ _)⟩
  | x :: c, i + 1, j + 1, hi, hj, h => by
    obtain ⟨rest, hr⟩ := set_two c i j (by simpa using hi) (by simpa using hj) fun z => h (by rw [z])
    exact ⟨x :: rest, fun a b => ((hr a b).cons x).trans ((List.Perm.swap a x _).trans ((List.Perm.swap b x _).cons a))⟩
where
  one : ∀ (c : List Nat) (i : Nat), i < c.length → ∀ a : Nat, (c.set i a).Perm (a :: c.eraseIdx i)
  | x :: c, 0, _, a => List.Perm.refl _
  | x :: c, i + 1, h, a => ((one c i (by simpa using h) a).cons x).trans (List.Perm.swap _ _ _)
theorem set_self (c : List Nat) (i : Nat) : c.set i (c.getD i 0) = c := by
  refine List.ext_getElem (List.length_set ..) fun k h1 h2 => ?_
  rw [List.getElem_set]
  split
  · rename_i e
    subst e
    rw [List.getD_eq_getElem?_getD, List.getElem?_eq_getElem h2]
    rfl
  · rfl
/-- more even, not fewer -/
theorem num_even {s : List Nat} (h : Small s) {c : List Nat} {i j : Nat} (hi : i < c.length) (hj : j < c.length) (z : c.getD i 0 > c.getD j 0 + 1) : (mvN c i j).sum = c.sum ∧ numR s c.reverse ≤ numR s (mvN c i j).reverse := by
  have ne : i ≠ j := fun e => by
    rw [e] at z
    omega
  obtain ⟨rest, hr⟩ := set_two c i j hi hj ne
  have h1 := hr (c.getD i 0) (c.getD j 0)
  rw [set_self, set_self] at h1
  have h2 : (mvN c i j).Perm _ := hr (c.getD i 0 - 1) (c.getD j 0 + 1)
  refine ⟨?_, ?_⟩
  · rw [sum_perm h1, sum_perm h2, List.sum_cons, List.sum_cons, List.sum_cons, List.sum_cons]
    omega
  · rw [num_perm ((List.reverse_perm c).trans h1) h, num_perm ((List.reverse_perm _).trans h2) h]
    exact num_move h z rest
theorem num_of_perm {s c d : List Nat} (h : Small s) (p : d.Perm c) : numR s d.reverse = numR s c.reverse :=
  num_perm ((List.reverse_perm d).trans (p.trans (List.reverse_perm c).symm)) h
theorem num_back {s : List Nat} (h : Small s) (c : List Nat) : numR s (c ++ [0]).reverse = numR s c.reverse := by
  rw [List.reverse_append]
  exact num_zero h _
theorem num_front {s : List Nat} (h : Small s) (c : List Nat) : numR s (0 :: c).reverse = numR s c.reverse := by
  rw [num_of_perm h (d := 0 :: c) (c := c ++ [0]) (List.perm_append_comm (l₁ := [0]) (l₂ := c)), num_back h]
theorem ne_int {a b : Nat} {env : PEnv} {Q : D → PEnv → Prop} (e : a = b) (q : Q (.bl false) env) : fNe (.int (a : Int)) (.int (b : Int)) env Q := by
  refine ⟨rfl, ?_⟩
  have : (!eqb (.int (a : Int)) (.int (b : Int))) = false := by
    show (!decide ((a : Int) = (b : Int))) = false
    rw [decide_eq_true (by rw [e])]
    rfl
  rw [this]
  exact q
theorem pure_L_right (ds : List D) (Q : D → Prop) (Ex : Xc → Prop) (h : F_L_right ds Q Ex) : w_L_right (dEnds Q Ex) (startE N_L_right ds) := by
  obtain ⟨p, rfl, q⟩ := h
  refine ⟨p, rfl, fun s hs => ?_⟩
  have ls := small_len hs
  refine ⟨Nk s, rfl, ⟨p, 5, rfl, by decide, by decide, fun r r0 r1 => ?_⟩⟩
  obtain ⟨l, el, l1, l2⟩ : ∃ l : Nat, 1 + r = (l : Int) ∧ 1 ≤ l ∧ l ≤ 5 := ⟨(1 + r).toNat, by omega, by omega, by omega⟩
  rw [Nk_sum]
  refine ⟨p, s.sum, l, congrArg (fun z => [D.box p, D.int (s.sum : Int), D.int z]) el, hs.2.2, l1, l2, fun c hc hsum => ?_⟩
  have lc : ((Nk c).map D.int).length = c.length := by rw [List.length_map, List.length_map]
  refine ⟨s, c, rfl, hs, by omega, hsum, ?_⟩
  refine ⟨p, shD c, (Nk c).map D.int, rfl, rfl, by omega, fun ys hy => ?_⟩
  obtain ⟨d, hd, rfl⟩ := perm_map (f := fun n : Nat => D.int (n : Int)) hy.symm c (by rw [List.map_map]; rfl)
  have ed : D.tup (d.map fun n : Nat => D.int (n : Int)) = shD d := by
    show _ = D.tup ((Nk d).map D.int)
    rw [List.map_map]
    rfl
  have hdl := hd.length_eq
  have hds := sum_perm hd
  refine ⟨s, d, by rw [ed], hs, by omega, by omega, ?_⟩
  have t1 : ∀ {a b : Nat} {X Y : Prop}, a = b → Y → br (!eqb (.int (a : Int)) (.int (b : Int))) X Y := fun e y => by
    refine br_ff ?_ y
    show (!decide _) = false
    rw [decide_eq_true (by rw [e])]
    rfl
  refine ⟨rfl, t1 (num_of_perm hs hd) ?_⟩
  refine ⟨c, s, rfl, hs, hc ▸ l2, hsum, ⟨rfl, ?_⟩⟩
  refine br_ff ?_ ?_
  · show (!decide (decide ((numR s c.reverse : Int) > 0) = decide (0 < numR s c.reverse))) = false
    rw [decide_eq_true (decide_eq_decide.mpr (by omega))]
    rfl
  have t2 : ∀ {a b : Nat} {env : PEnv} {Q : Bool → PEnv → Prop}, a = b → Q false env → (plain 60 (.int (a : Int)) && plain 60 (.int (b : Int))) = true ∧ Q (!eqb (.int (a : Int)) (.int (b : Int))) env := fun {a b env Q} e y => by
    refine ⟨rfl, ?_⟩
    have : (!eqb (.int (a : Int)) (.int (b : Int))) = false := by
      show (!decide _) = false
      rw [decide_eq_true (by rw [e])]
      rfl
    rw [this]
    exact y
  have l0 : ((Nk c).map D.int).length + 1 ≤ 1000000 := by omega
  have l0' : 1 + ((Nk c).map D.int).length ≤ 1000000 := by omega
  refine ⟨Nat.le_of_ble_eq_true rfl, l0, s, c ++ [0], congrArg (fun z => [shD s, D.tup z]) (Nk_snoc c 0).symm, hs, by rw [List.length_append]; show c.length + 1 ≤ 8; omega, by rw [List.sum_append]; exact hsum, ⟨rfl, t1 (num_back hs c) ?_⟩⟩
  refine ⟨Nat.le_of_ble_eq_true rfl, l0', s, 0 :: c, rfl, hs, by rw [List.length_cons]; omega, by rw [List.sum_cons]; omega, ⟨rfl, br_ff ?_ ?_⟩⟩
  · show (!decide _) = false
    rw [decide_eq_true (by rw [num_front hs c])]
    rfl
  refine ⟨by omega, by omega, ?_⟩
  refine forW_ind (fun rest env => ∃ (i : Int) (j1 j2 : Option Sl), 0 ≤ i ∧ i ≤ (((Nk c).map D.int).length : Int) ∧ rest = Pd.upTo i (((Nk c).map D.int).length : Int) ∧ env = [some (.d (.box p)), some (.d (shD s)), some (.d (shD c)), some (.d (.int (numR s c.reverse : Int))), j1, j2]) ?_ ?_ _ _ ⟨0, none, none, Int.le_refl _, by omega, rfl, rfl⟩
  · rintro x rest env ⟨i, j1, j2, i0, im, er, rfl⟩ ih
    by_cases hlt : i < (((Nk c).map D.int).length : Int)
    · rw [upTo_cons hlt] at er
      obtain ⟨rfl, rfl⟩ := List.cons.inj er
      obtain ⟨a, rfl⟩ : ∃ a : Nat, i = (a : Int) := ⟨i.toNat, by omega⟩
      have ha : a < c.length := by omega
      refine ⟨by omega, by omega, ?_⟩
      refine forW_ind (fun rest env => ∃ (i : Int) (j2 : Option Sl), 0 ≤ i ∧ i ≤ (((Nk c).map D.int).length : Int) ∧ rest = Pd.upTo i (((Nk c).map D.int).length : Int) ∧ env = [some (.d (.box p)), some (.d (shD s)), some (.d (shD c)), some (.d (.int (numR s c.reverse : Int))), some (.d (.int (a : Int))), j2]) ?_ ?_ _ _ ⟨0, j2, Int.le_refl _, by omega, rfl, rfl⟩
      · rintro x rest env ⟨i, j2, i0, im, er, rfl⟩ ih2
        by_cases hlt : i < (((Nk c).map D.int).length : Int)
        · rw [upTo_cons hlt] at er
          obtain ⟨rfl, rfl⟩ := List.cons.inj er
          obtain ⟨b, rfl⟩ : ∃ b : Nat, i = (b : Int) := ⟨i.toNat, by omega⟩
          have hb : b < c.length := by omega
          refine ⟨_, Nk_idx ha, _, Nk_idx hb, br_of (fun h => ?_) (fun h => ?_)⟩
          · have h : c.getD a 0 > c.getD b 0 + 1 := by
              have := of_decide_eq_true (show decide ((c.getD a 0 : Int) > (c.getD b 0 : Int) + 1) = true from h)
              omega
            have ne : a ≠ b := fun z => by
              rw [z] at h
              omega
            obtain ⟨g1, g2⟩ := num_even hs ha hb h
            refine ⟨c, a, b, rfl, ha, hb, ne, by omega, by omega, s, mvN c a b, rfl, hs, by rw [mvN_len]; omega, by omega, br_ff ?_ ?_⟩
            · show decide ((numR s (mvN c a b).reverse : Int) < (numR s c.reverse : Int)) = false
              exact decide_eq_false (by omega)
            · exact ih2 _ ⟨b + 1, _, by omega, by omega, rfl, rfl⟩
          · refine br_ff rfl ?_
            exact ih2 _ ⟨b + 1, _, by omega, by omega, rfl, rfl⟩
        · rw [upTo_nil (by omega)] at er
          cases er
      · rintro env ⟨i, j2, i0, im, er, rfl⟩
        exact ih _ ⟨a + 1, _, _, by omega, by omega, rfl, rfl⟩
    · rw [upTo_nil (by omega)] at er
      cases er
  · rintro env ⟨i, j1, j2, i0, im, er, rfl⟩
    refine br_of (fun h => q) (fun h => ?_)
    have lsn : ((Nk s).map D.int).length = s.length := by rw [List.length_map, List.length_map]
    have h : s.length ≤ 8 := by
      have := of_decide_eq_false (show decide ((((Nk s).map D.int).length : Int) > 8) = false from h)
      omega
    refine ⟨s, s, rfl, hs, h, rfl, ⟨rfl, ?_⟩⟩
    rw [num_self hs]
    exact q
theorem len_L_right (ds : List D) (Q : D → Prop) (Ex : Xc → Prop) (h : F_L_right ds Q Ex) : ds.length = 1 := by
  obtain ⟨p, rfl, q⟩ := h
  rfl
end Pr

namespace Pr
open PySem PySem.Spec PyProof.Rows L2 LamX Pd
theorem small21 : Small [2, 1] := ⟨by decide, by decide, by decide⟩
theorem pure_law (ds : List D) (Q : D → Prop) (Ex : Xc → Prop) (h : F_law ds Q Ex) : w_law (dEnds Q Ex) (startE N_law ds) := by
  obtain ⟨ns, rfl, hl, q⟩ := h
  have hm : ∃ m : Int, m = (if (if (ns.length : Int) < 5 then (ns.length : Int) else 5) > 1 then (if (ns.length : Int) < 5 then (ns.length : Int) else 5) else 1) ∧ 0 ≤ m ∧ m ≤ 5 := ⟨_, rfl, by split <;> split <;> omega, by split <;> split <;> omega⟩
  obtain ⟨m, em, m0, m1⟩ := hm
  refine ⟨?_, ?_, ?_⟩
  · show (if (if (ns.length : Int) < 5 then (ns.length : Int) else 5) > 1 then (if (ns.length : Int) < 5 then (ns.length : Int) else 5) else 1) ≤ 1000000
    omega
  · show -1000000 ≤ (if (if (ns.length : Int) < 5 then (ns.length : Int) else 5) > 1 then (if (ns.length : Int) < 5 then (ns.length : Int) else 5) else 1)
    omega
  show forW _ _ _ (Pd.upTo 0 (if (if (ns.length : Int) < 5 then (ns.length : Int) else 5) > 1 then (if (ns.length : Int) < 5 then (ns.length : Int) else 5) else 1)) _
  rw [← em]
  refine forW_ind (fun rest env => ∃ (i : Int) (j1 j2 : Option Sl), 0 ≤ i ∧ i ≤ m ∧ rest = Pd.upTo i m ∧ env = [some (.d (.scr ns)), j1, none, j2]) ?_ ?_ _ _ ⟨0, none, none, Int.le_refl _, m0, rfl, rfl⟩
  · rintro x rest env ⟨i, j1, j2, i0, im, er, rfl⟩ ih
    by_cases hlt : i < m
    · rw [upTo_cons hlt] at er
      obtain ⟨rfl, rfl⟩ := List.cons.inj er
      refine ⟨ns, i, rfl, i0, by omega, by omega, fun p => ?_⟩
      refine ⟨p, rfl, br_ff rfl ⟨p, rfl, br_ff rfl ?_⟩⟩
      dsimp only [sNil]
      exact ih _ ⟨i + 1, _, _, by omega, by omega, rfl, rfl⟩
    · rw [upTo_nil (by omega)] at er
      cases er
  · rintro env ⟨i, j1, j2, i0, im, er, rfl⟩
    refine ⟨Nat.le_of_ble_eq_true rfl, Nat.le_of_ble_eq_true rfl, [2, 1], [1, 1, 1], rfl, small21, by decide, rfl, ?_⟩
    refine ⟨Nat.le_of_ble_eq_true rfl, Nat.le_of_ble_eq_true rfl, [2, 1], [2, 1], rfl, small21, by decide, rfl, ?_⟩
    refine ⟨Nat.le_of_ble_eq_true rfl, Nat.le_of_ble_eq_true rfl, [2, 1], [3], rfl, small21, by decide, rfl, ?_⟩
    have e1 : numR [2, 1] [1, 1, 1].reverse = 2 := by decide +kernel
    have e2 : numR [2, 1] [2, 1].reverse = 1 := by decide +kernel
    have e3 : numR [2, 1] [3].reverse = 0 := by decide +kernel
    rw [e1, e2, e3]
    exact ⟨Nat.le_of_ble_eq_true rfl, Nat.le_of_ble_eq_true rfl, rfl, q⟩
theorem len_law (ds : List D) (Q : D → Prop) (Ex : Xc → Prop) (h : F_law ds Q Ex) : ds.length = 1 := by
  obtain ⟨ns, rfl, _⟩ := h
  rfl
theorem law_true (ns : List Int) (h : ns.length ≤ 63) : F_law [.scr ns] (fun v => v = .bl true) (fun _ => False) := ⟨ns, rfl, h, rfl⟩
end Pr

namespace Pr
open PySem PySem.Spec PyProof.Rows L2 LamX Pd Hd
structure Fx (P : Program) (w : World) (K : PySem.W.Frag) (mg : Str → Option Value) (base : Heap) (T : List (Addr × Str)) : Prop where
  d_L_heap : HasD K mg "_law_heap" s_L_heap
  d_is_integer : HasD K mg "is_integer" s_is_integer
  d_is_from : HasD K mg "is_from" s_is_from
  d_is_shape : HasD K mg "is_shape" s_is_shape
  d_require_shape : HasD K mg "require_shape" s_require_shape
  d_require_counts : HasD K mg "require_counts" s_require_counts
  d_without_strip : HasD K mg "without_strip" s_without_strip
  d_number_of : HasD K mg "number_of" s_number_of
  d_count_fillings : HasD K mg "count_fillings" s_count_fillings
  d_L_less : HasD K mg "_law_less" s_L_less
  d_L_shape : HasD K mg "_law_shape" s_L_shape
  d_L_counts : HasD K mg "_law_counts" s_L_counts
  d_L_under : HasD K mg "_law_under" s_L_under
  d_L_order : HasD K mg "_law_order" s_L_order
  d_L_moved : HasD K mg "_law_moved" s_L_moved
  d_L_right : HasD K mg "_law_right" s_L_right
  d_law : HasD K mg "law" s_law
  xc_InvalidFilling : ExcC K mg "InvalidFilling"
  xc_InvalidSums : ExcC K mg "InvalidSums"
  b_abs : mg "abs" = none
  b_all : mg "all" = none
  b_bool : mg "bool" = none
  b_enumerate : mg "enumerate" = none
  b_int : mg "int" = none
  b_isinstance : mg "isinstance" = none
  b_len : mg "len" = none
  b_list : mg "list" = none
  b_max : mg "max" = none
  b_min : mg "min" = none
  b_range : mg "range" = none
  b_sorted : mg "sorted" = none
  b_sum : mg "sum" = none
  b_tuple : mg "tuple" = none
  c_MAX_CELLS : ∃ t, mg "MAX_CELLS" = some (.int 42 t)
  c_MAX_ENTRIES : ∃ t, mg "MAX_ENTRIES" = some (.int 8 t)
section
variable {P : Program} {w : World} {K : PySem.W.Frag} {mg : Str → Option Value} {base : Heap} {T : List (Addr × Str)}
theorem ok_L_heap (fx : Fx P w K mg base T) : DefOk P w K mg base T "_law_heap" 1 ["_law_script", "_law_at"] F_L_heap :=
  def_okX (st := s_L_heap) (N := N_L_heap) (k := 0) fx.d_L_heap ⟨rfl, rfl, rfl, by decide +kernel, rfl, by decide +kernel, by decide +kernel⟩ (fun f fd D => D.bindsN fun _ _ _ _ _ _ us hl => match us, hl with | [_, _], _ => rfl) len_L_heap
    fun cdv A outer s H E f B tk => ⟨w_L_heap, (jss_cons (js_set 2 B (je_if (jt_cmp opD_lt (je_var 1) (je_b1 (cb_len) fx.b_len (by decide +kernel) (je_b (je_var 0))) rfl) (jx_ix (je_var 0) (je_var 1) fun _ _ => rfl) (jx_bin as_add opD_add (jx_bin as_mul opD_mul je_int (je_var 1)) je_int))) (jss_cons (js_set 3 B (jx_bin as_mod opD_mod (je_t1 cb_int fx.b_int (by decide +kernel) (je_b (je_bN cn_abs fx.b_abs (by decide +kernel) (ja_cons (je_var 2) ja_nil)))) (jx_bin as_pow opD_pow (jx_bin as_pow opD_pow je_int je_int) je_int))) (jss_cons (js_set 4 B (jx_bin as_mod opD_mod (je_t1 cb_int fx.b_int (by decide +kernel) (je_b (jx_bin as_add opD_add (jx_bin as_add opD_add (jx_bin as_add opD_add (jx_bin as_mul opD_mul (jx_bin as_mod opD_mod (je_var 3) je_int) je_int) (jx_bin as_mul opD_mul je_int (je_var 1))) (jx_bin as_mul opD_mul je_int (je_t1 cb_int fx.b_int (by decide +kernel) (je_b (je_cmp opD_lt (je_var 2) je_int rfl))))) je_int))) je_int)) (jss_one (js_ret (je_box (jf_lst (ja_cons (je_bN (cn_max2 B.calm) fx.b_max (by decide +kernel) (ja_cons je_int (ja_cons (je_bin opD_sub (je_var 3) (jx_bin as_pow opD_pow je_int je_int)) ja_nil))) (ja_cons (je_var 4) (ja_cons je_int ja_nil)))))))))), pure_L_heap⟩
theorem ok_is_integer (fx : Fx P w K mg base T) : DefOk P w K mg base T "is_integer" 1 ["value"] F_is_integer :=
  def_okX (st := s_is_integer) (N := N_is_integer) (k := 0) fx.d_is_integer ⟨rfl, rfl, rfl, by decide +kernel, rfl, by decide +kernel, by decide +kernel⟩ (fun f fd D => D.bindsN fun _ _ _ _ _ _ us hl => match us, hl with | [_], _ => rfl) len_is_integer
    fun cdv A outer s H E f B tk => ⟨w_is_integer, (jss_one (js_ret (je_and (je_isi isT_int fx.b_isinstance fx.b_int (by decide +kernel) (je_var 0)) (je_one (je_not (je_isi isT_bool fx.b_isinstance fx.b_bool (by decide +kernel) (je_var 0))))))), pure_is_integer⟩
theorem ok_is_from (fx : Fx P w K mg base T) : DefOk P w K mg base T "is_from" 2 ["value", "first", "last"] F_is_from :=
  def_okX (st := s_is_from) (N := N_is_from) (k := 1) fx.d_is_from ⟨rfl, rfl, rfl, by decide +kernel, rfl, by decide +kernel, by decide +kernel⟩ (fun f fd D => D.bindsN fun _ _ _ _ _ _ us hl => match us, hl with | [_, _, _], _ => rfl) len_is_from
    fun cdv A outer s H E f B tk => ⟨w_is_from, (jss_one (js_ret (je_and (je_call B (ok_is_integer fx) (ja_cons (je_var 0) ja_nil)) (je_one (je_chain opD_le opD_le (je_var 1) (je_var 0) (je_var 2)))))), pure_is_from⟩
theorem ok_is_shape (fx : Fx P w K mg base T) : DefOk P w K mg base T "is_shape" 3 ["value"] F_is_shape :=
  def_okX (st := s_is_shape) (N := N_is_shape) (k := 2) fx.d_is_shape ⟨rfl, rfl, rfl, by decide +kernel, rfl, by decide +kernel, by decide +kernel⟩ (fun f fd D => D.bindsN fun _ _ _ _ _ _ us hl => match us, hl with | [_], _ => rfl) len_is_shape
    fun cdv A outer s H E f B tk => ⟨w_is_shape, (jss_cons (js_if (jt_bool (jw_or (jt_not (jt_val (je_isi isT_tuple fx.b_isinstance fx.b_tuple (by decide +kernel) (je_var 0)))) (jw_or1 (jt_not (jt_val (jx_b1 as_all (cb_all B.calm) fx.b_all (by decide +kernel) (je_b (jf_e (jf_comp [("row", 1)] B (ji_seq (je_var 0)) (blkOk_by (by kernel_rfl)) (fun s H C cl fp => (jg_name 1 B.nd)) (fun s H C cl fp B => jts_nil) (fun s H C cl fp B => (je_call B (ok_is_from fx) (ja_cons (je_var 1) (ja_cons je_int (ja_cons (je_gint rfl fx.c_MAX_CELLS) ja_nil)))))))))))))) (jss_one (js_ret je_bl)) jss_nil) (jss_one (js_ret (je_and (je_cmp opD_le (jx_b1 as_sum (cb_sum B.calm) fx.b_sum (by decide +kernel) (je_b (je_var 0))) (je_gint rfl fx.c_MAX_CELLS) rfl) (je_one (jx_cmp as_eq (opD_eq B.u64) (jf_e (jf_t1 cf_list fx.b_list (by decide +kernel) (je_b (je_var 0)))) (jf_e (jf_sortedRev B fx.b_sorted (je_b (je_var 0)))) rfl)))))), pure_is_shape⟩
theorem ok_require_shape (fx : Fx P w K mg base T) : DefOk P w K mg base T "require_shape" 4 ["shape"] F_require_shape :=
  def_okX (st := s_require_shape) (N := N_require_shape) (k := 3) fx.d_require_shape ⟨rfl, rfl, rfl, by decide +kernel, rfl, by decide +kernel, by decide +kernel⟩ (fun f fd D => D.bindsN fun _ _ _ _ _ _ us hl => match us, hl with | [_], _ => rfl) len_require_shape
    fun cdv A outer s H E f B tk => ⟨w_require_shape, (jss_one (js_if (jt_not (jt_val (je_call B (ok_is_shape fx) (ja_cons (je_var 0) ja_nil)))) (jss_one (js_raise B tk fx.xc_InvalidFilling)) jss_nil)), pure_require_shape⟩
theorem ok_require_counts (fx : Fx P w K mg base T) : DefOk P w K mg base T "require_counts" 3 ["sums"] F_require_counts :=
  def_okX (st := s_require_counts) (N := N_require_counts) (k := 2) fx.d_require_counts ⟨rfl, rfl, rfl, by decide +kernel, rfl, by decide +kernel, by decide +kernel⟩ (fun f fd D => D.bindsN fun _ _ _ _ _ _ us hl => match us, hl with | [_], _ => rfl) len_require_counts
    fun cdv A outer s H E f B tk => ⟨w_require_counts, (jss_cons (js_if (jt_bool (jw_or (jt_not (jt_val (je_isi isT_tuple fx.b_isinstance fx.b_tuple (by decide +kernel) (je_var 0)))) (jw_or1 (jt_cmp opD_gt (je_b1 (cb_len) fx.b_len (by decide +kernel) (je_b (je_var 0))) (je_gint rfl fx.c_MAX_ENTRIES) rfl)))) (jss_one (js_raise B tk fx.xc_InvalidSums)) jss_nil) (jss_one (js_if (jt_not (jt_val (jx_b1 as_all (cb_all B.calm) fx.b_all (by decide +kernel) (je_b (jf_e (jf_comp [("many", 1)] B (ji_seq (je_var 0)) (blkOk_by (by kernel_rfl)) (fun s H C cl fp => (jg_name 1 B.nd)) (fun s H C cl fp B => jts_nil) (fun s H C cl fp B => (je_call B (ok_is_from fx) (ja_cons (je_var 1) (ja_cons je_int (ja_cons (je_gint rfl fx.c_MAX_CELLS) ja_nil))))))))))) (jss_one (js_raise B tk fx.xc_InvalidSums)) jss_nil))), pure_require_counts⟩
theorem ok_without_strip (fx : Fx P w K mg base T) : DefOk P w K mg base T "without_strip" 1 ["shape", "many"] F_without_strip :=
  def_okX (st := s_without_strip) (N := N_without_strip) (k := 0) fx.d_without_strip ⟨rfl, rfl, rfl, by decide +kernel, rfl, by decide +kernel, by decide +kernel⟩ (fun f fd D => D.bindsN fun _ _ _ _ _ _ us hl => match us, hl with | [_, _], _ => rfl) len_without_strip
    fun cdv A outer s H E f B tk => ⟨w_without_strip, (jss_cons (js_set 2 B (jf_e (jf_lst (ja_cons (je_tup (ja_cons (je_tup ja_nil) (ja_cons (je_var 1) ja_nil))) ja_nil)))) (jss_cons (js_for B (us := [3, 4]) (ji_enum rfl fx.b_enumerate (je_var 0)) (jg_tup B.calm (jgs_cons (jg_name 3 B.nd) (jgs_cons (jg_name 4 B.nd) jgs_nil))) (jss_cons (js_set 5 B (je_if (jt_cmp opD_lt (jx_bin as_add opD_add (je_var 3) je_int) (je_b1 (cb_len) fx.b_len (by decide +kernel) (je_b (je_var 0))) rfl) (jx_ix (je_var 0) (jx_bin as_add opD_add (je_var 3) je_int) fun _ _ => rfl) je_int)) (jss_cons (js_set 6 B (jf_e (jf_listRg B fx.b_list (jr_1 fx.b_range (jx_bin as_add opD_add (je_bin opD_sub (je_var 4) (je_var 5)) je_int))))) (jss_cons (js_setComp2D 7 [("ahead", 11), ("left", 10), ("cells", 8)] [8] B (ji_seq (je_var 2)) (blkOk_by (by kernel_rfl)) (fun s H C cl fp => (jg_tup B.calm (jgs_cons (jg_name 11 B.nd) (jgs_cons (jg_name 10 B.nd) jgs_nil)))) (fun s H C cl fp B => jts_nil) (fun s H C cl fp B => (ji_seq (je_var 6))) (fun s H C cl fp => (jg_name 8 B.nd)) (fun s H C cl fp B => (jts_one (jt_cmp opD_le (je_var 8) (je_var 10) rfl))) (fun s H C cl fp B => (je_tup (ja_cons (je_var 11) (ja_cons (je_var 10) (ja_cons (je_var 8) ja_nil))))) (sw_true rfl rfl rfl (by kernel_rfl))) (jss_one (js_setCompD 2 [("ahead", 11), ("left", 10), ("cells", 8)] B (ji_seq (je_var 7)) (blkOk_by (by kernel_rfl)) (fun s H C cl fp => (jg_tup B.calm (jgs_cons (jg_name 11 B.nd) (jgs_cons (jg_name 10 B.nd) (jgs_cons (jg_name 8 B.nd) jgs_nil))))) (fun s H C cl fp B => jts_nil) (fun s H C cl fp B => (je_tup (ja_cons (je_tup (ja_star (je_b (je_var 11)) (ja_cons (je_bin opD_sub (je_var 4) (je_var 8)) ja_nil))) (ja_cons (je_bin opD_sub (je_var 10) (je_var 8)) ja_nil)))) (sw_true rfl rfl rfl (by kernel_rfl)))))))) (jss_one (js_ret (jf_e (jf_comp [("shorter", 9), ("left", 10)] B (ji_seq (je_var 2)) (blkOk_by (by kernel_rfl)) (fun s H C cl fp => (jg_tup B.calm (jgs_cons (jg_name 9 B.nd) (jgs_cons (jg_name 10 B.nd) jgs_nil)))) (fun s H C cl fp B => (jts_one (jtx_cmp as_eq (opD_eq B.u64) (je_var 10) je_int rfl))) (fun s H C cl fp B => (je_t1 cb_tuple fx.b_tuple (by decide +kernel) (je_b (jf_e (jf_comp [("row", 4)] B (ji_seq (je_var 9)) (blkOk_by (by kernel_rfl)) (fun s H C cl fp => (jg_name 4 B.nd)) (fun s H C cl fp B => (jts_one (jt_cmp opD_gt (je_var 4) je_int rfl))) (fun s H C cl fp B => (je_var 4))))))))))))), pure_without_strip⟩
theorem ok_number_of (fx : Fx P w K mg base T) : DefOk P w K mg base T "number_of" 2 ["shape", "sums"] F_number_of :=
  def_okX (st := s_number_of) (N := N_number_of) (k := 1) fx.d_number_of ⟨rfl, rfl, rfl, by decide +kernel, rfl, by decide +kernel, by decide +kernel⟩ (fun f fd D => D.bindsN fun _ _ _ _ _ _ us hl => match us, hl with | [_, _], _ => rfl) len_number_of
    fun cdv A outer s H E f B tk => ⟨w_number_of, (jss_cons (js_set 2 B (je_ditOne 0 B)) (jss_cons (js_for B (us := [3]) (ji_seq (je_revT (je_var 1))) (jg_name 3 B.nd) (jss_cons (js_newDct 4 B) (jss_cons (js_for B (us := [5, 6]) (ji_pairs (je_var 2)) (jg_tup B.calm (jgs_cons (jg_name 5 B.nd) (jgs_cons (jg_name 6 B.nd) jgs_nil))) (jss_one (js_for B (us := [7]) (ji_seq (je_call B (ok_without_strip fx) (ja_cons (je_var 5) (ja_cons (je_var 3) ja_nil)))) (jg_name 7 B.nd) (jss_one (js_dcuPut 4 B (je_var 7) (jx_bin as_add opD_add (je_dcuGetD 4 B (je_var 7) je_int ⟨rfl, rfl, rfl, rfl⟩) (je_var 6))))))) (jss_one (js_set 2 B (je_frzT 4)))))) (jss_one (js_ret (je_ditGetD B (je_var 2) (je_tup ja_nil) je_int ⟨rfl, rfl, rfl, rfl⟩))))), pure_number_of⟩
theorem ok_count_fillings (fx : Fx P w K mg base T) : DefOk P w K mg base T "count_fillings" 5 ["shape", "sums"] F_count_fillings :=
  def_okX (st := s_count_fillings) (N := N_count_fillings) (k := 4) fx.d_count_fillings ⟨rfl, rfl, rfl, by decide +kernel, rfl, by decide +kernel, by decide +kernel⟩ (fun f fd D => D.bindsN fun _ _ _ _ _ _ us hl => match us, hl with | [_, _], _ => rfl) len_count_fillings
    fun cdv A outer s H E f B tk => ⟨w_count_fillings, (jss_cons (js_expr (je_call B (ok_require_shape fx) (ja_cons (je_var 0) ja_nil))) (jss_cons (js_expr (je_call B (ok_require_counts fx) (ja_cons (je_var 1) ja_nil))) (jss_one (js_ret (je_if (jtx_cmp as_eq (opD_eq B.u64) (jx_b1 as_sum (cb_sum B.calm) fx.b_sum (by decide +kernel) (je_b (je_var 1))) (jx_b1 as_sum (cb_sum B.calm) fx.b_sum (by decide +kernel) (je_b (je_var 0))) rfl) (je_call B (ok_number_of fx) (ja_cons (je_var 0) (ja_cons (je_var 1) ja_nil))) je_int))))), pure_count_fillings⟩
theorem ok_L_less (fx : Fx P w K mg base T) : DefOk P w K mg base T "_law_less" 1 ["_law_heap_here", "_law_size"] F_L_less :=
  def_okX (st := s_L_less) (N := N_L_less) (k := 0) fx.d_L_less ⟨rfl, rfl, rfl, by decide +kernel, rfl, by decide +kernel, by decide +kernel⟩ (fun f fd D => D.bindsN fun _ _ _ _ _ _ us hl => match us, hl with | [_, _], _ => rfl) len_L_less
    fun cdv A outer s H E f B tk => ⟨w_L_less, (jss_cons (js_if (jt_cmp opD_gt (je_boxGet (je_var 0) je_int fun _ _ => rfl) je_int rfl) (jss_cons (js_set 4 B (jx_bin as_mod opD_mod (je_t1 cb_int fx.b_int (by decide +kernel) (je_b (je_boxGet (je_var 0) je_int fun _ _ => rfl))) (je_var 1))) (jss_cons (js_boxSet 0 (jx_bin as_div opD_div (je_boxGet (je_var 0) je_int fun _ _ => rfl) (je_var 1))) (jss_one (js_ret (je_var 4))))) jss_nil) (jss_cons (js_boxSet 0 (jx_bin as_add opD_add (je_boxGet (je_var 0) je_int fun _ _ => rfl) je_int)) (jss_cons (js_set 2 B (jx_bin as_mod opD_mod (je_t1 cb_int fx.b_int (by decide +kernel) (je_b (jx_bin as_add opD_add (je_boxGet (je_var 0) je_int fun _ _ => rfl) (jx_bin as_mul opD_mul je_int (je_boxGet (je_var 0) je_int fun _ _ => rfl))))) je_int)) (jss_cons (js_set 3 B (jx_bin as_add opD_add (jx_bin as_mul opD_mul (jx_bin as_mod opD_mod (je_t1 cb_int fx.b_int (by decide +kernel) (je_b (jx_bin as_mul opD_mul (je_var 2) (je_var 2)))) je_int) (je_var 2)) (jx_bin as_mul opD_mul je_int (je_boxGet (je_var 0) je_int fun _ _ => rfl)))) (jss_one (js_ret (jx_bin as_mod opD_mod (je_t1 cb_int fx.b_int (by decide +kernel) (je_b (jx_bin as_div opD_div (jx_bin as_mod opD_mod (je_t1 cb_int fx.b_int (by decide +kernel) (je_b (je_var 3))) je_int) je_int))) (je_var 1)))))))), pure_L_less⟩
theorem ok_L_shape (fx : Fx P w K mg base T) : DefOk P w K mg base T "_law_shape" 2 ["_law_heap_here", "_law_most"] F_L_shape :=
  def_okX (st := s_L_shape) (N := N_L_shape) (k := 1) fx.d_L_shape ⟨rfl, rfl, rfl, by decide +kernel, rfl, by decide +kernel, by decide +kernel⟩ (fun f fd D => D.bindsN fun _ _ _ _ _ _ us hl => match us, hl with | [_, _], _ => rfl) len_L_shape
    fun cdv A outer s H E f B tk => ⟨w_L_shape, (jss_cons (js_parM3 2 3 4 B (jm_e (je_call B (ok_L_less fx) (ja_cons (je_var 0) (ja_cons (jx_bin as_add opD_add (je_var 1) je_int) ja_nil))) (jm_e (je_var 1) (jm_f (jf_lst ja_nil) jm_nil)))) (jss_cons (js_while B (jt_cmp opD_gt (je_var 2) je_int rfl) (jss_cons (js_set 5 B (jx_bin as_add opD_add je_int (je_call B (ok_L_less fx) (ja_cons (je_var 0) (ja_cons (je_bN (cn_min2 B.calm) fx.b_min (by decide +kernel) (ja_cons (je_var 2) (ja_cons (je_var 3) ja_nil))) ja_nil))))) (jss_cons (js_expr (je_append 4 (je_var 5))) (jss_one (js_parM2 2 3 B (jm_e (je_bin opD_sub (je_var 2) (je_var 5)) (jm_e (je_var 5) jm_nil))))))) (jss_one (js_ret (je_t1 cb_tuple fx.b_tuple (by decide +kernel) (jb_own 4)))))), pure_L_shape⟩
theorem ok_L_counts (fx : Fx P w K mg base T) : DefOk P w K mg base T "_law_counts" 2 ["_law_heap_here", "_law_total", "_law_lots"] F_L_counts :=
  def_okX (st := s_L_counts) (N := N_L_counts) (k := 1) fx.d_L_counts ⟨rfl, rfl, rfl, by decide +kernel, rfl, by decide +kernel, by decide +kernel⟩ (fun f fd D => D.bindsN fun _ _ _ _ _ _ us hl => match us, hl with | [_, _, _], _ => rfl) len_L_counts
    fun cdv A outer s H E f B tk => ⟨w_L_counts, (jss_cons (js_setOwn 3 B (jf_rep (jf_e (jf_lst (ja_cons je_int ja_nil))) (je_var 2))) (jss_cons (js_for B (us := [4]) (ji_range1 rfl fx.b_range (je_var 1)) (jg_name 4 B.nd) (jss_cons (js_set 5 B (je_call B (ok_L_less fx) (ja_cons (je_var 0) (ja_cons (je_var 2) ja_nil)))) (jss_one (js_setIx 3 (je_var 5) (jx_bin as_add opD_add (je_ixOwn 3 (je_var 5) fun _ _ => rfl) je_int))))) (jss_one (js_ret (je_t1 cb_tuple fx.b_tuple (by decide +kernel) (jb_own 3)))))), pure_L_counts⟩
theorem ok_L_under (fx : Fx P w K mg base T) : DefOk P w K mg base T "_law_under" 1 ["_law_one", "_law_other"] F_L_under :=
  def_okX (st := s_L_under) (N := N_L_under) (k := 0) fx.d_L_under ⟨rfl, rfl, rfl, by decide +kernel, rfl, by decide +kernel, by decide +kernel⟩ (fun f fd D => D.bindsN fun _ _ _ _ _ _ us hl => match us, hl with | [_, _], _ => rfl) len_L_under
    fun cdv A outer s H E f B tk => ⟨w_L_under, (jss_cons (js_set 2 B (je_bN (cn_max2 B.calm) fx.b_max (by decide +kernel) (ja_cons (je_b1 (cb_len) fx.b_len (by decide +kernel) (je_b (je_var 0))) (ja_cons (je_b1 (cb_len) fx.b_len (by decide +kernel) (je_b (je_var 1))) ja_nil)))) (jss_cons (js_set 3 B (jf_e (jf_rev (je_b (jf_e (jf_sorted B fx.b_sorted (je_b (jx_bin as_add opD_add (jf_e (jf_t1 cf_list fx.b_list (by decide +kernel) (je_b (je_var 0)))) (jx_bin as_mul opD_mul (jf_e (jf_lst (ja_cons je_int ja_nil))) (je_bin opD_sub (je_var 2) (je_b1 (cb_len) fx.b_len (by decide +kernel) (je_b (je_var 0))))))))))))) (jss_cons (js_set 4 B (jf_e (jf_rev (je_b (jf_e (jf_sorted B fx.b_sorted (je_b (jx_bin as_add opD_add (jf_e (jf_t1 cf_list fx.b_list (by decide +kernel) (je_b (je_var 1)))) (jx_bin as_mul opD_mul (jf_e (jf_lst (ja_cons je_int ja_nil))) (je_bin opD_sub (je_var 2) (je_b1 (cb_len) fx.b_len (by decide +kernel) (je_b (je_var 1))))))))))))) (jss_one (js_ret (je_and (jx_cmp as_eq (opD_eq B.u64) (jx_b1 as_sum (cb_sum B.calm) fx.b_sum (by decide +kernel) (je_b (je_var 3))) (jx_b1 as_sum (cb_sum B.calm) fx.b_sum (by decide +kernel) (je_b (je_var 4))) rfl) (je_one (jx_cmp as_eq (opD_eq B.u64) (jf_e (jf_comp [("_law_at", 5)] B (ji_range1 rfl fx.b_range (je_var 2)) (blkOk_by (by kernel_rfl)) (fun s H C cl fp => (jg_name 5 B.nd)) (fun s H C cl fp B => (jts_one (jt_cmp opD_gt (jx_b1 as_sum (cb_sum B.calm) fx.b_sum (by decide +kernel) (je_b (je_slice (je_var 3) jo_none (jo_some (je_var 5))))) (jx_b1 as_sum (cb_sum B.calm) fx.b_sum (by decide +kernel) (je_b (je_slice (je_var 4) jo_none (jo_some (je_var 5))))) rfl))) (fun s H C cl fp B => (je_var 5)))) (jf_e (jf_lst ja_nil)) rfl)))))))), pure_L_under⟩
theorem ok_L_order (fx : Fx P w K mg base T) : DefOk P w K mg base T "_law_order" 2 ["_law_heap_here", "_law_items"] F_L_order :=
  def_okX (st := s_L_order) (N := N_L_order) (k := 1) fx.d_L_order ⟨rfl, rfl, rfl, by decide +kernel, rfl, by decide +kernel, by decide +kernel⟩ (fun f fd D => D.bindsN fun _ _ _ _ _ _ us hl => match us, hl with | [_, _], _ => rfl) len_L_order
    fun cdv A outer s H E f B tk => ⟨w_L_order, (jss_cons (js_parM2 3 4 B (jm_f (jf_t1 cf_list fx.b_list (by decide +kernel) (je_b (je_var 1))) (jm_f (jf_lst ja_nil) jm_nil))) (jss_cons (js_for B (us := [2]) (ji_range1 rfl fx.b_range (je_b1 (cb_len) fx.b_len (by decide +kernel) (je_b (je_var 1)))) (jg_name 2 B.nd) (jss_one (js_expr (je_append 4 (je_popAt 3 (je_call B (ok_L_less fx) (ja_cons (je_var 0) (ja_cons (je_b1 (cb_len) fx.b_len (by decide +kernel) (jb_own 3)) ja_nil)))))))) (jss_one (js_ret (je_frz 4))))), pure_L_order⟩
theorem ok_L_moved (fx : Fx P w K mg base T) : DefOk P w K mg base T "_law_moved" 1 ["_law_row", "_law_one", "_law_other"] F_L_moved :=
  def_okX (st := s_L_moved) (N := N_L_moved) (k := 0) fx.d_L_moved ⟨rfl, rfl, rfl, by decide +kernel, rfl, by decide +kernel, by decide +kernel⟩ (fun f fd D => D.bindsN fun _ _ _ _ _ _ us hl => match us, hl with | [_, _, _], _ => rfl) len_L_moved
    fun cdv A outer s H E f B tk => ⟨w_L_moved, (jss_one (js_ret (je_t1 cb_tuple fx.b_tuple (by decide +kernel) (je_b (jf_e (jf_comp [("_law_at", 3), ("_law_entry", 4)] B (ji_enum rfl fx.b_enumerate (je_var 0)) (blkOk_by (by kernel_rfl)) (fun s H C cl fp => (jg_tup B.calm (jgs_cons (jg_name 3 B.nd) (jgs_cons (jg_name 4 B.nd) jgs_nil)))) (fun s H C cl fp B => jts_nil) (fun s H C cl fp B => (jx_bin as_add opD_add (je_bin opD_sub (je_var 4) (je_t1 cb_int fx.b_int (by decide +kernel) (je_b (jx_cmp as_eq (opD_eq B.u64) (je_var 3) (je_var 1) rfl)))) (je_t1 cb_int fx.b_int (by decide +kernel) (je_b (jx_cmp as_eq (opD_eq B.u64) (je_var 3) (je_var 2) rfl))))))))))), pure_L_moved⟩
theorem ok_L_right (fx : Fx P w K mg base T) : DefOk P w K mg base T "_law_right" 6 ["_law_heap_here"] F_L_right :=
  def_okX (st := s_L_right) (N := N_L_right) (k := 5) fx.d_L_right ⟨rfl, rfl, rfl, by decide +kernel, rfl, by decide +kernel, by decide +kernel⟩ (fun f fd D => D.bindsN fun _ _ _ _ _ _ us hl => match us, hl with | [_], _ => rfl) len_L_right
    fun cdv A outer s H E f B tk => ⟨w_L_right, (jss_cons (js_set 1 B (je_call B (ok_L_shape fx) (ja_cons (je_var 0) (ja_cons je_int ja_nil)))) (jss_cons (js_set 2 B (je_call B (ok_L_counts fx) (ja_cons (je_var 0) (ja_cons (jx_b1 as_sum (cb_sum B.calm) fx.b_sum (by decide +kernel) (je_b (je_var 1))) (ja_cons (jx_bin as_add opD_add je_int (je_call B (ok_L_less fx) (ja_cons (je_var 0) (ja_cons je_int ja_nil)))) ja_nil))))) (jss_cons (js_set 3 B (je_call B (ok_count_fillings fx) (ja_cons (je_var 1) (ja_cons (je_var 2) ja_nil)))) (jss_cons (js_if (jt_bool (jw_or (jtx_cmp as_ne (opD_ne B.u64) (je_call B (ok_count_fillings fx) (ja_cons (je_var 1) (ja_cons (je_t1 cb_tuple fx.b_tuple (by decide +kernel) (je_b (je_call B (ok_L_order fx) (ja_cons (je_var 0) (ja_cons (je_var 2) ja_nil))))) ja_nil))) (je_var 3) rfl) (jw_or1 (jtx_cmp as_ne (opD_ne B.u64) (je_cmp opD_gt (je_var 3) je_int rfl) (je_call B (ok_L_under fx) (ja_cons (je_var 2) (ja_cons (je_var 1) ja_nil))) rfl)))) (jss_one (js_ret je_bl)) jss_nil) (jss_cons (js_if (jt_bool (jw_or (jtx_cmp as_ne (opD_ne B.u64) (je_call B (ok_count_fillings fx) (ja_cons (je_var 1) (ja_cons (jx_bin as_add opD_add (je_var 2) (je_tup (ja_cons je_int ja_nil))) ja_nil))) (je_var 3) rfl) (jw_or1 (jtx_cmp as_ne (opD_ne B.u64) (je_call B (ok_count_fillings fx) (ja_cons (je_var 1) (ja_cons (jx_bin as_add opD_add (je_tup (ja_cons je_int ja_nil)) (je_var 2)) ja_nil))) (je_var 3) rfl)))) (jss_one (js_ret je_bl)) jss_nil) (jss_cons (js_for B (us := [4]) (ji_range1 rfl fx.b_range (je_b1 (cb_len) fx.b_len (by decide +kernel) (je_b (je_var 2)))) (jg_name 4 B.nd) (jss_one (js_for B (us := [5]) (ji_range1 rfl fx.b_range (je_b1 (cb_len) fx.b_len (by decide +kernel) (je_b (je_var 2)))) (jg_name 5 B.nd) (jss_one (js_if (jt_bool (jw_and (jt_cmp opD_gt (jx_ix (je_var 2) (je_var 4) fun _ _ => rfl) (jx_bin as_add opD_add (jx_ix (je_var 2) (je_var 5) fun _ _ => rfl) je_int) rfl) (jw_and1 (jt_cmp opD_lt (je_call B (ok_count_fillings fx) (ja_cons (je_var 1) (ja_cons (je_call B (ok_L_moved fx) (ja_cons (je_var 2) (ja_cons (je_var 4) (ja_cons (je_var 5) ja_nil)))) ja_nil))) (je_var 3) rfl)))) (jss_one (js_ret je_bl)) jss_nil))))) (jss_one (js_ret (je_or (je_cmp opD_gt (je_b1 (cb_len) fx.b_len (by decide +kernel) (je_b (je_var 1))) je_int rfl) (je_one (jx_cmp as_eq (opD_eq B.u64) (je_call B (ok_count_fillings fx) (ja_cons (je_var 1) (ja_cons (je_var 1) ja_nil))) je_int rfl))))))))))), pure_L_right⟩
theorem ok_law (fx : Fx P w K mg base T) : DefOk P w K mg base T "law" 7 ["_law_script"] F_law :=
  def_okX (st := s_law) (N := N_law) (k := 6) fx.d_law ⟨rfl, rfl, rfl, by decide +kernel, rfl, by decide +kernel, by decide +kernel⟩ (fun f fd D => D.bindsN fun _ _ _ _ _ _ us hl => match us, hl with | [_], _ => rfl) len_law
    fun cdv A outer s H E f B tk => ⟨w_law, (jss_cons (js_for B (us := [1]) (ji_range1 rfl fx.b_range (je_bN (cn_max2 B.calm) fx.b_max (by decide +kernel) (ja_cons je_int (ja_cons (je_bN (cn_min2 B.calm) fx.b_min (by decide +kernel) (ja_cons je_int (ja_cons (je_b1 (cb_len) fx.b_len (by decide +kernel) (je_b (je_var 0))) ja_nil))) ja_nil)))) (jg_name 1 B.nd) (jss_cons (js_set 3 B (je_call B (ok_L_heap fx) (ja_cons (je_var 0) (ja_cons (je_var 1) ja_nil)))) (jss_one (js_if (jt_bool (jw_or (jt_not (jt_val (je_call B (ok_L_right fx) (ja_cons (je_var 3) ja_nil)))) (jw_or1 (jt_not (jt_val (je_call B (ok_L_right fx) (ja_cons (je_var 3) ja_nil))))))) (jss_one (js_ret je_bl)) jss_nil)))) (jss_cons (js_set 2 B (jf_e (jf_lst (ja_cons (je_call B (ok_count_fillings fx) (ja_cons (je_tup (ja_cons je_int (ja_cons je_int ja_nil))) (ja_cons (je_tup (ja_cons je_int (ja_cons je_int (ja_cons je_int ja_nil)))) ja_nil))) (ja_cons (je_call B (ok_count_fillings fx) (ja_cons (je_tup (ja_cons je_int (ja_cons je_int ja_nil))) (ja_cons (je_tup (ja_cons je_int (ja_cons je_int ja_nil))) ja_nil))) (ja_cons (je_call B (ok_count_fillings fx) (ja_cons (je_tup (ja_cons je_int (ja_cons je_int ja_nil))) (ja_cons (je_tup (ja_cons je_int ja_nil)) ja_nil))) ja_nil)))))) (jss_one (js_ret (jx_cmp as_eq (opD_eq B.u64) (je_var 2) (jf_e (jf_lst (ja_cons je_int (ja_cons je_int (ja_cons je_int ja_nil))))) rfl))))), pure_law⟩
end
end Pr

namespace Pr
open PySem PySem.Spec PyProof.Rows L2 LamX Pd Hd
theorem fx_of {w : World} {K : PySem.W.Frag} {h base : Heap} {mg : Str → Option Value} (X : K.In h) (G : h.Ns mainGlobals mg) (c : SaysZ fa fn fb xi tf ex h K) (lt : ∀ y ∈ tf, LamT K mg base (tabT K tf) y) : Fx PySem.Challenge.rw_sumsalone_k74_whole_fillings_and_order.prog w K mg base (tabT K tf) where
  d_L_heap := hasD_of X G c.d 8 8 rfl rfl
  d_is_integer := hasD_of X G c.d 0 0 rfl rfl
  d_is_from := hasD_of X G c.d 1 1 rfl rfl
  d_is_shape := hasD_of X G c.d 2 2 rfl rfl
  d_require_shape := hasD_of X G c.d 3 3 rfl rfl
  d_require_counts := hasD_of X G c.d 6 6 rfl rfl
  d_without_strip := hasD_of X G c.d 4 4 rfl rfl
  d_number_of := hasD_of X G c.d 5 5 rfl rfl
  d_count_fillings := hasD_of X G c.d 7 7 rfl rfl
  d_L_less := hasD_of X G c.d 9 9 rfl rfl
  d_L_shape := hasD_of X G c.d 11 11 rfl rfl
  d_L_counts := hasD_of X G c.d 12 12 rfl rfl
  d_L_under := hasD_of X G c.d 13 13 rfl rfl
  d_L_order := hasD_of X G c.d 10 10 rfl rfl
  d_L_moved := hasD_of X G c.d 14 14 rfl rfl
  d_L_right := hasD_of X G c.d 15 15 rfl rfl
  d_law := hasD_of X G c.d 16 16 rfl rfl
  xc_InvalidFilling := excC_of (c.d.fact 37 (f := .exc "InvalidFilling") rfl) (He.glo_ok X G (c.d.fact 19 (f := .glo "InvalidFilling") rfl))
  xc_InvalidSums := excC_of (c.d.fact 38 (f := .exc "InvalidSums") rfl) (He.glo_ok X G (c.d.fact 18 (f := .glo "InvalidSums") rfl))
  b_abs := He.free_ok X G (c.d.fact 21 (f := .free "abs") rfl)
  b_all := He.free_ok X G (c.d.fact 22 (f := .free "all") rfl)
  b_bool := He.free_ok X G (c.d.fact 23 (f := .free "bool") rfl)
  b_enumerate := He.free_ok X G (c.d.fact 24 (f := .free "enumerate") rfl)
  b_int := He.free_ok X G (c.d.fact 25 (f := .free "int") rfl)
  b_isinstance := He.free_ok X G (c.d.fact 26 (f := .free "isinstance") rfl)
  b_len := He.free_ok X G (c.d.fact 27 (f := .free "len") rfl)
  b_list := He.free_ok X G (c.d.fact 28 (f := .free "list") rfl)
  b_max := He.free_ok X G (c.d.fact 29 (f := .free "max") rfl)
  b_min := He.free_ok X G (c.d.fact 30 (f := .free "min") rfl)
  b_range := He.free_ok X G (c.d.fact 31 (f := .free "range") rfl)
  b_sorted := He.free_ok X G (c.d.fact 32 (f := .free "sorted") rfl)
  b_sum := He.free_ok X G (c.d.fact 33 (f := .free "sum") rfl)
  b_tuple := He.free_ok X G (c.d.fact 34 (f := .free "tuple") rfl)
  c_MAX_CELLS := He.int_ok X G (c.d.fact 35 (f := .int "MAX_CELLS" 42) rfl)
  c_MAX_ENTRIES := He.int_ok X G (c.d.fact 36 (f := .int "MAX_ENTRIES" 8) rfl)
end Pr
namespace Pr
open PySem PySem.Spec PyProof.Rows L2 LamX Pd
theorem defG_of {P : Program} {w : World} {K : PySem.W.Frag} {mg : Str → Option Value} {base : Heap} {T : List (Addr × Str)} {x : Str} {k : Nat} {ps : List Str} {F : Fn} (d : DefOk P w K mg base T x k ps F) : DefG P w K mg base T x k ps F := by
  obtain ⟨f, fd, a, b, c, e⟩ := d.ex
  exact ⟨f, fd, a, b, c, FnG.of e.1, e.2⟩
end Pr
open PySem PySem.W PySem.Calls PyProof.Rows
theorem PySem.Challenge.cw_sumsalone_k74_whole_fillings_and_order_holds : PySem.Challenge.rw_sumsalone_k74_whole_fillings_and_order.Holds := by
  w_on; o_law
  refine HandSHeadRun.head_any (r := OpenLaw.row PySem.Challenge.rw_sumsalone_k74_whole_fillings_and_order) (q := view (OpenLaw.row PySem.Challenge.rw_sumsalone_k74_whole_fillings_and_order).prog [25]) (H := Hd.hk) (ob := Hd.ob) (M := 12000) (loose := Hd.loose) (d := HandSHeadRun.topDef (OpenLaw.row PySem.Challenge.rw_sumsalone_k74_whole_fillings_and_order).prog 25) (kwd := []) Hd.ob_eq
    (by kernel_rfl) (fun s => by kernel_rfl) Hd.run (by kernel_rfl) (by kernel_rfl) (by kernel_rfl) (by rfl) (by first | assumption | decide +kernel) (by decide +kernel) ⟨rfl, rfl, rfl, rfl, rfl, by decide +kernel⟩ ?hw ?hc
  case hw => w_witness2
  case hc =>
    exact Pd.law_endV (l := PySem.Challenge.rw_sumsalone_k74_whole_fillings_and_order) (k := 7) (x := "_law_script") (st := Hd.s_law) (F := Pr.F_law) rfl (by kernel_rfl) ⟨rfl, by decide, by decide⟩ (by kernel_rfl)
      (fun w K mg h base KX G c => ⟨Pd.hasD_of KX G c.d 16 16 rfl rfl, fun lt => Pr.defG_of (Pr.ok_law (Pr.fx_of KX G c lt))⟩)
      (fun K f fd D s u => D.bindsA (ps := ["_law_script"]) (fun _ _ _ _ _ _ us hl => match us, hl with | [_], _ => rfl) s [u] rfl) Pr.law_true

