import PyProof.Rows.All
import Wide.All
import OpenK.AllK
import Wide.FinOn
import HandS.ForMost
import HandS.Exc
import HandS.ExcCtx
import HandS.HotCalls
import HandS.ExcField
import HandS.ExcIs
import HandS.ExcInit
import HandS.TryOnly
import HandS.ExcOwn
import HandS.WordsExc
import HandS.Defaults
import HandS.Head0
import HandS.Head1
import HandS.Head2
import HandS.HeadEnd
import HandS.HeadHook1
import HandS.HeadHook2
import HandS.Wide
import HandS.WideBits
import HandS.IsInst
import PyProof.ReprRoads
import KE.GoesEnum
import HandS.Style
import KE.DataMinMax
import HandS.More
import HandS.TupAny
import HandS.Deep
import HandS.SortInts
import HandS.Conv
import HandS.SetFor
import KE.SortData
import KE.KDictSum
import KE.KDictCopyH
import HandS.SetKeys
import HandS.Sort
import KE.KDictExact
import HandS.Ends
import PyProof.Rows.RegFStrParts
import PyProof.ReprLen
import HandS.Zip
import HandS.NoneIn
import HandS.Strs
import KE.KExcIs
import HandS.Remove
import HandS.SortKw
import HandS.Iter
import HandS.List
import PyProof.Rows.SeqMore
import HandS.TupMul
import KE.GoesMore
import HandS.Flow
import KE.KStateDown
import Lean
import HandS.Base
import HandS.Call
import HandS.Words
import PyProof.P3Eq
import PySem.Challenge.RW_treesapart_k12_no_webs
set_option Elab.async false
set_option linter.all false
set_option maxRecDepth 100000
set_option maxHeartbeats 4000000
/-! M0: heaplets, what a slot holds, the environment. -/
namespace Tsa
open PySem PySem.Spec PyProof.Rows L2

/-! ### heaplets -/
def emp : Hp := fun _ => none
def Sub (a b : Hp) : Prop := ∀ p o, a p = some o → b p = some o
def Dis (a b : Hp) : Prop := ∀ p, a p = none ∨ b p = none
def cup (a b : Hp) : Hp := fun p => match a p with
  | some o => some o
  | none => b p
def sgl (p : Addr) (o : HO) : Hp := fun a => if a = p then some o else none
section
variable {a b c d : Hp} {p q : Addr} {o u : HO}
theorem Sub.refl : Sub a a := fun _ _ h => h
theorem Sub.trans (x : Sub a b) (y : Sub b c) : Sub a c := fun p o h => y p o (x p o h)
theorem Sub.emp : Sub emp a := fun _ _ h => nomatch h
theorem Sub.no (x : Sub a b) (h : b p = none) : a p = none := by
  cases q : a p with
  | none => rfl
  | some o => rw [x p o q] at h; cases h
theorem cup_some (h : a p = some o) : cup a b p = some o := by unfold cup; rw [h]
theorem cup_none (h : a p = none) : cup a b p = b p := by unfold cup; rw [h]
theorem cup_cases (h : cup a b p = some o) : a p = some o ∨ (a p = none ∧ b p = some o) := by
  unfold cup at h
  cases e : a p with
  | some u => rw [e] at h; exact .inl h
  | none => rw [e] at h; exact .inr ⟨rfl, h⟩
theorem Sub.l : Sub a (cup a b) := fun _ _ h => cup_some h
theorem Dis.symm (x : Dis a b) : Dis b a := fun p => (x p).symm
theorem Dis.emp : Dis emp a := fun _ => .inl rfl
theorem Dis.no (x : Dis a b) (h : a p = some o) : b p = none := by
  rcases x p with e | e
  · rw [e] at h; cases h
  · exact e
theorem Dis.mono (x : Dis a b) (s : Sub c a) (t : Sub d b) : Dis c d := fun p => by
  rcases x p with e | e
  · exact .inl (s.no e)
  · exact .inr (t.no e)
theorem Sub.r (x : Dis a b) : Sub b (cup a b) := fun p o h => by
  have e : a p = none := x.symm.no h
  rw [cup_none e]; exact h
theorem Sub.cup (x : Sub a c) (y : Sub b c) : Sub (cup a b) c := fun p o h => by
  rcases cup_cases h with e | ⟨_, e⟩
  · exact x p o e
  · exact y p o e
theorem Sub.cup2 (x : Sub a c) (y : Sub b d) (z : Dis c d) : Sub (Tsa.cup a b) (Tsa.cup c d) := Sub.cup (x.trans .l) (y.trans (.r z))
theorem Dis.cup (x : Dis a c) (y : Dis b c) : Dis (cup a b) c := fun p => by
  rcases x p with e | e
  · rcases y p with e' | e'
    · exact .inl (by rw [cup_none e]; exact e')
    · exact .inr e'
  · exact .inr e
theorem one_same : sgl p o p = some o := by unfold sgl; rw [if_pos rfl]
theorem one_some {u : HO} (h : sgl p o q = some u) : q = p ∧ u = o := by
  unfold sgl at h
  split at h
  · exact ⟨‹_›, (Option.some.inj h).symm⟩
  · cases h
theorem Sub.one (h : a p = some o) : Sub (sgl p o) a := fun q u e => by
  obtain ⟨rfl, rfl⟩ := one_some e
  exact h
theorem Dis.one (h : a p = none) : Dis (sgl p o) a := fun q => by
  by_cases e : q = p
  · subst e; exact .inr h
  · exact .inl (by unfold Tsa.sgl; rw [if_neg e])
theorem one_none {q : Addr} (h : q ≠ p) : sgl p o q = none := by unfold sgl; rw [if_neg h]
end

structure Fits (F h g H : Hp) : Prop where
  fH : Sub F H
  hH : Sub h H
  gH : Sub g H
  fh : Dis F h
  fg : Dis F g
  hg : Dis h g
section
variable {F F' h h' h1 h2 g g' H : Hp} {p : Addr} {o u : HO}
theorem Fits.sub (x : Fits F h g H) (s : Sub h' h) : Fits F h' g H :=
  ⟨x.fH, s.trans x.hH, x.gH, x.fh.mono .refl s, x.fg, x.hg.mono s .refl⟩
theorem Fits.out (x : Fits F (cup h1 h2) g H) (d : Dis h1 h2) : Fits F h2 (cup h1 g) H :=
  ⟨x.fH, (Sub.r d).trans x.hH, Sub.cup (Sub.l.trans x.hH) x.gH, x.fh.mono .refl (.r d), (Dis.cup (x.fh.mono .refl .l).symm x.fg.symm).symm,
    (Dis.cup d (x.hg.mono (.r d) .refl).symm).symm⟩
theorem Fits.inn (x : Fits F h2 (cup h1 g) H) (d : Dis h1 g) : Fits F (cup h1 h2) g H :=
  ⟨x.fH, Sub.cup (Sub.l.trans x.gH) x.hH, (Sub.r d).trans x.gH, (Dis.cup (x.fg.mono .refl .l).symm x.fh.symm).symm, x.fg.mono .refl (.r d),
    Dis.cup d (x.hg.mono .refl (.r d))⟩
theorem Fits.dis (x : Fits F h2 (cup h1 g) H) : Dis h1 h2 := (x.hg.mono .refl .l).symm
theorem Fits.freeze (x : Fits F (cup h1 h2) g H) (d : Dis h1 h2) : Fits (cup F h1) h2 g H :=
  ⟨Sub.cup x.fH (Sub.l.trans x.hH), (Sub.r d).trans x.hH, x.gH, Dis.cup (x.fh.mono .refl (.r d)) d, Dis.cup x.fg (x.hg.mono .l .refl), x.hg.mono (.r d) .refl⟩
theorem Fits.no (x : Fits F h g H) (e : H p = none) : F p = none ∧ h p = none ∧ g p = none := ⟨x.fH.no e, x.hH.no e, x.gH.no e⟩
theorem Sub.upd_new {a H : Hp} (x : Sub a H) (e : H p = none) : Sub a (upd H p o) := fun q w h => by
  have n : q ≠ p := fun z => by subst z; rw [x q w h] at e; cases e
  rw [upd_ne n]; exact x q w h
theorem Sub.upd_off {a H : Hp} (x : Sub a H) (e : a p = none) : Sub a (upd H p o) := fun q w h => by
  have n : q ≠ p := fun z => by subst z; rw [h] at e; cases e
  rw [upd_ne n]; exact x q w h
/-- a new object, owned -/
theorem Fits.new (x : Fits F h g H) (e : H p = none) : Fits F (cup (sgl p o) h) g (upd H p o) :=
  ⟨x.fH.upd_new e, Sub.cup (Sub.one upd_same) (x.hH.upd_new e), x.gH.upd_new e, (Dis.cup (Dis.one (x.no e).1) x.fh.symm).symm, x.fg,
    Dis.cup (Dis.one (x.no e).2.2) x.hg⟩
/-- an owned object is changed -/
theorem Fits.upd (x : Fits F (cup (sgl p o) h) g H) (e : h p = none) : Fits F (cup (sgl p u) h) g (upd H p u) := by
  have d : Dis (sgl p o) h := Dis.one e
  have nF : F p = none := x.fh.symm.no (cup_some one_same)
  have ng : g p = none := x.hg.no (cup_some one_same)
  exact ⟨x.fH.upd_off nF, Sub.cup (Sub.one upd_same) (((Sub.r d).trans x.hH).upd_off e), x.gH.upd_off ng, (Dis.cup (Dis.one nF) (x.fh.mono .refl (.r d)).symm).symm, x.fg, Dis.cup (Dis.one ng) (x.hg.mono (.r d) .refl)⟩
end

/-! ### data that is locked: it never changes any more -/
/-- a key as data -/
def kD : Key → PyData
  | .inl i => .int i
  | .inr x => .str x
mutual
inductive Dt (K : PySem.W.Frag) (S : Hp) : V → PyData → Prop
  | non : Dt K S .non .none
  | bl (b : Bool) : Dt K S (.bl b) (.bool b)
  | int (i : Int) : Dt K S (.int i) (.int i)
  | str (x : Str) : Dt K S (.str x) (.str x)
  | lst {a : Addr} {xs : List V} {ds : List PyData} : SqL K S a xs → DtL K S xs ds → Dt K S (.ref a) (.list ds)
  | tup {a : Addr} {xs : List V} {ds : List PyData} : SqT K S a xs → DtL K S xs ds → Dt K S (.ref a) (.tuple ds)
  | dct {a : Addr} {kvs : List (Key × V)} {ds : List PyData} : Rd S a (.dK kvs) → DtL K S (kvs.map (·.2)) ds → Dt K S (.ref a) (.dict ((kvs.map fun q => kD q.1).zip ds))
inductive DtL (K : PySem.W.Frag) (S : Hp) : List V → List PyData → Prop
  | nil : DtL K S [] []
  | cons {v : V} {vs : List V} {d : PyData} {ds : List PyData} : Dt K S v d → DtL K S vs ds → DtL K S (v :: vs) (d :: ds)
end
section
variable {K : PySem.W.Frag} {S S' : Hp} {a : Addr} {xs : List V} {u : HO}
theorem Rd.mono (x : Sub S S') (h : Rd S a u) : Rd S' a u := by
  rcases h with h | ⟨o, h⟩
  · exact .inl (x _ _ h)
  · exact .inr ⟨o, x _ _ h⟩
theorem SqL.mono (x : Sub S S') (h : SqL K S a xs) : SqL K S' a xs := by
  rcases h with h | h
  · exact .inl (Rd.mono x h)
  · exact .inr h
theorem SqT.mono (x : Sub S S') (h : SqT K S a xs) : SqT K S' a xs := by
  rcases h with h | h
  · exact .inl (Rd.mono x h)
  · exact .inr h
mutual
theorem Dt.mono (x : Sub S S') : ∀ {d : PyData} {v : V}, Dt K S v d → Dt K S' v d
  | _, _, .non => .non
  | _, _, .bl b => .bl b
  | _, _, .int i => .int i
  | _, _, .str z => .str z
  | _, _, .lst h1 h2 => .lst (SqL.mono x h1) (DtL.mono x h2)
  | _, _, .tup h1 h2 => .tup (SqT.mono x h1) (DtL.mono x h2)
  | _, _, .dct h1 h2 => .dct (Rd.mono x h1) (DtL.mono x h2)
theorem DtL.mono (x : Sub S S') : ∀ {ds : List PyData} {vs : List V}, DtL K S vs ds → DtL K S' vs ds
  | _, _, .nil => .nil
  | _, _, .cons h1 h2 => .cons (Dt.mono x h1) (DtL.mono x h2)
end
theorem DtL.len : ∀ {ds : List PyData} {vs : List V}, DtL K S vs ds → vs.length = ds.length
  | _, _, .nil => rfl
  | _, _, .cons _ h => by rw [List.length_cons, List.length_cons, DtL.len h]
theorem DtL.get : ∀ {ds : List PyData} {vs : List V} {i : Nat} {d : PyData}, DtL K S vs ds → ds[i]? = some d → ∃ v, vs[i]? = some v ∧ Dt K S v d
  | _, _, _, _, .nil, e => by simp at e
  | _, _, 0, _, .cons h _, e => by simp at e; subst e; exact ⟨_, rfl, h⟩
  | _, _, i + 1, _, .cons _ h, e => by
    obtain ⟨v, h1, h2⟩ := DtL.get (i := i) h (by simpa using e)
    exact ⟨v, by simpa using h1, h2⟩
theorem DtL.app : ∀ {ds es : List PyData} {vs us : List V}, DtL K S vs ds → DtL K S us es → DtL K S (vs ++ us) (ds ++ es)
  | _, _, _, _, .nil, h => h
  | _, _, _, _, .cons h1 h2, h => .cons h1 (DtL.app h2 h)
theorem DtL.drop : ∀ {ds : List PyData} {vs : List V} (n : Nat), DtL K S vs ds → DtL K S (vs.drop n) (ds.drop n)
  | _, _, 0, h => h
  | _, _, _ + 1, .nil => .nil
  | _, _, n + 1, .cons _ h => DtL.drop n h
theorem DtL.take : ∀ {ds : List PyData} {vs : List V} (n : Nat), DtL K S vs ds → DtL K S (vs.take n) (ds.take n)
  | _, _, 0, _ => .nil
  | _, _, _ + 1, .nil => .nil
  | _, _, n + 1, .cons h1 h => .cons h1 (DtL.take n h)
theorem DtL.ofInts : ∀ {ns : List Int}, DtL K S (ns.map V.int) (ns.map .int)
  | [] => .nil
  | _ :: _ => .cons (.int _) DtL.ofInts
theorem Dt.intV {v : V} {i : Int} (h : Dt K S v (.int i)) : v = .int i := by cases h; rfl
theorem Dt.blV {v : V} {i : Bool} (h : Dt K S v (.bool i)) : v = .bl i := by cases h; rfl
theorem Dt.nonV {v : V} (h : Dt K S v .none) : v = .non := by cases h; rfl
theorem Dt.strV {v : V} {i : Str} (h : Dt K S v (.str i)) : v = .str i := by cases h; rfl
theorem Dt.lstV {v : V} {ds : List PyData} (h : Dt K S v (.list ds)) : ∃ p vs, v = .ref p ∧ SqL K S p vs ∧ DtL K S vs ds := by
  cases h with
  | lst h1 h2 => exact ⟨_, _, rfl, h1, h2⟩
theorem Dt.tupV {v : V} {ds : List PyData} (h : Dt K S v (.tuple ds)) : ∃ p vs, v = .ref p ∧ SqT K S p vs ∧ DtL K S vs ds := by
  cases h with
  | tup h1 h2 => exact ⟨_, _, rfl, h1, h2⟩
end

/-! ### what a slot holds -/
inductive SD where
  | hole
  /-- locked data -/
  | val (d : PyData)
  /-- data that is the caller's, to be read alone -/
  | rd (d : PyData)
  | lst (l : List SD)
  /-- a tuple of things that are owned -/
  | tup (l : List SD)
  | dct (l : List (Key × SD))
  | obj (C : Addr) (l : List (Str × SD))
  | xds (l : List (Str × SD))
  | pin (v : V) (s : SD)
  /-- a thing that is looked at, while what lies at u is owned -/
  | atv (u : V) (s : SD)
  /-- a thing that is owned, by what the heap holds of it -/
  | raw (o : Addr → HO)
  /-- an exception that is being made, with its dict -/
  | exo (C : Addr) (l : List (Str × SD))
  /-- a locked thing that is looked at; unlocked it is s -/
  | lk (d : Addr) (od : Obj) (u : HO) (s : SD)
mutual
def own (K : PySem.W.Frag) (F G : Hp) : SD → Hp → V → Prop
  | .hole, _, _ => True
  | .val d, _, v => Dt K F v d
  | .rd d, _, v => Dt K (cup F G) v d
  | .lst l, h, v => ∃ p vs h', v = .ref p ∧ h p = some (.lst vs) ∧ Sub h' h ∧ h' p = none ∧ ownL K F G l h' vs
  | .tup l, h, v => ∃ p vs h', v = .ref p ∧ h p = some (.tup vs) ∧ Sub h' h ∧ h' p = none ∧ ownL K F G l h' vs
  | .dct l, h, v => ∃ p kvs h', v = .ref p ∧ h p = some (.dK kvs) ∧ Sub h' h ∧ h' p = none ∧ ownK K F G l h' kvs
  | .obj C l, h, v => ∃ p dx fs h', v = .ref p ∧ h p = some (.ins C dx fs) ∧ Sub h' h ∧ h' p = none ∧ ownF K F G l h' fs
  | .xds l, h, v => ∃ p fs h', v = .ref p ∧ h p = some (.xd fs) ∧ Sub h' h ∧ h' p = none ∧ ownF K F G l h' fs
  | .pin u s, h, v => v = u ∧ own K F G s h v
  | .atv u s, h, _ => own K F G s h u
  | .raw o, h, v => ∃ p, v = .ref p ∧ h p = some (o p)
  | .exo C l, h, v => ∃ p dx fs h', v = .ref p ∧ h p = some (L2.exo p C (some dx)) ∧ h dx = some (exd dx fs) ∧ Sub h' h ∧ h' p = none ∧ h' dx = none ∧ ownF K F G l h' fs
  | .lk p od u s, _, v => v = .ref p ∧ cup F G p = some (.frz od u) ∧ own K F G s (sgl p u) v
def ownL (K : PySem.W.Frag) (F G : Hp) : List SD → Hp → List V → Prop
  | [], _, vs => vs = []
  | s :: r, h, vs => ∃ v vr h1 h2, vs = v :: vr ∧ Sub h1 h ∧ Sub h2 h ∧ Dis h1 h2 ∧ own K F G s h1 v ∧ ownL K F G r h2 vr
def ownK (K : PySem.W.Frag) (F G : Hp) : List (Key × SD) → Hp → List (Key × V) → Prop
  | [], _, vs => vs = []
  | (n, s) :: r, h, vs => ∃ v vr h1 h2, vs = (n, v) :: vr ∧ Sub h1 h ∧ Sub h2 h ∧ Dis h1 h2 ∧ own K F G s h1 v ∧ ownK K F G r h2 vr
def ownF (K : PySem.W.Frag) (F G : Hp) : List (Str × SD) → Hp → List (Str × V) → Prop
  | [], _, fs => fs = []
  | (n, s) :: r, h, fs => ∃ v fr h1 h2, fs = (n, v) :: fr ∧ Sub h1 h ∧ Sub h2 h ∧ Dis h1 h2 ∧ own K F G s h1 v ∧ ownF K F G r h2 fr
end
section
variable {K : PySem.W.Frag} {F F' G G' h h' : Hp}
mutual
theorem own_mono (x : Sub F F') (d : Sub (cup F G) (cup F' G')) : ∀ (s : SD) {h h' : Hp} {v : V}, Sub h h' → own K F G s h v → own K F' G' s h' v
  | .hole, _, _, _, _, _ => by unfold own; trivial
  | .val u, _, _, _, _, q => by unfold own at q ⊢; exact q.mono x
  | .rd u, _, _, _, _, q => by unfold own at q ⊢; exact q.mono d
  | .pin u s, _, _, _, y, q => by unfold own at q ⊢; exact ⟨q.1, own_mono x d s y q.2⟩
  | .atv u s, _, _, _, y, q => by unfold own at q ⊢; exact own_mono x d s y q
  | .raw o, _, _, _, y, q => by
    unfold own at q ⊢
    obtain ⟨p, e, q1⟩ := q
    exact ⟨p, e, y _ _ q1⟩
  | .exo C l, _, _, _, y, q => by
    unfold own at q ⊢
    obtain ⟨p, dx, fs, h0, e, q1, q2, q3, q4, q5, q6⟩ := q
    exact ⟨p, dx, fs, h0, e, y _ _ q1, y _ _ q2, q3.trans y, q4, q5, ownF_mono x d l .refl q6⟩
  | .lk p od u s, _, _, _, y, q => by
    unfold own at q ⊢
    obtain ⟨e, q1, q2⟩ := q
    exact ⟨e, d _ _ q1, own_mono x d s .refl q2⟩
  | .lst l, _, _, _, y, q => by
    unfold own at q ⊢
    obtain ⟨p, vs, h0, e, q1, q2, q3, q4⟩ := q
    exact ⟨p, vs, h0, e, y _ _ q1, q2.trans y, q3, ownL_mono x d l .refl q4⟩
  | .tup l, _, _, _, y, q => by
    unfold own at q ⊢
    obtain ⟨p, vs, h0, e, q1, q2, q3, q4⟩ := q
    exact ⟨p, vs, h0, e, y _ _ q1, q2.trans y, q3, ownL_mono x d l .refl q4⟩
  | .dct l, _, _, _, y, q => by
    unfold own at q ⊢
    obtain ⟨p, vs, h0, e, q1, q2, q3, q4⟩ := q
    exact ⟨p, vs, h0, e, y _ _ q1, q2.trans y, q3, ownK_mono x d l .refl q4⟩
  | .obj C l, _, _, _, y, q => by
    unfold own at q ⊢
    obtain ⟨p, dx, fs, h0, e, q1, q2, q3, q4⟩ := q
    exact ⟨p, dx, fs, h0, e, y _ _ q1, q2.trans y, q3, ownF_mono x d l .refl q4⟩
  | .xds l, _, _, _, y, q => by
    unfold own at q ⊢
    obtain ⟨p, fs, h0, e, q1, q2, q3, q4⟩ := q
    exact ⟨p, fs, h0, e, y _ _ q1, q2.trans y, q3, ownF_mono x d l .refl q4⟩
theorem ownL_mono (x : Sub F F') (d : Sub (cup F G) (cup F' G')) : ∀ (l : List SD) {h h' : Hp} {vs : List V}, Sub h h' → ownL K F G l h vs → ownL K F' G' l h' vs
  | [], _, _, _, _, q => by unfold ownL at q ⊢; exact q
  | s :: r, _, _, _, y, q => by
    unfold ownL at q ⊢
    obtain ⟨v, vr, h1, h2, e, q1, q2, q3, q4, q5⟩ := q
    exact ⟨v, vr, h1, h2, e, q1.trans y, q2.trans y, q3, own_mono x d s .refl q4, ownL_mono x d r .refl q5⟩
theorem ownK_mono (x : Sub F F') (d : Sub (cup F G) (cup F' G')) : ∀ (l : List (Key × SD)) {h h' : Hp} {fs : List (Key × V)}, Sub h h' → ownK K F G l h fs → ownK K F' G' l h' fs
  | [], _, _, _, _, q => by unfold ownK at q ⊢; exact q
  | (n, s) :: r, _, _, _, y, q => by
    unfold ownK at q ⊢
    obtain ⟨v, fr, h1, h2, e, q1, q2, q3, q4, q5⟩ := q
    exact ⟨v, fr, h1, h2, e, q1.trans y, q2.trans y, q3, own_mono x d s .refl q4, ownK_mono x d r .refl q5⟩
theorem ownF_mono (x : Sub F F') (d : Sub (cup F G) (cup F' G')) : ∀ (l : List (Str × SD)) {h h' : Hp} {fs : List (Str × V)}, Sub h h' → ownF K F G l h fs → ownF K F' G' l h' fs
  | [], _, _, _, _, q => by unfold ownF at q ⊢; exact q
  | (n, s) :: r, _, _, _, y, q => by
    unfold ownF at q ⊢
    obtain ⟨v, fr, h1, h2, e, q1, q2, q3, q4, q5⟩ := q
    exact ⟨v, fr, h1, h2, e, q1.trans y, q2.trans y, q3, own_mono x d s .refl q4, ownF_mono x d r .refl q5⟩
end
theorem cup_mono_l (x : Sub F F') (d : Dis F' G) : Sub (cup F G) (cup F' G) := Sub.cup2 x .refl d
end

/-! ### the environment -/
def ownO (K : PySem.W.Frag) (F G : Hp) (s : SD) (h : Hp) (o : Option V) : Prop := match s with
  | .hole => True
  | s => ∃ v, o = some v ∧ own K F G s h v
section
variable {K : PySem.W.Frag}
theorem ownO.of {F G : Hp} {s : SD} {h : Hp} {v : V} (q : own K F G s h v) : ownO K F G s h (some v) := by
  cases s <;> first
    | trivial
    | exact ⟨v, rfl, q⟩
theorem ownO.val {F G : Hp} {s : SD} {h : Hp} {o : Option V} (q : ownO K F G s h o) (n : s ≠ .hole) : ∃ v, o = some v ∧ own K F G s h v := by
  cases s <;> first
    | exact absurd rfl n
    | exact q
theorem ownO.mono {F F' G : Hp} (x : Sub F F') (d : Dis F' G) {s : SD} {h h' : Hp} {o : Option V} (y : Sub h h') (q : ownO K F G s h o) : ownO K F' G s h' o := by
  cases s <;> first
    | trivial
    | (obtain ⟨v, e, q⟩ := q; exact ⟨v, e, own_mono x (cup_mono_l x d) _ y q⟩)
def EnvR (K : PySem.W.Frag) (F G : Hp) : List SD → Hp → L2.St → Prop
  | [], _, σ => σ = []
  | s :: r, h, σ => ∃ o σr h1 h2, σ = o :: σr ∧ Sub h1 h ∧ Sub h2 h ∧ Dis h1 h2 ∧ ownO K F G s h1 o ∧ EnvR K F G r h2 σr
theorem EnvR.mono {F F' G : Hp} (x : Sub F F') (d : Dis F' G) : ∀ {Γ : List SD} {h h' : Hp} {σ : L2.St}, Sub h h' → EnvR K F G Γ h σ → EnvR K F' G Γ h' σ
  | [], _, _, _, _, q => q
  | s :: r, _, _, _, y, ⟨o, σr, h1, h2, e, q1, q2, q3, q4, q5⟩ => ⟨o, σr, h1, h2, e, q1.trans y, q2.trans y, q3, ownO.mono x d .refl q4, EnvR.mono x d .refl q5⟩
/-- a slot taken out, and what may be put there instead -/
theorem EnvR.at {F G : Hp} : ∀ {Γ : List SD} {h : Hp} {σ : L2.St} {i : Nat} {s : SD}, EnvR K F G Γ h σ → Γ[i]? = some s → ∃ o h1 h2, σ[i]? = some o ∧ Sub h1 h ∧ Sub h2 h ∧ Dis h1 h2 ∧ ownO K F G s h1 o ∧
    ∀ (F' : Hp) (s' : SD) (o' : Option V) (h1' h' : Hp), Sub F F' → Dis F' G → ownO K F' G s' h1' o' → Dis h1' h2 → Sub h1' h' → Sub h2 h' → EnvR K F' G (Γ.set i s') h' (σ.set i o')
  | [], _, _, _, _, _, e => by simp at e
  | t :: r, h, _, 0, s, ⟨o, σr, h1, h2, rfl, q1, q2, q3, q4, q5⟩, e => by
    simp at e
    subst e
    exact ⟨o, h1, h2, rfl, q1, q2, q3, q4, fun F' s' o' h1' h' x d z z1 z2 z3 => ⟨o', σr, h1', h2, rfl, z2, z3, z1, z, EnvR.mono x d .refl q5⟩⟩
  | t :: r, h, _, i + 1, s, ⟨o, σr, h1, h2, rfl, q1, q2, q3, q4, q5⟩, e => by
    obtain ⟨p, k1, k2, e1, s1, s2, d1, w, back⟩ := EnvR.at (i := i) (s := s) q5 (by simpa using e)
    have d12 : Dis h1 k1 := q3.mono .refl s1
    have d22 : Dis h1 k2 := q3.mono .refl s2
    refine ⟨p, k1, cup h1 k2, by simpa using e1, s1.trans q2, Sub.cup q1 (s2.trans q2), (Dis.cup d12 d1.symm).symm, w, fun F' s' o' h1' h' x d z z1 z2 z3 => ?_⟩
    have a1 : Dis h1' h1 := z1.mono .refl .l
    have a2 : Dis h1' k2 := z1.mono .refl (.r d22)
    refine ⟨o, σr.set i o', h1, cup h1' k2, rfl, Sub.l.trans z3, Sub.cup z2 ((Sub.r d22).trans z3), (Dis.cup a1 d22.symm).symm, ownO.mono x d .refl q4, ?_⟩
    exact back F' s' o' h1' _ x d z a2 .l (.r a2)
theorem EnvR.len {F G : Hp} : ∀ {Γ : List SD} {h : Hp} {σ : L2.St}, EnvR K F G Γ h σ → σ.length = Γ.length
  | [], _, σ, q => by
    have e : σ = [] := q
    rw [e]; rfl
  | _ :: _, _, _, ⟨_, _, _, _, e, _, _, _, _, q⟩ => by rw [e, List.length_cons, List.length_cons, EnvR.len q]
/-- some slots are forgotten -/
inductive Le : List SD → List SD → Prop
  | nil : Le [] []
  | same {s : SD} {a b : List SD} : Le a b → Le (s :: a) (s :: b)
  | drop {s : SD} {a b : List SD} : Le a b → Le (s :: a) (.hole :: b)
theorem Le.ok {F G : Hp} : ∀ {Γ Γ' : List SD}, Le Γ Γ' → ∀ {h : Hp} {σ : L2.St}, EnvR K F G Γ h σ → EnvR K F G Γ' h σ
  | _, _, .nil, _, _, q => q
  | _, _, .same l, _, _, ⟨o, σr, h1, h2, e, q1, q2, q3, q4, q5⟩ => ⟨o, σr, h1, h2, e, q1, q2, q3, q4, l.ok q5⟩
  | _, _, .drop l, _, _, ⟨o, σr, h1, h2, e, q1, q2, q3, _, q5⟩ => ⟨o, σr, h1, h2, e, q1, q2, q3, trivial, l.ok q5⟩
theorem Le.refl : ∀ {Γ : List SD}, Le Γ Γ
  | [] => .nil
  | _ :: _ => .same Le.refl
end
end Tsa

/-! M1: outcomes, judgements, names, numbers, tests. -/
namespace Tsa
open PySem PySem.Spec PyProof.Rows L2

structure Exn where
  cls : Str
  flds : List (Str × SD)
/-- ok, an exception, or what is not walked -/
inductive Res (α : Type) where
  | ok (a : α)
  | ex (e : Exn)
  | un
def Res.bind {α β : Type} (m : Res α) (f : α → Res β) : Res β := match m with
  | .ok a => f a
  | .ex e => .ex e
  | .un => .un
instance : Monad Res where
  pure := .ok
  bind := Res.bind
@[simp] theorem Res.bind_ok {α β : Type} (a : α) (f : α → Res β) : (Res.ok a).bind f = f a := rfl
@[simp] theorem Res.bind_un {α β : Type} (f : α → Res β) : (Res.un : Res α).bind f = .un := rfl
@[simp] theorem Res.bind_ex {α β : Type} (e : Exn) (f : α → Res β) : (Res.ex e : Res α).bind f = .ex e := rfl
def Res.guard (c : Prop) [Decidable c] : Res Unit := if c then .ok () else .un

/-- what a call may let out is taken, at the slots as they stand -/
def PassesW (X : Cx) (W : WX) : Prop := ∀ σ, PassesAt (L2N.CX X.prog X.w) X σ (fun c d H => W c d σ H)
theorem passesW {X : Cx} {W : WX} (tk : L2N.Takes X W) : PassesW X W := fun _ _ _ _ e s' I c => tk e s' (L2N.XE.of_call I (fun _ _ _ h => h) c)
structure XC where
  E : WX
  Γx : List SD
  G : Hp

/-- an exception's class and own dict -/
def ExnOwn (K : PySem.W.Frag) (F G h : Hp) (e : Exn) (c : Value) (od : Option Addr) : Prop :=
  c = .ref (He.ga K e.cls) ∧ ((e.flds = [] ∧ od = none) ∨ ∃ d, od = some d ∧ own K F G (.xds e.flds) h (.ref d))
/-- what is wanted where M raises -/
def XOk (K : PySem.W.Frag) (C : XC) (F g : Hp) {ω : Type} (M : Res ω) : Prop :=
  ∀ e, M = .ex e → ∀ (c : Value) (od : Option Addr) (F' hx h' H' : Hp) (σ : L2.St), Sub F F' → ExnOwn K F' C.G hx e c od → EnvR K F' C.G C.Γx h' σ → Dis hx h' → Fits F' (cup hx h') g H' → C.E c od σ H'
theorem XOk.mono {K : PySem.W.Frag} {C : XC} {F F' g : Hp} {ω : Type} {M : Res ω} (h : XOk K C F g M) (x : Sub F F') : XOk K C F' g M :=
  fun e he c od F2 hx h' H' σ s => h e he c od F2 hx h' H' σ (x.trans s)

/-- what an expression has given: its own, a thing of the environment that is only looked at, a slot -/
inductive Opd where
  | own (s : SD)
  | bor (d : PyData)
  | at (i : Nat)
  /-- a field of the object in a slot -/
  | fl (i : Nat) (f : Str)
def OpdOk (K : PySem.W.Frag) (F G h1 h2 : Hp) (σ : L2.St) : Opd → V → Prop
  | .own s, v => Tsa.own K F G s h1 v
  | .bor d, v => Dt K (cup F (cup G h2)) v d
  | .at i, v => σ[i]? = some (some v)
  | .fl i f, v => ∃ a C dx fs, σ[i]? = some (some (.ref a)) ∧ h2 a = some (.ins C dx fs) ∧ fs.lookup f = some v

/-- what an expression's run asks -/
@[irreducible] def semE (X : Cx) (e : Expr) : TE := fun σ H Q => ∀ pins s, Inv X pins σ H s → wpAny (model X.prog X.w) X.A (eval e X.env) (EP X pins σ Q) X.xe s
theorem pe_sem {X : Cx} {e : Expr} : PE X e (semE X e) := ⟨fun pins s σ H Q I h => by unfold semE at h; exact h pins s I⟩
theorem semE_run {X : Cx} {e : Expr} {σ : L2.St} {H : Hp} {Q : VK} (h : semE X e σ H Q) : ∀ pins s, Inv X pins σ H s → wpAny (model X.prog X.w) X.A (eval e X.env) (EP X pins σ Q) X.xe s := by unfold semE at h; exact h
theorem semE_of {X : Cx} {e : Expr} {t : TE} (p : PE X e t) {σ : L2.St} {H : Hp} {Q : VK} (h : t σ H Q) : semE X e σ H Q := by unfold semE; exact fun pins s I => p.run pins s σ H Q I h
@[irreducible] def semT (X : Cx) (e : Expr) : TT := fun σ H Q => ∀ pins s, Inv X pins σ H s → wpAny (model X.prog X.w) X.A (isTrue e X.env (eval e X.env)) (TP X pins σ Q) X.xe s
theorem pt_sem {X : Cx} {e : Expr} : PT X e (semT X e) := ⟨fun pins s σ H Q I h => by unfold semT at h; exact h pins s I⟩
theorem semT_run {X : Cx} {e : Expr} {σ : L2.St} {H : Hp} {Q : Bool → Hp → Prop} (h : semT X e σ H Q) : ∀ pins s, Inv X pins σ H s → wpAny (model X.prog X.w) X.A (isTrue e X.env (eval e X.env)) (TP X pins σ Q) X.xe s := by unfold semT at h; exact h
theorem semT_of {X : Cx} {e : Expr} {t : TT} (p : PT X e t) {σ : L2.St} {H : Hp} {Q : Bool → Hp → Prop} (h : t σ H Q) : semT X e σ H Q := by unfold semT; exact fun pins s I => p.run pins s σ H Q I h
@[irreducible] def semW (X : Cx) (e : Expr) : TT := fun σ H Q => ∀ whole pins s, Inv X pins σ H s → wpAny (model X.prog X.w) X.A (isTrue e X.env whole) (TP X pins σ Q) X.xe s
theorem pw_sem {X : Cx} {e : Expr} : PW X e (semW X e) := ⟨fun whole pins s σ H Q I h => by unfold semW at h; exact h whole pins s I⟩
theorem semW_of {X : Cx} {e : Expr} {t : TT} (p : PW X e t) {σ : L2.St} {H : Hp} {Q : Bool → Hp → Prop} (h : t σ H Q) : semW X e σ H Q := by unfold semW; exact fun whole pins s I => p.run whole pins s σ H Q I h

/-- THE JUDGEMENT of readings: from Γ, under the outcome M -/
def JT (K : PySem.W.Frag) (C : XC) (pu : Bool) {ω : Type} (Γ : List SD) (t : TE) (M : Res ω) (k : Opd → List SD → Res ω → Prop) : Prop :=
  ∀ (F h g H : Hp) (σ : L2.St) (Q : VK), EnvR K F C.G Γ h σ → Fits F h g H → Sub C.G g → M ≠ .un → XOk K C F g M →
    (∀ (o : Opd) (Γ' : List SD) (M' : Res ω), k o Γ' M' → M' = M → ∀ (v : V) (F' h1 h2 H' : Hp), Sub F F' → OpdOk K F' C.G h1 h2 σ o v → EnvR K F' C.G Γ' h2 σ → Dis h1 h2 → Fits F' (cup h1 h2) g H' →
      (pu = true → Sub h h2 ∧ Γ' = Γ) → Q v H') → t σ H Q
abbrev JE (X : Cx) (C : XC) (pu : Bool) {ω : Type} (Γ : List SD) (e : Expr) (M : Res ω) (k : Opd → List SD → Res ω → Prop) : Prop := JT X.K C pu Γ (semE X e) M k
/-- a test's -/
def JB2 (K : PySem.W.Frag) (C : XC) (pu : Bool) {ω : Type} (Γ : List SD) (t : TT) (M : Res ω) (k : Bool → List SD → Res ω → Prop) : Prop :=
  ∀ (F h g H : Hp) (σ : L2.St) (Q : Bool → Hp → Prop), EnvR K F C.G Γ h σ → Fits F h g H → Sub C.G g → M ≠ .un → XOk K C F g M →
    (∀ (b : Bool) (Γ' : List SD) (M' : Res ω), k b Γ' M' → M' = M → ∀ (F' h2 H' : Hp), Sub F F' → EnvR K F' C.G Γ' h2 σ → Fits F' h2 g H' →
      (pu = true → Sub h h2 ∧ Γ' = Γ) → Q b H') → t σ H Q
abbrev JC (X : Cx) (C : XC) (pu : Bool) {ω : Type} (Γ : List SD) (e : Expr) (M : Res ω) (k : Bool → List SD → Res ω → Prop) : Prop := JB2 X.K C pu Γ (semT X e) M k
/-- a link of and, or -/
abbrev JW (X : Cx) (C : XC) (pu : Bool) {ω : Type} (Γ : List SD) (e : Expr) (M : Res ω) (k : Bool → List SD → Res ω → Prop) : Prop := JB2 X.K C pu Γ (semW X e) M k

section
variable {X : Cx} {C : XC} {pu : Bool} {ω : Type} {Γ : List SD} {e a b : Expr} {M : Res ω} {pos : Pos}
theorem Fits.G {F h g H G : Hp} (x : Fits F h g H) (s : Sub G g) : Dis F G := x.fg.mono .refl s

/-- ints out of an expression -/
abbrev JI (X : Cx) (C : XC) (pu : Bool) {ω : Type} (Γ : List SD) (e : Expr) (M : Res ω) (k : Int → List SD → Res ω → Prop) : Prop :=
  JE X C pu Γ e M fun o Γ' M' => ∃ i, o = .own (.val (.int i)) ∧ k i Γ' M'
abbrev JBo (X : Cx) (C : XC) (pu : Bool) {ω : Type} (Γ : List SD) (e : Expr) (M : Res ω) (k : Bool → List SD → Res ω → Prop) : Prop :=
  JE X C pu Γ e M fun o Γ' M' => ∃ i, o = .own (.val (.bool i)) ∧ k i Γ' M'
abbrev JStr (X : Cx) (C : XC) (pu : Bool) {ω : Type} (Γ : List SD) (e : Expr) (M : Res ω) (k : Str → List SD → Res ω → Prop) : Prop :=
  JE X C pu Γ e M fun o Γ' M' => ∃ i, o = .own (.val (.str i)) ∧ k i Γ' M'

theorem JT.mono {K : PySem.W.Frag} {t : TE} {k k' : Opd → List SD → Res ω → Prop} (h : JT K C pu Γ t M k) (hk : ∀ o Γ' M', k o Γ' M' → k' o Γ' M') : JT K C pu Γ t M k' :=
  fun F h0 g H σ Q he hf hG hu hx hq => h F h0 g H σ Q he hf hG hu hx fun o Γ' M' ho => hq o Γ' M' (hk o Γ' M' ho)
theorem JE.of {t : TE} {k : Opd → List SD → Res ω → Prop} (p : PE X e t) (h : JT X.K C pu Γ t M k) : JE X C pu Γ e M k :=
  fun F h0 g H σ Q he hf hG hu hx hq => semE_of p (h F h0 g H σ Q he hf hG hu hx hq)

/-- a reading that leaves the heap as it is and gives a written value -/
theorem JT.pure {K : PySem.W.Frag} {t : TE} {k : Opd → List SD → Res ω → Prop} {v : V} {o : Opd} (ht : ∀ σ H Q, Q v H → t σ H Q) (ho : ∀ F h1 h2 σ, OpdOk K F C.G h1 h2 σ o v) (hk : k o Γ M) : JT K C pu Γ t M k :=
  fun F h g H σ Q he hf hG hu hx hq => ht σ H Q (hq o Γ M hk rfl v F emp h H .refl (ho _ _ _ _) he .emp ⟨hf.fH, Sub.cup .emp hf.hH, hf.gH, (Dis.cup Dis.emp hf.fh.symm).symm, hf.fg, Dis.cup .emp hf.hg⟩ fun _ => ⟨.refl, rfl⟩)
theorem JE.int {i : Int} {j} {k : Opd → List SD → Res ω → Prop} (hk : k (.own (.val (.int i))) Γ M) : JE X C pu Γ (.Constant (.int i) j pos) M k :=
  JE.of pe_int (JT.pure (fun _ _ _ q => q) (fun _ _ _ _ => by unfold OpdOk own; exact .int i) hk)
theorem JE.bl {i : Bool} {j} {k : Opd → List SD → Res ω → Prop} (hk : k (.own (.val (.bool i))) Γ M) : JE X C pu Γ (.Constant (.bool i) j pos) M k :=
  JE.of pe_bl (JT.pure (fun _ _ _ q => q) (fun _ _ _ _ => by unfold OpdOk own; exact .bl i) hk)
theorem JE.non {j} {k : Opd → List SD → Res ω → Prop} (hk : k (.own (.val .none)) Γ M) : JE X C pu Γ (.Constant .none j pos) M k :=
  JE.of pe_non (JT.pure (fun _ _ _ q => q) (fun _ _ _ _ => by unfold OpdOk own; exact .non) hk)
theorem JE.str {i : Str} {j} {k : Opd → List SD → Res ω → Prop} (hk : k (.own (.val (.str i))) Γ M) : JE X C pu Γ (.Constant (.str i) j pos) M k :=
  JE.of pe_str (JT.pure (fun _ _ _ q => q) (fun _ _ _ _ => by unfold OpdOk own; exact .str i) hk)

/-- the heaplet emp ahead -/
theorem Fits.emp {F h g H : Hp} (hf : Fits F h g H) : Fits F (cup emp h) g H :=
  ⟨hf.fH, Sub.cup .emp hf.hH, hf.gH, (Dis.cup Dis.emp hf.fh.symm).symm, hf.fg, Dis.cup .emp hf.hg⟩
theorem Fits.un {F h1 h g H : Hp} (hf : Fits F (cup h1 h) g H) (d : Dis h1 h) : Fits F h g H := hf.sub (.r d)

/-! ### names -/
/-- locked data in a slot -/
theorem JE.var {i : Nat} {x : Str} {d : PyData} {k : Opd → List SD → Res ω → Prop} (hΓ : Γ[i]? = some (.val d)) (hk : k (.own (.val d)) Γ M) (hN : X.N[i]? = some x := by rfl)
    (hv : Vis X.env.scope x := by first | exact Or.inl rfl | exact Or.inr (Or.inl rfl) | exact Or.inr (Or.inr rfl)) (hd : (x == ("__debug__" : Str)) = false := by decide) (hcd : (x == ("__classdict__" : Str)) = false := by decide) :
    JE X C pu Γ (.Name x pos) M k := by
  refine JE.of (pe_var hN hv hd hcd) fun F h g H σ Q he hf hG hu hx hq => ?_
  obtain ⟨o, h1, h2, e, s1, s2, d12, w, back⟩ := he.at hΓ
  obtain ⟨v, rfl, wv⟩ := w.val (by intro z; cases z)
  refine ⟨v, e, hq _ _ _ hk rfl v F Tsa.emp h H .refl ?_ he .emp hf.emp fun _ => ⟨.refl, rfl⟩⟩
  unfold OpdOk
  unfold own at wv ⊢
  exact wv
/-- a slot is looked at, or handed on as a place -/
theorem JE.slot {i : Nat} {x : Str} {s : SD} {k : Opd → List SD → Res ω → Prop} (hΓ : Γ[i]? = some s) (hk : k (.at i) Γ M) (hs : s ≠ .hole := by intro z; cases z) (hN : X.N[i]? = some x := by rfl)
    (hv : Vis X.env.scope x := by first | exact Or.inl rfl | exact Or.inr (Or.inl rfl) | exact Or.inr (Or.inr rfl)) (hd : (x == ("__debug__" : Str)) = false := by decide) (hcd : (x == ("__classdict__" : Str)) = false := by decide) :
    JE X C pu Γ (.Name x pos) M k := by
  refine JE.of (pe_var hN hv hd hcd) fun F h g H σ Q he hf hG hu hx hq => ?_
  obtain ⟨o, h1, h2, e, s1, s2, d12, w, back⟩ := he.at hΓ
  obtain ⟨v, rfl, wv⟩ := w.val hs
  exact ⟨v, e, hq _ _ _ hk rfl v F Tsa.emp h H .refl e he .emp hf.emp fun _ => ⟨.refl, rfl⟩⟩
/-- a slot's thing is moved out: the slot is forgotten -/
theorem JE.move {i : Nat} {x : Str} {s : SD} {k : Opd → List SD → Res ω → Prop} (hΓ : Γ[i]? = some s) (hk : k (.own s) (Γ.set i .hole) M) (hs : s ≠ .hole := by intro z; cases z) (hN : X.N[i]? = some x := by rfl)
    (hv : Vis X.env.scope x := by first | exact Or.inl rfl | exact Or.inr (Or.inl rfl) | exact Or.inr (Or.inr rfl)) (hd : (x == ("__debug__" : Str)) = false := by decide) (hcd : (x == ("__classdict__" : Str)) = false := by decide) :
    JE X C false Γ (.Name x pos) M k := by
  refine JE.of (pe_var hN hv hd hcd) fun F h g H σ Q he hf hG hu hx hq => ?_
  obtain ⟨o, h1, h2, e, s1, s2, d12, w, back⟩ := he.at hΓ
  obtain ⟨v, rfl, wv⟩ := w.val hs
  have E2 : EnvR X.K F C.G (Γ.set i .hole) h2 σ := by
    have z := back F .hole (some v) Tsa.emp h2 .refl (hf.G hG) trivial .emp .emp .refl
    have es : σ.set i (some v) = σ := by
      obtain ⟨hi, e'⟩ := List.getElem?_eq_some_iff.mp e
      rw [← e']; exact List.set_getElem_self hi
    rw [es] at z; exact z
  exact ⟨v, e, hq _ _ _ hk rfl v F h1 h2 H .refl wv E2 d12 (hf.sub (Sub.cup s1 s2)) fun z => nomatch z⟩
/-- a written constant of the module -/
theorem JE.glob {x : Str} {v : V} {u : Value} {d : PyData} {k : Opd → List SD → Res ω → Prop} (hm : X.mg x = some u) (r : RelV v u) (hk : k (.own (.val d)) Γ M) (hd : ∀ F, Dt X.K F v d) (hg : Gl X x := by rfl) (hdb : (x == ("__debug__" : Str)) = false := by decide) :
    JE X C pu Γ (.Name x pos) M k :=
  JE.of (pe_glob hg hm r hdb) (JT.pure (fun _ _ _ q => q) (fun F _ _ _ => by unfold OpdOk own; exact hd F) hk)
theorem JE.globI {x : Str} {i : Int} {k : Opd → List SD → Res ω → Prop} (hm : ∃ t, X.mg x = some (.int i t)) (hk : k (.own (.val (.int i))) Γ M) (hg : Gl X x := by rfl) (hdb : (x == ("__debug__" : Str)) = false := by decide) :
    JE X C pu Γ (.Name x pos) M k := by
  obtain ⟨t, hm⟩ := hm
  exact JE.glob (v := .int i) hm ⟨t, rfl⟩ hk (fun F => .int i) hg hdb
end
end Tsa

/-! M2: two operands, numbers, tests. -/
namespace Tsa
open PySem PySem.Spec PyProof.Rows L2

/-- what comes behind -/
def Kt (K : PySem.W.Frag) (C : XC) (pu : Bool) {ω : Type} (Γ : List SD) (M : Res ω) (k : Opd → List SD → Res ω → Prop) (F h g : Hp) (σ : L2.St) (Q : VK) : Prop :=
  ∀ (o : Opd) (Γ' : List SD) (M' : Res ω), k o Γ' M' → M' = M → ∀ (v : V) (F' h1 h2 H' : Hp), Sub F F' → OpdOk K F' C.G h1 h2 σ o v → EnvR K F' C.G Γ' h2 σ → Dis h1 h2 → Fits F' (cup h1 h2) g H' →
      (pu = true → Sub h h2 ∧ Γ' = Γ) → Q v H'
def Kb (K : PySem.W.Frag) (C : XC) (pu : Bool) {ω : Type} (Γ : List SD) (M : Res ω) (k : Bool → List SD → Res ω → Prop) (F h g : Hp) (σ : L2.St) (Q : Bool → Hp → Prop) : Prop :=
  ∀ (b : Bool) (Γ' : List SD) (M' : Res ω), k b Γ' M' → M' = M → ∀ (F' h2 H' : Hp), Sub F F' → EnvR K F' C.G Γ' h2 σ → Fits F' h2 g H' →
      (pu = true → Sub h h2 ∧ Γ' = Γ) → Q b H'
section
variable {K : PySem.W.Frag} {X : Cx} {C : XC} {pu : Bool} {ω : Type} {Γ : List SD} {e a b c : Expr} {M : Res ω} {pos : Pos} {ta tb : TE} {k : Opd → List SD → Res ω → Prop}
/-- at the end: a value of the state's own -/
theorem Kt.val {Γ2 : List SD} {F h g : Hp} {σ : L2.St} {Q : VK} (q : Kt K C pu Γ M k F h g σ Q) {F2 h2 H2 : Hp} {d : PyData} {v : V} (x : Sub F F2) (hk : k (.own (.val d)) Γ2 M) (hd : Dt K F2 v d) (he : EnvR K F2 C.G Γ2 h2 σ) (hf : Fits F2 h2 g H2)
    (hp : pu = true → Sub h h2 ∧ Γ2 = Γ) : Q v H2 :=
  q _ _ _ hk rfl v F2 emp h2 H2 x (by unfold OpdOk own; exact hd) he .emp hf.emp hp
/-- two operands, the first sgl held meanwhile -/
theorem JT.two {r : R2} {Z : SD → Opd → List SD → Res ω → Prop} (h : JT K C pu Γ ta M fun oa Γ1 M1 => ∃ sa, oa = .own sa ∧ JT K C pu Γ1 tb M1 fun ob Γ2 M2 => Z sa ob Γ2 M2)
    (fin : ∀ (sa : SD) (ob : Opd) (Γ2 : List SD), Z sa ob Γ2 M → ∀ (F ha hb h h2 g H : Hp) (σ : L2.St) (va vb : V) (Q : VK), own K F C.G sa ha va → OpdOk K F C.G hb h2 σ ob vb → EnvR K F C.G Γ2 h2 σ → Dis ha hb → Dis ha h2 → Dis hb h2 →
      Fits F (cup ha (cup hb h2)) g H → Sub C.G g → (pu = true → Sub h h2 ∧ Γ2 = Γ) → M ≠ .un → XOk K C F g M → Kt K C pu Γ M k F h g σ Q → r va vb H Q) : JT K C pu Γ (tOp r ta tb) M k := by
  intro F h0 g H σ Q he hf hG hu hx hq
  refine h F h0 g H σ _ he hf hG hu hx fun oa Γ1 M1 ⟨sa, e1, hb⟩ hm va F1 ha h1 H1 x1 ow1 he1 d1 hf1 p1 => ?_
  subst e1 hm
  have hf1' := hf1.out d1
  have hx1 : XOk K C F1 (cup ha g) M1 := fun e hm c od F' hx' h' H' σ' s ex en dd ff => by
    have z := Fits.inn (ff) (hf1.hg.mono .l .refl)
    refine hx e hm c od F' hx' h' H' σ' (x1.trans s) ex en dd (z.sub (.r ?_))
    exact (ff.hg.mono .refl .l).symm
  refine hb F1 h1 (cup ha g) H1 σ _ he1 hf1' (hG.trans (.r (hf1.hg.mono .l .refl))) hu hx1 fun ob Γ2 M2 hz hm2 vb F2 hb' h2 H2 x2 ow2 he2 d2 hf2 p2 => ?_
  subst hm2
  have dag : Dis ha g := hf1.hg.mono .l .refl
  have hdis : Dis ha (cup hb' h2) := hf2.dis
  have hf3 := hf2.inn dag
  refine fin sa ob Γ2 hz F2 ha hb' h0 h2 g H2 σ va vb Q (own_mono x2 (cup_mono_l x2 (hf3.fg.mono .refl hG)) sa .refl ow1) ow2 he2 (hdis.mono .refl .l) (hdis.mono .refl (.r d2)) d2 hf3 hG
    (fun z => ⟨(p1 z).1.trans (p2 z).1, (p2 z).2.trans (p1 z).2⟩) hu (hx.mono (x1.trans x2)) ?_
  exact fun o Γ' M' hk hm v F' h1' h2' H' x => hq o Γ' M' hk hm v F' h1' h2' H' ((x1.trans x2).trans x)
/-- ints, both -/
theorem JT.ints {gv : Int → Int → V} {d : Int → Int → PyData} {P : Int → Int → Prop} {r : R2} (hr : ∀ i j H Q, P i j → Q (gv i j) H → r (.int i) (.int j) H Q) (hd : ∀ F i j, Dt K F (gv i j) (d i j))
    (h : JT K C pu Γ ta M fun o Γ1 M1 => ∃ i, o = .own (.val (.int i)) ∧ JT K C pu Γ1 tb M1 fun o Γ2 M2 => ∃ j, o = .own (.val (.int j)) ∧ ∃ M3, (M2 ≠ .un → M2 = M3 ∧ P i j) ∧ k (.own (.val (d i j))) Γ2 M3) : JT K C pu Γ (tOp r ta tb) M k := by
  refine JT.two (Z := fun sa ob Γ2 M2 => ∃ i j, sa = .val (.int i) ∧ ob = .own (.val (.int j)) ∧ ∃ M3, (M2 ≠ .un → M2 = M3 ∧ P i j) ∧ k (.own (.val (d i j))) Γ2 M3) (h.mono fun o Γ1 M1 ⟨i, e, q⟩ => ⟨_, e, q.mono fun o Γ2 M2 ⟨j, e2, q2⟩ => ⟨i, j, rfl, e2, q2⟩⟩) ?_
  intro sa ob Γ2 ⟨i, j, e1, e2, M3, hM, hk⟩ F ha hb h h2 g H σ va vb Q w1 w2 he d1 d2 d3 hf hG hp hu hx hq
  subst e1 e2
  unfold own at w1
  unfold OpdOk own at w2
  obtain rfl := w1.intV
  obtain rfl := w2.intV
  obtain ⟨e3, hP⟩ := hM hu
  subst e3
  refine hr i j H Q hP (hq.val (.refl) hk (hd F i j) he (hf.sub ((Sub.r d3).trans (.r ?_))) hp)
  exact (Dis.cup d1.symm d2.symm).symm
/-- a guard -/
def gd {ω : Type} (c : Prop) [Decidable c] (m : Res ω) : Res ω := if c then m else .un
theorem gd_ok {ω : Type} {c : Prop} [Decidable c] {m : Res ω} (h : gd c m ≠ .un) : gd c m = m ∧ c := by
  unfold gd at h ⊢
  by_cases hc : c
  · rw [if_pos hc]; exact ⟨rfl, hc⟩
  · rw [if_neg hc] at h; exact absurd rfl h
@[simp] theorem gd_pos {ω : Type} {c : Prop} [Decidable c] {m : Res ω} (h : c) : gd c m = m := if_pos h
theorem JE.add (h : JI X C pu Γ a M fun i Γ1 M1 => JI X C pu Γ1 b M1 fun j Γ2 M2 => k (.own (.val (.int (i + j)))) Γ2 M2) : JE X C pu Γ (.BinOp a .Add b pos) M k :=
  JE.of (pe_op op_add pe_sem pe_sem) (JT.ints (gv := fun i j => .int (i + j)) (d := fun i j => .int (i + j)) (P := fun _ _ => True) (fun i j H Q _ q => ⟨i, j, rfl, rfl, q⟩) (fun _ _ _ => .int _)
    (h.mono fun _ _ _ ⟨i, e, q⟩ => ⟨i, e, q.mono fun _ _ M2 ⟨j, e, q⟩ => ⟨j, e, M2, fun _ => ⟨rfl, trivial⟩, q⟩⟩))
theorem JE.sub (h : JI X C pu Γ a M fun i Γ1 M1 => JI X C pu Γ1 b M1 fun j Γ2 M2 => k (.own (.val (.int (i - j)))) Γ2 M2) : JE X C pu Γ (.BinOp a .Sub b pos) M k :=
  JE.of (pe_op op_sub pe_sem pe_sem) (JT.ints (gv := fun i j => .int (i - j)) (d := fun i j => .int (i - j)) (P := fun _ _ => True) (fun i j H Q _ q => ⟨i, j, rfl, rfl, q⟩) (fun _ _ _ => .int _)
    (h.mono fun _ _ _ ⟨i, e, q⟩ => ⟨i, e, q.mono fun _ _ M2 ⟨j, e, q⟩ => ⟨j, e, M2, fun _ => ⟨rfl, trivial⟩, q⟩⟩))
/-- products: sgl factor below 2^64, or both below 2^5000 -/
def mulOk (i j : Int) : Prop := (i.natAbs < 2 ^ 64 ∨ j.natAbs < 2 ^ 64) ∨ (i.natAbs < 2 ^ 5000 ∧ j.natAbs < 2 ^ 5000)
instance (i j : Int) : Decidable (mulOk i j) := inferInstanceAs (Decidable (_ ∨ _))
theorem mulOk.ok {i j : Int} (h : mulOk i j) : CMul i j ∨ CMulW i j := by
  rcases h with (h | h) | ⟨h1, h2⟩
  · exact .inl (.inl (by omega))
  · exact .inl (.inr (by omega))
  · exact .inr (wide_mul h1 h2 (by decide) (by decide) (by decide))
theorem op_mulB {X : Cx} : OpR X (binaryOp .Mult) (rI mulOk fun i j => .int (i * j)) := by
  intro pins s σ H x y v u Q I rx ry ⟨i, j, e1, e2, hc, q⟩
  rcases hc.ok with h | h
  · exact op_mul pins s σ H x y v u Q I rx ry ⟨i, j, e1, e2, h, q⟩
  · exact op_mulW pins s σ H x y v u Q I rx ry ⟨i, j, e1, e2, h, q⟩
/-- with a guard, or with a proof -/
theorem JE.mul (h : JI X C pu Γ a M fun i Γ1 M1 => JI X C pu Γ1 b M1 fun j Γ2 M2 => ∃ M3, (M2 ≠ .un → M2 = M3 ∧ mulOk i j) ∧ k (.own (.val (.int (i * j)))) Γ2 M3) : JE X C pu Γ (.BinOp a .Mult b pos) M k :=
  JE.of (pe_op op_mulB pe_sem pe_sem) (JT.ints (gv := fun i j => .int (i * j)) (d := fun i j => .int (i * j)) (fun i j H Q c q => ⟨i, j, rfl, rfl, c, q⟩) (fun _ _ _ => .int _) h)
def divOk (j : Int) : Prop := 0 < j ∧ j < 2 ^ 5000
instance (j : Int) : Decidable (divOk j) := inferInstanceAs (Decidable (_ ∧ _))
theorem JE.fdiv (h : JI X C pu Γ a M fun i Γ1 M1 => JI X C pu Γ1 b M1 fun j Γ2 M2 => ∃ M3, (M2 ≠ .un → M2 = M3 ∧ divOk j) ∧ k (.own (.val (.int (i / j)))) Γ2 M3) : JE X C pu Γ (.BinOp a .FloorDiv b pos) M k :=
  JE.of (pe_op op_fdivW pe_sem pe_sem) (JT.ints (gv := fun i j => .int (i / j)) (d := fun i j => .int (i / j)) (P := fun _ j => divOk j) (fun i j H Q c q => ⟨i, j, rfl, rfl, wide_div (b := 5000) c.1 (by have := c.1; have := c.2; omega) (by decide) (by decide), q⟩) (fun _ _ _ => .int _) h)
theorem JE.mod (h : JI X C pu Γ a M fun i Γ1 M1 => JI X C pu Γ1 b M1 fun j Γ2 M2 => ∃ M3, (M2 ≠ .un → M2 = M3 ∧ 0 < j) ∧ k (.own (.val (.int (i % j)))) Γ2 M3) : JE X C pu Γ (.BinOp a .Mod b pos) M k :=
  JE.of (pe_op op_mod pe_sem pe_sem) (JT.ints (gv := fun i j => .int (i % j)) (d := fun i j => .int (i % j)) (P := fun _ j => 0 < j) (fun i j H Q c q => ⟨i, j, rfl, rfl, c, q⟩) (fun _ _ _ => .int _) h)
def powOk (i j : Int) : Prop := 0 ≤ j ∧ j ≤ 1000000 ∧ i.natAbs < 2 ^ 64
instance (i j : Int) : Decidable (powOk i j) := inferInstanceAs (Decidable (_ ∧ _ ∧ _))
theorem JE.pow (h : JI X C pu Γ a M fun i Γ1 M1 => JI X C pu Γ1 b M1 fun j Γ2 M2 => ∃ M3, (M2 ≠ .un → M2 = M3 ∧ powOk i j) ∧ k (.own (.val (.int (i ^ j.toNat)))) Γ2 M3) : JE X C pu Γ (.BinOp a .Pow b pos) M k :=
  JE.of (pe_op op_pow pe_sem pe_sem) (JT.ints (gv := fun i j => .int (i ^ j.toNat)) (d := fun i j => .int (i ^ j.toNat)) (P := powOk) (fun i j H Q c q => ⟨i, j, rfl, rfl, c, q⟩) (fun _ _ _ => .int _) h)
/-- a guard stands here -/
theorem gdI {ω : Type} {c : Prop} [Decidable c] {m : Res ω} {Z : Res ω → Prop} (h : Z m) : ∃ M3, (gd c m ≠ .un → gd c m = M3 ∧ c) ∧ Z M3 := ⟨m, gd_ok, h⟩
/-- a proof stands here -/
theorem prI {ω : Type} {c : Prop} {m : Res ω} {Z : Res ω → Prop} (hc : c) (h : Z m) : ∃ M3, (m ≠ .un → m = M3 ∧ c) ∧ Z M3 := ⟨m, fun _ => ⟨rfl, hc⟩, h⟩

/-! ### comparisons of ints -/
/-! ### tests -/
theorem JC.of {t : TT} {kb : Bool → List SD → Res ω → Prop} (p : PT X e t) (h : JB2 X.K C pu Γ t M kb) : JC X C pu Γ e M kb :=
  fun F h0 g H σ Q he hf hG hu hx hq => semT_of p (h F h0 g H σ Q he hf hG hu hx hq)
theorem JW.of {t : TT} {kb : Bool → List SD → Res ω → Prop} (p : PW X e t) (h : JB2 X.K C pu Γ t M kb) : JW X C pu Γ e M kb :=
  fun F h0 g H σ Q he hf hG hu hx hq => semW_of p (h F h0 g H σ Q he hf hG hu hx hq)
theorem JB2.mono {t : TT} {kb kb' : Bool → List SD → Res ω → Prop} (h : JB2 K C pu Γ t M kb) (hk : ∀ o Γ' M', kb o Γ' M' → kb' o Γ' M') : JB2 K C pu Γ t M kb' :=
  fun F h0 g H σ Q he hf hG hu hx hq => h F h0 g H σ Q he hf hG hu hx fun o Γ' M' ho => hq o Γ' M' (hk o Γ' M' ho)
/-- a truth as a test -/
theorem JC.val {kb : Bool → List SD → Res ω → Prop} (h : JBo X C pu Γ e M kb) (he : ∀ whole, isTrue e X.env whole = (do let v ← whole; standAt e.pos; holding [v] (truthy v)) := by intro _; rfl) : JC X C pu Γ e M kb := by
  refine JC.of (pt_truth pe_sem he) fun F h0 g H σ Q hen hf hG hu hx hq => ?_
  refine h F h0 g H σ _ hen hf hG hu hx fun o Γ' M' ⟨b, e1, hk⟩ hm v F' h1 h2 H' x ow he' d hf' hp => ?_
  subst e1
  unfold OpdOk own at ow
  obtain rfl := ow.blV
  exact ⟨b, rfl, hq b Γ' M' hk hm F' h2 H' x he' (hf'.un d) hp⟩
end
end Tsa

/-! M3: runs within runs, tests, statements. -/
namespace Tsa
open PySem PySem.Spec PyProof.Rows L2
section
variable {K : PySem.W.Frag} {X : Cx} {C : XC} {pu : Bool} {ω β : Type} {Γ : List SD} {e a b c : Expr} {rest : List Expr} {M : Res ω} {pos : Pos} {t ta tb : TE} {k : Opd → List SD → Res ω → Prop}
/-- a run within the run -/
theorem XOk.bind {F g : Hp} {m : Res β} {kM : β → Res ω} (h : XOk K C F g (m.bind kM)) : XOk K C F g m := fun e he => h e (by rw [he]; rfl)
theorem JT.run {m : Res β} {kM : β → Res ω} {τ : β → Opd} {Δ : β → List SD} (h : JT K C pu Γ t m fun o Γ' M' => ∃ x, M' = .ok x ∧ o = τ x ∧ Γ' = Δ x) (hk : ∀ x, m = .ok x → k (τ x) (Δ x) (kM x)) : JT K C pu Γ t (m.bind kM) k := by
  intro F h0 g H σ Q he hf hG hu hx hq
  have hum : m ≠ .un := fun z => hu (by rw [z]; rfl)
  refine h F h0 g H σ Q he hf hG hum hx.bind fun o Γ' M' ⟨x, e1, e2, e3⟩ hm v F' h1 h2 H' a1 a2 a3 a4 a5 a6 => ?_
  subst e2 e3
  have em : m = .ok x := by rw [← hm, e1]
  refine hq _ _ (kM x) (hk x em) ?_ v F' h1 h2 H' a1 a2 a3 a4 a5 a6
  rw [em]; rfl
theorem JB2.run {t : TT} {kb : Bool → List SD → Res ω → Prop} {m : Res β} {kM : β → Res ω} {τ : β → Bool} {Δ : β → List SD} (h : JB2 K C pu Γ t m fun o Γ' M' => ∃ x, M' = .ok x ∧ o = τ x ∧ Γ' = Δ x) (hk : ∀ x, m = .ok x → kb (τ x) (Δ x) (kM x)) :
    JB2 K C pu Γ t (m.bind kM) kb := by
  intro F h0 g H σ Q he hf hG hu hx hq
  have hum : m ≠ .un := fun z => hu (by rw [z]; rfl)
  refine h F h0 g H σ Q he hf hG hum hx.bind fun o Γ' M' ⟨x, e1, e2, e3⟩ hm F' h2 H' a1 a2 a3 a4 => ?_
  subst e2 e3
  have em : m = .ok x := by rw [← hm, e1]
  refine hq _ _ (kM x) (hk x em) ?_ F' h2 H' a1 a2 a3 a4
  rw [em]; rfl
/-- pure and total: a value, a test -/
abbrev JVt (X : Cx) (C : XC) (Γ : List SD) (e : Expr) (o : Opd) : Prop := JE X C true Γ e (Res.ok ()) fun o' Γ' _ => o' = o ∧ Γ' = Γ
abbrev JCt (X : Cx) (C : XC) (Γ : List SD) (e : Expr) (c : Bool) : Prop := JC X C true Γ e (Res.ok ()) fun b Γ' _ => b = c ∧ Γ' = Γ
theorem xok_unit {F g : Hp} {u : Unit} : XOk K C F g (Res.ok u) := fun _ z => nomatch z
theorem JE.tot {o : Opd} (h : JVt X C Γ e o) (hk : k o Γ M) : JE X C pu Γ e M k := fun F h0 g H σ Q he hf hG hu hx hq =>
  h F h0 g H σ Q he hf hG (fun z => nomatch z) xok_unit fun o' Γ' M' ⟨e1, e2⟩ hm v F' h1 h2 H' a1 a2 a3 a4 a5 a6 => hq o Γ M hk rfl v F' h1 h2 H' a1 (e1 ▸ a2) (e2 ▸ a3) a4 a5 fun _ => ⟨(a6 rfl).1, rfl⟩
theorem JC.tot {cb : Bool} {kb : Bool → List SD → Res ω → Prop} (h : JCt X C Γ e cb) (hk : kb cb Γ M) : JC X C pu Γ e M kb := fun F h0 g H σ Q he hf hG hu hx hq =>
  h F h0 g H σ Q he hf hG (fun z => nomatch z) xok_unit fun o' Γ' M' ⟨e1, e2⟩ hm F' h2 H' a1 a2 a3 a4 => by
    subst e1 e2
    exact hq _ _ M hk rfl F' h2 H' a1 a2 a3 fun _ => ⟨(a4 rfl).1, rfl⟩

/-! ### comparisons, as values and as tests -/
/-- a comparison's two operands -/
def Cmp (X : Cx) (C : XC) (pu : Bool) {ω : Type} (Γ : List SD) (op : CmpOp) (a b : Expr) (M : Res ω) (k : Opd → List SD → Res ω → Prop) : Prop :=
  behindInMarks op b = false ∧ ∃ r, OpR X (compareOp op) r ∧ JT X.K C pu Γ (tOp r (semE X a) (semE X b)) M k
theorem Cmp.int {op : CmpOp} {g : Int → Int → Bool} (ho : OpR X (compareOp op) (rI0 fun i j => .bl (g i j))) (hm : behindInMarks op b = false)
    (h : JI X C pu Γ a M fun i Γ1 M1 => JI X C pu Γ1 b M1 fun j Γ2 M2 => k (.own (.val (.bool (g i j)))) Γ2 M2) : Cmp X C pu Γ op a b M k :=
  ⟨hm, _, ho, JT.ints (gv := fun i j => .bl (g i j)) (d := fun i j => .bool (g i j)) (P := fun _ _ => True) (fun i j H Q _ q => ⟨i, j, rfl, rfl, q⟩) (fun _ _ _ => .bl _)
    (h.mono fun _ _ _ ⟨i, e, q⟩ => ⟨i, e, q.mono fun _ _ M2 ⟨j, e, q⟩ => ⟨j, e, M2, fun _ => ⟨rfl, trivial⟩, q⟩⟩)⟩
theorem Cmp.lt (h : JI X C pu Γ a M fun i Γ1 M1 => JI X C pu Γ1 b M1 fun j Γ2 M2 => k (.own (.val (.bool (decide (i < j))))) Γ2 M2) : Cmp X C pu Γ .Lt a b M k := Cmp.int op_lt (nomark _) h
theorem Cmp.gt (h : JI X C pu Γ a M fun i Γ1 M1 => JI X C pu Γ1 b M1 fun j Γ2 M2 => k (.own (.val (.bool (decide (j < i))))) Γ2 M2) : Cmp X C pu Γ .Gt a b M k := Cmp.int op_gt (nomark _) h
theorem Cmp.ge (h : JI X C pu Γ a M fun i Γ1 M1 => JI X C pu Γ1 b M1 fun j Γ2 M2 => k (.own (.val (.bool (decide (j ≤ i))))) Γ2 M2) : Cmp X C pu Γ .GtE a b M k := Cmp.int op_ge (nomark _) h
theorem JE.cmp {op : CmpOp} (h : Cmp X C pu Γ op a b M k) : JE X C pu Γ (.Compare a [op] [b] pos) M k := by
  obtain ⟨hm, r, ho, h⟩ := h
  exact JE.of (pe_cmpR ho pe_sem pe_sem hm) h
theorem JB2.test {t : TE} {kb : Bool → List SD → Res ω → Prop} (h : JT K C pu Γ t M fun o Γ' M' => ∃ c, o = .own (.val (.bool c)) ∧ kb c Γ' M') : JB2 K C pu Γ (tTest t) M kb := by
  intro F h0 g H σ Q he hf hG hu hx hq
  refine h F h0 g H σ _ he hf hG hu hx fun o Γ' M' ⟨c, e1, hk⟩ hm v F' h1 h2 H' a1 a2 a3 a4 a5 a6 => ?_
  subst e1
  unfold OpdOk own at a2
  exact ⟨c, a2.blV, hq c Γ' M' hk hm F' h2 H' a1 a3 (a5.un a4) a6⟩
theorem JC.cmp {op : CmpOp} {kb : Bool → List SD → Res ω → Prop} (h : Cmp X C pu Γ op a b M fun o Γ' M' => ∃ c, o = .own (.val (.bool c)) ∧ kb c Γ' M') : JC X C pu Γ (.Compare a [op] [b] pos) M kb := by
  obtain ⟨hm, r, ho, h⟩ := h
  exact JC.of (pt_cmpR ho pe_sem pe_sem hm) (JB2.test h)
/-- a comparison as a total test -/
theorem JCt.cmp {op : CmpOp} {cb : Bool} (h : Cmp X C true Γ op a b (Res.ok ()) fun o Γ' _ => o = .own (.val (.bool cb)) ∧ Γ' = Γ) : JCt X C Γ (.Compare a [op] [b] pos) cb := by
  obtain ⟨hm, r, ho, h⟩ := h
  exact JC.of (pt_cmpR ho pe_sem pe_sem hm) (JB2.test (h.mono fun o Γ' M' ⟨e1, e2⟩ => ⟨cb, e1, rfl, e2⟩))
theorem JCt.val {cb : Bool} (h : JVt X C Γ e (.own (.val (.bool cb)))) (he : ∀ whole, isTrue e X.env whole = (do let v ← whole; standAt e.pos; holding [v] (truthy v)) := by intro _; rfl) : JCt X C Γ e cb :=
  JC.val (h.mono fun o Γ' M' ⟨e1, e2⟩ => ⟨cb, e1, rfl, e2⟩) he

/-! ### not, and, or, if-else -/
theorem JC.not {kb : Bool → List SD → Res ω → Prop} (h : JC X C pu Γ a M fun c Γ' M' => kb (!c) Γ' M') : JC X C pu Γ (.UnaryOp .Not a pos) M kb :=
  JC.of (pt_not pt_sem) fun F h0 g H σ Q he hf hG hu hx hq => h F h0 g H σ _ he hf hG hu hx fun c Γ' M' hk => hq (!c) Γ' M' hk
theorem JCt.not {cb : Bool} (h : JCt X C Γ a cb) : JCt X C Γ (.UnaryOp .Not a pos) (!cb) := JC.not (h.mono fun c Γ' M' ⟨e1, e2⟩ => ⟨by rw [e1], e2⟩)
/-- links of and, or: total -/
abbrev JWt (X : Cx) (C : XC) (Γ : List SD) (e : Expr) (c : Bool) : Prop := JW X C true Γ e (Res.ok ()) fun b Γ' _ => b = c ∧ Γ' = Γ
theorem JWt.or1 {cb : Bool} (h : JCt X C Γ a cb) : JWt X C Γ (.BoolOp .Or [a] pos) cb := JW.of (pw_or1 pt_sem) h
theorem JWt.and {ca cb : Bool} (h : JCt X C Γ a ca) (h2 : ca = true → JWt X C Γ (.BoolOp .And (b :: rest) pos) cb) : JWt X C Γ (.BoolOp .And (a :: b :: rest) pos) (ca && cb) :=
  JW.of (pw_and pt_sem pw_sem) fun F h0 g H σ Q he hf hG hu hx hq => h F h0 g H σ _ he hf hG hu hx fun c Γ' M' ⟨e1, e2⟩ hm F' h1 H' a1 a2 a3 a4 => by
    subst e1 e2
    cases c with
    | false => exact hq false _ _ ⟨rfl, rfl⟩ rfl F' h1 H' a1 a2 a3 a4
    | true => exact h2 rfl F' h1 g H' σ _ a2 a3 hG hu xok_unit fun c Γ' M' ⟨e1, e2⟩ hm F2 h2 H2 b1 b2 b3 b4 => hq c Γ' M' ⟨e1, e2⟩ hm F2 h2 H2 (a1.trans b1) b2 b3 fun z => ⟨(a4 z).1.trans (b4 z).1, (b4 z).2⟩
theorem JWt.or {ca cb : Bool} (h : JCt X C Γ a ca) (h2 : ca = false → JWt X C Γ (.BoolOp .Or (b :: rest) pos) cb) : JWt X C Γ (.BoolOp .Or (a :: b :: rest) pos) (ca || cb) :=
  JW.of (pw_or pt_sem pw_sem) fun F h0 g H σ Q he hf hG hu hx hq => h F h0 g H σ _ he hf hG hu hx fun c Γ' M' ⟨e1, e2⟩ hm F' h1 H' a1 a2 a3 a4 => by
    subst e1 e2
    cases c with
    | true => exact hq true _ _ ⟨rfl, rfl⟩ rfl F' h1 H' a1 a2 a3 a4
    | false => exact h2 rfl F' h1 g H' σ _ a2 a3 hG hu xok_unit fun c Γ' M' ⟨e1, e2⟩ hm F2 h2 H2 b1 b2 b3 b4 => hq c Γ' M' ⟨e1, e2⟩ hm F2 h2 H2 (a1.trans b1) b2 b3 fun z => ⟨(a4 z).1.trans (b4 z).1, (b4 z).2⟩
theorem JCt.bop {cb : Bool} (h : JWt X C Γ e cb) : JCt X C Γ e cb := JC.of pw_sem.pt h
/-- .. that may stop: in a run of its own -/
theorem JW.and1 {kb : Bool → List SD → Res ω → Prop} (h : JC X C pu Γ a M kb) : JW X C pu Γ (.BoolOp .And [a] pos) M kb := JW.of (pw_and1 pt_sem) h
theorem JW.or1 {kb : Bool → List SD → Res ω → Prop} (h : JC X C pu Γ a M kb) : JW X C pu Γ (.BoolOp .Or [a] pos) M kb := JW.of (pw_or1 pt_sem) h
theorem JW.and {kb : Bool → List SD → Res ω → Prop} (h : JC X C pu Γ a M fun c Γ1 M1 => ∃ Mt Mf, M1 = cond c Mt Mf ∧ (c = true → JW X C pu Γ1 (.BoolOp .And (b :: rest) pos) Mt kb) ∧ (c = false → kb false Γ1 Mf)) : JW X C pu Γ (.BoolOp .And (a :: b :: rest) pos) M kb :=
  JW.of (pw_and pt_sem pw_sem) fun F h0 g H σ Q he hf hG hu hx hq => h F h0 g H σ _ he hf hG hu hx fun c Γ' M' ⟨Mt, Mf, e1, h2, h3⟩ hm F' h1 H' a1 a2 a3 a4 => by
    subst hm
    cases c with
    | false => exact hq false _ Mf (h3 rfl) e1.symm F' h1 H' a1 a2 a3 a4
    | true =>
      have e1 : M' = Mt := e1
      subst e1
      exact h2 rfl F' h1 g H' σ _ a2 a3 hG hu (hx.mono a1) fun c Γ' M' hk hm F2 h2 H2 b1 b2 b3 b4 => hq c Γ' M' hk hm F2 h2 H2 (a1.trans b1) b2 b3 fun z => ⟨(a4 z).1.trans (b4 z).1, (b4 z).2.trans (a4 z).2⟩
theorem JW.or {kb : Bool → List SD → Res ω → Prop} (h : JC X C pu Γ a M fun c Γ1 M1 => ∃ Mt Mf, M1 = cond c Mt Mf ∧ (c = true → kb true Γ1 Mt) ∧ (c = false → JW X C pu Γ1 (.BoolOp .Or (b :: rest) pos) Mf kb)) : JW X C pu Γ (.BoolOp .Or (a :: b :: rest) pos) M kb :=
  JW.of (pw_or pt_sem pw_sem) fun F h0 g H σ Q he hf hG hu hx hq => h F h0 g H σ _ he hf hG hu hx fun c Γ' M' ⟨Mt, Mf, e1, h3, h2⟩ hm F' h1 H' a1 a2 a3 a4 => by
    subst hm
    cases c with
    | true => exact hq true _ Mt (h3 rfl) e1.symm F' h1 H' a1 a2 a3 a4
    | false =>
      have e1 : M' = Mf := e1
      subst e1
      exact h2 rfl F' h1 g H' σ _ a2 a3 hG hu (hx.mono a1) fun c Γ' M' hk hm F2 h2 H2 b1 b2 b3 b4 => hq c Γ' M' hk hm F2 h2 H2 (a1.trans b1) b2 b3 fun z => ⟨(a4 z).1.trans (b4 z).1, (b4 z).2.trans (a4 z).2⟩
theorem JC.bop {kb : Bool → List SD → Res ω → Prop} (h : JW X C pu Γ e M kb) : JC X C pu Γ e M kb := JC.of pw_sem.pt h
/-- as values -/
theorem JE.one {op} (h : JE X C pu Γ a M k) : JE X C pu Γ (.BoolOp op [a] pos) M k := JE.of (pe_one pe_sem) h
theorem JE.not (h : JBo X C pu Γ a M fun c Γ' M' => k (.own (.val (.bool (!c)))) Γ' M') : JE X C pu Γ (.UnaryOp .Not a pos) M k :=
  JE.of (pe_not pe_sem) fun F h0 g H σ Q he hf hG hu hx hq => h F h0 g H σ _ he hf hG hu hx fun o Γ' M' ⟨c, e1, hk⟩ hm v F' h1 h2 H' a1 a2 a3 a4 a5 a6 => by
    subst e1
    unfold OpdOk own at a2
    exact ⟨c, a2.blV, hq _ Γ' M' hk hm _ F' emp h2 H' a1 (by unfold OpdOk own; exact .bl _) a3 .emp (a5.un a4).emp a6⟩
theorem JVt.not {cb : Bool} (h : JVt X C Γ a (.own (.val (.bool cb)))) : JVt X C Γ (.UnaryOp .Not a pos) (.own (.val (.bool (!cb)))) := JE.not (h.mono fun o Γ' M' ⟨e1, e2⟩ => ⟨cb, e1, rfl, e2⟩)
theorem JE.and (h : JBo X C pu Γ a M fun c Γ1 M1 => ∃ Mt Mf, M1 = cond c Mt Mf ∧ (c = true → JE X C pu Γ1 (.BoolOp .And (b :: rest) pos) Mt k) ∧ (c = false → k (.own (.val (.bool false))) Γ1 Mf)) : JE X C pu Γ (.BoolOp .And (a :: b :: rest) pos) M k :=
  JE.of (pe_and pe_sem pe_sem) fun F h0 g H σ Q he hf hG hu hx hq => h F h0 g H σ _ he hf hG hu hx fun o Γ' M' ⟨c, e0, Mt, Mf, e1, h2, h3⟩ hm v F' hv h1 H' a1 aw a2 d a3 a4 => by
    subst hm e0
    unfold OpdOk own at aw
    refine ⟨c, aw.blV, ?_⟩
    have a3' := a3.un d
    cases c with
    | false =>
      rw [if_neg Bool.false_ne_true]
      exact hq _ _ Mf (h3 rfl) e1.symm _ F' emp h1 H' a1 (by unfold OpdOk own; exact .bl _) a2 .emp a3'.emp a4
    | true =>
      have e1 : M' = Mt := e1
      subst e1
      rw [if_pos rfl]
      exact h2 rfl F' h1 g H' σ _ a2 a3' hG hu (hx.mono a1) fun o Γ' M' hk hm v F2 h1' h2 H2 b1 bw b2 bd b3 b4 => hq o Γ' M' hk hm v F2 h1' h2 H2 (a1.trans b1) bw b2 bd b3 fun z => ⟨(a4 z).1.trans (b4 z).1, (b4 z).2.trans (a4 z).2⟩
theorem JVt.and {ca cb : Bool} (h : JVt X C Γ a (.own (.val (.bool ca)))) (h2 : ca = true → JVt X C Γ (.BoolOp .And (b :: rest) pos) (.own (.val (.bool cb)))) : JVt X C Γ (.BoolOp .And (a :: b :: rest) pos) (.own (.val (.bool (ca && cb)))) :=
  JE.and (h.mono fun o Γ' M' ⟨e1, e2⟩ => ⟨ca, e1, M', M', by cases ca <;> rfl, fun z => by subst z e2; exact JE.tot (h2 rfl) ⟨rfl, rfl⟩, fun z => ⟨by rw [z, Bool.false_and], e2⟩⟩)
/-- sgl of two values, by a test -/
theorem JE.ifx (h : JC X C pu Γ c M fun cb Γ1 M1 => ∃ Mt Mf, M1 = cond cb Mt Mf ∧ (cb = true → JE X C pu Γ1 a Mt k) ∧ (cb = false → JE X C pu Γ1 b Mf k)) : JE X C pu Γ (.IfExp c a b pos) M k :=
  JE.of (pe_ifExp pt_sem pe_sem pe_sem) fun F h0 g H σ Q he hf hG hu hx hq => h F h0 g H σ _ he hf hG hu hx fun cb Γ' M' ⟨Mt, Mf, e1, h2, h3⟩ hm F' h1 H' a1 a2 a3 a4 => by
    subst hm
    cases cb with
    | true =>
      have e1 : M' = Mt := e1
      subst e1
      rw [if_pos rfl]
      exact h2 rfl F' h1 g H' σ _ a2 a3 hG hu (hx.mono a1) fun o Γ' M' hk hm v F2 h1' h2 H2 b1 bw b2 bd b3 b4 => hq o Γ' M' hk hm v F2 h1' h2 H2 (a1.trans b1) bw b2 bd b3 fun z => ⟨(a4 z).1.trans (b4 z).1, (b4 z).2.trans (a4 z).2⟩
    | false =>
      have e1 : M' = Mf := e1
      subst e1
      rw [if_neg Bool.false_ne_true]
      exact h3 rfl F' h1 g H' σ _ a2 a3 hG hu (hx.mono a1) fun o Γ' M' hk hm v F2 h1' h2 H2 b1 bw b2 bd b3 b4 => hq o Γ' M' hk hm v F2 h1' h2 H2 (a1.trans b1) bw b2 bd b3 fun z => ⟨(a4 z).1.trans (b4 z).1, (b4 z).2.trans (a4 z).2⟩
end
end Tsa

/-! M4: statements, targets, loops. -/
namespace Tsa
open PySem PySem.Spec PyProof.Rows L2

inductive EndK where
  | rt (s : SD) (Γ : List SD)
  | bk (Γ : List SD)
  | ct (Γ : List SD)
  | no
def EndOk (K : PySem.W.Frag) (C : XC) (F g : Hp) (D : Ends) : EndK → Prop
  | .rt s Γ => ∀ (v : V) (F' h1 h2 : Hp) (σ : L2.St) (H : Hp), Sub F F' → own K F' C.G s h1 v → EnvR K F' C.G Γ h2 σ → Dis h1 h2 → Fits F' (cup h1 h2) g H → D.rt v H
  | .bk Γ => ∀ (F' h : Hp) (σ : L2.St) (H : Hp), Sub F F' → EnvR K F' C.G Γ h σ → Fits F' h g H → D.bk σ H
  | .ct Γ => ∀ (F' h : Hp) (σ : L2.St) (H : Hp), Sub F F' → EnvR K F' C.G Γ h σ → Fits F' h g H → D.ct σ H
  | .no => True
theorem EndOk.mono {K : PySem.W.Frag} {C : XC} {F F' g : Hp} {D : Ends} (x : Sub F F') : ∀ {e : EndK}, EndOk K C F g D e → EndOk K C F' g D e
  | .rt s Γ, q => fun v F2 h1 h2 σ H y => q v F2 h1 h2 σ H (x.trans y)
  | .bk Γ, q => fun F2 h σ H y => q F2 h σ H (x.trans y)
  | .ct Γ, q => fun F2 h σ H y => q F2 h σ H (x.trans y)
  | .no, _ => trivial
theorem EndOk.nx {K : PySem.W.Frag} {C : XC} {F g : Hp} {D : Ends} {n : L2.St → Hp → Prop} : ∀ {e : EndK}, EndOk K C F g D e → EndOk K C F g { D with nx := n } e
  | .rt s Γ, q => q
  | .bk Γ, q => q
  | .ct Γ, q => q
  | .no, _ => trivial

/-- THE JUDGEMENT of statements: k behind it, en for what leaves -/
def JST (K : PySem.W.Frag) (C : XC) {ω : Type} (Γ : List SD) (t : TS) (M : Res ω) (k : List SD → Res ω → Prop) (en : ω → EndK) : Prop :=
  ∀ (F h g H : Hp) (σ : L2.St) (D : Ends), EnvR K F C.G Γ h σ → Fits F h g H → Sub C.G g → M ≠ .un → XOk K C F g M →
    (∀ (Γ' : List SD) (M' : Res ω), k Γ' M' → M' = M → ∀ (F' h' : Hp) (σ' : L2.St) (H' : Hp), Sub F F' → EnvR K F' C.G Γ' h' σ' → Fits F' h' g H' → D.nx σ' H') →
    (∀ w, M = .ok w → EndOk K C F g D (en w)) → t D σ H
@[irreducible] def semS (X : Cx) (st : Stmt) : TS := fun D σ H => ∀ pins s, Inv X pins σ H s → wpAny (model X.prog X.w) X.A (exec st X.env) (SP X pins D) X.xe s
theorem ps_sem {X : Cx} {st : Stmt} : PS X st (semS X st) := ⟨fun pins s σ H D I h => by unfold semS at h; exact h pins s I⟩
@[irreducible] def semL (X : Cx) (sts : List Stmt) : TS := fun D σ H => ∀ pins s, Inv X pins σ H s → wpAny (model X.prog X.w) X.A (execs sts X.env) (SP X pins D) X.xe s
theorem pss_sem {X : Cx} {sts : List Stmt} : PSs X sts (semL X sts) := ⟨fun pins s σ H D I h => by unfold semL at h; exact h pins s I⟩
theorem semL_run {X : Cx} {sts : List Stmt} {σ : L2.St} {H : Hp} {D : Ends} (h : semL X sts D σ H) : ∀ pins s, Inv X pins σ H s → wpAny (model X.prog X.w) X.A (execs sts X.env) (SP X pins D) X.xe s := by unfold semL at h; exact h
theorem semS_of {X : Cx} {st : Stmt} {t : TS} (p : PS X st t) {σ : L2.St} {H : Hp} {D : Ends} (h : t D σ H) : semS X st D σ H := by unfold semS; exact fun pins s I => p.run pins s σ H D I h
theorem semL_of {X : Cx} {sts : List Stmt} {t : TS} (p : PSs X sts t) {σ : L2.St} {H : Hp} {D : Ends} (h : t D σ H) : semL X sts D σ H := by unfold semL; exact fun pins s I => p.run pins s σ H D I h
abbrev JS (X : Cx) (C : XC) {ω : Type} (Γ : List SD) (st : Stmt) (M : Res ω) (k : List SD → Res ω → Prop) (en : ω → EndK) : Prop := JST X.K C Γ (semS X st) M k en
abbrev JL (X : Cx) (C : XC) {ω : Type} (Γ : List SD) (sts : List Stmt) (M : Res ω) (k : List SD → Res ω → Prop) (en : ω → EndK) : Prop := JST X.K C Γ (semL X sts) M k en
section
variable {K : PySem.W.Frag} {X : Cx} {C : XC} {ω β : Type} {Γ : List SD} {e a b c : Expr} {st : Stmt} {rest : List Stmt} {M : Res ω} {pos : Pos} {t u : TS} {k : List SD → Res ω → Prop} {en : ω → EndK}
theorem JS.of (p : PS X st t) (h : JST X.K C Γ t M k en) : JS X C Γ st M k en := fun F h0 g H σ D he hf hG hu hx hk hn => semS_of p (h F h0 g H σ D he hf hG hu hx hk hn)
theorem JL.of {sts : List Stmt} (p : PSs X sts t) (h : JST X.K C Γ t M k en) : JL X C Γ sts M k en := fun F h0 g H σ D he hf hG hu hx hk hn => semL_of p (h F h0 g H σ D he hf hG hu hx hk hn)
theorem JL.nil (hk : k Γ M) : JL X C Γ [] M k en := JL.of pss_nil fun F h0 g H σ D he hf hG hu hx q hn => q Γ M hk rfl F h0 σ H .refl he hf
theorem JL.cons (h : JS X C Γ st M (fun Γ' M' => JL X C Γ' rest M' k en) en) : JL X C Γ (st :: rest) M k en :=
  JL.of (pss_cons ps_sem pss_sem) fun F h0 g H σ D he hf hG hu hx q hn => h F h0 g H σ _ he hf hG hu hx
    (fun Γ' M' z hm F' h' σ' H' x he' hf' => by
      subst hm
      exact z F' h' g H' σ' D he' hf' hG hu (hx.mono x) (fun Γ2 M2 z2 hm2 F2 h2 σ2 H2 y => q Γ2 M2 z2 hm2 F2 h2 σ2 H2 (x.trans y)) fun w hw => (hn w hw).mono x)
    fun w hw => (hn w hw).nx
theorem JS.expr (h : JE X C false Γ e M fun _ Γ' M' => k Γ' M') (hs : swapsWith e none pos.line X.env = pure false := by rfl) : JS X C Γ (.Expr e pos) M k en :=
  JS.of (ps_expr pe_sem hs) fun F h0 g H σ D he hf hG hu hx q hn => h F h0 g H σ _ he hf hG hu hx fun o Γ' M' hk hm v F' h1 h2 H' x ow he' d hf' _ => q Γ' M' hk hm F' h2 σ H' x he' (hf'.un d)
/-- what a return hands back -/
def Rt {ω : Type} (en : ω → EndK) (o : Opd) (Γ : List SD) (M : Res ω) : Prop := ∃ w s Γ', o = .own s ∧ M = .ok w ∧ en w = .rt s Γ' ∧ Le Γ Γ'
theorem JS.ret (h : JE X C false Γ e M fun o Γ' M' => Rt en o Γ' M') : JS X C Γ (.Return (some e) pos) M k en :=
  JS.of (ps_ret pe_sem) fun F h0 g H σ D he hf hG hu hx q hn => h F h0 g H σ _ he hf hG hu hx fun o Γ' M' ⟨w, s, Γ2, e1, e2, e3, hl⟩ hm v F' h1 h2 H' x ow he' d hf' _ => by
    subst e1 hm
    have z := (hn w e2).mono x
    rw [e3] at z
    exact z v F' h1 h2 σ H' .refl ow (hl.ok he') d hf'
/-- if -/
theorem JS.ite {A B : List Stmt} (h : JC X C false Γ c M fun cb Γ1 M1 => ∃ Mt Mf, M1 = cond cb Mt Mf ∧ (cb = true → JL X C Γ1 A Mt k en) ∧ (cb = false → JL X C Γ1 B Mf k en)) : JS X C Γ (.If c A B pos) M k en :=
  JS.of (ps_if pt_sem pss_sem pss_sem) fun F h0 g H σ D he hf hG hu hx q hn => h F h0 g H σ _ he hf hG hu hx fun cb Γ1 M1 ⟨Mt, Mf, e1, h2, h3⟩ hm F' h1 H' a1 a2 a3 _ => by
    subst hm
    cases cb with
    | true =>
      have e1 : M1 = Mt := e1
      subst e1
      rw [if_pos rfl]
      exact h2 rfl F' h1 g H' σ D a2 a3 hG hu (hx.mono a1) (fun Γ2 M2 z2 hm2 F2 h2 σ2 H2 y => q Γ2 M2 z2 hm2 F2 h2 σ2 H2 (a1.trans y)) fun w hw => (hn w hw).mono a1
    | false =>
      have e1 : M1 = Mf := e1
      subst e1
      rw [if_neg Bool.false_ne_true]
      exact h3 rfl F' h1 g H' σ D a2 a3 hG hu (hx.mono a1) (fun Γ2 M2 z2 hm2 F2 h2 σ2 H2 y => q Γ2 M2 z2 hm2 F2 h2 σ2 H2 (a1.trans y)) fun w hw => (hn w hw).mono a1
def orW {ω β : Type} (kM : β → Res ω) : β ⊕ ω → Res ω
  | .inl x => kM x
  | .inr w => .ok w
def orE {ω β : Type} (en : ω → EndK) : β ⊕ ω → EndK
  | .inl _ => .no
  | .inr w => en w
/-! ### targets -/
theorem EnvR.put {F G : Hp} {h h1 : Hp} {σ : L2.St} {i : Nat} {s : SD} {v : V} (he : EnvR K F G Γ h σ) (hi : i < Γ.length) (ow : own K F G s h1 v) (d : Dis h1 h) (fg : Dis F G) : EnvR K F G (Γ.set i s) (cup h1 h) (σ.set i (some v)) := by
  obtain ⟨o, k1, k2, e, s1, s2, d12, w, back⟩ := he.at (i := i) (s := Γ[i]) (by simp [hi])
  exact back F s (some v) h1 _ .refl fg (.of ow) (d.mono .refl s2) .l (s2.trans (.r d))
def semG (X : Cx) (tg : Expr) : TG := fun v σ H Q => ∀ pins s u, Inv X pins σ H s → RelV v u → wpAny (model X.prog X.w) X.A (assign tg X.env u) (fun _ s' => ∃ σ' H', Inv X pins σ' H' s' ∧ Q σ' H') X.xe s
theorem pg_sem {X : Cx} {tg : Expr} : PG X tg (semG X tg) := ⟨fun pins s σ H v u Q I r h => h pins s u I r⟩
/-- a thing is stored; ws: where it may be written -/
def JG (X : Cx) (C : XC) (ws : Nat → Prop) (Γ : List SD) (tg : Expr) (s : SD) (k : List SD → Prop) : Prop :=
  ∀ (F h1 h g H : Hp) (σ : L2.St) (v : V) (Q : L2.St → Hp → Prop), EnvR X.K F C.G Γ h σ → own X.K F C.G s h1 v → Dis h1 h → Fits F (cup h1 h) g H → Sub C.G g →
    (∀ Γ', k Γ' → ∀ (h' : Hp) (σ' : L2.St), EnvR X.K F C.G Γ' h' σ' → Fits F h' g H → (∀ j, ¬ ws j → σ'[j]? = σ[j]?) → σ'.length = σ.length → Sub h h' → Q σ' H) → semG X tg v σ H Q
def semGs (X : Cx) (ts : List Expr) : TGs := fun vs σ H Q => ∀ pins s us, Inv X pins σ H s → Vals vs us → wpAny (model X.prog X.w) X.A (assignInOrder ((assignEach ts X.env).map (·.2)) us) (fun _ s' => ∃ σ' H', Inv X pins σ' H' s' ∧ Q σ' H') X.xe s
theorem pgs_sem {X : Cx} {ts : List Expr} : PGs X ts (semGs X ts) := ⟨fun pins s σ H vs us Q I r h => h pins s us I r⟩
def JGs (X : Cx) (C : XC) (ws : Nat → Prop) (Γ : List SD) (ts : List Expr) (ss : List SD) (k : List SD → Prop) : Prop :=
  ∀ (F h1 h g H : Hp) (σ : L2.St) (vs : List V) (Q : L2.St → Hp → Prop), EnvR X.K F C.G Γ h σ → ownL X.K F C.G ss h1 vs → Dis h1 h → Fits F (cup h1 h) g H → Sub C.G g →
    (∀ Γ', k Γ' → ∀ (h' : Hp) (σ' : L2.St), EnvR X.K F C.G Γ' h' σ' → Fits F h' g H → (∀ j, ¬ ws j → σ'[j]? = σ[j]?) → σ'.length = σ.length → Sub h h' → Q σ' H) → semGs X ts vs σ H Q
variable {ws : Nat → Prop}
theorem JG.name {i : Nat} {x : Str} {s : SD} {kg : List SD → Prop} (hk : kg (Γ.set i s)) (hN : X.N.Nodup) (hi : X.N[i]? = some x := by rfl) (hx : Loc X.env.scope x := by first | exact Or.inl rfl | exact Or.inr rfl)
    (hf : X.fn x = true ∨ X.env.scope.names.lookup x = some .local := by first | exact .inl rfl | exact .inr rfl | assumption) (hl : i < Γ.length := by exact Nat.le_of_ble_eq_true rfl) (hw : ws i := by first | trivial | decide) : JG X C ws Γ (.Name x pos) s kg :=
  fun F h1 h g H σ v Q he ow d hf' hG hq pins s' u I r => (pg_name hN hi hx hf).run pins s' σ H v u Q I r (hq _ hk _ _ (he.put hl ow d (hf'.G hG)) hf' (fun j hj => List.getElem?_set_ne (fun z => hj (by rw [← z]; exact hw))) (List.length_set ..) (.r d))
theorem JGs.nil {kg : List SD → Prop} (hk : kg Γ) : JGs X C ws Γ [] [] kg := fun F h1 h g H σ vs Q he ow d hf' hG hq pins s' us I r => by
  unfold ownL at ow
  exact pgs_nil.run pins s' σ H vs us Q I r ⟨ow, hq _ hk _ _ he (hf'.un d) (fun _ _ => rfl) rfl .refl⟩
theorem JGs.cons {e : Expr} {es : List Expr} {s : SD} {ss : List SD} {kg : List SD → Prop} (h : JG X C ws Γ e s fun Γ' => JGs X C ws Γ' es ss kg)
    (hs : (assignEach (e :: es) X.env).map (·.2) = assign e X.env :: (assignEach es X.env).map (·.2) := by rfl) : JGs X C ws Γ (e :: es) (s :: ss) kg := fun F h1 h2 g H σ vs Q he ow d hf' hG hq pins s' us I r => by
  unfold ownL at ow
  obtain ⟨v, vr, k1, k2, e1, s1, s2, d12, ow1, ow2⟩ := ow
  refine (pgs_cons pg_sem pgs_sem hs).run pins s' σ H vs us Q I r ⟨v, vr, e1, ?_⟩
  have dk2 : Dis k2 (cup k1 h2) := (Dis.cup d12 (d.mono s2 .refl).symm).symm
  have f1 : Fits F (cup k2 (cup k1 h2)) g H := hf'.sub (Sub.cup (s2.trans .l) (Sub.cup (s1.trans .l) (.r d)))
  refine h F k1 h2 (cup k2 g) H σ v _ he ow1 (d.mono s1 .refl) (f1.out dk2) (hG.trans (.r (f1.hg.mono .l .refl))) fun Γ' hk' h' σ' he' hf2 o1 l1 b1 => ?_
  exact hk' F k2 h' g H σ' vr Q he' ow2 hf2.dis (hf2.inn (f1.hg.mono .l .refl)) hG fun Γ2 hk2 h3 σ3 he3 hf3 o2 l2 b2 => hq Γ2 hk2 h3 σ3 he3 hf3 (fun j hj => (o2 j hj).trans (o1 j hj)) (l2.trans l1) (b1.trans b2)
theorem ownL_len {F G : Hp} : ∀ {ss : List SD} {h : Hp} {vs : List V}, ownL K F G ss h vs → vs.length = ss.length
  | [], _, _, q => by unfold ownL at q; rw [q]; rfl
  | s :: ss, _, _, q => by
    unfold ownL at q
    obtain ⟨v, vr, k2, k3, e, _, _, _, _, q⟩ := q
    rw [e, List.length_cons, List.length_cons, ownL_len q]
/-- .. a locked tuple -/
theorem ownL_vals {F G h : Hp} : ∀ {ds : List PyData} {vs : List V}, ownL K F G (ds.map .val) h vs → DtL K F vs ds
  | [], _, q => by unfold ownL at q; rw [show _ = [] from q]; exact .nil
  | d :: ds, _, q => by
    simp only [List.map_cons] at q
    unfold ownL at q
    obtain ⟨v, vr, k2, k3, e, _, _, _, q1, q2⟩ := q
    unfold own at q1
    rw [e]
    exact .cons q1 (ownL_vals q2)
theorem ownL_of {F G h : Hp} : ∀ {ds : List PyData} {vs : List V}, DtL K F vs ds → ownL K F G (ds.map .val) h vs
  | [], _, q => by cases q; unfold ownL; rfl
  | d :: ds, _, q => by
    cases q with
    | cons q1 q2 =>
      simp only [List.map_cons]
      unfold ownL
      exact ⟨_, _, emp, h, rfl, .emp, .refl, .emp, by unfold own; exact q1, ownL_of q2⟩
theorem JG.tupV {es : List Expr} {n : Nat} {ds : List PyData} {kg : List SD → Prop} (hc : X.calm = true) (h : JGs X C ws Γ es (ds.map .val) kg) (hn : (assignEach es X.env).length = ds.length := by rfl) (hst : (assignEach es X.env).findIdx? (·.1) = none := by rfl) :
    JG X C ws Γ (.Tuple es n pos) (.val (.tuple ds)) kg := fun F h1 h2 g H σ v Q he ow d hf' hG hq pins s' u I r => by
  unfold own at ow
  obtain ⟨p, vs, e1, q1, q2⟩ := ow.tupV
  refine (pg_tup hc pgs_sem hn hst).run pins s' σ H v u Q I r ⟨p, vs, e1, SqT.mono hf'.fH q1, q2.len, ?_⟩
  exact h F emp h2 g H σ vs Q he (ownL_of q2) .emp (hf'.un d).emp hG hq
/-- name = value -/
theorem JS.set {i : Nat} {x : Str} {pos' : Pos} (hN : X.N.Nodup) (h : JE X C false Γ e M fun o Γ' M' => ∃ s, o = .own s ∧ i < Γ'.length ∧ k (Γ'.set i s) M') (hi : X.N[i]? = some x := by rfl) (hx : Loc X.env.scope x := by first | exact Or.inl rfl | exact Or.inr rfl)
    (hs : swapsWith e (some (.Name x pos')) pos.line X.env = pure false := by rfl) (hf : X.fn x = true ∨ X.env.scope.names.lookup x = some .local := by first | exact .inl rfl | exact .inr rfl | assumption) :
    JS X C Γ (.Assign [.Name x pos'] e pos) M k en :=
  JS.of (ps_set hN hi hx pe_sem hs hf) fun F h0 g H σ D he hf hG hu hx q hn => h F h0 g H σ _ he hf hG hu hx fun o Γ' M' ⟨s, e1, hl, hk⟩ hm v F' k1 k2 H' x ow he' d hf' _ => by
    subst e1
    exact q _ M' hk hm F' _ _ H' x (he'.put hl ow d (hf'.G hG)) hf'
end
end Tsa

/-! M5: what is walked, for, while, comprehensions. -/
namespace Tsa
open PySem PySem.Spec PyProof.Rows L2

/-- sizes that hold of every heap -/
def Sz (K : PySem.W.Frag) (H : Hp) : Prop := (∀ a xs, SqL K H a xs → xs.length ≤ 16777216) ∧ (∀ a xs, SqT K H a xs → xs.length ≤ 16777216)
theorem sz_of {X : Cx} {pins : List (Addr × Obj)} {σ : L2.St} {H : Hp} {s : Shared} (I : Inv X pins σ H s) : Sz X.K H :=
  ⟨fun a xs h => let ⟨_, _, _, z⟩ := I.list h; z, fun a xs h => let ⟨_, _, _, z⟩ := I.tuple h; z⟩
theorem semE_sz {X : Cx} {e : Expr} {σ : L2.St} {H : Hp} {Q : VK} (h : semE X e σ H fun v H' => Sz X.K H' → Q v H') : semE X e σ H Q := by
  unfold semE at h ⊢
  exact fun pins s I => wpAny_mono (h pins s I) (fun u s' ⟨v, H', I', r, q⟩ => ⟨v, H', I', r, q (sz_of I')⟩) fun _ _ z => z

/-- a loop's step: on, broken off, or out -/
inductive Lp (τ ω : Type) where
  | nx (t : τ)
  | bk (t : τ)
  | rt (w : ω)
def lpGo {τ ω : Type} (go : τ → Res (τ ⊕ ω)) : Lp τ ω → Res (τ ⊕ ω)
  | .nx t => go t
  | .bk t => .ok (.inl t)
  | .rt w => .ok (.inr w)
def forL {α τ ω : Type} (f : α → τ → Res (Lp τ ω)) : List α → τ → Res (τ ⊕ ω)
  | [], t => .ok (.inl t)
  | x :: xs, t => (f x t).bind (lpGo (forL f xs))
def forS {α τ : Type} (f : α → τ → Res τ) : List α → τ → Res τ
  | [], t => .ok t
  | x :: xs, t => (f x t).bind fun t' => forS f xs t'
def whileL {τ ω : Type} (c : τ → Res Bool) (f : τ → Res (Lp τ ω)) : Nat → τ → Res (τ ⊕ ω)
  | 0, _ => .un
  | n + 1, t => (c t).bind fun b => cond b ((f t).bind (lpGo (whileL c f n))) (.ok (.inl t))
def whileS {τ : Type} (c : τ → Res Bool) (f : τ → Res τ) : Nat → τ → Res τ
  | 0, _ => .un
  | n + 1, t => (c t).bind fun b => cond b ((f t).bind fun t' => whileS c f n t') (.ok t)

/-- what a loop draws -/
structure SrcGood (K : PySem.W.Frag) (G F g : Hp) (J : It) (ys : List SD) : Prop where
  size : ys.length ≤ 16777216
  stop : ∀ i F2 h H, Sub F F2 → Fits F2 h g H → ys.length ≤ i → J.stop i H
  go : ∀ i s F2 h H, Sub F F2 → Fits F2 h g H → ys[i]? = some s → J.go i H ∧ ∀ x H', J.yld i H x H' → ∃ F3, Sub F2 F3 ∧ own K F3 G s emp x ∧ Fits F3 h g H'
def semI (X : Cx) (tg iter : Expr) : TI := fun σ H R => ∀ pins s, Inv X pins σ H s → wpAny (model X.prog X.w) X.A (eval iter X.env) (fun v s1 => wpAny (model X.prog X.w) X.A (pyIter v) (PIE X pins σ tg R) X.xe s1) X.xe s
theorem pi_sem {X : Cx} {tg iter : Expr} : PI X tg iter (semI X tg iter) := ⟨fun pins s σ H R I h => h pins s I⟩
/-- THE JUDGEMENT of what is walked -/
def JSrc (X : Cx) (C : XC) (pu : Bool) {ω : Type} (Γ : List SD) (tg iter : Expr) (M : Res ω) (kS : List SD → List SD → Res ω → Prop) : Prop :=
  ∀ (F h g H : Hp) (σ : L2.St) (R : It → Hp → Prop), EnvR X.K F C.G Γ h σ → Fits F h g H → Sub C.G g → M ≠ .un → XOk X.K C F g M →
    (∀ ys Γ' M', kS ys Γ' M' → M' = M → ∀ (F' hl h2 H' : Hp) (J : It), Sub F F' → EnvR X.K F' C.G Γ' h2 σ → Fits F' h2 (cup hl g) H' → Dis hl g → SrcGood X.K C.G F' (cup hl g) J ys → (pu = true → Sub h h2 ∧ Γ' = Γ) → R J H') → semI X tg iter σ H R
section
variable {K : PySem.W.Frag} {X : Cx} {C : XC} {pu : Bool} {ω β : Type} {Γ : List SD} {e a b c tg : Expr} {st : Stmt} {rest : List Stmt} {M : Res ω} {pos : Pos} {t u : TS} {k : List SD → Res ω → Prop} {en : ω → EndK} {kS : List SD → List SD → Res ω → Prop}
theorem JSrc.of {iter : Expr} {wi : TI} (p : PI X tg iter wi) (h : ∀ (F h g H : Hp) (σ : L2.St) (R : It → Hp → Prop), EnvR X.K F C.G Γ h σ → Fits F h g H → Sub C.G g → M ≠ .un → XOk X.K C F g M →
    (∀ ys Γ' M', kS ys Γ' M' → M' = M → ∀ (F' hl h2 H' : Hp) (J : It), Sub F F' → EnvR X.K F' C.G Γ' h2 σ → Fits F' h2 (cup hl g) H' → Dis hl g → SrcGood X.K C.G F' (cup hl g) J ys → (pu = true → Sub h h2 ∧ Γ' = Γ) → R J H') → wi σ H R) : JSrc X C pu Γ tg iter M kS :=
  fun F h0 g H σ R he hf hG hu hx q pins s I => p.run pins s σ H R I (h F h0 g H σ R he hf hG hu hx q)
def isScal : PyData → Bool
  | .none => true
  | .bool _ => true
  | .int _ => true
  | .str _ => true
  | _ => false
theorem Dt.scal {S S' : Hp} {v : V} {d : PyData} (h : Dt K S v d) (c : isScal d = true) : Dt K S' v d := by
  cases h with
  | non => exact .non
  | bl b => exact .bl b
  | int i => exact .int i
  | str x => exact .str x
  | _ => cases c
/-- a sequence's items -/
inductive SeqOf : SD → Bool → List SD → Prop
  | lst {ds : List PyData} : SeqOf (.val (.list ds)) false (ds.map .val)
  | tup {ds : List PyData} : SeqOf (.val (.tuple ds)) true (ds.map .val)
  | rlst {ds : List PyData} : SeqOf (.rd (.list ds)) false (ds.map .rd)
  | rtup {ds : List PyData} : SeqOf (.rd (.tuple ds)) true (ds.map .rd)
  | mine {ds : List PyData} : SeqOf (.lst (ds.map .val)) false (ds.map .val)
  | mineR {ds : List PyData} : SeqOf (.lst (ds.map .rd)) false (ds.map .rd)
  | rscL {ds : List PyData} (c : ∀ d ∈ ds, isScal d = true) : SeqOf (.rd (.list ds)) false (ds.map .val)
  | rscT {ds : List PyData} (c : ∀ d ∈ ds, isScal d = true) : SeqOf (.rd (.tuple ds)) true (ds.map .val)
theorem ownL_rds {K : PySem.W.Frag} {F G h : Hp} : ∀ {ds : List PyData} {vs : List V}, ownL K F G (ds.map .rd) h vs → DtL K (cup F G) vs ds
  | [], _, q => by unfold ownL at q; rw [show _ = [] from q]; exact .nil
  | d :: ds, _, q => by
    simp only [List.map_cons] at q
    unfold ownL at q
    obtain ⟨v, vr, k2, k3, e, _, _, _, q1, q2⟩ := q
    unfold own at q1
    rw [e]
    exact .cons q1 (ownL_rds q2)
/-- where it lies -/
theorem SeqOf.at {s : SD} {tb : Bool} {ys : List SD} (q : SeqOf s tb ys) {F G h g H : Hp} {v : V} (ow : own K F G s h v) (hf : Fits F h g H) (hG : Sub G g) :
    ∃ p vs, v = .ref p ∧ vs.length = ys.length ∧ (∀ H' h' F', Sub F F' → Fits F' h' (cup h g) H' → if tb then SqT K H' p vs else SqL K H' p vs) ∧ ∀ (i : Nat) (s : SD), ys[i]? = some s → ∃ x, vs[i]? = some x ∧ own K F G s emp x := by
  cases q with
  | @lst ds =>
    unfold own at ow
    obtain ⟨p, vs, e, q1, q2⟩ := ow.lstV
    refine ⟨p, vs, e, by rw [q2.len, List.length_map], fun H' h' F' x f => SqL.mono (x.trans f.fH) q1, fun i s hs => ?_⟩
    rw [List.getElem?_map] at hs
    cases hd : ds[i]? with
    | none => rw [hd] at hs; cases hs
    | some d =>
      rw [hd] at hs; cases hs
      obtain ⟨x, e1, e2⟩ := q2.get hd
      exact ⟨x, e1, by unfold own; exact e2⟩
  | @tup ds =>
    unfold own at ow
    obtain ⟨p, vs, e, q1, q2⟩ := ow.tupV
    refine ⟨p, vs, e, by rw [q2.len, List.length_map], fun H' h' F' x f => SqT.mono (x.trans f.fH) q1, fun i s hs => ?_⟩
    rw [List.getElem?_map] at hs
    cases hd : ds[i]? with
    | none => rw [hd] at hs; cases hs
    | some d =>
      rw [hd] at hs; cases hs
      obtain ⟨x, e1, e2⟩ := q2.get hd
      exact ⟨x, e1, by unfold own; exact e2⟩
  | @rlst ds =>
    unfold own at ow
    obtain ⟨p, vs, e, q1, q2⟩ := ow.lstV
    refine ⟨p, vs, e, by rw [q2.len, List.length_map], fun H' h' F' x f => SqL.mono (Sub.cup (x.trans f.fH) (hG.trans ((Sub.r hf.hg).trans f.gH))) q1, fun i s hs => ?_⟩
    rw [List.getElem?_map] at hs
    cases hd : ds[i]? with
    | none => rw [hd] at hs; cases hs
    | some d =>
      rw [hd] at hs; cases hs
      obtain ⟨x, e1, e2⟩ := q2.get hd
      exact ⟨x, e1, by unfold own; exact e2⟩
  | @rtup ds =>
    unfold own at ow
    obtain ⟨p, vs, e, q1, q2⟩ := ow.tupV
    refine ⟨p, vs, e, by rw [q2.len, List.length_map], fun H' h' F' x f => SqT.mono (Sub.cup (x.trans f.fH) (hG.trans ((Sub.r hf.hg).trans f.gH))) q1, fun i s hs => ?_⟩
    rw [List.getElem?_map] at hs
    cases hd : ds[i]? with
    | none => rw [hd] at hs; cases hs
    | some d =>
      rw [hd] at hs; cases hs
      obtain ⟨x, e1, e2⟩ := q2.get hd
      exact ⟨x, e1, by unfold own; exact e2⟩
  | @rscL ds c =>
    unfold own at ow
    obtain ⟨p, vs, e, q1, q2⟩ := ow.lstV
    refine ⟨p, vs, e, by rw [q2.len, List.length_map], fun H' h' F' x f => SqL.mono (Sub.cup (x.trans f.fH) (hG.trans ((Sub.r hf.hg).trans f.gH))) q1, fun i s hs => ?_⟩
    rw [List.getElem?_map] at hs
    cases hd : ds[i]? with
    | none => rw [hd] at hs; cases hs
    | some d =>
      rw [hd] at hs; cases hs
      obtain ⟨x, e1, e2⟩ := q2.get hd
      exact ⟨x, e1, by unfold own; exact e2.scal (c d (List.mem_of_getElem? hd))⟩
  | @rscT ds c =>
    unfold own at ow
    obtain ⟨p, vs, e, q1, q2⟩ := ow.tupV
    refine ⟨p, vs, e, by rw [q2.len, List.length_map], fun H' h' F' x f => SqT.mono (Sub.cup (x.trans f.fH) (hG.trans ((Sub.r hf.hg).trans f.gH))) q1, fun i s hs => ?_⟩
    rw [List.getElem?_map] at hs
    cases hd : ds[i]? with
    | none => rw [hd] at hs; cases hs
    | some d =>
      rw [hd] at hs; cases hs
      obtain ⟨x, e1, e2⟩ := q2.get hd
      exact ⟨x, e1, by unfold own; exact e2.scal (c d (List.mem_of_getElem? hd))⟩
  | @mine ds =>
    unfold own at ow
    obtain ⟨p, vs, h', e, q0, s0, n0, ow⟩ := ow
    have q2 := ownL_vals ow
    refine ⟨p, vs, e, by rw [q2.len, List.length_map], fun H' h' F' x f => SqL.of (f.gH _ _ (cup_some q0)), fun i s hs => ?_⟩
    rw [List.getElem?_map] at hs
    cases hd : ds[i]? with
    | none => rw [hd] at hs; cases hs
    | some d =>
      rw [hd] at hs; cases hs
      obtain ⟨x, e1, e2⟩ := q2.get hd
      exact ⟨x, e1, by unfold own; exact e2⟩
  | @mineR ds =>
    unfold own at ow
    obtain ⟨p, vs, h', e, q0, s0, n0, ow⟩ := ow
    have q2 := ownL_rds ow
    refine ⟨p, vs, e, by rw [q2.len, List.length_map], fun H' h' F' x f => SqL.of (f.gH _ _ (cup_some q0)), fun i s hs => ?_⟩
    rw [List.getElem?_map] at hs
    cases hd : ds[i]? with
    | none => rw [hd] at hs; cases hs
    | some d =>
      rw [hd] at hs; cases hs
      obtain ⟨x, e1, e2⟩ := q2.get hd
      exact ⟨x, e1, by unfold own; exact e2⟩
theorem Fits.lent {F h1 h2 g H : Hp} (f : Fits F (cup h1 h2) g H) (d : Dis h1 h2) : Fits F h2 (cup h1 g) H ∧ Dis h1 g := ⟨f.out d, f.hg.mono .l .refl⟩
theorem JSrc.tup (h : JE X C pu Γ e M fun o Γ' M' => ∃ s ys, o = .own s ∧ SeqOf s true ys ∧ kS ys Γ' M') : JSrc X C pu Γ tg e M kS :=
  JSrc.of (pi_tup pe_sem) fun F h0 g H σ R he hf hG hu hx q => semE_sz (h F h0 g H σ _ he hf hG hu hx fun o Γ' M' ⟨s, ys, e1, sq, hk⟩ hm v F' h1 h2 H' x ow he' d hf' hp sz => by
    subst e1
    obtain ⟨f2, dg⟩ := hf'.lent d
    obtain ⟨p, vs, e2, hl, hs, hi⟩ := sq.at ow (hf'.sub .l) hG
    have now : SqT X.K H' p vs := hs H' h2 F' .refl f2
    refine ⟨p, e2, ⟨vs, now⟩, q ys Γ' M' hk hm F' h1 h2 H' _ x he' f2 dg ⟨?_, ?_, ?_⟩ hp⟩
    · rw [← hl]; exact sz.2 _ _ now
    · exact fun i F2 h3 H3 x2 f3 hle => ⟨vs, hs H3 h3 F2 x2 f3, by rw [hl]; exact hle⟩
    · intro i s' F2 h3 H3 x2 f3 hs3
      obtain ⟨y, e3, ow3⟩ := hi i s' hs3
      have sq3 : SqT X.K H3 p vs := hs H3 h3 F2 x2 f3
      refine ⟨⟨vs, y, sq3, e3⟩, fun z H4 ⟨e4, hz⟩ => ?_⟩
      subst e4
      have e5 := hz vs sq3
      rw [e3] at e5
      cases e5
      exact ⟨F2, .refl, own_mono x2 (cup_mono_l x2 (f3.fg.mono .refl (hG.trans (.r dg)))) _ .refl ow3, f3⟩)
/-- the numbers from lo to below hi -/
def rangeL (lo hi : Int) : List Int := (List.range (hi - lo).toNat).map fun (i : Nat) => lo + (i : Int)
def rngOk (lo hi : Int) : Prop := (-(2 ^ 62) ≤ lo ∧ lo < 2 ^ 62) ∧ (-(2 ^ 62) ≤ hi ∧ hi < 2 ^ 62) ∧ hi - lo ≤ 16777216
instance (i j : Int) : Decidable (rngOk i j) := inferInstanceAs (Decidable (_ ∧ _ ∧ _))
theorem rng_good {F g : Hp} {lo hi : Int} (hr : rngOk lo hi) : SrcGood K C.G F g (Itr lo (hi - lo).toNat) ((rangeL lo hi).map fun i => .val (.int i)) := by
  have hl : ((rangeL lo hi).map fun (i : Int) => SD.val (.int i)).length = (hi - lo).toNat := by unfold rangeL; simp
  refine ⟨by rw [hl]; have := hr.2.2; omega, fun i F2 h H x f hle => by rw [hl] at hle; exact hle, fun i s F2 h H x f hs => ?_⟩
  have hi' : i < (hi - lo).toNat := by
    rw [← hl]
    exact (List.getElem?_eq_some_iff.mp hs).1
  refine ⟨hi', fun z H' ⟨e1, e2⟩ => ⟨F2, .refl, ?_, by rw [e1]; exact f⟩⟩
  have e3 : s = .val (.int (lo + (i : Int))) := by
    unfold rangeL at hs
    rw [List.map_map, List.getElem?_map, List.getElem?_range hi'] at hs
    cases hs; rfl
  rw [e2, e3]
  unfold own
  exact .int _
theorem JSrc.rng1 {p : Pos} (hm : X.mg "range" = none) (h : JI X C pu Γ a M fun j Γ1 M1 => ∃ M2, (M1 ≠ .un → M1 = M2 ∧ rngOk 0 j) ∧ kS ((rangeL 0 j).map fun i => .val (.int i)) Γ1 M2) (hg : Gl X "range" := by rfl)
    (hs : starEach [a] X.env = [(false, eval a X.env)] := by rfl) : JSrc X C pu Γ tg (.Call (.Name "range" p) [a] [] pos) M kS :=
  JSrc.of (pi_range1 hg hm (pa_cons pe_sem pa_nil (by rw [hs]; rfl)) hs) fun F h0 g H σ R he hf hG hu hx q => h F h0 g H σ _ he hf hG hu hx fun o Γ' M' ⟨j, e1, M2, hM, hk⟩ hm v F' h1 h2 H' x ow he' d hf' hp => by
    subst e1 hm
    obtain ⟨e2, hr⟩ := hM hu
    subst e2
    unfold OpdOk own at ow
    obtain rfl := ow.intV
    obtain ⟨f2, dg⟩ := hf'.lent d
    refine ⟨j, rfl, hr.2.1.1, hr.2.1.2, ?_⟩
    have z := rng_good (K := X.K) (C := C) (F := F') (g := cup h1 g) hr
    rw [Int.sub_zero] at z
    exact q _ Γ' M' hk rfl F' h1 h2 H' _ x he' f2 dg z hp
/-! ### for -/
def EndK.rtOnly : EndK → EndK
  | .rt s Γ => .rt s Γ
  | _ => .no
def lpE {τ ω : Type} (Γi : τ → List SD) (en : ω → EndK) : Lp τ ω → EndK
  | .nx t => .ct (Γi t)
  | .bk t => .bk (Γi t)
  | .rt w => (en w).rtOnly
theorem forL_nx {α τ ω : Type} {f : α → τ → Res (Lp τ ω)} {x : α} {xs : List α} {t : τ} : forL f (x :: xs) t = (f x t).bind (lpGo (forL f xs)) := rfl
theorem JS.for_ {body : List Stmt} {iter : Expr} (hp : PassesOwn (model X.prog X.w) X.A X.env X.xe) (hc : X.calm = true)
    (h : JSrc X C false Γ tg iter M fun ys Γ1 M1 => ∃ (α τ : Type) (xs : List α) (sd : α → SD) (f : α → τ → Res (Lp τ ω)) (t0 : τ) (Γi : τ → List SD) (kM : τ → Res ω), ys = xs.map sd ∧ M1 = (forL f xs t0).bind (orW kM) ∧ Le Γ1 (Γi t0) ∧
      (∀ x t, JG X C (fun _ => True) (Γi t) tg (sd x) fun Γ2 => JL X C Γ2 body (f x t) (fun Γ' M' => ∃ t', M' = .ok (.nx t') ∧ Le Γ' (Γi t')) (lpE Γi en)) ∧ ∀ t, k (Γi t) (kM t))
    (hs : ∀ x, foldedSetIterable iter X.env x = pure x := by intro _; rfl) : JS X C Γ (.For tg iter body [] pos) M k en := by
  refine JS.of (ps_for hp hc pi_sem pg_sem pss_sem hs) fun F h0 g H σ D he hf hG hu hx q hn => h F h0 g H σ _ he hf hG hu hx fun ys Γ1 M1 ⟨α, τ, xs, sd, f, t0, Γi, kM, e1, e2, hl, hb, hk⟩ hm F' hl' h2 H' J x he' hf' dg sg _ => ?_
  subst e1 hm e2
  have hG' : Sub C.G (cup hl' g) := hG.trans (.r dg)
  refine ⟨fun i m σ2 H2 => m = xs.length - i ∧ i ≤ xs.length ∧ ∃ t F2 h3, Sub F' F2 ∧ EnvR X.K F2 C.G (Γi t) h3 σ2 ∧ Fits F2 h3 (cup hl' g) H2 ∧ (forL f (xs.drop i) t).bind (orW kM) = (forL f xs t0).bind (orW kM), ⟨_, rfl, Nat.zero_le _, t0, F', h2, .refl, hl.ok he', hf', rfl⟩, ?_⟩
  rintro i m σ2 H2 ⟨rfl, hi, t, F2, h3, x2, he2, hf2, hM⟩
  by_cases hlt : i < xs.length
  · have hget : (xs.map sd)[i]? = some (sd xs[i]) := by simp [hlt]
    obtain ⟨hgo, hyld⟩ := sg.go i _ F2 h3 H2 x2 hf2 hget
    have hdrop : xs.drop i = xs[i] :: xs.drop (i + 1) := List.drop_eq_getElem_cons hlt
    rw [hdrop, forL_nx] at hM
    have huf : f xs[i] t ≠ .un := fun z => hu (by rw [← hM, z]; rfl)
    refine .inr ⟨hgo, fun σ' H'' => i + 1 ≤ xs.length ∧ ∃ t F2 h3, Sub F' F2 ∧ EnvR X.K F2 C.G (Γi t) h3 σ' ∧ Fits F2 h3 (cup hl' g) H'' ∧ (forL f (xs.drop (i + 1)) t).bind (orW kM) = (forL f xs t0).bind (orW kM), fun σ' H'' ⟨z1, z2⟩ => ⟨xs.length - (i + 1), by omega, rfl, z1, z2⟩, fun v H3 hy => ?_⟩
    obtain ⟨F3, x3, ow3, hf3⟩ := hyld v H3 hy
    refine hb xs[i] t F3 emp h3 (cup hl' g) H3 σ2 v _ (he2.mono x3 (hf3.fg.mono .refl hG') .refl) ow3 .emp hf3.emp hG' fun Γ2 hj h4 σ4 he4 hf4 _ _ _ => ?_
    have hxf : XOk X.K C F3 (cup hl' g) (f xs[i] t) := fun e hee c od F4 hx' h' H' σ' s ex en' dd ff => by
      refine hx e ?_ c od F4 hx' h' H' σ' (x.trans (x2.trans (x3.trans s))) ex en' dd ((ff.inn dg).sub (.r ff.dis))
      rw [← hM, hee]; rfl
    refine hj F3 h4 (cup hl' g) H3 σ4 _ he4 hf4 hG' huf hxf (fun Γ' M' ⟨t', e3, hl3⟩ hm3 F4 h5 σ5 H5 x5 he5 hf5 => ?_) fun w hw => ?_
    · refine ⟨hlt, t', F4, h5, x2.trans (x3.trans x5), hl3.ok he5, hf5, ?_⟩
      rw [← hM, ← hm3, e3]; rfl
    · cases w with
      | nx t' =>
        refine fun F4 h5 σ5 H5 x5 he5 hf5 => ⟨hlt, t', F4, h5, x2.trans (x3.trans x5), he5, hf5, ?_⟩
        rw [← hM, hw]; rfl
      | bk t' =>
        refine fun F4 h5 σ5 H5 x5 he5 hf5 => q (Γi t') (kM t') (hk t') ?_ F4 h5 σ5 H5 (x.trans (x2.trans (x3.trans x5))) he5 ((hf5.inn dg).sub (.r hf5.dis))
        rw [← hM, hw]; rfl
      | rt w =>
        have hw' : (forL f xs t0).bind (orW kM) = .ok w := by rw [← hM, hw]; rfl
        have z := hn w hw'
        show EndOk X.K C F3 (cup hl' g) _ (en w).rtOnly
        cases hen : en w with
        | no => trivial
        | rt s Γr =>
          rw [hen] at z
          refine fun v F4 k1 k2 σ5 H5 x5 ow5 he5 d5 hf5 => z v F4 k1 k2 σ5 H5 (x.trans (x2.trans (x3.trans x5))) ow5 he5 d5 ((hf5.inn dg).sub (.r hf5.dis))
        | bk Γr => trivial
        | ct Γr => trivial
  · have e : i = xs.length := by omega
    subst e
    rw [List.drop_length] at hM
    refine .inl ⟨sg.stop _ F2 h3 H2 x2 hf2 (by simp), ?_⟩
    exact q (Γi t) (kM t) (hk t) hM F2 h3 σ2 H2 (x.trans x2) he2 ((hf2.inn dg).sub (.r hf2.dis))
end
end Tsa

/-! M6: simple loops, while, comprehensions. -/
namespace Tsa
open PySem PySem.Spec PyProof.Rows L2
section
variable {K : PySem.W.Frag} {X : Cx} {C : XC} {pu : Bool} {ω β : Type} {Γ : List SD} {e a b c tg iter elt : Expr} {st : Stmt} {rest body : List Stmt} {M : Res ω} {pos : Pos} {t u : TS} {k : List SD → Res ω → Prop} {en : ω → EndK} {kS : List SD → List SD → Res ω → Prop}
theorem forL_simple {α τ : Type} {f : α → τ → Res τ} : ∀ (xs : List α) (t : τ), forL (ω := ω) (fun x t => (f x t).bind fun t' => .ok (.nx t')) xs t = (forS f xs t).bind fun t' => .ok (.inl t')
  | [], t => rfl
  | x :: xs, t => by
    show ((f x t).bind fun t' => .ok (Lp.nx t')).bind _ = ((f x t).bind fun t' => forS f xs t').bind _
    cases h : f x t with
    | ok t' => exact forL_simple xs t'
    | ex e => rfl
    | un => rfl
theorem JST.stepS {τ : Type} {m : Res τ} {Γi : τ → List SD} (h : JST K C Γ t m (fun Γ' M' => ∃ x, M' = .ok x ∧ Le Γ' (Γi x)) fun x => .ct (Γi x)) :
    JST K C Γ t (m.bind fun x => .ok (Lp.nx x)) (fun Γ' M' => ∃ t', M' = .ok (.nx t') ∧ Le Γ' (Γi t')) (lpE Γi en) := fun F h0 g H σ D he hf hG hu hx q hn =>
  h F h0 g H σ D he hf hG (fun z => hu (by rw [z]; rfl)) hx.bind (fun Γ' M' ⟨x, e1, hl⟩ hm F' h' σ' H' y he' hf' => q Γ' (.ok (.nx x)) ⟨x, rfl, hl⟩ (by rw [← hm, e1]; rfl) F' h' σ' H' y he' hf') fun x hxm => hn (.nx x) (by rw [hxm]; rfl)
theorem JS.forS (hp : PassesOwn (model X.prog X.w) X.A X.env X.xe) (hc : X.calm = true)
    (h : JSrc X C false Γ tg iter M fun ys Γ1 M1 => ∃ (α τ : Type) (xs : List α) (sd : α → SD) (f : α → τ → Res τ) (t0 : τ) (Γi : τ → List SD) (kM : τ → Res ω), ys = xs.map sd ∧ M1 = (forS f xs t0).bind kM ∧ Le Γ1 (Γi t0) ∧
      (∀ x t, JG X C (fun _ => True) (Γi t) tg (sd x) fun Γ2 => JL X C Γ2 body (f x t) (fun Γ' M' => ∃ t', M' = .ok t' ∧ Le Γ' (Γi t')) fun t' => .ct (Γi t')) ∧ ∀ t, k (Γi t) (kM t))
    (hs : ∀ x, foldedSetIterable iter X.env x = pure x := by intro _; rfl) : JS X C Γ (.For tg iter body [] pos) M k en :=
  JS.for_ hp hc (fun F h0 g H σ R he hf hG hu hx q => h F h0 g H σ R he hf hG hu hx fun ys Γ' M' ⟨α, τ, xs, sd, f, t0, Γi, kM, e1, e2, hl, hb, hk⟩ => q ys Γ' M' ⟨α, τ, xs, sd, fun x t => (f x t).bind fun t' => .ok (.nx t'), t0, Γi, kM, e1, by
    rw [e2, forL_simple]
    cases Tsa.forS f xs t0 <;> rfl, hl, fun x t F h1 h g H σ v Q he ow d hf hG hq => hb x t F h1 h g H σ v Q he ow d hf hG fun Γ2 hj => hq Γ2 hj.stepS, hk⟩) hs
/-! ### the slots of a comprehension's own names -/
def wipeG (Γ : List SD) : List Nat → List SD
  | [] => Γ
  | v :: vs => (wipeG Γ vs).set v .hole
/-- what needs no heaplet -/
def Pers (K : PySem.W.Frag) (F G : Hp) (Γ : List SD) (σ : L2.St) (i : Nat) : Prop := i < Γ.length ∧ (Γ[i]? = some .hole ∨ ∃ d v, Γ[i]? = some (.val d) ∧ σ[i]? = some (some v) ∧ Dt K F v d)
theorem EnvR.wipe {F G h : Hp} {σ : L2.St} : ∀ {vs : List Nat}, EnvR K F G Γ h σ → Dis F G → (∀ i ∈ vs, i < Γ.length) → EnvR K F G (wipeG Γ vs) h (L2.wipe σ vs)
  | [], q, _, _ => q
  | v :: vs, q, d, hv => by
    have ih := EnvR.wipe (vs := vs) q d fun i hi => hv i (List.mem_cons_of_mem _ hi)
    have hl : (wipeG Γ vs).length = Γ.length := by
      clear ih hv
      induction vs with
      | nil => rfl
      | cons w vs ih => show ((wipeG Γ vs).set w .hole).length = _; rw [List.length_set, ih]
    obtain ⟨o, k1, k2, e, s1, s2, d12, w, back⟩ := ih.at (i := v) (s := (wipeG Γ vs)[v]'(by rw [hl]; exact hv v (List.mem_cons_self ..))) (by simp)
    exact back F .hole none k1 h .refl d trivial d12 s1 s2
theorem wipeG_len : ∀ {vs : List Nat}, (wipeG Γ vs).length = Γ.length
  | [] => rfl
  | w :: vs => by show ((wipeG Γ vs).set w .hole).length = _; rw [List.length_set, wipeG_len]
theorem wipeG_get {v : Nat} : ∀ {vs : List Nat}, (wipeG Γ vs)[v]? = if v ∈ vs ∧ v < Γ.length then some .hole else Γ[v]?
  | [] => by simp [wipeG]
  | w :: vs => by
    show ((wipeG Γ vs).set w .hole)[v]? = _
    rw [List.getElem?_set, wipeG_len, wipeG_get (vs := vs)]
    by_cases e : w = v
    · subst e
      by_cases hl : w < Γ.length
      · simp [hl]
      · simp [hl]
    · have e' : ¬ v = w := fun z => e z.symm
      simp [e, e']
theorem wipeS_get {σ : L2.St} {v : Nat} : ∀ {vs : List Nat}, (L2.wipe σ vs)[v]? = if v ∈ vs ∧ v < σ.length then some none else σ[v]?
  | [] => by simp [L2.wipe]
  | w :: vs => by
    show ((L2.wipe σ vs).set w none)[v]? = _
    rw [List.getElem?_set, L2.wipe_length, wipeS_get (vs := vs)]
    by_cases e : w = v
    · subst e
      by_cases hl : w < σ.length
      · simp [hl]
      · simp [hl]
    · have e' : ¬ v = w := fun z => e z.symm
      simp [e, e']
theorem set_back {α : Type} {l : List α} {v : Nat} {x y : α} (h : l[v]? = some x) : (l.set v y).set v x = l := by
  apply List.ext_getElem?
  intro i
  rw [List.getElem?_set, List.getElem?_set, List.length_set]
  by_cases e : v = i
  · subst e
    have hl := (List.getElem?_eq_some_iff.mp h).1
    rw [← h]; simp [hl]
  · simp [e]
theorem EnvR.unwipe {F G h : Hp} {σ : L2.St} (fg : Dis F G) : ∀ {vs : List Nat}, (∀ i ∈ vs, Pers K F G Γ σ i) → σ.length = Γ.length → EnvR K F G (wipeG Γ vs) h (L2.wipe σ vs) → EnvR K F G Γ h σ
  | [], _, _, q => q
  | v :: vs, hp, hl, q => by
    refine EnvR.unwipe (vs := vs) fg (fun i hi => hp i (List.mem_cons_of_mem _ hi)) hl ?_
    have q' : EnvR K F G ((wipeG Γ vs).set v .hole) h ((L2.wipe σ vs).set v none) := q
    have hv := (hp v (List.mem_cons_self ..)).1
    have hgl : v < (wipeG Γ vs).length := by rw [wipeG_len]; exact hv
    obtain ⟨o, k1, k2, e, s1, s2, d12, w, back⟩ := q'.at (i := v) (s := .hole) (by rw [List.getElem?_set_self hgl])
    obtain ⟨s, hs⟩ : ∃ s, (wipeG Γ vs)[v]? = some s := ⟨_, List.getElem?_eq_getElem hgl⟩
    have hsl : v < (L2.wipe σ vs).length := by rw [L2.wipe_length, hl]; exact hv
    obtain ⟨oo, hoo⟩ : ∃ o, (L2.wipe σ vs)[v]? = some o := ⟨_, List.getElem?_eq_getElem hsl⟩
    have z := back F s oo emp h .refl fg ?_ .emp .emp s2
    · rw [set_back hs, set_back hoo] at z
      exact z
    · rw [wipeG_get] at hs
      rw [wipeS_get] at hoo
      by_cases hm : v ∈ vs
      · rw [if_pos ⟨hm, hv⟩] at hs
        cases hs
        trivial
      · rw [if_neg (fun z => hm z.1)] at hs hoo
        rcases (hp v (List.mem_cons_self ..)).2 with hh | ⟨d, x, h1, h2, h3⟩
        · rw [hh] at hs; cases hs; trivial
        · rw [h1] at hs; cases hs
          rw [h2] at hoo; cases hoo
          exact .of (by unfold own; exact h3)
end
end Tsa

/-! M7: comprehensions. -/
namespace Tsa
open PySem PySem.Spec PyProof.Rows L2
/-- an exception isn't walked here -/
def Res.nex {α : Type} (m : Res α) : Res α := match m with
  | .ok a => .ok a
  | _ => .un
@[simp] theorem Res.nex_ok {α : Type} (a : α) : (Res.ok a).nex = .ok a := rfl
theorem Res.nex_ne {α : Type} {m : Res α} (h : m.nex ≠ .un) : ∃ a, m = .ok a := by
  cases m with
  | ok a => exact ⟨a, rfl⟩
  | ex e => exact absurd rfl h
  | un => exact absurd rfl h
def consO {β : Type} : Option β → List β → List β
  | none, bs => bs
  | some b, bs => b :: bs
/-- a comprehension: b, if sgl is made, and what goes on -/
def compL {α β τ : Type} (f : α → τ → Res (Option β × τ)) : List α → τ → Res (List β × τ)
  | [], t => .ok ([], t)
  | x :: xs, t => (f x t).nex.bind fun r => (compL f xs r.2).bind fun q => .ok (consO r.1 q.1, q.2)
inductive PersL (Γ0 Γ : List SD) : List Nat → Prop
  | nil : PersL Γ0 Γ []
  | hole {i : Nat} {r : List Nat} (h : Γ[i]? = some .hole) (t : PersL Γ0 Γ r) : PersL Γ0 Γ (i :: r)
  | val {i : Nat} {d : PyData} {r : List Nat} (h : Γ[i]? = some (.val d)) (h0 : Γ0[i]? = some (.val d)) (t : PersL Γ0 Γ r) : PersL Γ0 Γ (i :: r)
section
variable {K : PySem.W.Frag} {X : Cx} {C : XC} {pu : Bool} {ω : Type} {Γ : List SD} {e a b c tg iter elt : Expr} {M : Res ω} {pos : Pos} {k : Opd → List SD → Res ω → Prop}
theorem PersL.mem {Γ0 Γ : List SD} : ∀ {vs : List Nat}, PersL Γ0 Γ vs → ∀ i ∈ vs, i < Γ.length ∧ (Γ[i]? = some .hole ∨ ∃ d, Γ[i]? = some (.val d) ∧ Γ0[i]? = some (.val d))
  | _, .nil, i, h => nomatch h
  | _, .hole h t, i, hi => by
    rcases List.mem_cons.mp hi with rfl | hi
    · exact ⟨(List.getElem?_eq_some_iff.mp h).1, .inl h⟩
    · exact t.mem i hi
  | _, .val h h0 t, i, hi => by
    rcases List.mem_cons.mp hi with rfl | hi
    · exact ⟨(List.getElem?_eq_some_iff.mp h).1, .inr ⟨_, h, h0⟩⟩
    · exact t.mem i hi
theorem ownL_app {F G h h1 : Hp} : ∀ {ss : List SD} {vs : List V} {s : SD} {v : V}, ownL K F G ss h vs → own K F G s h1 v → Dis h h1 → ownL K F G (ss ++ [s]) (cup h h1) (vs ++ [v])
  | [], vs, s, v, q, w, d => by
    unfold ownL at q
    subst q
    show ownL K F G [s] _ [v]
    unfold ownL
    exact ⟨v, [], h1, emp, rfl, .r d, .emp, Dis.emp.symm, w, by unfold ownL; rfl⟩
  | s0 :: ss, vs, s, v, q, w, d => by
    unfold ownL at q
    obtain ⟨v0, vr, k1, k2, e, s1, s2, d12, q1, q2⟩ := q
    subst e
    show ownL K F G (s0 :: (ss ++ [s])) _ (v0 :: (vr ++ [v]))
    unfold ownL
    exact ⟨v0, vr ++ [v], k1, cup k2 h1, rfl, s1.trans .l, Sub.cup (s2.trans .l) (.r d), (Dis.cup d12.symm (d.mono s1 .refl).symm).symm, q1, ownL_app q2 w (d.mono s2 .refl)⟩
theorem compL_cons {α β τ : Type} {f : α → τ → Res (Option β × τ)} {x : α} {xs : List α} {t : τ} : compL f (x :: xs) t = (f x t).nex.bind fun r => (compL f xs r.2).bind fun q => .ok (consO r.1 q.1, q.2) := rfl
abbrev noE (C : XC) : XC := { C with E := fun _ _ _ _ => False }
theorem Fits.less {F h g g' H : Hp} (f : Fits F h g' H) (s : Sub g g') : Fits F h g H := ⟨f.fH, f.hH, s.trans f.gH, f.fh, f.fg.mono .refl s, f.hg.mono .refl s⟩
theorem wipe_eq {σ σ' : L2.St} {vs : List Nat} (h : ∀ j, ¬ j ∈ vs → σ'[j]? = (L2.wipe σ vs)[j]?) (hl : σ'.length = (L2.wipe σ vs).length) : L2.wipe σ' vs = L2.wipe σ vs := by
  apply List.ext_getElem?
  intro j
  rw [wipeS_get]
  by_cases hj : j ∈ vs
  · by_cases hl' : j < σ'.length
    · rw [if_pos ⟨hj, hl'⟩, wipeS_get, if_pos ⟨hj, by rw [hl, L2.wipe_length] at hl'; exact hl'⟩]
    · rw [if_neg (fun z => hl' z.2), List.getElem?_eq_none (Nat.le_of_not_lt hl'), List.getElem?_eq_none (by rw [← hl]; exact Nat.le_of_not_lt hl')]
  · rw [if_neg (fun z => hj z.1), h j hj]
/-- the element's turn: the test (if there is sgl), then the element; over every block -/
abbrev Blk (X : Cx) (scope : Scope) (P : Cx → Prop) : Prop := ∀ (s : Shared) (H : Hp) (Ca : Addr) (cl : List (Str × Addr)) (fp : List Addr), P (X.blk s H scope (compEnvC scope cl Ca X.env) fp)
def TurnOk (X : Cx) (scope : Scope) (C : XC) (pu : Bool) {β τ : Type} (vs : List Nat) (Γi : τ → List SD) (Γ : List SD) (ifs : List Expr) (elt : Expr) (t : τ) (m : Res (Option β × τ)) (k : Opd → List SD → Res (Option β × τ) → Prop) : Prop :=
  match ifs with
  | [] => Blk X scope fun X' => JE X' (noE C) pu Γ elt m k
  | [c] => ∃ (m1 : Res (Bool × τ)) (mt : τ → Res (Option β × τ)) (Γb : τ → List SD), m = m1.bind (fun r => cond r.1 (mt r.2) (.ok (none, r.2))) ∧ (∀ t', Le (wipeG (Γb t') vs) (wipeG (Γi t') vs)) ∧ (Blk X scope fun X' => JC X' (noE C) pu Γ c m1 fun b Γ' M' => ∃ t', M' = .ok (b, t') ∧ Γ' = Γb t') ∧ ∀ t', Blk X scope fun X' => JE X' (noE C) pu (Γb t') elt (mt t') k
  | _ => False
def semIfs (X : Cx) (scope : Scope) : List Expr → TT
  | [c] => fun σ H Q => Blk X scope fun X' => semT X' c σ H Q
  | _ => tYes
theorem cup_assoc {a b c : Hp} : cup (cup a b) c = cup a (cup b c) := by
  funext p
  unfold cup
  cases a p <;> rfl
theorem xok_noE {F g : Hp} {α : Type} {m : Res α} {a : α} (h : m = .ok a) : XOk K (noE C) F g m := fun e he => by rw [h] at he; cases he
theorem Le.len2 : ∀ {a b : List SD}, Le a b → a.length = b.length
  | _, _, .nil => rfl
  | _, _, .same l => by rw [List.length_cons, List.length_cons, l.len2]
  | _, _, .drop l => by rw [List.length_cons, List.length_cons, l.len2]
/-- what a comprehension's run asks -/
abbrev lcTE (X : Cx) (scope : Scope) (own' : List (Str × Nat)) (tg iter : Expr) (ifs : List Expr) (elt : Expr) : TE := tLc (semI X tg iter) (fun v σ H Q => Blk X scope fun X' => semG X' tg v σ H Q) (semIfs X scope ifs) (fun σ H Q => Blk X scope fun X' => semE X' elt σ H Q) (own'.map (·.2))
theorem JT.comp {scope : Scope} {own' : List (Str × Nat)} {ifs : List Expr}
    (h : JSrc X C pu Γ tg iter M fun ys Γ1 M1 => ∃ (α β τ : Type) (xs : List α) (sd : α → SD) (f : α → τ → Res (Option β × τ)) (t0 : τ) (Γi : τ → List SD) (se : β → SD) (kM : List β × τ → Res ω),
      ys = xs.map sd ∧ M1 = (compL f xs t0).bind kM ∧ Le Γ1 (Γi t0) ∧ (pu = true → Γ1 = Γi t0 ∧ ∀ t, Γi t = Γi t0) ∧ (∀ t, PersL (Γi t0) (Γi t) (own'.map (·.2))) ∧
      (∀ x t, ∃ Γ2, Le (wipeG Γ2 (own'.map (·.2))) (wipeG (Γi t) (own'.map (·.2))) ∧
        (Blk X scope fun X' => JG X' C (fun j => j ∈ own'.map (·.2)) (wipeG (Γi t) (own'.map (·.2))) tg (sd x) fun Γ' => Γ' = Γ2) ∧
        TurnOk X scope C pu (own'.map (·.2)) Γi Γ2 ifs elt t (f x t) fun o Γ' M' => ∃ y t', M' = .ok (some y, t') ∧ o = .own (se y) ∧ Le (wipeG Γ' (own'.map (·.2))) (wipeG (Γi t') (own'.map (·.2)))) ∧
      ∀ r, compL f xs t0 = .ok r → k (.own (.lst (r.1.map se))) (Γi r.2) (kM r))
    (hifs : ifs = [] ∨ ∃ c, ifs = [c] := by first | exact .inl rfl | exact .inr ⟨_, rfl⟩) : JT X.K C pu Γ (lcTE X scope own' tg iter ifs elt) M k := by
  intro F h0 g H σ Q he hf hG hu hx q
  refine h F h0 g H σ _ he hf hG hu hx fun ys Γ1 M1 ⟨α, β, τ, xs, sd, f, t0, Γi, se, kM, e1, e2, hl, hpu, hpers, hb, hk⟩ hm F1 hl' h2 H1 J x1 he1 hf1 dg sg hp D hD => ?_
  subst e1 hm e2
  have hG1 : Sub C.G (cup hl' g) := hG.trans (.r dg)
  have hne : compL f xs t0 ≠ .un := fun z => hu (by rw [z]; rfl)
  have he0 : EnvR X.K F1 C.G (Γi t0) h2 σ := hl.ok he1
  -- the invariant behind a turn
  let Nx : Nat → Hp → Prop := fun i H2 => ∃ t bsd F2 h3 hacc vacc, Sub F1 F2 ∧ EnvR X.K F2 C.G (Γi t) h3 σ ∧ ownL X.K F2 C.G (bsd.map se) hacc vacc ∧ hacc D = none ∧ Dis (cup (sgl D (.lst vacc)) hacc) (cup hl' g) ∧
      Fits F2 h3 (cup (cup (sgl D (.lst vacc)) hacc) (cup hl' g)) H2 ∧ (compL f (xs.drop i) t).bind (fun q => .ok (bsd ++ q.1, q.2)) = compL f xs t0 ∧ vacc.length ≤ i ∧ (pu = true → Sub h2 h3)
  have back : ∀ {F4 h5 : Hp} {σ4 : L2.St} {Γ' : List SD} {t : τ}, Sub F1 F4 → Dis F4 C.G → EnvR X.K F4 C.G Γ' h5 σ4 → L2.wipe σ4 (own'.map (·.2)) = L2.wipe σ (own'.map (·.2)) → σ4.length = σ.length → Le (wipeG Γ' (own'.map (·.2))) (wipeG (Γi t) (own'.map (·.2))) → (Γi t).length = σ.length → EnvR X.K F4 C.G (Γi t) h5 σ := by
    intro F4 h5 σ4 Γ' t x4 dG he5 hw hl4 hle hlt
    have z := he5.wipe (vs := own'.map (·.2)) dG fun i hi => by
      have a1 := ((hpers t).mem i hi).1
      have a2 := he5.len
      omega
    rw [hw] at z
    refine EnvR.unwipe dG (fun i hi => ?_) hlt.symm (hle.ok z)
    obtain ⟨a1, a2⟩ := (hpers t).mem i hi
    refine ⟨a1, ?_⟩
    rcases a2 with a2 | ⟨d, a2, a3⟩
    · exact .inl a2
    · obtain ⟨o, k1, k2, e1, s1, s2, d12, w, _⟩ := he0.at a3
      obtain ⟨v, ev, wv⟩ := w.val (by intro z; cases z)
      subst ev
      unfold own at wv
      exact .inr ⟨d, v, a2, e1, wv.mono x4⟩
  have elem : ∀ (i : Nat) (hlt : i < xs.length) (t : τ) (bsd : List β) (F2 h3 hacc : Hp) (vacc : List V) (F4 h4 H4 : Hp) (σ4 : L2.St) (Γ2 : List SD) (ob : Option β) (t' : τ) (m : Res (Option β × τ)),
      Sub F1 F2 → ownL X.K F2 C.G (bsd.map se) hacc vacc → hacc D = none → Dis (cup (sgl D (.lst vacc)) hacc) (cup hl' g) → Sub F2 F4 → EnvR X.K F4 C.G Γ2 h4 σ4 → Fits F4 h4 (cup (cup (sgl D (.lst vacc)) hacc) (cup hl' g)) H4 →
      L2.wipe σ4 (own'.map (·.2)) = L2.wipe σ (own'.map (·.2)) → σ4.length = σ.length → m = .ok (ob, t') → ((compL f (xs.drop (i + 1)) t').bind fun q => .ok (consO ob q.1, q.2)).bind (fun q => .ok (bsd ++ q.1, q.2)) = compL f xs t0 → vacc.length ≤ i →
      (pu = true → Sub h2 h4) →
      (Blk X scope fun X' => JE X' (noE C) pu Γ2 elt m fun o Γ' M' => ∃ y t', M' = .ok (some y, t') ∧ o = .own (se y) ∧ Le (wipeG Γ' (own'.map (·.2))) (wipeG (Γi t') (own'.map (·.2)))) →
      Blk X scope fun X' => semE X' elt σ4 H4 fun y H5 => ∃ acc, H5 D = some (.lst acc) ∧ acc.length < sizeLine ∧ Nx (i + 1) (upd H5 D (.lst (acc ++ [y]))) := by
    intro i hlt t bsd F2 h3 hacc vacc F4 h4 H4 σ4 Γ2 ob t' m x2 ow hD2 dA x4 he4 hf4 hw hl4 hm hM1 hlen hp4 hj s1 HH1 Ca1 cl1 fp1
    have hG2 : Sub C.G (cup (cup (sgl D (.lst vacc)) hacc) (cup hl' g)) := hG1.trans (.r dA)
    refine hj s1 HH1 Ca1 cl1 fp1 F4 h4 _ H4 σ4 _ he4 hf4 hG2 (by rw [hm]; intro z; cases z) (xok_noE hm) fun o Γ' M' ⟨y, t2, e1, e2, hle⟩ hm' vy F5 h1' h5 H5 x5 ow5 he5 d5 hf5 hp5 => ?_
    subst e2
    have e3 : (ob, t') = (some y, t2) := by
      have := hm'.symm.trans e1
      rw [hm] at this
      exact Res.ok.inj this
    obtain ⟨rfl, rfl⟩ := Prod.mk.inj e3
    have hold : cup (cup (sgl D (.lst vacc)) hacc) (cup hl' g) D = some (.lst vacc) := cup_some (cup_some one_same)
    refine ⟨vacc, hf5.gH _ _ hold, ?_, ?_⟩
    · have := sg.size
      rw [List.length_map] at this
      rw [sizeLine_eq]
      omega
    have n1 : h1' D = none := (hf5.hg.mono .l .refl).symm.no hold
    have n5 : h5 D = none := (hf5.hg.mono (.r d5) .refl).symm.no hold
    have dah : Dis hacc h1' := (hf5.hg.mono .l ((Sub.r (Dis.one hD2)).trans .l)).symm
    have dah5 : Dis hacc h5 := (hf5.hg.mono (.r d5) ((Sub.r (Dis.one hD2)).trans .l)).symm
    have f6 := hf5.inn dA
    rw [cup_assoc] at f6
    have nrest : cup hacc (cup h1' h5) D = none := by
      rw [cup_none hD2, cup_none n1]; exact n5
    have f7 := f6.upd (u := .lst (vacc ++ [vy])) nrest
    have ea : cup (sgl D (.lst (vacc ++ [vy]))) (cup hacc (cup h1' h5)) = cup (cup (sgl D (.lst (vacc ++ [vy]))) (cup hacc h1')) h5 := by
      rw [cup_assoc, cup_assoc]
    rw [ea] at f7
    have nacc : cup hacc h1' D = none := by rw [cup_none hD2]; exact n1
    refine ⟨t', bsd ++ [y], F5, h5, cup hacc h1', vacc ++ [vy], x2.trans (x4.trans x5), ?_, ?_, nacc, f7.hg.mono .l .refl, f7.out (Dis.cup (Dis.one n5) (Dis.cup dah5 d5)), ?_, ?_, fun z => (hp4 z).trans (hp5 z).1⟩
    · refine back (x2.trans (x4.trans x5)) (hf5.fg.mono .refl hG2) he5 hw hl4 hle ?_
      have a1 := hle.len2
      rw [wipeG_len, wipeG_len] at a1
      have a2 := he5.len
      omega
    · rw [List.map_append]
      exact ownL_app (ownL_mono (x4.trans x5) (cup_mono_l (x4.trans x5) (hf5.fg.mono .refl hG2)) _ .refl ow) ow5 dah
    · rw [← hM1]
      cases compL f (xs.drop (i + 1)) t' with
      | ok q => show Res.ok ((bsd ++ [y]) ++ q.1, q.2) = Res.ok (bsd ++ (y :: q.1), q.2); rw [List.append_assoc]; rfl
      | ex e => rfl
      | un => rfl
    · rw [List.length_append]
      exact Nat.succ_le_succ hlen
  refine ⟨fun i m H2 => m = xs.length - i ∧ i ≤ xs.length ∧ Nx i H2, ?_, ?_⟩
  · refine ⟨_, rfl, Nat.zero_le _, t0, [], F1, h2, emp, [], .refl, he0, by unfold ownL; rfl, rfl, ?_, ?_, ?_, Nat.le_refl _, fun _ => .refl⟩
    · exact Dis.cup (Dis.one (hf1.gH.no hD)) .emp
    · have z := hf1.new (o := .lst []) hD
      have z2 := z.out (Dis.one (hf1.hH.no hD))
      refine z2.less (Sub.cup (Sub.cup .l .emp) (.r (Dis.one (hf1.gH.no hD))))
    · show (compL f xs t0).bind _ = _
      cases compL f xs t0 <;> rfl
  · rintro i m H2 ⟨rfl, hi, t, bsd, F2, h3, hacc, vacc, x2, he2, ow, hD2, dA, hf2, hM, hlen, hpu3⟩
    have hG2 : Sub C.G (cup (cup (sgl D (.lst vacc)) hacc) (cup hl' g)) := hG1.trans (.r dA)
    have fin := hf2.inn dA
    by_cases hlt : i < xs.length
    · have hget : (xs.map sd)[i]? = some (sd xs[i]) := by simp [hlt]
      obtain ⟨hgo, hyld⟩ := sg.go i _ F2 _ H2 x2 fin hget
      have hdrop : xs.drop i = xs[i] :: xs.drop (i + 1) := List.drop_eq_getElem_cons hlt
      rw [hdrop, compL_cons] at hM
      obtain ⟨⟨ob, t'⟩, hfx⟩ : ∃ r, f xs[i] t = .ok r := Res.nex_ne fun z => hne (by rw [← hM, z]; rfl)
      rw [hfx] at hM
      have hM1 : ((compL f (xs.drop (i + 1)) t').bind fun q => .ok (consO ob q.1, q.2)).bind (fun q => .ok (bsd ++ q.1, q.2)) = compL f xs t0 := hM
      refine .inr ⟨hgo, Nx (i + 1), fun H3 z => ⟨xs.length - (i + 1), by omega, rfl, hlt, z⟩, fun v H3 hy s0 HH Ca cl fp => ?_⟩
      obtain ⟨F3, x3, ow3, hf3⟩ := hyld v H3 hy
      obtain ⟨Γ2, hle2, hjg, htn⟩ := hb xs[i] t
      have hf3' := hf3.out hf2.dis
      have dG3 : Dis F3 C.G := hf3'.fg.mono .refl hG2
      refine hjg s0 HH Ca cl fp F3 emp h3 _ H3 _ v _ ((he2.mono x3 dG3 .refl).wipe dG3 fun j hj => ((hpers t).mem j hj).1) ow3 .emp hf3'.emp hG2 fun Γ' e h4 σ4 he4 hf4 off hl4 hs4 => ?_
      subst e
      have hw := wipe_eq off hl4
      have hl4' : σ4.length = σ.length := by rw [hl4, L2.wipe_length]
      refine ⟨hw, ?_⟩
      rcases hifs with rfl | ⟨c, rfl⟩
      · unfold semIfs tYes
        refine iteT (B := Nx (i + 1) H3) ?_
        exact elem i hlt t bsd F2 h3 hacc vacc F3 h4 H3 σ4 Γ' ob t' (f xs[i] t) x2 ow hD2 dA x3 he4 hf4 hw hl4' hfx hM1 hlen (fun z => (hpu3 z).trans hs4) htn
      · intro s1 HH1 Ca1 cl1 fp1
        obtain ⟨m1, mt, Γb, em, hleb, hjc, hje⟩ := htn
        rw [hfx] at em
        have hm1 : ∃ r, m1 = .ok r := by
          cases m1 with
          | ok b => exact ⟨b, rfl⟩
          | ex e => cases em
          | un => cases em
        obtain ⟨⟨b0, t0'⟩, hb0⟩ := hm1
        refine hjc s1 HH1 Ca1 cl1 fp1 F3 h4 _ H3 σ4 _ he4 hf4 hG2 (by rw [hb0]; intro z; cases z) (xok_noE hb0) fun b Γ2 M' ⟨t1, e1, e2⟩ hm F4 h5 H4 x4 he5 hf5 hp5 => ?_
        subst e2
        have eb : (b0, t0') = (b, t1) := by
          have := hm.symm.trans e1
          rw [hb0] at this
          exact Res.ok.inj this
        obtain ⟨rfl, rfl⟩ := Prod.mk.inj eb
        rw [hb0] at em
        cases b0 with
        | true =>
          rw [if_pos rfl]
          have em' : Res.ok (ob, t') = mt t0' := em
          exact elem i hlt t bsd F2 h3 hacc vacc F4 h5 H4 σ4 (Γb t0') ob t' (mt t0') x2 ow hD2 dA (x3.trans x4) he5 hf5 hw hl4' em'.symm hM1 hlen (fun z => ((hpu3 z).trans hs4).trans (hp5 z).1) (hje t0')
        | false =>
          rw [if_neg Bool.false_ne_true]
          have em' : Res.ok (ob, t') = Res.ok (none, t0') := em
          obtain ⟨rfl, rfl⟩ := Prod.mk.inj (Res.ok.inj em')
          have hlt' : (Γi t').length = σ.length := by
            have a1 := (hleb t').len2
            rw [wipeG_len, wipeG_len] at a1
            have a2 := he5.len
            omega
          refine ⟨t', bsd, F4, h5, hacc, vacc, x2.trans (x3.trans x4), back (x2.trans (x3.trans x4)) (hf5.fg.mono .refl hG2) he5 hw hl4' (hleb t') hlt', ownL_mono (x3.trans x4) (cup_mono_l (x3.trans x4) (hf5.fg.mono .refl hG2)) _ .refl ow, hD2, dA, hf5, ?_, Nat.le_succ_of_le hlen, fun z => ((hpu3 z).trans hs4).trans (hp5 z).1⟩
          rw [← hM1]
          cases compL f (xs.drop (i + 1)) t' <;> rfl
    · have e : i = xs.length := by omega
      subst e
      rw [List.drop_length] at hM
      refine .inl ⟨sg.stop _ F2 _ H2 x2 fin (by simp), ?_⟩
      have hM' : compL f xs t0 = .ok (bsd, t) := by
        rw [← hM]
        show Res.ok (bsd ++ [], t) = _
        rw [List.append_nil]
      refine q _ (Γi t) (kM (bsd, t)) (hk (bsd, t) hM') (by rw [hM']; rfl) (.ref D) F2 (cup (sgl D (.lst vacc)) hacc) h3 H2 (x1.trans x2) ?_ he2 hf2.dis (fin.less (.r dg)) fun z => ?_
      · unfold OpdOk own
        exact ⟨D, vacc, hacc, rfl, cup_some one_same, .r (Dis.one hD2), hD2, ow⟩
      · obtain ⟨z1, z2⟩ := hpu z
        exact ⟨(hp z).1.trans (hpu3 z), by rw [z2, ← z1]; exact (hp z).2⟩
theorem JE.ofLc {scope : Scope} {own' : List (Str × Nat)} {ifs : List Expr} (hc : X.calm = true) (hN : X.N.Nodup) (ok : BlkOk X.N X.env.scope scope own') (h : JT X.K C pu Γ (lcTE X scope own' tg iter ifs elt) M k)
    (hifs : ifs = [] ∨ ∃ c, ifs = [c] := by first | exact .inl rfl | exact .inr ⟨_, rfl⟩) (hs : ∀ x, foldedSetIterable iter X.env x = pure x := by intro _; rfl) : JE X C pu Γ (.ListComp elt [⟨tg, iter, ifs, 0⟩] scope pos) M k := by
  refine JE.of (pe_lc (g := fun v σ H Q => Blk X scope fun X' => semG X' tg v σ H Q) (tt := semIfs X scope ifs) (te := fun σ H Q => Blk X scope fun X' => semE X' elt σ H Q) hc hN pi_sem ok (fun s H Ca cl fp => ⟨fun pins s' σ H' v u Q I r h => h s H Ca cl fp pins s' u I r⟩) (fun s H Ca cl fp => ?_) (fun s H Ca cl fp => ⟨fun pins s' σ H' Q I h => semE_run (h s H Ca cl fp) pins s' I⟩) hs) h
  rcases hifs with rfl | ⟨c, rfl⟩
  · exact pts_nil
  · exact pts_one ⟨fun pins s' σ H' Q I h => semT_run (h s H Ca cl fp) pins s' I⟩
end
end Tsa

/-! M8: defs, their mirrors, calls. -/
namespace Tsa
open PySem PySem.Spec PyProof.Rows L2

/-- room to run, with no repr on the way -/
structure RoomG (k : Nat) (A : Around) : Prop where
  room : Room k A
  gd : A.guards = some []
theorem RoomG.mono {j k : Nat} {A : Around} (r : RoomG k A) (h : j ≤ k) : RoomG j A := ⟨r.room.mono h, r.gd⟩
theorem RoomG.deeper {k : Nat} {A : Around} (r : RoomG (k + 1) A) (env : Env) : RoomG k (A.deeper env) := ⟨r.room.deeper env, r.gd⟩
theorem RoomG.make {k : Nat} {A : Around} (r : RoomG (k + 1) A) (C : Addr) (us : List Value) (kw : List (Str × Value)) : RoomG k (A.under (.builtin "type.__call__" ⟨.ref C :: us, kw⟩)) :=
  ⟨r.room.make C us kw, by
    show pushGuards (Code.guards (.builtin "type.__call__" ⟨.ref C :: us, kw⟩)) A.guards = some []
    have e : Code.guards (.builtin "type.__call__" ⟨.ref C :: us, kw⟩) = [] := by first | rfl | simp [Code.guards, Code.isGuard, guardIds]
    rw [e]; exact r.gd⟩
/-- a def keeps its promise, wherever there is such room -/
structure FnG (P : Program) (w : World) (K : PySem.W.Frag) (mg : Str → Option Value) (base : Heap) (k : Nat) (f : Addr) (fd : FuncData) (ps : List Str) (sp : Sp) : Prop where
  len : ∀ vs H Q E, sp vs H Q E → vs.length = ps.length
  run : ∀ (A : Around) (outer : List Env) (s : Shared) (H : Hp) (args : Args) (us : List Value) (vs : List V) (Q : VK) (E : XK), RoomG k A → Env0 P w K mg base A outer s H →
    BindsTo s fd args (ps.zip us) → Vals vs us → sp vs H Q E → codeAny (model P w) A (.call (.ref f) args) (CR (L2N.CX P w) outer P w H s Q E) s
/-- what the arguments are, what M makes of them -/
def SpM {ι ω : Type} (K : PySem.W.Frag) (args : ι → List SD) (mir : ι → Res ω) (ret : ι → ω → SD) (out : ι → ω → List SD) (xout : ι → List SD) : Sp := fun vs H Q E =>
  ∃ (i : ι) (F h g : Hp), ownL K F g (args i) h vs ∧ Fits F h g H ∧ mir i ≠ .un ∧
    (∀ r, mir i = .ok r → ∀ (v : V) (F' h1 h2 H' : Hp), Sub F F' → own K F' emp (ret i r) h1 v → EnvR K F' emp (out i r) h2 (vs.map some) → Dis h1 h2 → Fits F' (cup h1 h2) g H' → Q v H') ∧
    (∀ e, mir i = .ex e → ∀ (c : Value) (od : Option Addr) (F' hx h2 H' : Hp), Sub F F' → ExnOwn K F' emp hx e c od → EnvR K F' emp (xout i) h2 (vs.map some) → Dis hx h2 → Fits F' (cup hx h2) g H' → E c od H')

section
variable {P : Program} {w : World} {K : PySem.W.Frag} {mg : Str → Option Value} {base : Heap} {x qual : Str} {params : Arguments} {body : List Stmt} {scope : Scope} {dvs : List V} {kws : List (Str × V)} {f : Addr} {fd : FuncData} {N ps : List Str} {k : Nat} {sp : Sp}
/-- the body of a def, run: as the layer's own rule, with the guards told -/
theorem fnG_body (F : FunD K x qual params body scope dvs kws f fd) (S : FnScope N ps scope) (hlen : ∀ vs H Q E, sp vs H Q E → vs.length = ps.length)
    (hb : ∀ (cdv : Value) (A : Around) (outer : List Env) (s : Shared) (H : Hp) (vs : List V) (Q : VK) (E : XK), RoomG k (A.deeper (envOfC qual scope s.heap.objs.size f cdv)) → sp vs H Q E →
      semL (cxOf (L2N.CX P w) P w K mg base N qual scope f cdv A outer s H E) body { nx := fun _ H' => Q .non H', rt := Q } (start N vs) H) : FnG P w K mg base (k + 1) f fd ps sp := by
  obtain ⟨oc, od, dV, kV, doc, pm, an, cdv, ct, osl, efd, look, code, _, _⟩ := F.ex
  subst efd
  refine ⟨hlen, ?_⟩
  intro A outer s H args us vs Q E room env bind rel spec
  have count := hlen _ _ _ _ spec
  have stays : ∀ b o, base.get? b = some o → s.heap.get? b = some o := fun b o e => (env.bs b o e).1
  have inK : K.In s.heap := env.mod.kin.keeps stays
  have free := env.mod.nolimit.keeps stays
  have kinds : ∀ y ∈ ps.zip us, scope.names.lookup y.1 = some .local ∨ (scope.names.lookup y.1 = some .cell ∧ ((cellsFrom (s.heap.objs.size + 1) scope.names []).lookup y.1).isSome = true) := by
    intro y hy
    obtain ⟨n, v⟩ := y
    cases S.par n (List.of_mem_zip hy).1 with
    | inl q => exact Or.inl q
    | inr q => exact Or.inr ⟨q, PySem.W.cellsFrom_some _ _ _ (Or.inl q)⟩
  refine codeAny_call_function room.room.depth (inK _ _ look) rfl S.co S.gen rfl (PySem.W.codeRec_of inK code) (bind _ _ _ _ ?_)
  refine wpAny_newFunctionEnv_cells S.kind kinds ?_
  intro en hen s1 made
  subst hen
  have lim1 := free.keeps made.toInCall.keep
  refine ⟨lim1, codeAny_func ?_⟩
  have begun := inv_start (CX := L2N.CX P w) (E := E) S room.room.hd env count rel made
  have went := semL_run (hb cdv A outer s H vs Q E (room.deeper _) spec) [] s1 begun
  refine wpAny_mono went ?_ (fun _ _ z => z)
  intro fl s' leaves
  cases fl with
  | brk => exact leaves.elim fun _ z => z.elim fun _ z => z.2.elim
  | cont => exact leaves.elim fun _ z => z.elim fun _ z => z.2.elim
  | next =>
    obtain ⟨σ', H', J, q⟩ := leaves
    exact ⟨V.non, H', J.os, J.bare, J.base, J.hok, rfl, q⟩
  | ret u =>
    obtain ⟨v, σ', H', J, rv, q⟩ := leaves
    exact ⟨v, H', J.os, J.bare, J.base, J.hok, rv, q⟩
theorem ownL_env {F G : Hp} {n : Nat} : ∀ {ss : List SD} {h : Hp} {vs : List V}, ownL K F G ss h vs → (∀ s ∈ ss, True) → EnvR K F G (List.zipWith SD.pin vs ss ++ List.replicate n .hole) h (vs.map some ++ List.replicate n none)
  | [], h, vs, q, _ => by
    unfold ownL at q
    subst q
    show EnvR K F G (List.replicate n .hole) h (List.replicate n none)
    induction n generalizing h with
    | zero => exact rfl
    | succ n ih => exact ⟨none, List.replicate n none, emp, h, rfl, .emp, .refl, .emp, trivial, ih (h := h)⟩
  | s :: ss, h, vs, q, _ => by
    unfold ownL at q
    obtain ⟨v, vr, h1, h2, e, s1, s2, d, w, q⟩ := q
    subst e
    refine ⟨some v, vr.map some ++ List.replicate n none, h1, h2, rfl, s1, s2, d, ⟨v, rfl, ?_⟩, ownL_env q fun _ _ => trivial⟩
    unfold own
    exact ⟨rfl, w⟩
/-- the entry's slots: inout ones are pinned, the others as they are -/
inductive Entry : List V → List SD → List SD → Prop
  | nil : Entry [] [] []
  | keep {v : V} {s : SD} {vs : List V} {ss Γ : List SD} : Entry vs ss Γ → Entry (v :: vs) (s :: ss) (s :: Γ)
  | pin {v : V} {s : SD} {vs : List V} {ss Γ : List SD} : Entry vs ss Γ → Entry (v :: vs) (s :: ss) (.pin v s :: Γ)
theorem Entry.ok {F G : Hp} {n : Nat} : ∀ {vs : List V} {ss Γ : List SD}, Entry vs ss Γ → ∀ {h : Hp}, ownL K F G ss h vs → EnvR K F G (Γ ++ List.replicate n .hole) h (vs.map some ++ List.replicate n none)
  | _, _, _, .nil, h, q => ownL_env q fun _ _ => trivial
  | _, _, _, .keep r, h, q => by
    unfold ownL at q
    obtain ⟨v, vr, h1, h2, e, s1, s2, d, w, q⟩ := q
    cases e
    exact ⟨_, _, h1, h2, rfl, s1, s2, d, .of w, r.ok q⟩
  | _, _, _, .pin r, h, q => by
    unfold ownL at q
    obtain ⟨v, vr, h1, h2, e, s1, s2, d, w, q⟩ := q
    cases e
    exact ⟨_, _, h1, h2, rfl, s1, s2, d, ⟨_, rfl, by unfold own; exact ⟨rfl, w⟩⟩, r.ok q⟩
/-- the exit's slots against the arguments: what is handed back was pinned -/
inductive Exit : List V → List SD → List SD → Prop
  | nil {Γ : List SD} : Exit [] Γ []
  | hole {v : V} {s : SD} {vs : List V} {Γ os : List SD} : Exit vs Γ os → Exit (v :: vs) (s :: Γ) (.hole :: os)
  | pin {v : V} {s : SD} {vs : List V} {Γ os : List SD} : Exit vs Γ os → Exit (v :: vs) (.pin v s :: Γ) (s :: os)
theorem Exit.ok {F G : Hp} : ∀ {vs : List V} {Γ os : List SD}, Exit vs Γ os → ∀ {h : Hp} {σ : L2.St}, EnvR K F G Γ h σ → EnvR K F G os h (vs.map some)
  | _, _, _, .nil, h, σ, q => rfl
  | _, _, _, .hole r, h, σ, ⟨o, σr, h1, h2, e, s1, s2, d, w, q⟩ => ⟨_, _, h1, h2, rfl, s1, s2, d, trivial, r.ok q⟩
  | _, _, _, .pin r, h, σ, ⟨o, σr, h1, h2, e, s1, s2, d, w, q⟩ => by
    obtain ⟨v, ev, wv⟩ := w
    unfold own at wv
    obtain ⟨rfl, wv⟩ := wv
    exact ⟨_, _, h1, h2, rfl, s1, s2, d, .of wv, r.ok q⟩
end
/-! ### nothing in it leans on the frame -/
def NR (s : SD) : Prop := ∀ (K : PySem.W.Frag) (F G G' h : Hp) (v : V), own K F G s h v → own K F G' s h v
def NRL (ss : List SD) : Prop := ∀ s ∈ ss, NR s
theorem NR.val {d : PyData} : NR (.val d) := fun K F G G' h v q => by unfold own at q ⊢; exact q
theorem NR.hole : NR .hole := fun K F G G' h v q => by unfold own; trivial
theorem NRL.nil : NRL [] := fun _ h => nomatch h
theorem NRL.cons {s : SD} {ss : List SD} (h : NR s) (t : NRL ss) : NRL (s :: ss) := fun x hx => by
  rcases List.mem_cons.mp hx with rfl | hx
  · exact h
  · exact t x hx
theorem NRL.map {α : Type} {f : α → SD} {xs : List α} (h : ∀ x, NR (f x)) : NRL (xs.map f) := fun s hs => by
  obtain ⟨x, _, rfl⟩ := List.mem_map.mp hs
  exact h x
theorem NRL.own {K : PySem.W.Frag} {F G G' : Hp} : ∀ {ss : List SD} {h : Hp} {vs : List V}, NRL ss → ownL K F G ss h vs → ownL K F G' ss h vs
  | [], _, _, _, q => by unfold ownL at q ⊢; exact q
  | s :: ss, _, _, n, q => by
    unfold ownL at q ⊢
    obtain ⟨v, vr, h1, h2, e, s1, s2, d, w, q⟩ := q
    exact ⟨v, vr, h1, h2, e, s1, s2, d, n s (List.mem_cons_self ..) K F G G' h1 v w, NRL.own (fun x hx => n x (List.mem_cons_of_mem _ hx)) q⟩
theorem NR.lst {ss : List SD} (n : NRL ss) : NR (.lst ss) := fun K F G G' h v q => by
  unfold Tsa.own at q ⊢
  obtain ⟨p, vs, h', e, q1, q2, q3, q4⟩ := q
  exact ⟨p, vs, h', e, q1, q2, q3, n.own q4⟩
def NRK (ss : List (Key × SD)) : Prop := ∀ s ∈ ss, NR s.2
def NRF (ss : List (Str × SD)) : Prop := ∀ s ∈ ss, NR s.2
theorem NRF.nil : NRF [] := fun _ h => nomatch h
theorem NRF.cons {n : Str} {s : SD} {ss : List (Str × SD)} (h : NR s) (t : NRF ss) : NRF ((n, s) :: ss) := fun x hx => by
  rcases List.mem_cons.mp hx with rfl | hx
  · exact h
  · exact t x hx
theorem NRF.own {K : PySem.W.Frag} {F G G' : Hp} : ∀ {ss : List (Str × SD)} {h : Hp} {vs : List (Str × V)}, NRF ss → ownF K F G ss h vs → ownF K F G' ss h vs
  | [], _, _, _, q => by unfold ownF at q ⊢; exact q
  | (n0, s) :: ss, _, _, n, q => by
    unfold ownF at q ⊢
    obtain ⟨v, vr, h1, h2, e, s1, s2, d, w, q⟩ := q
    exact ⟨v, vr, h1, h2, e, s1, s2, d, n (n0, s) (List.mem_cons_self ..) K F G G' h1 v w, NRF.own (fun x hx => n x (List.mem_cons_of_mem _ hx)) q⟩
theorem NR.xds {ss : List (Str × SD)} (n : NRF ss) : NR (.xds ss) := fun K F G G' h v q => by
  unfold Tsa.own at q ⊢
  obtain ⟨p, fs, h', e, q1, q2, q3, q4⟩ := q
  exact ⟨p, fs, h', e, q1, q2, q3, n.own q4⟩
theorem NRL.env {K : PySem.W.Frag} {F G G' : Hp} : ∀ {Γ : List SD} {h : Hp} {σ : L2.St}, NRL Γ → EnvR K F G Γ h σ → EnvR K F G' Γ h σ
  | [], _, _, _, q => q
  | s :: r, _, _, n, ⟨o, σr, h1, h2, e, s1, s2, d, w, q⟩ => ⟨o, σr, h1, h2, e, s1, s2, d, by
    cases s with
    | hole => trivial
    | _ =>
      obtain ⟨v, ev, wv⟩ := w
      exact ⟨v, ev, n _ (List.mem_cons_self ..) K F G G' h1 v wv⟩, NRL.env (fun x hx => n x (List.mem_cons_of_mem _ hx)) q⟩

section
variable {P : Program} {w : World} {K : PySem.W.Frag} {mg : Str → Option Value} {base : Heap} {x qual : Str} {params : Arguments} {body : List Stmt} {scope : Scope} {dvs : List V} {kws : List (Str × V)} {f : Addr} {fd : FuncData} {N ps : List Str} {k : Nat}
/-- the context of a def's body -/
structure BodyCx (X : Cx) (k : Nat) (E : WX) : Prop where
  room : RoomG k X.A
  pass : PassesW X E
  own : PassesOwn (model X.prog X.w) X.A X.env X.xe
  calm : X.calm = true
  tk : L2N.Takes X E
/-- THE RULE for a def: its mirror, its body -/
theorem fnG_of {ι ω : Type} {args : ι → List SD} {mir : ι → Res ω} {ret : ι → ω → SD} {out : ι → ω → List SD} {xout : ι → List SD} {n : Nat} (F : FunD K x qual params body scope dvs kws f fd) (S : FnScope N ps scope) (hlen : ∀ i, (args i).length = ps.length) (hN : N.length = ps.length + n)
    (nr : ∀ i r, NR (ret i r)) (no : ∀ i r, NRL (out i r)) (nx : ∀ i, NRL (xout i)) (nex : ∀ i e, mir i = .ex e → NRF e.flds)
    (hb : ∀ (cdv : Value) (A : Around) (outer : List Env) (s : Shared) (H : Hp) (vs : List V) (E : XK) (G : Hp) (i : ι), vs.length = ps.length → BodyCx (cxOf (L2N.CX P w) P w K mg base N qual scope f cdv A outer s H E) k (fun c d _ H => E c d H) →
      ∃ (Γ0 Γx : List SD) (Γe : ω → List SD), Entry vs (args i) Γ0 ∧ (∀ r, Exit vs (Γe r) (out i r)) ∧ Exit vs Γx (xout i) ∧
        JL (cxOf (L2N.CX P w) P w K mg base N qual scope f cdv A outer s H E) ⟨fun c d _ H => E c d H, Γx, G⟩ (Γ0 ++ List.replicate n .hole) body (mir i) (fun Γ' M' => ∃ r, M' = .ok r ∧ ret i r = .val .none ∧ Le Γ' (Γe r)) fun r => .rt (ret i r) (Γe r)) :
    FnG P w K mg base (k + 1) f fd ps (SpM K args mir ret out xout) := by
  refine fnG_body F S (fun vs H Q E ⟨i, F, h, g, q, _⟩ => by rw [ownL_len q, hlen]) fun cdv A outer s H vs Q E hr ⟨i, F0, h, g, ow, fit, hu, hq, hx⟩ => ?_
  have hvs : vs.length = ps.length := by rw [ownL_len ow, hlen]
  have tk : L2N.Takes (cxOf (L2N.CX P w) P w K mg base N qual scope f cdv A outer s H E) (fun cls d _ H => E cls d H) := L2N.takes_of rfl rfl rfl rfl
  obtain ⟨Γ0, Γx, Γe, he, hex, hxx, hj⟩ := hb cdv A outer s H vs E g i hvs ⟨hr, passesW tk, passes_of rfl, rfl, tk⟩
  have est : EnvR K F0 g (Γ0 ++ List.replicate n .hole) h (L2.start N vs) := by
    have z := he.ok (n := n) ow
    have e : L2.start N vs = vs.map some ++ List.replicate n none := by
      unfold L2.start
      rw [hN, hvs, Nat.add_sub_cancel_left]
    rw [e]; exact z
  refine hj F0 h g H _ _ est fit .refl hu (fun e hee c od F' hx' h2 H' σ' s1 en ev d ff => ?_) (fun Γ' M' ⟨r, e1, e2, hl⟩ hm F' h' σ' H' s1 ev ff => ?_) fun r hr' v F' h1 h2 σ' H' s1 ow' ev d ff => ?_
  · refine hx e hee c od F' hx' h2 H' s1 ?_ ((nx i).env (hxx.ok ev)) d ff
    obtain ⟨z1, z2⟩ := en
    refine ⟨z1, ?_⟩
    rcases z2 with z2 | ⟨dd, z3, z4⟩
    · exact .inl z2
    · exact .inr ⟨dd, z3, NR.xds (nex i e hee) _ _ _ _ _ _ z4⟩
  · refine hq r (by rw [← hm, e1]) .non F' emp h' H' s1 (by rw [e2]; unfold own; exact .non) ((no i r).env ((hex r).ok (hl.ok ev))) .emp ff.emp
  · exact hq r hr' v F' h1 h2 H' s1 (nr i r _ _ _ _ _ _ ow') ((no i r).env ((hex r).ok ev)) d ff
end
end Tsa

/-! M9: arguments, calls. -/
namespace Tsa
open PySem PySem.Spec PyProof.Rows L2
/-- the operands' things, one heaplet -/
def OpdsOk (K : PySem.W.Frag) (F G : Hp) : List Opd → Hp → Hp → L2.St → List V → Prop
  | [], _, _, _, vs => vs = []
  | o :: r, h1, h2, σ, vs => ∃ v vr ha hb, vs = v :: vr ∧ Sub ha h1 ∧ Sub hb h1 ∧ Dis ha hb ∧ OpdOk K F G ha h2 σ o v ∧ OpdsOk K F G r hb h2 σ vr
theorem OpdOk.mono {K : PySem.W.Frag} {F F' G h1 h2 h2' : Hp} {σ : L2.St} {o : Opd} {v : V} (x : Sub F F') (d : Dis F' G) (d2 : Dis F' (cup G h2')) (dg : Dis G h2') (y : (∃ s, o = .own s) ∨ (∃ i, o = .at i) ∨ Sub h2 h2') (q : OpdOk K F G h1 h2 σ o v) : OpdOk K F' G h1 h2' σ o v := by
  cases o with
  | own s => exact own_mono x (cup_mono_l x d) s .refl q
  | bor d' =>
    rcases y with ⟨_, z⟩ | ⟨_, z⟩ | y
    · cases z
    · cases z
    · exact Dt.mono (Sub.cup2 x (Sub.cup2 .refl y dg) d2) q
  | fl i f =>
    rcases y with ⟨_, z⟩ | ⟨_, z⟩ | y
    · cases z
    · cases z
    · obtain ⟨a, C, dx, fs, e1, e2, e3⟩ := q
      exact ⟨a, C, dx, fs, e1, y _ _ e2, e3⟩
  | «at» i => exact q
@[irreducible] def semA (X : Cx) (es : List Expr) : TA := fun σ H Q => ∀ pos pins s, Inv X pins σ H s → wpAny (model X.prog X.w) X.A (spliced (backTo pos (starEach es X.env))) (AP X pins σ Q) X.xe s
theorem pa_sem {X : Cx} {es : List Expr} : PA X es (semA X es) := ⟨fun pos pins s σ H Q I h => by unfold semA at h; exact h pos pins s I⟩
theorem semA_of {X : Cx} {es : List Expr} {t : TA} (p : PA X es t) {σ : L2.St} {H : Hp} {Q : List V → Hp → Prop} (h : t σ H Q) : semA X es σ H Q := by unfold semA; exact fun pos pins s I => p.run pos pins s σ H Q I h
/-- arguments, from the left -/
def JTA (K : PySem.W.Frag) (C : XC) (pu : Bool) {ω : Type} (Γ : List SD) (t : TA) (M : Res ω) (k : List Opd → List SD → Res ω → Prop) : Prop :=
  ∀ (F h g H : Hp) (σ : L2.St) (Q : List V → Hp → Prop), EnvR K F C.G Γ h σ → Fits F h g H → Sub C.G g → M ≠ .un → XOk K C F g M →
    (∀ os Γ' M', k os Γ' M' → M' = M → ∀ (vs : List V) (F' h1 h2 H' : Hp), Sub F F' → OpdsOk K F' C.G os h1 h2 σ vs → EnvR K F' C.G Γ' h2 σ → Dis h1 h2 → Fits F' (cup h1 h2) g H' → (pu = true → Sub h h2 ∧ Γ' = Γ) → Q vs H') → t σ H Q
abbrev JA (X : Cx) (C : XC) (pu : Bool) {ω : Type} (Γ : List SD) (es : List Expr) (M : Res ω) (k : List Opd → List SD → Res ω → Prop) : Prop := JTA X.K C pu Γ (semA X es) M k
section
variable {K : PySem.W.Frag} {X : Cx} {C : XC} {pu pt : Bool} {ω : Type} {Γ : List SD} {e o : Expr} {es : List Expr} {M : Res ω} {pos : Pos} {k : Opd → List SD → Res ω → Prop} {ka : List Opd → List SD → Res ω → Prop}
theorem JA.of {t : TA} (p : PA X es t) (h : JTA X.K C pu Γ t M ka) : JA X C pu Γ es M ka := fun F h0 g H σ Q he hf hG hu hx hq => semA_of p (h F h0 g H σ Q he hf hG hu hx hq)
theorem JA.nil (hk : ka [] Γ M) : JA X C pu Γ [] M ka := JA.of pa_nil fun F h g H σ Q he hf hG hu hx hq => hq [] Γ M hk rfl [] F emp h H .refl rfl he .emp hf.emp fun _ => ⟨.refl, rfl⟩
/-- the first operand stands while the rest is reckoned: it is its own or a slot; or the rest leaves the environment as it is (pt) -/
theorem JA.cons (h : JE X C pu Γ e M fun o Γ1 M1 => ((∃ s, o = .own s) ∨ (∃ i, o = .at i) ∨ pt = true) ∧ (pu = true → pt = true) ∧ JA X C pt Γ1 es M1 fun os Γ2 M2 => ka (o :: os) Γ2 M2)
    (hs : starEach (e :: es) X.env = (false, eval e X.env) :: starEach es X.env := by rfl) : JA X C pu Γ (e :: es) M ka := by
  refine JA.of (pa_cons pe_sem pa_sem hs) fun F h0 g H σ Q he hf hG hu hx hq => h F h0 g H σ _ he hf hG hu hx fun o Γ1 M1 ⟨ho, hpt, hj⟩ hm v F1 ha h1 H1 x1 ow he1 d1 hf1 hp1 => ?_
  subst hm
  have dag : Dis ha g := hf1.hg.mono .l .refl
  have hf1' := hf1.out d1
  have hx1 : XOk X.K C F1 (cup ha g) M1 := fun e hm c od F' hx' h' H' σ' s ex en dd ff => by
    refine hx e hm c od F' hx' h' H' σ' (x1.trans s) ex en dd ((ff.inn dag).sub (.r ff.dis))
  refine hj F1 h1 (cup ha g) H1 σ _ he1 hf1' (hG.trans (.r dag)) hu hx1 fun os Γ2 M2 hk hm2 vs F2 hb h2 H2 x2 ow2 he2 d2 hf2 hp2 => ?_
  have hf3 := hf2.inn dag
  have dha : Dis ha (cup hb h2) := hf2.dis
  have dfg : Dis F2 C.G := hf3.fg.mono .refl hG
  have dgh2 : Dis C.G h2 := (hf3.hg.mono ((Sub.r d2).trans (.r dha)) hG).symm
  refine hq (o :: os) Γ2 M2 hk hm2 (v :: vs) F2 (cup ha hb) h2 H2 (x1.trans x2) ⟨v, vs, ha, hb, rfl, .l, .r (dha.mono .refl .l), dha.mono .refl .l, ow.mono x2 dfg (Dis.cup dfg.symm (hf3.fh.mono .refl ((Sub.r d2).trans (.r dha))).symm).symm dgh2 ?_, ow2⟩ he2 (Dis.cup (dha.mono .refl (.r d2)) d2) (by rw [cup_assoc]; exact hf3) fun z => ⟨(hp1 z).1.trans (hp2 (hpt z)).1, (hp2 (hpt z)).2.trans (hp1 z).2⟩
  rcases ho with z | z | z
  · exact .inl z
  · exact .inr (.inl z)
  · exact .inr (.inr (hp2 z).1)
end

/-! ### what a thing looks like -/
mutual
inductive See : SD → PyData → Prop
  | val {d : PyData} : See (.val d) d
  | rd {d : PyData} : See (.rd d) d
  | pin {v : V} {s : SD} {d : PyData} : See s d → See (.pin v s) d
  | lst {ss : List SD} {ds : List PyData} : SeeL ss ds → See (.lst ss) (.list ds)
  | tup {ss : List SD} {ds : List PyData} : SeeL ss ds → See (.tup ss) (.tuple ds)
  | dct {α : Type} {m : List α} {kk : α → Key} {f : α → SD} {g : α → PyData} : (∀ x, See (f x) (g x)) → See (.dct (m.map fun x => (kk x, f x))) (.dict (m.map fun x => (kD (kk x), g x)))
inductive SeeL : List SD → List PyData → Prop
  | nil : SeeL [] []
  | cons {s : SD} {d : PyData} {ss : List SD} {ds : List PyData} : See s d → SeeL ss ds → SeeL (s :: ss) (d :: ds)
  | vals {ds : List PyData} : SeeL (ds.map .val) ds
  | map {α : Type} {xs : List α} {f : α → SD} {g : α → PyData} : (∀ x, See (f x) (g x)) → SeeL (xs.map f) (xs.map g)
  | app {a b : List SD} {c d : List PyData} : SeeL a c → SeeL b d → SeeL (a ++ b) (c ++ d)
end
theorem ownL_split {K : PySem.W.Frag} {F G : Hp} : ∀ {a b : List SD} {h : Hp} {vs : List V}, ownL K F G (a ++ b) h vs → ∃ v1 v2 h1 h2, vs = v1 ++ v2 ∧ Sub h1 h ∧ Sub h2 h ∧ Dis h1 h2 ∧ ownL K F G a h1 v1 ∧ ownL K F G b h2 v2
  | [], b, h, vs, q => ⟨[], vs, emp, h, rfl, .emp, .refl, .emp, by unfold ownL; rfl, q⟩
  | s :: a, b, h, vs, q => by
    have q : ownL K F G (s :: (a ++ b)) h vs := q
    unfold ownL at q
    obtain ⟨v, vr, h1, h2, e, s1, s2, d, w, q⟩ := q
    obtain ⟨v1, v2, k1, k2, e2, t1, t2, d2, q1, q2⟩ := ownL_split q
    refine ⟨v :: v1, v2, cup h1 k1, k2, by rw [e, e2]; rfl, Sub.cup s1 (t1.trans s2), t2.trans s2, Dis.cup (d.mono .refl t2) d2, ?_, q2⟩
    unfold ownL
    exact ⟨v, v1, h1, k1, rfl, .l, .r (d.mono .refl t1), d.mono .refl t1, w, q1⟩
theorem see_map {K : PySem.W.Frag} {F G : Hp} {α : Type} {f : α → SD} {g : α → PyData} : ∀ {xs : List α} {h : Hp} {vs : List V} {S : Hp}, (∀ x (h : Hp) (v : V), Sub h S → own K F G (f x) h v → Dt K S v (g x)) → Sub h S → ownL K F G (xs.map f) h vs → DtL K S vs (xs.map g)
  | [], h, vs, S, _, _, q => by
    simp only [List.map_nil] at q ⊢
    unfold ownL at q
    subst q
    exact .nil
  | x :: xs, h, vs, S, hx, hs, q => by
    simp only [List.map_cons] at q ⊢
    unfold ownL at q
    obtain ⟨v, vr, h1, h2, e, s1, s2, d, w, q⟩ := q
    subst e
    exact .cons (hx x h1 v (s1.trans hs) w) (see_map hx (s2.trans hs) q)
theorem see_mapK {K : PySem.W.Frag} {F G : Hp} {α : Type} {kk : α → Key} {f : α → SD} {g : α → PyData} : ∀ {m : List α} {h : Hp} {kvs : List (Key × V)} {S : Hp}, (∀ x (h : Hp) (v : V), Sub h S → own K F G (f x) h v → Dt K S v (g x)) → Sub h S → ownK K F G (m.map fun x => (kk x, f x)) h kvs → kvs.map (·.1) = m.map kk ∧ DtL K S (kvs.map (·.2)) (m.map g)
  | [], h, vs, S, _, _, q => by
    simp only [List.map_nil] at q ⊢
    unfold ownK at q
    subst q
    exact ⟨rfl, .nil⟩
  | x :: xs, h, vs, S, hx, hs, q => by
    simp only [List.map_cons] at q ⊢
    unfold ownK at q
    obtain ⟨v, vr, h1, h2, e, s1, s2, d, w, q⟩ := q
    subst e
    obtain ⟨e1, e2⟩ := see_mapK hx (s2.trans hs) q
    exact ⟨by rw [List.map_cons, e1], .cons (hx x h1 v (s1.trans hs) w) e2⟩
theorem zip_keys {α : Type} {kk : α → Key} {g : α → PyData} : ∀ {m : List α} {kvs : List (Key × V)}, kvs.map (·.1) = m.map kk → (kvs.map fun q => kD q.1).zip (m.map g) = m.map fun x => (kD (kk x), g x)
  | [], kvs, e => by
    rw [List.map_nil, List.map_eq_nil_iff] at e
    subst e; rfl
  | x :: m, [], e => nomatch e
  | x :: m, kv :: kvs, e => by
    rw [List.map_cons, List.map_cons] at e
    injection e with e1 e2
    rw [List.map_cons, List.map_cons, List.map_cons, List.zip_cons_cons, zip_keys e2, e1]
theorem dt_dct {K : PySem.W.Frag} {S : Hp} {α : Type} {kk : α → Key} {g : α → PyData} {m : List α} {kvs : List (Key × V)} {a : Addr} (r : Rd S a (.dK kvs)) (e : kvs.map (·.1) = m.map kk) (d : DtL K S (kvs.map (·.2)) (m.map g)) : Dt K S (.ref a) (.dict (m.map fun x => (kD (kk x), g x))) := by
  rw [← zip_keys e]
  exact .dct r d
mutual
theorem See.ok {K : PySem.W.Frag} {F G : Hp} : ∀ {s : SD} {d : PyData}, See s d → ∀ {h S : Hp} {v : V}, Sub F S → Sub (cup F G) S → Sub h S → own K F G s h v → Dt K S v d
  | _, _, .val, h, S, v, hF, hG, hh, ow => by unfold own at ow; exact ow.mono hF
  | _, _, .rd, h, S, v, hF, hG, hh, ow => by unfold own at ow; exact ow.mono hG
  | _, _, .pin q, h, S, v, hF, hG, hh, ow => by unfold own at ow; exact See.ok q hF hG hh ow.2
  | _, _, .lst q, h, S, v, hF, hG, hh, ow => by
    unfold own at ow
    obtain ⟨p, vs, h', e, q1, q2, q3, q4⟩ := ow
    subst e
    exact .lst (.of (hh _ _ q1)) (SeeL.ok q hF hG (q2.trans hh) q4)
  | _, _, .tup q, h, S, v, hF, hG, hh, ow => by
    unfold own at ow
    obtain ⟨p, vs, h', e, q1, q2, q3, q4⟩ := ow
    subst e
    exact .tup (.of (hh _ _ q1)) (SeeL.ok q hF hG (q2.trans hh) q4)
  | _, _, .dct q, h, S, v, hF, hG, hh, ow => by
    unfold own at ow
    obtain ⟨p, vs, h', e, q1, q2, q3, q4⟩ := ow
    subst e
    obtain ⟨e1, e2⟩ := see_mapK (fun x h v hs w => See.ok (q x) hF hG hs w) (q2.trans hh) q4
    exact dt_dct (.inl (hh _ _ q1)) e1 e2
theorem SeeL.ok {K : PySem.W.Frag} {F G : Hp} : ∀ {s : List SD} {d : List PyData}, SeeL s d → ∀ {h S : Hp} {v : List V}, Sub F S → Sub (cup F G) S → Sub h S → ownL K F G s h v → DtL K S v d
  | _, _, .nil, h, S, v, hF, hG, hh, ow => by unfold ownL at ow; subst ow; exact .nil
  | _, _, .cons q1 q2, h, S, v, hF, hG, hh, ow => by
    unfold ownL at ow
    obtain ⟨v0, vr, k1, k2, e2, s1, s2, d, w, q4⟩ := ow
    subst e2
    exact .cons (See.ok q1 hF hG (s1.trans hh) w) (SeeL.ok q2 hF hG (s2.trans hh) q4)
  | _, _, .vals, h, S, v, hF, hG, hh, ow => (ownL_vals ow).mono hF
  | _, _, .map q, h, S, v, hF, hG, hh, ow => see_map (fun x h v hs w => See.ok (q x) hF hG hs w) hh ow
  | _, _, .app q1 q2, h, S, v, hF, hG, hh, ow => by
    obtain ⟨v1, v2, k1, k2, e, s1, s2, d, w1, w2⟩ := ownL_split ow
    subst e
    exact (SeeL.ok q1 hF hG (s1.trans hh) w1).app (SeeL.ok q2 hF hG (s2.trans hh) w2)
end

/-- a field of an object -/
inductive FldS : SD → Str → SD → Prop
  | obj {C : Addr} {l : List (Str × SD)} {f : Str} {s : SD} (h : l.lookup f = some s) : FldS (.obj C l) f s
  | pin {v : V} {s0 s : SD} {f : Str} (h : FldS s0 f s) : FldS (.pin v s0) f s
theorem ownF_look {K : PySem.W.Frag} {F G : Hp} {f : Str} {s : SD} : ∀ {l : List (Str × SD)} {h : Hp} {fs : List (Str × V)}, ownF K F G l h fs → l.lookup f = some s → ∃ v h1, fs.lookup f = some v ∧ Sub h1 h ∧ own K F G s h1 v
  | [], _, _, _, e => nomatch e
  | (n, t) :: r, h, fs, q, e => by
    unfold ownF at q
    obtain ⟨v, fr, h1, h2, ef, s1, s2, d, w, q⟩ := q
    subst ef
    rw [List.lookup_cons] at e ⊢
    cases c : f == n with
    | true =>
      rw [c] at e
      cases e
      exact ⟨v, h1, rfl, s1, w⟩
    | false =>
      rw [c] at e
      obtain ⟨u, k1, e1, t1, w1⟩ := ownF_look q e
      exact ⟨u, k1, e1, t1.trans s2, w1⟩
theorem FldS.ne {s0 s : SD} {f : Str} (q : FldS s0 f s) : s0 ≠ .hole := fun z => by subst z; cases q
theorem FldS.ok {s0 s : SD} {f : Str} (q : FldS s0 f s) {K : PySem.W.Frag} {F G h : Hp} {v0 : V} (ow : own K F G s0 h v0) : ∃ a C dx fs v h1, v0 = .ref a ∧ h a = some (.ins C dx fs) ∧ fs.lookup f = some v ∧ Sub h1 h ∧ own K F G s h1 v := by
  induction q with
  | obj hl =>
    unfold own at ow
    obtain ⟨p, dx, fs, h', e, q1, q2, q3, q4⟩ := ow
    obtain ⟨v, h1, e1, t1, w1⟩ := ownF_look q4 hl
    exact ⟨p, _, dx, fs, v, h1, e, q1, e1, t1.trans q2, w1⟩
  | pin _ ih =>
    unfold own at ow
    exact ih ow.2
/-- a slot's field: where it lies, what it is -/
theorem FldS.at {Γ : List SD} {s0 s : SD} {f : Str} {i : Nat} (q : FldS s0 f s) (hi : Γ[i]? = some s0) {K : PySem.W.Frag} {F G h1 h2 : Hp} {σ : L2.St} {v : V} (he : EnvR K F G Γ h2 σ) (ow : OpdOk K F G h1 h2 σ (.fl i f) v) : ∃ h3, Sub h3 h2 ∧ own K F G s h3 v := by
  obtain ⟨o, k1, k2, eo, s1, s2, d12, w, _⟩ := he.at hi
  obtain ⟨u, eu, wu⟩ := w.val q.ne
  obtain ⟨a, C, dx, fs, e1, e2, e3⟩ := ow
  rw [eo, eu] at e1
  cases e1
  obtain ⟨a', C', dx', fs', v', k3, e4, e5, e6, s3, w3⟩ := q.ok wu
  cases e4
  have e7 := s1 _ _ e5
  rw [e2] at e7
  cases e7
  rw [e3] at e6
  cases e6
  exact ⟨k3, s3.trans s1, w3⟩
/-! ### operands against parameters -/
def sel {α : Type} : List Bool → List α → List α
  | true :: m, x :: xs => x :: sel m xs
  | false :: m, _ :: xs => sel m xs
  | _, _ => []
def slots : List Bool → List Opd → List Nat
  | true :: m, .at i :: os => i :: slots m os
  | _ :: m, _ :: os => slots m os
  | _, _ => []
/-- Γf: the environment that stays meanwhile; mask: what is taken out and handed back -/
inductive Resv (Γf : List SD) : List Opd → List SD → List Bool → Prop
  | nil : Resv Γf [] [] []
  | own {s : SD} {os : List Opd} {ss : List SD} {m : List Bool} (t : Resv Γf os ss m) : Resv Γf (.own s :: os) (s :: ss) (false :: m)
  | ownR {s : SD} {d : PyData} {os : List Opd} {ss : List SD} {m : List Bool} (q : See s d) (t : Resv Γf os ss m) : Resv Γf (.own s :: os) (.rd d :: ss) (false :: m)
  | lend {i : Nat} {s : SD} {d : PyData} {os : List Opd} {ss : List SD} {m : List Bool} (hi : Γf[i]? = some s) (q : See s d) (t : Resv Γf os ss m) : Resv Γf (.at i :: os) (.rd d :: ss) (false :: m)
  | inout {i : Nat} {s : SD} {os : List Opd} {ss : List SD} {m : List Bool} (t : Resv Γf os ss m) : Resv Γf (.at i :: os) (s :: ss) (true :: m)
/-- a slot's thing: plain, or pinned -/
inductive Wrap : SD → SD → (SD → SD) → Prop
  | plain {s : SD} (hs : s ≠ .hole) : Wrap s s id
  | pin {v : V} {s : SD} : Wrap (.pin v s) s (.pin v)
inductive Take : List SD → List Nat → List SD → List (SD → SD) → List SD → Prop
  | nil {Γ : List SD} : Take Γ [] [] [] Γ
  | cons {Γ Γf xs : List SD} {is : List Nat} {ws : List (SD → SD)} {i : Nat} {s0 s : SD} {w : SD → SD} (hi : Γ[i]? = some s0) (hw : Wrap s0 s w) (t : Take (Γ.set i .hole) is xs ws Γf) : Take Γ (i :: is) (s :: xs) (w :: ws) Γf
def putB (Γf : List SD) : List Nat → List (SD → SD) → List SD → List SD
  | i :: is, w :: ws, o :: os => (putB Γf is ws os).set i (w o)
  | _, _, _ => Γf
section
variable {K : PySem.W.Frag} {F G h : Hp} {σ : L2.St}
/-- the values that stand in some slots -/
def SlotsV (σ : L2.St) : List Nat → List V → Prop
  | [], vs => vs = []
  | i :: is, vs => ∃ v vr, vs = v :: vr ∧ σ[i]? = some (some v) ∧ SlotsV σ is vr
theorem ownL_append2 {s : SD} {ss : List SD} {h1 h2 : Hp} {v : V} {vs : List V} (a : own K F G s h1 v) (b : ownL K F G ss h2 vs) (d : Dis h1 h2) : ownL K F G (s :: ss) (cup h1 h2) (v :: vs) := by
  unfold ownL
  exact ⟨v, vs, h1, h2, rfl, .l, .r d, d, a, b⟩
theorem Wrap.ok {s0 s : SD} {w : SD → SD} {o : Option V} (q : Wrap s0 s w) (a : ownO K F G s0 h o) : ∃ v, o = some v ∧ own K F G s h v ∧ ∀ {F' h' : Hp} {s' : SD}, ownO K F' G s' h' (some v) → ownO K F' G (w s') h' (some v) := by
  cases q with
  | plain hs =>
    obtain ⟨v, ev, wv⟩ := a.val hs
    exact ⟨v, ev, wv, fun z => z⟩
  | @pin u =>
    obtain ⟨v, ev, wv⟩ := a
    unfold own at wv
    refine ⟨v, ev, wv.2, fun {F' h' s'} z => ⟨v, rfl, ?_⟩⟩
    unfold own
    refine ⟨wv.1, ?_⟩
    cases s' with
    | hole => unfold own; trivial
    | _ =>
      obtain ⟨x, e1, e2⟩ := z
      cases e1
      exact e2
theorem Take.ok (fg : Dis F G) : ∀ {Γ : List SD} {is : List Nat} {xs : List SD} {ws : List (SD → SD)} {Γf : List SD}, Take Γ is xs ws Γf → ∀ {h : Hp}, EnvR K F G Γ h σ → ∃ hx hr vs, (is = [] → hr = h) ∧ Sub hx h ∧ Sub hr h ∧ Dis hx hr ∧ SlotsV σ is vs ∧ ownL K F G xs hx vs ∧ EnvR K F G Γf hr σ ∧
    ∀ (F' : Hp) (os : List SD) (hx' : Hp), Sub F F' → Dis F' G → EnvR K F' G os hx' (vs.map some) → Dis hx' hr → EnvR K F' G (putB Γf is ws os) (cup hx' hr) σ
  | _, _, _, _, _, .nil, h, he => ⟨emp, h, [], fun _ => rfl, .emp, .refl, .emp, rfl, by unfold ownL; rfl, he, fun F' os hx' x d q dd => he.mono x d (.r dd)⟩
  | Γ, i :: is, s :: xs, _, Γf, .cons (ws := ws) hi hw t, h, he => by
    obtain ⟨o, k1, k2, e, s1, s2, d12, w, back⟩ := he.at hi
    obtain ⟨v, ev, wv, wback⟩ := hw.ok w
    subst ev
    have es : σ.set i (some v) = σ := by
      obtain ⟨hl, e'⟩ := List.getElem?_eq_some_iff.mp e
      rw [← e']; exact List.set_getElem_self hl
    have E2 := back F .hole (some v) emp k2 .refl fg trivial .emp .emp .refl
    rw [es] at E2
    obtain ⟨hx, hr, vs, _, a1, a2, a3, a4, a5, a6, a7⟩ := Take.ok fg t E2
    refine ⟨cup k1 hx, hr, v :: vs, (fun z => nomatch z), Sub.cup s1 (a1.trans s2), a2.trans s2, Dis.cup (d12.mono .refl a2) a3, ⟨v, vs, rfl, e, a4⟩, ownL_append2 wv a5 (d12.mono .refl a1), a6, fun F' os hx' x d q dd => ?_⟩
    cases os with
    | nil => exact a6.mono x d (.r dd)
    | cons o os =>
      obtain ⟨ov, σr, q1, q2, e2, t1, t2, d3, w3, q3⟩ := q
      cases e2
      have z := a7 F' os q2 x d q3 (dd.mono t2 .refl)
      have hl : i < (putB Γf is ws os).length := by rw [z.len.symm]; exact (List.getElem?_eq_some_iff.mp e).1
      obtain ⟨o0, m1, m2, e0, u1, u2, d0, w0, back0⟩ := z.at (i := i) (s := (putB Γf is ws os)[i]) (by simp [hl])
      have z2 := back0 F' _ (some v) q1 (cup hx' hr) .refl d (wback w3) ?_ (t1.trans .l) (u2.trans (Sub.cup (t2.trans .l) (.r dd)))
      · rw [es] at z2
        exact z2
      · exact (Dis.cup d3.symm (dd.mono t1 .refl).symm).symm.mono .refl u2
theorem EnvR.sel {F' : Hp} (fg : Dis F' G) : ∀ {m : List Bool} {os : List SD} {vs : List V} {h : Hp}, EnvR K F' G os h (vs.map some) → EnvR K F' G (sel m os) h ((sel m vs).map some)
  | [], os, vs, h, q => by cases os <;> rfl
  | true :: m, [], vs, h, q => by
    cases vs with
    | nil => rfl
    | cons v vs => exact absurd q (by intro z; cases z)
  | false :: m, [], vs, h, q => by
    cases vs with
    | nil => rfl
    | cons v vs => exact absurd q (by intro z; cases z)
  | b :: m, o :: os, vs, h, ⟨ov, σr, q1, q2, e2, t1, t2, d3, w3, q3⟩ => by
    cases vs with
    | nil => cases e2
    | cons v vs =>
      cases e2
      cases b with
      | true => exact ⟨some v, _, q1, q2, rfl, t1, t2, d3, w3, q3.sel fg⟩
      | false => exact (q3.sel fg (m := m)).mono .refl fg t2
theorem Resv.ok {Γf : List SD} {hr : Hp} (er : EnvR K F G Γf hr σ) : ∀ {os : List Opd} {ss : List SD} {m : List Bool}, Resv Γf os ss m → ∀ {h1 h2 hx : Hp} {vs vx : List V}, OpdsOk K F G os h1 h2 σ vs → SlotsV σ (slots m os) vx → ownL K F G (sel m ss) hx vx → Dis h1 hx →
    vx = sel m vs ∧ ∃ ho hd, Sub ho (cup h1 hx) ∧ Sub hd h1 ∧ Dis ho hd ∧ ∀ g', Sub G g' → Sub hd g' → Sub hr g' → Dis F g' → ownL K F g' ss ho vs
  | _, _, _, .nil, h1, h2, hx, vs, vx, q, sv, ox, d => by
    have e1 : vs = [] := q
    have e2 : vx = [] := sv
    subst e1 e2
    exact ⟨rfl, emp, emp, .emp, .emp, .emp, fun g' _ _ _ _ => by unfold ownL; rfl⟩
  | _, _, _, .own (m := m) t, h1, h2, hx, vs, vx, ⟨v, vr, ha, hb, e, s1, s2, dd, w, q⟩, sv, ox, d => by
    subst e
    obtain ⟨e1, ho, hd, a1, a2, a3, a4⟩ := Resv.ok er t q (m := m) sv ox (d.mono s2 .refl)
    have dax : Dis ha (cup hb hx) := (Dis.cup dd.symm (d.mono s1 .refl).symm).symm
    refine ⟨e1, cup ha ho, hd, Sub.cup (s1.trans .l) (a1.trans (Sub.cup (s2.trans .l) (.r d))), a2.trans s2, Dis.cup (dd.mono .refl a2) a3, fun g' b1 b2 b3 b4 => ownL_append2 (own_mono .refl (Sub.cup2 .refl b1 b4) _ .refl w) (a4 g' b1 b2 b3 b4) (dax.mono .refl a1)⟩
  | _, _, _, .ownR (d := dt) (m := m) see t, h1, h2, hx, vs, vx, ⟨v, vr, ha, hb, e, s1, s2, dd, w, q⟩, sv, ox, d => by
    subst e
    obtain ⟨e1, ho, hd, a1, a2, a3, a4⟩ := Resv.ok er t q (m := m) sv ox (d.mono s2 .refl)
    have dax : Dis ha (cup hb hx) := (Dis.cup dd.symm (d.mono s1 .refl).symm).symm
    refine ⟨e1, ho, cup ha hd, a1.trans (Sub.cup (s2.trans .l) (.r d)), Sub.cup s1 (a2.trans s2), (Dis.cup (dax.mono .refl a1) a3.symm).symm, fun g' b1 b2 b3 b4 => ?_⟩
    have z : Tsa.own K F g' (.rd dt) emp v := by
      unfold Tsa.own
      exact See.ok see .l (Sub.cup2 .refl b1 b4) ((Sub.l.trans b2).trans (.r b4)) w
    exact ownL_mono .refl .refl _ (Sub.cup .emp .refl) (ownL_append2 z (a4 g' b1 ((Sub.r (dd.mono .refl a2)).trans b2) b3 b4) .emp)
  | _, _, _, .lend (d := dt) (m := m) hi see t, h1, h2, hx, vs, vx, ⟨v, vr, ha, hb, e, s1, s2, dd, w, q⟩, sv, ox, d => by
    subst e
    obtain ⟨e1, ho, hd, a1, a2, a3, a4⟩ := Resv.ok er t q (m := m) sv ox (d.mono s2 .refl)
    refine ⟨e1, ho, hd, a1.trans (Sub.cup (s2.trans .l) (.r d)), a2.trans s2, a3, fun g' b1 b2 b3 b4 => ?_⟩
    obtain ⟨o, k1, k2, eo, t1, t2, d12, wo, _⟩ := er.at hi
    have hne : ∀ {s : SD} {dt : PyData}, See s dt → s ≠ .hole := fun q z => by subst z; cases q
    obtain ⟨u, eu, wu⟩ := wo.val (hne see)
    have ev : u = v := by
      have w' : σ[_]? = some (some v) := w
      rw [eo, eu] at w'
      exact Option.some.inj (Option.some.inj w')
    subst ev
    have z : Tsa.own K F g' (.rd dt) emp u := by
      unfold Tsa.own
      exact See.ok see .l (Sub.cup2 .refl b1 b4) ((t1.trans b3).trans (.r b4)) wu
    exact ownL_mono .refl .refl _ (Sub.cup .emp .refl) (ownL_append2 z (a4 g' b1 b2 b3 b4) .emp)
  | _, _, _, .inout (m := m) t, h1, h2, hx, vs, vx, ⟨v, vr, ha, hb, e, s1, s2, dd, w, q⟩, sv, ox, d => by
    subst e
    obtain ⟨v', vr', e', eσ, sv'⟩ := sv
    subst e'
    have ev : v' = v := by
      have w' : σ[_]? = some (some v) := w
      rw [eσ] at w'
      exact Option.some.inj (Option.some.inj w')
    subst ev
    have ox' : ownL K F G (_ :: sel m _) hx (v' :: vr') := ox
    unfold ownL at ox'
    obtain ⟨v0, v1, k1, k2, e0, t1, t2, d12, wx, ox2⟩ := ox'
    cases e0
    obtain ⟨e1, ho, hd, a1, a2, a3, a4⟩ := Resv.ok er t q (m := m) sv' ox2 (d.mono s2 t2)
    have dk : Dis k1 ho := ((Dis.cup (d.mono s2 t1) d12.symm).mono a1 .refl).symm
    refine ⟨by show _ :: _ = _ :: sel m vr; rw [e1], cup k1 ho, hd, Sub.cup (t1.trans (.r d)) (a1.trans (Sub.cup (s2.trans .l) (t2.trans (.r d)))), a2.trans s2, Dis.cup (d.mono (a2.trans s2) t1).symm a3, fun g' b1 b2 b3 b4 => ownL_append2 (own_mono .refl (Sub.cup2 .refl b1 b4) _ .refl wx) (a4 g' b1 b2 b3 b4) dk⟩
end

/-! ### calls -/
section
variable {K : PySem.W.Frag} {X : Cx} {C : XC} {pu pt : Bool} {ω ω' ι : Type} {Γ : List SD} {e o : Expr} {es : List Expr} {M : Res ω} {pos p : Pos} {k : Opd → List SD → Res ω → Prop} {ka : List Opd → List SD → Res ω → Prop} {lv : Nat} {f : Addr} {fd : FuncData} {ps : List Str} {sp : Sp} {x : Str}
  {args : ι → List SD} {mir : ι → Res ω'} {ret : ι → ω' → SD} {out : ι → ω' → List SD} {xout : ι → List SD} {dvs : List V} {ds : List Value}
/-- the callee runs -/
theorem runG {pins : List (Addr × Obj)} {σ : L2.St} {H : Hp} {s : Shared} {Q : VK} {E : XK} {us : List Value} {vs : List V} (Fn : FnG X.prog X.w X.K X.mg X.base lv f fd ps sp) (hr : RoomG lv X.A) (hb : Binds X.K fd ps ds) (hd : Vals dvs ds) (hx : PassesAt (L2N.CX X.prog X.w) X σ E)
    (I : Inv X pins σ H s) (r : Vals vs us) (h : sp (vs ++ dvs) H Q E) : wpAny (model X.prog X.w) X.A (call (.ref f) us) (EP X pins σ Q) X.xe s := by
  have all : Vals (vs ++ dvs) (us ++ ds) := r.append hd
  have count : (us ++ ds).length = ps.length := by
    rw [← all.length]
    exact Fn.len _ _ _ _ h
  have went := Fn.run X.A X.stack s H ⟨us, []⟩ (us ++ ds) (vs ++ dvs) Q E hr I.env0 (hb s us I.kIn count) all h
  refine wpAny_call (codeAny_mono went ?_)
  intro res s' got
  match res, got with
  | .error e, got => exact hx pins H s e s' I got
  | .ok (.ret u), got => exact I.after got
  | .ok .next, got => exact got.elim
  | .ok .brk, got => exact got.elim
  | .ok .cont, got => exact got.elim
/-- what a call's arguments are to the callee -/
def Args (C : XC) {ω ω' ι : Type} (args : ι → List SD) (mir : ι → Res ω') (ret : ι → ω' → SD) (out : ι → ω' → List SD) (xout : ι → List SD) (dl : List SD) (pu : Bool) (k : Opd → List SD → Res ω → Prop) (os : List Opd) (Γ1 : List SD) (M1 : Res ω) : Prop :=
  ∃ (i : ι) (ss : List SD) (m : List Bool) (Γf : List SD) (ws : List (SD → SD)) (kM : ω' → Res ω), Take Γ1 (slots m os) (sel m ss) ws Γf ∧ Resv Γf os ss m ∧ args i = ss ++ dl ∧ M1 = (mir i).bind kM ∧
    (∀ e, mir i = .ex e → Le (putB Γf (slots m os) ws (sel m (xout i))) C.Γx) ∧ (pu = true → Γf = Γ1 ∧ slots m os = []) ∧ ∀ r, mir i = .ok r → k (.own (ret i r)) (putB Γf (slots m os) ws (sel m (out i r))) (kM r)
theorem ownL_appL {F G : Hp} : ∀ {a b : List SD} {h : Hp} {vs us : List V}, ownL K F G a h vs → ownL K F G b emp us → ownL K F G (a ++ b) h (vs ++ us)
  | [], b, h, vs, us, q, r => by
    unfold ownL at q
    subst q
    exact ownL_mono .refl .refl _ .emp r
  | s :: a, b, h, vs, us, q, r => by
    unfold ownL at q
    obtain ⟨v, vr, h1, h2, e, s1, s2, d, w, q⟩ := q
    subst e
    show ownL K F G (s :: (a ++ b)) h (v :: (vr ++ us))
    unfold ownL
    exact ⟨v, _, h1, h2, rfl, s1, s2, d, w, ownL_appL q r⟩
theorem sel_app {α : Type} : ∀ {m : List Bool} {a b : List α}, m.length = a.length → sel m (a ++ b) = sel m a
  | [], [], b, _ => by cases b <;> rfl
  | true :: m, x :: a, b, h => by show x :: sel m (a ++ b) = x :: sel m a; rw [sel_app (by simpa using h)]
  | false :: m, x :: a, b, h => by show sel m (a ++ b) = sel m a; exact sel_app (by simpa using h)
theorem Resv.len {Γf : List SD} : ∀ {os : List Opd} {ss : List SD} {m : List Bool}, Resv Γf os ss m → m.length = os.length
  | _, _, _, .nil => rfl
  | _, _, _, .own t => by rw [List.length_cons, List.length_cons, t.len]
  | _, _, _, .ownR _ t => by rw [List.length_cons, List.length_cons, t.len]
  | _, _, _, .lend _ _ t => by rw [List.length_cons, List.length_cons, t.len]
  | _, _, _, .inout t => by rw [List.length_cons, List.length_cons, t.len]
theorem OpdsOk.len {F G : Hp} {σ : L2.St} {h2 : Hp} : ∀ {os : List Opd} {h1 : Hp} {vs : List V}, OpdsOk K F G os h1 h2 σ vs → os.length = vs.length
  | [], _, _, q => by rw [show _ = [] from q]; rfl
  | _ :: _, _, _, ⟨_, _, _, _, e, _, _, _, _, q⟩ => by rw [e, List.length_cons, List.length_cons, q.len]
theorem NRL.sel {ss : List SD} (n : NRL ss) : ∀ {m : List Bool}, NRL (Tsa.sel m ss) := by
  induction ss with
  | nil => intro m; cases m with
    | nil => exact NRL.nil
    | cons b m => cases b <;> exact NRL.nil
  | cons s ss ih =>
    intro m
    have n' : NRL ss := fun x hx => n x (List.mem_cons_of_mem _ hx)
    cases m with
    | nil => exact NRL.nil
    | cons b m =>
      cases b with
      | true => exact NRL.cons (n s (List.mem_cons_self ..)) (ih n')
      | false => exact ih n'
/-- the callee's promise is asked rightly -/
theorem args_sp {dl : List SD} {os : List Opd} {Γ1 : List SD} {M1 : Res ω} (A : Args C args mir ret out xout dl pu k os Γ1 M1) (hdl : ∀ F G, ownL X.K F G dl emp dvs) (nr : ∀ i r, NR (ret i r)) (no : ∀ i r, NRL (out i r)) (nx : ∀ i, NRL (xout i)) (nex : ∀ i e, mir i = .ex e → NRF e.flds)
    {F1 h1 h2 g H1 : Hp} {σ : L2.St} {vs : List V} {Q : VK} (ow1 : OpdsOk X.K F1 C.G os h1 h2 σ vs) (he1 : EnvR X.K F1 C.G Γ1 h2 σ) (d1 : Dis h1 h2) (hf1 : Fits F1 (cup h1 h2) g H1) (hG : Sub C.G g) (hu : M1 ≠ .un) (hx : XOk X.K C F1 g M1)
    (hq : ∀ (o : Opd) (Γ' : List SD) (M' : Res ω), k o Γ' M' → M' = M1 → ∀ (v : V) (F' k1 k2 H' : Hp), Sub F1 F' → OpdOk X.K F' C.G k1 k2 σ o v → EnvR X.K F' C.G Γ' k2 σ → Dis k1 k2 → Fits F' (cup k1 k2) g H' → (pu = true → Sub h2 k2 ∧ Γ' = Γ1) → Q v H') :
    SpM X.K args mir ret out xout (vs ++ dvs) H1 Q (fun c d H' => C.E c d σ H') := by
  obtain ⟨i, ss, m, Γf, ws, kM, tk, rs, ea, eM, hex, hpu, hk⟩ := A
  have fg : Dis F1 C.G := hf1.fg.mono .refl hG
  obtain ⟨hxx, hr, vx, a0, a1, a2, a3, a4, a5, a6, a7⟩ := tk.ok fg he1
  obtain ⟨e1, ho, hd, b1, b2, b3, b4⟩ := rs.ok a6 ow1 a4 a5 (d1.mono .refl a1)
  have dor : Dis ho hr := (Dis.cup (d1.mono .refl a2) a3).mono b1 .refl
  have ddr : Dis hd hr := d1.mono b2 a2
  have all : Sub (cup hd (cup hr ho)) (cup h1 h2) := Sub.cup (b2.trans .l) (Sub.cup (a2.trans (.r d1)) (b1.trans (Sub.cup2 .refl a1 d1)))
  have f1 := (hf1.sub all).out (Dis.cup ddr.symm b3).symm
  have f2 := f1.out dor.symm
  have dgd : Dis hd g := hf1.hg.mono (b2.trans .l) .refl
  have dgr : Dis hr (cup hd g) := (Dis.cup ddr (hf1.hg.mono (a2.trans (.r d1)) .refl).symm).symm
  have sg : Sub g (cup hr (cup hd g)) := (Sub.r dgd).trans (.r dgr)
  have hlen : m.length = vs.length := by rw [rs.len, ow1.len]
  have evx : sel m (vs ++ dvs) = vx := by rw [sel_app hlen, e1]
  refine ⟨i, F1, ho, cup hr (cup hd g), ?_, f2, fun z => hu (by rw [eM, z]; rfl), fun r hr' v F2 k1 k2 H2 x2 owr eout dd ff => ?_, fun e hee c od F2 hx' k2 H2 x2 en eout dd ff => ?_⟩
  · rw [ea]
    exact ownL_appL (b4 _ (hG.trans sg) (Sub.l.trans (.r dgr)) .l f2.fg) (hdl _ _)
  · have f3 := (ff.inn dgr).less (.r dgd)
    have dkr : Dis k2 hr := (ff.hg.mono (.r dd) .l)
    have dk1r : Dis k1 hr := (ff.hg.mono .l .l)
    have z := eout.sel (m := m) (fun _ => .inr rfl)
    rw [evx] at z
    refine hq _ _ (kM r) (hk r hr') (by rw [eM, hr']; rfl) v F2 k1 (cup k2 hr) H2 x2 (nr i r _ _ _ _ _ _ owr) (a7 F2 _ k2 x2 (f3.fg.mono .refl hG) (((no i r).sel).env z) dkr) (Dis.cup dd.symm dk1r.symm).symm (f3.sub ?_) fun w => ?_
    · exact Sub.cup (Sub.l.trans (.r (ff.hg.mono .refl .l).symm)) (Sub.cup ((Sub.r dd).trans (.r (ff.hg.mono .refl .l).symm)) .l)
    · obtain ⟨w1, w2⟩ := hpu w
      refine ⟨?_, ?_⟩
      · have z := a0 w2
        rw [z] at dkr
        rw [z]
        exact .r dkr
      · rw [w2, w1]
        rfl
  · have f3 := (ff.inn dgr).less (.r dgd)
    have dkr : Dis k2 hr := (ff.hg.mono (.r dd) .l)
    have dk1r : Dis hx' hr := (ff.hg.mono .l .l)
    have z := eout.sel (m := m) (fun _ => .inr rfl)
    rw [evx] at z
    refine hx e (by rw [eM, hee]; rfl) c od F2 hx' (cup k2 hr) H2 σ x2 ?_ ((hex e hee).ok (a7 F2 _ k2 x2 (f3.fg.mono .refl hG) (((nx i).sel).env z) dkr)) (Dis.cup dd.symm dk1r.symm).symm (f3.sub ?_)
    · obtain ⟨z1, z2⟩ := en
      refine ⟨z1, ?_⟩
      rcases z2 with z2 | ⟨dd, z3, z4⟩
      · exact .inl z2
      · exact .inr ⟨dd, z3, NR.xds (nex i e hee) _ _ _ _ _ _ z4⟩
    · exact Sub.cup (Sub.l.trans (.r (ff.hg.mono .refl .l).symm)) (Sub.cup ((Sub.r dd).trans (.r (ff.hg.mono .refl .l).symm)) .l)
theorem call_core {dl : List SD} {t : TA} (h : JTA X.K C pu Γ t M (Args C args mir ret out xout dl pu k)) (hdl : ∀ F G, ownL X.K F G dl emp dvs) (nr : ∀ i r, NR (ret i r)) (no : ∀ i r, NRL (out i r)) (nx : ∀ i, NRL (xout i)) (nex : ∀ i e, mir i = .ex e → NRF e.flds) :
    JT X.K C pu Γ (fun σ H Q => t σ H fun vs H1 => SpM X.K args mir ret out xout (vs ++ dvs) H1 Q (fun c d H' => C.E c d σ H')) M k := by
  intro F h0 g H σ Q he hf hG hu hx hq
  refine h F h0 g H σ _ he hf hG hu hx fun os Γ1 M1 A hm vs F1 h1 h2 H1 x1 ow1 he1 d1 hf1 hp1 => ?_
  subst hm
  exact args_sp A hdl nr no nx nex ow1 he1 d1 hf1 hG hu (hx.mono x1) fun o Γ' M' hk hm v F' k1 k2 H' a1 a2 a3 a4 a5 a6 => hq o Γ' M' hk hm v F' k1 k2 H' (x1.trans a1) a2 a3 a4 a5 fun z => ⟨(hp1 z).1.trans (a6 z).1, (a6 z).2.trans (hp1 z).2⟩
end
end Tsa

/-! M10: calls by name, of methods, of classes. -/
namespace Tsa
open PySem PySem.Spec PyProof.Rows L2
section
variable {K : PySem.W.Frag} {X : Cx} {C : XC} {pu pt : Bool} {ω ω' ι : Type} {Γ : List SD} {e o : Expr} {es : List Expr} {M : Res ω} {pos p apos : Pos} {k : Opd → List SD → Res ω → Prop} {ka : List Opd → List SD → Res ω → Prop} {lv : Nat} {f Ca : Addr} {fd : FuncData} {ps : List Str} {sp : Sp} {x m : Str}
  {args : ι → List SD} {mir : ι → Res ω'} {ret : ι → ω' → SD} {out : ι → ω' → List SD} {xout : ι → List SD} {dvs : List V} {ds : List Value} {E : WX} {t : TA} {ta : TE}
abbrev tCallG (sp : Sp) (dvs : List V) (E : WX) (t : TA) : TE := fun σ H Q => t σ H fun vs H1 => sp (vs ++ dvs) H1 Q (fun c d H' => E c d σ H')
theorem pe_callG (Fn : FnG X.prog X.w X.K X.mg X.base lv f fd ps sp) (hr : RoomG lv X.A) (hg : Gl X x) (hm : X.mg x = some (.ref f)) (hk : PySem.W.keepIn X.K (.ref f) = true) (hb : Binds X.K fd ps ds) (hd : Vals dvs ds) (hx : PassesW X E)
    (ha : PA X (e :: es) t) (hdb : (x == ("__debug__" : Str)) = false := by decide) (he : starEach (e :: es) X.env = (false, eval e X.env) :: starEach es X.env := by rfl) (hpl : (backTo pos (starEach es X.env)).any (·.1) = false := by rfl) :
    PE X (.Call (.Name x p) (e :: es) [] pos) (tCallG sp dvs E t) :=
  ⟨fun pins s σ H Q I h => wpAny_Call_Name_kw (ld_glob I hg hm (PySem.W.callWith_K (h₀ := X.base) I.ok.mod.kin hk (thn (ha.run pos pins s σ H _ I h) fun us s1 ⟨vs, H1, I1, r, q⟩ => ⟨I1.kIn, runG Fn hr hb hd (hx σ) I1 r q⟩) he hpl) hdb)⟩
/-- what stands of a callee: where it lies, what it promises -/
structure Callee (X : Cx) {ι ω' : Type} (lv : Nat) (f : Addr) (args : ι → List SD) (mir : ι → Res ω') (ret : ι → ω' → SD) (out : ι → ω' → List SD) (xout : ι → List SD) (dl : List SD) : Prop where
  ex : ∃ (fd : FuncData) (ps : List Str) (dvs : List V) (ds : List Value), FnG X.prog X.w X.K X.mg X.base lv f fd ps (SpM X.K args mir ret out xout) ∧ Binds X.K fd ps ds ∧ Vals dvs ds ∧ ∀ F G, ownL X.K F G dl emp dvs
  keep : PySem.W.keepIn X.K (.ref f) = true
  nr : ∀ i r, NR (ret i r)
  no : ∀ i r, NRL (out i r)
  nx : ∀ i, NRL (xout i)
  nex : ∀ i e, mir i = .ex e → NRF e.flds
variable {dl : List SD}
/-- a call by name; dl: the defaults that fill up -/
theorem JE.call (c : Callee X lv f args mir ret out xout dl) (hr : RoomG lv X.A) (hm : X.mg x = some (.ref f)) (hx : PassesW X C.E)
    (h : JA X C pu Γ (e :: es) M (Args C args mir ret out xout dl pu k)) (hg : Gl X x := by rfl) (hdb : (x == ("__debug__" : Str)) = false := by decide)
    (he : starEach (e :: es) X.env = (false, eval e X.env) :: starEach es X.env := by rfl) (hpl : (backTo pos (starEach es X.env)).any (·.1) = false := by rfl) : JE X C pu Γ (.Call (.Name x p) (e :: es) [] pos) M k := by
  obtain ⟨fd, ps, dvs, ds, Fn, hb, hd, hdl⟩ := c.ex
  exact JE.of (pe_callG Fn hr hg hm c.keep hb hd hx pa_sem hdb he hpl) (call_core h hdl c.nr c.no c.nx c.nex)
/-! ### methods -/
abbrev tMethG (Ca : Addr) (m : Str) (sp : Sp) (dvs : List V) (E : WX) (ta : TE) (t : TA) : TE := fun σ H Q => ta σ H fun x H1 => ∃ a dx fs, x = .ref a ∧ H1 a = some (.ins Ca dx fs) ∧ fs.lookup m = none ∧ t σ H1 fun vs H2 => sp (x :: (vs ++ dvs)) H2 Q (fun c d H' => E c d σ H')
inductive ObjAt : SD → Addr → List (Str × SD) → Prop
  | obj {Ca : Addr} {l : List (Str × SD)} : ObjAt (.obj Ca l) Ca l
  | pin {v : V} {Ca : Addr} {l : List (Str × SD)} : ObjAt (.pin v (.obj Ca l)) Ca l
/-! ### new instances -/
abbrev tMakeG (Ca : Addr) (sp : Sp) (dvs : List V) (E : WX) (t : TA) : TE := fun σ H Q => t σ H fun vs H1 => ∀ x dx, H1 x = none → H1 dx = none → dx ≠ x →
  sp (.ref x :: (vs ++ dvs)) (upd (upd H1 dx (.own x)) x (.ins Ca dx [])) (fun v H2 => v = .non ∧ Q (.ref x) H2) (fun c d H' => E c d σ H')
/-- C(..): its __init__ hands the new object back -/
abbrev moreX (C : XC) : XC := { C with Γx := C.Γx ++ [.hole], E := fun c d σ H => C.E c d σ.dropLast H }
end
end Tsa

/-! M11: sequences: looked at, indexed, made, locked. -/
namespace Tsa
open PySem PySem.Spec PyProof.Rows L2
section
variable {K : PySem.W.Frag} {X : Cx} {C : XC} {pu pt : Bool} {ω : Type} {Γ : List SD} {e a b : Expr} {es : List Expr} {M : Res ω} {pos p : Pos} {ta tb : TE} {k : Opd → List SD → Res ω → Prop}
/-- two operands -/
theorem JT.two2 {r : R2} {Z : Opd → Opd → List SD → Res ω → Prop} (h : JT K C pu Γ ta M fun oa Γ1 M1 => ((∃ s, oa = .own s) ∨ (∃ i, oa = .at i) ∨ pt = true) ∧ (pu = true → pt = true) ∧ JT K C pt Γ1 tb M1 fun ob Γ2 M2 => Z oa ob Γ2 M2)
    (fin : ∀ (oa ob : Opd) (Γ2 : List SD), Z oa ob Γ2 M → ∀ (F h1 h h2 g H : Hp) (σ : L2.St) (va vb : V) (Q : VK), OpdsOk K F C.G [oa, ob] h1 h2 σ [va, vb] → EnvR K F C.G Γ2 h2 σ → Dis h1 h2 →
      Fits F (cup h1 h2) g H → Sub C.G g → (pu = true → Sub h h2 ∧ Γ2 = Γ) → M ≠ .un → XOk K C F g M → Kt K C pu Γ M k F h g σ Q → r va vb H Q) : JT K C pu Γ (tOp r ta tb) M k := by
  intro F h0 g H σ Q he hf hG hu hx hq
  refine h F h0 g H σ _ he hf hG hu hx fun oa Γ1 M1 ⟨ho, hpt, hj⟩ hm va F1 ha h1 H1 x1 ow he1 d1 hf1 hp1 => ?_
  subst hm
  have dag : Dis ha g := hf1.hg.mono .l .refl
  have hf1' := hf1.out d1
  have hx1 : XOk K C F1 (cup ha g) M1 := fun e hm c od F' hx' h' H' σ' s ex en dd ff => by
    refine hx e hm c od F' hx' h' H' σ' (x1.trans s) ex en dd ((ff.inn dag).sub (.r ff.dis))
  refine hj F1 h1 (cup ha g) H1 σ _ he1 hf1' (hG.trans (.r dag)) hu hx1 fun ob Γ2 M2 hk hm2 vb F2 hb h2 H2 x2 ow2 he2 d2 hf2 hp2 => ?_
  subst hm2
  have hf3 := hf2.inn dag
  have dha : Dis ha (cup hb h2) := hf2.dis
  have dfg : Dis F2 C.G := hf3.fg.mono .refl hG
  have dgh2 : Dis C.G h2 := (hf3.hg.mono ((Sub.r d2).trans (.r dha)) hG).symm
  refine fin oa ob Γ2 hk F2 (cup ha hb) h0 h2 g H2 σ va vb Q ⟨va, [vb], ha, hb, rfl, .l, .r (dha.mono .refl .l), dha.mono .refl .l, ow.mono x2 dfg (Dis.cup dfg.symm (hf3.fh.mono .refl ((Sub.r d2).trans (.r dha))).symm).symm dgh2 ?_, ⟨vb, [], hb, emp, rfl, .refl, .emp, Dis.emp.symm, ow2, rfl⟩⟩ he2 (Dis.cup (dha.mono .refl (.r d2)) d2) (by rw [cup_assoc]; exact hf3) hG
    (fun z => ⟨(hp1 z).1.trans (hp2 (hpt z)).1, (hp2 (hpt z)).2.trans (hp1 z).2⟩) hu (hx.mono (x1.trans x2)) ?_
  · rcases ho with z | z | z
    · exact .inl z
    · exact .inr (.inl z)
    · exact .inr (.inr (hp2 z).1)
  · exact fun o Γ' M' hk hm v F' h1' h2' H' x => hq o Γ' M' hk hm v F' h1' h2' H' ((x1.trans x2).trans x)

/-! ### views -/
/-- a sequence behind an operand: a tuple (true) or a list, its items lasting -/
inductive SeqV (Γ : List SD) : Opd → Bool → List SD → Prop
  | own {s : SD} {t : Bool} {ys : List SD} (q : SeqOf s t ys) : SeqV Γ (.own s) t ys
  | at {i : Nat} {s : SD} {t : Bool} {ys : List SD} (hi : Γ[i]? = some s) (q : SeqOf s t ys) : SeqV Γ (.at i) t ys
  | pin {i : Nat} {v : V} {s : SD} {t : Bool} {ys : List SD} (hi : Γ[i]? = some (.pin v s)) (q : SeqOf s t ys) : SeqV Γ (.at i) t ys
  | fl {i : Nat} {f : Str} {s0 s : SD} {t : Bool} {ys : List SD} (hi : Γ[i]? = some s0) (hf : FldS s0 f s) (q : SeqOf s t ys) : SeqV Γ (.fl i f) t ys
theorem SeqOf.ne {s : SD} {t : Bool} {ys : List SD} (q : SeqOf s t ys) : s ≠ .hole := fun z => by subst z; cases q
theorem SeqV.ok {o : Opd} {t : Bool} {ys : List SD} (q : SeqV Γ o t ys) {F G h1 h2 g H : Hp} {σ : L2.St} {v : V} (ow : OpdOk K F G h1 h2 σ o v) (he : EnvR K F G Γ h2 σ) (d : Dis h1 h2) (hf : Fits F (cup h1 h2) g H) (hG : Sub G g) :
    ∃ p vs, v = .ref p ∧ vs.length = ys.length ∧ (if t then SqT K H p vs else SqL K H p vs) ∧ ∀ (i : Nat) (s : SD), ys[i]? = some s → ∃ x, vs[i]? = some x ∧ Tsa.own K F G s emp x := by
  have at_ : ∀ {s : SD} {h : Hp}, SeqOf s t ys → Sub h (cup h1 h2) → Tsa.own K F G s h v → ∃ p vs, v = .ref p ∧ vs.length = ys.length ∧ (if t then SqT K H p vs else SqL K H p vs) ∧ ∀ (i : Nat) (s : SD), ys[i]? = some s → ∃ x, vs[i]? = some x ∧ Tsa.own K F G s emp x := by
    intro s h q sb ow
    have f := hf.sub sb
    obtain ⟨p, vs, e, l, z, it⟩ := q.at ow f hG
    have f2 : Fits F (cup h emp) g H := f.sub (Sub.cup .refl .emp)
    exact ⟨p, vs, e, l, z H emp F .refl (f2.out Dis.emp.symm), it⟩
  cases q with
  | own q => exact at_ q .l ow
  | «at» hi q =>
    obtain ⟨o, k1, k2, eo, s1, s2, d12, w, _⟩ := he.at hi
    obtain ⟨u, eu, wu⟩ := w.val q.ne
    have ow' : σ[_]? = some (some v) := ow
    rw [eo, eu] at ow'
    cases ow'
    exact at_ q (s1.trans (.r d)) wu
  | pin hi q =>
    obtain ⟨o, k1, k2, eo, s1, s2, d12, w, _⟩ := he.at hi
    obtain ⟨u, eu, wu⟩ := w.val (by intro z; cases z)
    have ow' : σ[_]? = some (some v) := ow
    rw [eo, eu] at ow'
    cases ow'
    unfold Tsa.own at wu
    exact at_ q (s1.trans (.r d)) wu.2
  | fl hi hf q =>
    obtain ⟨h3, s3, w3⟩ := hf.at hi he ow
    exact at_ q (s3.trans (.r d)) w3
/-- an item, or nothing that is walked -/
def idx {α : Type} (xs : List α) (i : Int) : Res α := match atI xs i with
  | some x => .ok x
  | none => .un
theorem atI_map {α β : Type} {f : α → β} {xs : List α} {i : Int} : atI (xs.map f) i = (atI xs i).map f := by
  unfold atI
  rw [List.length_map]
  cases ixN xs.length i with
  | none => rfl
  | some j => show (xs.map f)[j]? = (xs[j]?).map f; rw [List.getElem?_map]
theorem atI_len {α β : Type} {xs : List α} {ys : List β} {i : Int} {y : β} (h : xs.length = ys.length) (e : atI ys i = some y) : ∃ j, ixN xs.length i = some j ∧ ys[j]? = some y := by
  unfold atI at e
  rw [← h] at e
  cases q : ixN xs.length i with
  | none => rw [q] at e; cases e
  | some j => rw [q] at e; exact ⟨j, rfl, e⟩
theorem ix_any {X : Cx} (t : Bool) : IxR X (if t then rIxT X.K else rIxL X.K) := by
  cases t with
  | true => exact ix_tup
  | false => exact ix_list
/-- e[i], i reckoned -/
theorem JE.ix {α : Type} {xs : List α} {f : α → SD} {t : Bool} (h : JE X C pu Γ a M fun oa Γ1 M1 => ((∃ s, oa = .own s) ∨ (∃ i, oa = .at i)) ∧ JI X C pu Γ1 b M1 fun i Γ2 M2 => ∃ kM, SeqV Γ2 oa t (xs.map f) ∧ M2 = (idx xs i).bind kM ∧ ∀ x, idx xs i = .ok x → k (.own (f x)) Γ2 (kM x)) (hs : PlainIx b := by exact fun _ _ => rfl) :
    JE X C pu Γ (.Subscript a b pos) M k := by
  refine JE.of (pe_ix (ix_any t) pe_sem pe_sem hs) (JT.two2 (pt := pu) (Z := fun oa ob Γ2 M2 => ∃ i, ob = .own (.val (.int i)) ∧ ∃ kM, SeqV Γ2 oa t (xs.map f) ∧ M2 = (idx xs i).bind kM ∧ ∀ x, idx xs i = .ok x → k (.own (f x)) Γ2 (kM x)) (h.mono fun oa Γ1 M1 ⟨h1, h2⟩ => ⟨by
    rcases h1 with h1 | h1
    · exact .inl h1
    · exact .inr (.inl h1), fun z => z, h2⟩) ?_)
  intro oa ob Γ2 ⟨i, e2, kM, sv, eM, hk⟩ F h1 h0 h2 g H σ va vb Q ow he d hf hG hp hu hx hq
  subst e2
  obtain ⟨va', vr, ha, hb, ev, s1, s2, dd, w1, v2, vr2, hb1, hb2, ev2, s3, s4, dd2, w2, e3⟩ := ow
  cases ev
  cases ev2
  unfold OpdOk own at w2
  obtain rfl := w2.intV
  have d1 : Dis ha h2 := d.mono s1 .refl
  obtain ⟨p, vs, e, l, z, it⟩ := sv.ok w1 he d1 (hf.sub (Sub.cup2 s1 .refl d)) hG
  subst e
  cases hx' : atI xs i with
  | none =>
    refine absurd ?_ hu
    rw [eM]; unfold idx; rw [hx']; rfl
  | some x =>
    have hidx : idx xs i = .ok x := by unfold idx; rw [hx']
    have ha' : atI (xs.map f) i = some (f x) := by rw [atI_map, hx']; rfl
    obtain ⟨j, ej, ey⟩ := atI_len (xs := vs) l ha'
    obtain ⟨y, ey2, wy⟩ := it j _ ey
    have hy : atI vs i = some y := by unfold atI; rw [ej]; exact ey2
    have fin : Q y H := hq _ _ (kM x) (hk x hidx) (by rw [eM, hidx]; rfl) y F emp h2 H .refl wy he .emp ((hf.sub (.r d)).emp) hp
    cases t with
    | true => exact ⟨p, vs, i, y, rfl, rfl, z, hy, fin⟩
    | false => exact ⟨p, vs, i, y, rfl, rfl, z, hy, fin⟩
/-- e[3]: the items told -/
theorem JE.ixC {ys : List SD} {s : SD} {t : Bool} {i : Int} {j} {p' : Pos} (h : JE X C pu Γ a M fun oa Γ1 M1 => ((∃ s, oa = .own s) ∨ (∃ i, oa = .at i)) ∧ SeqV Γ1 oa t ys ∧ atI ys i = some s ∧ k (.own s) Γ1 M1) : JE X C pu Γ (.Subscript a (.Constant (.int i) j p') pos) M k := by
  refine JE.of (pe_ix (ix_any t) pe_sem pe_int (fun _ _ => rfl)) fun F h0 g H σ Q he hf hG hu hx hq => h F h0 g H σ _ he hf hG hu hx fun oa Γ1 M1 ⟨_, sv, hs, hk⟩ hm v F' h1 h2 H' x ow he' d hf' hp => ?_
  obtain ⟨p, vs, e, l, z, it⟩ := sv.ok ow he' d hf' hG
  subst e
  obtain ⟨j', ej, ey⟩ := atI_len (xs := vs) l hs
  obtain ⟨y, ey2, wy⟩ := it j' _ ey
  have hy : atI vs i = some y := by unfold atI; rw [ej]; exact ey2
  have fin : Q y H' := hq _ _ M1 hk hm y F' emp h2 H' x wy he' .emp ((hf'.un d).emp) hp
  cases t with
  | true => exact ⟨p, vs, i, y, rfl, rfl, z, hy, fin⟩
  | false => exact ⟨p, vs, i, y, rfl, rfl, z, hy, fin⟩
/-- len: of anything whose length shows -/
inductive LenV (Γ : List SD) : Opd → Nat → Prop
  | seq {o : Opd} {t : Bool} {ys : List SD} {n : Nat} (q : SeqV Γ o t ys) (hn : ys.length = n) : LenV Γ o n
  | lst {l : List SD} {n : Nat} (hn : l.length = n) : LenV Γ (.own (.lst l)) n
  | lstAt {i : Nat} {l : List SD} {n : Nat} (hi : Γ[i]? = some (.lst l)) (hn : l.length = n) : LenV Γ (.at i) n
  | lstPin {i : Nat} {v : V} {l : List SD} {n : Nat} (hi : Γ[i]? = some (.pin v (.lst l))) (hn : l.length = n) : LenV Γ (.at i) n
  | lstFl {i : Nat} {f : Str} {s0 : SD} {l : List SD} {n : Nat} (hi : Γ[i]? = some s0) (hf : FldS s0 f (.lst l)) (hn : l.length = n) : LenV Γ (.fl i f) n
theorem LenV.ok {o : Opd} {n : Nat} (q : LenV Γ o n) {F G h1 h2 g H : Hp} {σ : L2.St} {v : V} (ow : OpdOk K F G h1 h2 σ o v) (he : EnvR K F G Γ h2 σ) (d : Dis h1 h2) (hf : Fits F (cup h1 h2) g H) (hG : Sub G g) :
    ∃ p vs, v = .ref p ∧ vs.length = n ∧ (SqL K H p vs ∨ SqT K H p vs) := by
  have at_ : ∀ {l : List SD} {h : Hp}, l.length = n → Sub h (cup h1 h2) → own K F G (.lst l) h v → ∃ p vs, v = .ref p ∧ vs.length = n ∧ (SqL K H p vs ∨ SqT K H p vs) := by
    intro l h hn sb ow
    unfold own at ow
    obtain ⟨p, vs, h', e, q1, q2, q3, q4⟩ := ow
    exact ⟨p, vs, e, by rw [ownL_len q4]; exact hn, .inl (.of (hf.hH _ _ (sb _ _ q1)))⟩
  cases q with
  | seq q hn =>
    obtain ⟨p, vs, e, l, z, it⟩ := q.ok ow he d hf hG
    rename_i t _
    refine ⟨p, vs, e, l.trans hn, ?_⟩
    cases t with
    | true => exact .inr z
    | false => exact .inl z
  | lst hn => exact at_ hn .l ow
  | lstFl hi hf' hn =>
    obtain ⟨h3, s3, w3⟩ := hf'.at hi he ow
    exact at_ hn (s3.trans (.r d)) w3
  | lstAt hi hn =>
    obtain ⟨o, k1, k2, eo, s1, s2, d12, w, _⟩ := he.at hi
    obtain ⟨u, eu, wu⟩ := w.val (by intro z; cases z)
    have ow' : σ[_]? = some (some v) := ow
    rw [eo, eu] at ow'
    cases ow'
    exact at_ hn (s1.trans (.r d)) wu
  | lstPin hi hn =>
    obtain ⟨o, k1, k2, eo, s1, s2, d12, w, _⟩ := he.at hi
    obtain ⟨u, eu, wu⟩ := w.val (by intro z; cases z)
    have ow' : σ[_]? = some (some v) := ow
    rw [eo, eu] at ow'
    cases ow'
    unfold own at wu
    exact at_ hn (s1.trans (.r d)) wu.2

/-! ### built-ins -/
theorem semA_sz {X : Cx} {es : List Expr} {σ : L2.St} {H : Hp} {Q : List V → Hp → Prop} (h : semA X es σ H fun v H' => Sz X.K H' → Q v H') : semA X es σ H Q := by
  unfold semA at h ⊢
  exact fun pos pins s I => wpAny_mono (h pos pins s I) (fun u s' ⟨v, H', I', r, q⟩ => ⟨v, H', I', r, q (sz_of I')⟩) fun _ _ z => z
def BiK (K : PySem.W.Frag) (C : XC) (pu : Bool) {ω : Type} (r : List V → Hp → VK → Prop) (os : List Opd) (Γ : List SD) (M : Res ω) (k : Opd → List SD → Res ω → Prop) : Prop :=
  ∀ (vs : List V) (F h1 h2 g H : Hp) (σ : L2.St) (Q : VK), OpdsOk K F C.G os h1 h2 σ vs → EnvR K F C.G Γ h2 σ → Dis h1 h2 → Fits F (cup h1 h2) g H → Sub C.G g → Sz K H → M ≠ .un → Kt K C pu Γ M k F h2 g σ Q → r vs H Q
theorem bi_core {r : List V → Hp → VK → Prop} (h : JA X C pu Γ (e :: es) M fun os Γ1 M1 => BiK X.K C pu r os Γ1 M1 k) : JT X.K C pu Γ (tCB r (semA X (e :: es))) M k :=
  fun F h0 g H σ Q he hf hG hu hx hq => semA_sz (h F h0 g H σ _ he hf hG hu hx fun os Γ1 M1 hk hm vs F' h1 h2 H' x ow he' d hf' hp sz => by
    subst hm
    exact hk vs F' h1 h2 g H' σ Q ow he' d hf' hG sz hu fun o Γ' M' hk hm v F2 k1 k2 H2 x2 a2 a3 a4 a5 a6 => hq o Γ' M' hk hm v F2 k1 k2 H2 (x.trans x2) a2 a3 a4 a5 fun z => ⟨(hp z).1.trans (a6 z).1, (a6 z).2.trans (hp z).2⟩)
/-- a built-in by its name -/
theorem JE.bi {id : String} {r : List V → Hp → VK → Prop} {x : Str} (hc : CallR X (.builtin id) r) (hm : X.mg x = none) (h : JA X C pu Γ (e :: es) M fun os Γ1 M1 => BiK X.K C pu r os Γ1 M1 k) (hv : bootBuiltins x = some (.builtin id) := by rfl) (hg : Gl X x := by rfl) (hn : x ≠ "__name__" := by decide)
    (hdb : (x == ("__debug__" : Str)) = false := by decide) (hs : starEach (e :: es) X.env = (false, eval e X.env) :: starEach es X.env := by rfl) (hpl : (backTo pos (starEach es X.env)).any (·.1) = false := by rfl) : JE X C pu Γ (.Call (.Name x p) (e :: es) [] pos) M k :=
  JE.of (pe_callB hc hg hm hv pa_sem hn hdb hs hpl) (bi_core h)
/-- a built-in type by its name -/
theorem JE.ty {T : String} {r : List V → Hp → VK → Prop} {x : Str} (hc : CallR X (.type T) r) (hm : X.mg x = none) (h : JA X C pu Γ (e :: es) M fun os Γ1 M1 => BiK X.K C pu r os Γ1 M1 k) (hv : bootBuiltins x = some (.type T) := by rfl) (hg : Gl X x := by rfl) (hn : x ≠ "__name__" := by decide)
    (hdb : (x == ("__debug__" : Str)) = false := by decide) (hs : starEach (e :: es) X.env = (false, eval e X.env) :: starEach es X.env := by rfl) (hpl : (backTo pos (starEach es X.env)).any (·.1) = false := by rfl) : JE X C pu Γ (.Call (.Name x p) (e :: es) [] pos) M k :=
  JE.of (pe_callTy hc hg hm hv pa_sem hn hdb hs hpl) (bi_core h)
/-- at the end: a new object, standing on what is owned -/
theorem Kt.new {F h1 h2 g H : Hp} {σ : L2.St} {Q : VK} {s : SD} {o : HO} {q : Addr} (hq : Kt K C pu Γ M k F h2 g σ Q) (hk : k (.own s) Γ M) (he : EnvR K F C.G Γ h2 σ) (d : Dis h1 h2) (hf : Fits F (cup h1 h2) g H) (hp : H q = none) (ow : own K F C.G s (cup (sgl q o) h1) (.ref q)) : Q (.ref q) (upd H q o) := by
  have n := hf.no hp
  have n2 : h2 q = none := (Sub.r d).no n.2.1
  refine hq _ _ M hk rfl (.ref q) F (cup (sgl q o) h1) h2 _ .refl ow he (Dis.cup (Dis.one n2) d) ?_ fun _ => ⟨.refl, rfl⟩
  rw [cup_assoc]
  exact hf.new hp
/-- operands that are owned -/
theorem OpdsOk.owns {F G h2 : Hp} {σ : L2.St} : ∀ {ss : List SD} {h1 : Hp} {vs : List V}, OpdsOk K F G (ss.map .own) h1 h2 σ vs → ownL K F G ss h1 vs
  | [], _, _, q => by unfold ownL; exact q
  | s :: ss, _, _, ⟨v, vr, ha, hb, e, s1, s2, dd, w, q⟩ => by
    unfold ownL
    exact ⟨v, vr, ha, hb, e, s1, s2, dd, w, OpdsOk.owns q⟩
theorem OpdsOk.one {F G h1 h2 : Hp} {σ : L2.St} {o : Opd} {vs : List V} (q : OpdsOk K F G [o] h1 h2 σ vs) : ∃ v ha, vs = [v] ∧ Sub ha h1 ∧ OpdOk K F G ha h2 σ o v := by
  obtain ⟨v, vr, ha, hb, e, s1, s2, dd, w, q⟩ := q
  cases q
  exact ⟨v, ha, e, s1, w⟩
theorem OpdsOk.two {F G h1 h2 : Hp} {σ : L2.St} {o o' : Opd} {vs : List V} (q : OpdsOk K F G [o, o'] h1 h2 σ vs) : ∃ v v' ha hb, vs = [v, v'] ∧ Sub ha h1 ∧ Sub hb h1 ∧ Dis ha hb ∧ OpdOk K F G ha h2 σ o v ∧ OpdOk K F G hb h2 σ o' v' := by
  obtain ⟨v, vr, ha, hb, e, s1, s2, dd, w, q⟩ := q
  obtain ⟨v', hb', e2, s3, w2⟩ := q.one
  exact ⟨v, v', ha, hb', by rw [e, e2], s1, s3.trans s2, dd.mono .refl s3, w, w2⟩
theorem OpdOk.intV {F G h1 h2 : Hp} {σ : L2.St} {v : V} {i : Int} (q : OpdOk K F G h1 h2 σ (.own (.val (.int i))) v) : v = .int i := by
  unfold OpdOk own at q
  exact q.intV
theorem OpdOk.blV {F G h1 h2 : Hp} {σ : L2.St} {v : V} {i : Bool} (q : OpdOk K F G h1 h2 σ (.own (.val (.bool i))) v) : v = .bl i := by
  unfold OpdOk own at q
  exact q.blV

/-- what any operand looks like -/
inductive SeeO (Γ : List SD) : Opd → PyData → Prop
  | own {s : SD} {d : PyData} (h : See s d) : SeeO Γ (.own s) d
  | at {i : Nat} {s : SD} {d : PyData} (hi : Γ[i]? = some s) (h : See s d) : SeeO Γ (.at i) d
  | bor {d : PyData} : SeeO Γ (.bor d) d
  | fl {i : Nat} {f : Str} {s0 s : SD} {d : PyData} (hi : Γ[i]? = some s0) (hf : FldS s0 f s) (h : See s d) : SeeO Γ (.fl i f) d
theorem See.ne {s : SD} {d : PyData} (q : See s d) : s ≠ .hole := fun z => by subst z; cases q
theorem SeeO.ok {o : Opd} {d : PyData} (q : SeeO Γ o d) {F G h1 h2 ha g H : Hp} {σ : L2.St} {v : V} (ow : OpdOk K F G h1 h2 σ o v) (hs : Sub h1 ha) (he : EnvR K F G Γ h2 σ) (dd : Dis ha h2) (hf : Fits F (cup ha h2) g H) (hG : Sub G g) : Dt K H v d := by
  have sF : Sub F H := hf.fH
  have sG : Sub (cup F G) H := Sub.cup hf.fH (hG.trans hf.gH)
  cases q with
  | own q => exact q.ok sF sG (hs.trans (Sub.l.trans hf.hH)) ow
  | «at» hi q =>
    obtain ⟨o, k1, k2, eo, s1, s2, d12, w, _⟩ := he.at hi
    obtain ⟨u, eu, wu⟩ := w.val q.ne
    have ow' : σ[_]? = some (some v) := ow
    rw [eo, eu] at ow'
    cases ow'
    exact q.ok sF sG (s1.trans ((Sub.r dd).trans hf.hH)) wu
  | bor => exact Dt.mono (Sub.cup hf.fH (Sub.cup (hG.trans hf.gH) ((Sub.r dd).trans hf.hH))) ow
  | fl hi hfl q =>
    obtain ⟨h3, s3, w3⟩ := hfl.at hi he ow
    exact q.ok sF sG (s3.trans ((Sub.r dd).trans hf.hH)) w3
/-! may be locked: nothing is read of the frame -/
mutual
inductive Fz : SD → PyData → Prop
  | val {d : PyData} : Fz (.val d) d
  | lst {ss : List SD} {ds : List PyData} : FzL ss ds → Fz (.lst ss) (.list ds)
  | tup {ss : List SD} {ds : List PyData} : FzL ss ds → Fz (.tup ss) (.tuple ds)
  | dct {α : Type} {m : List α} {kk : α → Key} {f : α → SD} {g : α → PyData} : (∀ x, Fz (f x) (g x)) → Fz (.dct (m.map fun x => (kk x, f x))) (.dict (m.map fun x => (kD (kk x), g x)))
inductive FzL : List SD → List PyData → Prop
  | nil : FzL [] []
  | cons {s : SD} {d : PyData} {ss : List SD} {ds : List PyData} : Fz s d → FzL ss ds → FzL (s :: ss) (d :: ds)
  | vals {ds : List PyData} : FzL (ds.map .val) ds
  | map {α : Type} {xs : List α} {f : α → SD} {g : α → PyData} : (∀ x, Fz (f x) (g x)) → FzL (xs.map f) (xs.map g)
  | app {a b : List SD} {c d : List PyData} : FzL a c → FzL b d → FzL (a ++ b) (c ++ d)
end
mutual
theorem Fz.ok {F G : Hp} : ∀ {s : SD} {d : PyData}, Fz s d → ∀ {h S : Hp} {v : V}, Sub F S → Sub h S → own K F G s h v → Dt K S v d
  | _, _, .val, h, S, v, hF, hh, ow => by unfold own at ow; exact ow.mono hF
  | _, _, .lst q, h, S, v, hF, hh, ow => by
    unfold own at ow
    obtain ⟨p, vs, h', e, q1, q2, q3, q4⟩ := ow
    subst e
    exact .lst (.of (hh _ _ q1)) (FzL.ok q hF (q2.trans hh) q4)
  | _, _, .tup q, h, S, v, hF, hh, ow => by
    unfold own at ow
    obtain ⟨p, vs, h', e, q1, q2, q3, q4⟩ := ow
    subst e
    exact .tup (.of (hh _ _ q1)) (FzL.ok q hF (q2.trans hh) q4)
  | _, _, .dct q, h, S, v, hF, hh, ow => by
    unfold own at ow
    obtain ⟨p, vs, h', e, q1, q2, q3, q4⟩ := ow
    subst e
    obtain ⟨e1, e2⟩ := see_mapK (fun x h v hs w => Fz.ok (q x) hF hs w) (q2.trans hh) q4
    exact dt_dct (.inl (hh _ _ q1)) e1 e2
theorem FzL.ok {F G : Hp} : ∀ {s : List SD} {d : List PyData}, FzL s d → ∀ {h S : Hp} {v : List V}, Sub F S → Sub h S → ownL K F G s h v → DtL K S v d
  | _, _, .nil, h, S, v, hF, hh, ow => by unfold ownL at ow; subst ow; exact .nil
  | _, _, .cons q1 q2, h, S, v, hF, hh, ow => by
    unfold ownL at ow
    obtain ⟨v0, vr, k1, k2, e2, s1, s2, d, w, q4⟩ := ow
    subst e2
    exact .cons (Fz.ok q1 hF (s1.trans hh) w) (FzL.ok q2 hF (s2.trans hh) q4)
  | _, _, .vals, h, S, v, hF, hh, ow => (ownL_vals ow).mono hF
  | _, _, .map q, h, S, v, hF, hh, ow => see_map (fun x h v hs w => Fz.ok (q x) hF hs w) hh ow
  | _, _, .app q1 q2, h, S, v, hF, hh, ow => by
    obtain ⟨v1, v2, k1, k2, e, s1, s2, d, w1, w2⟩ := ownL_split ow
    subst e
    exact (FzL.ok q1 hF (s1.trans hh) w1).app (FzL.ok q2 hF (s2.trans hh) w2)
end
/-- what is owned is locked -/
theorem JT.frz {t : TE} (h : JT K C pu Γ t M fun o Γ1 M1 => ∃ s d, o = .own s ∧ Fz s d ∧ k (.own (.val d)) Γ1 M1) : JT K C pu Γ t M k :=
  fun F h0 g H σ Q he hf hG hu hx hq => h F h0 g H σ Q he hf hG hu hx fun o Γ1 M1 ⟨s, d, e, fz, hk⟩ hm v F' h1 h2 H' x ow he' dd hf' hp => by
    subst e
    have hf2 := hf'.freeze dd
    refine hq _ Γ1 M1 hk hm v (cup F' h1) emp h2 H' (x.trans .l) ?_ (he'.mono .l (hf2.G hG) .refl) .emp hf2.emp hp
    unfold OpdOk own
    exact fz.ok .l (.r (hf'.fh.mono .refl .l)) ow
/-- (a, b, ..) -/
theorem JE.tupD {x1} (h : JA X C pu Γ es M fun os Γ1 M1 => ∃ ss, os = ss.map .own ∧ ss.length ≤ 1000 ∧ k (.own (.tup ss)) Γ1 M1) : JE X C pu Γ (.Tuple es x1 pos) M k :=
  JE.of (pe_tup pa_sem) fun F h0 g H σ Q he hf hG hu hx hq => h F h0 g H σ _ he hf hG hu hx fun os Γ1 M1 ⟨ss, e, hz, hk⟩ hm vs F' h1 h2 H' x ow he' d hf' hp => by
    subst e
    subst hm
    refine ⟨by rw [ownL_len ow.owns]; exact Nat.le_trans hz (by decide), fun q hn => ?_⟩
    have n := hf'.no hn
    have n1 : h1 q = none := Sub.l.no n.2.1
    refine Kt.new (Γ := Γ1) (F := F') (fun o Γ' M' hk hm v F2 k1 k2 H2 x2 a2 a3 a4 a5 a6 => hq o Γ' M' hk hm v F2 k1 k2 H2 (x.trans x2) a2 a3 a4 a5 fun z => ⟨(hp z).1.trans (a6 z).1, (a6 z).2.trans (hp z).2⟩) hk he' d hf' hn ?_
    unfold own
    exact ⟨q, vs, h1, rfl, cup_some one_same, .r (Dis.one n1), n1, ow.owns⟩
/-- [a, b, ..] -/
theorem JE.lstD (h : JA X C pu Γ es M fun os Γ1 M1 => ∃ ss, os = ss.map .own ∧ ss.length ≤ 1000 ∧ k (.own (.lst ss)) Γ1 M1) : JE X C pu Γ (.List es pos) M k :=
  JE.of (pe_lst pa_sem) fun F h0 g H σ Q he hf hG hu hx hq => h F h0 g H σ _ he hf hG hu hx fun os Γ1 M1 ⟨ss, e, hz, hk⟩ hm vs F' h1 h2 H' x ow he' d hf' hp => by
    subst e
    subst hm
    refine ⟨by rw [ownL_len ow.owns]; exact Nat.le_trans hz (by decide), fun q hn => ?_⟩
    have n := hf'.no hn
    have n1 : h1 q = none := Sub.l.no n.2.1
    refine Kt.new (Γ := Γ1) (F := F') (fun o Γ' M' hk hm v F2 k1 k2 H2 x2 a2 a3 a4 a5 a6 => hq o Γ' M' hk hm v F2 k1 k2 H2 (x.trans x2) a2 a3 a4 a5 fun z => ⟨(hp z).1.trans (a6 z).1, (a6 z).2.trans (hp z).2⟩) hk he' d hf' hn ?_
    unfold own
    exact ⟨q, vs, h1, rfl, cup_some one_same, .r (Dis.one n1), n1, ow.owns⟩
end
end Tsa

/-! M12: built-ins, likeness, shown text. -/
namespace Tsa
open PySem PySem.Spec PyProof.Rows L2
section
variable {K : PySem.W.Frag} {X : Cx} {C : XC} {pu pt : Bool} {ω : Type} {Γ : List SD} {e a b tg : Expr} {es : List Expr} {M : Res ω} {pos p pn : Pos} {ta tb : TE} {k : Opd → List SD → Res ω → Prop} {ka : List Opd → List SD → Res ω → Prop}
theorem JA.one (h : JE X C pu Γ e M fun o Γ1 M1 => ka [o] Γ1 M1) (hs : starEach (e :: []) X.env = (false, eval e X.env) :: starEach [] X.env := by rfl) : JA X C pu Γ [e] M ka :=
  JA.cons (pt := true) (h.mono fun o Γ1 M1 hk => ⟨.inr (.inr rfl), fun _ => rfl, JA.nil hk⟩) hs
/-- two numbers -/
theorem JA.ints (h : JI X C pu Γ a M fun i Γ1 M1 => JI X C pu Γ1 b M1 fun j Γ2 M2 => ka [.own (.val (.int i)), .own (.val (.int j))] Γ2 M2) (hs : starEach (a :: [b]) X.env = (false, eval a X.env) :: starEach [b] X.env := by rfl) (hs2 : starEach (b :: []) X.env = (false, eval b X.env) :: starEach [] X.env := by rfl) : JA X C pu Γ [a, b] M ka :=
  JA.cons (pt := pu) (h.mono fun o Γ1 M1 ⟨i, e, h2⟩ => ⟨.inl ⟨_, e⟩, fun z => z, JA.one (h2.mono fun o' Γ2 M2 ⟨j, e2, hk⟩ => by rw [e, e2]; exact hk) hs2⟩) hs
theorem Kt.scal {F h1 h2 g H : Hp} {σ : L2.St} {Q : VK} {d : PyData} {v : V} (hq : Kt K C pu Γ M k F h2 g σ Q) (hk : k (.own (.val d)) Γ M) (he : EnvR K F C.G Γ h2 σ) (d12 : Dis h1 h2) (hf : Fits F (cup h1 h2) g H) (hd : Dt K F v d) : Q v H :=
  hq.val .refl hk hd he (hf.un d12) fun _ => ⟨.refl, rfl⟩
theorem JE.len (hm : X.mg "len" = none) (h : JE X C pu Γ e M fun o Γ1 M1 => ∃ n : Nat, LenV Γ1 o n ∧ k (.own (.val (.int n))) Γ1 M1) (hg : Gl X "len" := by rfl) (hs : starEach [e] X.env = (false, eval e X.env) :: starEach [] X.env := by rfl) : JE X C pu Γ (.Call (.Name "len" pn) [e] [] pos) M k :=
  JE.bi call_len_seq hm (JA.one (h.mono fun o Γ1 M1 ⟨n, lv, hk⟩ vs F h1 h2 g H σ Q ow he d hf hG sz hu hq => by
    obtain ⟨v, ha, e1, s1, w⟩ := ow.one
    obtain ⟨q, ws, e2, l, z⟩ := lv.ok w he (d.mono s1 .refl) (hf.sub (Sub.cup2 s1 .refl d)) hG
    subst e1 e2 l
    exact ⟨q, ws, rfl, z, hq.scal hk he d hf (.int _)⟩) hs) rfl hg (hs := hs)
theorem JE.max2 (hc : X.calm = true) (hm : X.mg "max" = none) (h : JI X C pu Γ a M fun i Γ1 M1 => JI X C pu Γ1 b M1 fun j Γ2 M2 => k (.own (.val (.int (max i j)))) Γ2 M2) (hg : Gl X "max" := by rfl) (hs : starEach (a :: [b]) X.env = (false, eval a X.env) :: starEach [b] X.env := by rfl)
    (hs2 : starEach (b :: []) X.env = (false, eval b X.env) :: starEach [] X.env := by rfl) (hpl : (backTo pos (starEach [b] X.env)).any (·.1) = false := by rfl) : JE X C pu Γ (.Call (.Name "max" pn) [a, b] [] pos) M k :=
  JE.bi (call_max2 hc) hm (JA.ints (h.mono fun o Γ1 M1 ⟨i, e, h2⟩ => ⟨i, e, h2.mono fun o' Γ2 M2 ⟨j, e2, hk⟩ => ⟨j, e2, fun vs F h1 h2 g H σ Q ow he d hf hG sz hu hq => by
    obtain ⟨v, v', ha, hb, ev, s1, s2, dd, w1, w2⟩ := ow.two
    obtain rfl := w1.intV
    obtain rfl := w2.intV
    refine ⟨i, j, ev, ?_⟩
    have em : (if j > i then j else i) = max i j := by split <;> omega
    rw [em]
    exact hq.scal hk he d hf (.int _)⟩⟩) hs hs2) rfl hg (hs := hs) (hpl := hpl)
theorem JE.abs (hm : X.mg "abs" = none) (h : JI X C pu Γ e M fun i Γ1 M1 => k (.own (.val (.int (if i < 0 then -i else i)))) Γ1 M1) (hg : Gl X "abs" := by rfl) (hs : starEach [e] X.env = (false, eval e X.env) :: starEach [] X.env := by rfl) : JE X C pu Γ (.Call (.Name "abs" pn) [e] [] pos) M k :=
  JE.bi call_abs hm (JA.one (h.mono fun o Γ1 M1 ⟨i, e, hk⟩ vs F h1 h2 g H σ Q ow he d hf hG sz hu hq => by
    subst e
    obtain ⟨v, ha, e1, s1, w⟩ := ow.one
    obtain rfl := w.intV
    exact ⟨i, e1, hq.scal hk he d hf (.int _)⟩) hs) rfl hg (hs := hs)
def ofB (b : Bool) : Int := if b then 1 else 0
theorem JE.intB (hm : X.mg "int" = none) (h : JBo X C pu Γ e M fun i Γ1 M1 => k (.own (.val (.int (ofB i)))) Γ1 M1) (hg : Gl X "int" := by rfl) (hs : starEach [e] X.env = (false, eval e X.env) :: starEach [] X.env := by rfl) : JE X C pu Γ (.Call (.Name "int" pn) [e] [] pos) M k :=
  JE.ty call_int1 hm (JA.one (h.mono fun o Γ1 M1 ⟨i, e, hk⟩ vs F h1 h2 g H σ Q ow he d hf hG sz hu hq => by
    subst e
    obtain ⟨v, ha, e1, s1, w⟩ := ow.one
    obtain rfl := w.blV
    exact .inr ⟨i, e1, hq.scal hk he d hf (.int _)⟩) hs) rfl hg (hs := hs)
/-- divmod, wide -/
theorem JE.divmod (hm : X.mg "divmod" = none) (h : JI X C pu Γ a M fun i Γ1 M1 => JI X C pu Γ1 b M1 fun j Γ2 M2 => ∃ M3, (M2 ≠ .un → M2 = M3 ∧ CDivP i j) ∧ k (.own (.tup [.val (.int (i / j)), .val (.int (i % j))])) Γ2 M3) (hg : Gl X "divmod" := by rfl) (hs : starEach (a :: [b]) X.env = (false, eval a X.env) :: starEach [b] X.env := by rfl)
    (hs2 : starEach (b :: []) X.env = (false, eval b X.env) :: starEach [] X.env := by rfl) (hpl : (backTo pos (starEach [b] X.env)).any (·.1) = false := by rfl) : JE X C pu Γ (.Call (.Name "divmod" pn) [a, b] [] pos) M k :=
  JE.bi call_divmodW hm (JA.ints (h.mono fun o Γ1 M1 ⟨i, e, h2⟩ => ⟨i, e, h2.mono fun o' Γ2 M2 ⟨j, e2, M3, hM, hk⟩ => ⟨j, e2, fun vs F h1 h2 g H σ Q ow he d hf hG sz hu hq => by
    obtain ⟨eM, hd⟩ := hM hu
    subst eM
    obtain ⟨v, v', ha, hb, ev, s1, s2, dd, w1, w2⟩ := ow.two
    obtain rfl := w1.intV
    obtain rfl := w2.intV
    refine ⟨i, j, ev, hd, fun q hn => ?_⟩
    have n := hf.no hn
    have n1 : h1 q = none := Sub.l.no n.2.1
    refine hq.new hk he d hf hn ?_
    unfold own
    refine ⟨q, _, h1, rfl, cup_some one_same, .r (Dis.one n1), n1, ?_⟩
    unfold ownL ownL ownL
    exact ⟨_, _, emp, emp, rfl, .emp, .emp, .emp, by unfold own; exact .int _, _, _, emp, emp, rfl, .refl, .refl, .emp, by unfold own; exact .int _, rfl⟩⟩⟩) hs hs2) rfl hg (hs := hs) (hpl := hpl)
/-- items that lean on nothing of their own -/
theorem ownL_last {F G : Hp} : ∀ {ys : List SD} {vs : List V}, vs.length = ys.length → (∀ (i : Nat) (s : SD), ys[i]? = some s → ∃ x, vs[i]? = some x ∧ own K F G s emp x) → ∀ {h : Hp}, ownL K F G ys h vs
  | [], vs, l, _, h => by
    unfold ownL
    exact List.length_eq_zero_iff.mp l
  | s :: ys, [], l, _, h => by cases l
  | s :: ys, v :: vs, l, it, h => by
    unfold ownL
    obtain ⟨x, e, w⟩ := it 0 s rfl
    cases e
    exact ⟨v, vs, emp, h, rfl, .emp, .refl, .emp, w, ownL_last (by simpa using l) fun i s hs => it (i + 1) s hs⟩
/-- tuple(xs) of a list -/
theorem JE.tupleL (hm : X.mg "tuple" = none) (h : JE X C pu Γ e M fun o Γ1 M1 => ∃ ys, SeqV Γ1 o false ys ∧ k (.own (.tup ys)) Γ1 M1) (hg : Gl X "tuple" := by rfl) (hs : starEach [e] X.env = (false, eval e X.env) :: starEach [] X.env := by rfl) : JE X C pu Γ (.Call (.Name "tuple" pn) [e] [] pos) M k :=
  JE.ty call_tuple_of hm (JA.one (h.mono fun o Γ1 M1 ⟨ys, sv, hk⟩ vs F h1 h2 g H σ Q ow he d hf hG sz hu hq => by
    obtain ⟨v, ha, e1, s1, w⟩ := ow.one
    obtain ⟨q, ws, e2, l, z, it⟩ := sv.ok w he (d.mono s1 .refl) (hf.sub (Sub.cup2 s1 .refl d)) hG
    subst e1 e2
    refine ⟨q, ws, rfl, .inl ⟨z, fun r hn => ?_⟩⟩
    have n := hf.no hn
    have n1 : h1 r = none := Sub.l.no n.2.1
    refine hq.new hk he d hf hn ?_
    unfold own
    exact ⟨r, ws, h1, rfl, cup_some one_same, .r (Dis.one n1), n1, ownL_last l it⟩) hs) rfl hg (hs := hs)
/-! ### data as the kit sees it -/
def PlainD : PyData → Bool
  | .dict _ => false
  | _ => true
mutual
theorem Dt.dp {S : Hp} : ∀ {d : PyData} {v : V}, SeqAt.shaped d = true ∨ d.canLay0 = true → Dt K S v d → Dp K S v d
  | _, _, _, .non => .non
  | _, _, _, .bl b => .bl b
  | _, _, _, .int i => .int i
  | _, _, _, .str x => .str x
  | _, _, hc, .lst q l => .lst q (DtL.dp (by
      have z : (PyData.list _).canLay0 = true := hc.elim SeqAt.canLay_of_shaped id
      exact z) l)
  | _, _, hc, .tup q l => .tup q (DtL.dp (by
      have z : (PyData.tuple _).canLay0 = true := hc.elim SeqAt.canLay_of_shaped id
      exact z) l)
  | _, _, hc, .dct .. => by
    have z : (PyData.dict _).canLay0 = true := hc.elim SeqAt.canLay_of_shaped id
    cases z
theorem DtL.dp {S : Hp} : ∀ {ds : List PyData} {vs : List V}, PyData.canLayAll0 ds = true → DtL K S vs ds → DpAll K S vs ds
  | _, _, _, .nil => .nil
  | _, _, hc, .cons q l => .cons (Dt.dp (.inr (by
      have z := Bool.and_eq_true_iff.mp hc
      exact z.1)) q) (DtL.dp (by
      have z := Bool.and_eq_true_iff.mp hc
      exact z.2) l)
end

section
variable {K : PySem.W.Frag} {X : Cx} {C : XC} {pu pt : Bool} {ω : Type} {Γ : List SD} {e a b tg : Expr} {es : List Expr} {M : Res ω} {pos p pn : Pos} {ta tb : TE} {k : Opd → List SD → Res ω → Prop} {ka : List Opd → List SD → Res ω → Prop} {kS : List SD → List SD → Res ω → Prop}
theorem see_two {oa ob : Opd} {d e : PyData} {F G h1 h2 g H : Hp} {σ : L2.St} {va vb : V} (sa : SeeO Γ oa d) (sb : SeeO Γ ob e) (ow : OpdsOk K F G [oa, ob] h1 h2 σ [va, vb]) (he : EnvR K F G Γ h2 σ) (dd : Dis h1 h2) (hf : Fits F (cup h1 h2) g H) (hG : Sub G g) : Dt K H va d ∧ Dt K H vb e := by
  obtain ⟨v, v', ha, hb, ev, s1, s2, d12, w1, w2⟩ := ow.two
  cases ev
  exact ⟨sa.ok w1 s1 he dd hf hG, sb.ok w2 s2 he dd hf hG⟩
/-- ==, != of data -/
def EqIn (X : Cx) (C : XC) (pu : Bool) {ω : Type} (Γ : List SD) (a b : Expr) (M : Res ω) (k : PyData → PyData → List SD → Res ω → Prop) : Prop :=
  JE X C pu Γ a M fun oa Γ1 M1 => ((∃ s, oa = .own s) ∨ (∃ i, oa = .at i)) ∧ JE X C pu Γ1 b M1 fun ob Γ2 M2 => ∃ d e M3, SeeO Γ2 oa d ∧ SeeO Γ2 ob e ∧ (M2 ≠ .un → M2 = M3 ∧ (SeqAt.shaped d = true ∧ SeqAt.shaped e = true)) ∧ k d e Γ2 M3
theorem EqIn.core {r : R2} {f : PyData → PyData → Bool} (hr : ∀ (x y : V) (H : Hp) (Q : VK) (d e : PyData), Dp X.K H x d → Dp X.K H y e → SeqAt.shaped d = true → SeqAt.shaped e = true → Q (.bl (f d e)) H → r x y H Q)
    (h : EqIn X C pu Γ a b M fun d e Γ2 M3 => k (.own (.val (.bool (f d e)))) Γ2 M3) : JT X.K C pu Γ (tOp r (semE X a) (semE X b)) M k := by
  refine JT.two2 (pt := pu) (Z := fun oa ob Γ2 M2 => ∃ d e M3, SeeO Γ2 oa d ∧ SeeO Γ2 ob e ∧ (M2 ≠ .un → M2 = M3 ∧ (SeqAt.shaped d = true ∧ SeqAt.shaped e = true)) ∧ k (.own (.val (.bool (f d e)))) Γ2 M3) (JT.mono h fun oa Γ1 M1 ⟨h1, h2⟩ => ⟨by
    rcases h1 with h1 | h1
    · exact .inl h1
    · exact .inr (.inl h1), fun z => z, h2⟩) ?_
  intro oa ob Γ2 ⟨d, e, M3, sa, sb, hM, hk⟩ F h1 h0 h2 g H σ va vb Q ow he dd hf hG hp hu hx hq
  obtain ⟨eM, c1, c2⟩ := hM hu
  subst eM
  obtain ⟨w1, w2⟩ := see_two sa sb ow he dd hf hG
  exact hr va vb H Q d e (w1.dp (.inl c1)) (w2.dp (.inl c2)) c1 c2 (hq.val .refl hk (.bl _) he (hf.un dd) hp)
theorem Cmp.eq (hu : X.A.units + 64 < cLine) (h : EqIn X C pu Γ a b M fun d e Γ2 M3 => k (.own (.val (.bool (PyData.eqv d e)))) Γ2 M3) : Cmp X C pu Γ .Eq a b M k :=
  ⟨nomark _, _, op_eqD hu, EqIn.core (f := fun d e => PyData.eqv d e) (fun x y H Q d e p1 p2 c1 c2 q => ⟨d, e, p1, p2, c1, c2, q⟩) h⟩
theorem Cmp.ne (hu : X.A.units + 64 < cLine) (h : EqIn X C pu Γ a b M fun d e Γ2 M3 => k (.own (.val (.bool (!PyData.eqv d e)))) Γ2 M3) : Cmp X C pu Γ .NotEq a b M k :=
  ⟨nomark _, _, op_neD hu, EqIn.core (f := fun d e => !PyData.eqv d e) (fun x y H Q d e p1 p2 c1 c2 q => ⟨d, e, p1, p2, c1, c2, q⟩) h⟩
/-- what may be shown -/
def showOk (d : PyData) : Bool := SeqAt.shaped d && d.showable && decide (d.shown.length ≤ sizeLine) && !d.hasDict
theorem call_reprD (hg : X.A.guards = some []) (hu : X.A.units + 100 < cLine) : CallR X (.builtin "repr") (fun xs H Q => ∃ x d, xs = [x] ∧ Dp X.K H x d ∧ (∃ q, x = .ref q) ∧ showOk d = true ∧ Q (.str d.shown) H) := by
  intro pins s σ H xs us Q I r h
  obtain ⟨x, d, rfl, hd, ⟨q, rfl⟩, hs, hq⟩ := h
  obtain ⟨u, rfl, ru⟩ := r.one
  obtain ⟨as, rd⟩ := Dp.reads I d (.ref q) u hd ru
  cases ru
  simp only [showOk, Bool.and_eq_true, decide_eq_true_eq, Bool.not_eq_true'] at hs
  obtain ⟨⟨⟨s1, s2⟩, s3⟩, s4⟩ := hs
  have dep := SeqAt.depth_of_shaped s1
  exact repr_of_reads' rd s2 (fun z => by rw [s4] at z; cases z) hg (by omega) (fun _ _ z => z) (fun h' u tk hk => ⟨.str d.shown, H, I.kept hk, ⟨u, rfl⟩, hq⟩) s3
theorem RoomG.lines {j : Nat} (r : RoomG j X.A) : X.A.units + 100 < cLine := by have := r.room.un; omega
theorem RoomG.lines64 {j : Nat} (r : RoomG j X.A) : X.A.units + 64 < cLine := by have := r.room.un; omega
def isSeq : PyData → Bool
  | .list _ => true
  | .tuple _ => true
  | _ => false
theorem Dt.isRef {S : Hp} {v : V} {d : PyData} (h : Dt K S v d) (c : isSeq d = true) : ∃ q, v = .ref q := by
  cases h with
  | lst _ _ => exact ⟨_, rfl⟩
  | tup _ _ => exact ⟨_, rfl⟩
  | dct _ _ => exact ⟨_, rfl⟩
  | _ => cases c
theorem JE.repr {j : Nat} (hr : RoomG j X.A) (hm : X.mg "repr" = none) (h : JE X C pu Γ e M fun o Γ1 M1 => ∃ d M2, SeeO Γ1 o d ∧ isSeq d = true ∧ (M1 ≠ .un → M1 = M2 ∧ showOk d = true) ∧ k (.own (.val (.str d.shown))) Γ1 M2) (hg : Gl X "repr" := by rfl) (hs : starEach [e] X.env = (false, eval e X.env) :: starEach [] X.env := by rfl) : JE X C pu Γ (.Call (.Name "repr" pn) [e] [] pos) M k :=
  JE.bi (call_reprD hr.gd hr.lines) hm (JA.one (h.mono fun o Γ1 M1 ⟨d, M2, se, sq, hM, hk⟩ vs F h1 h2 g H σ Q ow he dd hf hG sz hu hq => by
    obtain ⟨eM, c⟩ := hM hu
    subst eM
    obtain ⟨v, ha, e1, s1, w⟩ := ow.one
    have w2 := se.ok w s1 he dd hf hG
    have c1 : SeqAt.shaped d = true := by
      simp only [showOk, Bool.and_eq_true] at c
      exact c.1.1.1
    exact ⟨v, d, e1, w2.dp (.inl c1), w2.isRef sq, c, hq.scal hk he dd hf (.str _)⟩) hs) rfl hg (hs := hs)
/-! ### isinstance -/
def tyD : PyData → String
  | .none => "NoneType"
  | .bool _ => "bool"
  | .int _ => "int"
  | .str _ => "str"
  | .list _ => "list"
  | .tuple _ => "tuple"
  | .dict _ => "dict"
theorem Dt.tyX {S : Hp} {v : V} {d : PyData} (h : Dt K S v d) : TyX K S v (.type (tyD d)) := by
  cases h with
  | non => exact .base .non
  | bl b => exact .base (.bl b)
  | int i => exact .base (.int i)
  | str x => exact .base (.str x)
  | lst q _ =>
    rcases q with q | ⟨o, its, n, hk, hc, _⟩
    · rcases q with q | ⟨ob, q⟩
      · exact .base (.lst q)
      · exact .base (.frz q)
    · exact .kList hk hc
  | tup q _ =>
    rcases q with q | ⟨o, its, n, hk, hc, _⟩
    · rcases q with q | ⟨ob, q⟩
      · exact .base (.tup q)
      · exact .fTuple q
    · exact .kTuple hk hc
  | dct q _ =>
    rcases q with q | ⟨ob, q⟩
    · exact .base (.dK q)
    · exact .fDict q
/-- a built-in type's name -/
theorem JE.tyN {T : String} {x : Str} (hm : X.mg x = none) (hk : k (.own (.pin (.ty T) .hole)) Γ M) (hv : bootBuiltins x = some (.type T) := by rfl) (hg : Gl X x := by rfl) (hn : x ≠ "__name__" := by decide) (hd : (x == ("__debug__" : Str)) = false := by decide) : JE X C pu Γ (.Name x pos) M k :=
  JE.of (pe_bltn (v := .ty T) hg hm hv rfl hn hd) (JT.pure (fun _ _ _ q => q) (fun _ _ _ _ => by unfold OpdOk own own; exact ⟨rfl, trivial⟩) hk)
/-- isinstance(x, T), T a built-in type -/
theorem JE.isi {x : Str} {T : String} (hm : X.mg "isinstance" = none) (hmT : X.mg x = none) (h : JE X C pu Γ e M fun o Γ1 M1 => ((∃ s, o = .own s) ∨ (∃ i, o = .at i) ∨ pu = true) ∧ ∃ d r, SeeO Γ1 o d ∧ PySem.W.kitOne X.K (.type (tyD d)) (.type T) = some r ∧ k (.own (.val (.bool r))) Γ1 M1) (hv : bootBuiltins x = some (.type T) := by rfl) (hgT : Gl X x := by rfl) (hn : x ≠ "__name__" := by decide) (hd : (x == ("__debug__" : Str)) = false := by decide)
    (hg : Gl X "isinstance" := by rfl) (hs : starEach (e :: [.Name x p]) X.env = (false, eval e X.env) :: starEach [.Name x p] X.env := by rfl)
    (hs2 : starEach (.Name x p :: []) X.env = (false, eval (.Name x p) X.env) :: starEach [] X.env := by rfl) (hpl : (backTo pos (starEach [.Name x p] X.env)).any (·.1) = false := by rfl) : JE X C pu Γ (.Call (.Name "isinstance" pn) [e, .Name x p] [] pos) M k :=
  JE.bi call_isi hm (JA.cons (pt := pu) (h.mono fun o Γ1 M1 ⟨ho, d, r, se, hr, hk⟩ => ⟨ho, fun z => z, JA.one (JE.tyN (T := T) hmT (fun vs F h1 h2 g H σ Q ow he dd hf hG sz hu hq => by
    obtain ⟨v, v', ha, hb, ev, s1, s2, d12, w1, w2⟩ := ow.two
    have w := se.ok w1 s1 he dd hf hG
    unfold OpdOk own at w2
    exact ⟨v, .ty T, _, _, r, by rw [ev, w2.1], .ty T, w.tyX, hr, hq.scal hk he dd hf (.bl _)⟩) hv hgT hn hd) hs2⟩) hs) rfl hg (hs := hs) (hpl := hpl)
/-! ### for .. in enumerate(xs) -/
def pairS (l : List SD) : List SD := l.zipIdx.map fun q => .tup [.val (.int (q.2 : Nat)), q.1]
def enumS (ds : List PyData) : List PyData := ds.zipIdx.map fun q => .tuple [.int (q.2 : Nat), q.1]
theorem JSrc.enum {elts : List Expr} {kk : Nat} {tpos : Pos} (hm : X.mg "enumerate" = none) (h : JE X C pu Γ e M fun o Γ' M' => ∃ s ds, o = .own s ∧ SeqOf s false (ds.map .val) ∧ kS ((enumS ds).map .val) Γ' M') (hg : Gl X "enumerate" := by rfl) (hs : starEach [e] X.env = [(false, eval e X.env)] := by rfl) :
    JSrc X C pu Γ (.Tuple elts kk tpos) (.Call (.Name "enumerate" pn) [e] [] pos) M kS :=
  JSrc.of (pi_enum hg hm (pa_cons pe_sem pa_nil (by rw [hs]; rfl)) hs) fun F h0 g H σ R he hf hG hu hx q => semE_sz (h F h0 g H σ _ he hf hG hu hx fun o Γ' M' ⟨s, ds, e1, sq, hk⟩ hm v F' h1 h2 H' x ow he' d hf' hp sz => by
    subst e1
    obtain ⟨f2, dg⟩ := hf'.lent d
    obtain ⟨p, vs, e2, hl, hs, hi⟩ := sq.at ow (hf'.sub .l) hG
    subst e2
    have now : SqL X.K H' p vs := hs H' h2 F' .refl f2
    have len : ((enumS ds).map SD.val).length = vs.length := by rw [hl]; unfold enumS; simp
    refine ⟨p, vs, rfl, now, q _ Γ' M' hk hm F' h1 h2 H' _ x he' f2 dg ⟨?_, ?_, ?_⟩ hp⟩
    · rw [len]; exact sz.1 _ _ now
    · exact fun i F2 h3 H3 x2 f3 hle => ⟨vs, hs H3 h3 F2 x2 f3, by rw [← len]; exact hle⟩
    · intro i s' F2 h3 H3 x2 f3 hs3
      have hd : ∃ d, ds[i]? = some d ∧ s' = .val (.tuple [.int (i : Nat), d]) := by
        unfold enumS at hs3
        rw [List.map_map, List.getElem?_map, List.getElem?_zipIdx] at hs3
        cases q : ds[i]? with
        | none => rw [q] at hs3; cases hs3
        | some d => rw [q] at hs3; cases hs3; exact ⟨d, rfl, by simp⟩
      obtain ⟨dd, ed, es'⟩ := hd
      obtain ⟨y, e3, ow3⟩ := hi i (.val dd) (by rw [List.getElem?_map, ed]; rfl)
      have sq3 : SqL X.K H3 p vs := hs H3 h3 F2 x2 f3
      refine ⟨⟨vs, y, sq3, e3⟩, fun z H4 ⟨T, y', e4, hT, eH, hz⟩ => ?_⟩
      have e5 := hz vs sq3
      rw [e3] at e5
      cases e5
      subst e4 eH es'
      unfold own at ow3
      have f4 : Fits F2 (cup (sgl T (.tup [.int (i : Nat), y])) h3) (cup h1 g) _ := f3.new hT
      have dT : Dis (sgl T (.tup [V.int (i : Nat), y])) h3 := Dis.one (f3.no hT).2.1
      refine ⟨cup F2 (sgl T (.tup [.int (i : Nat), y])), .l, ?_, f4.freeze dT⟩
      unfold own
      have dF : Dis F2 (sgl T (.tup [V.int (i : Nat), y])) := f4.fh.mono .refl .l
      exact .tup (.of (Sub.r dF _ _ one_same)) (.cons (.int _) (.cons (ow3.mono (x2.trans .l)) .nil)))
end
end
end Tsa

/-! M13: enumerate over a tuple; a tuple turned round. -/
namespace Tsa
open PySem PySem.Spec PyProof.Rows L2
abbrev enObj (n : Addr) : Obj := { cls := .type "enumerate", data := .fields #[.none, .bool false, .ref n, rawInt 0, .none, .none] }
theorem meets_en {v : Value} {o : Obj} {Z : Heap → Prop} (B : Begins v o Z) :
    Meets (Builtin.«enumerate.__new__» ⟨[.type "enumerate", v], []⟩) (fun _ R s => Z s.heap ∧ R (.ok (.ret (.ref (s.heap.push o).objs.size))) { s with heap := (s.heap.push o).push (enObj s.heap.objs.size) }) :=
  .of_wp fun prog w A R s z => by
    obtain ⟨hp, gl, dd, tk, ou⟩ := s
    obtain ⟨z1, z2⟩ := z
    have hsub := sub_enumerate
    have walk : ∀ {A' : Around} {E : Value → Shared → Prop} {Q : Value → Shared → Prop}, Q (.ref hp.objs.size) ⟨hp.push o, gl, dd, tk, ou⟩ → wpAny (model prog w) A' (pyIter v) Q E ⟨hp, gl, dd, tk, ou⟩ :=
      fun y => B.iter prog w _ _ ⟨hp, gl, dd, tk, ou⟩ _ z1 y
    wp_walk using walk
    refine wpAny_stack_any fun st => wpAny_pure ?_
    split
    · rename_i c _ _ _ _ _
      cases (c == Value.type "enumerate") <;> (wp_walk using walk; exact ⟨_, rfl, z2⟩)
    · wp_walk using walk
      exact ⟨_, rfl, z2⟩
theorem call_en {prog : Program} {w : World} {A : Around} {E : Value → Shared → Prop} {s : Shared} {v : Value} {o : Obj} {Z : Heap → Prop} {Q : Value → Shared → Prop} (B : Begins v o Z) (z : Z s.heap)
    (q : ∀ h', IsEnum h' (s.heap.objs.size + 1) s.heap.objs.size 0 .none → h'.get? s.heap.objs.size = some o → (∀ b u, s.heap.get? b = some u → h'.get? b = some u) → Q (.ref (s.heap.objs.size + 1)) { s with heap := h' }) :
    wpAny (model prog w) A (call (.type "enumerate") [v]) Q E s := by
  refine callType_new F.called_enumerate (by decide) (F.typeCall_enumerate_1 _) (F.newCall_enumerate_1 _) (fun ob => F.args_object_init_2 ob _) F.entry_enumerate_new (meets_en B) ⟨z, ?_⟩
  have sz : (s.heap.push o).objs.size = s.heap.objs.size + 1 := Heap.size_push ..
  show _ ∧ _
  rw [sz]
  have en : IsEnum ((s.heap.push o).push (enObj s.heap.objs.size)) (s.heap.objs.size + 1) s.heap.objs.size 0 .none := by
    have y := Heap.get?_push_size (s.heap.push o) (o := enObj s.heap.objs.size) rfl
    rw [sz] at y
    exact y
  exact ⟨⟨_, en, rfl⟩, q _ en (Heap.get?_push_of_some _ (Heap.get?_push_size _ B.free)) fun b u y => Heap.get?_push_of_some _ (Heap.get?_push_of_some _ y)⟩
/-- the tuple at a, each item in a new pair -/
def Itet (K : PySem.W.Frag) (a : Addr) : It where
  go i H := ∃ (xs : List V) (x : V), SqT K H a xs ∧ xs[i]? = some x
  yld i H v H' := ∃ T x, v = .ref T ∧ H T = none ∧ H' = upd H T (.tup [.int (i : Nat), x]) ∧ ∀ xs, SqT K H a xs → xs[i]? = some x
  stop i H := ∃ xs : List V, SqT K H a xs ∧ xs.length ≤ i
theorem turn_en {P : Program} {w : World} {K : PySem.W.Frag} {elts : List Expr} {kk : Nat} {tpos : Pos} (a e it : Addr) (nei : e ≠ it) (nea : e ≠ a) (nai : a ≠ it) :
    Turn P w K (.Tuple elts kk tpos) (Itet K a) [e, it] e (fun i h => (∃ old, IsEnum h e it ((i : Nat) : Int) old) ∧ h.IsTupleIter it a i) where
  mem := List.mem_cons_self ..
  obj := fun i h ⟨⟨old, he⟩, o, ho, _, hd⟩ b hb => by
    rcases List.mem_cons.mp hb with rfl | hb
    · exact ⟨_, he, fun v z => nomatch z⟩
    · obtain rfl := List.mem_singleton.mp hb
      exact ⟨o, ho, fun v z => by rw [hd] at z; cases z⟩
  keep := fun i h h' ⟨⟨old, he⟩, hi⟩ k => ⟨⟨old, k e (by simp) _ he⟩, hi.at fun o z => k it (by simp) o z⟩
  item := by
    intro X eP ew eK ca i pins s σ H E I hf ⟨⟨old, he⟩, hit⟩ ⟨xs, x, hq, hx⟩
    subst eP ew eK
    obtain ⟨its, rv, tu, hz⟩ := I.tuple hq
    obtain ⟨u, hu, ru⟩ := rv.get hx
    have le : e < s.heap.objs.size := Heap.lt_size he
    have li : it < s.heap.objs.size := by obtain ⟨_, z, _⟩ := hit; exact Heap.lt_size z
    have hlt : i < its.toArray.size := by
      rw [List.size_toArray]
      exact (List.getElem?_eq_some_iff.mp hu).1
    refine wpAny_pyNext_enum_itemD (Draws.tuple (A := X.A.in1) (show X.A.in1.handled = none from I.ok.hd ca) it a nai its.toArray) he ⟨hit, tu⟩ hlt nei (by simp [nei, nea]) fun y h' tk hy ho ⟨hit', tu'⟩ hT hsz hk => ?_
    obtain rfl : y = u := by
      rw [List.getElem?_toArray, hu] at hy
      exact (Option.some.inj hy).symm
    refine ⟨_, rfl, wpAny_letOwnedTupleGo_enum (s := { s with heap := h', toks := tk + 1 }) ho fun h2 he' sb => ?_⟩
    have hT2 : h2.get? s.heap.objs.size = some { cls := .type "tuple", data := .seq #[.int i tk, y] } := (sb.2 _ (Nat.ne_of_gt le)).trans hT
    have new : ObjOk X.prog X.w (upd H s.heap.objs.size (.tup [.int (i : Nat), x])) h2 s.heap.objs.size (.tup [.int (i : Nat), x]) := ⟨by show 2 ≤ sizeLine; decide, [.int i tk, y], .cons ⟨_, rfl⟩ (.cons ru .nil), ⟨_, hT2, rfl, _, rfl⟩⟩
    have I1 : Inv X pins σ (upd H s.heap.objs.size (.tup [.int (i : Nat), x])) { s with heap := h2, toks := tk + 1 } :=
      I.turnedNew (ch := [e, it]) (fun b ob hb z => (sb.2 b (fun c => hb (by simp [c]))).trans (hk b ob (fun c => hb (by simp [c])) (fun c => hb (by simp [c])) z)) hf (Nat.le_refl _) new
    refine ⟨.ref s.heap.objs.size, _, I1, rfl, ⟨_, x, rfl, I.hok.fresh (Nat.le_refl _), rfl, fun ys hy => ?_⟩, ⟨⟨y, ?_⟩, hit'.at fun o z => (sb.2 it (Ne.symm nei)).trans z⟩, fun b hb => ?_⟩
    · obtain ⟨its2, rv2, tu2, _⟩ := I.tuple hy
      obtain ⟨o1, g1, _, n1, d1⟩ := tu
      obtain ⟨o2, g2, _, n2, d2⟩ := tu2
      rw [g1] at g2
      cases g2
      rw [d1] at d2
      injection d2 with d3 _
      have d4 : its = its2 := by simpa using d3
      subst d4
      rw [rv2.inj rv]
      exact hx
    · have e1 : ((i + 1 : Nat) : Int) = (i : Int) + 1 := by omega
      rw [e1]
      exact he'
    · have lb : b < s.heap.objs.size := by
        rcases List.mem_cons.mp hb with rfl | hb
        · exact le
        · obtain rfl := List.mem_singleton.mp hb
          exact li
      rw [upd_ne (Nat.ne_of_lt lb)]
      exact (hf b hb).1
  done := by
    intro X eP ew eK ca i pins s σ H E I hf ⟨⟨old, he⟩, hit⟩ ⟨xs, hq, hx⟩
    subst eP ew eK
    obtain ⟨its, rv, tu, hz⟩ := I.tuple hq
    obtain ⟨f0, f1, f2, f3, f4, f5⟩ := hf it (by simp)
    have hn : its.toArray[i]? = none := by
      rw [List.getElem?_toArray]
      exact List.getElem?_eq_none (by rw [← rv.length]; exact hx)
    have hT : s.TypeIs (.ref e) "enumerate" := ⟨_, he, rfl⟩
    unfold pyNext
    refine wpAny_bind (wpAny_attempt (wpAny_callSpecial?_slot (name := Str.ofString "__next__") hT F.slot_enumerate_next (wpAny_call_entry F.slot_enumerate_next hT F.entry_enumerate_next ?_ (F.args_enumerate_next_1 _))))
    show wpAny _ _ (field (.ref e) 2 >>= _) _ _ _
    refine wpAny_bind (wpAny_field he rfl (x := .ref it) rfl ?_)
    refine wpAny_bind (wpAny_nextOf_tuple_end (I.ok.hd ca) hit tu hn fun h' y eb ⟨o, ho, hc⟩ => ?_)
    refine wpAny_bind (wpAny_isInstance (T := "StopIteration") (b := true) ⟨o, ho, hc⟩ isSubtype_stop ?_)
    exact wpAny_pure ⟨rfl, I.turned (t' := s.toks) (fun b o hb z => eb b o hb z) f0 f1 f3 f4 f5⟩
  self := fun A i s Q E ⟨⟨_, he⟩, _⟩ z => wpAny_pyIter_enum he z
def iEnt (K : PySem.W.Frag) (ta : TA) : TI := fun σ H R => ta σ H fun vs H1 => ∃ a xs, vs = [.ref a] ∧ SqT K H1 a xs ∧ R (Itet K a) H1
theorem pi_ent {X : Cx} {e : Expr} {ta : TA} {p pos tpos : Pos} {elts : List Expr} {kk : Nat} (hg : Gl X "enumerate") (hm : X.mg "enumerate" = none) (ha : PA X [e] ta) (hs : starEach [e] X.env = [(false, eval e X.env)]) :
    PI X (.Tuple elts kk tpos) (.Call (.Name "enumerate" p) [e] [] pos) (iEnt X.K ta) := by
  refine ⟨fun pins s σ H R I z => Call_ (ld_blt I hg hm boot_enumerate (PyProof.Rows.callWith_type1 (thn (ha.run pos pins s σ H _ I z) fun us s1 ⟨vs, H1, I1, r1, a, xs, ev, hq, q⟩ => ?_) hs rfl))⟩
  subst ev
  obtain ⟨u, rfl, ru⟩ := r1.one
  obtain rfl : u = Value.ref a := ru
  obtain ⟨its, rv, tu, hz⟩ := I1.tuple hq
  have la : a < s1.heap.objs.size := tu.lt
  refine call_en (begins_tuple a its.toArray) tu fun h' he hit hk => wpAny_pyIter_enum he ?_
  have I2 : Inv X pins σ H1 { s1 with heap := h' } := I1.kept (t' := s1.toks) hk
  refine ⟨s1.heap.objs.size + 1, [s1.heap.objs.size + 1, s1.heap.objs.size], _, _, H1, rfl, I2, turn_en a (s1.heap.objs.size + 1) s1.heap.objs.size (Nat.succ_ne_self _) (fun c => Nat.lt_irrefl _ (Nat.lt_trans (Nat.lt_succ_self _) (show s1.heap.objs.size + 1 < s1.heap.objs.size from c ▸ la))) (Nat.ne_of_lt la), ⟨⟨.none, he⟩, _, hit, rfl, rfl⟩, fun b hb => ?_, q⟩
  have lb : s1.heap.objs.size ≤ b := by
    rcases List.mem_cons.mp hb with rfl | hb
    · exact Nat.le_add_right _ _
    · obtain rfl := List.mem_singleton.mp hb
      exact Nat.le_refl _
  exact I1.fpOk lb (I1.hok.fresh lb)
section
variable {K : PySem.W.Frag} {X : Cx} {C : XC} {pu pt : Bool} {ω : Type} {Γ : List SD} {e a b tg : Expr} {es : List Expr} {M : Res ω} {pos p pn : Pos} {ta tb : TE} {k : Opd → List SD → Res ω → Prop} {kS : List SD → List SD → Res ω → Prop}
theorem JSrc.enumT {elts : List Expr} {kk : Nat} {tpos : Pos} (hm : X.mg "enumerate" = none) (h : JE X C pu Γ e M fun o Γ' M' => ∃ s ds, o = .own s ∧ SeqOf s true (ds.map .val) ∧ kS ((enumS ds).map .val) Γ' M') (hg : Gl X "enumerate" := by rfl) (hs : starEach [e] X.env = [(false, eval e X.env)] := by rfl) :
    JSrc X C pu Γ (.Tuple elts kk tpos) (.Call (.Name "enumerate" pn) [e] [] pos) M kS :=
  JSrc.of (pi_ent hg hm (pa_cons pe_sem pa_nil (by rw [hs]; rfl)) hs) fun F h0 g H σ R he hf hG hu hx q => semE_sz (h F h0 g H σ _ he hf hG hu hx fun o Γ' M' ⟨s, ds, e1, sq, hk⟩ hm v F' h1 h2 H' x ow he' d hf' hp sz => by
    subst e1
    obtain ⟨f2, dg⟩ := hf'.lent d
    obtain ⟨p, vs, e2, hl, hs, hi⟩ := sq.at ow (hf'.sub .l) hG
    subst e2
    have now : SqT X.K H' p vs := hs H' h2 F' .refl f2
    have len : ((enumS ds).map SD.val).length = vs.length := by rw [hl]; unfold enumS; simp
    refine ⟨p, vs, rfl, now, q _ Γ' M' hk hm F' h1 h2 H' _ x he' f2 dg ⟨?_, ?_, ?_⟩ hp⟩
    · rw [len]; exact sz.2 _ _ now
    · exact fun i F2 h3 H3 x2 f3 hle => ⟨vs, hs H3 h3 F2 x2 f3, by rw [← len]; exact hle⟩
    · intro i s' F2 h3 H3 x2 f3 hs3
      have hd : ∃ d, ds[i]? = some d ∧ s' = .val (.tuple [.int (i : Nat), d]) := by
        unfold enumS at hs3
        rw [List.map_map, List.getElem?_map, List.getElem?_zipIdx] at hs3
        cases q : ds[i]? with
        | none => rw [q] at hs3; cases hs3
        | some d => rw [q] at hs3; cases hs3; exact ⟨d, rfl, by simp⟩
      obtain ⟨dd, ed, es'⟩ := hd
      obtain ⟨y, e3, ow3⟩ := hi i (.val dd) (by rw [List.getElem?_map, ed]; rfl)
      have sq3 : SqT X.K H3 p vs := hs H3 h3 F2 x2 f3
      refine ⟨⟨vs, y, sq3, e3⟩, fun z H4 ⟨T, y', e4, hT, eH, hz⟩ => ?_⟩
      have e5 := hz vs sq3
      rw [e3] at e5
      cases e5
      subst e4 eH es'
      unfold own at ow3
      have f4 : Fits F2 (cup (sgl T (.tup [.int (i : Nat), y])) h3) (cup h1 g) _ := f3.new hT
      have dT : Dis (sgl T (.tup [V.int (i : Nat), y])) h3 := Dis.one (f3.no hT).2.1
      refine ⟨cup F2 (sgl T (.tup [.int (i : Nat), y])), .l, ?_, f4.freeze dT⟩
      unfold own
      have dF : Dis F2 (sgl T (.tup [V.int (i : Nat), y])) := f4.fh.mono .refl .l
      exact .tup (.of (Sub.r dF _ _ one_same)) (.cons (.int _) (.cons (ow3.mono (x2.trans .l)) .nil)))
end
end Tsa

namespace Tsa
open PySem PySem.Spec PyProof.Rows L2
theorem rev_pick (l : List Value) : (List.range l.length).filterMap (fun (m : Nat) => l.toArray[(((l.length : Int) - 1) + (m : Int) * -1).toNat]?) = l.reverse := by
  have z : (List.range l.length).map (fun (m : Nat) => l.reverse[m]?) = l.reverse.map some := by
    refine List.ext_getElem? fun i => ?_
    rw [List.getElem?_map, List.getElem?_map]
    by_cases h : i < l.length
    · rw [List.getElem?_range h]
      have h' : i < l.reverse.length := by simpa using h
      rw [List.getElem?_eq_getElem h']
      show some (l.reverse[i]?) = _
      rw [List.getElem?_eq_getElem h']
      rfl
    · rw [List.getElem?_eq_none (by simpa using h), List.getElem?_eq_none (by simpa using h)]
      rfl
  have f : ∀ m ∈ List.range l.length, l.toArray[(((l.length : Int) - 1) + (m : Int) * -1).toNat]? = l.reverse[m]? := fun m hm => by
    have hm := List.mem_range.mp hm
    rw [List.getElem?_toArray, List.getElem?_reverse hm]
    congr 1
    omega
  have g : (List.range l.length).map (fun (m : Nat) => l.toArray[(((l.length : Int) - 1) + (m : Int) * -1).toNat]?) = l.reverse.map some := (List.map_congr_left f).trans z
  have e := congrArg (List.filterMap id) g
  rw [List.filterMap_map, List.filterMap_map] at e
  refine Eq.trans ?_ (e.trans ?_)
  · rfl
  · show List.filterMap some l.reverse = _
    exact List.filterMap_some
section
variable {prog : Program} {w : World} {A : Around} {E : Value → Shared → Prop} {s : Shared}
theorem sliceApplied_back {sl : Addr} {vs : Value} {n : Nat} {Q : Int × Int × Nat → Shared → Prop} (hs : s.heap.IsSliceOf sl .none .none vs) (ps : IsPart vs (some (-1))) (z : Q ((n : Int) - 1, -1, n) s) :
    wpAny (model prog w) A (Builtin.Slice.sliceApplied (.ref sl) (pure (n : Int))) Q E s := by
  obtain ⟨os, h1, h2, h3⟩ := id hs
  unfold Builtin.Slice.sliceApplied Builtin.Slice.sliceFields
  refine wpAny_bind (wpAny_bind (wpAny_field h1 h3 (x := .none) rfl (wpAny_bind (wpAny_field h1 h3 (x := .none) rfl (wpAny_bind (wpAny_field h1 h3 (x := vs) rfl (wpAny_pure ?_)))))))
  refine wpAny_bind (HT.slicePart_ ps ?_)
  show wpAny _ _ (if ((-1 : Int) == 0) = true then _ else _) _ _ s
  rw [if_neg (by decide)]
  refine wpAny_bind (slicePart_none (wpAny_bind (slicePart_none (wpAny_bind (wpAny_pure ?_)))))
  have e : (match Builtin.Slice.sliceAdjust none none (-1) (n : Int) with | (lo, hi) => (lo, (-1 : Int), Builtin.Slice.slicePlaces lo hi (-1))) = ((n : Int) - 1, -1, n) := by
    show ((n : Int) - 1, (-1 : Int), Builtin.Slice.slicePlaces ((n : Int) - 1) (-1) (-1)) = _
    have e2 : Builtin.Slice.slicePlaces ((n : Int) - 1) (-1) (-1) = n := by
      unfold Builtin.Slice.slicePlaces
      have h : ¬ ((-1 : Int) > 0) := by omega
      simp only [h, if_false]
      rw [show (-(-1 : Int)) = 1 from rfl, Int.ediv_one]
      split <;> omega
    rw [e2]
  show wpAny _ _ (match Builtin.Slice.sliceAdjust none none (-1) (n : Int) with | (lo, hi) => pure (lo, (-1 : Int), Builtin.Slice.slicePlaces lo hi (-1))) _ _ s
  rw [← e] at z
  exact wpAny_pure z
theorem getItem_back {t sl : Addr} {its : List Value} {vs : Value} {Q : Value → Shared → Prop} (ht : IsTup s.heap t its.toArray) (hs : s.heap.IsSliceOf sl .none .none vs) (ps : IsPart vs (some (-1))) (hz : its.length ≤ sizeLine)
    (z : Q (.ref s.heap.objs.size) { s with heap := s.heap.push { cls := .type "tuple", data := .seq its.reverse.toArray } }) : wpAny (model prog w) A (getItem (.ref t) (.ref sl)) Q E s := by
  obtain ⟨ot, ho, hc, n0, hd⟩ := id ht
  obtain ⟨os, h1, h2, h3⟩ := id hs
  have hS : s.TypeIs (.ref sl) "slice" := ⟨os, h1, h2⟩
  have hsz : sizeOk (.seq its.reverse.toArray) := by
    show its.reverse.toArray.size ≤ sizeLine
    simpa using hz
  unfold getItem
  try with_reducible refine wpAny_holding ?_
  first | refine wpAny_bind (wpAny_pure ?_) | skip
  refine wpAny_bind (wpAny_sequenceKey ht.typeIs (by decide) ?_)
  refine wpAny_bind (wpAny_callSpecial?_slot (name := Str.ofString "__getitem__") ht.typeIs PyProof.Rows.slot_tuple_getitem (wpAny_call_entry PyProof.Rows.slot_tuple_getitem ht.typeIs entry_tuple_getitem ?_ (args_tuple_getitem _ _)))
  show wpAny _ _ (Builtin.Tuple.tupleItemsOf (.ref t) >>= _) _ _ s
  refine wpAny_bind (tupleItemsOf_ ht (wpAny_bind (wpAny_typeOf hS ?_)))
  rw [if_pos (by decide)]
  have hn : its.toArray.size = its.length := by simp
  rw [hn]
  refine wpAny_bind (sliceApplied_back hs ps ?_)
  show wpAny _ _ (if (((its.length : Int) - 1 == 0) && ((-1 : Int) == 1) && (its.length == its.toArray.size)) = true then _ else _) _ _ s
  rw [if_neg (by simp), rev_pick]
  first
    | exact wpAny_bind (m := Builtin.Tuple.tupleExact _) (wpAny_newObj_type (wpAny_pure ⟨_, rfl, wpAny_pure z⟩) hsz)
    | exact wpAny_bind (m := Builtin.Tuple.tupleExact _) (wpAny_newObj_type (wpAny_bind (wpAny_pure (wpAny_pure ⟨_, rfl, wpAny_pure z⟩))) hsz)
    | exact wpAny_bind (wpAny_bind (m := Builtin.Tuple.tupleExact _) (wpAny_newObj_type (wpAny_pure (wpAny_pure ⟨_, rfl, wpAny_pure z⟩)) hsz))
    | exact wpAny_bind (wpAny_bind (m := Builtin.Tuple.tupleExact _) (wpAny_newObj_type (wpAny_pure ⟨_, rfl, wpAny_pure z⟩) hsz))
end
def tRevT (K : PySem.W.Frag) (te : TE) : TE := fun σ H Q => te σ H fun x H1 => ∃ a xs, x = .ref a ∧ SqT K H1 a xs ∧ ∀ p, H1 p = none → Q (.ref p) (upd H1 p (.tup xs.reverse))
theorem pe_revT {X : Cx} {e : Expr} {te : TE} {k : Nat} {p1 p2 p3 pos : Pos} (he : PE X e te) : PE X (.Subscript e (.Slice none none (some (.UnaryOp .USub (.Constant (.int 1) k p1) p2)) p3) pos) (tRevT X.K te) := by
  refine ⟨fun pins s σ H Q I z => Subscript_ (thn (he.run pins s σ H _ I z) fun v s1 ⟨x, H1, I1, r1, a, xs, ex, hx, q⟩ => ?_)⟩
  subst ex
  obtain rfl : v = Value.ref a := r1
  have one : PO X (some (.UnaryOp .USub (.Constant (.int 1) k p1) p2)) (tPart (tUn (rU fun i => .int (-i)) (tC (.int 1)))) := po_some (pe_un un_neg pe_int)
  refine wpAny_Slice ?_
  rw [evalPart_none]
  refine wpAny_pure (wpAny_pure ?_)
  refine thn (one.run pins s1 σ H1 (fun o H4 => o = some (-1) ∧ H4 = H1) I1 ⟨1, rfl, -1, rfl, rfl, rfl⟩) fun vs s4 ⟨o, H4, I4, ps, eo, e4⟩ => ?_
  subst eo e4
  have I5 : Inv X pins σ H4 { s4 with heap := s4.heap.push { cls := .type "slice", data := .fields #[.none, .none, vs] } } := I4.kept (t' := s4.toks) fun b ob y => Heap.get?_push_of_some _ y
  obtain ⟨its, r, ht, hz⟩ := I5.tuple hx
  have hlen := r.length
  show wpAny (model X.prog X.w) X.A (subscriptTail e (.Slice none none (some (.UnaryOp .USub (.Constant (.int 1) k p1) p2)) p3) (.ref a) (.ref s4.heap.objs.size)) (EP X pins σ Q) X.xe _
  refine tail_any (ops := [.ref a, .ref s4.heap.objs.size]) ht.typeIs PyProof.Rows.slot_tuple_getitem.lookup ?_ (by with_unfolding_all rfl)
  refine getItem_back ht (Heap.IsSliceOf.new _ .none .none vs) ps (by omega) ?_
  exact ⟨.ref _, _, I5.laid (t' := s4.toks) (o := .tup xs.reverse) (fun b ob y => Heap.get?_push_of_some _ y) (Nat.le_refl _) ⟨by rw [List.length_reverse]; exact hz, _, r.reverse, IsTup.new _ _⟩, rfl, q _ (I5.hok.fresh (Nat.le_refl _))⟩
end Tsa

/-! M14: lists that are written. -/
namespace Tsa
open PySem PySem.Spec PyProof.Rows L2
/-- a slot that holds a list of its own -/
inductive LstAt : SD → List SD → (List SD → SD) → Prop
  | lst {l : List SD} : LstAt (.lst l) l .lst
  | pin {v : V} {l : List SD} : LstAt (.pin v (.lst l)) l fun l' => .pin v (.lst l')
section
variable {K : PySem.W.Frag} {X : Cx} {C : XC} {pu pt : Bool} {ω : Type} {Γ : List SD} {e a b tg ie : Expr} {es : List Expr} {M : Res ω} {pos p pn apos : Pos} {ta tb : TE} {k : Opd → List SD → Res ω → Prop} {kl : List SD → Res ω → Prop} {en : ω → EndK}
theorem JE.revT (h : JE X C pu Γ e M fun o Γ1 M1 => ∃ ys, SeqV Γ1 o true ys ∧ k (.own (.tup ys.reverse)) Γ1 M1) {j : Nat} {p1 p2 p3 : Pos} : JE X C pu Γ (.Subscript e (.Slice none none (some (.UnaryOp .USub (.Constant (.int 1) j p1) p2)) p3) pos) M k :=
  JE.of (pe_revT pe_sem) fun F h0 g H σ Q he hf hG hu hx hq => h F h0 g H σ _ he hf hG hu hx fun o Γ1 M1 ⟨ys, sv, hk⟩ hm v F' h1 h2 H' x ow he' d hf' hp => by
    subst hm
    obtain ⟨p, vs, e, l, z, it⟩ := sv.ok ow he' d hf' hG
    refine ⟨p, vs, e, z, fun q hn => ?_⟩
    have n := hf'.no hn
    have n1 : h1 q = none := Sub.l.no n.2.1
    refine Kt.new (Γ := Γ1) (F := F') (fun o Γ' M' hk hm v F2 k1 k2 H2 x2 a2 a3 a4 a5 a6 => hq o Γ' M' hk hm v F2 k1 k2 H2 (x.trans x2) a2 a3 a4 a5 fun z => ⟨(hp z).1.trans (a6 z).1, (a6 z).2.trans (hp z).2⟩) hk he' d hf' hn ?_
    unfold own
    refine ⟨q, _, h1, rfl, cup_some one_same, .r (Dis.one n1), n1, ownL_last (by simpa using l) fun i s hs => ?_⟩
    have hi : i < ys.length := by
      have := (List.getElem?_eq_some_iff.mp hs).1
      simpa using this
    rw [List.getElem?_reverse hi] at hs
    obtain ⟨y, ey, wy⟩ := it _ _ hs
    exact ⟨y, by rw [List.getElem?_reverse (by omega), l]; exact ey, wy⟩
theorem LstAt.ne {s : SD} {l : List SD} {mk : List SD → SD} (q : LstAt s l mk) : s ≠ .hole := fun z => by subst z; cases q
theorem LstAt.ok {s : SD} {l : List SD} {mk : List SD → SD} (q : LstAt s l mk) {F G h : Hp} {v : V} (ow : own K F G s h v) : ∃ p vs h', v = .ref p ∧ h p = some (.lst vs) ∧ Sub h' h ∧ h' p = none ∧ ownL K F G l h' vs ∧
    ∀ (l' : List SD) (vs' : List V) (k1 : Hp), k1 p = none → ownL K F G l' k1 vs' → own K F G (mk l') (cup (sgl p (.lst vs')) k1) v := by
  cases q with
  | lst =>
    unfold own at ow
    obtain ⟨p, vs, h', e, q1, q2, q3, q4⟩ := ow
    refine ⟨p, vs, h', e, q1, q2, q3, q4, fun l' vs' k1 n w => ?_⟩
    unfold own
    exact ⟨p, vs', k1, e, cup_some one_same, .r (Dis.one n), n, w⟩
  | pin =>
    unfold own at ow
    obtain ⟨eu, ow⟩ := ow
    unfold own at ow
    obtain ⟨p, vs, h', e, q1, q2, q3, q4⟩ := ow
    refine ⟨p, vs, h', e, q1, q2, q3, q4, fun l' vs' k1 n w => ?_⟩
    unfold own
    refine ⟨eu, ?_⟩
    unfold own
    exact ⟨p, vs', k1, e, cup_some one_same, .r (Dis.one n), n, w⟩
/-- a slot's list, and how it is written -/
theorem lst_upd {i : Nat} {s : SD} {l : List SD} {mk : List SD → SD} {F G ha h g H : Hp} {σ : L2.St} (he : EnvR K F G Γ h σ) (hi : Γ[i]? = some s) (la : LstAt s l mk) (dd : Dis ha h) (hf : Fits F (cup ha h) g H) (hG : Sub G g) :
    ∃ p vs h', σ[i]? = some (some (.ref p)) ∧ H p = some (.lst vs) ∧ ownL K F G l h' vs ∧ Sub h' h ∧ Dis ha h' ∧
      ∀ (l' : List SD) (vs' : List V) (hl hx : Hp), ownL K F G l' hl vs' → Sub hl (cup ha h') → Sub hx (cup ha h') → Dis hx hl → ∃ h2, EnvR K F G (Γ.set i (mk l')) h2 σ ∧ Dis hx h2 ∧ Fits F (cup hx h2) g (upd H p (.lst vs')) := by
  obtain ⟨o, k1, k2, eo, s1, s2, d12, w, back⟩ := he.at hi
  obtain ⟨u, eu, wu⟩ := w.val la.ne
  subst eu
  obtain ⟨p, vs, h', e, q1, q2, q3, q4, mk'⟩ := la.ok wu
  subst e
  have ph : h p = some (.lst vs) := s1 _ _ q1
  have nk2 : k2 p = none := d12.no q1
  have nha : ha p = none := dd.symm.no ph
  have s3 : Sub h' h := q2.trans s1
  refine ⟨p, vs, h', eo, hf.hH _ _ (Sub.r dd _ _ ph), q4, s3, dd.mono .refl s3, fun l' vs' hl hx w' sl sx dx => ?_⟩
  have nc : cup ha h' p = none := by rw [cup_none nha]; exact q3
  have nl : hl p = none := sl.no nc
  have nx : hx p = none := sx.no nc
  have dk : Dis (cup ha h') k2 := Dis.cup (dd.mono .refl s2) (d12.mono q2 .refl)
  have dl2 : Dis hl k2 := dk.mono sl .refl
  have dx2 : Dis hx k2 := dk.mono sx .refl
  have es : σ.set i (some (.ref p)) = σ := by
    obtain ⟨hi', e'⟩ := List.getElem?_eq_some_iff.mp eo
    rw [← e']; exact List.set_getElem_self hi'
  have E2 := back F (mk l') (some (.ref p)) (cup (sgl p (.lst vs')) hl) (cup (cup (sgl p (.lst vs')) hl) k2) .refl (hf.G hG) (.of (mk' l' vs' hl nl w')) (Dis.cup (Dis.one nk2) dl2) .l (.r (Dis.cup (Dis.one nk2) dl2))
  rw [es] at E2
  have dxh : Dis hx (cup (cup (sgl p (.lst vs')) hl) k2) := (Dis.cup (Dis.cup (Dis.one nx) dx.symm) dx2.symm).symm
  have sub0 : Sub (cup ha h') (cup ha h) := Sub.cup2 .refl s3 dd
  have f1 : Fits F (cup (sgl p (.lst vs)) (cup (cup hx hl) k2)) g H := hf.sub (Sub.cup ((Sub.one ph).trans (.r dd)) (Sub.cup (Sub.cup (sx.trans sub0) (sl.trans sub0)) (s2.trans (.r dd))))
  have n1 : cup (cup hx hl) k2 p = none := by rw [cup_none (by rw [cup_none nx]; exact nl)]; exact nk2
  have f2 : Fits F (cup (sgl p (.lst vs')) (cup (cup hx hl) k2)) g (upd H p (.lst vs')) := f1.upd n1
  have dp : Dis (sgl p (HO.lst vs')) (cup (cup hx hl) k2) := Dis.one n1
  have dxl : Dis (cup hx hl) k2 := Dis.cup dx2 dl2
  exact ⟨_, E2, dxh, f2.sub (Sub.cup ((Sub.l.trans .l).trans (.r dp)) (Sub.cup (Sub.cup .l (((Sub.r dx).trans .l).trans (.r dp))) ((Sub.r dxl).trans (.r dp))))⟩
theorem tyV_lst {H : Hp} {p : Addr} {vs : List V} (h : H p = some (.lst vs)) : tyV K "list" (.ref p) H := .inl ⟨rfl, vs, .of h⟩
def Bm1K (X : Cx) (C : XC) (i : Nat) (r : V → List V → Hp → VK → Prop) (o : Opd) (Γ1 : List SD) (M1 : Res ω) (k : Opd → List SD → Res ω → Prop) : Prop :=
  ∀ (p : Addr) (v : V) (F h1 h2 g H : Hp) (σ : L2.St) (Q : VK), OpdOk X.K F C.G h1 h2 σ o v → EnvR X.K F C.G Γ1 h2 σ → Dis h1 h2 → Fits F (cup h1 h2) g H → Sub C.G g → Sz X.K H → M1 ≠ .un → σ[i]? = some (some (.ref p)) → Kt X.K C false Γ1 M1 k F h2 g σ Q → r (.ref p) [v] H Q
/-- x.m(e), x a slot's list -/
theorem JE.bm1 {T id : String} {m : Str} {r : V → List V → Hp → VK → Prop} {i : Nat} {s : SD} {l : List SD} {mk : List SD → SD} {x : Str} (slot : Slot "list" m id) (hty : typeOf (.builtin id) = pure (.type "method_descriptor")) (hm : MtR X id r) (hΓ : Γ[i]? = some s) (la : LstAt s l mk)
    (h : JE X C false Γ e M fun o Γ1 M1 => Bm1K X C i r o Γ1 M1 k)
    (hN : X.N[i]? = some x := by rfl) (hv : Vis X.env.scope x := by first | exact Or.inl rfl | exact Or.inr (Or.inl rfl) | exact Or.inr (Or.inr rfl)) (hd : (x == ("__debug__" : Str)) = false := by decide) (hcd : (x == ("__classdict__" : Str)) = false := by decide)
    (hbase : attributeBase (.Name x p) m X.env (eval (.Name x p) X.env) = eval (.Name x p) X.env := by rfl)
    (hfew : ((backTo pos (starEach (e :: []) X.env)).all (fun x => !x.1) && (backToKw pos (keywordEach [] X.env)).all (fun x => x.1.isSome) && decide ((e :: []).length + ([] : List Keyword).length + (if ([] : List Keyword).isEmpty then 0 else 1) < 30)) = true := by rfl)
    (hline : (apos.endLine == pos.line) = true := by rfl) (hs : starEach (e :: []) X.env = (false, eval e X.env) :: starEach [] X.env := by rfl) (hpl : (backTo pos (starEach [] X.env)).any (·.1) = false := by rfl) :
    JE X C false Γ (.Call (.Attribute (.Name x p) m apos) [e] [] pos) M k :=
  JE.of (pe_bm PySem.F.plainAttrs_list slot hty hm (pe_var hN hv hd hcd) pa_sem hbase hfew hline hs hpl) fun F h0 g H σ Q he hf hG hu hx hq => by
    obtain ⟨p, vs, h', eo, hH, _⟩ := lst_upd (ha := Tsa.emp) he hΓ la .emp hf.emp hG
    refine ⟨.ref p, eo, tyV_lst hH, semA_sz (JA.one (pu := false) (ka := fun os Γ1 M1 => ∃ o, os = [o] ∧ Bm1K X C i r o Γ1 M1 k) (h.mono fun o Γ1 M1 hk => ⟨o, rfl, hk⟩) hs F h0 g H σ _ he hf hG hu hx fun os Γ1 M1 ⟨o, eos, hk⟩ hm us F' h1 h2 H' x ow he' d hf' hp sz => ?_)⟩
    subst eos
    subst hm
    obtain ⟨v, ha, ev, sa, w⟩ := ow.one
    subst ev
    exact hk p v F' ha h2 g H' σ Q w he' (d.mono sa .refl) (hf'.sub (Sub.cup2 sa .refl d)) hG sz hu eo fun o Γ' M' hk hm v F2 k1 k2 H2 x2 a2 a3 a4 a5 a6 => hq o Γ' M' hk hm v F2 k1 k2 H2 (x.trans x2) a2 a3 a4 a5 fun z => nomatch z
/-- x.append(e) -/
theorem JE.append {i : Nat} {s : SD} {l : List SD} {mk : List SD → SD} {x : Str} (hΓ : Γ[i]? = some s) (la : LstAt s l mk) (h : JE X C false Γ e M fun o Γ1 M1 => ∃ s1 l1 mk1 s2 M2, o = .own s2 ∧ Γ1[i]? = some s1 ∧ LstAt s1 l1 mk1 ∧ (M1 ≠ .un → M1 = M2 ∧ l1.length < 16000000) ∧ k (.own (.val .none)) (Γ1.set i (mk1 (l1 ++ [s2]))) M2)
    (hN : X.N[i]? = some x := by rfl) (hv : Vis X.env.scope x := by first | exact Or.inl rfl | exact Or.inr (Or.inl rfl) | exact Or.inr (Or.inr rfl)) (hd : (x == ("__debug__" : Str)) = false := by decide) (hcd : (x == ("__classdict__" : Str)) = false := by decide)
    (hbase : attributeBase (.Name x p) "append" X.env (eval (.Name x p) X.env) = eval (.Name x p) X.env := by rfl)
    (hfew : ((backTo pos (starEach (e :: []) X.env)).all (fun x => !x.1) && (backToKw pos (keywordEach [] X.env)).all (fun x => x.1.isSome) && decide ((e :: []).length + ([] : List Keyword).length + (if ([] : List Keyword).isEmpty then 0 else 1) < 30)) = true := by rfl)
    (hline : (apos.endLine == pos.line) = true := by rfl) (hs : starEach (e :: []) X.env = (false, eval e X.env) :: starEach [] X.env := by rfl) (hpl : (backTo pos (starEach [] X.env)).any (·.1) = false := by rfl) :
    JE X C false Γ (.Call (.Attribute (.Name x p) "append" apos) [e] [] pos) M k :=
  JE.bm1 (T := "list") PySem.F.slot_list_append PySem.F.type_list_append mt_append hΓ la (h.mono fun o Γ1 M1 ⟨s1, l1, mk1, s2, M2, eo, hi, la1, hM, hk⟩ => fun p v F h1 h2 g H σ Q ow he d hf hG sz hu eσ hq => by
    subst eo
    obtain ⟨eM, hl⟩ := hM hu
    subst eM
    obtain ⟨q, vs, h', e2, hH, wl, sh, dh, upd'⟩ := lst_upd he hi la1 d hf hG
    rw [eσ] at e2
    cases e2
    have len := ownL_len wl
    obtain ⟨h3, E3, d3, f3⟩ := upd' (l1 ++ [s2]) (vs ++ [v]) (cup h' h1) emp (ownL_app wl ow dh.symm) (Sub.cup (.r dh) .l) .emp .emp
    exact ⟨p, vs, v, rfl, rfl, hH, by rw [len]; exact Nat.lt_of_lt_of_le hl (by decide), hq _ _ M1 hk rfl .non F emp h3 _ .refl (by unfold OpdOk own; exact .non) E3 .emp f3 fun z => nomatch z⟩) hN hv hd hcd hbase hfew hline hs hpl
end
end Tsa

/-! M15: chained tests, stores into lists, joined lists. -/
namespace Tsa
open PySem PySem.Spec PyProof.Rows L2
section
variable {K : PySem.W.Frag} {X : Cx} {C : XC} {pu pt : Bool} {ω : Type} {Γ : List SD} {e a b c tg ie : Expr} {es : List Expr} {M : Res ω} {pos p pn apos : Pos} {ta tb tc : TE} {k : Opd → List SD → Res ω → Prop} {kl : List SD → Res ω → Prop} {en : ω → EndK} {st : Stmt} {t : TS}
theorem ownL_put {F G : Hp} : ∀ {l : List SD} {h h1 : Hp} {vs : List V} {n : Nat} {s : SD} {v : V}, ownL K F G l h vs → own K F G s h1 v → Dis h h1 → ownL K F G (l.set n s) (cup h1 h) (vs.set n v)
  | [], h, h1, vs, n, s, v, q, w, d => by
    unfold ownL at q
    subst q
    show ownL K F G [] _ []
    unfold ownL
    rfl
  | t :: l, h, h1, vs, n, s, v, q, w, d => by
    unfold ownL at q
    obtain ⟨u, ur, k1, k2, e, s1, s2, dk, wu, q⟩ := q
    subst e
    cases n with
    | zero =>
      show ownL K F G (s :: l) _ (v :: ur)
      unfold ownL
      exact ⟨v, ur, h1, k2, rfl, .l, s2.trans (.r d.symm), (d.mono s2 .refl).symm, w, q⟩
    | succ n =>
      show ownL K F G (t :: l.set n s) _ (u :: ur.set n v)
      unfold ownL
      exact ⟨u, _, k1, cup h1 k2, rfl, s1.trans (.r d.symm), Sub.cup2 .refl s2 d.symm, (Dis.cup (d.mono s1 .refl).symm dk.symm).symm, wu, ownL_put q w (d.mono s2 .refl)⟩
/-- what is not walked needs no proof -/
theorem JST.un (h : M = .un) : JST K C Γ t M kl en := fun F h0 g H σ D he hf hG hu => absurd h hu
theorem chain_tot {r r' : R2} {f g : Int → Int → Bool} {i j l : Int} (hr : ∀ (i j : Int) (H : Hp) (Q : VK), Q (.bl (f i j)) H → r (.int i) (.int j) H Q) (hr' : ∀ (i j : Int) (H : Hp) (Q : VK), Q (.bl (g i j)) H → r' (.int i) (.int j) H Q)
    (ha : JVt X C Γ a (.own (.val (.int i)))) (hb : JVt X C Γ b (.own (.val (.int j)))) (hc : JVt X C Γ c (.own (.val (.int l)))) : JT X.K C true Γ (tChain r r' (semE X a) (semE X b) (semE X c)) (Res.ok ()) fun o Γ' _ => o = .own (.val (.bool (f i j && g j l))) ∧ Γ' = Γ := by
  intro F h0 g0 H σ Q he hf hG hu hx hq
  refine ha F h0 g0 H σ _ he hf hG hu hx fun oa Γ1 M1 ⟨e1, e2⟩ hm va F1 k1 h1 H1 x1 w1 he1 d1 hf1 p1 => ?_
  subst e1 e2
  obtain rfl := w1.intV
  have f1 := hf1.un d1
  refine hb F1 h1 g0 H1 σ _ he1 f1 hG hu (hx.mono x1) fun ob Γ2 M2 ⟨e1, e2⟩ hm vb F2 k2 h2 H2 x2 w2 he2 d2 hf2 p2 => ?_
  subst e1 e2
  obtain rfl := w2.intV
  have f2 := hf2.un d2
  refine hr _ _ _ _ ⟨f i j, rfl, ?_⟩
  cases q : f i j with
  | false =>
    rw [if_neg Bool.false_ne_true]
    exact hq (.own (.val (.bool false))) _ (.ok ()) ⟨by rw [q]; rfl, rfl⟩ rfl (.bl false) F2 emp h2 H2 (x1.trans x2) (by unfold OpdOk own; exact .bl _) he2 .emp f2.emp fun _ => ⟨(p1 rfl).1.trans (p2 rfl).1, rfl⟩
  | true =>
    rw [if_pos rfl]
    refine hc F2 h2 g0 H2 σ _ he2 f2 hG hu (hx.mono (x1.trans x2)) fun oc Γ3 M3 ⟨e1, e2⟩ hm vc F3 k3 h3 H3 x3 w3 he3 d3 hf3 p3 => ?_
    subst e1 e2
    obtain rfl := w3.intV
    exact hr' _ _ _ _ (hq (.own (.val (.bool (g j l)))) _ (.ok ()) ⟨by rw [q]; rfl, rfl⟩ rfl (.bl _) F3 emp h3 H3 ((x1.trans x2).trans x3) (by unfold OpdOk own; exact .bl _) he3 .emp (hf3.un d3).emp fun _ => ⟨((p1 rfl).1.trans (p2 rfl).1).trans (p3 rfl).1, rfl⟩)
/-- the order tests of numbers -/
inductive Ord : CmpOp → (Int → Int → Bool) → Prop
  | lt : Ord .Lt fun i j => decide (i < j)
  | le : Ord .LtE fun i j => decide (i ≤ j)
  | gt : Ord .Gt fun i j => decide (j < i)
  | ge : Ord .GtE fun i j => decide (j ≤ i)
theorem Ord.op {op : CmpOp} {f : Int → Int → Bool} (o : Ord op f) : OpR X (compareOp op) (rI0 fun i j => .bl (f i j)) := by
  cases o with
  | lt => exact op_lt
  | le => exact op_le
  | gt => exact op_gt
  | ge => exact op_ge
theorem JVt.chain {op op' : CmpOp} {f g : Int → Int → Bool} {i j l : Int} (o : Ord op f) (o' : Ord op' g) (ha : JVt X C Γ a (.own (.val (.int i)))) (hb : JVt X C Γ b (.own (.val (.int j)))) (hc : JVt X C Γ c (.own (.val (.int l)))) (hm : lastMarks [op, op'] [b, c] = false := by with_unfolding_all rfl) :
    JVt X C Γ (.Compare a [op, op'] [b, c] pos) (.own (.val (.bool (f i j && g j l)))) :=
  JE.of (pe_chain o.op o'.op pe_sem pe_sem pe_sem hm) (chain_tot (fun i j H Q q => ⟨i, j, rfl, rfl, q⟩) (fun i j H Q q => ⟨i, j, rfl, rfl, q⟩) ha hb hc)
theorem JCt.chain {op op' : CmpOp} {f g : Int → Int → Bool} {i j l : Int} (o : Ord op f) (o' : Ord op' g) (ha : JVt X C Γ a (.own (.val (.int i)))) (hb : JVt X C Γ b (.own (.val (.int j)))) (hc : JVt X C Γ c (.own (.val (.int l)))) (hm : lastMarks [op, op'] [b, c] = false := by with_unfolding_all rfl) :
    JCt X C Γ (.Compare a [op, op'] [b, c] pos) (f i j && g j l) :=
  JC.of (pt_chain o.op o'.op pe_sem pe_sem pe_sem hm) (JB2.test ((chain_tot (fun i j H Q q => ⟨i, j, rfl, rfl, q⟩) (fun i j H Q q => ⟨i, j, rfl, rfl, q⟩) ha hb hc).mono fun o Γ' M' ⟨e1, e2⟩ => ⟨_, e1, rfl, e2⟩))
/-! ### stores that write the heap -/
def JG2 (X : Cx) (C : XC) (Γ : List SD) (tg : Expr) (s : SD) (M : Res ω) (k : List SD → Res ω → Prop) : Prop :=
  ∀ (F h1 h g H : Hp) (σ : L2.St) (v : V) (Q : L2.St → Hp → Prop), EnvR X.K F C.G Γ h σ → own X.K F C.G s h1 v → Dis h1 h → Fits F (cup h1 h) g H → Sub C.G g → M ≠ .un → XOk X.K C F g M →
    (∀ Γ' M', k Γ' M' → M' = M → ∀ (F' h' H' : Hp) (σ' : L2.St), Sub F F' → EnvR X.K F' C.G Γ' h' σ' → Fits F' h' g H' → Q σ' H') → semG X tg v σ H Q
def JGs2 (X : Cx) (C : XC) (Γ : List SD) (ts : List Expr) (ss : List SD) (M : Res ω) (k : List SD → Res ω → Prop) : Prop :=
  ∀ (F h1 h g H : Hp) (σ : L2.St) (vs : List V) (Q : L2.St → Hp → Prop), EnvR X.K F C.G Γ h σ → ownL X.K F C.G ss h1 vs → Dis h1 h → Fits F (cup h1 h) g H → Sub C.G g → M ≠ .un → XOk X.K C F g M →
    (∀ Γ' M', k Γ' M' → M' = M → ∀ (F' h' H' : Hp) (σ' : L2.St), Sub F F' → EnvR X.K F' C.G Γ' h' σ' → Fits F' h' g H' → Q σ' H') → semGs X ts vs σ H Q
theorem JG2.name {i : Nat} {x : Str} {s : SD} (hk : kl (Γ.set i s) M) (hN : X.N.Nodup) (hi : X.N[i]? = some x := by rfl) (hx : Loc X.env.scope x := by first | exact Or.inl rfl | exact Or.inr rfl)
    (hf : X.fn x = true ∨ X.env.scope.names.lookup x = some .local := by first | exact .inl rfl | exact .inr rfl | assumption) (hl : i < Γ.length := by exact Nat.le_of_ble_eq_true rfl) : JG2 X C Γ (.Name x pos) s M kl :=
  fun F h1 h g H σ v Q he ow d hf' hG hu hxo hq pins s' u I r => (pg_name hN hi hx hf).run pins s' σ H v u Q I r (hq _ M hk rfl F _ H _ .refl (he.put hl ow d (hf'.G hG)) hf')
/-- xs[i] = .. -/
theorem JG2.ix {i : Nat} {x : Str} {s s1 : SD} {l : List SD} {mk : List SD → SD} (hΓ : Γ[i]? = some s1) (la : LstAt s1 l mk) (h : ∃ j, JVt X C Γ ie (.own (.val (.int j))) ∧ ∃ n M2, (M ≠ .un → M = M2 ∧ ixN l.length j = some n) ∧ kl (Γ.set i (mk (l.set n s))) M2)
    (hN : X.N[i]? = some x := by rfl) (hv : Vis X.env.scope x := by first | exact Or.inl rfl | exact Or.inr (Or.inl rfl) | exact Or.inr (Or.inr rfl)) (hd : (x == ("__debug__" : Str)) = false := by decide) (hcd : (x == ("__classdict__" : Str)) = false := by decide)
    (ha : ∀ v, assign (.Subscript (.Name x p) ie pos) X.env v = (do
      let ov ← holding [v] (eval (.Name x p) X.env)
      let iv ← holding [v, ov] (eval ie X.env)
      standAt pos
      holding [v, ov, iv] (setItem ov iv v)
      release [v, ov, iv] []) := by intro _; rfl) : JG2 X C Γ (.Subscript (.Name x p) ie pos) s M kl :=
  fun F h1 h0 g H σ v Q he ow d hf hG hu hxo hq pins s' u I r => by
    obtain ⟨j, hj, n, M2, hM, hk⟩ := h
    obtain ⟨eM, hn⟩ := hM hu
    subst eM
    obtain ⟨q, vs, h', eo, hH, wl, sh, dh, _⟩ := lst_upd he hΓ la d hf hG
    refine (pg_sub (pe_var hN hv hd hcd) pe_sem set_list ha).run pins s' σ H v u Q I r ⟨.ref q, eo, ?_⟩
    have dhg : Dis h1 g := hf.hg.mono .l .refl
    refine hj F h0 (cup h1 g) H σ _ he (hf.out d) (hG.trans (.r dhg)) (by intro z; cases z) (fun e z => nomatch z) fun o Γ1 M1 ⟨e1, e2⟩ hm va F1 k1 h2 H1 x1 w1 he1 d1 hf1 p1 => ?_
    subst e1 e2
    obtain rfl := w1.intV
    have ff := ((hf1.un d1).inn dhg)
    have dd := (hf1.un d1).dis
    have ow1 : own X.K F1 C.G s h1 v := own_mono x1 (cup_mono_l x1 (ff.G hG)) s .refl ow
    obtain ⟨q2, vs2, h2', eo2, hH2, wl2, sh2, dh2, upd2⟩ := lst_upd he1 hΓ la dd ff hG
    rw [eo] at eo2
    cases eo2
    have len := ownL_len wl2
    obtain ⟨h3, E3, d3, f3⟩ := upd2 (l.set n s) (vs2.set n v) (cup h1 h2') emp (ownL_put wl2 ow1 dh2.symm) .refl .emp .emp
    exact ⟨q, vs2, j, n, rfl, rfl, hH2, by rw [len]; exact hn, hq _ M hk rfl F1 h3 _ σ x1 E3 (f3.sub (.r .emp))⟩
theorem JGs2.nil (hk : kl Γ M) : JGs2 X C Γ [] [] M kl := fun F h1 h g H σ vs Q he ow d hf' hG hu hx hq pins s' us I r => by
  unfold ownL at ow
  exact pgs_nil.run pins s' σ H vs us Q I r ⟨ow, hq _ M hk rfl F h H σ .refl he (hf'.un d)⟩
theorem JGs2.cons {s : SD} {ss : List SD} (h : JG2 X C Γ e s M fun Γ' M' => JGs2 X C Γ' es ss M' kl)
    (hs : (assignEach (e :: es) X.env).map (·.2) = assign e X.env :: (assignEach es X.env).map (·.2) := by rfl) : JGs2 X C Γ (e :: es) (s :: ss) M kl := fun F h1 h2 g H σ vs Q he ow d hf' hG hu hx hq pins s' us I r => by
  unfold ownL at ow
  obtain ⟨v, vr, k1, k2, e1, s1, s2, d12, ow1, ow2⟩ := ow
  refine (pgs_cons pg_sem pgs_sem hs).run pins s' σ H vs us Q I r ⟨v, vr, e1, ?_⟩
  have dk2 : Dis k2 (cup k1 h2) := (Dis.cup d12 (d.mono s2 .refl).symm).symm
  have f1 : Fits F (cup k2 (cup k1 h2)) g H := hf'.sub (Sub.cup (s2.trans .l) (Sub.cup (s1.trans .l) (.r d)))
  have dkg : Dis k2 g := f1.hg.mono .l .refl
  refine h F k1 h2 (cup k2 g) H σ v _ he ow1 (d.mono s1 .refl) (f1.out dk2) (hG.trans (.r dkg)) hu (fun e hm c od F' hx' h' H' σ' y ex en dd ff => hx e hm c od F' hx' h' H' σ' y ex en dd ((ff.inn dkg).sub (.r ff.dis))) fun Γ' M' hk' hm F' h' H' σ' x he' hf2 => ?_
  subst hm
  have f3 := hf2.inn dkg
  exact hk' F' k2 h' g H' σ' vr Q he' (ownL_mono x (cup_mono_l x (f3.G hG)) ss .refl ow2) hf2.dis f3 hG hu (hx.mono x) fun Γ2 M2 hk2 hm2 F3 h3 H3 σ3 x3 he3 hf3 => hq Γ2 M2 hk2 hm2 F3 h3 H3 σ3 (x.trans x3) he3 hf3
theorem JG2.tup {n : Nat} {ss : List SD} (hc : X.calm = true) (h : JGs2 X C Γ es ss M kl) (hn : (assignEach es X.env).length = ss.length := by rfl) (hst : (assignEach es X.env).findIdx? (·.1) = none := by rfl) : JG2 X C Γ (.Tuple es n pos) (.tup ss) M kl := fun F h1 h2 g H σ v Q he ow d hf' hG hu hx hq pins s' u I r => by
  unfold own at ow
  obtain ⟨q, vs, k1, e1, q1, s1, q2, ow⟩ := ow
  have hl : vs.length = ss.length := ownL_len ow
  refine (pg_tup hc pgs_sem hn hst).run pins s' σ H v u Q I r ⟨q, vs, e1, .inl (.inl (hf'.hH _ _ (cup_some q1))), hl, ?_⟩
  exact h F k1 h2 g H σ vs Q he ow (d.mono s1 .refl) (hf'.sub (Sub.cup (s1.trans .l) (.r d))) hG hu hx hq
/-- target = value, the target's store may write a list -/
theorem JS.asg2 (h : JE X C false Γ e M fun o Γ' M' => ∃ s, o = .own s ∧ JG2 X C Γ' tg s M' fun Γ2 M2 => kl Γ2 M2) (hs : swapsWithSole [tg] e pos.line X.env = pure false := by rfl) (hw : swappedStores [tg] e X.env = pure none := by rfl)
    (h1 : (assignEach [tg] X.env).map (·.2) = [assign tg X.env] := by rfl) : JS X C Γ (.Assign [tg] e pos) M kl en :=
  JS.of (ps_asg pe_sem pg_sem hs hw h1) fun F h0 g H σ D he hf hG hu hx q hn => h F h0 g H σ _ he hf hG hu hx fun o Γ' M' ⟨s, e1, hg⟩ hm v F' k1 k2 H' x ow he' d hf' _ => by
    subst e1
    subst hm
    exact hg F' k1 k2 g H' σ v _ he' ow d hf' hG hu (hx.mono x) fun Γ2 M2 hk2 hm2 F2 h2 H2 σ2 x2 he2 hf2 => q Γ2 M2 hk2 hm2 F2 h2 σ2 H2 (x.trans x2) he2 hf2
end
end Tsa

/-! M16: least and greatest of a sequence of numbers; joined and repeated lists. -/
namespace Tsa
open PySem PySem.Spec PyProof.Rows L2 PySem.W
def leastI (n : Int) (ns : List Int) : Int := ns.foldl min n
def mostI (n : Int) (ns : List Int) : Int := ns.foldl max n
theorem alike_nums (ns : List Int) : AlikeAll (ns.map .int) := by
  refine ⟨fun x hx y hy => ?_, fun x hx => ?_⟩
  · obtain ⟨i, _, rfl⟩ := List.mem_map.mp hx
    obtain ⟨j, _, rfl⟩ := List.mem_map.mp hy
    rfl
  · obtain ⟨i, _, rfl⟩ := List.mem_map.mp hx
    intro z
    cases z
theorem depth_ints : ∀ ns : List Int, PyData.depthAll (ns.map .int) = 0
  | [] => rfl
  | n :: ns => by
    show max (PyData.depth (.int n)) (PyData.depthAll (ns.map .int)) = 0
    rw [depth_ints ns]
    rfl
theorem dp_ints {K : PySem.W.Frag} {H : Hp} : ∀ ns : List Int, DpAll K H (ns.map V.int) (ns.map .int)
  | [] => .nil
  | n :: ns => .cons (.int n) (dp_ints ns)
def rLeast (K : PySem.W.Frag) (f : Int → List Int → Int) : List V → Hp → VK → Prop := fun xs H Q => ∃ (p : Addr) (n : Int) (ns : List Int), xs = [.ref p] ∧ (SqL K H p ((n :: ns).map V.int) ∨ SqT K H p ((n :: ns).map V.int)) ∧ Q (.int (f n ns)) H
section
variable {X : Cx}
theorem call_least (hc : X.calm = true) (hu : X.A.units + 64 < cLine) : CallR X (.builtin "min") (rLeast X.K leastI) := by
  intro pins s σ H xs us Q I r ⟨p, n, ns, ex, hs, hq⟩
  subst ex
  obtain ⟨u, rfl, ru⟩ := r.one
  obtain rfl : u = Value.ref p := ru
  have hd : X.A.units + 1 + PyData.depthAll ((n :: ns).map .int) < cLine := by rw [depth_ints]; omega
  rcases hs with hs | hs
  · obtain ⟨its, rv, pl, hz⟩ := I.list hs
    obtain ⟨as, ra⟩ := Dp.readsAll I _ _ _ (dp_ints (n :: ns)) rv
    refine min_list_data (x := .int n) (xs := ns.map .int) (I.ok.hd hc) pl.isList (by simpa using ra) (alike_nums (n :: ns)) hd fun i v h' tk bs hv rd hk => ?_
    rw [PySem.W.minD_ints] at rd
    cases rd
    exact ⟨.int _, H, I.kept hk, ⟨_, rfl⟩, hq⟩
  · obtain ⟨its, rv, tu, hz⟩ := I.tuple hs
    obtain ⟨as, ra⟩ := Dp.readsAll I _ _ _ (dp_ints (n :: ns)) rv
    refine min_tuple_data (x := .int n) (xs := ns.map .int) (I.ok.hd hc) tu (by simpa using ra) (alike_nums (n :: ns)) hd fun i v h' tk bs hv rd hk => ?_
    rw [PySem.W.minD_ints] at rd
    cases rd
    exact ⟨.int _, H, I.kept hk, ⟨_, rfl⟩, hq⟩
theorem call_most (hc : X.calm = true) (hu : X.A.units + 64 < cLine) : CallR X (.builtin "max") (rLeast X.K mostI) := by
  intro pins s σ H xs us Q I r ⟨p, n, ns, ex, hs, hq⟩
  subst ex
  obtain ⟨u, rfl, ru⟩ := r.one
  obtain rfl : u = Value.ref p := ru
  have hd : X.A.units + 1 + PyData.depthAll ((n :: ns).map .int) < cLine := by rw [depth_ints]; omega
  rcases hs with hs | hs
  · obtain ⟨its, rv, pl, hz⟩ := I.list hs
    obtain ⟨as, ra⟩ := Dp.readsAll I _ _ _ (dp_ints (n :: ns)) rv
    refine max_list_data (x := .int n) (xs := ns.map .int) (I.ok.hd hc) pl.isList (by simpa using ra) (alike_nums (n :: ns)) hd fun i v h' tk bs hv rd hk => ?_
    rw [PySem.W.maxD_ints] at rd
    cases rd
    exact ⟨.int _, H, I.kept hk, ⟨_, rfl⟩, hq⟩
  · obtain ⟨its, rv, tu, hz⟩ := I.tuple hs
    obtain ⟨as, ra⟩ := Dp.readsAll I _ _ _ (dp_ints (n :: ns)) rv
    refine max_tuple_data (x := .int n) (xs := ns.map .int) (I.ok.hd hc) tu (by simpa using ra) (alike_nums (n :: ns)) hd fun i v h' tk bs hv rd hk => ?_
    rw [PySem.W.maxD_ints] at rd
    cases rd
    exact ⟨.int _, H, I.kept hk, ⟨_, rfl⟩, hq⟩
end
section
variable {K : PySem.W.Frag} {X : Cx} {C : XC} {pu pt : Bool} {ω : Type} {Γ : List SD} {e a b c tg ie : Expr} {es : List Expr} {M : Res ω} {pos p pn apos : Pos} {ta tb tc : TE} {k : Opd → List SD → Res ω → Prop} {kl : List SD → Res ω → Prop} {en : ω → EndK} {st : Stmt} {t : TS}
/-- numbers, locked or only read -/
inductive IntsS : List SD → List Int → Prop
  | val {ns : List Int} : IntsS (ns.map fun i => .val (.int i)) ns
  | rd {ns : List Int} : IntsS (ns.map fun i => .rd (.int i)) ns
  | vals {ns : List Int} : IntsS ((ns.map .int).map .val) ns
  | rds {ns : List Int} : IntsS ((ns.map .int).map .rd) ns
theorem ints_at {F G : Hp} {g : Int → SD} (hg : ∀ i v, own K F G (g i) emp v → v = .int i) : ∀ {ns : List Int} {vs : List V}, vs.length = (ns.map g).length → (∀ (i : Nat) (s : SD), (ns.map g)[i]? = some s → ∃ x, vs[i]? = some x ∧ own K F G s emp x) → vs = ns.map V.int
  | [], vs, l, _ => List.length_eq_zero_iff.mp l
  | n :: ns, [], l, _ => by cases l
  | n :: ns, v :: vs, l, it => by
    obtain ⟨x, e, w⟩ := it 0 _ rfl
    cases e
    rw [List.map_cons, ← ints_at hg (vs := vs) (by simpa using l) fun i s hs => it (i + 1) s hs, hg _ _ w]
theorem IntsS.ok {F G : Hp} {ys : List SD} {ns : List Int} {vs : List V} (q : IntsS ys ns) (l : vs.length = ys.length) (it : ∀ (i : Nat) (s : SD), ys[i]? = some s → ∃ x, vs[i]? = some x ∧ own K F G s emp x) : vs = ns.map V.int := by
  cases q with
  | val => exact ints_at (fun i v w => by unfold own at w; exact w.intV) l it
  | rd => exact ints_at (fun i v w => by unfold own at w; exact w.intV) l it
  | vals =>
    rw [List.map_map] at l it
    exact ints_at (g := SD.val ∘ PyData.int) (fun i v w => by show v = _; have w : own K F G (.val (.int i)) emp v := w; unfold own at w; exact w.intV) l it
  | rds =>
    rw [List.map_map] at l it
    exact ints_at (g := SD.rd ∘ PyData.int) (fun i v w => by show v = _; have w : own K F G (.rd (.int i)) emp v := w; unfold own at w; exact w.intV) l it
theorem JE.leastC {id : String} {x : Str} {f : Int → List Int → Int} (hc : CallR X (.builtin id) (rLeast X.K f)) (hv : bootBuiltins x = some (.builtin id)) (hm : X.mg x = none) (h : JE X C pu Γ e M fun o Γ1 M1 => ∃ t ys n ns, SeqV Γ1 o t ys ∧ IntsS ys (n :: ns) ∧ k (.own (.val (.int (f n ns)))) Γ1 M1) (hg : Gl X x) (hn : x ≠ "__name__") (hdb : (x == ("__debug__" : Str)) = false) (hs : starEach [e] X.env = (false, eval e X.env) :: starEach [] X.env) : JE X C pu Γ (.Call (.Name x pn) [e] [] pos) M k :=
  JE.bi hc hm (JA.one (h.mono fun o Γ1 M1 ⟨t, ys, n, ns, sv, is, hk⟩ vs F h1 h2 g H σ Q ow he d hf hG sz hu hq => by
    obtain ⟨v, ha, e1, s1, w⟩ := ow.one
    obtain ⟨q, ws, e2, l, z, it⟩ := sv.ok w he (d.mono s1 .refl) (hf.sub (Sub.cup2 s1 .refl d)) hG
    have ew := is.ok l it
    subst e1 e2 ew
    exact ⟨q, n, ns, rfl, by cases t with | true => exact .inr z | false => exact .inl z, hq.scal hk he d hf (.int _)⟩) hs) hv hg hn hdb hs
theorem JE.least {j : Nat} (hr : RoomG j X.A) (hc : X.calm = true) (hm : X.mg "min" = none) (h : JE X C pu Γ e M fun o Γ1 M1 => ∃ t ys n ns, SeqV Γ1 o t ys ∧ IntsS ys (n :: ns) ∧ k (.own (.val (.int (leastI n ns)))) Γ1 M1) (hg : Gl X "min" := by rfl) (hs : starEach [e] X.env = (false, eval e X.env) :: starEach [] X.env := by rfl) : JE X C pu Γ (.Call (.Name "min" pn) [e] [] pos) M k :=
  JE.leastC (call_least hc hr.lines64) rfl hm h hg (by decide) (by decide) hs
theorem JE.most {j : Nat} (hr : RoomG j X.A) (hc : X.calm = true) (hm : X.mg "max" = none) (h : JE X C pu Γ e M fun o Γ1 M1 => ∃ t ys n ns, SeqV Γ1 o t ys ∧ IntsS ys (n :: ns) ∧ k (.own (.val (.int (mostI n ns)))) Γ1 M1) (hg : Gl X "max" := by rfl) (hs : starEach [e] X.env = (false, eval e X.env) :: starEach [] X.env := by rfl) : JE X C pu Γ (.Call (.Name "max" pn) [e] [] pos) M k :=
  JE.leastC (call_most hc hr.lines64) rfl hm h hg (by decide) (by decide) hs
/-- a list of its own, its things locked -/
inductive TrkV (Γ : List SD) : Opd → List PyData → Prop
  | own {ds : List PyData} : TrkV Γ (.own (.lst (ds.map .val))) ds
  | at {i : Nat} {ds : List PyData} (h : Γ[i]? = some (.lst (ds.map .val))) : TrkV Γ (.at i) ds
end
end Tsa

/-! M17: data that is only read. -/
namespace Tsa
open PySem PySem.Spec PyProof.Rows L2
/-- plain data needs no frame -/
def rdN (d : PyData) : SD := if isScal d = true then .val d else .rd d
section
variable {K : PySem.W.Frag} {X : Cx} {C : XC} {pu pt : Bool} {ω : Type} {Γ : List SD} {e a b tg : Expr} {es : List Expr} {M : Res ω} {pos p pn : Pos} {ta tb : TE} {k : Opd → List SD → Res ω → Prop} {kS : List SD → List SD → Res ω → Prop}
variable {ws : Nat → Prop}
end
end Tsa

/-! M18: more of lists. -/
namespace Tsa
open PySem PySem.Spec PyProof.Rows L2
section
variable {K : PySem.W.Frag} {X : Cx} {C : XC} {pu pt : Bool} {ω : Type} {Γ : List SD} {e a b tg ie : Expr} {es : List Expr} {M : Res ω} {pos p pn apos : Pos} {k : Opd → List SD → Res ω → Prop}
def BmK (X : Cx) (C : XC) (i : Nat) (r : V → List V → Hp → VK → Prop) (os : List Opd) (Γ1 : List SD) (M1 : Res ω) (k : Opd → List SD → Res ω → Prop) : Prop :=
  ∀ (p : Addr) (vs : List V) (F h1 h2 g H : Hp) (σ : L2.St) (Q : VK), OpdsOk X.K F C.G os h1 h2 σ vs → EnvR X.K F C.G Γ1 h2 σ → Dis h1 h2 → Fits F (cup h1 h2) g H → Sub C.G g → Sz X.K H → M1 ≠ .un → σ[i]? = some (some (.ref p)) → Kt X.K C false Γ1 M1 k F h2 g σ Q → r (.ref p) vs H Q
/-- x.m(e, ..), x a slot's list -/
theorem JE.bmN {T id : String} {m : Str} {r : V → List V → Hp → VK → Prop} {i : Nat} {s : SD} {l : List SD} {mk : List SD → SD} {x : Str} (slot : Slot "list" m id) (hty : typeOf (.builtin id) = pure (.type "method_descriptor")) (hm : MtR X id r) (hΓ : Γ[i]? = some s) (la : LstAt s l mk)
    (h : JA X C false Γ (e :: es) M fun os Γ1 M1 => BmK X C i r os Γ1 M1 k)
    (hN : X.N[i]? = some x) (hv : Vis X.env.scope x) (hd : (x == ("__debug__" : Str)) = false) (hcd : (x == ("__classdict__" : Str)) = false)
    (hbase : attributeBase (.Name x p) m X.env (eval (.Name x p) X.env) = eval (.Name x p) X.env)
    (hfew : ((backTo pos (starEach (e :: es) X.env)).all (fun x => !x.1) && (backToKw pos (keywordEach [] X.env)).all (fun x => x.1.isSome) && decide ((e :: es).length + ([] : List Keyword).length + (if ([] : List Keyword).isEmpty then 0 else 1) < 30)) = true)
    (hline : (apos.endLine == pos.line) = true) (hs : starEach (e :: es) X.env = (false, eval e X.env) :: starEach es X.env) (hpl : (backTo pos (starEach es X.env)).any (·.1) = false) :
    JE X C false Γ (.Call (.Attribute (.Name x p) m apos) (e :: es) [] pos) M k :=
  JE.of (pe_bm PySem.F.plainAttrs_list slot hty hm (pe_var hN hv hd hcd) pa_sem hbase hfew hline hs hpl) fun F h0 g H σ Q he hf hG hu hx hq => by
    obtain ⟨p, vs, h', eo, hH, _⟩ := lst_upd (ha := Tsa.emp) he hΓ la .emp hf.emp hG
    refine ⟨.ref p, eo, tyV_lst hH, semA_sz (h F h0 g H σ _ he hf hG hu hx fun os Γ1 M1 hk hm us F' h1 h2 H' x ow he' d hf' hp sz => ?_)⟩
    subst hm
    exact hk p us F' h1 h2 g H' σ Q ow he' d hf' hG sz hu eo fun o Γ' M' hk hm v F2 k1 k2 H2 x2 a2 a3 a4 a5 a6 => hq o Γ' M' hk hm v F2 k1 k2 H2 (x.trans x2) a2 a3 a4 a5 fun z => nomatch z
theorem ownL_mid {F G : Hp} : ∀ {l : List SD} {h h1 : Hp} {vs : List V} {s : SD} {v : V} (n : Nat), ownL K F G l h vs → own K F G s h1 v → Dis h h1 → ownL K F G (l.take n ++ [s] ++ l.drop n) (cup h1 h) (vs.take n ++ [v] ++ vs.drop n)
  | l, h, h1, vs, s, v, 0, q, w, d => by
    show ownL K F G (s :: l) _ (v :: vs)
    unfold ownL
    exact ⟨v, vs, h1, h, rfl, .l, .r d.symm, d.symm, w, q⟩
  | [], h, h1, vs, s, v, n + 1, q, w, d => by
    unfold ownL at q
    subst q
    show ownL K F G [s] _ [v]
    unfold ownL ownL
    exact ⟨v, [], h1, emp, rfl, .l, .emp, Dis.emp.symm, w, rfl⟩
  | t :: l, h, h1, vs, s, v, n + 1, q, w, d => by
    unfold ownL at q
    obtain ⟨u, ur, k1, k2, e, s1, s2, dk, wu, q⟩ := q
    subst e
    show ownL K F G (t :: (l.take n ++ [s] ++ l.drop n)) _ (u :: (ur.take n ++ [v] ++ ur.drop n))
    unfold ownL
    exact ⟨u, _, k1, cup h1 k2, rfl, s1.trans (.r d.symm), Sub.cup2 .refl s2 d.symm, (Dis.cup (d.mono s1 .refl).symm dk.symm).symm, wu, ownL_mid n q w (d.mono s2 .refl)⟩
/-- x.insert(i, e) -/
theorem JE.insert {i : Nat} {s : SD} {l : List SD} {mk : List SD → SD} {x : Str} (hΓ : Γ[i]? = some s) (la : LstAt s l mk)
    (h : JI X C false Γ a M fun j Γ1 M1 => JE X C false Γ1 b M1 fun o Γ2 M2 => ∃ s1 l1 mk1 s2 M3, o = .own s2 ∧ Γ2[i]? = some s1 ∧ LstAt s1 l1 mk1 ∧ (M2 ≠ .un → M2 = M3 ∧ (0 ≤ j ∧ j < 2 ^ 62 ∧ l1.length < 16000000)) ∧ k (.own (.val .none)) (Γ2.set i (mk1 (l1.take j.toNat ++ [s2] ++ l1.drop j.toNat))) M3)
    (hN : X.N[i]? = some x := by rfl) (hv : Vis X.env.scope x := by first | exact Or.inl rfl | exact Or.inr (Or.inl rfl) | exact Or.inr (Or.inr rfl)) (hd : (x == ("__debug__" : Str)) = false := by decide) (hcd : (x == ("__classdict__" : Str)) = false := by decide)
    (hbase : attributeBase (.Name x p) "insert" X.env (eval (.Name x p) X.env) = eval (.Name x p) X.env := by rfl)
    (hfew : ((backTo pos (starEach (a :: [b]) X.env)).all (fun x => !x.1) && (backToKw pos (keywordEach [] X.env)).all (fun x => x.1.isSome) && decide ((a :: [b]).length + ([] : List Keyword).length + (if ([] : List Keyword).isEmpty then 0 else 1) < 30)) = true := by rfl)
    (hline : (apos.endLine == pos.line) = true := by rfl) (hs : starEach (a :: [b]) X.env = (false, eval a X.env) :: starEach [b] X.env := by rfl) (hs2 : starEach (b :: []) X.env = (false, eval b X.env) :: starEach [] X.env := by rfl) (hpl : (backTo pos (starEach [b] X.env)).any (·.1) = false := by rfl) :
    JE X C false Γ (.Call (.Attribute (.Name x p) "insert" apos) [a, b] [] pos) M k :=
  JE.bmN (T := "list") PySem.F.slot_list_insert PySem.F.type_list_insert mt_insert hΓ la (JA.cons (pt := false) (h.mono fun o Γ1 M1 ⟨j, e1, h2⟩ => ⟨.inl ⟨_, e1⟩, fun z => z, JA.one (h2.mono fun o' Γ2 M2 ⟨s1, l1, mk1, s2, M3, e2, hi, la1, hM, hk⟩ p' vs F h1 h2 g H σ Q ow he d hf hG sz hu eσ hq => by
    subst e1 e2
    obtain ⟨eM, c0, c1, hl⟩ := hM hu
    subst eM
    obtain ⟨v1, v2, ha, hb, ev, t1, t2, d12, w1, w2⟩ := ow.two
    obtain rfl := w1.intV
    obtain ⟨q, us, h', e3, hH, wl, sh, dh, put⟩ := lst_upd he hi la1 (d.mono t2 .refl) (hf.sub (Sub.cup2 t2 .refl d)) hG
    rw [eσ] at e3
    cases e3
    have len := ownL_len wl
    obtain ⟨h3, E3, d3, f3⟩ := put (l1.take j.toNat ++ [s2] ++ l1.drop j.toNat) (us.take j.toNat ++ [v2] ++ us.drop j.toNat) (cup hb h') emp (ownL_mid j.toNat wl w2 dh.symm) .refl .emp .emp
    exact ⟨p', us, j, v2, rfl, ev, hH, by rw [len]; exact Nat.lt_of_lt_of_le hl (by decide), c0, by omega, hq _ _ M2 hk rfl .non F emp h3 _ .refl (by unfold OpdOk own; exact .non) E3 .emp f3 fun z => nomatch z⟩) hs2⟩) hs) hN hv hd hcd hbase hfew hline hs hpl
end
end Tsa

/-! M19: sum, any, all; membership; slices. -/
namespace Tsa
open PySem PySem.Spec PyProof.Rows L2
section
variable {K : PySem.W.Frag} {X : Cx} {C : XC} {pu pt : Bool} {ω : Type} {Γ : List SD} {e a b tg ie : Expr} {es : List Expr} {M : Res ω} {pos p pn apos : Pos} {k : Opd → List SD → Res ω → Prop}
end
end Tsa

/-! M20: slices. -/
namespace Tsa
open PySem PySem.Spec PyProof.Rows L2
def cutG {α : Type} (ys : List α) (lo hi : Option Int) : List α := (ys.drop (HT.sIx ys.length 0 lo)).take (HT.sIx ys.length ys.length hi - HT.sIx ys.length 0 lo)
theorem cut_map {α β : Type} {f : α → β} {xs : List α} {lo hi : Option Int} : cutG (xs.map f) lo hi = (cutG xs lo hi).map f := by
  unfold cutG
  rw [List.length_map, List.map_take, List.map_drop]
/-- a slice's part: left out, or a plain number -/
inductive PartV (X : Cx) (C : XC) (Γ : List SD) : Option Expr → Option Int → Prop
  | no : PartV X C Γ none none
  | at {e : Expr} {i : Int} (h : JVt X C Γ e (.own (.val (.int i)))) : PartV X C Γ (some e) (some i)
section
variable {K : PySem.W.Frag} {X : Cx} {C : XC} {pu pt : Bool} {ω : Type} {Γ : List SD} {e a b tg ie : Expr} {lo hi : Option Expr} {M : Res ω} {pos p2 : Pos} {k : Opd → List SD → Res ω → Prop}
def partT (X : Cx) : Option Expr → TO
  | none => tNoPart
  | some e => tPart (semE X e)
theorem po_part : ∀ {o : Option Expr}, PO X o (partT X o)
  | none => po_none
  | some _ => po_some pe_sem
theorem PartV.run {o : Option Expr} {i : Option Int} (q : PartV X C Γ o i) {F h g H : Hp} {σ : L2.St} {R : Option Int → Hp → Prop} (he : EnvR X.K F C.G Γ h σ) (hf : Fits F h g H) (hG : Sub C.G g)
    (hR : ∀ (F' h' H' : Hp), Sub F F' → EnvR X.K F' C.G Γ h' σ → Fits F' h' g H' → Sub h h' → R i H') : partT X o σ H R := by
  cases q with
  | no => exact hR F h H .refl he hf .refl
  | «at» q =>
    refine q F h g H σ _ he hf hG (by intro z; cases z) (fun e z => nomatch z) fun o Γ1 M1 ⟨e1, e2⟩ hm v F1 h1 h2 H1 x w he1 d hf1 hp => ?_
    subst e1 e2
    exact ⟨_, w.intV, hR F1 h2 H1 x he1 (hf1.un d) (hp rfl).1⟩
theorem cut_last {F G : Hp} {ys : List SD} {vs : List V} {i j : Option Int} (l : vs.length = ys.length) (it : ∀ (n : Nat) (s : SD), ys[n]? = some s → ∃ x, vs[n]? = some x ∧ own K F G s emp x) {h : Hp} : ownL K F G (cutG ys i j) h (cutV vs i j) := by
  have e : cutV vs i j = cutG vs i j := rfl
  rw [e]
  refine ownL_last (by unfold cutG; rw [l, List.length_take, List.length_take, List.length_drop, List.length_drop, l]) fun n s hs => ?_
  unfold cutG at hs ⊢
  rw [l]
  rw [List.getElem?_take] at hs ⊢
  split at hs
  · rename_i c
    rw [if_pos c]
    rw [List.getElem?_drop] at hs ⊢
    exact it _ _ hs
  · cases hs
/-- xs[i:j] of a list -/
theorem JE.sliceL (h : JE X C pu Γ a M fun oa Γ1 M1 => ((∃ s, oa = .own s) ∨ (∃ i, oa = .at i)) ∧ ∃ ys i j, SeqV Γ1 oa false ys ∧ PartV X C Γ1 lo i ∧ PartV X C Γ1 hi j ∧ k (.own (.lst (cutG ys i j))) Γ1 M1) : JE X C pu Γ (.Subscript a (.Slice lo hi none p2) pos) M k :=
  JE.of (pe_slice sl_list pe_sem po_part po_part) fun F h0 g H σ Q he hf hG hu hx hq => h F h0 g H σ _ he hf hG hu hx fun oa Γ1 M1 ⟨ho, ys, i, j, sv, p1, p2, hk⟩ hm v F1 h1 h2 H1 x ow he1 d hf1 hp => by
    subst hm
    have dg : Dis h1 g := hf1.hg.mono .l .refl
    have G1 : Sub C.G (cup h1 g) := hG.trans (.r dg)
    refine p1.run he1 (hf1.out d) G1 fun F2 h3 H2 x2 he2 hf2 b2 => p2.run he2 hf2 G1 fun F3 h4 H3 x3 he3 hf3 b3 => ?_
    have f4 := hf3.inn dg
    have dd := hf3.dis
    have fg := f4.G hG
    have ow3 : OpdOk X.K F3 C.G h1 h4 σ oa v := ow.mono (x2.trans x3) fg (by
      exact (Dis.cup fg.symm (f4.fh.mono .refl (.r dd)).symm).symm) ((f4.hg.mono (.r dd) hG).symm) (by
        rcases ho with z | z
        · exact .inl z
        · exact .inr (.inl z))
    obtain ⟨p, vs, e, l, z, it⟩ := sv.ok ow3 he3 dd f4 hG
    refine ⟨p, vs, e, z, fun q hn => ?_⟩
    have n := f4.no hn
    have n1 : h1 q = none := Sub.l.no n.2.1
    refine Kt.new (Γ := Γ1) (F := F3) (fun o Γ' M' hk hm v F2' k1 k2 H2' y a2 a3 a4 a5 a6 => hq o Γ' M' hk hm v F2' k1 k2 H2' (x.trans ((x2.trans x3).trans y)) a2 a3 a4 a5 fun z => ⟨((hp z).1.trans (b2.trans b3)).trans (a6 z).1, (a6 z).2.trans (hp z).2⟩) hk he3 dd f4 hn ?_
    unfold own
    exact ⟨q, _, h1, rfl, cup_some one_same, .r (Dis.one n1), n1, cut_last l it⟩
theorem cut_whole {α : Type} {ys : List α} {i j : Option Int} (h : HT.sIx ys.length 0 i = 0 ∧ HT.sIx ys.length ys.length j = ys.length) : cutG ys i j = ys := by
  unfold cutG
  rw [h.1, h.2, List.drop_zero, Nat.sub_zero, List.take_length]
theorem DtL.cut {S : Hp} {vs : List V} {ds : List PyData} {i j : Option Int} (h : DtL K S vs ds) : DtL K S (cutV vs i j) (cutG ds i j) := by
  have e : cutV vs i j = cutG vs i j := rfl
  rw [e]
  unfold cutG
  rw [h.len]
  exact (h.drop _).take _
/-- t[i:j] of a locked tuple -/
theorem JE.sliceT (h : JE X C pu Γ a M fun oa Γ1 M1 => ∃ ds i j, oa = .own (.val (.tuple ds)) ∧ PartV X C Γ1 lo i ∧ PartV X C Γ1 hi j ∧ k (.own (.val (.tuple (cutG ds i j)))) Γ1 M1) : JE X C pu Γ (.Subscript a (.Slice lo hi none p2) pos) M k :=
  JE.of (pe_slice sl_tupA pe_sem po_part po_part) fun F h0 g H σ Q he hf hG hu hx hq => h F h0 g H σ _ he hf hG hu hx fun oa Γ1 M1 ⟨ds, i, j, e1, p1, p2, hk⟩ hm v F1 h1 h2 H1 x ow he1 d hf1 hp => by
    subst hm e1
    refine p1.run he1 (hf1.un d) hG fun F2 h3 H2 x2 he2 hf2 b2 => p2.run he2 hf2 hG fun F3 h4 H3 x3 he3 hf3 b3 => ?_
    unfold OpdOk own at ow
    have ow3 := ow.mono (x2.trans x3)
    obtain ⟨p, vs, e, z, dl⟩ := ow3.tupV
    subst e
    have len := dl.len
    have bk : pu = true → Sub h0 h4 ∧ Γ1 = Γ := fun z => ⟨((hp z).1.trans (b2.trans b3)), (hp z).2⟩
    refine ⟨p, vs, rfl, SqT.mono hf3.fH z, fun wh => ?_, fun _ q hn => ?_⟩
    · rw [len] at wh
      rw [cut_whole wh] at hk
      exact hq _ _ M1 hk rfl _ F3 emp h4 H3 (x.trans (x2.trans x3)) ow3 he3 .emp hf3.emp bk
    · have n := hf3.no hn
      have f4 := hf3.new (o := .tup (cutV vs i j)) hn
      have dq : Dis (sgl q (HO.tup (cutV vs i j))) h4 := Dis.one n.2.1
      have f5 := f4.freeze dq
      have dF : Dis F3 (sgl q (HO.tup (cutV vs i j))) := f4.fh.mono .refl .l
      refine hq _ _ M1 hk rfl (.ref q) _ emp h4 _ ((x.trans (x2.trans x3)).trans .l) ?_ (he3.mono .l (f5.G hG) .refl) .emp f5.emp bk
      unfold OpdOk own
      exact .tup (.of (Sub.r dF _ _ one_same)) ((DtL.cut dl).mono .l)
end
end Tsa

/-! M21: sorted numbers. -/
namespace Tsa
open PySem PySem.Spec PyProof.Rows L2
def sortI (ns : List Int) : List Int := ns.mergeSort fun a b => decide (a ≤ b)
section
variable {K : PySem.W.Frag} {X : Cx} {C : XC} {pu : Bool} {ω : Type} {Γ : List SD} {e : Expr} {M : Res ω} {pos pn : Pos} {k : Opd → List SD → Res ω → Prop}
end
end Tsa

/-! M22: membership in a tuple. -/
namespace Tsa
open PySem PySem.Spec PyProof.Rows L2
def rInW (K : PySem.W.Frag) : R2 := fun x y H Q => ∃ d es, Dp K H x d ∧ Dp K H y (.tuple es) ∧ SeqAt.shaped d = true ∧ SeqAt.shaped (.tuple es) = true ∧ Q (.bl (es.any fun z => PyData.eqv z d)) H
def rOutW (K : PySem.W.Frag) : R2 := fun x y H Q => ∃ d es, Dp K H x d ∧ Dp K H y (.tuple es) ∧ SeqAt.shaped d = true ∧ SeqAt.shaped (.tuple es) = true ∧ Q (.bl (!es.any fun z => PyData.eqv z d)) H
section
variable {X : Cx} {C : XC} {pu : Bool} {ω : Type} {Γ : List SD} {a b : Expr} {M : Res ω} {k : Opd → List SD → Res ω → Prop}
end
end Tsa

/-! M23: xs.pop(i). -/
namespace Tsa
open PySem PySem.Spec PyProof.Rows L2
def popR {α : Type} (xs : List α) (j : Int) : Res (α × List α) := match ixN xs.length j with
  | some n => (match xs[n]? with
    | some x => .ok (x, xs.eraseIdx n)
    | none => .un)
  | none => .un
section
variable {K : PySem.W.Frag} {X : Cx} {C : XC} {ω : Type} {Γ : List SD} {a : Expr} {M : Res ω} {pos p apos : Pos} {k : Opd → List SD → Res ω → Prop}
end
end Tsa

/-! M24: list(range(n)). -/
namespace Tsa
open PySem PySem.Spec PyProof.Rows L2
section
variable {K : PySem.W.Frag} {X : Cx} {C : XC} {pu : Bool} {ω : Type} {Γ : List SD} {a : Expr} {M : Res ω} {pos p pn q2 : Pos} {k : Opd → List SD → Res ω → Prop}
end
end Tsa

/-! M25: xs.count(i) of numbers. -/
namespace Tsa
open PySem PySem.Spec PyProof.Rows L2
section
variable {K : PySem.W.Frag} {X : Cx} {C : XC} {pu : Bool} {ω : Type} {Γ : List SD} {a o : Expr} {M : Res ω} {pos apos : Pos} {k : Opd → List SD → Res ω → Prop}
end
end Tsa

/-! N0: typed data, likeness of it, joined lists. -/
namespace Tsa
open PySem PySem.Spec PyProof.Rows L2

/-! ### encodings -/
structure EncOk {α : Type} [DecidableEq α] (e : α → PyData) (n : Nat) : Prop where
  lay : ∀ x, (e x).canLay0 = true
  dep : ∀ x, (e x).depth ≤ n
  eqv : ∀ x y, PyData.eqv (e x) (e y) = decide (x = y)
theorem EncOk.shaped {α : Type} [DecidableEq α] {e : α → PyData} {n : Nat} (h : EncOk e n) (hn : n ≤ 64) (x : α) : SeqAt.shaped (e x) = true := by
  unfold SeqAt.shaped
  rw [h.lay, decide_eq_true (Nat.le_trans (h.dep x) hn)]; rfl
theorem eokI : EncOk PyData.int 0 := ⟨fun _ => rfl, fun _ => Nat.le_refl _, fun x y => by
  show (x == y) = _
  rw [Bool.eq_iff_iff]; simp⟩
/-- None, or a thing -/
def encO {α : Type} (e : α → PyData) : Option α → PyData
  | none => .none
  | some x => e x
section
variable {α β γ δ : Type} [DecidableEq α] [DecidableEq β] [DecidableEq γ] [DecidableEq δ] {e : α → PyData} {f : β → PyData} {g : γ → PyData} {g4 : δ → PyData} {n m l j : Nat}
theorem eokAll (h : EncOk e n) : ∀ xs : List α, PyData.canLayAll0 (xs.map e) = true ∧ PyData.depthAll (xs.map e) ≤ n
  | [] => ⟨rfl, Nat.zero_le _⟩
  | x :: xs => by
    obtain ⟨h1, h2⟩ := eokAll h xs
    refine ⟨?_, ?_⟩
    · show (PyData.canLay0 (e x) && PyData.canLayAll0 (xs.map e)) = true
      rw [h.lay, h1]; rfl
    · show max (PyData.depth (e x)) (PyData.depthAll (xs.map e)) ≤ n
      exact Nat.max_le.mpr ⟨h.dep x, h2⟩
theorem eqvAll_map (h : EncOk e n) : ∀ xs ys : List α, PyData.eqvAll (xs.map e) (ys.map e) = decide (xs = ys)
  | [], [] => rfl
  | [], _ :: _ => by simp [PyData.eqvAll]
  | _ :: _, [] => by simp [PyData.eqvAll]
  | x :: xs, y :: ys => by
    show (PyData.eqv (e x) (e y) && PyData.eqvAll (xs.map e) (ys.map e)) = _
    rw [h.eqv, eqvAll_map h xs ys, Bool.eq_iff_iff]; simp
theorem eokL (h : EncOk e n) : EncOk (fun xs : List α => .list (xs.map e)) (n + 1) := by
  refine ⟨fun xs => (eokAll h xs).1, fun xs => Nat.succ_le_succ (eokAll h xs).2, fun xs ys => eqvAll_map h xs ys⟩
theorem eokW (h : EncOk e n) : EncOk (fun xs : List α => .tuple (xs.map e)) (n + 1) := by
  refine ⟨fun xs => (eokAll h xs).1, fun xs => Nat.succ_le_succ (eokAll h xs).2, fun xs ys => eqvAll_map h xs ys⟩
theorem eokT2 (h1 : EncOk e n) (h2 : EncOk f m) : EncOk (fun p : α × β => .tuple [e p.1, f p.2]) (max n m + 1) := by
  refine ⟨fun p => ?_, fun p => ?_, fun p q => ?_⟩
  · show ((e p.1).canLay0 && ((f p.2).canLay0 && true)) = true
    rw [h1.lay, h2.lay]; rfl
  · show max (e p.1).depth (max (f p.2).depth 0) + 1 ≤ _
    have := h1.dep p.1; have := h2.dep p.2; omega
  · show (PyData.eqv (e p.1) (e q.1) && (PyData.eqv (f p.2) (f q.2) && true)) = _
    rw [h1.eqv, h2.eqv]; obtain ⟨a1, a2⟩ := p; obtain ⟨b1, b2⟩ := q; rw [Bool.eq_iff_iff]; simp only [Bool.and_eq_true, decide_eq_true_eq, Prod.mk.injEq, and_true]
end

section
variable {K : PySem.W.Frag} {X : Cx} {C : XC} {pu pt : Bool} {ω α : Type} {Γ : List SD} {a b : Expr} {es : List Expr} {M : Res ω} {pos p pn : Pos} {k : Opd → List SD → Res ω → Prop}
theorem JE.neg (h : JI X C pu Γ a M fun i Γ1 M1 => k (.own (.val (.int (-i)))) Γ1 M1) : JE X C pu Γ (.UnaryOp .USub a pos) M k :=
  JE.of (pe_un un_neg pe_sem) fun F h0 g H σ Q he hf hG hu hx hq => h F h0 g H σ _ he hf hG hu hx fun o Γ' M' ⟨i, e1, hk⟩ hm v F' h1 h2 H' a1 a2 a3 a4 a5 a6 => by
    subst e1
    unfold OpdOk own at a2
    exact ⟨i, a2.intV, hq _ Γ' M' hk hm _ F' emp h2 H' a1 (by unfold OpdOk own; exact .int _) a3 .emp (a5.un a4).emp a6⟩
theorem op_eqI : OpR X (compareOp .Eq) (rI0 fun i j => .bl (decide (i = j))) := fun pins s σ H x y v u Q I rx ry ⟨i, j, e1, e2, q⟩ => by
  subst e1 e2
  exact op_eq pins s σ H _ _ v u Q I rx ry ⟨rfl, by
    rw [dec_int, show (i == j) = decide (i = j) by rw [Bool.eq_iff_iff]; simp]; exact q⟩
theorem op_neI : OpR X (compareOp .NotEq) (rI0 fun i j => .bl (!decide (i = j))) := fun pins s σ H x y v u Q I rx ry ⟨i, j, e1, e2, q⟩ => by
  subst e1 e2
  exact op_ne pins s σ H _ _ v u Q I rx ry ⟨rfl, by
    rw [dec_int, show (i == j) = decide (i = j) by rw [Bool.eq_iff_iff]; simp]; exact q⟩
theorem Cmp.eqI (h : JI X C pu Γ a M fun i Γ1 M1 => JI X C pu Γ1 b M1 fun j Γ2 M2 => k (.own (.val (.bool (decide (i = j))))) Γ2 M2) : Cmp X C pu Γ .Eq a b M k := Cmp.int op_eqI (nomark _) h
theorem Cmp.neI (h : JI X C pu Γ a M fun i Γ1 M1 => JI X C pu Γ1 b M1 fun j Γ2 M2 => k (.own (.val (.bool (!decide (i = j))))) Γ2 M2) : Cmp X C pu Γ .NotEq a b M k := Cmp.int op_neI (nomark _) h
/-- data of one encoding, alike -/
def EqT [DecidableEq α] (e : α → PyData) (X : Cx) (C : XC) (pu : Bool) {ω : Type} (Γ : List SD) (a b : Expr) (M : Res ω) (k : α → α → List SD → Res ω → Prop) : Prop :=
  JE X C pu Γ a M fun oa Γ1 M1 => ((∃ s, oa = .own s) ∨ (∃ i, oa = .at i)) ∧ JE X C pu Γ1 b M1 fun ob Γ2 M2 => ∃ x y, SeeO Γ2 oa (e x) ∧ SeeO Γ2 ob (e y) ∧ k x y Γ2 M2
theorem EqT.eqIn [DecidableEq α] {e : α → PyData} {n : Nat} (he : EncOk e n) (hn : n ≤ 64) {k : α → α → List SD → Res ω → Prop} {k' : PyData → PyData → List SD → Res ω → Prop} (h : EqT e X C pu Γ a b M k) (hk : ∀ x y Γ M, k x y Γ M → k' (e x) (e y) Γ M) : EqIn X C pu Γ a b M k' :=
  h.mono fun oa Γ1 M1 ⟨ho, h2⟩ => ⟨ho, h2.mono fun ob Γ2 M2 ⟨x, y, s1, s2, z⟩ => ⟨e x, e y, M2, s1, s2, fun _ => ⟨rfl, he.shaped hn x, he.shaped hn y⟩, hk _ _ _ _ z⟩⟩
theorem Cmp.neT [DecidableEq α] {e : α → PyData} {n j : Nat} (he : EncOk e n) (hn : n ≤ 64) (hr : RoomG j X.A) (h : EqT e X C pu Γ a b M fun x y Γ2 M2 => k (.own (.val (.bool (!decide (x = y))))) Γ2 M2) : Cmp X C pu Γ .NotEq a b M k :=
  Cmp.ne hr.lines64 (h.eqIn he hn fun x y Γ M z => by rw [he.eqv]; exact z)
end
end Tsa

/-! N1: typed sequences; slots locked; two names at once; names for values. -/
namespace Tsa
open PySem PySem.Spec PyProof.Rows L2
section
variable {Γ : List SD} {α : Type} {xs : List α} {e : α → PyData} {i : Nat} {v : V}
theorem mm {f : PyData → SD} : (xs.map e).map f = xs.map fun x => f (e x) := by rw [List.map_map]; rfl
theorem soL : SeqOf (.val (.list (xs.map e))) false (xs.map fun x => .val (e x)) := by rw [← mm]; exact .lst
theorem soW : SeqOf (.val (.tuple (xs.map e))) true (xs.map fun x => .val (e x)) := by rw [← mm]; exact .tup
theorem soM : SeqOf (.lst (xs.map fun x => .val (e x))) false (xs.map fun x => .val (e x)) := by rw [← mm]; exact .mine
end
section
variable {K : PySem.W.Frag} {X : Cx} {C : XC} {pu pt : Bool} {ω β α : Type} {Γ : List SD} {a b e : Expr} {es : List Expr} {sts : List Stmt} {M : Res ω} {pos p pn : Pos} {t : TS} {te : TE} {k : Opd → List SD → Res ω → Prop} {kl : List SD → Res ω → Prop} {en : ω → EndK}
/-- a slot's thing is locked -/
theorem frz_env {F G h g H : Hp} {σ : L2.St} {i : Nat} {s : SD} {d : PyData} (he : EnvR K F G Γ h σ) (hf : Fits F h g H) (hG : Sub G g) (hi : Γ[i]? = some s) (fz : Fz s d) : ∃ F' h', Sub F F' ∧ Sub h' h ∧ EnvR K F' G (Γ.set i (.val d)) h' σ ∧ Fits F' h' g H := by
  obtain ⟨o, h1, h2, eo, s1, s2, d12, ow, put⟩ := he.at hi
  have ne : s ≠ .hole := by intro z; subst z; cases fz
  obtain ⟨v, e1, ow'⟩ := ow.val ne
  subst e1
  have f1 : Fits F (cup h1 h2) g H := hf.sub (Sub.cup s1 s2)
  have f2 := f1.freeze d12
  refine ⟨cup F h1, h2, .l, s2, ?_, f2⟩
  have w : Dt K (cup F h1) v d := fz.ok .l (.r (f1.fh.mono .refl .l)) ow'
  have z := put (cup F h1) (.val d) (some v) emp h2 .l (f2.fg.mono .refl hG) ⟨v, rfl, by unfold own; exact w⟩ .emp .emp .refl
  have es : σ.set i (some v) = σ := by
    apply List.ext_getElem?
    intro j
    by_cases c : i = j
    · subst c
      rw [List.getElem?_set_self (List.getElem?_eq_some_iff.mp eo).1, eo]
    · rw [List.getElem?_set_ne c]
  rw [es] at z
  exact z
theorem JST.frz {i : Nat} {s : SD} {d : PyData} (hi : Γ[i]? = some s) (fz : Fz s d) (h : JST K C (Γ.set i (.val d)) t M kl en) : JST K C Γ t M kl en := fun F h0 g H σ D he hf hG hu hx q hn => by
  obtain ⟨F', h', x, sh, he', hf'⟩ := frz_env he hf hG hi fz
  exact h F' h' g H σ D he' hf' hG hu (hx.mono x) (fun Γ' M' z hm F2 h2 σ2 H2 x2 => q Γ' M' z hm F2 h2 σ2 H2 (x.trans x2)) fun w hw => (hn w hw).mono x
theorem JL.frz {i : Nat} {s : SD} {d : PyData} (hi : Γ[i]? = some s) (fz : Fz s d) (h : JL X C (Γ.set i (.val d)) sts M kl en) : JL X C Γ sts M kl en := JST.frz hi fz h
/-- a value is given a name in the mirror -/
def bindv {α β : Type} (a : α) (f : α → Res β) : Res β := f a
theorem nex_bindv {α β : Type} {a : α} {f : α → Res β} (h : ∀ x e, f x ≠ .ex e) : ∀ e, bindv a f ≠ .ex e := h a
theorem JL.letv {α : Type} {Γf : α → List SD} {kM : α → Res ω} (x : α) (h : ∀ x, JL X C (Γf x) sts (kM x) kl en) : JL X C (Γf x) sts (bindv x kM) kl en := h x
end
end Tsa

/-! N2: typed lists: written, joined, cut; comprehensions without effects. -/
namespace Tsa
open PySem PySem.Spec PyProof.Rows L2
section
variable {K : PySem.W.Frag} {X : Cx} {C : XC} {pu pt : Bool} {ω α : Type} {Γ : List SD} {e a b c tg iter elt : Expr} {es : List Expr} {M : Res ω} {pos p pn p2 apos : Pos} {k : Opd → List SD → Res ω → Prop}
theorem JE.appendT {f : α → SD} {i : Nat} {s : SD} {l : List SD} {mk : List SD → SD} {x : Str} (hΓ : Γ[i]? = some s) (la : LstAt s l mk) (h : JE X C false Γ e M fun o Γ1 M1 => ∃ (s1 : SD) (mk1 : List SD → SD) (xs : List α) (y : α) (M2 : Res ω), o = .own (f y) ∧ Γ1[i]? = some s1 ∧ LstAt s1 (xs.map f) mk1 ∧ (M1 ≠ .un → M1 = M2 ∧ xs.length < 16000000) ∧ k (.own (.val .none)) (Γ1.set i (mk1 ((xs ++ [y]).map f))) M2)
    (hN : X.N[i]? = some x := by rfl) (hv : Vis X.env.scope x := by first | exact Or.inl rfl | exact Or.inr (Or.inl rfl) | exact Or.inr (Or.inr rfl)) (hd : (x == ("__debug__" : Str)) = false := by decide) (hcd : (x == ("__classdict__" : Str)) = false := by decide)
    (hbase : attributeBase (.Name x p) "append" X.env (eval (.Name x p) X.env) = eval (.Name x p) X.env := by rfl)
    (hfew : ((backTo pos (starEach (e :: []) X.env)).all (fun x => !x.1) && (backToKw pos (keywordEach [] X.env)).all (fun x => x.1.isSome) && decide ((e :: []).length + ([] : List Keyword).length + (if ([] : List Keyword).isEmpty then 0 else 1) < 30)) = true := by rfl)
    (hline : (apos.endLine == pos.line) = true := by rfl) (hs : starEach (e :: []) X.env = (false, eval e X.env) :: starEach [] X.env := by rfl) (hpl : (backTo pos (starEach [] X.env)).any (·.1) = false := by rfl) :
    JE X C false Γ (.Call (.Attribute (.Name x p) "append" apos) [e] [] pos) M k :=
  JE.append hΓ la (h.mono fun o Γ1 M1 ⟨s1, mk1, xs, y, M2, e1, hi, la1, hM, hk⟩ => ⟨s1, _, mk1, f y, M2, e1, hi, la1, fun z => by rw [List.length_map]; exact hM z, by rw [List.map_append] at hk; exact hk⟩) hN hv hd hcd hbase hfew hline hs hpl
theorem JE.insertT {f : α → SD} {i : Nat} {s : SD} {l : List SD} {mk : List SD → SD} {x : Str} (hΓ : Γ[i]? = some s) (la : LstAt s l mk)
    (h : JI X C false Γ a M fun j Γ1 M1 => JE X C false Γ1 b M1 fun o Γ2 M2 => ∃ (s1 : SD) (mk1 : List SD → SD) (xs : List α) (y : α) (M3 : Res ω), o = .own (f y) ∧ Γ2[i]? = some s1 ∧ LstAt s1 (xs.map f) mk1 ∧ (M2 ≠ .un → M2 = M3 ∧ (0 ≤ j ∧ j < 2 ^ 62 ∧ xs.length < 16000000)) ∧ k (.own (.val .none)) (Γ2.set i (mk1 ((xs.take j.toNat ++ [y] ++ xs.drop j.toNat).map f))) M3)
    (hN : X.N[i]? = some x := by rfl) (hv : Vis X.env.scope x := by first | exact Or.inl rfl | exact Or.inr (Or.inl rfl) | exact Or.inr (Or.inr rfl)) (hd : (x == ("__debug__" : Str)) = false := by decide) (hcd : (x == ("__classdict__" : Str)) = false := by decide)
    (hbase : attributeBase (.Name x p) "insert" X.env (eval (.Name x p) X.env) = eval (.Name x p) X.env := by rfl)
    (hfew : ((backTo pos (starEach (a :: [b]) X.env)).all (fun x => !x.1) && (backToKw pos (keywordEach [] X.env)).all (fun x => x.1.isSome) && decide ((a :: [b]).length + ([] : List Keyword).length + (if ([] : List Keyword).isEmpty then 0 else 1) < 30)) = true := by rfl)
    (hline : (apos.endLine == pos.line) = true := by rfl) (hs : starEach (a :: [b]) X.env = (false, eval a X.env) :: starEach [b] X.env := by rfl) (hs2 : starEach (b :: []) X.env = (false, eval b X.env) :: starEach [] X.env := by rfl) (hpl : (backTo pos (starEach [b] X.env)).any (·.1) = false := by rfl) :
    JE X C false Γ (.Call (.Attribute (.Name x p) "insert" apos) [a, b] [] pos) M k :=
  JE.insert hΓ la (h.mono fun o Γ1 M1 ⟨j, e1, h2⟩ => ⟨j, e1, h2.mono fun o' Γ2 M2 ⟨s1, mk1, xs, y, M3, e2, hi, la1, hM, hk⟩ => ⟨s1, _, mk1, f y, M3, e2, hi, la1, fun z => by rw [List.length_map]; exact hM z, by rw [List.map_append, List.map_append, List.map_take, List.map_drop] at hk; exact hk⟩⟩) hN hv hd hcd hbase hfew hline hs hs2 hpl
/-! ### xs + ys -/
def rCatL (K : PySem.W.Frag) : R2 := fun x y H Q => ∃ l b xs zs, x = .ref l ∧ y = .ref b ∧ SqL K H l xs ∧ SqL K H b zs ∧ xs.length + zs.length ≤ sizeLine ∧ ∀ p, H p = none → Q (.ref p) (upd H p (.lst (xs ++ zs)))
theorem op_catL : OpR X (binaryOp .Add) (rCatL X.K) := by
  intro pins s σ H x y v u Q I rx ry h
  obtain ⟨l, b, xs, zs, rfl, rfl, hH, hB, hz, q⟩ := h
  cases rx
  cases ry
  obtain ⟨its, r, pl, _⟩ := I.list hH
  obtain ⟨its2, r2, pl2, _⟩ := I.list hB
  obtain ⟨⟨cls, dd, data, sl⟩, ho, hc, n, hd⟩ := pl.isList
  obtain ⟨⟨cls2, dd2, data2, sl2⟩, ho2, hc2, n2, hd2⟩ := pl2.isList
  simp only at hc hd hc2 hd2
  subst hc hd hc2 hd2
  have e : its.toArray ++ its2.toArray = (its ++ its2).toArray := by simp
  have l1 := r.length
  have l2 := r2.length
  refine concat_meets ⟨_, ho, rfl⟩ ⟨_, ho2, rfl⟩ noFill_list_add seq_list_add PySem.F.slot_list_add PySem.F.entry_list_add (PySem.F.args_list_add_2 _ _) (list_addW l b its.toArray its2.toArray n n2 dd dd2 sl sl2 (by rw [List.size_toArray, List.size_toArray]; omega)) ⟨ho, ho2, ?_⟩
  rw [e]
  exact ⟨.ref _, _, I.lnew (t' := s.toks) (r.append r2) (by rw [List.length_append]; omega), rfl, q _ I.fresh⟩
theorem items_last {f : α → SD} {F G : Hp} {xs : List α} {vs : List V} (l : vs.length = (xs.map f).length) (it : ∀ (i : Nat) (s : SD), (xs.map f)[i]? = some s → ∃ x, vs[i]? = some x ∧ own K F G s emp x) {h : Hp} : ownL K F G (xs.map f) h vs := ownL_last l it
theorem ownL_app2 {F G : Hp} : ∀ {as bs : List SD} {h1 h2 h : Hp} {vs us : List V}, ownL K F G as h1 vs → ownL K F G bs h2 us → Dis h1 h2 → Sub h1 h → Sub h2 h → ownL K F G (as ++ bs) h (vs ++ us)
  | [], _, _, _, _, _, _, a, b, _, _, s2 => by
    unfold ownL at a
    subst a
    exact ownL_mono .refl .refl _ s2 b
  | s :: as, bs, h1, h2, h, vs, us, a, b, d, s1, s2 => by
    unfold ownL at a
    obtain ⟨v, vr, k1, k2, e, t1, t2, dk, w, a⟩ := a
    subst e
    show ownL K F G (s :: (as ++ bs)) h (v :: (vr ++ us))
    unfold ownL
    exact ⟨v, _, k1, cup k2 h2, rfl, t1.trans s1, Sub.cup (t2.trans s1) s2, (Dis.cup dk.symm ((d.mono t1 .refl).symm)).symm, w, ownL_app2 a b (d.mono t2 .refl) .l (.r (d.mono t2 .refl))⟩
/-- two lists of lasting items, joined -/
theorem JE.catT {f : α → SD} (h : JE X C pu Γ a M fun oa Γ1 M1 => ((∃ s, oa = .own s) ∨ (∃ i, oa = .at i)) ∧ JE X C pu Γ1 b M1 fun ob Γ2 M2 => ∃ (xs ys : List α) (M3 : Res ω), SeqV Γ2 oa false (xs.map f) ∧ SeqV Γ2 ob false (ys.map f) ∧ (M2 ≠ .un → M2 = M3 ∧ xs.length + ys.length ≤ 16000000) ∧ k (.own (.lst ((xs ++ ys).map f))) Γ2 M3) :
    JE X C pu Γ (.BinOp a .Add b pos) M k :=
  JE.of (pe_op op_catL pe_sem pe_sem) (JT.two2 (pt := pu) (Z := fun oa ob Γ2 M2 => ∃ (xs ys : List α) (M3 : Res ω), SeqV Γ2 oa false (xs.map f) ∧ SeqV Γ2 ob false (ys.map f) ∧ (M2 ≠ .un → M2 = M3 ∧ xs.length + ys.length ≤ 16000000) ∧ k (.own (.lst ((xs ++ ys).map f))) Γ2 M3) (h.mono fun oa Γ1 M1 ⟨h1, h2⟩ => ⟨h1.imp id .inl, fun z => z, h2⟩) (by
    rintro oa ob Γ2 ⟨xs, ys, M3, sa, sb, hM, hk⟩ F h1 h0 h2 g H σ va vb Q ow he d hf hG hp hu hx hq
    obtain ⟨eM, hz⟩ := hM hu
    subst eM
    obtain ⟨v1, v2, ha, hb, ev, t1, t2, d12, w1, w2⟩ := ow.two
    cases ev
    obtain ⟨pa, us, ea, la, za, ia⟩ := sa.ok w1 he (d.mono t1 .refl) (hf.sub (Sub.cup2 t1 .refl d)) hG
    obtain ⟨pb, ws, eb, lb, zb, ib⟩ := sb.ok w2 he (d.mono t2 .refl) (hf.sub (Sub.cup2 t2 .refl d)) hG
    have n1 : us.length = xs.length := by rw [la, List.length_map]
    have n2 : ws.length = ys.length := by rw [lb, List.length_map]
    refine ⟨pa, pb, us, ws, ea, eb, za, zb, by rw [sizeLine_eq]; omega, fun q hn => ?_⟩
    have nn := hf.no hn
    have m1 : h1 q = none := Sub.l.no nn.2.1
    have W : ownL X.K F C.G ((xs ++ ys).map f) emp (us ++ ws) := by
      rw [List.map_append]
      exact ownL_app2 (h1 := emp) (h2 := emp) (items_last la ia) (items_last lb ib) .emp .emp .emp
    exact Kt.new (Γ := Γ2) (F := F) (fun o Γ' M' hk hm v F2 k1 k2 H2 x2 a2 a3 a4 a5 a6 => hq o Γ' M' hk hm v F2 k1 k2 H2 x2 a2 a3 a4 a5 fun z => ⟨(hp z).1.trans (a6 z).1, (a6 z).2.trans (hp z).2⟩) hk he d hf hn (by
      unfold own
      exact ⟨q, _, emp, rfl, cup_some one_same, .emp, rfl, W⟩)))
/-- xs[i:j] of a list of lasting items -/
theorem JE.sliceLT {f : α → SD} {lo hi : Option Expr} (h : JE X C pu Γ a M fun oa Γ1 M1 => ((∃ s, oa = .own s) ∨ (∃ i, oa = .at i)) ∧ ∃ (xs : List α) (i j : Option Int), SeqV Γ1 oa false (xs.map f) ∧ PartV X C Γ1 lo i ∧ PartV X C Γ1 hi j ∧ k (.own (.lst ((cutG xs i j).map f))) Γ1 M1) :
    JE X C pu Γ (.Subscript a (.Slice lo hi none p2) pos) M k :=
  JE.sliceL (h.mono fun oa Γ1 M1 ⟨ho, xs, i, j, sv, p1, p2, hk⟩ => ⟨ho, _, i, j, sv, p1, p2, by rw [cut_map]; exact hk⟩)
/-- t[i:j] of a locked tuple of one kind -/
theorem JE.sliceWT {e : α → PyData} {lo hi : Option Expr} (h : JE X C pu Γ a M fun oa Γ1 M1 => ∃ (xs : List α) (i j : Option Int), oa = .own (.val (.tuple (xs.map e))) ∧ PartV X C Γ1 lo i ∧ PartV X C Γ1 hi j ∧ k (.own (.val (.tuple ((cutG xs i j).map e)))) Γ1 M1) :
    JE X C pu Γ (.Subscript a (.Slice lo hi none p2) pos) M k :=
  JE.sliceT (h.mono fun oa Γ1 M1 ⟨xs, i, j, ho, p1, p2, hk⟩ => ⟨_, i, j, ho, p1, p2, by rw [cut_map]; exact hk⟩)
/-! ### comprehensions without effects -/
theorem compL_pure {α β : Type} {g : α → β} {f : α → Unit → Res (Option β × Unit)} : ∀ l : List α, (∀ x, f x () = .ok (some (g x), ())) → compL f l () = .ok (l.map g, ())
  | [], _ => rfl
  | x :: l, h => by
    rw [compL_cons, h x]
    show (compL f l ()).bind (fun q => Res.ok (consO (some (g x)) q.1, q.2)) = _
    rw [compL_pure l h]; rfl
/-- [elt for tg in iter] -/
theorem JT.compP {scope : Scope} {own' : List (Str × Nat)} {β : Type} {sd : α → SD} {g : α → β} {se : β → SD} 
    (h : JSrc X C pu Γ tg iter M fun ys Γ1 M1 => ∃ (xs : List α), ys = xs.map sd ∧ PersL Γ1 Γ1 (own'.map (·.2)) ∧
      (∀ x, ∃ Γ2, Le (wipeG Γ2 (own'.map (·.2))) (wipeG Γ1 (own'.map (·.2))) ∧
        (Blk X scope fun X' => JG X' C (fun j => j ∈ own'.map (·.2)) (wipeG Γ1 (own'.map (·.2))) tg (sd x) fun Γ' => Γ' = Γ2) ∧
        Blk X scope fun X' => JVt X' (noE C) Γ2 elt (.own (se (g x)))) ∧
      k (.own (.lst ((xs.map g).map se))) Γ1 M1)
: JT X.K C pu Γ (lcTE X scope own' tg iter [] elt) M k :=
  JT.comp (fun F h0 g' H σ R he hf hG hu hx q => h F h0 g' H σ R he hf hG hu hx fun ys Γ1 M1 ⟨xs, e1, pl, hb, hk⟩ => q ys Γ1 M1 ⟨α, β, Unit, xs, sd, fun x _ => .ok (some (g x), ()), (), fun _ => Γ1, se, fun _ => M1, e1, by rw [compL_pure (g := g) xs fun _ => rfl]; rfl, Le.refl, fun _ => ⟨rfl, fun _ => rfl⟩, fun _ => pl, fun x t => by
      obtain ⟨Γ2, l2, jg, je⟩ := hb x
      exact ⟨Γ2, l2, jg, fun s H Ca cl fp => JE.tot (je s H Ca cl fp) ⟨g x, (), rfl, rfl, l2⟩⟩, fun r hr => by
      rw [compL_pure (g := g) xs fun _ => rfl] at hr
      cases hr
      exact hk⟩) (.inl rfl)
end
end Tsa

/-! N3: sorted data. -/
namespace Tsa
open PySem PySem.Spec PyProof.Rows L2
/-- the sorted list, by the order of data -/
def sortD {β : Type} (enc : β → PyData) (xs : List β) : List β := xs.mergeSort (PySem.W.dataLe false enc)
section
variable {β : Type}
/-- what data may be sorted -/
structure SrtOk (enc : β → PyData) : Prop where
  alike : ∀ b b', PySem.W.alike (enc b) (enc b') = true
  kind : ∀ bs : List β, PySem.W.Sortable (bs.map enc)
  dep : ∀ b, (enc b).depth ≤ 60
variable {X : Cx} {enc : β → PyData}
def rSortD (K : PySem.W.Frag) (enc : β → PyData) : List V → Hp → VK → Prop := fun xs H Q => ∃ (p : Addr) (ps : List (V × β)), xs = [.ref p] ∧ SqL K H p (ps.map (·.1)) ∧ DpAll K H (ps.map (·.1)) (ps.map fun q => enc q.2) ∧
  ∀ r, H r = none → Q (.ref r) (upd H r (.lst ((sortD (fun q : V × β => enc q.2) ps).map (·.1))))
end
section
variable {K : PySem.W.Frag} {X : Cx} {C : XC} {pu : Bool} {ω α : Type} {Γ : List SD} {a : Expr} {M : Res ω} {pos p pn : Pos} {k : Opd → List SD → Res ω → Prop}
end
end Tsa

/-! N5: dicts. -/
namespace Tsa
open PySem PySem.Spec PyProof.Rows L2
/-! ### tables -/
section
variable {κ β γ : Type} [DecidableEq κ]
def aGet (m : List (κ × β)) (k : κ) : Option β := (m.find? fun p => decide (p.1 = k)).map (·.2)
def aHas (m : List (κ × β)) (k : κ) : Bool := (aGet m k).isSome
def aPut : List (κ × β) → κ → β → List (κ × β)
  | [], k, v => [(k, v)]
  | p :: r, k, v => if p.1 = k then (p.1, v) :: r else p :: aPut r k v
def aDrop (m : List (κ × β)) (k : κ) : List (κ × β) := m.filter fun p => decide (p.1 ≠ k)
def dGetR (m : List (κ × β)) (k : κ) : Res β := match aGet m k with
  | some v => .ok v
  | none => .un
end
/-- how keys stand for things -/
structure KeyE {κ : Type} (kk : κ → Key) (kd : κ → PyData) : Prop where
  inj : ∀ a b, kk a = kk b → a = b
  dat : ∀ a, kd a = kD (kk a)
section
variable {K : PySem.W.Frag} {κ β : Type} [DecidableEq κ] {kk : κ → Key} {kd : κ → PyData} {e : β → PyData} {f : β → SD} {F G h S : Hp}
/-- a table, its values lasting -/
inductive DicS (kk : κ → Key) (kd : κ → PyData) (e : β → PyData) : SD → List (κ × β) → Prop
  | val {m : List (κ × β)} : DicS kk kd e (.val (.dict (m.map fun p => (kd p.1, e p.2)))) m
  | mine {m : List (κ × β)} : DicS kk kd e (.dct (m.map fun p => (kk p.1, .val (e p.2)))) m
  | pin {v : V} {s : SD} {m : List (κ × β)} : DicS kk kd e s m → DicS kk kd e (.pin v s) m
  | lk {d : Addr} {od : Obj} {u : HO} {m : List (κ × β)} : DicS kk kd e (.lk d od u (.dct (m.map fun p => (kk p.1, .val (e p.2))))) m
/-- .. behind an operand -/
inductive DicV (kk : κ → Key) (kd : κ → PyData) (e : β → PyData) (Γ : List SD) : Opd → List (κ × β) → Prop
  | own {s : SD} {m : List (κ × β)} (q : DicS kk kd e s m) : DicV kk kd e Γ (.own s) m
  | at {i : Nat} {s : SD} {m : List (κ × β)} (hi : Γ[i]? = some s) (q : DicS kk kd e s m) : DicV kk kd e Γ (.at i) m
  | fl {i : Nat} {x : Str} {s0 s : SD} {m : List (κ × β)} (hi : Γ[i]? = some s0) (hf : FldS s0 x s) (q : DicS kk kd e s m) : DicV kk kd e Γ (.fl i x) m
end
section
variable {K : PySem.W.Frag} {κ β : Type} [DecidableEq κ] {kk : κ → Key} {kd : κ → PyData} {e : β → PyData} {X : Cx} {C : XC} {pu pt : Bool} {ω : Type} {Γ : List SD} {a b c : Expr} {M : Res ω} {pos p apos : Pos} {k : Opd → List SD → Res ω → Prop}
/-- the operands of d[k], k in d: a table and a key -/
def DKIn (kk : κ → Key) (kd : κ → PyData) (e : β → PyData) (X : Cx) (C : XC) (pu pt : Bool) {ω : Type} (Γ : List SD) (a b : Expr) (M : Res ω) (k : List (κ × β) → κ → List SD → Res ω → Prop) : Prop :=
  JE X C pu Γ a M fun oa Γ1 M1 => ((∃ s, oa = .own s) ∨ (∃ i, oa = .at i) ∨ pt = true) ∧ (pu = true → pt = true) ∧ JE X C pt Γ1 b M1 fun ob Γ2 M2 => ∃ m k0, ob = .own (.val (kd k0)) ∧ DicV kk kd e Γ2 oa m ∧ k m k0 Γ2 M2
def rDIn : R2 := fun y x H Q => ∃ a o, x = .ref a ∧ DGet H a y o ∧ Q (.bl o.isSome) H
def rDNotIn : R2 := fun y x H Q => ∃ a o, x = .ref a ∧ DGet H a y o ∧ Q (.bl (!o.isSome)) H
/-- a key, then a table -/
def KDIn (kk : κ → Key) (kd : κ → PyData) (e : β → PyData) (X : Cx) (C : XC) (pu : Bool) {ω : Type} (Γ : List SD) (a b : Expr) (M : Res ω) (k : List (κ × β) → κ → List SD → Res ω → Prop) : Prop :=
  JE X C pu Γ a M fun oa Γ1 M1 => ∃ k0, oa = .own (.val (kd k0)) ∧ JE X C pu Γ1 b M1 fun ob Γ2 M2 => ∃ m, DicV kk kd e Γ2 ob m ∧ k m k0 Γ2 M2
end
end Tsa

/-! N6: dicts that are written. -/
namespace Tsa
open PySem PySem.Spec PyProof.Rows L2
/-- a slot that holds a dict of its own -/
inductive DctAt : SD → List (Key × SD) → (List (Key × SD) → SD) → Prop
  | dct {l : List (Key × SD)} : DctAt (.dct l) l .dct
  | pin {v : V} {l : List (Key × SD)} : DctAt (.pin v (.dct l)) l fun l' => .pin v (.dct l')
section
variable {K : PySem.W.Frag} {F G : Hp} {Γ : List SD}
end
section
variable {K : PySem.W.Frag} {κ β : Type} [DecidableEq κ] {kk : κ → Key} {kd : κ → PyData} {f : β → SD} {F G : Hp}
end
/-- no key twice -/
def NdH (H : Hp) : Prop := ∀ a kvs, H a = some (.dK kvs) → (kvs.map (·.1)).Nodup
section
variable {κ β : Type} [DecidableEq κ] {kk : κ → Key} {kd : κ → PyData} {f : β → SD} {X : Cx} {C : XC} {pu : Bool} {ω : Type} {Γ : List SD} {a b c : Expr} {M : Res ω} {pos pos' p : Pos} {k : Opd → List SD → Res ω → Prop} {kl : List SD → Res ω → Prop} {en : ω → EndK}
/-- {} -/
theorem JE.dnew (hk : k (.own (.dct [])) Γ M) : JE X C pu Γ (.Dict [] [] pos) M k :=
  JE.of pe_dnewK fun F h0 g H σ Q he hf hG hu hx hq q hn => by
    have nn := hf.no hn
    refine hq _ Γ M hk rfl (.ref q) F (cup (sgl q (.dK [])) emp) h0 _ .refl ?_ he (Dis.cup (Dis.one nn.2.1) .emp) ?_ fun _ => ⟨.refl, rfl⟩
    · unfold OpdOk own
      exact ⟨q, [], emp, rfl, cup_some one_same, .emp, rfl, by unfold ownK; rfl⟩
    · exact (hf.new hn).sub (Sub.cup (Sub.cup .l .emp) (.r (Dis.one nn.2.1)))
end
end Tsa

/-! N7: d.setdefault(k, []).append(e). -/
namespace Tsa
open PySem PySem.Spec PyProof.Rows L2
section
variable {K : PySem.W.Frag} {Γ : List SD}
/-- a slot's thing taken out of the environment -/
theorem env_out {F G h g H : Hp} {σ : L2.St} {i : Nat} {s : SD} (he : EnvR K F G Γ h σ) (hi : Γ[i]? = some s) (ne : s ≠ .hole) (hf : Fits F h g H) (hG : Sub G g) : ∃ v k1 k2, σ[i]? = some (some v) ∧ Sub k1 h ∧ Sub k2 h ∧ Dis k1 k2 ∧ own K F G s k1 v ∧ EnvR K F G (Γ.set i .hole) k2 σ := by
  obtain ⟨o, k1, k2, eo, s1, s2, d12, w, back⟩ := he.at hi
  obtain ⟨u, eu, wu⟩ := w.val ne
  subst eu
  have es : σ.set i (some u) = σ := by
    obtain ⟨hi', e'⟩ := List.getElem?_eq_some_iff.mp eo
    rw [← e']; exact List.set_getElem_self hi'
  have E2 := back F .hole (some u) emp k2 .refl (hf.G hG) trivial .emp .emp .refl
  rw [es] at E2
  exact ⟨u, k1, k2, eo, s1, s2, d12, wu, E2⟩
/-- .. and put back -/
theorem env_in {F G h h1 : Hp} {σ : L2.St} {i : Nat} {s : SD} {v : V} (he : EnvR K F G (Γ.set i .hole) h σ) (hi : i < Γ.length) (ev : σ[i]? = some (some v)) (ow : own K F G s h1 v) (d : Dis h1 h) (fg : Dis F G) : EnvR K F G (Γ.set i s) (cup h1 h) σ := by
  have z := EnvR.put he (by rw [List.length_set]; exact hi) ow d fg
  rw [List.set_set] at z
  have es : σ.set i (some v) = σ := by
    obtain ⟨hi', e'⟩ := List.getElem?_eq_some_iff.mp ev
    rw [← e']; exact List.set_getElem_self hi'
  rw [es] at z
  exact z
end
section
variable {κ α : Type} [DecidableEq κ] {kk : κ → Key} {kd : κ → PyData} {g' : α → SD} {X : Cx} {C : XC} {ω : Type} {Γ : List SD} {a b c : Expr} {M : Res ω} {pos pl ps pa p q1 : Pos} {k : Opd → List SD → Res ω → Prop}
abbrev lstS {α : Type} (g : α → SD) (l : List α) : SD := .lst (l.map g)
end
end Tsa

/-! N8: sorted(d.values()). -/
namespace Tsa
open PySem PySem.Spec PyProof.Rows L2
section
variable {X : Cx} {β : Type} {enc : β → PyData} {o : Expr} {p pos apos mpos : Pos} {td : TE}
def tSortVals (K : PySem.W.Frag) (enc : β → PyData) (td : TE) : TE := fun σ H Q => td σ H fun x H1 => ∃ (a : Addr) (kvs : List (Key × V)) (ps : List (V × β)), x = .ref a ∧ Rd H1 a (.dK kvs) ∧ kvs.map (·.2) = ps.map (·.1) ∧ DpAll K H1 (ps.map (·.1)) (ps.map fun q => enc q.2) ∧
  ∀ r, H1 r = none → Q (.ref r) (upd H1 r (.lst ((sortD (fun q : V × β => enc q.2) ps).map (·.1))))
end
section
variable {κ β : Type} {kk : κ → Key} {f : β → SD} {enc : β → PyData} {X : Cx} {C : XC} {ω : Type} {Γ : List SD} {M : Res ω} {pos p q1 apos mpos : Pos} {k : Opd → List SD → Res ω → Prop}
end
end Tsa

/-! E0: a law's end, over FnG. -/
namespace Tsa
open PySem PySem.Spec PyProof.Rows L2
theorem roomG_caller {k : Nat} (h : Room k callerA) : RoomG k callerA := ⟨h, rfl⟩
/-- from a heap of names in which the script alone may stand -/
theorem law_at {P : Program} {w : World} {K : PySem.W.Frag} {mg mb : Str → Option Value} {k : Nat} {fa a : Addr} {fd : FuncData} {x : Str} {sp : Sp} {s₁ : Shared} {vs : List Value} {H : Hp}
    (inK : K.In s₁.heap) (top : s₁.heap.Ns mainGlobals mg) (blt : s₁.heap.Ns builtinsNs mb) (same : ∀ x : Str, x ≠ "__name__" → mb x = bootBuiltins x) (free : s₁.heap.NoLimit) (noG : s₁.gens = #[])
    (obj : s₁.heap.get? a = some { cls := .type "list", data := .seq vs.toArray }) (room : RoomG k callerA) (fn : ∀ base : Heap, K.In base → base.Ns mainGlobals mg → FnG P w K mg base k fa fd [x] sp)
    (bind : ∀ (s : Shared) (u : Value), BindsTo s fd ⟨[u], []⟩ [(x, u)]) (goal : sp [.ref a] H (fun v _ => v = .bl true) fun _ _ _ => False) (only : Only H) (hok : HOk P w H s₁.heap) (sole : ∀ b, H b ≠ none → b = a) (apart : H a ≠ none → K.lookup a = none) :
    codeAny (model P w) callerA (.call (.ref fa) ⟨[.ref a], []⟩) (fun r s' => r = .ok (.ret (.bool true)) ∧ OldK s₁.heap s'.heap ∧ s'.os = s₁.os ∧ AllBare s'.gens) s₁ := by
  have unH : ∀ {b : Addr} {o : Obj}, s₁.heap.get? b = some o → (b = a → False) → H b = none := fun {b o} e n => Classical.byContradiction fun z => n (sole b z)
  have keepD : ∀ {b : Addr} {o : Obj} {es : Array DictEntry} {ep : Nat}, s₁.heap.get? b = some o → o.data = .dict es ep → (hidT s₁.heap H).get? b = some o := fun {b o es ep} e dd =>
    hidT_get e (unH e fun z => by
      rw [z, obj] at e
      cases e
      exact nomatch dd)
  have keepN : ∀ {b : Addr} {m : Str → Option Value}, s₁.heap.Ns b m → (hidT s₁.heap H).Ns b m := fun {b m} ⟨o, es, ep, e, dd, r⟩ => ⟨o, es, ep, keepD e dd, dd, r⟩
  have inH : K.In (hidT s₁.heap H) := fun b o e => hidT_get (inK b o e) (Classical.byContradiction fun z => by
    have eb := sole b z
    rw [eb] at z e
    rw [apart z] at e
    cases e)
  obtain ⟨mc, f1, f2⟩ := free
  have md : Mod K mg (hidT s₁.heap H) := ⟨inH, keepN top, ⟨mb, keepN blt, same⟩, ⟨mc, keepN f1, f2⟩⟩
  have env : Env0 P w K mg (hidT s₁.heap H) callerA [] s₁ H := ⟨rfl, md, fun b o e => of_hidT e, Nat.le_of_eq (hidT_size _ _), trivial, (fun b z => absurd (show b ∈ ([] : List Addr) from z) List.not_mem_nil), hok, .of_eq noG⟩
  refine codeAny_mono ((fn _ inH (keepN top)).run callerA [] s₁ H ⟨[.ref a], []⟩ [.ref a] [.ref a] _ _ room env (bind s₁ (.ref a)) (.cons rfl .nil) goal) fun r s' z => ?_
  match r, z with
  | .error e, z =>
    obtain ⟨_, _, _, _, _, _, _, _, _, _, _, _, z⟩ := z
    exact z.elim
  | .ok .next, z => exact False.elim z
  | .ok .brk, z => exact False.elim z
  | .ok .cont, z => exact False.elim z
  | .ok (.ret u), ⟨v, H2, ios, bare, un, hok2, rel, ev⟩ =>
    have ev : v = .bl true := ev
    subst ev
    obtain rfl : u = Value.bool true := rel
    refine ⟨rfl, OldK.of_keep fun b o e => ?_, ios, bare⟩
    rcases only b with n | ⟨ob, xs, n⟩
    · exact un.keep b o e n (fun z => absurd (show b ∈ ([] : List Addr) from z) List.not_mem_nil) (by simp)
    · obtain ⟨e1, _⟩ := hok b _ n
      obtain ⟨e2, _⟩ := hok2 b _ (un.frzs b ob _ n)
      exact e2.trans (e1.symm.trans e)
/-- the law's mirror says True to every script -/
theorem walkG {l : PySem.W.OpenLaw} {n k : Nat} {q : Program} {loose : List Str} {XP : (Str → Option Value) → Heap → Prop} {YP : World → Heap → Prop} {d : DefRec} {x : Str}
    (most : l.most = some n) (few : n ≤ sizeLine) (plain : d.params.defaults = []) (room : Room k callerA)
    (F : ∀ (w : World) (mg : Str → Option Value) (fa : Addr) (h : Heap), YP w h → h.Ns mainGlobals mg → mg d.name = some (.ref fa) → ∃ (K : PySem.W.Frag) (fd : FuncData), K.In h ∧ (∀ (s : Shared) (u : Value), BindsTo s fd ⟨[u], []⟩ [(x, u)]) ∧
      ∃ (mir : List Int → Res Bool) (out : List Int → Bool → List SD) (xout : List Int → List SD), (∀ ns, ns.length ≤ n → mir ns = .ok true) ∧
        ∀ base : Heap, K.In base → base.Ns mainGlobals mg → FnG l.prog w K mg base k fa fd [x] (SpM K (fun ns => [.val (.list (ns.map .int))]) mir (fun _ b => .val (.bool b)) out xout)) :
    PySem.W.WalkO q loose XP YP l.row.toRowW d [] (fun f vs => PySem.call f vs) := by
  refine Att.attach_call most plain fun w s₀ s₁ mg mb fa o pm cd doc a vs ns G Y ho hd hcd hmg obj nums small noG => ?_
  obtain ⟨K, fd, inK, bind, mir, out, xout, says, fn⟩ := F w mg fa _ Y G.T.g hmg
  have rv := vals_ints nums
  have short : ns.length ≤ sizeLine := Nat.le_trans small few
  have goal : ∀ H : Hp, SqL K H a (ns.map V.int) → SpM K (fun ns : List Int => [.val (.list (ns.map .int))]) mir (fun _ b => .val (.bool b)) out xout [.ref a] H (fun v _ => v = .bl true) fun _ _ _ => False := fun H hs => by
    have ok := says ns small
    refine ⟨ns, H, emp, emp, ?_, ⟨.refl, .emp, .emp, Dis.emp.symm, Dis.emp.symm, .emp⟩, (by rw [ok]; intro z; cases z), fun r e v F' h1 h2 H' _ w _ _ _ => ?_, fun e z => by rw [ok] at z; cases z⟩
    · unfold ownL ownL
      exact ⟨_, _, emp, emp, rfl, .emp, .emp, .emp, by unfold own; exact .lst hs .ofInts, rfl⟩
    · rw [ok] at e
      cases e
      unfold own at w
      exact w.blV
  cases inn : K.lookup a with
  | some u =>
    have e := inK a u inn
    rw [obj] at e
    cases e
    exact law_at (H := fun _ => none) inK G.T.g G.T.b G.T.builtins G.T.nolimit noG obj (roomG_caller room) fn bind (goal _ (.inr ⟨_, vs.toArray, _, inn, rfl, rfl, rfl, by rw [List.size_toArray, nums.length]; exact short, by simpa using rv⟩)) (fun _ => .inl rfl) (fun b u z => by cases (show (none : Option HO) = some u from z)) (fun b z => absurd rfl z) fun z => absurd rfl z
  | none =>
    have one : ∀ b, b = a ∨ b ≠ a := fun b => Classical.em _
    refine law_at (H := sgl a (.frz { cls := .type "list", data := .seq vs.toArray } (.lst (ns.map V.int)))) inK G.T.g G.T.b G.T.builtins G.T.nolimit noG obj (roomG_caller room) fn bind (goal _ (.inl (.inr ⟨_, one_same⟩))) (fun b => ?_) (fun b u z => ?_) (fun b z => ?_) fun _ => inn
    · rcases one b with e | e
      · subst e
        exact .inr ⟨_, _, one_same⟩
      · exact .inl (one_none e)
    · obtain ⟨rfl, rfl⟩ := one_some z
      exact ⟨obj, by rw [List.length_map]; exact short, vs, _, rv, obj⟩
    · exact Classical.byContradiction fun e => z (one_none e)
end Tsa

/-! N9: for generated texts. -/
namespace Tsa
open PySem PySem.Spec PyProof.Rows L2
/-! ### no exceptions -/
theorem nex_ok {α : Type} {a : α} : ∀ e, Res.ok a ≠ .ex e := fun _ z => nomatch z
theorem nex_un {α : Type} : ∀ e, (Res.un : Res α) ≠ .ex e := fun _ z => nomatch z
theorem nex_bind {α β : Type} {m : Res α} {f : α → Res β} (h : ∀ e, m ≠ .ex e) (hf : ∀ a e, f a ≠ .ex e) : ∀ e, m.bind f ≠ .ex e := fun e z => by
  cases m with
  | ok a => exact hf a e z
  | ex e' => exact h e' rfl
  | un => cases z
theorem nex_cond {α : Type} {b : Bool} {m m' : Res α} (h : ∀ e, m ≠ .ex e) (h' : ∀ e, m' ≠ .ex e) : ∀ e, cond b m m' ≠ .ex e := by cases b <;> assumption
theorem nex_gd {ω : Type} {c : Prop} [Decidable c] {m : Res ω} (h : ∀ e, m ≠ .ex e) : ∀ e, gd c m ≠ .ex e := by
  unfold gd
  split
  · exact h
  · exact nex_un
theorem idx_nex {α : Type} {xs : List α} {i : Int} : ∀ e, idx xs i ≠ .ex e := fun e z => by unfold idx at z; split at z <;> cases z
theorem forS_nex {α τ : Type} {f : α → τ → Res τ} (h : ∀ x t e, f x t ≠ .ex e) : ∀ (xs : List α) (t : τ) (e : Exn), forS f xs t ≠ .ex e
  | [], t, e => fun z => nomatch z
  | x :: xs, t, e => nex_bind (h x t) (fun t' => forS_nex h xs t') e
theorem nex_nex {α : Type} {m : Res α} : ∀ e, m.nex ≠ .ex e := fun e z => by cases m <;> cases z
theorem compL_nex {α β τ : Type} {f : α → τ → Res (Option β × τ)} : ∀ (xs : List α) (t : τ) (e : Exn), compL f xs t ≠ .ex e
  | [], t, e => fun z => nomatch z
  | x :: xs, t, e => nex_bind nex_nex (fun t' => nex_bind (compL_nex xs _) fun r => nex_ok) e
theorem forL_nex {α τ ω : Type} {f : α → τ → Res (Lp τ ω)} (h : ∀ x t e, f x t ≠ .ex e) : ∀ (xs : List α) (t : τ) (e : Exn), forL f xs t ≠ .ex e
  | [], t, e => fun z => nomatch z
  | x :: xs, t, e => nex_bind (h x t) (fun t' => by cases t' with
    | nx t => exact forL_nex h xs t
    | bk t => exact nex_ok
    | rt w => exact nex_ok) e
theorem nex_orW {β ω : Type} {kM : β → Res ω} (h : ∀ b e, kM b ≠ .ex e) : ∀ a e, orW kM a ≠ .ex e
  | .inl b => h b
  | .inr w => nex_ok
theorem ft {p : Prop} (h : false = true) : p := nomatch h
/-- the fuel of whiles -/
def fuel : Nat := 100000000
/-- a slot's pot -/
def potS (p : Int × Int) : SD := .lst [.val (.int p.1), .val (.int p.2)]
theorem nr_pot {p : Int × Int} : NR (potS p) := .lst (.cons .val (.cons .val .nil))
theorem pot_ne {p : Int × Int} : potS p ≠ .hole := fun z => nomatch z
section
variable {K : PySem.W.Frag} {X : Cx} {C : XC} {pu pt : Bool} {ω α : Type} {Γ : List SD} {a b e c : Expr} {es : List Expr} {sts : List Stmt} {M : Res ω} {pos p pn apos : Pos} {k : Opd → List SD → Res ω → Prop} {kb : Bool → List SD → Res ω → Prop}
/-- a def under its name -/
def Has (X : Cx) {ι ω : Type} (x : Str) (lv : Nat) (args : ι → List SD) (mir : ι → Res ω) (ret : ι → ω → SD) (out : ι → ω → List SD) (xout : ι → List SD) : Prop := ∃ f, X.mg x = some (.ref f) ∧ Callee X lv f args mir ret out xout []
abbrev FnP (K : PySem.W.Frag) (x : Str) (st : Stmt) (f : Addr) (fd : FuncData) : Prop := FunD K x x (defArgs st) (defBody st) (defScope st) [] [] f fd
theorem has_of {X : Cx} {ι ω : Type} {x : Str} {st : Stmt} {lv : Nat} {ps : List Str} {args : ι → List SD} {mir : ι → Res ω} {ret : ι → ω → SD} {out : ι → ω → List SD} {xout : ι → List SD} (h : ∃ f fd, X.mg x = some (.ref f) ∧ FnP X.K x st f fd)
    (g : ∀ f fd, FnP X.K x st f fd → FnG X.prog X.w X.K X.mg X.base lv f fd ps (SpM X.K args mir ret out xout)) (b : ∀ f fd, FnP X.K x st f fd → Binds X.K fd ps []) (nr : ∀ i r, NR (ret i r)) (no : ∀ i r, NRL (out i r)) (nx : ∀ i, NRL (xout i)) (nex : ∀ i e, mir i = .ex e → NRF e.flds) : Has X x lv args mir ret out xout := by
  obtain ⟨f, fd, e, F⟩ := h
  exact ⟨f, e, ⟨fd, ps, [], [], g f fd F, b f fd F, .nil, fun _ _ => by unfold ownL; rfl⟩, F.kp, nr, no, nx, nex⟩
theorem JE.callN {ω ω' ι : Type} {Γ : List SD} {M : Res ω} {k : Opd → List SD → Res ω → Prop} {x : Str} {lv : Nat} {args : ι → List SD} {mir : ι → Res ω'} {ret : ι → ω' → SD} {out : ι → ω' → List SD} {xout : ι → List SD}
    (c : Has X x lv args mir ret out xout) (hr : RoomG lv X.A) (hx : PassesW X C.E) (h : JA X C pu Γ (e :: es) M (Args C args mir ret out xout [] pu k)) (hg : Gl X x := by rfl) (hdb : (x == ("__debug__" : Str)) = false := by decide)
    (he : starEach (e :: es) X.env = (false, eval e X.env) :: starEach es X.env := by rfl) (hpl : (backTo pos (starEach es X.env)).any (·.1) = false := by rfl) : JE X C pu Γ (.Call (.Name x p) (e :: es) [] pos) M k := by
  obtain ⟨f, e1, c⟩ := c
  exact JE.call c hr e1 hx h hg hdb he hpl
/-- arguments that are told whole: nothing is lent out, nothing comes back -/
theorem Args.plain {C : XC} {ω ω' ι : Type} {args : ι → List SD} {mir : ι → Res ω'} {ret : ι → ω' → SD} {out : ι → ω' → List SD} {xout : ι → List SD} {pu : Bool} {k : Opd → List SD → Res ω → Prop} {os : List Opd} {Γ : List SD} {M : Res ω}
    (i : ι) (kM : ω' → Res ω) (m : List Bool) (r : Resv Γ os (args i) m) (hs : slots m os = []) (hsel : sel m (args i) = []) (hM : M = (mir i).bind kM) (hx : ∀ e, mir i = .ex e → Le Γ C.Γx) (hk : ∀ r, mir i = .ok r → k (.own (ret i r)) Γ (kM r)) : Args C args mir ret out xout [] pu k os Γ M :=
  ⟨i, args i, m, Γ, [], kM, by rw [hs, hsel]; exact .nil, r, (List.append_nil _).symm, hM, fun e z => by rw [hs]; exact hx e z, fun _ => ⟨rfl, hs⟩, fun r z => by rw [hs]; exact hk r z⟩
/-- a compound test, in a run of its own -/
theorem JC.all {m : Res Bool} {kM : Bool → Res ω} {Γ' : List SD} (hM : M = m.bind kM) (h : JC X C pu Γ e m fun b Γ1 M1 => M1 = .ok b ∧ Γ1 = Γ') (hk : ∀ b, m = .ok b → kb b Γ' (kM b)) : JC X C pu Γ e M kb := by
  subst hM
  exact JB2.run (τ := id) (Δ := fun _ => Γ') (h.mono fun b Γ1 M1 ⟨e1, e2⟩ => ⟨b, e1, rfl, e2⟩) fun x z => hk x z
/-- .. that changes slots -/
theorem JC.allS {τ : Type} {m : Res (Bool × τ)} {kM : Bool × τ → Res ω} {Δ : Bool × τ → List SD} (hM : M = m.bind kM) (h : JC X C pu Γ e m fun b Γ1 M1 => ∃ x, M1 = .ok x ∧ b = x.1 ∧ Γ1 = Δ x) (hk : ∀ x, m = .ok x → kb x.1 (Δ x) (kM x)) : JC X C pu Γ e M kb := by
  subst hM
  exact JB2.run (τ := fun x => x.1) (Δ := Δ) h hk
/-- a value by a run of its own -/
theorem JE.runV {β : Type} {m : Res β} {kM : β → Res ω} {f : β → SD} {Δ : β → List SD} (hM : M = m.bind kM) (h : JE X C pu Γ e m fun o Γ1 M1 => ∃ x, M1 = .ok x ∧ o = .own (f x) ∧ Γ1 = Δ x) (hk : ∀ x, m = .ok x → k (.own (f x)) (Δ x) (kM x)) : JE X C pu Γ e M k := by
  subst hM
  exact JT.run (τ := fun x => .own (f x)) (Δ := Δ) h hk
theorem divP {i j : Int} (c : divOk j) : CDivP i j := by
  refine ⟨c.1, ?_⟩
  have h : j.natAbs.log2 < 5000 := PySem.Flt.log2_lt_of (by decide) (by have := c.1; have := c.2; omega)
  have e : ¬ ((if (j == 0) = true then 0 else j.natAbs.log2 / 30 + 1) > 300) := by split <;> omega
  show (decide ((if (j == 0) = true then 0 else j.natAbs.log2 / 30 + 1) > 300) && _) = false
  rw [decide_eq_false e, Bool.false_and]
theorem gdD {ω : Type} {i j : Int} {m : Res ω} {Z : Res ω → Prop} (h : Z m) : ∃ M3, (gd (divOk j) m ≠ .un → gd (divOk j) m = M3 ∧ CDivP i j) ∧ Z M3 := ⟨m, fun z => ⟨(gd_ok z).1, divP (gd_ok z).2⟩, h⟩
theorem JE.min2 (hc : X.calm = true) (hm : X.mg "min" = none) (h : JI X C pu Γ a M fun i Γ1 M1 => JI X C pu Γ1 b M1 fun j Γ2 M2 => k (.own (.val (.int (min i j)))) Γ2 M2) (hg : Gl X "min" := by rfl) (hs : starEach (a :: [b]) X.env = (false, eval a X.env) :: starEach [b] X.env := by rfl)
    (hs2 : starEach (b :: []) X.env = (false, eval b X.env) :: starEach [] X.env := by rfl) (hpl : (backTo pos (starEach [b] X.env)).any (·.1) = false := by rfl) : JE X C pu Γ (.Call (.Name "min" pn) [a, b] [] pos) M k :=
  JE.bi (call_min2 hc) hm (JA.ints (h.mono fun o Γ1 M1 ⟨i, e, h2⟩ => ⟨i, e, h2.mono fun o' Γ2 M2 ⟨j, e2, hk⟩ => ⟨j, e2, fun vs F h1 h2 g H σ Q ow he d hf hG sz hu hq => by
    obtain ⟨v, v', ha, hb, ev, s1, s2, dd, w1, w2⟩ := ow.two
    obtain rfl := w1.intV
    obtain rfl := w2.intV
    refine ⟨i, j, ev, ?_⟩
    have em : (if j < i then j else i) = min i j := by split <;> omega
    rw [em]
    exact hq.scal hk he d hf (.int _)⟩⟩) hs hs2) rfl hg (hs := hs) (hpl := hpl)
/-- min, max of a pair of numbers -/
theorem pairVI {x y : Int} : SeqV Γ (.own (.val (.tuple [.int x, .int y]))) true (([x, y].map PyData.int).map .val) := .own .tup
theorem JE.leastP {j : Nat} {x y : Int} (hr : RoomG j X.A) (hc : X.calm = true) (hm : X.mg "min" = none) (h : JE X C pu Γ e M fun o Γ1 M1 => o = .own (.val (.tuple [.int x, .int y])) ∧ k (.own (.val (.int (min x y)))) Γ1 M1) (hg : Gl X "min" := by rfl) (hs : starEach [e] X.env = (false, eval e X.env) :: starEach [] X.env := by rfl) : JE X C pu Γ (.Call (.Name "min" pn) [e] [] pos) M k :=
  JE.least hr hc hm (h.mono fun o Γ1 M1 ⟨e1, hk⟩ => ⟨true, _, x, [y], by rw [e1]; exact pairVI, .vals, hk⟩) hg hs
theorem JE.mostP {j : Nat} {x y : Int} (hr : RoomG j X.A) (hc : X.calm = true) (hm : X.mg "max" = none) (h : JE X C pu Γ e M fun o Γ1 M1 => o = .own (.val (.tuple [.int x, .int y])) ∧ k (.own (.val (.int (max x y)))) Γ1 M1) (hg : Gl X "max" := by rfl) (hs : starEach [e] X.env = (false, eval e X.env) :: starEach [] X.env := by rfl) : JE X C pu Γ (.Call (.Name "max" pn) [e] [] pos) M k :=
  JE.most hr hc hm (h.mono fun o Γ1 M1 ⟨e1, hk⟩ => ⟨true, _, x, [y], by rw [e1]; exact pairVI, .vals, hk⟩) hg hs
/-- x in xs, x not in xs: typed -/
def InT [DecidableEq α] (e : α → PyData) (X : Cx) (C : XC) (pu : Bool) {ω : Type} (Γ : List SD) (a b : Expr) (M : Res ω) (k : α → List α → List SD → Res ω → Prop) : Prop :=
  JE X C pu Γ a M fun oa Γ1 M1 => ((∃ s, oa = .own s) ∨ (∃ i, oa = .at i)) ∧ JE X C pu Γ1 b M1 fun ob Γ2 M2 => ∃ x xs, SeeO Γ2 oa (e x) ∧ SeeO Γ2 ob (.list (xs.map e)) ∧ k x xs Γ2 M2
theorem Cmp.neS {j : Nat} (hr : RoomG j X.A) (h : JE X C pu Γ a M fun oa Γ1 M1 => ∃ x, oa = .own (.val (.str x)) ∧ JE X C pu Γ1 b M1 fun ob Γ2 M2 => ∃ y, ob = .own (.val (.str y)) ∧ k (.own (.val (.bool (!decide (x = y))))) Γ2 M2) : Cmp X C pu Γ .NotEq a b M k :=
  ⟨nomark _, _, op_ne, JT.two (Z := fun sa ob Γ2 M2 => ∃ x y, sa = .val (.str x) ∧ ob = .own (.val (.str y)) ∧ k (.own (.val (.bool (!decide (x = y))))) Γ2 M2) (h.mono fun oa Γ1 M1 ⟨x, e1, h2⟩ => ⟨_, e1, h2.mono fun ob Γ2 M2 ⟨y, e2, z⟩ => ⟨x, y, rfl, e2, z⟩⟩) (by
    rintro sa ob Γ2 ⟨x, y, rfl, rfl, hk⟩ F ha hb h0 h2 g H σ va vb Q w1 w2 he d1 d2 d3 hf hG hp hu hx hq
    unfold own at w1
    unfold OpdOk own at w2
    obtain rfl := w1.strV
    obtain rfl := w2.strV
    refine ⟨rfl, ?_⟩
    have ed : decide (V.str x = V.str y) = decide (x = y) := by rw [Bool.eq_iff_iff]; simp
    rw [ed]
    exact hq _ Γ2 M hk rfl _ F emp h2 H .refl (by unfold OpdOk own; exact .bl _) he .emp ((hf.sub ((Sub.r d3).trans (.r (Dis.cup d1.symm d2.symm).symm))).emp) hp)⟩
/-- x is None -/
def isNone : PyData → Bool
  | .none => true
  | _ => false
end
end Tsa

/-! N10: more typed rules. -/
namespace Tsa
open PySem PySem.Spec PyProof.Rows L2
section
variable {K : PySem.W.Frag} {X : Cx} {C : XC} {pu pt : Bool} {ω α β : Type} {Γ : List SD} {a b e c tg iter elt : Expr} {es : List Expr} {M : Res ω} {pos p pn apos : Pos} {k : Opd → List SD → Res ω → Prop} {kS : List SD → List SD → Res ω → Prop}
/-- enumerate over locked items -/
theorem enum_map {xs : List α} {e : α → PyData} : (enumS (xs.map e)).map SD.val = xs.zipIdx.map fun q => SD.val (.tuple [.int (q.2 : Nat), e q.1]) := by
  unfold enumS
  rw [List.zipIdx_map]
  simp [Function.comp_def]
theorem JSrc.enL {elts : List Expr} {kk : Nat} {tpos : Pos} {f : α → PyData} (hm : X.mg "enumerate" = none) (h : JE X C pu Γ e M fun o Γ' M' => ∃ (s : SD) (xs : List α), o = .own s ∧ SeqOf s false (xs.map fun x => .val (f x)) ∧ kS (xs.zipIdx.map fun q => .val (.tuple [.int (q.2 : Nat), f q.1])) Γ' M') (hg : Gl X "enumerate" := by rfl) (hs : starEach [e] X.env = [(false, eval e X.env)] := by rfl) :
    JSrc X C pu Γ (.Tuple elts kk tpos) (.Call (.Name "enumerate" p) [e] [] pos) M kS :=
  JSrc.enum hm (h.mono fun o Γ1 M1 ⟨s, xs, e1, sq, hk⟩ => ⟨s, xs.map f, e1, by rw [mm]; exact sq, by rw [enum_map]; exact hk⟩) hg hs
theorem JSrc.enW {elts : List Expr} {kk : Nat} {tpos : Pos} {f : α → PyData} (hm : X.mg "enumerate" = none) (h : JE X C pu Γ e M fun o Γ' M' => ∃ (s : SD) (xs : List α), o = .own s ∧ SeqOf s true (xs.map fun x => .val (f x)) ∧ kS (xs.zipIdx.map fun q => .val (.tuple [.int (q.2 : Nat), f q.1])) Γ' M') (hg : Gl X "enumerate" := by rfl) (hs : starEach [e] X.env = [(false, eval e X.env)] := by rfl) :
    JSrc X C pu Γ (.Tuple elts kk tpos) (.Call (.Name "enumerate" p) [e] [] pos) M kS :=
  JSrc.enumT hm (h.mono fun o Γ1 M1 ⟨s, xs, e1, sq, hk⟩ => ⟨s, xs.map f, e1, by rw [mm]; exact sq, by rw [enum_map]; exact hk⟩) hg hs
/-! ### x[i].append(e), a list of lists -/
def appAt {γ : Type} (xs : List (List γ)) (i : Int) (y : γ) : Res (List (List γ)) := match ixN xs.length i with
  | some n => gd ((xs.getD n []).length < 16000000) (.ok (xs.set n (xs.getD n [] ++ [y])))
  | none => .un
end
end Tsa

/-! N11: x[i].append(e) on a list of own lists. -/
namespace Tsa
open PySem PySem.Spec PyProof.Rows L2
section
variable {γ : Type} {g' : γ → SD} {X : Cx} {C : XC} {ω : Type} {Γ : List SD} {b c : Expr} {M : Res ω} {pos ps pa p : Pos} {k : Opd → List SD → Res ω → Prop}
end
end Tsa
namespace Tsa
open PySem PySem.Spec PyProof.Rows L2
theorem passN {X : Cx} : PassesW X (fun _ _ _ _ => False) := fun _ _ _ _ _ _ _ h => by
  obtain ⟨_, _, _, _, _, _, _, _, _, _, _, _, h⟩ := h
  exact h.elim
end Tsa
namespace Tsa
open PySem PySem.Spec PyProof.Rows L2
section
variable {K : PySem.W.Frag} {X : Cx} {C : XC} {pu pt : Bool} {ω : Type} {Γ : List SD} {e a b : Expr} {es : List Expr} {M : Res ω} {pos p : Pos} {k : Opd → List SD → Res ω → Prop}
theorem JE.ixE {α : Type} {f : α → SD} {t : Bool} (h : JE X C pu Γ a M fun oa Γ1 M1 => ((∃ s, oa = .own s) ∨ (∃ i, oa = .at i)) ∧ JI X C pu Γ1 b M1 fun i Γ2 M2 => ∃ (xs : List α) (kM : α → Res ω), SeqV Γ2 oa t (xs.map f) ∧ M2 = (idx xs i).bind kM ∧ ∀ x, idx xs i = .ok x → k (.own (f x)) Γ2 (kM x)) (hs : PlainIx b := by exact fun _ _ => rfl) :
    JE X C pu Γ (.Subscript a b pos) M k := by
  refine JE.of (pe_ix (ix_any t) pe_sem pe_sem hs) (JT.two2 (pt := pu) (Z := fun oa ob Γ2 M2 => ∃ i, ob = .own (.val (.int i)) ∧ ∃ (xs : List α) (kM : α → Res ω), SeqV Γ2 oa t (xs.map f) ∧ M2 = (idx xs i).bind kM ∧ ∀ x, idx xs i = .ok x → k (.own (f x)) Γ2 (kM x)) (h.mono fun oa Γ1 M1 ⟨h1, h2⟩ => ⟨by
    rcases h1 with h1 | h1
    · exact .inl h1
    · exact .inr (.inl h1), fun z => z, h2⟩) ?_)
  intro oa ob Γ2 ⟨i, e2, xs, kM, sv, eM, hk⟩ F h1 h0 h2 g H σ va vb Q ow he d hf hG hp hu hx hq
  subst e2
  obtain ⟨va', vr, ha, hb, ev, s1, s2, dd, w1, v2, vr2, hb1, hb2, ev2, s3, s4, dd2, w2, e3⟩ := ow
  cases ev
  cases ev2
  unfold OpdOk own at w2
  obtain rfl := w2.intV
  have d1 : Dis ha h2 := d.mono s1 .refl
  obtain ⟨p, vs, e, l, z, it⟩ := sv.ok w1 he d1 (hf.sub (Sub.cup2 s1 .refl d)) hG
  subst e
  cases hx' : atI xs i with
  | none =>
    refine absurd ?_ hu
    rw [eM]; unfold idx; rw [hx']; rfl
  | some x =>
    have hidx : idx xs i = .ok x := by unfold idx; rw [hx']
    have ha' : atI (xs.map f) i = some (f x) := by rw [atI_map, hx']; rfl
    obtain ⟨j, ej, ey⟩ := atI_len (xs := vs) l ha'
    obtain ⟨y, ey2, wy⟩ := it j _ ey
    have hy : atI vs i = some y := by unfold atI; rw [ej]; exact ey2
    have fin : Q y H := hq _ _ (kM x) (hk x hidx) (by rw [eM, hidx]; rfl) y F emp h2 H .refl wy he .emp ((hf.sub (.r d)).emp) hp
    cases t with
    | true => exact ⟨p, vs, i, y, rfl, rfl, z, hy, fin⟩
    | false => exact ⟨p, vs, i, y, rfl, rfl, z, hy, fin⟩
end
end Tsa

set_option exponentiation.threshold 6000
/-! N12: the plain side: runs that end well, data that may be shown, sorted lists, pots. -/
namespace Tsa
open PySem PySem.Spec PyProof.Rows L2
/-! ### runs that end well -/
def Fine {α : Type} (m : Res α) (P : α → Prop) : Prop := ∃ r, m = .ok r ∧ P r
section
variable {α β γ τ ω : Type}
theorem Fine.ok {x : α} {P : α → Prop} (h : P x) : Fine (.ok x) P := ⟨x, rfl, h⟩
theorem Fine.mono {m : Res α} {P Q : α → Prop} (h : Fine m P) (q : ∀ r, P r → Q r) : Fine m Q := let ⟨r, e, p⟩ := h; ⟨r, e, q r p⟩
theorem Fine.bind {m : Res α} {f : α → Res β} {P : α → Prop} {Q : β → Prop} (h : Fine m P) (q : ∀ r, P r → Fine (f r) Q) : Fine (m.bind f) Q := by
  obtain ⟨r, e, p⟩ := h
  rw [e]
  exact q r p
theorem gd_t {ω : Type} {c : Prop} [Decidable c] {m : Res ω} (h : c) : gd c m = m := if_pos h
theorem Fine.gd {c : Prop} [Decidable c] {m : Res α} {P : α → Prop} (h : c) (q : Fine m P) : Fine (gd c m) P := by rw [gd_t h]; exact q
theorem Fine.cond {b : Bool} {m n : Res α} {P : α → Prop} (h1 : b = true → Fine m P) (h2 : b = false → Fine n P) : Fine (cond b m n) P := by
  cases b with
  | true => exact h1 rfl
  | false => exact h2 rfl
theorem Fine.bindv {x : β} {f : β → Res α} {P : α → Prop} (h : Fine (f x) P) : Fine (bindv x f) P := h
theorem Fine.run {m : Res α} {x : α} (h : Fine m (fun r => r = x)) : m = .ok x := by
  obtain ⟨r, e, rfl⟩ := h
  exact e
theorem idx_at {l : List α} {i : Int} (h0 : 0 ≤ i) (h1 : i.toNat < l.length) : idx l i = .ok l[i.toNat] := by
  have e : ixN l.length i = some i.toNat := by
    unfold ixN
    rw [if_pos h0, if_pos (by omega)]
  unfold idx atI
  rw [e]
  show (match l[i.toNat]? with | some x => Res.ok x | none => .un) = _
  rw [List.getElem?_eq_getElem h1]
theorem Fine.idx {l : List α} {i : Int} (h0 : 0 ≤ i) (h1 : i < (l.length : Nat)) : Fine (idx l i) (fun x => ∃ h : i.toNat < l.length, x = l[i.toNat]) :=
  ⟨_, idx_at h0 (by omega), by omega, rfl⟩
theorem Fine.idxM {l : List α} {i : Int} (h0 : 0 ≤ i) (h1 : i < (l.length : Nat)) : Fine (Tsa.idx l i) (fun x => x ∈ l) :=
  (Fine.idx h0 h1).mono fun _ ⟨_, e⟩ => e ▸ List.getElem_mem _
/-- with what is still to come -/
theorem Fine.forSn {f : α → τ → Res τ} (I : List α → τ → Prop) : ∀ {xs : List α} {t : τ}, I xs t → (∀ x r t, I (x :: r) t → (∀ y ∈ x :: r, y ∈ xs) → Fine (f x t) (I r)) → Fine (Tsa.forS f xs t) (I [])
  | [], t, h, _ => ⟨t, rfl, h⟩
  | x :: xs, t, h, q => (q x xs t h fun _ z => z).bind fun t' h' => Fine.forSn I h' fun y r t i s => q y r t i fun z hz => List.mem_cons_of_mem _ (s z hz)
theorem Fine.forL {f : α → τ → Res (Lp τ ω)} (I : τ → Prop) : ∀ {xs : List α} {t : τ}, I t → (∀ x ∈ xs, ∀ t, I t → Fine (f x t) fun r => ∃ t', r = .nx t' ∧ I t') → Fine (Tsa.forL f xs t) fun r => ∃ t', r = .inl t' ∧ I t'
  | [], t, h, _ => ⟨_, rfl, t, rfl, h⟩
  | x :: xs, t, h, q => by
    refine (q x (List.mem_cons_self ..) t h).bind fun r h' => ?_
    obtain ⟨t', rfl, i⟩ := h'
    exact Fine.forL I i fun y hy => q y (List.mem_cons_of_mem _ hy)
end
theorem mem_rangeL {lo hi i : Int} : i ∈ rangeL lo hi ↔ lo ≤ i ∧ i < hi := by
  unfold rangeL
  constructor
  · intro h
    obtain ⟨n, hn, rfl⟩ := List.mem_map.mp h
    have := List.mem_range.mp hn
    omega
  · intro h
    exact List.mem_map.mpr ⟨(i - lo).toNat, List.mem_range.mpr (by omega), by omega⟩
theorem len_rangeL {lo hi : Int} : (rangeL lo hi).length = (hi - lo).toNat := by unfold rangeL; simp
theorem rangeL_lt (lo hi : Int) : (rangeL lo hi).Pairwise (· < ·) := by
  unfold rangeL
  rw [List.pairwise_map]
  refine List.pairwise_lt_range.imp fun h => ?_
  omega
theorem rng_ok {hi : Int} (h : hi ≤ 16777216) (h0 : -16777216 ≤ hi) : rngOk 0 hi := ⟨⟨by decide, by decide⟩, ⟨by omega, by omega⟩, by omega⟩
/-! ### data that may be shown -/
structure Sm (D W : Nat) (d : PyData) : Prop where
  lay : d.canLay0 = true
  dep : d.depth ≤ D
  wt : d.weight ≤ W
  short : d.intsShort 13 = true
  shw : d.showable = true
structure SmL (D W : Nat) (ds : List PyData) : Prop where
  lay : PyData.canLayAll0 ds = true
  dep : PyData.depthAll ds ≤ D
  wt : PyData.weightAll ds ≤ W
  short : PyData.intsShortAll 13 ds = true
  shw : PyData.showableAll ds = true
theorem log2_lt40 {n : Nat} (h : n < 10 ^ 12) : n.log2 < 40 := by
  by_cases z : n = 0
  · subst z; decide
  · exact (Nat.log2_lt z).mpr (Nat.lt_trans h (by decide))
theorem sm_int {i : Int} (h : i.natAbs < 10 ^ 12) : Sm 0 40 (.int i) where
  lay := rfl
  dep := Nat.le_refl 0
  wt := by
    have := log2_lt40 h
    show (if i == 0 then 0 else i.natAbs.log2 + 1) ≤ 40
    split <;> omega
  short := decide_eq_true (PyData.shown_int_le h)
  shw := decide_eq_true (Nat.lt_trans (log2_lt40 h) (by decide))
theorem SmL.nil {D W : Nat} : SmL D W [] := ⟨rfl, Nat.zero_le _, Nat.zero_le _, rfl, rfl⟩
theorem SmL.cons {D W W' : Nat} {d : PyData} {ds : List PyData} (h : Sm D W d) (t : SmL D W' ds) : SmL D (W + 1 + W') (d :: ds) where
  lay := by show (d.canLay0 && PyData.canLayAll0 ds) = true; rw [h.lay, t.lay]; rfl
  dep := by show max d.depth (PyData.depthAll ds) ≤ D; have := h.dep; have := t.dep; omega
  wt := by show d.weight + 1 + PyData.weightAll ds ≤ _; have := h.wt; have := t.wt; omega
  short := by show (d.intsShort 13 && PyData.intsShortAll 13 ds) = true; rw [h.short, t.short]; rfl
  shw := by show (d.showable && PyData.showableAll ds) = true; rw [h.shw, t.shw]; rfl
theorem SmL.tup {D W : Nat} {ds : List PyData} (h : SmL D W ds) : Sm (D + 1) W (.tuple ds) := ⟨h.lay, Nat.succ_le_succ h.dep, h.wt, h.short, h.shw⟩
theorem Sm.show_ {D W : Nat} {d : PyData} (h : Sm D W d) (hD : D ≤ 64) (hW : W ≤ 1048576) : showOk d = true := by
  have hd := Nat.le_trans h.dep hD
  have hw := Nat.le_trans h.wt hW
  have sh : SeqAt.shaped d = true := by
    unfold SeqAt.shaped
    rw [h.lay, decide_eq_true hd]; rfl
  have lay : PyData.layable0 d = true := by
    unfold PyData.layable0
    rw [h.lay, decide_eq_true hd, decide_eq_true hw]; rfl
  have len := shown_le13 lay h.short
  unfold showOk
  rw [sh, h.shw, PyData.hasDict_of_canLay d h.lay, decide_eq_true (Nat.le_trans len (by decide))]
  rfl
/-! ### sorted lists -/
section
variable {β : Type} {enc : β → PyData}
structure SrtLaw (enc : β → PyData) : Prop where
  trans : ∀ a b c, PySem.W.dataLe false enc a b = true → PySem.W.dataLe false enc b c = true → PySem.W.dataLe false enc a c = true
  total : ∀ a b, (PySem.W.dataLe false enc a b || PySem.W.dataLe false enc b a) = true
  anti : ∀ a b, PySem.W.dataLe false enc a b = true → PySem.W.dataLe false enc b a = true → a = b
end
/-! ### pots -/
def PotOk (p : Int × Int) : Prop := 0 ≤ p.1 ∧ 0 ≤ p.2 ∧ p.2 < 1099511627776
theorem pot_take {p : Int × Int} {n : Int} (g : PotOk p) (h0 : 0 < n) (hb : n < 1099511627776) : Fine (cond (decide (0 < p.1)) (Tsa.gd (divOk n) (.ok (p.1 % n, (p.1 / n, p.2))))
    (Tsa.gd (mulOk p.2 39373) (Tsa.gd (mulOk ((p.2 * 39373 + 7919) % 2147483629) ((p.2 * 39373 + 7919) % 2147483629)) (Tsa.gd (0 < n)
      (.ok (((p.2 * 39373 + 7919) % 2147483629) * ((p.2 * 39373 + 7919) % 2147483629) % 2147483563 / 11 % n, (p.1, (p.2 * 39373 + 7919) % 2147483629))))))) fun r => 0 ≤ r.1 ∧ r.1 < n ∧ PotOk r.2 := by
  obtain ⟨g1, g2, g3⟩ := g
  refine Fine.cond (fun c => Fine.gd ⟨h0, Int.lt_trans hb (by decide)⟩ (Fine.ok ⟨Int.emod_nonneg _ (by omega), Int.emod_lt_of_pos _ h0, Int.ediv_nonneg g1 (by omega), g2, g3⟩)) fun c => ?_
  have y0 : 0 ≤ (p.2 * 39373 + 7919) % 2147483629 := by omega
  have y1 : (p.2 * 39373 + 7919) % 2147483629 < 2147483629 := by omega
  have m1 : mulOk p.2 39373 := .inl (.inr (by decide))
  generalize (p.2 * 39373 + 7919) % 2147483629 = y at *
  have m2 : mulOk y y := .inl (.inl (by omega))
  exact Fine.gd m1 (Fine.gd m2 (Fine.gd h0 (Fine.ok ⟨Int.emod_nonneg _ (by omega), Int.emod_lt_of_pos _ h0, g1, y0, by show y < _; omega⟩)))
theorem nth_fine {ns : List Int} {k : Int} (h0 : 0 ≤ k) : Fine (cond (decide (k < (ns.length : Nat))) ((Tsa.idx ns k).bind fun x => .ok x) (.ok 0)) fun _ => True :=
  Fine.cond (fun c => (Fine.idx h0 (of_decide_eq_true c)).bind fun r _ => Fine.ok trivial) fun _ => Fine.ok trivial
theorem pot_new {c : Int} {k : Int} {m : Res Int} {ab : Int → Int} (ha : ∀ i, 0 ≤ ab i) (h0 : 0 ≤ k) (h1 : k < 1000) (hm : Fine m fun _ => True) : Fine (m.bind fun c => Tsa.gd (mulOk 101 k) (.ok (max 0 (ab c - 10 ^ (18 : Int).toNat), ab c % 2147483563 + 101 * k + 1))) PotOk :=
  hm.bind fun c _ => Fine.gd (.inl (.inl (by decide))) (Fine.ok ⟨by omega, by show 0 ≤ ab c % 2147483563 + 101 * k + 1; omega, by show ab c % 2147483563 + 101 * k + 1 < _; omega⟩)
end Tsa
namespace Tsa
open PySem PySem.Spec PyProof.Rows L2
/-! ### tables, plainly -/
section
variable {κ β : Type} [DecidableEq κ]
end
theorem cutG_mem {α : Type} {ys : List α} {lo hi : Option Int} {x : α} (h : x ∈ cutG ys lo hi) : x ∈ ys := by
  unfold cutG at h
  exact List.mem_of_mem_drop (List.mem_of_mem_take h)
theorem cutG_len {α : Type} {ys : List α} {lo hi : Option Int} : (cutG ys lo hi).length ≤ ys.length := by
  unfold cutG
  rw [List.length_take, List.length_drop]
  omega
end Tsa

/-! N13: kinds of things, in a tuple, count. -/
namespace Tsa
open PySem PySem.Spec PyProof.Rows L2
def isIntD : PyData → Bool
  | .int _ => true
  | .bool _ => true
  | _ => false
def isBoolD : PyData → Bool
  | .bool _ => true
  | _ => false
def isTupD : PyData → Bool
  | .tuple _ => true
  | _ => false
def isLstD : PyData → Bool
  | .list _ => true
  | _ => false
def isStrD : PyData → Bool
  | .str _ => true
  | _ => false
def isDctD : PyData → Bool
  | .dict _ => true
  | _ => false
theorem isi_int {K : PySem.W.Frag} (d : PyData) : PySem.W.kitOne K (.type (tyD d)) (.type "int") = some (isIntD d) := by
  cases d <;> kernel_rfl
theorem isi_bool {K : PySem.W.Frag} (d : PyData) : PySem.W.kitOne K (.type (tyD d)) (.type "bool") = some (isBoolD d) := by
  cases d <;> kernel_rfl
theorem isi_tuple {K : PySem.W.Frag} (d : PyData) : PySem.W.kitOne K (.type (tyD d)) (.type "tuple") = some (isTupD d) := by
  cases d <;> kernel_rfl
section
variable {K : PySem.W.Frag} {X : Cx} {C : XC} {pu : Bool} {ω α : Type} {Γ : List SD} {a b o : Expr} {M : Res ω} {pos apos : Pos} {k : Opd → List SD → Res ω → Prop}
/-- x in xs, xs a tuple: typed -/
def InTW [DecidableEq α] (e : α → PyData) (X : Cx) (C : XC) (pu : Bool) {ω : Type} (Γ : List SD) (a b : Expr) (M : Res ω) (k : α → List α → List SD → Res ω → Prop) : Prop :=
  JE X C pu Γ a M fun oa Γ1 M1 => ((∃ s, oa = .own s) ∨ (∃ i, oa = .at i)) ∧ JE X C pu Γ1 b M1 fun ob Γ2 M2 => ∃ x xs, SeeO Γ2 oa (e x) ∧ SeeO Γ2 ob (.tuple (xs.map e)) ∧ k x xs Γ2 M2
/-- an item of a tuple, its place told -/
theorem JE.ixT {i : Int} {j} {p' : Pos} (h : JE X C pu Γ a M fun oa Γ1 M1 => ((∃ s, oa = .own s) ∨ (∃ i, oa = .at i)) ∧ ∃ ys s, SeqV Γ1 oa true ys ∧ atI ys i = some s ∧ k (.own s) Γ1 M1) : JE X C pu Γ (.Subscript a (.Constant (.int i) j p') pos) M k := by
  refine JE.of (pe_ix (ix_any true) pe_sem pe_int (fun _ _ => rfl)) fun F h0 g H σ Q he hf hG hu hx hq => h F h0 g H σ _ he hf hG hu hx fun oa Γ1 M1 ⟨_, ys, s, sv, hs, hk⟩ hm v F' h1 h2 H' x ow he' d hf' hp => ?_
  obtain ⟨p, vs, e, l, z, it⟩ := sv.ok ow he' d hf' hG
  subst e
  obtain ⟨j', ej, ey⟩ := atI_len (xs := vs) l hs
  obtain ⟨y, ey2, wy⟩ := it j' _ ey
  have hy : atI vs i = some y := by unfold atI; rw [ej]; exact ey2
  have fin : Q y H' := hq _ _ M1 hk hm y F' emp h2 H' x wy he' .emp ((hf'.un d).emp) hp
  exact ⟨p, vs, i, y, rfl, rfl, z, hy, fin⟩
/-! ### an own thing is lent for one expression -/
inductive Kp : List SD → Prop
  | nil : Kp []
  | nr {s : SD} {r : List SD} (h : NR s) (t : Kp r) : Kp (s :: r)
  | rd {d : PyData} {r : List SD} (t : Kp r) : Kp (.rd d :: r)
/-! ### a slot that may be filled late -/
def optS {β : Type} (f : β → SD) : Option β → SD
  | none => .hole
  | some x => f x
def optR {β : Type} (o : Option β) (k : β → Res ω) : Res ω := match o with
  | none => .un
  | some x => k x
end
end Tsa

/-! N14: things that may be None, pairs out of lists, d.get(k, []), len(set(..)). -/
namespace Tsa
open PySem PySem.Spec PyProof.Rows L2
/-- None, or an own thing -/
def optV {β : Type} (f : β → SD) : Option β → SD
  | none => .val .none
  | some x => f x
def optC {β ω : Type} (o : Option β) (m : Res ω) (k : β → Res ω) : Res ω := match o with
  | none => m
  | some x => k x
def two {α : Type} : List α → Option (α × α)
  | [a, b] => some (a, b)
  | _ => none
section
variable {K : PySem.W.Frag} {X : Cx} {C : XC} {pu : Bool} {ω α β : Type} {Γ : List SD} {a b o : Expr} {M : Res ω} {pos apos p p2 q : Pos} {k : Opd → List SD → Res ω → Prop}
end
end Tsa

/-! N18: fields of objects: read, indexed, set, written in. -/
namespace Tsa
open PySem PySem.Spec PyProof.Rows L2
/-- a field set, or a new one behind -/
def putS (f : Str) (s : SD) : List (Str × SD) → List (Str × SD)
  | [] => [(f, s)]
  | (n, t) :: r => if n = f then (n, s) :: r else (n, t) :: putS f s r
/-- an object in a slot, and how it is rebuilt -/
inductive ObjM : SD → Addr → List (Str × SD) → (List (Str × SD) → SD) → Prop
  | obj {Ca : Addr} {l : List (Str × SD)} : ObjM (.obj Ca l) Ca l (.obj Ca)
  | pin {v : V} {Ca : Addr} {l : List (Str × SD)} : ObjM (.pin v (.obj Ca l)) Ca l fun l' => .pin v (.obj Ca l')
section
variable {K : PySem.W.Frag} {F G : Hp} {Γ : List SD} {f : Str}
/-- many turns -/
def fuelL : Nat := 2 ^ 400
/-- what a class's object must have to be asked for a field -/
structure HasF (K : PySem.W.Frag) (Ca : Addr) (f : Str) : Prop where
  cls : Cls K Ca
  no : NoAttr K Ca f
end
section
variable {X : Cx} {C : XC} {pu : Bool} {ω : Type} {Γ : List SD} {a b e ie : Expr} {M : Res ω} {pos p pa p2 : Pos} {f : Str} {k : Opd → List SD → Res ω → Prop} {kl : List SD → Res ω → Prop} {en : ω → EndK}
/-- an entry changed, or nothing that is walked -/
def setR {α : Type} (xs : List α) (i : Int) (y : α) : Res (List α) := match ixN xs.length i with
  | some n => .ok (xs.set n y)
  | none => .un
/-! ### methods, classes -/
abbrev FnM (K : PySem.W.Frag) (x q : Str) (st : Stmt) (f : Addr) (fd : FuncData) : Prop := FunD K x q (defArgs st) (defBody st) (defScope st) [] [] f fd
/-- a class's method -/
def HasM (X : Cx) {ι ω : Type} (Ca : Addr) (m : Str) (lv : Nat) (args : ι → List SD) (mir : ι → Res ω) (ret : ι → ω → SD) (out : ι → ω → List SD) (xout : ι → List SD) : Prop := ∃ f, Cls X.K Ca ∧ Meth X.K Ca m f ∧ Callee X lv f args mir ret out xout []
/-- a class's maker -/
def HasK (X : Cx) {ι ω : Type} (x : Str) (Ca : Addr) (lv : Nat) (args : ι → List SD) (mir : ι → Res ω) (ret : ι → ω → SD) (out : ι → ω → List SD) (xout : ι → List SD) : Prop := X.mg x = some (.ref Ca) ∧ ∃ f, Mk X.K Ca f ∧ Callee X lv f args mir ret out xout []
end
end Tsa

/-! G1: graphs, plainly: ties, reach, labels, the tree of a search. -/
namespace Tsa
open PySem PySem.Spec PyProof.Rows L2
theorem nodup_len {α : Type} [DecidableEq α] : ∀ {l L : List α}, l.Nodup → (∀ x ∈ l, x ∈ L) → l.length ≤ L.length
  | [], _, _, _ => Nat.zero_le _
  | x :: l, L, h, s => by
    obtain ⟨h1, h2⟩ := List.nodup_cons.mp h
    have hx := s x (List.mem_cons_self ..)
    have := nodup_len (L := L.erase x) h2 fun y hy => (List.mem_erase_of_ne (fun z : y = x => h1 (by rw [← z]; exact hy))).mpr (s y (List.mem_cons_of_mem _ hy))
    rw [List.length_erase_of_mem hx] at this
    have := List.length_pos_of_mem hx
    rw [List.length_cons]
    omega
section
variable {κ β : Type} [DecidableEq κ]
end
/-! ### ties and reach -/
def Edge (ts : List (Int × Int)) (k u v : Int) : Prop := ∃ p, ts[k.toNat]? = some p ∧ ((p.1 = u ∧ p.2 = v) ∨ (p.2 = u ∧ p.1 = v))
inductive Reach (ts : List (Int × Int)) (ns : List Int) (x : Int) : Int → Prop
  | refl : Reach ts ns x x
  | step {k u v : Int} : Reach ts ns x u → k ∈ ns → Edge ts k u v → Reach ts ns x v
section
variable {ts : List (Int × Int)} {ns ms : List Int} {x y z k p q : Int}
end
/-! ### labels -/
def relab (la lb : Int) (L : List Int) : List Int := L.map fun x => cond (decide (x = lb)) la x
/-- two places have one label where they are reached from each other -/
def LabOk (ts : List (Int × Int)) (ns L : List Int) : Prop := ∀ x y : Int, 0 ≤ x → x.toNat < L.length → 0 ≤ y → y.toNat < L.length → (L[x.toNat]? = L[y.toNat]? ↔ Reach ts ns x y)
end Tsa

/-! G2: the tree of a search, ways back. -/
namespace Tsa
open PySem PySem.Spec PyProof.Rows L2
abbrev TreeL := List (Int × Option (Int × Int))
inductive Tr (ts : List (Int × Int)) (ns : List Int) (n a : Int) : TreeL → Prop
  | root : 0 ≤ a → a < n → Tr ts ns n a [(a, none)]
  | add {l : TreeL} {u v k : Int} : Tr ts ns n a l → u ∈ l.map (·.1) → v ∉ l.map (·.1) → k ∈ ns → Edge ts k u v → 0 ≤ v → v < n → Tr ts ns n a (l ++ [(v, some (k, u))])
/-- back to the root -/
inductive Wk (ts : List (Int × Int)) (ns : List Int) (l : TreeL) (a : Int) : Int → List Int → List Int → Prop
  | stop : Wk ts ns l a a [] []
  | go {v k u : Int} {P R : List Int} : v ≠ a → aGet l v = some (some (k, u)) → k ∈ ns → Edge ts k u v → Wk ts ns l a u P R → Wk ts ns l a v (k :: P) (u :: R)
/-- along ties; what is left on the way -/
inductive Fol (ts : List (Int × Int)) : Int → List Int → Int → List Int → Prop
  | nil {x : Int} : Fol ts x [] x []
  | cons {k x y z : Int} {P Vs : List Int} : Edge ts k x z → Fol ts z P y Vs → Fol ts x (k :: P) y (x :: Vs)
section
variable {ts : List (Int × Int)} {ns : List Int} {n a v : Int} {l : TreeL}
theorem Tr.range (h : Tr ts ns n a l) : ∀ x ∈ l.map (·.1), 0 ≤ x ∧ x < n := by
  induction h with
  | root h0 h1 =>
    intro x hx
    obtain rfl := List.mem_singleton.mp (show x ∈ [a] from hx)
    exact ⟨h0, h1⟩
  | add _ _ _ _ _ v0 v1 ih =>
    intro x hx
    rw [List.map_append] at hx
    rcases List.mem_append.mp hx with hx | hx
    · exact ih x hx
    · obtain rfl := List.mem_singleton.mp hx
      exact ⟨v0, v1⟩
theorem Tr.nodup (h : Tr ts ns n a l) : (l.map (·.1)).Nodup := by
  induction h with
  | root => exact List.nodup_cons.mpr ⟨List.not_mem_nil, List.nodup_nil⟩
  | add _ _ hv _ _ _ _ ih =>
    rw [List.map_append, List.nodup_append]
    refine ⟨ih, List.nodup_cons.mpr ⟨List.not_mem_nil, List.nodup_nil⟩, fun x hx y hy e => ?_⟩
    obtain rfl := List.mem_singleton.mp (show y ∈ [_] from hy)
    exact hv (e ▸ hx)
theorem Tr.len (h : Tr ts ns n a l) : l.length ≤ n.toNat := by
  have := nodup_len (L := rangeL 0 n) h.nodup fun x hx => mem_rangeL.mpr (h.range x hx)
  rw [List.length_map, len_rangeL] at this
  omega
end
/-! ### the steps from a place -/
def stepOne (u k : Int) : Option (Int × Int) → List (Int × Int)
  | some p => (if p.1 = u then [(k, p.2)] else []) ++ (if p.2 = u then [(k, p.1)] else [])
  | none => []
def stepL (ts : List (Int × Int)) (ns : List Int) (u : Int) : List (Int × Int) := ns.flatMap fun k => stepOne u k ts[k.toNat]?
end Tsa

/-! N15: sorted(set(xs)), whole numbers in a list. -/
namespace Tsa
open PySem PySem.Spec PyProof.Rows L2
/-- a set as it is made -/
abbrev newSet (w : World) : Obj := { cls := .type "set", dict := none, data := .set #[] 0 (.fresh 0 0 (!w.params.followText "set-order")) }
section
variable {P : Program} {w : World} {A : Around} {E : Value → Shared → Prop} {s : Shared}
end
end Tsa

/-! N16: sorted(set(xs)), xs * k. -/
namespace Tsa
open PySem PySem.Spec PyProof.Rows L2
/-- sorted(set(xs)) of whole numbers: rising, each once -/
def tSortSet (K : PySem.W.Frag) (ta : TE) : TE := fun σ H Q => ta σ H fun x H1 => ∃ (l : Addr) (ns : List Int), x = .ref l ∧ SqL K H1 l (ns.map V.int) ∧ ns.length < 64 ∧
  ∀ (out : List Int) (p : Addr), out.Pairwise (· < ·) → (∀ k, k ∈ out ↔ k ∈ ns) → H1 p = none → Q (.ref p) (upd H1 p (.lst (out.map V.int)))
/-- each once -/
def once : List Int → List Int
  | [] => []
  | x :: xs => if x ∈ xs then once xs else x :: once xs
theorem mem_once {x : Int} : ∀ {xs : List Int}, x ∈ once xs ↔ x ∈ xs
  | [] => Iff.rfl
  | y :: ys => by
    unfold once
    split
    · rename_i h
      rw [mem_once, List.mem_cons]
      exact ⟨.inr, fun z => z.elim (fun e => e ▸ h) id⟩
    · rw [List.mem_cons, List.mem_cons, mem_once]
theorem once_nodup : ∀ xs : List Int, (once xs).Nodup
  | [] => List.nodup_nil
  | y :: ys => by
    unfold once
    split
    · exact once_nodup ys
    · rename_i h
      exact List.nodup_cons.mpr ⟨fun z => h (mem_once.mp z), once_nodup ys⟩
/-- what sorted(set(..)) gives -/
def sortSet (ns : List Int) : List Int := sortD PyData.int (once ns)
section
variable {K : PySem.W.Frag} {X : Cx} {C : XC} {pu : Bool} {ω : Type} {Γ : List SD} {a b o : Expr} {M : Res ω} {pos apos p p2 q : Pos} {k : Opd → List SD → Res ω → Prop}
end
end Tsa

/-! N17: xs * k. -/
namespace Tsa
open PySem PySem.Spec PyProof.Rows L2
section
variable {K : PySem.W.Frag} {X : Cx} {C : XC} {pu : Bool} {ω α : Type} {Γ : List SD} {a b o : Expr} {M : Res ω} {pos : Pos} {k : Opd → List SD → Res ω → Prop}
def repD (n : Nat) (xs : List α) : List α := (List.replicate n xs).flatten
theorem dtl_app {S : Hp} : ∀ {us vs : List V} {ds es : List PyData}, DtL K S us ds → DtL K S vs es → DtL K S (us ++ vs) (ds ++ es)
  | _, _, _, _, .nil, q => q
  | _, _, _, _, .cons h t, q => .cons h (dtl_app t q)
theorem dtl_rep {S : Hp} {us : List V} {ds : List PyData} (h : DtL K S us ds) : ∀ n : Nat, DtL K S (repD n us) (repD n ds)
  | 0 => .nil
  | n + 1 => by
    unfold repD
    rw [List.replicate_succ, List.replicate_succ, List.flatten_cons, List.flatten_cons]
    exact dtl_app h (dtl_rep h n)
end
end Tsa

/-! N19: calls of methods and makers; isinstance of two; the least of a list; guards ahead. -/
namespace Tsa
open PySem PySem.Spec PyProof.Rows L2
/-- head and tail, or nothing that is walked -/
def unc {α : Type} (xs : List α) : Res (α × List α) := match xs with
  | [] => .un
  | x :: r => .ok (x, r)
section
variable {X : Cx} {C : XC} {pu : Bool} {ω ω' ι : Type} {Γ : List SD} {a b e : Expr} {es : List Expr} {M : Res ω} {pos p apos pn ptt : Pos} {k : Opd → List SD → Res ω → Prop} {m x : Str} {Ca : Addr} {lv : Nat}
  {args : ι → List SD} {mir : ι → Res ω'} {ret : ι → ω' → SD} {out : ι → ω' → List SD} {xout : ι → List SD}
end
end Tsa

/-! N20: a list in a tuple is written. -/
namespace Tsa
open PySem PySem.Spec PyProof.Rows L2
section
variable {X : Cx} {C : XC} {ω : Type} {Γ : List SD} {M : Res ω} {pos p : Pos} {k : Opd → List SD → Res ω → Prop}
end
end Tsa

/-! N21: an index read ahead. -/
namespace Tsa
open PySem PySem.Spec PyProof.Rows L2
section
variable {X : Cx} {C : XC} {pu : Bool} {ω : Type} {Γ : List SD} {a b : Expr} {M : Res ω} {pos : Pos} {k : Opd → List SD → Res ω → Prop}
end
end Tsa

/-! N22: one of two things; zip; a list in a tuple handed to a def. -/
namespace Tsa
open PySem PySem.Spec PyProof.Rows L2
/-! ### one of two things -/
def sumS {α β : Type} (f : α → SD) (g : β → SD) : α ⊕ β → SD
  | .inl a => f a
  | .inr b => g b
def encS {α β : Type} (f : α → PyData) (g : β → PyData) : α ⊕ β → PyData
  | .inl a => f a
  | .inr b => g b
def sumC {α β ω : Type} (x : α ⊕ β) (m : α → Res ω) (k : β → Res ω) : Res ω := match x with
  | .inl a => m a
  | .inr b => k b
section
variable {α β : Type} {f : α → SD} {g : β → SD}
end
/-- the left one, or nothing that is walked; the right one -/
def getL {α β : Type} (x : α ⊕ β) : Option α := match x with
  | .inl a => some a
  | .inr _ => none
def getR {α β : Type} (x : α ⊕ β) : Option β := match x with
  | .inl _ => none
  | .inr b => some b
section
variable {X : Cx} {C : XC} {pu : Bool} {ω α β : Type} {Γ : List SD} {e a b : Expr} {M : Res ω} {pos p pn : Pos} {k : Opd → List SD → Res ω → Prop}
/-! ### zip -/
/-- data, kept or read -/
inductive VR : SD → PyData → Prop
  | val {d : PyData} : VR (.val d) d
  | rd {d : PyData} : VR (.rd d) d
end
end Tsa

/-! N23: a list in a tuple: anything put behind it; handed to a def that changes it. -/
namespace Tsa
open PySem PySem.Spec PyProof.Rows L2
section
variable {X : Cx} {C : XC} {ω : Type} {Γ : List SD} {M : Res ω} {pos p : Pos} {k : Opd → List SD → Res ω → Prop}
end
end Tsa

/-! N24: an item of an own tuple; what is forgotten of it. -/
namespace Tsa
open PySem PySem.Spec PyProof.Rows L2
section
variable {X : Cx} {C : XC} {pu : Bool} {ω : Type} {Γ : List SD} {M : Res ω} {pos p : Pos} {k : Opd → List SD → Res ω → Prop}
end
end Tsa

/-! N25: lending for a reading of any form. -/
namespace Tsa
open PySem PySem.Spec PyProof.Rows L2
section
variable {X : Cx} {C : XC} {ω : Type} {Γ : List SD} {M : Res ω} {k : Opd → List SD → Res ω → Prop}
end
end Tsa

/-! N26: either of two, both gone through. -/
namespace Tsa
open PySem PySem.Spec PyProof.Rows L2
section
variable {X : Cx} {C : XC} {pu : Bool} {ω α β : Type} {Γ : List SD} {e : Expr} {M : Res ω} {k : Opd → List SD → Res ω → Prop}
end
end Tsa

/-! N27: zip of two lists whose things stay. -/
namespace Tsa
open PySem PySem.Spec PyProof.Rows L2
section
variable {X : Cx} {C : XC} {pu : Bool} {ω α β : Type} {Γ : List SD} {e a b : Expr} {M : Res ω} {pos p pn : Pos} {k : Opd → List SD → Res ω → Prop}
end
end Tsa

/-! N28: raise, try .. except X as e, isinstance of the caught one. -/
namespace Tsa
open PySem PySem.Spec PyProof.Rows L2
/-! ### raise -/
/-- an own exception class, without an own __init__ -/
structure ExcK (K : PySem.W.Frag) (x : Str) : Prop where
  xc : PySem.W.excIn K (He.ga K x) He.veBase "ValueError.__new__" = true
  kp : PySem.W.keepIn K (.ref (He.ga K x)) = true
  sb : PySem.W.subIn K (.ref (He.ga K x)) (.type "BaseException") = some true
  ty : PySem.W.typeIn K (.ref (He.ga K x)) = some (.type "type")
theorem excK_ok {K : PySem.W.Frag} {x : Str} (c : (He.Fa.exc x).ok K = true) : ExcK K x := by
  obtain ⟨a, b, d, e⟩ := He.exc_ok c
  exact ⟨a, b, d, e⟩
section
variable {X : Cx} {C : XC} {pu : Bool} {ω : Type} {Γ : List SD} {M : Res ω} {k : List SD → Res ω → Prop} {en : ω → EndK}
theorem JS.raise {cn m : Str} {j : Nat} {p p2 p3 pos : Pos} (tk : L2N.Takes X C.E) (hc : X.calm = true) (ex : ExcK X.K cn) (gC : X.mg cn = some (.ref (He.ga X.K cn))) (hM : M = .ex ⟨cn, []⟩) (hl : Le Γ C.Γx) (hg : Gl X cn := by rfl) (hdb : (cn == ("__debug__" : Str)) = false := by decide) :
    JS X C Γ (.Raise (some (.Call (.Name cn p) [.Constant (.str m) j p2] [] p3)) none pos) M k en :=
  JS.of (L2N.ps_raise hc tk (L2N.pmk_own PySem.F.excBase_ValueError ex.xc gC ex.kp (raises_own ex.sb ex.ty) hg hdb)) fun F h g H σ D he hf hG hu hx hk hn => by
    subst hM
    exact hx _ rfl _ none F emp h H σ .refl ⟨rfl, .inl ⟨rfl, rfl⟩⟩ (hl.ok he) .emp hf.emp
end
/-! ### try -/
/-- what the body gives, or what the suite makes of an exception -/
def tryR {β ω : Type} (Mb : Res β) (Ms : Exn → Res ω) (kM : β → Res ω) : Res ω := match Mb with
  | .ok b => kM b
  | .ex e => Ms e
  | .un => .un
/-- the caught one, what is its own -/
def excS (a : Addr) (od : Option Addr) (l : List (Str × SD)) : SD := .pin (.ref a) (match od with
  | none => .hole
  | some d => .atv (.ref d) (.xds l))
theorem excS_own {K : PySem.W.Frag} {F G h : Hp} {a : Addr} {od : Option Addr} {e : Exn} {c : Value} (h1 : ExnOwn K F G h e c od) : own K F G (excS a od e.flds) h (.ref a) := by
  obtain ⟨_, h1⟩ := h1
  unfold excS own
  refine ⟨rfl, ?_⟩
  rcases h1 with ⟨_, rfl⟩ | ⟨d, rfl, w⟩
  · show own K F G .hole h _
    unfold own; trivial
  · show own K F G (.atv _ _) h _
    unfold own
    exact w
/-- the context of a suite: the exception is in hand -/
structure SuiteCx (X : Cx) (a : Addr) (c : Value) (od : Option Addr) : Prop where
  pin : ∃ oe, (a, oe) ∈ X.pn ∧ L2N.Zn c od oe ∧ ∃ vs, oe.data = .fields vs
  hd : X.A.handled = some (.ref a)
theorem takesF {X : Cx} : L2N.Takes X (fun _ _ _ _ => False) := fun _ _ x => by
  obtain ⟨_, _, _, _, _, _, _, _, _, _, _, _, _, _, _, _, z⟩ := x
  exact z.elim
section
variable {X : Cx} {C : XC} {pu : Bool} {ω β : Type} {Γ Γx : List SD} {M : Res ω} {k : List SD → Res ω → Prop} {en : ω → EndK} {i : Nat} {n x cn : Str} {body suite : List Stmt} {b₀ : Stmt} {np pos pos' : Pos} {Mb : Res β} {Ms : Exn → Res ω} {kM : β → Res ω}
theorem JS.tryAs (hst : X.stack = X.env :: X.outer) (hfr : X.env.frame = some X.env.locals) (hN : X.N.Nodup) (hi : X.N[i]? = some n) (hln : X.env.kindOf n = some .local)
    (hc : Names X x (.ref (He.ga X.K x))) (hM : M = tryR Mb Ms kM) (hxm : ∀ e, Mb = .ex e → PySem.W.exmOne X.K (.ref (He.ga X.K e.cls)) (.ref (He.ga X.K x)) = some true) (nex : ∀ e e', Ms e ≠ .ex e')
    (hb : ∀ (pn : List (Addr × Obj)) (xe : Value → Shared → Prop) (E : WX), L2N.Takes (X.tr pn xe) E → PassesOwn (model X.prog X.w) X.A X.env xe → JL (X.tr pn xe) ⟨E, Γx, C.G⟩ Γ body Mb (fun Γ' M' => ∃ b, M' = .ok b ∧ k Γ' (kM b)) fun _ => .no)
    (hs : ∀ e, Mb = .ex e → ∀ (a : Addr) (od : Option Addr) (pn : List (Addr × Obj)) (oe : Obj), SuiteCx (X.suite a ((a, oe) :: pn)) a (.ref (He.ga X.K e.cls)) od → (e.flds = [] ∨ ∃ d, od = some d) →
      JL (X.suite a ((a, oe) :: pn)) (noE C) (Γx.set i (excS a od e.flds)) (b₀ :: suite) (Ms e) (fun Γ' M' => k (Γ'.set i .hole) M') en)
    (hnb : ∀ w, ∀ Γ', en w ≠ .bk Γ' ∧ en w ≠ .ct Γ') (hii : i < Γx.length) (hΓi : Γx[i]? = some .hole) :
    JS X C Γ (.Try body [.ExceptHandler (some (.Name x np)) (some n) (b₀ :: suite) pos'] [] [] pos) M k en := by
  subst hM
  have oeOf : ∀ {cls : Value} {d : Option Addr} {oe : Obj}, L2N.Zn cls d oe → (∃ vs, oe.data = .fields vs) → ∃ vs, oe.data = .fields vs := fun _ z => z
  intro F h g H σ D he hf hG hu hx hk hn
  refine semS_of (L2N.ps_try_as (Wout := fun _ _ _ _ => False) (c := .ref (He.ga X.K x)) (ts := fun a cls d D σ H => ∀ oe pn, L2N.Zn cls d oe → (∃ vs, oe.data = .fields vs) → semL (X.suite a ((a, oe) :: pn)) (b₀ :: suite) D σ H) (tb := fun W D σ H => ∀ (pn : List (Addr × Obj)) (xe : Value → Shared → Prop), L2N.Takes (X.tr pn xe) W → PassesOwn (model X.prog X.w) X.A X.env xe → semL (X.tr pn xe) body D σ H) hst hfr hN hi hln hc takesF
    (fun W pn xe tk po => ⟨fun pins s σ H D I z => semL_run (z pn xe tk po) pins s I⟩)
    (fun a oe cls d pn zn vs => ⟨fun pins s σ H D I z => semL_run (z oe pn zn vs) pins s I⟩)) ?_
  intro pn xe tk po
  refine hb pn xe _ tk po F h g H σ D he hf hG (fun z => hu (by rw [z]; rfl)) (fun e hee c od F' hx' h' H' σ' s1 en' ev dd ff => ?_) (fun Γ' M' ⟨b, e1, hkk⟩ hm F' h' σ' H' s1 ev ff => ?_) fun _ _ => trivial
  · obtain ⟨e1, e2⟩ := id en'
    subst e1
    refine ⟨true, hxm e hee, fun _ a na oe pn2 zn vs => ?_, fun z => nomatch z⟩
    have sl : i < σ'.length := by rw [ev.len]; exact hii
    have he2 : EnvR X.K F' C.G (Γx.set i (excS a od e.flds)) (cup hx' h') (σ'.set i (some (.ref a))) := by
      obtain ⟨o, k1, k2, _, q1, q2, q3, _, back⟩ := ev.at hΓi
      exact back F' (excS a od e.flds) (some (.ref a)) hx' (cup hx' h') .refl (ff.fg.mono .refl hG) (.of (excS_own en')) (dd.mono .refl q2) .l (q2.trans (.r dd))
    have hee2 : tryR Mb Ms kM = Ms e := by rw [hee]; rfl
    refine hs e hee a od pn2 oe ⟨⟨oe, List.mem_cons_self .., zn, vs⟩, rfl⟩ (e2.elim (fun z => .inl z.1) fun ⟨d, z, _⟩ => .inr ⟨d, z⟩) F' (cup hx' h') g H' _ _ he2 ff hG (fun z => hu (by rw [hee2, z])) (fun e' z => absurd z (nex e e')) (fun Γ' M' hkk hm F2 h2 σ2 H2 s2 ev2 ff2 => ?_) fun w hw => ?_
    · refine hk _ M' hkk (by rw [hm, hee2]) F2 h2 _ H2 (s1.trans s2) ?_ ff2
      by_cases c : i < Γ'.length
      · obtain ⟨s0, hs0⟩ : ∃ s0, Γ'[i]? = some s0 := ⟨_, List.getElem?_eq_getElem c⟩
        obtain ⟨o, k1, k2, _, q1, q2, q3, _, back⟩ := ev2.at hs0
        exact back F2 .hole none emp h2 .refl (ff2.fg.mono .refl hG) trivial .emp .emp q2
      · have e1 : Γ'.set i .hole = Γ' := List.set_eq_of_length_le (by omega)
        have e2 : σ2.set i none = σ2 := List.set_eq_of_length_le (by rw [ev2.len]; omega)
        rw [e1, e2]
        exact ev2
    · have z := hn w (by rw [hee2, hw])
      have nb := hnb w
      cases ew : en w with
      | rt s Γ2 =>
        rw [ew] at z
        exact fun v F2 h1 h2 σ2 H2 x2 ow ev2 dd2 ff2 => z v F2 h1 h2 σ2 H2 (s1.trans x2) ow ev2 dd2 ff2
      | bk Γ2 => exact absurd ew (nb Γ2).1
      | ct Γ2 => exact absurd ew (nb Γ2).2
      | no => trivial
  · have hee2 : tryR Mb Ms kM = kM b := by rw [← hm, e1]; rfl
    exact hk _ (kM b) hkk hee2.symm F' h' σ' H' s1 ev ff
end
end Tsa

/-! N29: in a suite: isinstance of the caught one; defs called there. -/
namespace Tsa
open PySem PySem.Spec PyProof.Rows L2
/-! ### isinstance(e, X), e the caught one -/
/-- isinstance of an instance at a whose dict is at od -/
def rIsX (K : PySem.W.Frag) (D a : Addr) (od : Option Addr) : List V → Hp → VK → Prop := fun xs H Q => ∃ (c : V) (cv : Value) (b : Bool), xs = [.ref a, c] ∧ (∀ u, RelV c u → u = cv) ∧ PySem.W.kitOne K (.ref D) cv = some b ∧ (∀ d, od = some d → ∃ fs, H d = some (.xd fs)) ∧ Q (.bl b) H
theorem call_isX {X : Cx} {a D : Addr} {od : Option Addr} {oe : Obj} (hp : (a, oe) ∈ X.pn) (C : ExcC X.K D) (hz : Zc (.ref D) od oe) (hf : ∃ vs, oe.data = .fields vs) : CallR X (.builtin "isinstance") (rIsX X.K D a od) := by
  intro pins s σ H xs us Q I r h
  obtain ⟨c, cv, b, rfl, hcv, e, hd, q⟩ := h
  cases r with
  | cons rx rr =>
    cases rr with
    | cons rt rr =>
      cases rr
      cases rx
      have ec := hcv _ rt
      subst ec
      obtain ⟨hget, _⟩ := I.pin (a, oe) (List.mem_append.mpr (.inl hp))
      obtain ⟨vs, hv⟩ := hf
      have J : ∃ oD, PySem.W.InstAt s.heap a oe D oD := by
        obtain ⟨h1, h2⟩ := hz
        cases od with
        | none => exact ⟨none, hget, h1, by unfold PySem.W.notCls; rw [hv] <;> rfl, by rw [h2]; trivial⟩
        | some d =>
          obtain ⟨fs, hd⟩ := hd d rfl
          have hx : ObjOk X.prog X.w H s.heap d (.xd fs) := I.hok d _ hd
          obtain ⟨mA, hns, hr⟩ := hx
          obtain ⟨oo, ho, hl⟩ := lookIn_ns hns
          exact ⟨some oo, hget, h1, by unfold PySem.W.notCls; rw [hv] <;> rfl, by rw [h2]; exact ho⟩
      obtain ⟨oD, J⟩ := J
      obtain ⟨cd, hcl, _⟩ := PySem.W.any_some C.hd
      exact PySem.W.kia_one (PySem.W.kitx_exc (by rw [hcl]; rfl) C.hg C.hk C.hs C.ha C.hn C.ht C.hm) I.kIn J e (fun z => nomatch z) fun tk => ⟨.bl b, H, I.kept (t' := tk) fun _ _ z => z, rfl, q⟩
/-- what a slot with the caught one is -/
inductive ExcAt : SD → Addr → Option Addr → Prop
  | caught {a : Addr} {od : Option Addr} {l : List (Str × SD)} : ExcAt (excS a od l) a od
  | given {a : Addr} {od : Option Addr} {l : List (Str × SD)} : ExcAt (.pin (.ref a) (excS a od l)) a od
section
variable {K : PySem.W.Frag} {X : Cx} {C : XC} {pu : Bool} {ω : Type} {Γ : List SD} {e : Expr} {M : Res ω} {pos p pn : Pos} {k : Opd → List SD → Res ω → Prop}
theorem excS_in {F G h : Hp} {a : Addr} {od : Option Addr} {l : List (Str × SD)} {v : V} (q : own K F G (excS a od l) h v) : v = .ref a ∧ ∀ d, od = some d → ∃ fs, h d = some (.xd fs) := by
  unfold excS own at q
  refine ⟨q.1, fun d ed => ?_⟩
  subst ed
  have w := q.2
  dsimp only at w
  unfold own own at w
  obtain ⟨pp, fs, h', e1, e2, _⟩ := w
  cases e1
  exact ⟨fs, e2⟩
theorem ExcAt.ok {F G h : Hp} {s : SD} {a : Addr} {od : Option Addr} {v : V} (x : ExcAt s a od) (q : own K F G s h v) : v = .ref a ∧ ∀ d, od = some d → ∃ fs, h d = some (.xd fs) := by
  cases x with
  | caught => exact excS_in q
  | given =>
    unfold own at q
    exact ⟨q.1, (excS_in q.2).2⟩
theorem ExcAt.ne {s : SD} {a : Addr} {od : Option Addr} (x : ExcAt s a od) : s ≠ .hole := fun z => by
  subst z
  cases x
/-- isinstance(e, X), X an own class -/
theorem JE.isX {i : Nat} {s : SD} {a Cc D : Addr} {od : Option Addr} {oe : Obj} {n x : Str} {q : Pos} {b : Bool} (hΓ : Γ[i]? = some s) (hs : ExcAt s a od) (hp : (a, oe) ∈ X.pn) (hz : Zc (.ref D) od oe) (hf : ∃ vs, oe.data = .fields vs) (EC : ExcC X.K D) (hm : X.mg "isinstance" = none) (hmx : X.mg x = some (.ref Cc))
    (hb : PySem.W.kitOne X.K (.ref D) (.ref Cc) = some b) (hk : k (.own (.val (.bool b))) Γ M) (hN : X.N[i]? = some n := by rfl) (hgx : Gl X x := by rfl) (hdx : (x == ("__debug__" : Str)) = false := by decide) (hg : Gl X "isinstance" := by rfl)
    (hv : Vis X.env.scope n := by first | exact Or.inl rfl | exact Or.inr (Or.inl rfl) | exact Or.inr (Or.inr rfl)) (hdn : (n == ("__debug__" : Str)) = false := by decide) (hcd : (n == ("__classdict__" : Str)) = false := by decide)
    (hst : starEach ((.Name n q) :: [.Name x p]) X.env = (false, eval (.Name n q) X.env) :: starEach [.Name x p] X.env := by rfl)
    (hs2 : starEach (.Name x p :: []) X.env = (false, eval (.Name x p) X.env) :: starEach [] X.env := by rfl) (hpl : (backTo pos (starEach [.Name x p] X.env)).any (·.1) = false := by rfl) : JE X C pu Γ (.Call (.Name "isinstance" pn) [.Name n q, .Name x p] [] pos) M k := by
  refine JE.of (pe_callB (call_isX hp EC hz hf) hg hm (by rfl) (pa_cons (pe_var hN hv hdn hcd) (pa_cons (pe_glob (v := .ref Cc) hgx hmx rfl hdx) pa_nil (hs := hs2)) (hs := hst)) (by decide) (by decide) hst hpl) ?_
  intro F h g H σ Q he hf' hG hu hx hq
  obtain ⟨o, h1, h2, eo, s1, s2, d12, w, back⟩ := he.at hΓ
  obtain ⟨v, rfl, wv⟩ := w.val hs.ne
  obtain ⟨rfl, hd⟩ := hs.ok wv
  refine ⟨_, eo, ?_⟩
  exact ⟨.ref Cc, .ref Cc, b, rfl, fun u r => r, hb, fun d ed => by
    obtain ⟨fs, e1⟩ := hd d ed
    exact ⟨fs, hf'.hH _ _ (s1 _ _ e1)⟩, hq _ _ _ hk rfl (.bl b) F emp h H .refl (by unfold OpdOk own; exact .bl b) he .emp hf'.emp fun _ => ⟨.refl, rfl⟩⟩
/-- .. a built-in one -/
theorem JE.isXT {i : Nat} {s : SD} {a D : Addr} {od : Option Addr} {oe : Obj} {n x : Str} {T : String} {q : Pos} {b : Bool} (hΓ : Γ[i]? = some s) (hs : ExcAt s a od) (hp : (a, oe) ∈ X.pn) (hz : Zc (.ref D) od oe) (hf : ∃ vs, oe.data = .fields vs) (EC : ExcC X.K D) (hm : X.mg "isinstance" = none) (hmx : X.mg x = none)
    (hb : PySem.W.kitOne X.K (.ref D) (.type T) = some b) (hk : k (.own (.val (.bool b))) Γ M) (hvT : bootBuiltins x = some (.type T) := by rfl) (hnx : x ≠ "__name__" := by decide) (hN : X.N[i]? = some n := by rfl) (hgx : Gl X x := by rfl) (hdx : (x == ("__debug__" : Str)) = false := by decide) (hg : Gl X "isinstance" := by rfl)
    (hv : Vis X.env.scope n := by first | exact Or.inl rfl | exact Or.inr (Or.inl rfl) | exact Or.inr (Or.inr rfl)) (hdn : (n == ("__debug__" : Str)) = false := by decide) (hcd : (n == ("__classdict__" : Str)) = false := by decide)
    (hst : starEach ((.Name n q) :: [.Name x p]) X.env = (false, eval (.Name n q) X.env) :: starEach [.Name x p] X.env := by rfl)
    (hs2 : starEach (.Name x p :: []) X.env = (false, eval (.Name x p) X.env) :: starEach [] X.env := by rfl) (hpl : (backTo pos (starEach [.Name x p] X.env)).any (·.1) = false := by rfl) : JE X C pu Γ (.Call (.Name "isinstance" pn) [.Name n q, .Name x p] [] pos) M k := by
  refine JE.of (pe_callB (call_isX hp EC hz hf) hg hm (by rfl) (pa_cons (pe_var hN hv hdn hcd) (pa_cons (pe_bltn (v := .ty T) hgx hmx hvT rfl hnx hdx) pa_nil (hs := hs2)) (hs := hst)) (by decide) (by decide) hst hpl) ?_
  intro F h g H σ Q he hf' hG hu hx hq
  obtain ⟨o, h1, h2, eo, s1, s2, d12, w, back⟩ := he.at hΓ
  obtain ⟨v, rfl, wv⟩ := w.val hs.ne
  obtain ⟨rfl, hd⟩ := hs.ok wv
  refine ⟨_, eo, ?_⟩
  exact ⟨.ty T, .type T, b, rfl, fun u r => r, hb, fun d ed => by
    obtain ⟨fs, e1⟩ := hd d ed
    exact ⟨fs, hf'.hH _ _ (s1 _ _ e1)⟩, hq _ _ _ hk rfl (.bl b) F emp h H .refl (by unfold OpdOk own; exact .bl b) he .emp hf'.emp fun _ => ⟨.refl, rfl⟩⟩
end
end Tsa

/-! N30: where an exception is handled: comprehensions over ranges; defs called there. -/
namespace L2
open PySem PySem.Spec PyProof.Rows
section
variable {X : Cx}
end
end L2
namespace Tsa
open PySem PySem.Spec PyProof.Rows L2
section
variable {K : PySem.W.Frag} {X : Cx} {C : XC} {pu : Bool} {ω : Type} {Γ : List SD} {e a b c tg iter elt : Expr} {M : Res ω} {pos : Pos} {k : Opd → List SD → Res ω → Prop}
/-- as JSrc, by what is walked -/
def JSrcW (wi : TI) (X : Cx) (C : XC) (pu : Bool) {ω : Type} (Γ : List SD) (M : Res ω) (kS : List SD → List SD → Res ω → Prop) : Prop :=
  ∀ (F h g H : Hp) (σ : L2.St) (R : It → Hp → Prop), EnvR X.K F C.G Γ h σ → Fits F h g H → Sub C.G g → M ≠ .un → XOk X.K C F g M →
    (∀ ys Γ' M', kS ys Γ' M' → M' = M → ∀ (F' hl h2 H' : Hp) (J : It), Sub F F' → EnvR X.K F' C.G Γ' h2 σ → Fits F' h2 (cup hl g) H' → Dis hl g → SrcGood X.K C.G F' (cup hl g) J ys → (pu = true → Sub h h2 ∧ Γ' = Γ) → R J H') → wi σ H R
abbrev lcTW (wi : TI) (X : Cx) (scope : Scope) (own' : List (Str × Nat)) (tg : Expr) (ifs : List Expr) (elt : Expr) : TE := tLc wi (fun v σ H Q => Blk X scope fun X' => semG X' tg v σ H Q) (semIfs X scope ifs) (fun σ H Q => Blk X scope fun X' => semE X' elt σ H Q) (own'.map (·.2))
end
end Tsa

/-! N31: defs that are called with the caught exception, in its suite. -/
namespace Tsa
open PySem PySem.Spec PyProof.Rows L2
structure FnGH (P : Program) (w : World) (K : PySem.W.Frag) (mg : Str → Option Value) (base : Heap) (k : Nat) (f : Addr) (fd : FuncData) (ps : List Str) (sp : Addr → Value → Option Addr → Sp) : Prop where
  len : ∀ a c od vs H Q E, sp a c od vs H Q E → vs.length = ps.length
  run : ∀ (A : Around) (outer : List Env) (s : Shared) (H : Hp) (args : PySem.Args) (us : List Value) (vs : List V) (Q : VK) (E : XK) (p : Addr × Obj) (c : Value) (od : Option Addr), L2H.RoomH k A → L2H.Hot1 A p → L2H.PinOk outer H s p → L2N.Zn c od p.2 → (∃ vs, p.2.data = .fields vs) → Env0 P w K mg base A outer s H →
    BindsTo s fd args (ps.zip us) → Vals vs us → sp p.1 c od vs H Q E → codeAny (model P w) A (.call (.ref f) args) (CR (L2N.CX P w) outer P w H s Q E) s
/-- e's class and fields say what comes -/
def SpMH {ω : Type} (K : PySem.W.Frag) (mir : Exn → Res ω) (ret : ω → SD) : Addr → Value → Option Addr → Sp := fun a c od vs H Q E =>
  vs = [.ref a] ∧ ∃ (e : Exn) (F h g : Hp), c = .ref (He.ga K e.cls) ∧ NRF e.flds ∧ own K F g (excS a od e.flds) h (.ref a) ∧ Fits F h g H ∧ mir e ≠ .un ∧ (∀ x, mir e ≠ .ex x) ∧
    ∀ r, mir e = .ok r → ∀ (v : V) (F' h1 h2 H' : Hp), Sub F F' → own K F' emp (ret r) h1 v → own K F' emp (excS a od e.flds) h2 (.ref a) → Dis h1 h2 → Fits F' (cup h1 h2) g H' → Q v H'
/-- the context of such a def's body -/
structure BodyH (X : Cx) (k : Nat) (a : Addr) (c : Value) (od : Option Addr) : Prop where
  room : L2H.RoomH k X.A
  hot : L2H.HotC X
  hd : X.A.handled = some (.ref a)
  own : PassesOwn (model X.prog X.w) X.A X.env X.xe
  pin : ∃ oe, (a, oe) ∈ X.pn ∧ L2N.Zn c od oe ∧ ∃ vs, oe.data = .fields vs
theorem env_holes {K : PySem.W.Frag} {F G : Hp} {h : Hp} : ∀ {n : Nat}, EnvR K F G (List.replicate n .hole) h (List.replicate n none)
  | 0 => rfl
  | n + 1 => ⟨none, List.replicate n none, emp, h, rfl, .emp, .refl, .emp, trivial, env_holes (n := n)⟩
theorem NR.excS {a : Addr} {od : Option Addr} {l : List (Str × SD)} (n : NRF l) : NR (excS a od l) := fun K F G G' h v q => by
  unfold Tsa.excS own at q ⊢
  refine ⟨q.1, ?_⟩
  have q := q.2
  cases od with
  | none =>
    show own K F G' .hole h v
    unfold own; trivial
  | some d =>
    show own K F G' (.atv (.ref d) (.xds l)) h v
    have q : own K F G (.atv (.ref d) (.xds l)) h v := q
    unfold own at q ⊢
    exact NR.xds n _ _ _ _ _ _ q
section
variable {P : Program} {w : World} {K : PySem.W.Frag} {mg : Str → Option Value} {base : Heap} {x qual : Str} {params : Arguments} {body : List Stmt} {scope : Scope} {dvs : List V} {kws : List (Str × V)} {f : Addr} {fd : FuncData} {N ps : List Str} {k : Nat}
theorem fnGH_of {ω : Type} {mir : Exn → Res ω} {ret : ω → SD} {n : Nat} {p0 : Str} (F : FunD K x qual params body scope dvs kws f fd) (S : FnScope N [p0] scope) (hN : N.length = 1 + n) (nr : ∀ r, NR (ret r))
    (hb : ∀ (cdv : Value) (A : Around) (outer : List Env) (s : Shared) (H : Hp) (E : XK) (p : Addr × Obj) (a : Addr) (od : Option Addr) (G : Hp) (e : Exn), BodyH (L2H.cxH (L2N.CX P w) P w K mg base N qual scope f cdv A outer s H E p) k a (.ref (He.ga K e.cls)) od →
      JL (L2H.cxH (L2N.CX P w) P w K mg base N qual scope f cdv A outer s H E p) ⟨fun _ _ _ _ => False, [], G⟩ (.pin (.ref a) (excS a od e.flds) :: List.replicate n .hole) body (mir e)
        (fun Γ' M' => ∃ r, M' = .ok r ∧ ret r = .val .none ∧ Le Γ' (.pin (.ref a) (excS a od e.flds) :: List.replicate n .hole)) fun r => .rt (ret r) (.pin (.ref a) (excS a od e.flds) :: List.replicate n .hole)) :
    FnGH P w K mg base (k + 1) f fd [p0] (SpMH K mir ret) := by
  obtain ⟨oc, od0, dV, kV, doc, pm, an, cdv, ct, osl, efd, look, code, _, _⟩ := F.ex
  subst efd
  refine ⟨fun a c od vs H Q E ⟨e, _⟩ => by rw [e]; rfl, ?_⟩
  intro A outer s H args us vs Q E p c od room hot hpin zn hf env bind rel spec
  have spec0 := spec
  obtain ⟨evs, e, F0, h, g, ec, nrf, ow, fit, hu, hnx, hq⟩ := spec
  have count : vs.length = [p0].length := by rw [evs]; rfl
  have stays : ∀ b o, base.get? b = some o → s.heap.get? b = some o := fun b o e => (env.bs b o e).1
  have inK : K.In s.heap := env.mod.kin.keeps stays
  have free := env.mod.nolimit.keeps stays
  have kinds : ∀ y ∈ [p0].zip us, scope.names.lookup y.1 = some .local ∨ (scope.names.lookup y.1 = some .cell ∧ ((cellsFrom (s.heap.objs.size + 1) scope.names []).lookup y.1).isSome = true) := by
    intro y hy
    obtain ⟨n, v⟩ := y
    cases S.par n (List.of_mem_zip hy).1 with
    | inl q => exact Or.inl q
    | inr q => exact Or.inr ⟨q, PySem.W.cellsFrom_some _ _ _ (Or.inl q)⟩
  refine codeAny_call_function room.depth (inK _ _ look) rfl S.co S.gen rfl (PySem.W.codeRec_of inK code) (bind _ _ _ _ ?_)
  refine wpAny_newFunctionEnv_cells S.kind kinds ?_
  intro en hen s1 made
  subst hen
  have lim1 := free.keeps made.toInCall.keep
  refine ⟨lim1, codeAny_func ?_⟩
  have begun : Inv (L2H.cxH (L2N.CX P w) P w K mg base N qual scope f cdv A outer s H E p) [] (L2.start N vs) H s1 := L2H.inv_startH S hpin env count rel made
  have est : EnvR K F0 g (.pin (.ref p.1) (excS p.1 od e.flds) :: List.replicate n .hole) h (L2.start N vs) := by
    have eS : L2.start N vs = some (.ref p.1) :: List.replicate n none := by
      unfold L2.start
      rw [hN, evs]
      have e1 : 1 + n - [V.ref p.1].length = n := by show 1 + n - 1 = n; omega
      rw [e1]
      rfl
    rw [eS]
    refine ⟨_, _, h, emp, rfl, .refl, .emp, Dis.emp.symm, ⟨_, rfl, ?_⟩, ?_⟩
    · unfold own; exact ⟨rfl, ow⟩
    · exact env_holes
  have went := semL_run (hb cdv A outer s H E p p.1 od g e ⟨room.deeper _, ⟨p, hot, List.mem_cons_self ..⟩, hot.1, passes_of rfl, ⟨p.2, List.mem_cons_self .., ec ▸ zn, hf⟩⟩ F0 h g H (L2.start N vs) { nx := fun _ H' => Q .non H', rt := Q } est fit .refl hu (fun x z => absurd z (hnx x))
    (fun Γ' M' ⟨r, e1, e2, hl⟩ hm F' h' σ' H' s1 ev ff => ?_) (fun r hr' v F' h1 h2 σ' H' s1 ow' ev d ff => ?_)) [] s1 begun
  · refine wpAny_mono went ?_ (fun _ _ z => z)
    intro fl s' leaves
    cases fl with
    | brk => exact leaves.elim fun _ z => z.elim fun _ z => z.2.elim
    | cont => exact leaves.elim fun _ z => z.elim fun _ z => z.2.elim
    | next =>
      obtain ⟨σ', H', J, q⟩ := leaves
      exact ⟨V.non, H', J.os, J.bare, J.base, J.hok, rfl, q⟩
    | ret u =>
      obtain ⟨v, σ', H', J, rv, q⟩ := leaves
      exact ⟨v, H', J.os, J.bare, J.base, J.hok, rv, q⟩
  · obtain ⟨o, σr, k1, k2, e3, s3, s4, d3, w3, _⟩ := hl.ok ev
    obtain ⟨v1, ev1, w3⟩ := w3
    unfold own at w3
    refine hq r (by rw [← hm, e1]) .non F' emp h' H' s1 (by rw [e2]; unfold own; exact .non) ?_ .emp ff.emp
    exact NR.excS nrf _ _ _ _ _ _ (own_mono .refl .refl _ s3 (by rw [← w3.1]; exact w3.2))
  · obtain ⟨o, σr, k1, k2, e3, s3, s4, d3, w3, _⟩ := ev
    obtain ⟨v1, ev1, w3⟩ := w3
    unfold own at w3
    refine hq r hr' v F' h1 h2 H' s1 (nr r _ _ _ _ _ _ ow') ?_ d ff
    exact NR.excS nrf _ _ _ _ _ _ (own_mono .refl .refl _ s3 (by rw [← w3.1]; exact w3.2))
end
/-! ### the call -/
/-- a def by its name, called with the caught one -/
def HasH (X : Cx) {ω : Type} (x : Str) (lv : Nat) (mir : Exn → Res ω) (ret : ω → SD) : Prop := ∃ f fd p0, X.mg x = some (.ref f) ∧ PySem.W.keepIn X.K (.ref f) = true ∧ FnGH X.prog X.w X.K X.mg X.base lv f fd [p0] (SpMH X.K mir ret) ∧ Binds X.K fd [p0] []
section
variable {X : Cx} {C : XC} {pu : Bool} {ω ω' : Type} {Γ : List SD} {M : Res ω} {pos p q : Pos} {k : Opd → List SD → Res ω → Prop} {mir : Exn → Res ω'} {ret : ω' → SD}
theorem hasH_of {x : Str} {st : Stmt} {lv : Nat} {p0 : Str} (h : ∃ f fd, X.mg x = some (.ref f) ∧ FnP X.K x st f fd) (g : ∀ f fd, FnP X.K x st f fd → FnGH X.prog X.w X.K X.mg X.base lv f fd [p0] (SpMH X.K mir ret)) (b : ∀ f fd, FnP X.K x st f fd → Binds X.K fd [p0] []) : HasH X x lv mir ret := by
  obtain ⟨f, fd, e, F⟩ := h
  exact ⟨f, fd, p0, e, F.kp, g f fd F, b f fd F⟩
theorem JE.callH {fn n : Str} {lv i : Nat} {a : Addr} {od : Option Addr} {oe : Obj} {e : Exn} {kM : ω' → Res ω} (c : HasH X fn lv mir ret) (hr : L2H.RoomH lv X.A) (hp : (a, oe) ∈ X.pn) (hd : X.A.handled = some (.ref a)) (zn : L2N.Zn (.ref (He.ga X.K e.cls)) od oe) (hf : ∃ vs, oe.data = .fields vs) (nr : ∀ r, NR (ret r))
    (hΓ : Γ[i]? = some (excS a od e.flds)) (nrf : NRF e.flds) (hM : M = (mir e).bind kM) (nx : ∀ x, mir e ≠ .ex x) (hk : ∀ r, mir e = .ok r → k (.own (ret r)) Γ (kM r))
    (hN : X.N[i]? = some n := by rfl) (hv : Vis X.env.scope n := by first | exact Or.inl rfl | exact Or.inr (Or.inl rfl) | exact Or.inr (Or.inr rfl)) (hdn : (n == ("__debug__" : Str)) = false := by decide) (hcd : (n == ("__classdict__" : Str)) = false := by decide)
    (hg : Gl X fn := by rfl) (hdb : (fn == ("__debug__" : Str)) = false := by decide)
    (he : starEach [.Name n q] X.env = (false, eval (.Name n q) X.env) :: starEach [] X.env := by rfl) (hpl : (backTo pos (starEach [] X.env)).any (·.1) = false := by rfl) : JE X C false Γ (.Call (.Name fn p) [.Name n q] [] pos) M k := by
  obtain ⟨f, fd, p0, e1, kp, Fn, hb⟩ := c
  obtain ⟨vs0, hvs0⟩ := id hf
  have hot : L2H.Hot1 X.A (a, oe) := ⟨hd, vs0, hvs0, zn.2.2 vs0 hvs0⟩
  have run : PE X (.Call (.Name fn p) [.Name n q] [] pos) (fun σ H Q => (tCons (fun σ H Q => ∃ v, σ[i]? = some (some v) ∧ Q v H) tNil) σ H fun vs H1 => SpMH X.K mir ret a (.ref (He.ga X.K e.cls)) od vs H1 Q (fun _ _ _ => False)) := by
    refine ⟨fun pins s σ H Q I h => ?_⟩
    refine wpAny_Call_Name_kw (ld_glob I hg e1 ?_ hdb)
    refine PySem.W.callWith_K (h₀ := X.base) I.ok.mod.kin kp (thn ((pa_cons (pe_var hN hv hdn hcd) pa_nil he).run pos pins s σ H _ I h) fun us s1 ⟨vs, H1, I1, r, sp⟩ => ⟨I1.kIn, ?_⟩) he hpl
    have P1 := I1.pin (a, oe) (List.mem_append_left _ hp)
    have hpin : L2H.PinOk X.stack H1 s1 (a, oe) := ⟨P1.1, P1.2.1, fun hm => (List.mem_cons.mp (I1.stkSub a hm)).elim P1.2.2.1 P1.2.2.2.1, P1.2.2.2.2⟩
    have hl : us.length = [p0].length := by rw [← r.length]; exact Fn.len _ _ _ _ _ _ _ sp
    have b := hb s1 us I1.kIn (by rw [List.append_nil]; exact hl)
    rw [List.append_nil] at b
    refine wpAny_call (codeAny_mono (Fn.run X.A X.stack s1 H1 ⟨us, []⟩ us vs Q (fun _ _ _ => False) (a, oe) _ od hr hot hpin zn hf I1.env0 b r sp) fun r s' hq => ?_)
    cases r with
    | error er =>
      obtain ⟨_, _, _, _, _, _, _, _, _, _, _, _, z⟩ := hq
      exact z.elim
    | ok fl =>
      cases fl with
      | ret u => exact I1.after hq
      | next => exact False.elim hq
      | brk => exact False.elim hq
      | cont => exact False.elim hq
  refine JE.of run fun F h0 g H σ Q he' hf' hG hu hx hq => ?_
  subst hM
  obtain ⟨v, k1, k2, ev, s1, s2, d12, wv, back⟩ := env_out he' hΓ (by intro z; cases z) hf' hG
  obtain ⟨rfl, _⟩ := excS_in wv
  have hf4 : Fits F k1 (cup k2 g) H := ((hf'.sub (Sub.cup s2 s1)).out d12.symm)
  have dg2 : Dis k2 g := hf'.hg.mono s2 .refl
  have sg : Sub C.G (cup k2 g) := hG.trans (.r dg2)
  refine ⟨.ref a, ev, rfl, e, F, k1, cup k2 g, rfl, nrf, own_mono .refl (Sub.cup2 .refl sg (hf4.fg)) _ .refl wv, hf4, fun z => hu (by rw [z]; rfl), nx, fun r hr' v F2 h1 h2 H2 x2 owr owe dd ff => ?_⟩
  have dG : Dis F2 C.G := ff.fg.mono .refl sg
  have d2 : Dis h2 k2 := ff.hg.mono (.r dd) .l
  have d1 : Dis h1 k2 := ff.hg.mono .l .l
  have ev2 := env_in (back.mono x2 dG .refl) ((List.getElem?_eq_some_iff.mp hΓ).1) ev (NR.excS nrf _ _ _ _ _ _ owe) d2 dG
  have eΓ : Γ.set i (excS a od e.flds) = Γ := by
    obtain ⟨hi', e'⟩ := List.getElem?_eq_some_iff.mp hΓ
    rw [← e']; exact List.set_getElem_self hi'
  rw [eΓ] at ev2
  refine hq (.own (ret r)) Γ (kM r) (hk r hr') (by rw [hr']; rfl) v F2 h1 (cup h2 k2) H2 x2 (by unfold OpdOk; exact nr r _ _ _ _ _ _ owr) ev2 (Dis.cup dd.symm d1.symm).symm ((ff.inn dg2).sub ?_) fun z => nomatch z
  exact Sub.cup (Sub.l.trans (.r (ff.hg.mono .refl .l).symm)) (Sub.cup ((Sub.r dd).trans (.r (ff.hg.mono .refl .l).symm)) .l)
end
end Tsa

/-! N32: xs[i].remove(y), xs.index(y), of ints. -/
namespace L2
open PySem PySem.Spec PyProof.Rows
section
variable {X : Cx}
def rRemoveI : V → List V → Hp → VK → Prop := fun x vs H Q => ∃ (l : Addr) (ns : List Int) (k : Int), x = .ref l ∧ vs = [.int k] ∧ H l = some (.lst (ns.map V.int)) ∧ k ∈ ns ∧ Q .non (upd H l (.lst ((ns.erase k).map V.int)))
end
end L2
namespace Tsa
open PySem PySem.Spec PyProof.Rows L2
section
variable {K : PySem.W.Frag} {F G : Hp}
end
/-- y taken out of the list at j -/
def remAt (xs : List (List Int)) (j y : Int) : Res (List (List Int)) := match ixN xs.length j with
  | none => .un
  | some n => if y ∈ xs.getD n [] then .ok (xs.set n ((xs.getD n []).erase y)) else .un
/-- where y stands first -/
def indexR (ns : List Int) (y : Int) : Res Int := if y ∈ ns then .ok (ns.idxOf y : Nat) else .un
section
variable {X : Cx} {C : XC} {pu : Bool} {ω : Type} {Γ : List SD} {b c e : Expr} {M : Res ω} {pos ps pa p : Pos} {k : Opd → List SD → Res ω → Prop}
end
end Tsa

/-! N33: xs.index(y), xs locked. -/
namespace Tsa
open PySem PySem.Spec PyProof.Rows L2
section
variable {X : Cx} {C : XC} {pu : Bool} {ω : Type} {Γ : List SD} {b c e : Expr} {M : Res ω} {pos ps pa p : Pos} {k : Opd → List SD → Res ω → Prop}
end
end Tsa

/-! N34: list(range(a, b)). -/
namespace Tsa
open PySem PySem.Spec PyProof.Rows L2
section
variable {K : PySem.W.Frag} {X : Cx} {C : XC} {pu : Bool} {ω : Type} {Γ : List SD} {a b : Expr} {M : Res ω} {pos p pn q2 : Pos} {k : Opd → List SD → Res ω → Prop}
end
end Tsa

/-! N35: a slot lent while something of one's own is made. -/
namespace Tsa
open PySem PySem.Spec PyProof.Rows L2
section
variable {X : Cx} {C : XC} {ω : Type} {Γ : List SD} {M : Res ω} {k : Opd → List SD → Res ω → Prop}
end
end Tsa

/-! N36: the rest by the two answers of a test. -/
namespace Tsa
open PySem PySem.Spec PyProof.Rows L2
section
variable {X : Cx} {C : XC} {ω : Type} {Γ : List SD} {k : List SD → Res ω → Prop} {en : ω → EndK}
end
end Tsa

/-! N37: len(set(xs)) of whole numbers, alike or not. -/
namespace Tsa
open PySem PySem.Spec PyProof.Rows L2
def tLenSetO (K : PySem.W.Frag) (ta : TE) : TE := fun σ H Q => ta σ H fun x H1 => ∃ (l : Addr) (ns : List Int), x = V.ref l ∧ SqL K H1 l (ns.map V.int) ∧ ns.length < 64 ∧ Q (.int (once ns).length) H1
section
variable {K : PySem.W.Frag} {X : Cx} {C : XC} {pu : Bool} {ω : Type} {Γ : List SD} {a b o : Expr} {M : Res ω} {pos apos p p2 q : Pos} {k : Opd → List SD → Res ω → Prop}
end
end Tsa

/-! N38: max(xs, default=d), min(xs, default=d). -/
namespace Tsa
open PySem PySem.Spec PyProof.Rows L2 PySem.W
def mostOr (d : Int) : List Int → Int
  | [] => d
  | n :: ns => mostI n ns
def leastOr (d : Int) : List Int → Int
  | [] => d
  | n :: ns => leastI n ns
def rDef (K : PySem.W.Frag) (f : Int → List Int → Int) : List V → List V → Hp → VK → Prop := fun xs zs H Q => ∃ p ns d, xs = [.ref p] ∧ SqL K H p (ns.map V.int) ∧ zs = [.int d] ∧ Q (.int (f d ns)) H
section
variable {X : Cx}
end
section
variable {K : PySem.W.Frag} {X : Cx} {C : XC} {pu : Bool} {ω : Type} {Γ : List SD} {a b o : Expr} {M : Res ω} {pos apos p p2 q kp : Pos} {k : Opd → List SD → Res ω → Prop}
end
end Tsa

/-! N39: a slot lent while a call makes something of one's own. -/
namespace Tsa
open PySem PySem.Spec PyProof.Rows L2
end Tsa

/-! N40: dicts with None among their keys, as the walk sees them. -/
namespace Tsa
open PySem PySem.Spec PyProof.Rows L2
def nkV : Option Key → V
  | none => .non
  | some k => kV k
/-- a dict with such keys -/
def ndO (P : Program) (w : World) (a : Addr) (kvs : List (Option Key × V)) : HO := .ext fun h => kvs.length ≤ sizeLine ∧ (a == sysModules) = false ∧ ∃ vs, KV kvs vs ∧ h.DictOf (noneKind P w) a vs
section
variable {P : Program} {w : World} {H H' : Hp} {h h' : Heap} {a : Addr} {kvs : List (Option Key × V)}
end
section
variable {X : Cx} {pins : List (Addr × Obj)} {σ : L2.St} {H : Hp} {s : Shared} {a : Addr} {kvs : List (Option Key × V)} {k : Option Key} {v : V} {u r : Value} {A : Around} {E : Value → Shared → Prop}
end
/-- d[y] -/
def tNGet (X : Cx) (td ty : TE) : TE := fun σ H Q => td σ H fun x H1 => ty σ H1 fun y H2 => ∃ a kvs k v, x = .ref a ∧ Rd H2 a (ndO X.prog X.w a kvs) ∧ y = nkV k ∧ valV kvs k = some v ∧ Q v H2
/-- d[y] = v -/
def sNPut (X : Cx) (td ty tv : TE) : TS := fun D σ H => tv σ H fun v H1 => td σ H1 fun x H2 => ty σ H2 fun y H3 => ∃ a kvs k, x = .ref a ∧ H3 a = some (ndO X.prog X.w a kvs) ∧ y = nkV k ∧ kvs.length < sizeLine ∧ D.nx σ (upd H3 a (ndO X.prog X.w a (putK kvs k v)))
/-- {k: v} -/
def tNDisp (X : Cx) (tk tv : TE) : TE := fun σ H Q => ∀ p, H p = none → tk σ (upd H p (ndO X.prog X.w p [])) fun x H1 => tv σ H1 fun y H2 => H2 p = some (ndO X.prog X.w p []) ∧ ∃ k, x = nkV k ∧ Q (.ref p) (upd H2 p (ndO X.prog X.w p [(k, y)]))
def rNIn (X : Cx) : R2 := fun y x H Q => ∃ a kvs k, x = .ref a ∧ Rd H a (ndO X.prog X.w a kvs) ∧ y = nkV k ∧ Q (.bl (valV kvs k).isSome) H
def rNNotIn (X : Cx) : R2 := fun y x H Q => ∃ a kvs k, x = .ref a ∧ Rd H a (ndO X.prog X.w a kvs) ∧ y = nkV k ∧ Q (.bl (!(valV kvs k).isSome)) H
section
variable {X : Cx} {o i e value : Expr} {pos pos' tpos : Pos} {td ty tv tk : TE}
end
/-! ### its keys walked, while it is locked -/
section
variable {X : Cx} {pins : List (Addr × Obj)} {σ : L2.St} {H : Hp} {s : Shared} {d : Addr} {o : Obj}
end
def Itn (P : Program) (w : World) (d : Addr) (o : Obj) (kvs : List (Option Key × V)) : It :=
  ⟨fun i H => H d = some (.frz o (ndO P w d kvs)) ∧ i < kvs.length, fun i H x H' => H' = H ∧ ∃ k v, kvs[i]? = some (k, v) ∧ x = nkV k, fun i H => H d = some (.frz o (ndO P w d kvs)) ∧ kvs.length ≤ i⟩
def iKeysN (P : Program) (w : World) (td : TE) : TI := fun σ H R => td σ H fun x H1 => ∃ d o kvs, x = .ref d ∧ H1 d = some (.frz o (ndO P w d kvs)) ∧ R (Itn P w d o kvs) H1
end Tsa

/-! N41: a dict is locked for one expression, its keys are walked; dicts with None among their keys. -/
namespace Tsa
open PySem PySem.Spec PyProof.Rows L2
/-- a thing that leans on nothing of its own but its one object -/
def Flat (s : SD) : Prop := s ≠ .hole ∧ ∀ (K : PySem.W.Frag) (F G h : Hp) (v : V), own K F G s h v → ∃ p u, v = .ref p ∧ h p = some u ∧ Mut (some u) ∧ own K F G s (sgl p u) v
/-! ### None or an int, as a key and as a value -/
def oV : Option Int → V
  | none => .non
  | some i => .int i
def oK : Option Int → Option Key := Option.map Sum.inl
/-- a dict with such keys and values, owned -/
abbrev ndS (P : Program) (w : World) (m : List (Option Int × Option Int)) : SD := .raw fun a => ndO P w a (m.map fun p => (oK p.1, oV p.2))
section
variable {K : PySem.W.Frag} {X : Cx} {C : XC} {pu pt : Bool} {ω α β τ : Type} {Γ : List SD} {e a b c tg : Expr} {M : Res ω} {pos p p2 apos : Pos} {k : Opd → List SD → Res ω → Prop} {kl : List SD → Res ω → Prop} {en : ω → EndK} {kS : List SD → List SD → Res ω → Prop}
end
end Tsa

/-! N42: the keys of a locked dict; a field's dict is written; dicts with None among their keys: made, looked at, written. -/
namespace Tsa
open PySem PySem.Spec PyProof.Rows L2
section
variable {K : PySem.W.Frag} {κ β : Type} [DecidableEq κ] {kk : κ → Key} {kd : κ → PyData} {f : β → SD} {X : Cx} {C : XC} {pu : Bool} {ω : Type} {Γ : List SD} {a b c e tg : Expr} {M : Res ω} {pos pos' p p2 : Pos} {k : Opd → List SD → Res ω → Prop} {kl : List SD → Res ω → Prop} {en : ω → EndK} {kS : List SD → List SD → Res ω → Prop}
/-- a slot with such a dict, and how it is rebuilt -/
inductive NdAt (X : Cx) : SD → List (Option Int × Option Int) → (List (Option Int × Option Int) → SD) → Prop
  | raw {m : List (Option Int × Option Int)} : NdAt X (ndS X.prog X.w m) m (ndS X.prog X.w)
  | pin {v : V} {m : List (Option Int × Option Int)} : NdAt X (.pin v (ndS X.prog X.w m)) m fun m' => .pin v (ndS X.prog X.w m')
end
end Tsa

/-! N43: xs.extend(ys); what may be None: .. if x is None else x. -/
namespace Tsa
open PySem PySem.Spec PyProof.Rows L2
def rExtG (K : PySem.W.Frag) : V → List V → Hp → VK → Prop := fun x vs H Q => ∃ l b xs zs, x = .ref l ∧ vs = [.ref b] ∧ H l = some (.lst xs) ∧ SqL K H b zs ∧ xs.length + zs.length ≤ sizeLine ∧ Q .non (upd H l (.lst (xs ++ zs)))
section
variable {K : PySem.W.Frag} {X : Cx} {C : XC} {pu pt : Bool} {ω α β τ : Type} {Γ : List SD} {e a b c tg : Expr} {M : Res ω} {pos p p2 apos : Pos} {k : Opd → List SD → Res ω → Prop}
end
end Tsa

/-! N44: a part of one's own tuple is taken out of it; tuple * int. -/
namespace Tsa
open PySem PySem.Spec PyProof.Rows L2
section
variable {K : PySem.W.Frag} {X : Cx} {C : XC} {pu pt : Bool} {ω α β τ : Type} {Γ : List SD} {a b e : Expr} {M : Res ω} {pos p p2 apos : Pos} {k : Opd → List SD → Res ω → Prop}
end
end Tsa

/-! N45: a def by another name. -/
namespace Tsa
open PySem PySem.Spec PyProof.Rows L2
section
variable {K : PySem.W.Frag} {X : Cx} {C : XC} {pu : Bool} {ω : Type} {Γ : List SD} {a : Expr} {M : Res ω} {pos p q kp : Pos} {k : Opd → List SD → Res ω → Prop}
end
end Tsa

/-! N46: x[i].append(e), the index worked out with effects. -/
namespace Tsa
open PySem PySem.Spec PyProof.Rows L2
section
variable {γ : Type} {g' : γ → SD} {X : Cx} {C : XC} {ω : Type} {Γ : List SD} {b c : Expr} {M : Res ω} {pos ps pa p : Pos} {k : Opd → List SD → Res ω → Prop}
end
end Tsa

/-! N47: what is one of two is read as the one. -/
namespace Tsa
open PySem PySem.Spec PyProof.Rows L2
def lefR {α β ω : Type} (o : α ⊕ β) (k : α → Res ω) : Res ω := match o with
  | .inl x => k x
  | .inr _ => .un
def ritR {α β ω : Type} (o : α ⊕ β) (k : β → Res ω) : Res ω := match o with
  | .inl _ => .un
  | .inr x => k x
section
variable {α β : Type} {X : Cx} {C : XC} {pu : Bool} {ω : Type} {Γ : List SD} {M : Res ω} {k : Opd → List SD → Res ω → Prop}
end
end Tsa

/-! N48: a[:e], the end worked out with effects. -/
namespace Tsa
open PySem PySem.Spec PyProof.Rows L2
/-- membership, the items' equality as the layer takes it -/
def inB {α : Type} [DecidableEq α] (x : α) (xs : List α) : Bool := decide (x ∈ xs)
section
variable {X : Cx} {C : XC} {ω : Type} {Γ : List SD} {a e : Expr} {M : Res ω} {pos p2 : Pos} {k : Opd → List SD → Res ω → Prop}
theorem JE.sliceTo (h : JE X C false Γ a M fun oa Γ1 M1 => ∃ (s : SD) (ys : List SD), oa = .own s ∧ SeqV Γ1 oa false ys ∧ JE X C false Γ1 e M1 fun o Γ2 M2 => ∃ j, o = .own (.val (.int j)) ∧ SeqV Γ2 oa false ys ∧ k (.own (.lst (cutG ys none (some j)))) Γ2 M2) : JE X C false Γ (.Subscript a (.Slice none (some e) none p2) pos) M k :=
  JE.of (pe_slice sl_list pe_sem po_none (po_some pe_sem)) fun F h0 g H σ Q he hf hG hu hx hq => h F h0 g H σ _ he hf hG hu hx fun oa Γ1 M1 ⟨s, ys, eo, sv, hj⟩ hm v F1 h1 h2 H1 x ow he1 d hf1 hp => by
    subst hm eo
    have dg : Dis h1 g := hf1.hg.mono .l .refl
    have G1 : Sub C.G (cup h1 g) := hG.trans (.r dg)
    have hx1 : XOk X.K C F1 (cup h1 g) M1 := fun e' hm c od F' hx' h' H' σ' s' ex en dd ff => by
      have z := Fits.inn ff dg
      exact hx e' hm c od F' hx' h' H' σ' (x.trans s') ex en dd (z.sub (.r (ff.hg.mono .refl .l).symm))
    refine hj F1 h2 (cup h1 g) H1 σ _ he1 (hf1.out d) G1 hu hx1 fun o Γ2 M2 ⟨j, ej, sv2, hk⟩ hm2 w F2 h3 h4 H2 x2 ow2 he2 d2 hf2 hp2 => ?_
    subst hm2 ej
    have f4 := (hf2.un d2).inn dg
    have dd := (hf2.un d2).dis
    obtain rfl := ow2.intV
    refine ⟨j, rfl, ?_⟩
    have fg := f4.G hG
    have ow3 : OpdOk X.K F2 C.G h1 h4 σ (.own s) v := ow.mono x2 fg (by
      exact (Dis.cup fg.symm (f4.fh.mono .refl (.r dd)).symm).symm) ((f4.hg.mono (.r dd) hG).symm) (.inl ⟨_, rfl⟩)
    obtain ⟨p, vs, e, l, z, it⟩ := sv2.ok ow3 he2 dd f4 hG
    refine ⟨p, vs, e, z, fun q hn => ?_⟩
    have n := f4.no hn
    have n1 : h1 q = none := Sub.l.no n.2.1
    refine Kt.new (pu := false) (Γ := Γ2) (F := F2) (fun o Γ' M' hk hm v F2' k1 k2 H2' y a2 a3 a4 a5 a6 => hq o Γ' M' hk hm v F2' k1 k2 H2' (x.trans (x2.trans y)) a2 a3 a4 a5 fun z => nomatch z) hk he2 dd f4 hn ?_
    unfold own
    exact ⟨q, _, h1, rfl, cup_some one_same, .r (Dis.one n1), n1, cut_last l it⟩
theorem JE.sliceToT {α : Type} {f : α → SD} (h : JE X C false Γ a M fun oa Γ1 M1 => ∃ (s : SD) (xs : List α), oa = .own s ∧ SeqV Γ1 oa false (xs.map f) ∧ JE X C false Γ1 e M1 fun o Γ2 M2 => ∃ j, o = .own (.val (.int j)) ∧ SeqV Γ2 oa false (xs.map f) ∧ k (.own (.lst ((cutG xs none (some j)).map f))) Γ2 M2) : JE X C false Γ (.Subscript a (.Slice none (some e) none p2) pos) M k :=
  JE.sliceTo (h.mono fun oa Γ1 M1 ⟨s, xs, eo, sv, h⟩ => ⟨s, _, eo, sv, h.mono fun o Γ2 M2 ⟨j, ej, sv2, hk⟩ => ⟨j, ej, sv2, by rw [cut_map]; exact hk⟩⟩)
end
end Tsa

/-! N49: an own list of own things is walked, its things taken out. -/
namespace Tsa
open PySem PySem.Spec PyProof.Rows L2
section
variable {X : Cx} {C : XC} {ω : Type} {Γ : List SD} {tg : Expr} {M : Res ω} {pos p : Pos} {k : List SD → Res ω → Prop} {en : ω → EndK}
end
section
variable {X : Cx} {C : XC} {pu : Bool} {ω α : Type} {Γ : List SD} {a b : Expr} {M : Res ω} {pos p pn : Pos} {k : Opd → List SD → Res ω → Prop}
end
section
variable {X : Cx} {C : XC} {pu : Bool} {ω α : Type} {Γ : List SD} {e : Expr} {M : Res ω} {pos p : Pos} {kS : List SD → List SD → Res ω → Prop}
end
end Tsa

/-! N50: exceptions without fields: which class is which, the facts of the program's classes, calls in a suite. -/
namespace Tsa
open PySem PySem.Spec PyProof.Rows L2 He
/-- what is told of the module, and one test more -/
abbrev AlX_ : Type := AlD × Bool
def obsXG (n : Nat) (fa : List Fa) (fn : List DefD) (ex : PySem.W.Frag → Bool) (g : Addr → Option Obj) : AlX_ := (obsD fa fn (frG g (sysModules :: asD g n)), ex (frG g (sysModules :: asD g n)))
def hookXF (n : Nat) (fa : List Fa) (fn : List DefD) (ex : PySem.W.Frag → Bool) : PySem.W.Hook where
  α := AlX_
  obs := fun s => obsXG n fa fn ex s.heap.get?
  val := fun _ => (valD fn, true)
  says := fun _ h => ∃ K : PySem.W.Frag, K.In h ∧ (SaysD fa fn K ∧ ex K = true)
  of := fun _ _ e => ⟨_, frG_in, congrArg (fun z : AlX_ => z.1) e, congrArg (fun z : AlX_ => z.2) e⟩
  keeps := fun _ _ _ ⟨K, hK, c⟩ k => ⟨K, PySem.W.Frag.In.keeps hK k, c⟩
end Tsa
namespace Tsa
open PySem PySem.Spec PyProof.Rows L2
/-! ### the program's classes -/
mutual
/-- what leans on nothing, looked at -/
def nrB : SD → Bool
  | .val _ => true
  | .lst l => nrBL l
  | _ => false
def nrBL : List SD → Bool
  | [] => true
  | s :: r => nrB s && nrBL r
end
def nrBF : List (Str × SD) → Bool
  | [] => true
  | (_, s) :: r => nrB s && nrBF r
mutual
theorem nrB_ok : ∀ {s : SD}, nrB s = true → NR s
  | .val _, _ => .val
  | .lst l, h => .lst (nrBL_ok (l := l) (by unfold nrB at h; exact h))
  | .hole, h => by unfold nrB at h; cases h
  | .rd _, h => by unfold nrB at h; cases h
  | .tup _, h => by unfold nrB at h; cases h
  | .dct _, h => by unfold nrB at h; cases h
  | .obj _ _, h => by unfold nrB at h; cases h
  | .xds _, h => by unfold nrB at h; cases h
  | .pin _ _, h => by unfold nrB at h; cases h
  | .atv _ _, h => by unfold nrB at h; cases h
  | .raw _, h => by unfold nrB at h; cases h
  | .exo _ _, h => by unfold nrB at h; cases h
  | .lk _ _ _ _, h => by unfold nrB at h; cases h
theorem nrBL_ok : ∀ {l : List SD}, nrBL l = true → NRL l
  | [], _ => .nil
  | s :: r, h => by
    unfold nrBL at h
    rw [Bool.and_eq_true] at h
    exact .cons (nrB_ok h.1) (nrBL_ok h.2)
end
theorem nrBF_ok : ∀ {l : List (Str × SD)}, nrBF l = true → NRF l
  | [], _ => .nil
  | (_, s) :: r, h => by
    unfold nrBF at h
    rw [Bool.and_eq_true] at h
    exact .cons (nrB_ok h.1) (nrBF_ok h.2)
theorem nrB_val {d : PyData} : nrB (.val d) = true := by unfold nrB; rfl
theorem nrBF_one {f : Str} {s : SD} (h : nrB s = true) : nrBF [(f, s)] = true := by
  unfold nrBF
  rw [h]
  unfold nrBF; rfl
/-- an exception of one of these classes; its fields lean on nothing -/
def xok (cs : List Str) (e : Exn) : Prop := e.cls ∈ cs ∧ nrBF e.flds = true
instance {cs : List Str} {e : Exn} : Decidable (xok cs e) := decidable_of_iff (e.cls ∈ cs ∧ nrBF e.flds = true) Iff.rfl
/-- whether it is one of class x -/
@[irreducible] def isXc (c x : Str) : Bool := c == x || x == "TreeError"
def excCB (K : PySem.W.Frag) (D : Addr) : Bool :=
  decide (PySem.W.findIn K (.ref D) "__getattribute__" = some (some (.builtin "BaseException.__getattribute__"))) &&
  (decide (PySem.W.findIn K (.ref D) "__getattr__" = some none) &&
  (decide (PySem.W.subIn K (.ref D) (.type "BaseException") = some true) &&
  (PySem.W.hasDictIn K D &&
  (decide (PySem.W.findIn K (.ref D) "__class__" = some (some (.builtin "object.__class__"))) &&
  (decide (PySem.W.specialIn K (.builtin "object.__class__") "__get__" = some (some (.builtin "getset_descriptor.__get__"))) &&
  (decide (PySem.W.takesIn K (.builtin "object.__class__") = some true) &&
  decide (PySem.W.mroIn K D (.type "object") = some true)))))))
theorem excCB_ok {K : PySem.W.Frag} {D : Addr} (h : excCB K D = true) : ExcC K D := by
  unfold excCB at h
  simp only [Bool.and_eq_true, decide_eq_true_eq] at h
  obtain ⟨a, b, c, d, e, f, g, i⟩ := h
  exact ⟨a, b, c, d, e, f, g, i⟩
/-- where the modules are told no list stands -/
def modB (K : PySem.W.Frag) : Bool := match K.lookup sysModules with
  | some o => (match o.cls with
    | .type c => !decide (c = "list")
    | _ => true)
  | none => false
def NoMod (K : PySem.W.Frag) : Prop := ∃ o, K.lookup sysModules = some o ∧ o.cls ≠ .type "list"
theorem modB_ok {K : PySem.W.Frag} (h : modB K = true) : NoMod K := by
  unfold modB at h
  cases e : K.lookup sysModules with
  | none => rw [e] at h; cases h
  | some o =>
    rw [e] at h
    refine ⟨o, e, fun z => ?_⟩
    dsimp only at h
    rw [z] at h
    cases h
def xfB (cs ns : List Str) (K : PySem.W.Frag) : Bool := modB K && cs.all fun c => excCB K (He.ga K c) &&
  (decide (PySem.W.kitOne K (.ref (He.ga K c)) (.type "ValueError") = some true) &&
  (decide (PySem.W.exmOne K (.ref (He.ga K c)) (.ref (He.ga K "TreeError")) = some true) &&
  ns.all fun x => decide (PySem.W.kitOne K (.ref (He.ga K c)) (.ref (He.ga K x)) = some (isXc c x))))
structure XF (K : PySem.W.Frag) (cs ns : List Str) : Prop where
  md : NoMod K
  c : ∀ c ∈ cs, ExcC K (He.ga K c)
  v : ∀ c ∈ cs, PySem.W.kitOne K (.ref (He.ga K c)) (.type "ValueError") = some true
  t : ∀ c ∈ cs, PySem.W.exmOne K (.ref (He.ga K c)) (.ref (He.ga K "TreeError")) = some true
  k : ∀ c ∈ cs, ∀ x ∈ ns, PySem.W.kitOne K (.ref (He.ga K c)) (.ref (He.ga K x)) = some (isXc c x)
theorem xfB_ok {K : PySem.W.Frag} {cs ns : List Str} (h : xfB cs ns K = true) : XF K cs ns := by
  unfold xfB at h
  rw [Bool.and_eq_true, List.all_eq_true] at h
  obtain ⟨hm, h⟩ := h
  have h2 : ∀ c ∈ cs, ExcC K (He.ga K c) ∧ PySem.W.kitOne K (.ref (He.ga K c)) (.type "ValueError") = some true ∧ PySem.W.exmOne K (.ref (He.ga K c)) (.ref (He.ga K "TreeError")) = some true ∧ ∀ x ∈ ns, PySem.W.kitOne K (.ref (He.ga K c)) (.ref (He.ga K x)) = some (isXc c x) := fun c hc => by
    have z := h c hc
    simp only [Bool.and_eq_true, decide_eq_true_eq, List.all_eq_true] at z
    exact ⟨excCB_ok z.1, z.2.1, z.2.2.1, z.2.2.2⟩
  exact ⟨modB_ok hm, fun c hc => (h2 c hc).1, fun c hc => (h2 c hc).2.1, fun c hc => (h2 c hc).2.2.1, fun c hc => (h2 c hc).2.2.2⟩
/-! ### what may be raised -/
section
variable {cs : List Str} {ω β : Type}
abbrev RX (cs : List Str) (m : Res ω) : Prop := ∀ e, m = .ex e → xok cs e
theorem rx_un : RX cs (.un : Res ω) := fun _ z => nomatch z
theorem rx_ok {a : ω} : RX cs (.ok a) := fun _ z => nomatch z
theorem rx_ex {x : Str} (h : x ∈ cs) : RX cs (.ex ⟨x, []⟩ : Res ω) := fun e z => by
  cases z
  exact ⟨h, by unfold nrBF; rfl⟩
theorem rx_exF {x : Str} {l : List (Str × SD)} (h : x ∈ cs) (n : nrBF l = true) : RX cs (.ex ⟨x, l⟩ : Res ω) := fun e z => by
  cases z
  exact ⟨h, n⟩
theorem rx_nex {m : Res ω} (h : ∀ e, m ≠ .ex e) : RX cs m := fun e z => absurd z (h e)
theorem rx_bind {m : Res β} {k : β → Res ω} (h : RX cs m) (hk : ∀ x, RX cs (k x)) : RX cs (m.bind k) := fun e z => by
  cases m with
  | ok x => exact hk x e z
  | ex e' => exact h e (by have : Res.ex e' = Res.ex e := z; cases this; rfl)
  | un => cases z
theorem rx_cond {b : Bool} {x y : Res ω} (hx : RX cs x) (hy : RX cs y) : RX cs (cond b x y) := by
  cases b
  · exact hy
  · exact hx
theorem nrf_of {e : Exn} (h : xok cs e) : NRF e.flds := nrBF_ok h.2
theorem nex_try {Mb : Res β} {Ms : Exn → Res ω} {kM : β → Res ω} (hs : ∀ e e', Ms e ≠ .ex e') (hk : ∀ b e, kM b ≠ .ex e) : ∀ e, tryR Mb Ms kM ≠ .ex e := by
  intro e
  cases Mb with
  | ok b => exact hk b e
  | ex e1 => exact hs e1 e
  | un => exact fun z => nomatch z
end
/-! ### walks -/
section
variable {X : Cx} {C : XC} {pu : Bool} {ω : Type} {Γ : List SD} {M : Res ω} {k : List SD → Res ω → Prop} {en : ω → EndK} {sts : List Stmt}
/-- what is not walked wants nothing -/
theorem JL.ne (h : M ≠ .un → JL X C Γ sts M k en) : JL X C Γ sts M k en := fun F h0 g H σ D he hf hG hu => h hu F h0 g H σ D he hf hG hu
theorem JL.gd {p : Prop} [Decidable p] {m : Res ω} (h : p → JL X C Γ sts m k en) : JL X C Γ sts (gd p m) k en := JL.ne fun z => by
  by_cases c : p
  · have e : Tsa.gd p m = m := if_pos c
    rw [e]; exact h c
  · exact absurd (if_neg c) z
theorem JE.ne {e : Expr} {k : Opd → List SD → Res ω → Prop} (h : M ≠ .un → JE X C pu Γ e M k) : JE X C pu Γ e M k := fun F h0 g H σ Q he hf hG hu => h hu F h0 g H σ Q he hf hG hu
theorem roomX {k : Nat} {X : Cx} (r : RoomG k X.A) {a : Addr} {pn : List (Addr × Obj)} : L2H.RoomH k (X.suite a pn).A := ⟨r.room.dp, r.room.un⟩
end
end Tsa

/-! N51: data of any kind: read as a number, as a list or tuple. -/
namespace Tsa
open PySem PySem.Spec PyProof.Rows L2
abbrev eX : PyData → PyData := fun x => x
theorem mapX (l : List PyData) : l.map eX = l := by
  induction l with
  | nil => rfl
  | cons x r ih => rw [List.map_cons, ih]
def xint : PyData → Res Int
  | .int n => .ok n
  | _ => .un
def xseq : PyData → Res (List PyData)
  | .list l => .ok l
  | .tuple l => .ok l
  | _ => .un
def xints : List PyData → Option (List Int)
  | [] => some []
  | .int n :: r => (xints r).map (n :: ·)
  | _ :: _ => none
def xsplit {ω : Type} (d : PyData) (f g : List PyData → Res ω) : Res ω := match d with
  | .list l => f l
  | .tuple l => g l
  | _ => .un
def xsplitI {ω : Type} (d : PyData) (f g : List Int → Res ω) : Res ω := match d with
  | .list l => (match xints l with
    | some ns => f ns
    | none => .un)
  | .tuple l => (match xints l with
    | some ns => g ns
    | none => .un)
  | _ => .un
theorem xint_nex {d : PyData} : ∀ e, xint d ≠ .ex e := fun e z => by cases d <;> cases z
theorem xseq_nex {d : PyData} : ∀ e, xseq d ≠ .ex e := fun e z => by cases d <;> cases z
section
variable {X : Cx} {C : XC} {pu : Bool} {ω : Type} {Γ : List SD} {M : Res ω} {k : Opd → List SD → Res ω → Prop} {e : Expr} {pos pn : Pos}
theorem JE.neK (h : JE X C pu Γ e M fun o Γ1 M1 => M1 ≠ .un → k o Γ1 M1) : JE X C pu Γ e M k := fun F h0 g H σ Q he hf hG hu hx hq =>
  h F h0 g H σ Q he hf hG hu hx fun o Γ1 M1 hk hm => hq o Γ1 M1 (hk (by rw [hm]; exact hu)) hm
theorem JE.lenX (hm : X.mg "len" = none) (h : JE X C pu Γ e M fun o Γ1 M1 => ∃ d kM, o = .own (.val d) ∧ M1 = (xseq d).bind kM ∧ ∀ ds : List PyData, k (.own (.val (.int (ds.length : Nat)))) Γ1 (kM ds)) (hg : Gl X "len" := by rfl) (hs : starEach [e] X.env = (false, eval e X.env) :: starEach [] X.env := by rfl) : JE X C pu Γ (.Call (.Name "len" pn) [e] [] pos) M k :=
  JE.len hm (JE.neK (h.mono fun o Γ1 M1 ⟨d, kM, e1, e2, hk⟩ hu => by
    subst e1 e2
    cases d with
    | list l =>
      have z : LenV Γ1 (.own (.val (.list l))) l.length := by
        have q := soL (e := eX) (xs := l)
        rw [mapX] at q
        exact .seq (.own q) (by rw [List.length_map])
      exact ⟨l.length, z, hk l⟩
    | tuple l =>
      have z : LenV Γ1 (.own (.val (.tuple l))) l.length := by
        have q := soW (e := eX) (xs := l)
        rw [mapX] at q
        exact .seq (.own q) (by rw [List.length_map])
      exact ⟨l.length, z, hk l⟩
    | _ => exact absurd rfl hu)) hg hs
theorem JC.xref {Γf : PyData → List SD} {d : PyData} {kM : Int → Res ω} {kb : Bool → List SD → Res ω → Prop} (h : ∀ n, JC X C pu (Γf (.int n)) e (kM n) fun b Γ1 M1 => Γ1 = Γf (.int n) ∧ kb b (Γf d) M1) : JC X C pu (Γf d) e ((xint d).bind kM) kb := by
  cases d with
  | int n => exact (h n).mono fun b Γ1 M1 ⟨e1, e2⟩ => by rw [e1]; exact e2
  | _ => exact fun F h0 g H σ Q he hf hG hu => absurd rfl hu
end
section
variable {X : Cx} {C : XC} {ω : Type} {k : List SD → Res ω → Prop} {en : ω → EndK} {sts : List Stmt} {Γf : PyData → List SD} {d : PyData}
theorem JL.xref {kM : Int → Res ω} (h : ∀ n, JL X C (Γf (.int n)) sts (kM n) k en) : JL X C (Γf d) sts ((xint d).bind kM) k en := JL.ne fun hu => by
  cases d with
  | int n => exact h n
  | _ => exact absurd rfl hu
end
end Tsa

/-! N52: tuples joined, dict of pairs, own lists read as lists of anything, what is dropped. -/
namespace Tsa
open PySem PySem.Spec PyProof.Rows L2
theorem Fz.dct0 : Fz (.dct []) (.dict []) := Fz.dct (m := ([] : List Unit)) (kk := fun _ => .inl 0) (f := fun _ => .val .none) (g := fun _ => .none) fun _ => .val
section
variable {X : Cx} {C : XC} {pu : Bool} {ω : Type} {Γ : List SD} {M : Res ω} {k : Opd → List SD → Res ω → Prop} {e a b : Expr} {pos pn : Pos}
theorem lstX {α : Type} {f : α → PyData} {xs : List α} : SD.lst (xs.map fun x => .val (f x)) = .lst ((xs.map f).map fun x => .val (eX x)) := by
  rw [List.map_map]; rfl
end
end Tsa

/-! N53: repr of data of any kind. -/
namespace Tsa
open PySem PySem.Spec PyProof.Rows L2
section
variable {X : Cx} {pins : List (Addr × Obj)} {σ : L2.St} {H : Hp} {s : Shared}
theorem SqL.notMod {a : Addr} {xs : List V} (nm : NoMod X.K) (I : Inv X pins σ H s) (h : SqL X.K H a xs) : sysModules ≠ a := by
  intro e
  subst e
  obtain ⟨o, ho, hc'⟩ := nm
  rcases h with h | ⟨o2, its, n, hk, hc, _⟩
  · have q := (I.bs sysModules o (I.mod.kin _ _ ho)).2
    rcases h with h | ⟨_, h⟩ <;> (rw [q] at h; cases h)
  · rw [ho] at hk
    cases hk
    exact hc' hc
theorem keysRead {P : Program} {w : World} {h : Heap} : ∀ {es : List DictEntry} {vs : List (Key × Value)}, Pairs (mixKind P w) es vs → ReadsAll h (es.map (·.key)) (vs.map fun q => kD q.1) []
  | _, _, .nil => .nil
  | _, _, .cons (e := e) (kv := kv) hk hv hp => by
    have r : Reads h e.key (kD kv.1) [] := by
      rcases keyIs_shape (show keyIs kv.1 e.key = true from hk) with ⟨i, t, e1, e2⟩ | ⟨x, t, e1, e2⟩
      · rw [e1, e2]; exact .int i t
      · rw [e1, e2]; exact .str x t
    exact ReadsAll.cons r (keysRead hp)
theorem pairsVals {P : Program} {w : World} : ∀ {es : List DictEntry} {vs : List (Key × Value)}, Pairs (mixKind P w) es vs → es.map (·.val) = vs.map (·.2)
  | _, _, .nil => rfl
  | _, _, .cons hk hv hp => by rw [List.map_cons, List.map_cons, hv, pairsVals hp]
theorem kv_keys : ∀ {kvs : List (Key × V)} {vs : List (Key × Value)}, KV kvs vs → (vs.map fun q => kD q.1) = kvs.map fun q => kD q.1
  | _, _, .nil => rfl
  | _, _, .cons r h => by rw [List.map_cons, List.map_cons, r.1, kv_keys h]
theorem kv_vals : ∀ {kvs : List (Key × V)} {vs : List (Key × Value)}, KV kvs vs → Vals (kvs.map (·.2)) (vs.map (·.2))
  | _, _, .nil => .nil
  | _, _, .cons r h => .cons r.2 (kv_vals h)
mutual
theorem Dt.readsN (nm : NoMod X.K) (I : Inv X pins σ H s) : ∀ {d : PyData} {v : V}, Dt X.K H v d → ∀ {u : Value}, RelV v u → ∃ as, Reads s.heap u d as ∧ sysModules ∉ as
  | _, _, .non, _, r => by
    cases r
    exact ⟨_, Reads.none, List.not_mem_nil⟩
  | _, _, .bl b, _, r => by
    cases r
    exact ⟨_, Reads.bool b, List.not_mem_nil⟩
  | _, _, .int i, _, r => by
    obtain ⟨t, rfl⟩ := r
    exact ⟨_, Reads.int i t, List.not_mem_nil⟩
  | _, _, .str x, _, r => by
    obtain ⟨t, rfl⟩ := r
    exact ⟨_, Reads.str x t, List.not_mem_nil⟩
  | _, _, .lst hs ha, _, r => by
    cases r
    obtain ⟨its, rv, ⟨o, n, ho, hc, _, hd⟩, _⟩ := I.list hs
    obtain ⟨as, hr, hn⟩ := DtL.readsN nm I ha rv
    refine ⟨_, Reads.list ho hc hd hr, fun z => ?_⟩
    rcases List.mem_cons.mp z with z | z
    · exact SqL.notMod nm I hs z
    · exact hn z
  | _, _, .tup hs ha, _, r => by
    cases r
    obtain ⟨its, rv, ⟨o, ho, hc, n, hd⟩, _⟩ := I.tuple hs
    obtain ⟨as, hr, hn⟩ := DtL.readsN nm I ha rv
    exact ⟨_, Reads.tuple ho hc hd hr, hn⟩
  | _, _, .dct (kvs := kvs) (ds := ds) h1 h2, _, r => by
    cases r
    obtain ⟨z, hd, vs, rel, dd⟩ := dk_rd I.hok h1
    obtain ⟨as, hr, hn⟩ := DtL.readsN nm I h2 (kv_vals rel)
    obtain ⟨o, es, ep, ho, hx, hdat, hk, hp, _⟩ := dd
    have l := DtL.len h2
    rw [List.length_map] at l
    have e1 : (((kvs.map fun q => kD q.1).zip ds).map (·.1)) = vs.map fun q => kD q.1 := by
      rw [kv_keys rel, List.map_fst_zip (by rw [List.length_map]; omega)]
    have e2 : (((kvs.map fun q => kD q.1).zip ds).map (·.2)) = ds := List.map_snd_zip (by rw [List.length_map]; omega)
    refine ⟨_, Reads.dict ho hx.1 hdat (by rw [e1]; exact keysRead hp) (by rw [e2, pairsVals hp]; exact hr), fun z => ?_⟩
    rcases List.mem_cons.mp z with z | z
    · rw [← z] at hd
      cases hd
    · exact hn (by simpa using z)
theorem DtL.readsN (nm : NoMod X.K) (I : Inv X pins σ H s) : ∀ {vs : List V} {ds : List PyData}, DtL X.K H vs ds → ∀ {us : List Value}, Vals vs us → ∃ as, ReadsAll s.heap us ds as ∧ sysModules ∉ as
  | _, _, .nil, _, r => by
    cases r
    exact ⟨_, ReadsAll.nil, List.not_mem_nil⟩
  | _, _, .cons h1 h2, _, r => by
    cases r with
    | cons r1 r2 =>
      obtain ⟨as, q1, n1⟩ := Dt.readsN nm I h1 r1
      obtain ⟨bs, q2, n2⟩ := DtL.readsN nm I h2 r2
      exact ⟨_, ReadsAll.cons q1 q2, fun z => (List.mem_append.mp z).elim n1 n2⟩
end
end
/-- what may be shown, of any kind -/
def showX (d : PyData) : Bool := d.showable && decide (d.depth ≤ 40) && decide (d.shown.length ≤ sizeLine)
section
variable {X : Cx}
theorem call_reprX (nm : NoMod X.K) (hg : X.A.guards = some []) (hu : X.A.units + 100 < cLine) : CallR X (.builtin "repr") (fun xs H Q => ∃ x d, xs = [x] ∧ Dt X.K H x d ∧ showX d = true ∧ Q (.str d.shown) H) := by
  intro pins s σ H xs us Q I r h
  obtain ⟨x, d, rfl, hd, hs, hq⟩ := h
  obtain ⟨u, rfl, ru⟩ := r.one
  obtain ⟨as, rd, hn⟩ := Dt.readsN nm I hd ru
  simp only [showX, Bool.and_eq_true, decide_eq_true_eq] at hs
  obtain ⟨⟨s2, s1⟩, s3⟩ := hs
  have ref : ∀ {q : Addr} {as : List Addr} {d : PyData}, Reads s.heap (.ref q) d as → sysModules ∉ as → d.showable = true → d.depth ≤ 40 → d.shown.length ≤ sizeLine → Q (.str d.shown) H → wpAny (model X.prog X.w) X.A (call (.builtin "repr") [.ref q]) (EP X pins σ Q) X.xe s := fun {q as d} rd hn s2 s1 s3 hq =>
    repr_of_reads' rd s2 (fun _ => hn) hg (by omega) (fun _ _ z => z) (fun h' u tk hk => ⟨.str d.shown, H, I.kept hk, ⟨u, rfl⟩, hq⟩) s3
  cases hd with
  | non =>
    cases ru
    exact PySem.P.repr_of_none ⟨.str "None", H, I.tok _, ⟨_, rfl⟩, hq⟩
  | bl b =>
    cases ru
    exact PySem.P.repr_of_bool ⟨.str (if b then "True" else "False"), H, I.tok _, ⟨_, rfl⟩, hq⟩
  | int i =>
    obtain ⟨t, rfl⟩ := ru
    exact PySem.P.repr_of_int (of_decide_eq_true s2) ⟨.str (toString i), H, I.tok _, ⟨_, rfl⟩, hq⟩
  | str z =>
    obtain ⟨t, rfl⟩ := ru
    exact PySem.P.repr_of_str ⟨.str (reprText z), H, I.tok _, ⟨_, rfl⟩, hq⟩ s3
  | lst _ _ =>
    cases ru
    exact ref rd hn s2 s1 s3 hq
  | tup _ _ =>
    cases ru
    exact ref rd hn s2 s1 s3 hq
  | dct _ _ =>
    cases ru
    exact ref rd hn s2 s1 s3 hq
end
section
variable {X : Cx} {C : XC} {pu : Bool} {ω : Type} {Γ : List SD} {M : Res ω} {k : Opd → List SD → Res ω → Prop} {e : Expr} {pos pn : Pos}
theorem JE.reprX {j : Nat} (nm : NoMod X.K) (hr : RoomG j X.A) (hm : X.mg "repr" = none) (h : JE X C pu Γ e M fun o Γ1 M1 => ∃ d M2, SeeO Γ1 o d ∧ (M1 ≠ .un → M1 = M2 ∧ showX d = true) ∧ k (.own (.val (.str d.shown))) Γ1 M2) (hg : Gl X "repr" := by rfl) (hs : starEach [e] X.env = (false, eval e X.env) :: starEach [] X.env := by rfl) : JE X C pu Γ (.Call (.Name "repr" pn) [e] [] pos) M k :=
  JE.bi (call_reprX nm hr.gd hr.lines) hm (JA.one (h.mono fun o Γ1 M1 ⟨d, M2, se, hM, hk⟩ vs F h1 h2 g H σ Q ow he dd hf hG sz hu hq => by
    obtain ⟨eM, c⟩ := hM hu
    subst eM
    obtain ⟨v, ha, e1, s1, w⟩ := ow.one
    exact ⟨v, d, e1, se.ok w s1 he dd hf hG, c, hq.scal hk he dd hf (.str _)⟩) hs) rfl hg (hs := hs)
end
end Tsa

/-! N54: zip of two lists where an exception is handled. -/
namespace HotX
open PySem PySem.Spec PyProof.Rows
section
variable {prog : Program} {w : World} {A : Around} {E : Value → Shared → Prop} {s : Shared}
end
end HotX
namespace L2
open PySem PySem.Spec PyProof.Rows
end L2
namespace Tsa
open PySem PySem.Spec PyProof.Rows L2
section
variable {X : Cx} {C : XC} {pu : Bool} {ω α β : Type} {Γ : List SD} {a b tg iter elt : Expr} {M : Res ω} {pos p pn : Pos} {k : Opd → List SD → Res ω → Prop}
end
end Tsa

/-! N55: where an exception is handled: comprehensions whose inside knows of it (tuples taken apart there). -/
namespace L2
open PySem PySem.Spec PyProof.Rows
section
variable {X : Cx}
end
end L2
namespace HotX
open PySem PySem.Spec PyProof.Rows
section
variable {prog : Program} {w : World} {A : Around} {E : Value → Shared → Prop} {s : Shared}
end
end HotX
namespace L2
open PySem PySem.Spec PyProof.Rows
end L2
namespace Tsa
open PySem PySem.Spec PyProof.Rows L2
section
variable {K : PySem.W.Frag} {X : Cx} {C : XC} {pu : Bool} {ω : Type} {Γ : List SD} {e a b c tg iter elt : Expr} {M : Res ω} {pos : Pos} {k : Opd → List SD → Res ω → Prop} {ws : Nat → Prop}
abbrev BlkH (X : Cx) (scope : Scope) (P : Cx → Prop) : Prop := ∀ (s : Shared) (H : Hp) (Ca : Addr) (cl : List (Str × Addr)) (fp : List Addr) (q : Addr × Obj), L2H.Hot1 X.A q → P ((X.blk s H scope (compEnvC scope cl Ca X.env) fp).tr [q] (fun _ _ => False))
def TurnOkH (X : Cx) (scope : Scope) (C : XC) (pu : Bool) {β τ : Type} (vs : List Nat) (Γi : τ → List SD) (Γ : List SD) (ifs : List Expr) (elt : Expr) (t : τ) (m : Res (Option β × τ)) (k : Opd → List SD → Res (Option β × τ) → Prop) : Prop :=
  match ifs with
  | [] => BlkH X scope fun X' => JE X' (noE C) pu Γ elt m k
  | [c] => ∃ (m1 : Res (Bool × τ)) (mt : τ → Res (Option β × τ)) (Γb : τ → List SD), m = m1.bind (fun r => cond r.1 (mt r.2) (.ok (none, r.2))) ∧ (∀ t', Le (wipeG (Γb t') vs) (wipeG (Γi t') vs)) ∧ (BlkH X scope fun X' => JC X' (noE C) pu Γ c m1 fun b Γ' M' => ∃ t', M' = .ok (b, t') ∧ Γ' = Γb t') ∧ ∀ t', BlkH X scope fun X' => JE X' (noE C) pu (Γb t') elt (mt t') k
  | _ => False
def semIfsH (X : Cx) (scope : Scope) : List Expr → TT
  | [c] => fun σ H Q => BlkH X scope fun X' => semT X' c σ H Q
  | _ => tYes
abbrev lcTT (wi : TI) (X : Cx) (scope : Scope) (own' : List (Str × Nat)) (tg : Expr) (ifs : List Expr) (elt : Expr) : TE := tLc wi (fun v σ H Q => BlkH X scope fun X' => semG X' tg v σ H Q) (semIfsH X scope ifs) (fun σ H Q => BlkH X scope fun X' => semE X' elt σ H Q) (own'.map (·.2))
end
end Tsa

/-! N56: exceptions of classes with an own __init__: what it keeps, raise. -/
namespace Tsa
open PySem PySem.Spec PyProof.Rows L2
/-! ### the classes -/
def oexB (K : PySem.W.Frag) (x : Str) : Bool :=
  (match K.lookup (He.ga K x) with
  | some ⟨.type "type", _, .cls cd, sl⟩ => (match cd.mro, sl.toList with
    | .ref C' :: bm, [_, _, _, _, some (.builtin n), _] => C' == He.ga K x && (n == "ValueError.__new__" && (!cd.hasDel && (cd.hasDict && PySem.HandSPX.refsVE bm)))
    | _, _ => false)
  | _ => false) &&
  (He.eqO (PySem.W.findIn K (.ref (He.ga K x)) "__setattr__") (some (some (.builtin "object.__setattr__"))) &&
  (decide (PySem.W.subIn K (.ref (He.ga K x)) (.type "BaseException") = some true) &&
  (decide (PySem.W.typeIn K (.ref (He.ga K x)) = some (.type "type")) &&
  (PySem.W.keepIn K (.ref (He.ga K x)) &&
  (He.eqO (PySem.W.findIn K (.ref (He.ga K x)) "__init__") (some (some (.ref (He.ma K (He.ga K x) "__init__")))) &&
  decide (PySem.W.typeIn K (.ref (He.ma K (He.ga K x) "__init__")) = some (.type "function")))))))
structure OexK (K : PySem.W.Frag) (x : Str) : Prop where
  o : OexC K (He.ga K x)
  ini : PySem.W.findIn K (.ref (He.ga K x)) "__init__" = some (some (.ref (He.ma K (He.ga K x) "__init__")))
  fn : PySem.W.typeIn K (.ref (He.ma K (He.ga K x) "__init__")) = some (.type "function")
theorem oexK_ok {K : PySem.W.Frag} {x : Str} (h : oexB K x = true) : OexK K x := by
  unfold oexB at h
  obtain ⟨h1, h⟩ := He.ba h
  obtain ⟨h2, h⟩ := He.ba h
  obtain ⟨h3, h⟩ := He.ba h
  obtain ⟨h4, h⟩ := He.ba h
  obtain ⟨h5, h⟩ := He.ba h
  obtain ⟨h6, h7⟩ := He.ba h
  refine ⟨⟨?_, He.eqO_ok h2, of_decide_eq_true h3, of_decide_eq_true h4, h5⟩, He.eqO_ok h6, of_decide_eq_true h7⟩
  split at h1
  · rename_i dd cd sl ho
    split at h1
    · rename_i C' bm k0 k1 k2 k3 n k5 hm hs
      simp only [Bool.and_eq_true, beq_iff_eq, Bool.not_eq_true'] at h1
      obtain ⟨e1, e2, hdel, hd, hv⟩ := h1
      obtain ⟨nm, bs, mro, ns, qn, hdc, sn, sub, ab, col, del⟩ := cd
      dsimp only at hm hdel hd
      subst hm hdel hd
      have hsl : sl = #[k0, k1, k2, k3, some (.builtin n), k5] := by
        obtain ⟨l⟩ := sl
        simp only at hs
        rw [hs]
      subst hsl e1 e2
      exact ⟨nm, qn, ns, bs, bm, sn, sub, ab, col, dd, k0, k1, k2, k3, k5, ho, hv⟩
    · cases h1
  · cases h1
/-- the class they stand under -/
structure BaseK (K : PySem.W.Frag) (D : Addr) : Prop where
  rd : PySem.W.readsIn K D (.type "type") = true
  ga : PySem.W.specialIn K (.ref D) "__getattribute__" = some (some (.builtin "type.__getattribute__"))
  at_ : PySem.W.findCls K (.ref D) (.type "type") "__init__" = some (.val (.builtin "ValueError.__init__"))
def baseB (K : PySem.W.Frag) (D : Addr) : Bool :=
  PySem.W.readsIn K D (.type "type") && (He.eqO (PySem.W.specialIn K (.ref D) "__getattribute__") (some (some (.builtin "type.__getattribute__"))) &&
  (match PySem.W.findCls K (.ref D) (.type "type") "__init__" with
  | some (.val (.builtin n)) => n == "ValueError.__init__"
  | _ => false))
theorem baseK_ok {K : PySem.W.Frag} {D : Addr} (h : baseB K D = true) : BaseK K D := by
  unfold baseB at h
  obtain ⟨h1, h⟩ := He.ba h
  obtain ⟨h2, h3⟩ := He.ba h
  refine ⟨h1, He.eqO_ok h2, ?_⟩
  split at h3
  · rename_i n e
    rw [e, beq_iff_eq.mp h3]
  · cases h3
section
variable {X : Cx} {e : Expr} {es : List Expr} {ta : TA} {p1 p2 pos : Pos}
theorem pe_teinit {x : Str} {D : Addr} {pl : Sem Bool} (hg : Gl X x) (hm : X.mg x = some (.ref D)) (B : BaseK X.K D) (ha : PA X (e :: es) ta) (hdb : (x == ("__debug__" : Str)) = false)
    (hc : eval (.Call (.Attribute (.Name x p1) "__init__" p2) (e :: es) [] pos) X.env = (do
      let ov ← eval (.Name x p1) X.env
      standAt p2.atName
      let (f, first) ← holding [ov] (getMethod ov "__init__" pl)
      callWith pos f first (backTo pos (starEach (e :: es) X.env)) (backToKw pos (keywordEach [] X.env))))
    (he : starEach (e :: es) X.env = (false, eval e X.env) :: starEach es X.env) (hpl : (backTo pos (starEach es X.env)).any (·.1) = false) :
    PE X (.Call (.Attribute (.Name x p1) "__init__" p2) (e :: es) [] pos) (tVeI X.K ta) := by
  refine ⟨fun pins s σ H Q I h => ?_⟩
  refine PySem.W.methodCall_KW (ld_glob I hg hm ?_ hdb) hc
  refine PySem.W.method_cls I.kIn B.ga (PySem.W.cls_value I.kIn B.rd B.at_ (by decide +kernel) ?_)
  show wpAny _ _ (callWith pos (Value.builtin "ValueError.__init__") [] (backTo pos (starEach (e :: es) X.env)) []) _ _ _
  refine PyProof.Rows.callWith_method1 (thn (ha.run pos pins _ σ H _ (I.tok _) h) fun us s1 ⟨vs, H1, I1, r1, a, C, ws, ev, hl, T, ea, q⟩ => ?_) he hpl
  subst ev
  cases r1 with
  | @cons _ u0 _ ur ra rw' =>
    obtain rfl : u0 = Value.ref a := ra
    have hlen : ur.length ≤ sizeLine := by
      rw [← Paired.length rw', sizeLine_eq]
      omega
    exact oinit_ok T I1 ea hlen fun s' J => ⟨.non, H1, J, rfl, q⟩
end
section
variable {X : Cx} {C : XC} {pu : Bool} {ω : Type} {Γ : List SD} {M : Res ω} {k : Opd → List SD → Res ω → Prop} {kl : List SD → Res ω → Prop} {en : ω → EndK} {pos p1 p2 p3 p4 : Pos} {e : Expr}
/-- an exception of the class at C that is being made -/
abbrev exN (C : Addr) : SD := .raw fun e => L2.exo e C none
/-- TreeError.__init__(self, "..") -/
theorem JE.teinit {i j : Nat} {v : V} {x y m : Str} {C0 D : Addr} {pl : Sem Bool} (hm : X.mg x = some (.ref D)) (B : BaseK X.K D) (T : OexC X.K C0) (hΓ : Γ[i]? = some (.pin v (exN C0))) (hk : k (.own (.val .none)) Γ M)
    (hN : X.N[i]? = some y := by rfl) (hv : Vis X.env.scope y := by first | exact Or.inl rfl | exact Or.inr (Or.inl rfl) | exact Or.inr (Or.inr rfl)) (hd : (y == ("__debug__" : Str)) = false := by decide) (hcd : (y == ("__classdict__" : Str)) = false := by decide)
    (hg : Gl X x := by rfl) (hdb : (x == ("__debug__" : Str)) = false := by decide)
    (hc : eval (.Call (.Attribute (.Name x p1) "__init__" p2) [.Name y p3, .Constant (.str m) j p4] [] pos) X.env = (do
      let ov ← eval (.Name x p1) X.env
      standAt p2.atName
      let (f, first) ← holding [ov] (getMethod ov "__init__" pl)
      callWith pos f first (backTo pos (starEach [.Name y p3, .Constant (.str m) j p4] X.env)) (backToKw pos (keywordEach [] X.env))) := by rfl)
    (he : starEach [.Name y p3, .Constant (.str m) j p4] X.env = (false, eval (.Name y p3) X.env) :: starEach [.Constant (.str m) j p4] X.env := by rfl) (he2 : starEach [.Constant (.str m) j p4] X.env = (false, eval (.Constant (.str m) j p4) X.env) :: starEach [] X.env := by rfl) (hpl : (backTo pos (starEach [.Constant (.str m) j p4] X.env)).any (·.1) = false := by rfl) :
    JE X C pu Γ (.Call (.Attribute (.Name x p1) "__init__" p2) [.Name y p3, .Constant (.str m) j p4] [] pos) M k := by
  refine JE.of (pe_teinit hg hm B pa_sem hdb hc he hpl) ?_
  intro F h0 g H σ Q hen hf hG hu hx hq
  have hA : JA X C true Γ [.Name y p3, .Constant (.str m) j p4] M fun os Γ1 M1 => os = [.at i, .own (.val (.str m))] ∧ Γ1 = Γ :=
    JA.cons (pt := true) (JE.slot hΓ ⟨.inr (.inl ⟨_, rfl⟩), fun _ => rfl, JA.one (JE.str ⟨rfl, rfl⟩) he2⟩ (by intro z; cases z) hN hv hd hcd) he
  refine hA F h0 g H σ _ hen hf hG hu hx fun os Γ1 M1 ⟨eo, e1⟩ hm' vs F1 h1 h2 H1 x1 ow he1 d1 hf1 hp1 => ?_
  subst eo e1 hm'
  obtain ⟨v1, v2, ha, hb, ev, s1, s2, dab, w1, w2⟩ := ow.two
  obtain ⟨o, c1, c2, eo, t1, t2, d12, w, _⟩ := he1.at hΓ
  obtain ⟨u, eu, wu⟩ := w.val (by intro z; cases z)
  subst eu
  have w1 : σ[i]? = some (some v1) := w1
  rw [eo] at w1
  cases w1
  unfold own at wu
  obtain ⟨_, wu⟩ := wu
  unfold own at wu
  obtain ⟨a, ea, hca⟩ := wu
  subst ea
  refine ⟨a, C0, [v2], ev, Nat.le_of_ble_eq_true rfl, T, hf1.hH _ _ (Sub.r d1 _ _ (t1 _ _ hca)), ?_⟩
  refine hq (.own (.val .none)) _ _ hk rfl .non F1 emp h2 H1 x1 ?_ he1 .emp (hf1.un d1).emp fun z => ⟨(hp1 rfl).1, rfl⟩
  unfold OpdOk own
  exact .non
/-- self.f = e, the one thing it keeps -/
theorem JS.oset {i : Nat} {v : V} {y f : Str} {C0 : Addr} (T : OexC X.K C0) (hno : PySem.W.findIn X.K (.ref C0) f = some none) (h : JE X C false Γ e M fun o Γ1 M1 => ∃ s, o = .own s ∧ Γ1[i]? = some (.pin v (exN C0)) ∧ kl (Γ1.set i (.pin v (.exo C0 [(f, s)]))) M1)
    (hN : X.N[i]? = some y := by rfl) (hv : Vis X.env.scope y := by first | exact Or.inl rfl | exact Or.inr (Or.inl rfl) | exact Or.inr (Or.inr rfl)) (hd : (y == ("__debug__" : Str)) = false := by decide) (hcd : (y == ("__classdict__" : Str)) = false := by decide)
    (hs : swapsWith e (some (.Attribute (.Name y p1) f p2)) pos.line X.env = pure false := by rfl) : JS X C Γ (.Assign [.Attribute (.Name y p1) f p2] e pos) M kl en :=
  JS.of (ps_ost (pe_var hN hv hd hcd) pe_sem hs) fun F h0 g H σ D he hf hG hu hx q hn => by
    refine h F h0 g H σ _ he hf hG hu hx fun o Γ1 M1 ⟨s, e1, hi, hk⟩ hm w F1 h1 h2 H1 x1 ow1 he1 d1 hf1 _ => ?_
    subst e1 hm
    unfold OpdOk at ow1
    obtain ⟨o, c1, c2, eo, t1, t2, d12, ww, back⟩ := he1.at hi
    obtain ⟨u, eu, wu⟩ := ww.val (by intro z; cases z)
    subst eu
    unfold own at wu
    obtain ⟨ev, wu⟩ := wu
    subst ev
    unfold own at wu
    obtain ⟨a, ea, hca⟩ := wu
    subst ea
    have h2a : h2 a = some (L2.exo a C0 none) := t1 _ _ hca
    have H1a : H1 a = some (L2.exo a C0 none) := hf1.hH _ _ (Sub.r d1 _ _ h2a)
    refine ⟨.ref a, eo, a, C0, rfl, T, hno, .inl ⟨H1a, fun dx ndx nda => ?_⟩⟩
    have ncup := hf1.hH.no ndx
    have dE : Dis (sgl dx (exd dx [(f, w)])) (cup h1 h2) := Dis.one ncup
    have f0 := hf1.new (o := exd dx [(f, w)]) ndx
    have n1a : h1 a = none := d1.symm.no h2a
    have n1d : h1 dx = none := Sub.l.no ncup
    have nsd : sgl dx (exd dx [(f, w)]) a = none := one_none fun z => nda z.symm
    have nc2 : c2 a = none := d12.no hca
    have d1E : Dis h1 (sgl dx (exd dx [(f, w)])) := (dE.mono .refl .l).symm
    have d1c : Dis h1 c2 := d1.mono .refl t2
    have dEc : Dis (sgl dx (exd dx [(f, w)])) c2 := dE.mono .refl (t2.trans (.r d1))
    have f1 : Fits F1 (cup (sgl a (L2.exo a C0 none)) (cup (cup h1 (sgl dx (exd dx [(f, w)]))) c2)) g (upd H1 dx (exd dx [(f, w)])) :=
      f0.sub (Sub.cup ((Sub.one h2a).trans ((Sub.r d1).trans (.r dE))) (Sub.cup (Sub.cup (Sub.l.trans (.r dE)) .l) (t2.trans ((Sub.r d1).trans (.r dE)))))
    have nR : cup (cup h1 (sgl dx (exd dx [(f, w)]))) c2 a = none := by
      rw [cup_none (by rw [cup_none n1a]; exact nsd)]
      exact nc2
    have f2 := f1.upd (u := L2.exo a C0 (some dx)) nR
    have da : Dis (sgl a (L2.exo a C0 (some dx))) (cup (cup h1 (sgl dx (exd dx [(f, w)]))) c2) := Dis.one nR
    have nk : cup h1 (sgl dx (exd dx [(f, w)])) a = none := by rw [cup_none n1a]; exact nsd
    have dk : Dis (sgl a (L2.exo a C0 (some dx))) (cup h1 (sgl dx (exd dx [(f, w)]))) := Dis.one nk
    have es : σ.set i (some (.ref a)) = σ := by
      obtain ⟨hi', e'⟩ := List.getElem?_eq_some_iff.mp eo
      rw [← e']; exact List.set_getElem_self hi'
    have E2 := back F1 (.pin (.ref a) (.exo C0 [(f, s)])) (some (.ref a)) (cup (sgl a (L2.exo a C0 (some dx))) (cup h1 (sgl dx (exd dx [(f, w)])))) (cup (sgl a (L2.exo a C0 (some dx))) (cup (cup h1 (sgl dx (exd dx [(f, w)]))) c2)) .refl (hf1.G hG) (.of (by
      unfold own
      refine ⟨rfl, ?_⟩
      unfold own
      refine ⟨a, dx, [(f, w)], h1, rfl, cup_some one_same, ?_, (Sub.l.trans (.r dk)), n1a, n1d, ?_⟩
      · rw [cup_none (one_none nda), cup_none n1d]
        exact one_same
      · unfold ownF
        exact ⟨w, [], h1, emp, rfl, .refl, .emp, Dis.emp.symm, ow1, by unfold ownF; rfl⟩)) (Dis.cup (Dis.one nc2) (Dis.cup d1c dEc)) (Sub.cup .l (Sub.l.trans (.r da))) ((Sub.r (Dis.cup d1c dEc)).trans (.r da))
    rw [es] at E2
    exact q _ _ hk rfl F1 _ σ _ x1 E2 f2
theorem NR.exo {Ca : Addr} {l : List (Str × SD)} (n : NRF l) : NR (.exo Ca l) := fun K F G G' h v q => by
  unfold Tsa.own at q ⊢
  obtain ⟨p, dx, fs, h', e, q1, q2, q3, q4, q5, q6⟩ := q
  exact ⟨p, dx, fs, h', e, q1, q2, q3, q4, q5, NRF.own n q6⟩
end
end Tsa

/-! N57: raise C(e), C with an own __init__. -/
namespace Tsa
open PySem PySem.Spec PyProof.Rows L2
section
variable {X : Cx}
/-- it is let go: what stood as being made is an exception's dict from here on -/
theorem mk_endG {pins : List (Addr × Obj)} {σ : L2.St} {H1 H2 : Hp} {ha hb hc : Heap} {ga gc : Array GenState} {da dc : Drawn} {ta tc : Nat} {oa oc : OsState} {a C d : Addr} {fs : List (Str × V)} (I1 : Inv X pins σ H1 ⟨ha, ga, da, ta, oa⟩)
    (fresh : ha.objs.size ≤ a) (kb : ∀ b o, ha.get? b = some o → hb.get? b = some o) (un : Un (frs X.stack) [] (upd H1 a (L2.exo a C none)) H2 hb hc) (hok : HOk X.prog X.w H2 hc) (ho : oc = oa) (bare : AllBare gc)
    (ea : H2 a = some (L2.exo a C (some d))) (ed : H2 d = some (exd d fs)) :
    ∃ (t0 : Addr) (G : Heap), Inv X pins σ (upd (del H2 a) d (.xd fs)) ⟨G, gc, dc, tc, oc⟩ ∧ (∀ b o, G.get? b = some o → hc.get? b = some o) ∧ G.get? a = none ∧
      hc.get? a = some ({ cls := .ref C, dict := some d, data := .fields #[.ref t0, .none, .none, .none, .bool false, .none] } : Obj) ∧ (upd (del H2 a) d (.xd fs)) a = none := by
  obtain ⟨t0, at0⟩ := exo_at hok ea
  obtain ⟨mA, names, rel⟩ := exd_at hok ed
  have noH : H1 a = none := I1.hok.fresh fresh
  have ne_da : d ≠ a := fun z => by
    obtain ⟨o, es, ep, e1, e2, _⟩ := names
    rw [z, at0] at e1
    have z2 := Option.some.inj e1
    subst z2
    cases e2
  obtain ⟨G, gIn, gOut⟩ := restrict hc fun b => decide (b ≠ a)
  have gk : ∀ b, b ≠ a → G.get? b = hc.get? b := fun b hb => gIn b (decide_eq_true hb)
  have gNo : G.get? a = none := gOut a (by simp)
  have old : ∀ {b : Addr} {o : Obj}, ha.get? b = some o → b ≠ a := fun {b o} z => Nat.ne_of_lt (Nat.lt_of_lt_of_le (Heap.lt_size z) fresh)
  have up : ∀ {b : Addr}, b ≠ a → H1 b = none → upd H1 a (L2.exo a C none) b = none := fun {b} hb n => by rw [upd_ne hb]; exact n
  have freeD : ∀ {b : Addr} {o : Obj}, ha.get? b = some o → H1 b = none → b ≠ d := fun {b o} z n e => by
    have y := un.free b o (kb b o z) (up (old z) n) (by simp)
    rw [e, ed] at y
    cases y
  have ne_a : ∀ {b : Addr} {o : HO}, H1 b = some o → b ≠ a := fun {b o} z e => by
    rw [e, noH] at z
    cases z
  have far : ∀ {b : Addr}, b ≠ a → b ≠ d → upd (del H2 a) d (.xd fs) b = H2 b := fun {b} x y => by rw [upd_ne y, del_ne x]
  have U : Un (frs X.stack) [] H1 (upd (del H2 a) d (.xd fs)) ha G := {
    keep := fun b o z n hf hx => (gk b (old z)).trans (un.keep b o (kb b o z) (up (old z) n) hf hx)
    slot := fun b o z n hf hx => by
      obtain ⟨sl, y⟩ := un.slot b o (kb b o z) (up (old z) n) hf hx
      exact ⟨sl, (gk b (old z)).trans y⟩
    free := fun b o z n hx => (far (old z) (freeD z n)).trans (un.free b o (kb b o z) (up (old z) n) hx)
    there := fun b o z hx => by
      obtain ⟨o', y⟩ := un.there b o (kb b o z) hx
      exact ⟨o', (gk b (old z)).trans y⟩
    tups := fun b xs z => by
      have y := un.tups b xs ((upd_ne (ne_a z)).trans z)
      have nd : b ≠ d := fun e => by rw [e, ed] at y; exact exd_tup (Option.some.inj y)
      exact (far (ne_a z) nd).trans y
    frzs := fun b o v z => by
      have y := un.frzs b o v ((upd_ne (ne_a z)).trans z)
      have nd : b ≠ d := fun e => by rw [e, ed] at y; cases Option.some.inj y
      exact (far (ne_a z) nd).trans y
    tbls := fun b ps z => by
      obtain ⟨more, y⟩ := un.tbls b ps ((upd_ne (ne_a z)).trans z)
      have nd : b ≠ d := fun e => by rw [e, ed] at y; cases Option.some.inj y
      exact ⟨more, (far (ne_a z) nd).trans y⟩ }
  have ok3 : HOk X.prog X.w (upd (del H2 a) d (.xd fs)) G := fun b o z => by
    by_cases hbd : b = d
    · subst hbd
      rw [upd_same] at z
      cases z
      exact ⟨mA, names.at fun o y => (gk b ne_da).trans y, rel⟩
    · rw [upd_ne hbd] at z
      have hba : b ≠ a := fun e => by
        rw [e, del_same] at z
        cases z
      rw [del_ne hba] at z
      have noa : ∀ {c : Addr}, H2 c = some (.own b) → c ≠ a := fun {c} hc => at_ne ea hc exo_own
      refine (hok b o z).stay (fun c v hc y => ?_) (fun c hc => ?_) fun c xs hc => ?_
      · have hca : c ≠ a := hc.elim (fun e => by rw [e]; exact hba) noa
        exact (gk c hca).trans y
      · rw [upd_ne (at_ne ed hc exd_own), del_ne (noa hc)]; exact hc
      · rw [upd_ne (at_ne ed hc exd_tup), del_ne (at_ne ea hc exo_tup)]; exact hc
  have J : Inv X pins σ (upd (del H2 a) d (.xd fs)) ⟨G, gc, dc, tc, oc⟩ := I1.call' (ch := []) ho U ok3 bare (fun b z => absurd z (by simp))
  refine ⟨t0, G, J, fun b o z => ?_, gNo, at0, ?_⟩
  · by_cases hba : b = a
    · rw [hba, gNo] at z
      cases z
    · exact (gk b hba).symm.trans z
  · rw [upd_ne (Ne.symm ne_da), del_same]
/-- C(e, ..), its own __init__ keeping sp -/
abbrev tMkG (C : Addr) (sp : Sp) (ta : TA) : L2.St → Hp → XK → Prop := fun σ H Q => ta σ H fun vs H1 => vs.length ≤ 1000 ∧ ∀ a, H1 a = none → sp (.ref a :: vs) (upd H1 a (L2.exo a C none))
  (fun v H2 => v = .non ∧ ∃ (d : Addr) (fs : List (Str × V)), H2 a = some (L2.exo a C (some d)) ∧ H2 d = some (exd d fs) ∧ Q (.ref C) (some d) (upd (del H2 a) d (.xd fs))) (fun _ _ _ => False)
variable {x : Str} {e : Expr} {es : List Expr} {ta : TA} {p pos : Pos} {C fI : Addr} {k : Nat} {fd : FuncData} {ps : List Str} {sp : Sp}
theorem pmk_oexG (T : OexC X.K C) (iC : PySem.W.findIn X.K (.ref C) "__init__" = some (some (.ref fI))) (tI : PySem.W.typeIn X.K (.ref fI) = some (.type "function"))
    (Fn : FnG X.prog X.w X.K X.mg X.base k fI fd ps sp) (hr : RoomG (k + 1) X.A) (hb : Binds X.K fd ps []) (hg : Gl X x) (hm : X.mg x = some (.ref C)) (ha : PA X (e :: es) ta)
    (hdb : (x == ("__debug__" : Str)) = false) (he : starEach (e :: es) X.env = (false, eval e X.env) :: starEach es X.env) (hpl : (backTo pos (starEach es X.env)).any (·.1) = false) :
    L2N.PMk X (.Call (.Name x p) (e :: es) [] pos) (tMkG C sp ta) := by
  intro pins s σ H Q I h
  obtain ⟨nm, q, N, bs, bm, sn, sub, ab, col, dd, k0, k1, k2, k3, k5, hC, hbm⟩ := T.cls
  refine wpAny_Call_Name_kw (ld_glob I hg hm ?_ hdb)
  refine PySem.W.callWith_K (h₀ := X.base) I.ok.mod.kin T.kC (thn (ha.run pos pins s σ H _ I h) fun us s1 ⟨vs, H1, I1, r1, hz, q1⟩ => ⟨I1.kIn, ?_⟩) he hpl
  show wpAny _ _ (call (.ref C) us) _ _ _
  obtain ⟨hp, g, dr, tk, os⟩ := s1
  have big : hp.objs.size ≤ hp.objs.size + 1 := Nat.le_succ _
  have asked := q1 (hp.objs.size + 1) (I1.hok.fresh big)
  have grown : ∀ b o, hp.get? b = some o → ((hp.push (PySem.W.kdv_tup us)).push (PySem.HandSPX.excO C hp.objs.size)).get? b = some o := fun b o e => Heap.get?_push_of_some _ (Heap.get?_push_of_some _ e)
  have got0 : ((hp.push (PySem.W.kdv_tup us)).push (PySem.HandSPX.excO C hp.objs.size)).get? (hp.objs.size + 1) = some (PySem.HandSPX.excO C hp.objs.size) := by heap_get
  have I2 : Inv X pins σ (upd H1 (hp.objs.size + 1) (L2.exo (hp.objs.size + 1) C none)) ⟨(hp.push (PySem.W.kdv_tup us)).push (PySem.HandSPX.excO C hp.objs.size), g, dr, tk, os⟩ :=
    I1.laid (t' := tk) (a := hp.objs.size + 1) (o := L2.exo (hp.objs.size + 1) C none) (h' := (hp.push (PySem.W.kdv_tup us)).push (PySem.HandSPX.excO C hp.objs.size)) grown big (exo_ok got0)
  have r2 : Vals (V.ref (hp.objs.size + 1) :: vs) (Value.ref (hp.objs.size + 1) :: us) := .cons rfl r1
  have count : (Value.ref (hp.objs.size + 1) :: us).length = ps.length := by
    have c := r2.length
    rw [Fn.len _ _ _ _ asked] at c
    exact c.symm
  have few : us.length ≤ sizeLine := by
    rw [← Paired.length r1, sizeLine_eq]
    omega
  have b2 := hb _ (Value.ref (hp.objs.size + 1) :: us) I2.kIn (by rw [List.append_nil]; exact count)
  rw [List.append_nil] at b2
  refine wpAny_call (PySem.HandSPX.call_own F.excBase_ValueError (fun Y => PySem.HandSPX.refsVE_contains Y bm hbm) (I1.kIn _ _ hC) (PySem.W.looks_findIn I1.kIn iC) (fun self => PySem.W.bind_fn I1.kIn self tI) few
    (codeAny_mono (Fn.run _ X.stack _ _ ⟨Value.ref (hp.objs.size + 1) :: us, []⟩ (Value.ref (hp.objs.size + 1) :: us) _ _ (fun _ _ _ => False) (hr.make C us []) (I2.env0.make C us []) b2 r2 asked) fun r s' got => ?_))
  match r, got with
  | .error er, got => exact (passesW takesF σ) pins _ _ er s' I2 got
  | .ok .next, got => exact got.elim
  | .ok .brk, got => exact got.elim
  | .ok .cont, got => exact got.elim
  | .ok (.ret u), got =>
    obtain ⟨v, H2, os2, bare2, un2, hok2, rv, ev, d, fs, ea, ed, q2⟩ := got
    subst ev
    obtain ⟨h2, g2, d2, t2, os'⟩ := s'
    obtain ⟨t0, G, J, kG, ge, hoe, na⟩ := mk_endG (dc := d2) (tc := t2) I1 big grown un2 hok2 os2 bare2 ea ed
    exact ⟨rv, hp.objs.size + 1, _, _, ⟨G, g2, d2, t2, os'⟩, _, .ref C, some d, rfl, J, kG, ge, hoe, ⟨rfl, rfl, fun vs e => by cases e; rfl⟩, rfl, rfl, na, rfl, bare2, raises_own T.exC T.tyC, q2⟩
end
/-- a class of exceptions that keeps one thing, made of one thing -/
def HasI (X : Cx) {ι ω : Type} (cn : Str) (lv : Nat) (dat : ι → SD) (mir : ι → Res ω) (fl : ι → ω → List (Str × SD)) : Prop :=
  X.mg cn = some (.ref (He.ga X.K cn)) ∧ OexK X.K cn ∧ (∃ (fd : FuncData) (ps : List Str), FnG X.prog X.w X.K X.mg X.base lv (He.ma X.K (He.ga X.K cn) "__init__") fd ps (SpM X.K (fun i => [exN (He.ga X.K cn), dat i]) mir (fun _ _ => .val .none) (fun i r => [.exo (He.ga X.K cn) (fl i r), .hole]) (fun _ => [.hole, .hole])) ∧ Binds X.K fd ps []) ∧
    (∀ i r, NRF (fl i r)) ∧ ∀ i e, mir i ≠ .ex e
section
variable {X : Cx} {C : XC} {ω ω' ι : Type} {Γ : List SD} {M : Res ω} {k : List SD → Res ω → Prop} {en : ω → EndK} {e : Expr} {cn : Str} {lv : Nat} {dat : ι → SD} {mir : ι → Res ω'} {fl : ι → ω' → List (Str × SD)} {p p3 pos : Pos}
/-- raise C(e) -/
theorem JS.raiseI (tk : L2N.Takes X C.E) (hc : X.calm = true) (c : HasI X cn lv dat mir fl) (hr : RoomG (lv + 1) X.A)
    (h : JE X C false Γ e M fun o Γ1 M1 => ∃ i, o = .own (dat i) ∧ M1 = (mir i).bind (fun r => .ex ⟨cn, fl i r⟩) ∧ Le Γ1 C.Γx)
    (hg : Gl X cn := by rfl) (hdb : (cn == ("__debug__" : Str)) = false := by decide) (he : starEach [e] X.env = (false, eval e X.env) :: starEach [] X.env := by rfl) (hpl : (backTo p3 (starEach [] X.env)).any (·.1) = false := by rfl) :
    JS X C Γ (.Raise (some (.Call (.Name cn p) [e] [] p3)) none pos) M k en := by
  obtain ⟨hm, T, ⟨fd, ps, Fn, hb⟩, nrf, nex⟩ := c
  refine JS.of (L2N.ps_raise hc tk (pmk_oexG T.o T.ini T.fn Fn hr hb hg hm pa_sem hdb he hpl)) fun F h0 g H σ D hen hf hG hu hx hk hn => ?_
  refine (JA.one (ka := fun os Γ1 M1 => ∃ i, os = [.own (dat i)] ∧ M1 = (mir i).bind (fun r => .ex ⟨cn, fl i r⟩) ∧ Le Γ1 C.Γx) (h.mono fun o Γ1 M1 ⟨i, e1, e2, e3⟩ => ⟨i, by rw [e1], e2, e3⟩) he) F h0 g H σ _ hen hf hG hu hx fun os Γ1 M1 ⟨i, eo, eM, hl⟩ hm' vs F1 h1 h2 H1 x1 ow he1 d1 hf1 _ => ⟨?_, fun a na => ?_⟩
  · subst eo
    obtain ⟨v, hv, ev, _⟩ := ow.one
    rw [ev]
    exact Nat.le_of_ble_eq_true rfl
  · subst eo
    obtain ⟨v, hv, ev, sv, w⟩ := ow.one
    subst ev
    unfold OpdOk at w
    have hM : M = (mir i).bind (fun r => .ex ⟨cn, fl i r⟩) := hm'.symm.trans eM
    have hmu : mir i ≠ .un := fun z => hu (by rw [hM, z]; rfl)
    have f0 : Fits F1 (cup h1 h2) g H1 := hf1
    have dgh : Dis h2 g := hf1.hg.mono (.r d1) .refl
    have f1 : Fits F1 (cup h2 h1) g H1 := hf1.sub (Sub.cup (.r d1) .l)
    have f2 : Fits F1 h1 (cup h2 g) H1 := f1.out d1.symm
    have f3 := (f2.sub sv).new (o := L2.exo a (He.ga X.K cn) none) na
    have dn : Dis (sgl a (L2.exo a (He.ga X.K cn) none)) hv := Dis.one ((f2.sub sv).hH.no na)
    refine ⟨i, F1, cup (sgl a (L2.exo a (He.ga X.K cn) none)) hv, cup h2 g, ?_, f3, hmu, fun r hr' u F' k1 k2 H' x2 wr ev dk ff => ?_, fun e' he' => absurd he' (nex i e')⟩
    · unfold ownL
      refine ⟨.ref a, [v], sgl a (L2.exo a (He.ga X.K cn) none), hv, rfl, .l, .r dn, dn, ?_, ?_⟩
      · unfold own
        exact ⟨a, rfl, one_same⟩
      · unfold ownL
        refine ⟨v, [], hv, emp, rfl, .refl, .emp, Dis.emp.symm, ?_, by unfold ownL; rfl⟩
        exact own_mono .refl (Sub.cup2 .refl (hG.trans (.r dgh)) (hf1.fg.mono .refl .refl |> fun _ => f2.fg)) _ .refl w
    · unfold own at wr
      have eu := wr.nonV
      obtain ⟨o, σr, c1, c2, eσ, s1, s2, d12, w0, _⟩ := ev
      have w0 : ownO X.K F' emp (.exo (He.ga X.K cn) (fl i r)) c1 o := w0
      obtain ⟨u0, eu0, wo⟩ := w0.val (by intro z; cases z)
      subst eu0
      have ea : u0 = .ref a := by
        have : some (V.ref a) :: [some v] = some u0 :: σr := eσ
        cases this
        rfl
      subst ea
      unfold own at wo
      obtain ⟨a', dx, fs, h', e1, q1, q2, q3, q4, q5, q6⟩ := wo
      cases e1
      have sub1 : Sub c1 H' := s1.trans ((Sub.r dk).trans ff.hH)
      refine ⟨eu, dx, fs, sub1 _ _ q1, sub1 _ _ q2, ?_⟩
      have xx : M = .ex ⟨cn, fl i r⟩ := by rw [hM, hr']; rfl
      -- the heap that is left
      have fb : Fits F' (cup h' (cup h2 emp)) g H' := by
        have t1 : Sub h' (cup k1 k2) := q3.trans (s1.trans (.r dk))
        have dfg := ff.fg
        have dh2 : Dis h' (cup h2 g) := ff.hg.mono t1 .refl
        refine ⟨ff.fH, Sub.cup (t1.trans ff.hH) (Sub.cup (Sub.l.trans ff.gH) .emp), (Sub.r dgh).trans ff.gH, (Dis.cup (ff.fh.mono .refl t1).symm (Dis.cup (dfg.mono .refl .l).symm .emp)).symm, dfg.mono .refl (.r dgh), Dis.cup (dh2.mono .refl (.r dgh)) (Dis.cup dgh .emp)⟩
      have na1 : ∀ {z : Hp}, Sub z (cup h2 g) → z a = none := fun {z} hz => by
        have := (ff.hg.mono (s1.trans (.r dk)) hz).no q1
        exact this
      have nd1 : ∀ {z : Hp}, Sub z (cup h2 g) → z dx = none := fun {z} hz => (ff.hg.mono (s1.trans (.r dk)) hz).no q2
      have nF : F' a = none := (ff.fh.mono .refl (s1.trans (.r dk))).symm.no q1
      have nFd : F' dx = none := (ff.fh.mono .refl (s1.trans (.r dk))).symm.no q2
      have keep : ∀ {z : Hp}, Sub z H' → z a = none → z dx = none → Sub z (upd (del H' a) dx (.xd fs)) := fun {z} hz n1 n2 b o hb => by
        have b1 : b ≠ a := fun e => by rw [e, n1] at hb; cases hb
        have b2 : b ≠ dx := fun e => by rw [e, n2] at hb; cases hb
        rw [upd_ne b2, del_ne b1]
        exact hz _ _ hb
      have dh2 : Dis h' h2 := (ff.hg.mono (q3.trans (s1.trans (.r dk))) .l)
      have nsx : (cup h' h2) dx = none := by rw [cup_none q5]; exact nd1 .l
      have dsx : Dis (sgl dx (HO.xd fs)) (cup h' h2) := Dis.one nsx
      have fF : Fits F' (cup (cup (sgl dx (.xd fs)) h') h2) g (upd (del H' a) dx (.xd fs)) := by
        have t1 : Sub h' (cup k1 k2) := q3.trans (s1.trans (.r dk))
        refine ⟨keep ff.fH nF nFd, Sub.cup (Sub.cup (Sub.one upd_same) (keep (t1.trans ff.hH) q4 q5)) (keep (Sub.l.trans ff.gH) (na1 .l) (nd1 .l)), keep ((Sub.r dgh).trans ff.gH) (na1 (.r dgh)) (nd1 (.r dgh)), ?_, ff.fg.mono .refl (.r dgh), ?_⟩
        · exact (Dis.cup (Dis.cup (Dis.one nFd) (ff.fh.mono .refl t1).symm) (ff.fg.mono .refl .l).symm).symm
        · exact Dis.cup (Dis.cup (Dis.one (nd1 (.r dgh))) (ff.hg.mono t1 (.r dgh))) dgh
      have enx : ExnOwn X.K F' C.G (cup (sgl dx (.xd fs)) h') ⟨cn, fl i r⟩ (.ref (He.ga X.K cn)) (some dx) := by
        refine ⟨rfl, .inr ⟨dx, rfl, ?_⟩⟩
        unfold own
        refine ⟨dx, fs, h', rfl, cup_some one_same, .r (dsx.mono .refl .l), q5, ?_⟩
        exact NRF.own (nrf i r) q6
      have dG : Dis F' C.G := ff.fg.mono .refl (hG.trans (.r dgh))
      exact hx _ xx _ (some dx) F' (cup (sgl dx (.xd fs)) h') h2 _ σ (x1.trans x2) enx (hl.ok (EnvR.mono x2 dG .refl he1)) (Dis.cup (dsx.mono .refl (.r dh2)) dh2) fF
end
end Tsa

/-! N58: what the caught one keeps. -/
namespace Tsa
open PySem PySem.Spec PyProof.Rows L2
/-- the tests of the module, with classes that keep something -/
def xfB2 (cs ns os : List Str) (K : PySem.W.Frag) : Bool := xfB cs ns K && (os.all (fun c => oexB K c) && baseB K (He.ga K "TreeError"))
theorem xfB2_ok {cs ns os : List Str} {K : PySem.W.Frag} (h : xfB2 cs ns os K = true) : XF K cs ns ∧ (∀ c ∈ os, OexK K c) ∧ BaseK K (He.ga K "TreeError") := by
  unfold xfB2 at h
  obtain ⟨h1, h⟩ := He.ba h
  obtain ⟨h2, h3⟩ := He.ba h
  rw [List.all_eq_true] at h2
  exact ⟨xfB_ok h1, fun c hc => oexK_ok (h2 c hc), baseK_ok h3⟩
/-! ### what a field holds, read back -/
def decI : SD → Option Int
  | .val (.int i) => some i
  | _ => none
theorem decI_eq {s : SD} {i : Int} (h : decI s = some i) : s = .val (.int i) := by
  unfold decI at h
  split at h
  · cases h; rfl
  · cases h
def decL {α : Type} (dec : SD → Option α) : List SD → Option (List α)
  | [] => some []
  | s :: r => match dec s, decL dec r with
    | some x, some xs => some (x :: xs)
    | _, _ => none
def decLI : SD → Option (List Int)
  | .lst l => decL decI l
  | _ => none
def decLLI : SD → Option (List (List Int))
  | .lst l => decL decLI l
  | _ => none
def optU {α : Type} : Option α → Res α
  | some x => .ok x
  | none => .un
def fldS (f : Str) : List (Str × SD) → Option SD
  | [(g, s)] => if g = f then some s else none
  | _ => none
theorem fldS_eq {f : Str} {l : List (Str × SD)} {s : SD} (h : fldS f l = some s) : l = [(f, s)] := by
  unfold fldS at h
  split at h
  · rename_i g u
    by_cases c : g = f
    · subst c
      rw [if_pos rfl] at h
      cases h; rfl
    · rw [if_neg c] at h
      cases h
  · cases h
/-- the field f of an exception of class c -/
def fldR {α : Type} (dec : SD → Option α) (c : Str) (e : Exn) (f : Str) : Res α := if e.cls = c then optU ((fldS f e.flds).bind dec) else .un
theorem fldR_nex {α : Type} {dec : SD → Option α} {c : Str} {e : Exn} {f : Str} : ∀ x, fldR dec c e f ≠ .ex x := fun x z => by
  unfold fldR at z
  split at z
  · cases q : (fldS f e.flds).bind dec with
    | none => rw [q] at z; cases z
    | some y => rw [q] at z; cases z
  · cases z
theorem fldR_ok {α : Type} {dec : SD → Option α} {c : Str} {e : Exn} {f : Str} (h : fldR dec c e f ≠ .un) : ∃ s x, e.cls = c ∧ e.flds = [(f, s)] ∧ dec s = some x ∧ fldR dec c e f = .ok x := by
  unfold fldR at h ⊢
  by_cases q : e.cls = c
  · rw [if_pos q] at h
    cases z : (fldS f e.flds).bind dec with
    | none => rw [z] at h; exact absurd rfl h
    | some y =>
      obtain ⟨s, e1, e2⟩ := Option.bind_eq_some_iff.mp z
      exact ⟨s, y, q, fldS_eq e1, e2, by rw [if_pos q]; rfl⟩
  · rw [if_neg q] at h
    exact absurd rfl h
section
variable {X : Cx} {C : XC} {pu : Bool} {ω : Type} {Γ : List SD} {M : Res ω} {k : Opd → List SD → Res ω → Prop} {pos p : Pos}
theorem exc_at {F G h h2 : Hp} {σ : L2.St} {a : Addr} {od : Option Addr} {f : Str} {s : SD} {v : V} (fo : [(f, s)] = ([] : List (Str × SD)) ∨ ∃ d, od = some d) (q : own X.K F G (excS a od [(f, s)]) h v) :
    v = .ref a ∧ ∃ d u h', od = some d ∧ h d = some (.xd [(f, u)]) ∧ Sub h' h ∧ own X.K F G s h' u := by
  obtain ⟨d, rfl⟩ := fo.resolve_left (fun z => nomatch z)
  unfold excS own at q
  obtain ⟨rfl, q⟩ := q
  dsimp only at q
  unfold own at q
  unfold own at q
  obtain ⟨p', fs, h', e, q1, q2, q3, q4⟩ := q
  cases e
  unfold ownF at q4
  obtain ⟨u, fr, h1, h2, e, s1, s2, dd, w, q5⟩ := q4
  unfold ownF at q5
  subst e q5
  exact ⟨rfl, d, u, h1, rfl, q1, s1.trans q2, w⟩
end
end Tsa

/-! N59: raise C(e), C() of plain classes; a part of an own tuple that is a value. -/
namespace Tsa
open PySem PySem.Spec PyProof.Rows L2
section
variable {X : Cx} {C : XC} {pu : Bool} {ω : Type} {Γ : List SD} {M : Res ω} {k : Opd → List SD → Res ω → Prop} {kl : List SD → Res ω → Prop} {en : ω → EndK} {e : Expr} {pos p p3 : Pos} {cn : Str}
end
end Tsa

/-! N60: x.f[i] op= e, whole numbers. -/
namespace Tsa
open PySem PySem.Spec PyProof.Rows L2
def augR (xs : List Int) (i : Int) (g : Int → Int → Int) (y : Int) : Res (List Int) := match ixN xs.length i with
  | some n => (match xs[n]? with
    | some a => .ok (xs.set n (g a y))
    | none => .un)
  | none => .un
section
variable {X : Cx} {C : XC} {ω : Type} {Γ : List SD} {e ie : Expr} {M : Res ω} {pos tpos p p2 : Pos} {f : Str} {kl : List SD → Res ω → Prop} {en : ω → EndK}
end
end Tsa

/-! N61: sorted(d) of a dict whose keys are whole numbers. -/
namespace Tsa
open PySem PySem.Spec PyProof.Rows L2
/-- sorted(d), d's keys whole numbers -/
def rSortDK : List V → Hp → VK → Prop := fun vs H Q => ∃ (a : Addr) (kvs : List (Key × V)) (ns : List Int), vs = [V.ref a] ∧ Rd H a (.dK kvs) ∧ kvs.map (·.1) = ns.map Sum.inl ∧
  ∀ (ns' : List Int) (p : Addr), ns'.Perm ns → ns'.Pairwise (· ≤ ·) → H p = none → Q (.ref p) (upd H p (.lst (ns'.map V.int)))
section
variable {K : PySem.W.Frag} {X : Cx} {C : XC} {pu : Bool} {ω β : Type} {e : β → PyData} {Γ : List SD} {a : Expr} {M : Res ω} {pos pn : Pos} {k : Opd → List SD → Res ω → Prop}
end
end Tsa

/-! N62: zip of two or three lists and tuples, mixed. -/
namespace Tsa
open PySem PySem.Spec PyProof.Rows L2
def ItA (t : Bool) (h : Heap) (it a : Addr) (i : Nat) : Prop := if t then h.IsTupleIter it a i else h.IsListIter it a i
def SqA (t : Bool) (h : Heap) (a : Addr) (its : Array Value) : Prop := if t then h.IsTuple a its else h.IsList a its
def Sq2 (t : Bool) (K : PySem.W.Frag) (H : Hp) (a : Addr) (xs : List V) : Prop := if t then SqT K H a xs else SqL K H a xs
def itO (t : Bool) (a : Addr) : Obj := if t then { cls := .type "tuple_iterator", data := .fields #[.ref a, .int 0 0] } else { cls := .type "list_iterator", data := .fields #[.ref a, .int 0 0] }
/-- the items of two things as they stand at each turn, in new pairs -/
def Itz2 (t1 t2 : Bool) (K : PySem.W.Frag) (a b : Addr) : It :=
  ⟨fun i H => ∃ (xs ys : List V) (x y : V), Sq2 t1 K H a xs ∧ Sq2 t2 K H b ys ∧ xs[i]? = some x ∧ ys[i]? = some y,
    fun i H v H' => ∃ T x y, v = .ref T ∧ H T = none ∧ H' = upd H T (.tup [x, y]) ∧ (∀ xs, Sq2 t1 K H a xs → xs[i]? = some x) ∧ ∀ ys, Sq2 t2 K H b ys → ys[i]? = some y,
    fun i H => ∃ xs ys : List V, Sq2 t1 K H a xs ∧ Sq2 t2 K H b ys ∧ (xs.length ≤ i ∨ ys.length ≤ i)⟩
def iZip2 (t1 t2 : Bool) (K : PySem.W.Frag) (ta : TA) : TI := fun σ H R => ta σ H fun vs H1 => ∃ a b xs ys, vs = [.ref a, .ref b] ∧ Sq2 t1 K H1 a xs ∧ Sq2 t2 K H1 b ys ∧ R (Itz2 t1 t2 K a b) H1
section
variable {X : Cx} {C : XC} {pu : Bool} {ω α β : Type} {Γ : List SD} {e a b : Expr} {M : Res ω} {pos p pn : Pos} {k : Opd → List SD → Res ω → Prop}
end
end Tsa

/-! N63: zip of three lists and tuples. -/
namespace Tsa
open PySem PySem.Spec PyProof.Rows L2
/-- the items of three things as they stand at each turn, in new triples -/
def Itz3 (t1 t2 t3 : Bool) (K : PySem.W.Frag) (a b c : Addr) : It :=
  ⟨fun i H => ∃ (xs ys zs : List V) (x y z : V), Sq2 t1 K H a xs ∧ Sq2 t2 K H b ys ∧ Sq2 t3 K H c zs ∧ xs[i]? = some x ∧ ys[i]? = some y ∧ zs[i]? = some z,
    fun i H v H' => ∃ T x y z, v = .ref T ∧ H T = none ∧ H' = upd H T (.tup [x, y, z]) ∧ (∀ xs, Sq2 t1 K H a xs → xs[i]? = some x) ∧ (∀ ys, Sq2 t2 K H b ys → ys[i]? = some y) ∧ ∀ zs, Sq2 t3 K H c zs → zs[i]? = some z,
    fun i H => ∃ xs ys zs : List V, Sq2 t1 K H a xs ∧ Sq2 t2 K H b ys ∧ Sq2 t3 K H c zs ∧ (xs.length ≤ i ∨ ys.length ≤ i ∨ zs.length ≤ i)⟩
def iZip3 (t1 t2 t3 : Bool) (K : PySem.W.Frag) (ta : TA) : TI := fun σ H R => ta σ H fun vs H1 => ∃ a b c xs ys zs, vs = [.ref a, .ref b, .ref c] ∧ Sq2 t1 K H1 a xs ∧ Sq2 t2 K H1 b ys ∧ Sq2 t3 K H1 c zs ∧ R (Itz3 t1 t2 t3 K a b c) H1
/-- three lists side by side -/
def zip3 {α β γ : Type} (xs : List α) (ys : List β) (zs : List γ) : List (α × β × γ) := xs.zip (ys.zip zs)
section
variable {X : Cx} {C : XC} {pu : Bool} {ω α β γ : Type} {Γ : List SD} {e a b c : Expr} {M : Res ω} {pos p pn : Pos} {k : Opd → List SD → Res ω → Prop}
end
end Tsa

/-! N64: a part of a slot's own tuple is taken out. -/
namespace Tsa
open PySem PySem.Spec PyProof.Rows L2
section
variable {X : Cx} {C : XC} {ω : Type} {Γ : List SD} {M : Res ω} {pos p : Pos} {k : Opd → List SD → Res ω → Prop}
end
end Tsa

/-! N65: d.setdefault(k, []).append(e), the key reckoned with what it changes. -/
namespace Tsa
open PySem PySem.Spec PyProof.Rows L2
section
variable {κ α : Type} [DecidableEq κ] {kk : κ → Key} {kd : κ → PyData} {g' : α → SD} {X : Cx} {C : XC} {ω : Type} {Γ : List SD} {a b c : Expr} {M : Res ω} {pos pl ps pa p q1 : Pos} {k : Opd → List SD → Res ω → Prop}
end
end Tsa

/-! N66: y = [.. for k in d ..], d one's own dict, locked for it. -/
namespace Tsa
open PySem PySem.Spec PyProof.Rows L2
section
variable {K : PySem.W.Frag} {X : Cx} {C : XC} {ω α β τ : Type} {Γ : List SD} {e a b c tg iter elt : Expr} {M : Res ω} {pos p p2 apos : Pos}
end
end Tsa

/-! N67: an item of one of two own tuples is read. -/
namespace Tsa
open PySem PySem.Spec PyProof.Rows L2
section
variable {X : Cx} {C : XC} {pu : Bool} {ω α β τ : Type} {Γ : List SD} {M : Res ω} {pos p : Pos} {k : Opd → List SD → Res ω → Prop}
end
end Tsa

/-! N68: things by the ways that lead to them from the slots; lists made of such things; a call that changes them and sets them back. -/
namespace Tsa
open PySem PySem.Spec PyProof.Rows L2
def VPh (H : Hp) : V → List Nat → V → Prop
  | v, [], w => v = w
  | v, n :: r, w => ∃ p vs u, v = .ref p ∧ (H p = some (.lst vs) ∨ H p = some (.tup vs)) ∧ vs[n]? = some u ∧ VPh H u r w
def VP (H : Hp) (σ : L2.St) : List Nat → V → Prop
  | [], _ => False
  | i :: r, w => ∃ v, σ[i]? = some (some v) ∧ VPh H v r w
section
variable {H H' : Hp} {σ : L2.St}
end
/-- neither way goes on from the other -/
def incB : List Nat → List Nat → Bool
  | [], _ => false
  | _, [] => false
  | a :: r, b :: s => if a = b then incB r s else true
inductive Pt : SD → List Nat → SD → Prop
  | here {s : SD} : Pt s [] s
  | lst {l : List SD} {n : Nat} {s t : SD} {r : List Nat} : l[n]? = some s → Pt s r t → Pt (.lst l) (n :: r) t
  | tup {l : List SD} {n : Nat} {s t : SD} {r : List Nat} : l[n]? = some s → Pt s r t → Pt (.tup l) (n :: r) t
section
variable {K : PySem.W.Frag} {F G : Hp}
/-- a way from the slots -/
def PtE (Γ : List SD) (q : List Nat) (t : SD) : Prop := ∃ i r s, q = i :: r ∧ Γ[i]? = some s ∧ s ≠ .hole ∧ Pt s r t
variable {Γ : List SD} {h : Hp} {σ : L2.St}
end
/-! ### what an expression gives of such things -/
inductive LV (H : Hp) (σ : L2.St) : List (List Nat) → List V → Prop
  | nil : LV H σ [] []
  | cons {q : List Nat} {qs : List (List Nat)} {v : V} {vs : List V} : VP H σ q v → LV H σ qs vs → LV H σ (q :: qs) (v :: vs)
theorem LV.len {H : Hp} {σ : L2.St} {qs : List (List Nat)} {vs : List V} (h : LV H σ qs vs) : vs.length = qs.length := by
  induction h with
  | nil => rfl
  | cons a _ ih => rw [List.length_cons, List.length_cons, ih]
/-- one thing, or all things of a list -/
inductive Grp where
  | cell (q : List Nat) (xs : List Int)
  | kids (q : List Nat) (xss : List (List Int))
abbrev lstI (xs : List Int) : SD := .lst (xs.map fun x => .val (.int x))
def Grp.pre : Grp → List Nat
  | .cell q _ => q
  | .kids q _ => q
def Grp.exp : Grp → List (List Nat × List Int)
  | .cell q xs => [(q, xs)]
  | .kids q xss => xss.zipIdx.map fun t => (q ++ [t.2], t.1)
def Grp.cnt : Grp → List (List Int)
  | .cell _ xs => [xs]
  | .kids _ xss => xss
def Grp.Ok (Γ : List SD) : Grp → Prop
  | .cell q xs => PtE Γ q (lstI xs)
  | .kids q xss => PtE Γ q (.lst (xss.map lstI))
def pathsG (gs : List Grp) : List (List Nat) := (gs.flatMap Grp.exp).map (·.1)
/-- things found -/
def ACell (X : Cx) (C : XC) (Γ : List SD) (e : Expr) (q : List Nat) : Prop :=
  ∀ (F h g H Hn : Hp) (σ : L2.St) (Q : VK), EnvR X.K F C.G Γ h σ → Fits F h g H → Sub C.G g → Sub H Hn → (∀ v, VP Hn σ q v → Q v Hn) → semE X e σ Hn Q
/-- a list of things found -/
def AVal (X : Cx) (C : XC) (Γ : List SD) (e : Expr) (gs : List Grp) : Prop :=
  ∀ (F h g H Hn : Hp) (σ : L2.St) (Q : VK), EnvR X.K F C.G Γ h σ → Fits F h g H → Sub C.G g → Sub H Hn →
    (∀ (p : Addr) (vs : List V) (Hm : Hp), Sub Hn Hm → Hm p = some (.lst vs) → LV Hm σ (pathsG gs) vs → Q (.ref p) Hm) → semE X e σ Hn Q
section
variable {X : Cx} {C : XC} {Γ : List SD} {a b e : Expr} {pos p p1 p2 pn : Pos}
/-- a written list -/
inductive Cells (X : Cx) (C : XC) (Γ : List SD) : List Expr → List (List Nat × List Int) → Prop
  | nil : Cells X C Γ [] []
  | cons {e : Expr} {es : List Expr} {q : List Nat} {xs : List Int} {qs : List (List Nat × List Int)} : ACell X C Γ e q → Cells X C Γ es qs → starEach (e :: es) X.env = (false, eval e X.env) :: starEach es X.env → Cells X C Γ (e :: es) ((q, xs) :: qs)
end
end Tsa

/-! N69: one of two such lists; the call. -/
namespace Tsa
open PySem PySem.Spec PyProof.Rows L2
def AAny (X : Cx) (C : XC) (Γ : List SD) (e : Expr) : Prop :=
  ∀ (F h g H Hn : Hp) (σ : L2.St) (Q : VK), EnvR X.K F C.G Γ h σ → Fits F h g H → Sub C.G g → Sub H Hn → (∀ v Hm, Sub Hn Hm → Q v Hm) → semE X e σ Hn Q
section
variable {X : Cx} {C : XC} {Γ : List SD} {a b e c : Expr} {pos p p1 p2 pn : Pos}
end
/-! ### all of them lie apart -/
def incAll : List (List Nat) → Bool
  | [] => true
  | a :: r => r.all (incB a) && incAll r
abbrev Cel := List Nat × List Int
/-! ### the cells -/
/-- few and short -/
def apOk (xss : List (List Int)) : Bool := decide (xss.length ≤ 1000) && xss.all fun x => decide (x.length ≤ 1000)
/-- all is set back -/
def SpAp : Sp := fun vs H Q E => ∃ (p : Addr) (L : List (Addr × List Int)), vs = [.ref p] ∧ H p = some (.lst (L.map fun q => V.ref q.1)) ∧ (L.map (·.1)).Nodup ∧ (∀ q ∈ L, H q.1 = some (.lst (q.2.map V.int))) ∧ p ∉ L.map (·.1) ∧ apOk (L.map (·.2)) = true ∧ ∀ H', Sub H H' → Q (.bl true) H'
abbrev rowsS (x : List (V × List Int)) : SD := .lst (x.map fun q => .pin q.1 (lstI q.2))
def resH (H : Hp) (A : List Addr) : Hp := fun a => if a ∈ A then H a else none
/-- such a def under its name -/
def HasA (X : Cx) (x : Str) (lv : Nat) : Prop := ∃ f, X.mg x = some (.ref f) ∧ PySem.W.keepIn X.K (.ref f) = true ∧ ∃ (fd : FuncData) (ps : List Str), FnG X.prog X.w X.K X.mg X.base lv f fd ps SpAp ∧ Binds X.K fd ps []
end Tsa

/-! N70: a list of things is walked, each thing put back where it was; the def that looks whether rows lie apart. -/
namespace Tsa
open PySem PySem.Spec PyProof.Rows L2
section
variable {X : Cx} {C : XC} {ω : Type} {Γ : List SD} {tg : Expr} {M : Res ω} {pos p : Pos} {k : List SD → Res ω → Prop} {en : ω → EndK}
end
/-! ### a thing between its list and a name -/
section
variable {K : PySem.W.Frag} {F G h : Hp} {σ : L2.St} {v0 u : V} {L : List SD} {n : Nat} {s c d : SD}
end
abbrev rowS (q : V × List Int) : SD := .pin q.1 (lstI q.2)
/-! ### what the def makes of it -/
def lensR (x : List (V × List Int)) : Res (List Int) := .ok ((x.map (·.2)).map fun y => (y.length : Int))
def apF (x : List (V × List Int)) (t : (V × List Int) × Nat) (_ : Unit) : Res (Lp Unit Bool) :=
  (lensR (x.set t.2 t.1)).bind fun v => gd (t.1.2.length < 16000000) (((lensR (x.set t.2 (t.1.1, t.1.2 ++ [0]))).bind fun v_2 => .ok (!decide (v_2.sum = v.sum + 1))).bind fun c => cond c .un (.ok (.nx ())))
def mApart (x : List (V × List Int)) : Res Bool := (forL (apF x) x.zipIdx ()).bind (orW fun _ => .ok true)
end Tsa

/-! N71: things of slots that are not looked at any more are spoilt. -/
namespace Tsa
open PySem PySem.Spec PyProof.Rows L2
inductive Spl : List SD → List SD → List SD → Prop
  | nil : Spl [] [] []
  | l {s : SD} {Γ A B : List SD} : Spl Γ A B → Spl (s :: Γ) (s :: A) (.hole :: B)
  | r {s : SD} {Γ A B : List SD} : Spl Γ A B → Spl (s :: Γ) (.hole :: A) (s :: B)
section
variable {K : PySem.W.Frag} {F G : Hp}
/-- values of the slots that hold something are the same -/
def SameB (B : List SD) (σ τ : L2.St) : Prop := τ.length = σ.length ∧ ∀ (j : Nat) (s : SD), B[j]? = some s → s ≠ .hole → τ[j]? = σ[j]?
end
/-- the values of slots, with nothing of what lies there -/
def pinsOf : (Nat → V) → List SD → List SD
  | _, [] => []
  | vs, s :: r => (match s with
    | .hole => .hole
    | _ => .pin (vs 0) .hole) :: pinsOf (fun n => vs (n + 1)) r
def valsOf (τ : L2.St) (n : Nat) : V := match τ[n]? with
  | some (some v) => v
  | _ => .non
section
variable {K : PySem.W.Frag} {F G : Hp}
end
theorem Spl.a {Γ A B : List SD} (q : Spl Γ A B) : ∀ {σ τ : L2.St}, SameB Γ σ τ → SameB A σ τ := fun {σ τ} s => ⟨s.1, fun j t e n => by
  refine s.2 j t ?_ n
  clear s
  induction q generalizing j with
  | nil => exact e
  | l _ ih => cases j with
    | zero => exact e
    | succ j => exact ih j e
  | r _ ih => cases j with
    | zero => have e : some SD.hole = some t := e; cases e; exact absurd rfl n
    | succ j => exact ih j e⟩
theorem Spl.b {Γ A B : List SD} (q : Spl Γ A B) : ∀ {σ τ : L2.St}, SameB Γ σ τ → SameB B σ τ := fun {σ τ} s => ⟨s.1, fun j t e n => by
  refine s.2 j t ?_ n
  clear s
  induction q generalizing j with
  | nil => exact e
  | l _ ih => cases j with
    | zero => have e : some SD.hole = some t := e; cases e; exact absurd rfl n
    | succ j => exact ih j e
  | r _ ih => cases j with
    | zero => exact e
    | succ j => exact ih j e⟩
/-- only what lists hold has changed, and only there -/
def Spd (hD H Hn : Hp) : Prop := ∀ a o, H a = some o → (hD a = none → Hn a = some o) ∧ ((∃ vs, o = .lst vs) → ∃ us, Hn a = some (.lst us)) ∧ ((∀ vs, o ≠ .lst vs) → Hn a = some o)
/-- statements behind which some slots are not looked at: A those, B the others -/
def JLT (X : Cx) (C : XC) {ω : Type} (A B : List SD) (sts : List Stmt) (M : Res ω) (k : List SD → Res ω → Prop) (en : ω → EndK) : Prop :=
  ∀ (F hD h g H Hn : Hp) (σ τ : L2.St) (D : Ends), EnvR X.K F C.G A hD σ → EnvR X.K F C.G B h σ → Dis hD h → Fits F (cup hD h) g H → Sub C.G g → Spd hD H Hn → SameB A σ τ → SameB B σ τ → M ≠ .un → XOk X.K C F g M →
    (∀ (Γ' : List SD) (M' : Res ω), k Γ' M' → M' = M → ∀ (F' h' : Hp) (σ' : L2.St) (H' : Hp), Sub F F' → EnvR X.K F' C.G Γ' h' σ' → Fits F' h' g H' → D.nx σ' H') →
    (∀ w, M = .ok w → EndOk X.K C F g D (en w)) → semL X sts D τ Hn
section
variable {X : Cx} {C : XC} {ω : Type} {Γ A B : List SD} {st : Stmt} {rest sts : List Stmt} {M : Res ω} {pos p p1 p2 : Pos} {k : List SD → Res ω → Prop} {en : ω → EndK}
end
end Tsa

/-! N72: all but the first of a tuple's lists are cleared. -/
namespace Tsa
open PySem PySem.Spec PyProof.Rows L2
section
variable {X : Cx} {C : XC} {ω : Type} {A B : List SD} {rest : List Stmt} {M : Res ω} {pos : Pos} {k : List SD → Res ω → Prop} {en : ω → EndK}
end
end Tsa

/-! N73: xs[::-1] of a locked tuple. -/
namespace Tsa
open PySem PySem.Spec PyProof.Rows L2
section
variable {X : Cx} {C : XC} {pu : Bool} {ω : Type} {Γ : List SD} {a : Expr} {M : Res ω} {pos : Pos} {k : Opd → List SD → Res ω → Prop}
end
end Tsa

/-! N74: two locked tuples of alike things, joined. -/
namespace Tsa
open PySem PySem.Spec PyProof.Rows L2
section
variable {X : Cx} {C : XC} {pu : Bool} {ω : Type} {Γ : List SD} {a b : Expr} {M : Res ω} {pos : Pos} {k : Opd → List SD → Res ω → Prop}
end
end Tsa

/-! N75: all lists of a told tuple are spoilt, and the lists in them. -/
namespace Tsa
open PySem PySem.Spec PyProof.Rows L2
/-- a list of numbers, or of lists of numbers -/
def K01 (s : SD) : Prop := (∃ xs : List Int, s = lstI xs ∧ xs.length ≤ 1000) ∨ ∃ xss : List (List Int), s = .lst (xss.map lstI) ∧ xss.length ≤ 1000 ∧ ∀ xs ∈ xss, xs.length ≤ 1000
/-- such a list at a -/
def SpI (h : Hp) (a : Addr) (vs : List V) : Prop := h a = some (.lst vs) ∧ vs.length ≤ 1000 ∧ ∀ v ∈ vs, (∃ i, v = .int i) ∨ ∃ c ws, v = .ref c ∧ h c = some (.lst ws) ∧ ws.length ≤ 1000 ∧ c ≠ a
/-- how long the lists within are by now -/
def KB (L : List (Addr × List V)) (H : Hp) (m : Nat) : Prop := ∀ q ∈ L, ∀ c, V.ref c ∈ q.2 → ∃ us, H c = some (.lst us) ∧ us.length ≤ 1000 + m
section
variable {X : Cx} {C : XC} {ω : Type} {Γ A B : List SD} {rest : List Stmt} {M : Res ω} {pos : Pos} {k : List SD → Res ω → Prop} {en : ω → EndK}
end
end Tsa

/-! N76: [x] + a list, of which nothing is kept. -/
namespace Tsa
open PySem PySem.Spec PyProof.Rows L2
section
variable {X : Cx} {C : XC} {Γ : List SD} {e b : Expr} {pos p1 : Pos}
end
end Tsa

/-! N77: a locked tuple many times, none and once too. -/
namespace Tsa
open PySem PySem.Spec PyProof.Rows L2
theorem tuple_mul1 (l : Addr) (items : Array Value) (n : Nat) (dd : Option Addr) (sl : Array (Option Value)) (u : Tok) :
    Meets (Builtin.«tuple.__mul__» ⟨[.ref l, .int 1 u], []⟩) (fun _ R s => s.heap.get? l = some { cls := .type "tuple", dict := dd, data := .seq items n, slots := sl } ∧ R (.ok (.ret (Value.ref l))) s) :=
  .of_wp fun prog w A R s h => by
    obtain ⟨hp, g, d, tk, os⟩ := s
    obtain ⟨hl, h⟩ := h
    have f1 := AutoSeq1.idx_int
    have c0 : (decide ((1 : Int) < -(2 ^ 63)) || decide ((1 : Int) ≥ 2 ^ 63)) = false := by decide
    wp_walk using wpAny_loadPart' hl
    repeat (first
      | (refine wpAny_ite_false (decide_eq_false (by rw [c0]; exact Bool.false_ne_true)) ?_; wp_walk using wpAny_loadPart' hl)
      | (refine wpAny_ite_true (decide_eq_true (by simp)) ?_; wp_walk using wpAny_loadPart' hl))
    exact ⟨_, rfl, h⟩
theorem tuple_mul0 (l : Addr) (items : Array Value) (n : Nat) (dd : Option Addr) (sl : Array (Option Value)) (u : Tok) (hi : items.isEmpty = false) :
    Meets (Builtin.«tuple.__mul__» ⟨[.ref l, .int 0 u], []⟩) (fun _ R s => s.heap.get? l = some { cls := .type "tuple", dict := dd, data := .seq items n, slots := sl } ∧
      R (.ok (.ret (Value.ref s.heap.objs.size))) { s with heap := s.heap.push { cls := Value.type "tuple", data := Data.seq #[] }, toks := s.toks }) :=
  .of_wp fun prog w A R s h => by
    obtain ⟨hp, g, d, tk, os⟩ := s
    obtain ⟨hl, h⟩ := h
    have f1 := AutoSeq1.idx_int
    have c0 : (decide ((0 : Int) < -(2 ^ 63)) || decide ((0 : Int) ≥ 2 ^ 63)) = false := by decide
    have c1 : (items.isEmpty || (0 : Int) == 1) = false := by rw [hi]; rfl
    wp_walk using wpAny_loadPart' hl
    repeat (first
      | (refine wpAny_ite_false (decide_eq_false (by rw [c0]; exact Bool.false_ne_true)) ?_; wp_walk using wpAny_loadPart' hl)
      | (refine wpAny_ite_false (decide_eq_false (by rw [c1]; exact Bool.false_ne_true)) ?_; wp_walk using wpAny_loadPart' hl)
      | (refine wpAny_ite_true (decide_eq_true (by simp)) ?_; wp_walk using wpAny_loadPart' hl))
    exact ⟨_, rfl, h⟩
/-- xs * k, k from 0 on -/
def rRepA (K : PySem.W.Frag) : R2 := fun x y H Q => ∃ l k xs, x = .ref l ∧ y = .int k ∧ SqT K H l xs ∧ xs ≠ [] ∧ 0 ≤ k ∧ k ≤ 1000 ∧ xs.length ≤ 1000 ∧ (k = 1 → Q (.ref l) H) ∧ (k ≠ 1 → ∀ p, H p = none → Q (.ref p) (upd H p (.tup (List.replicate k.toNat xs).flatten)))
section
variable {X : Cx}
theorem op_repA : OpR X (binaryOp .Mult) (rRepA X.K) := by
  intro pins s σ H x y v u Q I rx ry h
  obtain ⟨l, k, xs, rfl, rfl, hT, hne, h1, h2, hz, q1, q⟩ := h
  by_cases c : 2 ≤ k
  · exact op_repT pins s σ H _ _ v u Q I rx ry ⟨l, k, xs, rfl, rfl, hT, hne, c, h2, hz, q (by omega)⟩
  cases rx
  obtain ⟨t, rfl⟩ := ry
  obtain ⟨its, r, ⟨⟨cls, dd, data, sl⟩, ho, hc, n, hd⟩, hs⟩ := I.tuple hT
  simp only at hc hd
  subst hc hd
  have hle : its.length = xs.length := r.length.symm
  have hn : its ≠ [] := fun e => hne (by
    rw [e] at hle
    exact List.eq_nil_of_length_eq_zero hle.symm)
  have hi : its.toArray.isEmpty = false := by
    cases its with
    | nil => exact absurd rfl hn
    | cons a b => rfl
  by_cases c1 : k = 1
  · subst c1
    exact wpAny_binaryOp_repeat_ref (T := "tuple") (U := "int") (by decide) ⟨_, ho, rfl⟩ (fun s' => typeIs_int s' 1 t) noFill_tuple_mul F.fills_int_mul F.slot_int_rmul repeat_tuple F.slot_int_index.lookup
      (call_meets F.slot_int_rmul (typeIs_int s 1 t) F.entry_int_rmul (F.args_int_rmul_2 _ _) (int_rmul_tuple 1 t l its.toArray n dd sl)
        ⟨ho, rfl, ⟨_, ho, rfl⟩, call_meets F.slot_tuple_mul ⟨_, ho, rfl⟩ F.entry_tuple_mul (F.args_tuple_mul_2 _ _) (tuple_mul1 l its.toArray n dd sl t) ⟨ho, ⟨.ref l, H, I, rfl, q1 rfl⟩⟩⟩)
  · have c0 : k = 0 := by omega
    subst c0
    refine wpAny_binaryOp_repeat_ref (T := "tuple") (U := "int") (by decide) ⟨_, ho, rfl⟩ (fun s' => typeIs_int s' 0 t) noFill_tuple_mul F.fills_int_mul F.slot_int_rmul repeat_tuple F.slot_int_index.lookup
      (call_meets F.slot_int_rmul (typeIs_int s 0 t) F.entry_int_rmul (F.args_int_rmul_2 _ _) (int_rmul_tuple 0 t l its.toArray n dd sl)
        ⟨ho, rfl, ⟨_, ho, rfl⟩, call_meets F.slot_tuple_mul ⟨_, ho, rfl⟩ F.entry_tuple_mul (F.args_tuple_mul_2 _ _) (tuple_mul0 l its.toArray n dd sl t hi) ⟨ho, ?_⟩⟩)
    refine ⟨.ref s.heap.objs.size, _, I.laid (t' := s.toks) (o := .tup (List.replicate (0 : Int).toNat xs).flatten) (fun b ob q => Heap.get?_push_of_some _ q) (Nat.le_refl _) ?_, rfl, q (by decide) _ (I.hok.fresh (Nat.le_refl _))⟩
    exact ⟨by rw [PyProof.Rows.lm_len_rep_flat, sizeLine_eq]; show 0 * _ ≤ _; omega, _, r.rep (0 : Int).toNat, IsTup.new _ _⟩
variable {C : XC} {pu : Bool} {ω : Type} {Γ : List SD} {a b : Expr} {M : Res ω} {pos : Pos} {k : Opd → List SD → Res ω → Prop}
end
end Tsa

/-! N78: what may be None is no hole. -/
namespace Tsa
open PySem PySem.Spec PyProof.Rows L2
end Tsa

/-! N79: (x or []) of a thing that may be None, in a list of things. -/
namespace Tsa
open PySem PySem.Spec PyProof.Rows L2
section
variable {X : Cx} {C : XC} {Γ : List SD} {e b : Expr} {pos : Pos}
end
end Tsa

/-! N80: d.setdefault(k, v) of an own dict with locked values, as a value. -/
namespace Tsa
open PySem PySem.Spec PyProof.Rows L2
section
variable {κ β : Type} [DecidableEq κ]
/-- m, and y at k if k is not there -/
def aSd (m : List (κ × β)) (k : κ) (y : β) : List (κ × β) := match aGet m k with
  | some _ => m
  | none => aPut m k y
end
section
variable {κ β : Type} [DecidableEq κ] {kk : κ → Key} {kd : κ → PyData} {f' : β → PyData} {X : Cx} {C : XC} {pu : Bool} {ω : Type} {Γ : List SD} {b c : Expr} {M : Res ω} {ps p q1 : Pos} {k : Opd → List SD → Res ω → Prop}
end
end Tsa

/-! N81: x[n].append(c) of an own tuple that is not looked at any more. -/
namespace Tsa
open PySem PySem.Spec PyProof.Rows L2
section
variable {X : Cx} {C : XC} {ω : Type} {Γ A B : List SD} {rest : List Stmt} {M : Res ω} {pos p p1 p2 p4 : Pos} {k : List SD → Res ω → Prop} {en : ω → EndK}
end
end Tsa

/-! N82: x[n] + x[m] of an own tuple, what lies in both lists moved; x[n].append(e) of an own tuple. -/
namespace Tsa
open PySem PySem.Spec PyProof.Rows L2
section
variable {K : PySem.W.Frag} {F G : Hp}
abbrev holes (l : List SD) : SD := .lst (l.map fun _ => .hole)
end
section
variable {X : Cx} {C : XC} {ω : Type} {Γ : List SD} {c : Expr} {M M3 : Res ω} {pos p1 p2 p3 q1 q2 q3 pa : Pos} {k : Opd → List SD → Res ω → Prop}
end
end Tsa

/-! N83: x[n] + [x[m]] * int(c) of an own tuple, what lies there moved. -/
namespace Tsa
open PySem PySem.Spec PyProof.Rows L2
section
variable {K : PySem.W.Frag} {F G : Hp}
end
section
variable {X : Cx} {C : XC} {ω : Type} {Γ : List SD} {c : Expr} {M M3 : Res ω} {pos p1 p2 p3 q1 q2 q3 pl pm : Pos} {k : Opd → List SD → Res ω → Prop}
end
end Tsa

/-! N84: enumerate where an exception is handled; isinstance of one of several classes there. -/
namespace HotX
open PySem PySem.Spec PyProof.Rows
section
variable {prog : Program} {w : World} {A : Around} {E : Value → Shared → Prop} {s : Shared}
end
end HotX
namespace L2
open PySem PySem.Spec PyProof.Rows
end L2
namespace Tsa
open PySem PySem.Spec PyProof.Rows L2
section
variable {X : Cx} {C : XC} {pu : Bool} {ω α : Type} {Γ : List SD} {e tg iter elt : Expr} {M : Res ω} {pos p pn : Pos}
end
section
variable {X : Cx} {C : XC} {pu : Bool} {ω : Type} {Γ : List SD} {M : Res ω} {k : Opd → List SD → Res ω → Prop} {pos p : Pos}
end
end Tsa
namespace Tsa
open PySem PySem.Spec PyProof.Rows L2 He
/-- as obsXG, with the statics -/
def obsXS (n : Nat) (fa : List Fa) (fn : List DefD) (ex : PySem.W.Frag → Bool) (g : Addr → Option Obj) : AlX_ := (obsD fa fn (frG g (cStatics :: sysModules :: asD g n)), ex (frG g (cStatics :: sysModules :: asD g n)))
def hookXS (n : Nat) (fa : List Fa) (fn : List DefD) (ex : PySem.W.Frag → Bool) : PySem.W.Hook where
  α := AlX_
  obs := fun s => obsXS n fa fn ex s.heap.get?
  val := fun _ => (valD fn, true)
  says := fun _ h => ∃ K : PySem.W.Frag, K.In h ∧ (SaysD fa fn K ∧ ex K = true)
  of := fun _ _ e => ⟨_, frG_in, congrArg (fun z : AlX_ => z.1) e, congrArg (fun z : AlX_ => z.2) e⟩
  keeps := fun _ _ _ ⟨K, hK, c⟩ k => ⟨K, PySem.W.Frag.In.keeps hK k, c⟩
theorem obsXS_eq {n : Nat} {fa : List Fa} {fn : List DefD} {ex : PySem.W.Frag → Bool} {g : Addr → Option Obj} {s : Shared} (h : ∀ a, g a = s.heap.get? a) : obsXS n fa fn ex g = (hookXS n fa fn ex).obs s := by
  have e : g = s.heap.get? := funext h
  rw [e] <;> rfl
end Tsa

/-! N85: isinstance of one of many classes, the caught one. -/
namespace Tsa
open PySem PySem.Spec PyProof.Rows L2
/-- names of own classes -/
inductive ClsN (X : Cx) : List Expr → List Addr → Prop
  | nil : ClsN X [] []
  | cons {x : Str} {q : Pos} {a : Addr} {es : List Expr} {as : List Addr} (hm : X.mg x = some (.ref a)) (t : ClsN X es as) (hg : Gl X x := by rfl) (hd : (x == ("__debug__" : Str)) = false := by decide)
    (hs : starEach (.Name x q :: es) X.env = (false, eval (.Name x q) X.env) :: starEach es X.env := by rfl) : ClsN X (.Name x q :: es) (a :: as)
def tRefs : List Addr → TA
  | [] => tNil
  | a :: r => tCons (tC (.ref a)) (tRefs r)
theorem tRefs_eq : ∀ {as : List Addr} {σ : L2.St} {H : Hp} {Q : List V → Hp → Prop}, Q (as.map V.ref) H → tRefs as σ H Q
  | [], _, _, _, q => q
  | a :: r, σ, H, Q, q => by
    show tRefs r σ H fun xs H2 => Q (.ref a :: xs) H2
    exact tRefs_eq q
theorem ClsN.pa {X : Cx} {es : List Expr} {as : List Addr} (h : ClsN X es as) : PA X es (tRefs as) := by
  induction h with
  | nil => exact pa_nil
  | cons hm t hg hd hs ih => exact pa_cons (pe_glob hg hm rfl hd) ih hs
def anyXc (c : Str) (xs : List Str) : Bool := xs.any fun x => isXc c x
theorem kitAny_of {K : PySem.W.Frag} {c : Str} {cs ns : List Str} (XK : XF K cs ns) (hc : c ∈ cs) : ∀ {xs : List Str}, (∀ x ∈ xs, x ∈ ns) → PySem.W.kitAny K (.ref (He.ga K c)) (xs.map fun x => .ref (He.ga K x)) = some (anyXc c xs)
  | [], _ => rfl
  | x :: r, h => by
    show PySem.W.kitAny K (.ref (He.ga K c)) (.ref (He.ga K x) :: r.map fun x => .ref (He.ga K x)) = some (isXc c x || anyXc c r)
    unfold PySem.W.kitAny
    rw [XK.k c hc x (h x (List.mem_cons_self ..))]
    cases isXc c x with
    | true => rfl
    | false => exact kitAny_of XK hc fun y hy => h y (List.mem_cons_of_mem _ hy)
/-- isinstance of an instance at a, many classes -/
def rIsXs (K : PySem.W.Frag) (D a : Addr) (od : Option Addr) : List V → Hp → VK → Prop := fun xs H Q => ∃ (q : Addr) (as : List Addr) (b : Bool), xs = [.ref a, .ref q] ∧ H q = some (.tup (as.map V.ref)) ∧ PySem.W.kitAny K (.ref D) (as.map Value.ref) = some b ∧ (∀ d, od = some d → ∃ fs, H d = some (.xd fs)) ∧ Q (.bl b) H
theorem vals_refs : ∀ {as : List Addr} {us : List Value}, Vals (as.map V.ref) us → us = as.map Value.ref
  | [], _, r => by cases r; rfl
  | a :: as, _, r => by
    cases r with
    | cons r1 rr =>
      cases r1
      rw [vals_refs rr]
      rfl
theorem call_isXs {X : Cx} {a D : Addr} {od : Option Addr} {oe : Obj} (hp : (a, oe) ∈ X.pn) (C : ExcC X.K D) (hz : Zc (.ref D) od oe) (hf : ∃ vs, oe.data = .fields vs) : CallR X (.builtin "isinstance") (rIsXs X.K D a od) := by
  intro pins s σ H xs us Q I r h
  obtain ⟨tq, as, b, rfl, htq, e, hd, q⟩ := h
  cases r with
  | cons rx rr =>
    cases rr with
    | cons rt rr =>
      cases rr
      cases rx
      cases rt
      have ho : ObjOk X.prog X.w H s.heap tq (.tup (as.map V.ref)) := I.hok tq _ htq
      obtain ⟨hsz, its, rv, ht⟩ := ho
      have ei := vals_refs rv
      subst ei
      obtain ⟨ot, hot, hcl, n, hdt⟩ := ht
      obtain ⟨hget, _⟩ := I.pin (a, oe) (List.mem_append.mpr (.inl hp))
      obtain ⟨vs, hv⟩ := hf
      have J : ∃ oD, PySem.W.InstAt s.heap a oe D oD := by
        obtain ⟨h1, h2⟩ := hz
        cases od with
        | none => exact ⟨none, hget, h1, by unfold PySem.W.notCls; rw [hv] <;> rfl, by rw [h2]; trivial⟩
        | some d =>
          obtain ⟨fs, hd⟩ := hd d rfl
          have hx : ObjOk X.prog X.w H s.heap d (.xd fs) := I.hok d _ hd
          obtain ⟨mA, hns, hr⟩ := hx
          obtain ⟨oo, ho, hl⟩ := lookIn_ns hns
          exact ⟨some oo, hget, h1, by unfold PySem.W.notCls; rw [hv] <;> rfl, by rw [h2]; exact ho⟩
      obtain ⟨oD, J⟩ := J
      obtain ⟨cd, hcl2, _⟩ := PySem.W.any_some C.hd
      have hgt : s.heap.get? tq = some ⟨.type "tuple", ot.dict, .seq (as.map Value.ref).toArray n, ot.slots⟩ := by
        rw [hot]
        obtain ⟨oc, od', odt, os⟩ := ot
        obtain rfl : oc = .type "tuple" := hcl
        obtain rfl : odt = .seq (as.map Value.ref).toArray n := hdt
        rfl
      exact PySem.W.kia_tup (PySem.W.kitx_exc (by rw [hcl2]; rfl) C.hg C.hk C.hs C.ha C.hn C.ht C.hm) I.kIn J hgt e (fun z => nomatch z) fun tk => ⟨.bl b, H, I.kept (t' := tk) fun _ _ z => z, rfl, q⟩
section
variable {K : PySem.W.Frag} {X : Cx} {C : XC} {pu : Bool} {ω : Type} {Γ : List SD} {e : Expr} {M : Res ω} {pos p pn : Pos} {k : Opd → List SD → Res ω → Prop}
theorem JE.isXs {i : Nat} {s : SD} {a D : Addr} {od : Option Addr} {oe : Obj} {n : Str} {nt} {q : Pos} {b : Bool} {es : List Expr} {as : List Addr} (hΓ : Γ[i]? = some s) (hs : ExcAt s a od) (hp : (a, oe) ∈ X.pn) (hz : Zc (.ref D) od oe) (hf : ∃ vs, oe.data = .fields vs) (EC : ExcC X.K D) (hm : X.mg "isinstance" = none)
    (hc : ClsN X es as) (hb : PySem.W.kitAny X.K (.ref D) (as.map Value.ref) = some b) (hlen : as.length ≤ 1000) (hk : k (.own (.val (.bool b))) Γ M) (hN : X.N[i]? = some n := by rfl) (hg : Gl X "isinstance" := by rfl)
    (hv : Vis X.env.scope n := by first | exact Or.inl rfl | exact Or.inr (Or.inl rfl) | exact Or.inr (Or.inr rfl)) (hdn : (n == ("__debug__" : Str)) = false := by decide) (hcd : (n == ("__classdict__" : Str)) = false := by decide)
    (hst : starEach ((.Name n q) :: [.Tuple es nt p]) X.env = (false, eval (.Name n q) X.env) :: starEach [.Tuple es nt p] X.env := by rfl)
    (hs2 : starEach (.Tuple es nt p :: []) X.env = (false, eval (.Tuple es nt p) X.env) :: starEach [] X.env := by rfl) (hpl : (backTo pos (starEach [.Tuple es nt p] X.env)).any (·.1) = false := by rfl) : JE X C false Γ (.Call (.Name "isinstance" pn) [.Name n q, .Tuple es nt p] [] pos) M k := by
  refine JE.of (pe_callB (call_isXs hp EC hz hf) hg hm (by rfl) (pa_cons (pe_var hN hv hdn hcd) (pa_cons (pe_tup hc.pa) pa_nil (hs := hs2)) (hs := hst)) (by decide) (by decide) hst hpl) ?_
  intro F h g H σ Q he hf' hG hu hx hq
  obtain ⟨o, h1, h2, eo, s1, s2, d12, w, back⟩ := he.at hΓ
  obtain ⟨v, rfl, wv⟩ := w.val hs.ne
  obtain ⟨rfl, hd⟩ := hs.ok wv
  refine ⟨_, eo, ?_⟩
  refine tRefs_eq ⟨?_, fun t ht => ?_⟩
  · rw [List.length_map]
    exact Nat.le_trans hlen (by decide)
  have hf2 : Fits F h g (upd H t (.tup (as.map V.ref))) := (hf'.new ht).sub (.r (Dis.one (hf'.no ht).2.1))
  refine ⟨t, as, b, rfl, upd_same, hb, fun d ed => ?_, hq _ _ _ hk rfl (.bl b) F emp h _ .refl (by unfold OpdOk own; exact .bl b) he .emp hf2.emp fun z => nomatch z⟩
  obtain ⟨fs, e1⟩ := hd d ed
  exact ⟨fs, hf2.hH _ _ (s1 _ _ e1)⟩
end
end Tsa

/-! N86: a comprehension over an own list of own things, its things taken out. -/
namespace Tsa
open PySem PySem.Spec PyProof.Rows L2
inductive HolL (Γ : List SD) : List Nat → Prop
  | nil : HolL Γ []
  | cons {i : Nat} {vs : List Nat} (h : Γ[i]? = some .hole) (t : HolL Γ vs) : HolL Γ (i :: vs)
section
variable {X : Cx} {C : XC} {ω : Type} {Γ : List SD} {tg elt : Expr} {M : Res ω} {pos p : Pos} {k : Opd → List SD → Res ω → Prop}
end
end Tsa

/-! N87: one of a slot's own list is taken out, the rest is not looked at again. -/
namespace Tsa
open PySem PySem.Spec PyProof.Rows L2
section
variable {X : Cx} {C : XC} {ω : Type} {Γ : List SD} {M : Res ω} {pos p : Pos} {k : Opd → List SD → Res ω → Prop}
end
section
variable {X : Cx} {C : XC} {pu : Bool} {ω α : Type} {Γ : List SD} {a b : Expr} {M : Res ω} {k : Opd → List SD → Res ω → Prop}
end
end Tsa

/-! N88: a, b, c, d = a locked list of four. -/
namespace Tsa
open PySem PySem.Spec PyProof.Rows L2
def four {α : Type} : List α → Option (α × α × α × α)
  | [a, b, c, d] => some (a, b, c, d)
  | _ => none
section
variable {X : Cx} {C : XC} {pu : Bool} {ω α : Type} {Γ : List SD} {e : Expr} {M : Res ω} {k : Opd → List SD → Res ω → Prop}
theorem JE.xrefV {Γf : PyData → List SD} {d : PyData} {kM : Int → Res ω} (h : ∀ n, JE X C pu (Γf (.int n)) e (kM n) fun o Γ1 M1 => Γ1 = Γf (.int n) ∧ k o (Γf d) M1) : JE X C pu (Γf d) e ((Tsa.xint d).bind kM) k := by
  cases d with
  | int n => exact (h n).mono fun o Γ1 M1 ⟨e1, e2⟩ => by rw [e1]; exact e2
  | _ => exact fun F h0 g H σ Q he hf hG hu => absurd rfl hu
end
end Tsa

/-! N89: x[n] of data of any kind; a loop in which may be raised. -/
namespace Tsa
open PySem PySem.Spec PyProof.Rows L2
def xat : PyData → Nat → Res PyData
  | .list l, n => idx l (n : Nat)
  | .tuple l, n => idx l (n : Nat)
  | _, _ => .un
theorem xat_nex {d : PyData} {n : Nat} : ∀ e, xat d n ≠ .ex e := fun e z => by
  cases d with
  | list l => exact idx_nex _ z
  | tuple l => exact idx_nex _ z
  | _ => cases z
section
variable {X : Cx} {C : XC} {pu : Bool} {ω : Type} {Γ : List SD} {k : Opd → List SD → Res ω → Prop} {pos p : Pos}
theorem JE.ixX {d : PyData} {kM : PyData → Res ω} {p1 p2 : Pos} {j0} {i n : Nat} {x : Str} (hΓ : Γ[i]? = some (.val d)) (hk : ∀ y, k (.own (.val y)) Γ (kM y))
    (hN : X.N[i]? = some x := by rfl) (hv : Vis X.env.scope x := by first | exact Or.inl rfl | exact Or.inr (Or.inl rfl) | exact Or.inr (Or.inr rfl)) (hd : (x == ("__debug__" : Str)) = false := by decide) (hcd : (x == ("__classdict__" : Str)) = false := by decide) :
    JE X C pu Γ (.Subscript (.Name x p1) (.Constant (.int (n : Nat)) j0 p2) pos) ((Tsa.xat d n).bind kM) k := by
  have go : ∀ (t : Bool) (l : List PyData), SeqOf (.val d) t (l.map .val) → Tsa.xat d n = Tsa.idx l (n : Nat) → JE X C pu Γ (.Subscript (.Name x p1) (.Constant (.int (n : Nat)) j0 p2) pos) ((Tsa.xat d n).bind kM) k := fun t l so e => by
    cases q : Tsa.idx l (n : Nat) with
    | ok y =>
      rw [e, q]
      have ha : atI (l.map SD.val) (n : Nat) = some (.val y) := by
        rw [atI_map]
        unfold Tsa.idx at q
        split at q
        · rename_i z hz
          cases q
          rw [hz]; rfl
        · cases q
      exact JE.ixC (t := t) (JE.var hΓ ⟨.inl ⟨_, rfl⟩, .own so, ha, hk y⟩ hN hv hd hcd)
    | ex e' => exact absurd q (idx_nex _)
    | un =>
      rw [e, q]
      exact JE.ne fun z => absurd rfl z
  cases d with
  | list l => exact go false l .lst rfl
  | tuple l => exact go true l .tup rfl
  | _ => exact JE.ne fun z => absurd rfl z
end
section
variable {cs : List Str} {α τ ω : Type}
theorem rx_forS {f : α → τ → Res τ} (h : ∀ x t e, f x t = .ex e → xok cs e) : ∀ (xs : List α) (t : τ) e, Tsa.forS f xs t = .ex e → xok cs e
  | [], t, e, z => nomatch z
  | x :: xs, t, e, z => by
    have z : (f x t).bind (Tsa.forS f xs) = .ex e := z
    cases q : f x t with
    | ex e' => rw [q] at z; cases z; exact h x t e q
    | un => rw [q] at z; cases z
    | ok r => rw [q] at z; exact rx_forS h xs r e z
end
end Tsa

/-! N90: enumerate over a list that lies in a pinned slot and stays there. -/
namespace Tsa
open PySem PySem.Spec PyProof.Rows L2
section
variable {X : Cx} {C : XC} {ω : Type} {Γ : List SD} {tg : Expr} {M : Res ω} {pos p pn pc : Pos} {k : List SD → Res ω → Prop} {en : ω → EndK}
end
end Tsa

/-! N91: a list of a caught one's field is told anew, then emptied; one class alone is caught. -/
namespace Tsa
open PySem PySem.Spec PyProof.Rows L2
section
variable {X : Cx} {C : XC} {pu : Bool} {ω : Type} {Γ : List SD} {k : Opd → List SD → Res ω → Prop} {pos p pn pa : Pos}
end
/-! ### one class alone is caught -/
def onlyX {α : Type} (c : Str) (m : Res α) : Res α := match m with
  | .ex e => if e.cls = c then .ex e else .un
  | m => m
end Tsa
namespace Tsa
open PySem PySem.Spec PyProof.Rows L2
section
variable {X : Cx} {C : XC} {ω : Type} {Γ : List SD} {sts : List Stmt} {M : Res ω} {k : List SD → Res ω → Prop} {en : ω → EndK}
end
/-- which are caught by which -/
def xfB3 (cs ns os ts : List Str) (K : PySem.W.Frag) : Bool := xfB2 cs ns os K && ts.all fun x => cs.all fun c => decide (PySem.W.exmOne K (.ref (He.ga K c)) (.ref (He.ga K x)) = some (isXc c x))
def XT (K : PySem.W.Frag) (cs ts : List Str) : Prop := ∀ c ∈ cs, ∀ x ∈ ts, PySem.W.exmOne K (.ref (He.ga K c)) (.ref (He.ga K x)) = some (isXc c x)
end Tsa

/-! N92: a, b, c = e1, e2, e3: three names. -/
namespace Tsa
open PySem PySem.Spec PyProof.Rows L2
section
variable {X : Cx} {C : XC} {ω : Type} {Γ : List SD} {a b c : Expr} {M : Res ω} {pos : Pos} {kl : List SD → Res ω → Prop} {en : ω → EndK}
end
end Tsa

/-! N93: xs.count(y), xs.index(y), the things plain values. -/
namespace Tsa
open PySem PySem.Spec PyProof.Rows L2
section
variable {X : Cx}
def rCntF (K : PySem.W.Frag) : V → List V → Hp → VK → Prop := fun x xs H Q => ∃ (p : Addr) (ys : List V) (y : V), x = V.ref p ∧ xs = [y] ∧ SqL K H p ys ∧ flatV y = true ∧ ys.all flatV = true ∧ Q (.int (ys.countP fun z => eqV z y : Nat)) H
theorem countU {y : V} : ∀ {ys : List V} {its : List Value}, Vals ys its → ys.all flatV = true → its.countP (eqU y) = ys.countP fun z => eqV z y
  | _, _, .nil, _ => rfl
  | _, _, .cons r rs, h => by
    rw [List.all_cons, Bool.and_eq_true] at h
    rw [List.countP_cons, List.countP_cons, countU rs h.2, eqU_of r h.1]
theorem mt_lcountF : MtR X "list.count" (rCntF X.K) := by
  intro pins s σ H x xs v us Q I rx rxs h
  obtain ⟨p, ys, y, rfl, rfl, hs, fy, fys, q⟩ := h
  cases rx
  cases rxs with
  | cons ry rt =>
    rename_i uy ut
    cases rt
    obtain ⟨its, rv, ⟨⟨cls, dd, data, sl⟩, n, ho, hc, hdn, hd⟩, hlen⟩ := I.list hs
    simp only at hc hd
    subst hc hd
    refine call_meets PySem.F.slot_list_count ⟨_, ho, rfl⟩ PySem.F.entry_list_count (PySem.F.args_list_count_2 _ _)
      (SeqAt.list_countAt p its.toArray n dd sl uy (eqU y)) ⟨ho, fun u' hu' => mem_eqAt ry fy rv fys u' (by simpa using hu'), ?_⟩
    have ec : its.toArray.toList.countP (eqU y) = ys.countP fun z => eqV z y := countU rv fys
    refine ⟨.int (ys.countP fun z => eqV z y : Nat), H, I.tok _, ⟨s.toks, ?_⟩, q⟩
    show Value.int ((its.toArray.toList.countP (eqU y) : Nat) : Int) s.toks = _
    rw [ec]
end
/-- plain values, by what they are as data -/
structure Flt {α : Type} [DecidableEq α] (e : α → PyData) where
  f : α → V
  dt : ∀ {K : PySem.W.Frag} {S : Hp} {v : V} {a : α}, Dt K S v (e a) → v = f a
  fl : ∀ a, flatV (f a) = true
  eq : ∀ a b, eqV (f a) (f b) = decide (a = b)
def fltI : Flt PyData.int := ⟨V.int, fun h => h.intV, fun _ => rfl, fun a b => by
  show (a == b) = _
  by_cases h : a = b
  · subst h; simp
  · rw [decide_eq_false h]; simpa using h⟩
def fltB : Flt PyData.bool := ⟨V.bl, fun h => h.blV, fun _ => rfl, fun a b => by cases a <;> cases b <;> rfl⟩
def fltS : Flt PyData.str := ⟨V.str, fun h => h.strV, fun _ => rfl, fun a b => by
  show (a == b) = _
  by_cases h : a = b
  · subst h; simp
  · rw [decide_eq_false h]; simpa using h⟩
def indexG {α : Type} [DecidableEq α] (xs : List α) (y : α) : Res Int := if y ∈ xs then .ok (xs.idxOf y : Nat) else .un
theorem indexG_nex {α : Type} [DecidableEq α] {xs : List α} {y : α} : ∀ e, indexG xs y ≠ .ex e := fun e z => by
  unfold indexG at z
  split at z <;> cases z
section
variable {X : Cx} {C : XC} {pu : Bool} {ω α : Type} [DecidableEq α] {en : α → PyData} {Γ : List SD} {a o : Expr} {M : Res ω} {pos apos : Pos} {k : Opd → List SD → Res ω → Prop}
theorem flt_all {K : PySem.W.Frag} {F G : Hp} (E : Flt en) {xs : List α} {vs : List V} (l : vs.length = (xs.map fun x => SD.val (en x)).length) (it : ∀ (i : Nat) (s : SD), (xs.map fun x => SD.val (en x))[i]? = some s → ∃ x, vs[i]? = some x ∧ own K F G s emp x) : vs = xs.map E.f := by
  refine List.ext_getElem? fun j => ?_
  rw [List.length_map] at l
  by_cases c : j < xs.length
  · obtain ⟨y, e2, o2⟩ := it j (.val (en xs[j])) (by rw [List.getElem?_map, List.getElem?_eq_getElem c]; rfl)
    unfold own at o2
    obtain rfl := E.dt o2
    rw [e2, List.getElem?_map, List.getElem?_eq_getElem c]; rfl
  · rw [List.getElem?_eq_none (by omega), List.getElem?_eq_none (by rw [List.length_map]; omega)]
theorem flt_flat (E : Flt en) (xs : List α) : (xs.map E.f).all flatV = true := by
  rw [List.all_eq_true]
  intro z hz
  obtain ⟨i, _, rfl⟩ := List.mem_map.mp hz
  exact E.fl i
theorem flt_count (E : Flt en) (y : α) (xs : List α) : ((xs.map E.f).countP fun z => eqV z (E.f y)) = xs.count y := by
  rw [List.countP_map, List.count_eq_countP]
  refine List.countP_congr fun x _ => ?_
  show eqV (E.f x) (E.f y) = true ↔ (x == y) = true
  rw [E.eq, decide_eq_true_iff, beq_iff_eq]
theorem flt_before {y : α} {xs : List α} {m : Nat} (h : m < xs.idxOf y) : xs[m]? ≠ some y := fun z => by
  have hm : m < xs.length := (List.getElem?_eq_some_iff.mp z).1
  have := List.not_of_lt_findIdx (p := (· == y)) (xs := xs) (i := m) h
  rw [List.getElem?_eq_getElem hm] at z
  rw [Option.some.inj z] at this
  simp at this
theorem JE.countF (E : Flt en) (h : JE X C pu Γ o M fun oa Γ1 M1 => ((∃ s, oa = .own s) ∨ (∃ i, oa = .at i)) ∧ ∃ (xs : List α) (i : α), SeqV Γ1 oa false (xs.map fun x => .val (en x)) ∧ JVt X C Γ1 a (.own (.val (en i))) ∧ k (.own (.val (.int (xs.count i : Nat)))) Γ1 M1)
    (hbase : attributeBase o "count" X.env (eval o X.env) = eval o X.env := by rfl)
    (hfew : ((backTo pos (starEach (a :: []) X.env)).all (fun x => !x.1) && (backToKw pos (keywordEach [] X.env)).all (fun x => x.1.isSome) && decide ((a :: []).length + ([] : List Keyword).length + (if ([] : List Keyword).isEmpty then 0 else 1) < 30)) = true := by rfl)
    (hline : (apos.endLine == pos.line) = true := by rfl) (hs : starEach (a :: []) X.env = (false, eval a X.env) :: starEach [] X.env := by rfl) (hpl : (backTo pos (starEach [] X.env)).any (·.1) = false := by rfl) :
    JE X C pu Γ (.Call (.Attribute o "count" apos) [a] [] pos) M k :=
  JE.of (pe_bm (T := "list") PySem.F.plainAttrs_list PySem.F.slot_list_count PySem.F.type_list_count mt_lcountF pe_sem (pa_cons pe_sem pa_nil hs) hbase hfew hline hs hpl) fun F h0 g H σ Q he hf hG hu hx hq => h F h0 g H σ _ he hf hG hu hx fun oa Γ1 M1 ⟨ho, xs, i, sv, hv, hk⟩ hm v F1 h1 h2 H1 x ow he1 d hf1 hp => by
    subst hm
    obtain ⟨p0, us, e0, l0, z0, it0⟩ := sv.ok ow he1 d hf1 hG
    have dg : Dis h1 g := hf1.hg.mono .l .refl
    refine ⟨by rw [e0]; exact .inl ⟨rfl, us, z0⟩, ?_⟩
    refine hv F1 h2 (cup h1 g) H1 σ _ he1 (hf1.out d) (hG.trans (.r dg)) (by intro z; cases z) (fun e z => nomatch z) fun o2 Γ2 M2 ⟨e1, e2⟩ hm w F2 k1 h3 H2 x2 w2 he2 d2 hf2 hp2 => ?_
    subst e1 e2
    unfold OpdOk own at w2
    have ew := E.dt w2
    have f3 := (hf2.un d2).inn dg
    have dd := (hf2.un d2).dis
    have fg := f3.G hG
    have ow2 : OpdOk X.K F2 C.G h1 h3 σ oa v := ow.mono x2 fg ((Dis.cup fg.symm (f3.fh.mono .refl (.r dd)).symm).symm) ((f3.hg.mono (.r dd) hG).symm) (by
      rcases ho with z | z
      · exact .inl z
      · exact .inr (.inl z))
    obtain ⟨p, vs, e, l, z, it⟩ := sv.ok ow2 he2 dd f3 hG
    have es := flt_all E (by rw [l]) it
    subst es
    subst e
    refine ⟨p, xs.map E.f, E.f i, rfl, by rw [ew], z, E.fl i, flt_flat E xs, ?_⟩
    rw [flt_count]
    exact hq _ _ M1 hk rfl _ F2 emp h3 H2 (x.trans x2) (by unfold OpdOk own; exact .int _) he2 .emp ((f3.un dd).emp) fun z => ⟨(hp z).1.trans (hp2 rfl).1, (hp z).2⟩
theorem JE.indexF (E : Flt en) (h : JE X C pu Γ o M fun oa Γ1 M1 => ((∃ s, oa = .own s) ∨ (∃ i, oa = .at i)) ∧ ∃ (xs : List α) (i : α) (kM : Int → Res ω), SeqV Γ1 oa false (xs.map fun x => .val (en x)) ∧ JVt X C Γ1 a (.own (.val (en i))) ∧ M1 = (indexG xs i).bind kM ∧ ∀ j, k (.own (.val (.int j))) Γ1 (kM j))
    (hbase : attributeBase o "index" X.env (eval o X.env) = eval o X.env := by rfl)
    (hfew : ((backTo pos (starEach (a :: []) X.env)).all (fun x => !x.1) && (backToKw pos (keywordEach [] X.env)).all (fun x => x.1.isSome) && decide ((a :: []).length + ([] : List Keyword).length + (if ([] : List Keyword).isEmpty then 0 else 1) < 30)) = true := by rfl)
    (hline : (apos.endLine == pos.line) = true := by rfl) (hs : starEach (a :: []) X.env = (false, eval a X.env) :: starEach [] X.env := by rfl) (hpl : (backTo pos (starEach [] X.env)).any (·.1) = false := by rfl) :
    JE X C pu Γ (.Call (.Attribute o "index" apos) [a] [] pos) M k :=
  JE.of (pe_bm (T := "list") PySem.F.plainAttrs_list PySem.F.slot_list_index PySem.F.type_list_index mt_index pe_sem (pa_cons pe_sem pa_nil hs) hbase hfew hline hs hpl) fun F h0 g H σ Q he hf hG hu hx hq => h F h0 g H σ _ he hf hG hu hx fun oa Γ1 M1 ⟨ho, xs, i, kM, sv, hv, eM, hk⟩ hm v F1 h1 h2 H1 x ow he1 d hf1 hp => by
    subst hm
    obtain ⟨p0, us, e0, l0, z0, it0⟩ := sv.ok ow he1 d hf1 hG
    have dg : Dis h1 g := hf1.hg.mono .l .refl
    refine ⟨by rw [e0]; exact .inl ⟨rfl, us, z0⟩, ?_⟩
    refine hv F1 h2 (cup h1 g) H1 σ _ he1 (hf1.out d) (hG.trans (.r dg)) (by intro z; cases z) (fun e z => nomatch z) fun o2 Γ2 M2 ⟨e1, e2⟩ hm w F2 k1 h3 H2 x2 w2 he2 d2 hf2 hp2 => ?_
    subst e1 e2
    unfold OpdOk own at w2
    have ew := E.dt w2
    have f3 := (hf2.un d2).inn dg
    have dd := (hf2.un d2).dis
    have fg := f3.G hG
    have ow2 : OpdOk X.K F2 C.G h1 h3 σ oa v := ow.mono x2 fg ((Dis.cup fg.symm (f3.fh.mono .refl (.r dd)).symm).symm) ((f3.hg.mono (.r dd) hG).symm) (by
      rcases ho with z | z
      · exact .inl z
      · exact .inr (.inl z))
    obtain ⟨p, vs, e, l, z, it⟩ := sv.ok ow2 he2 dd f3 hG
    have es := flt_all E (by rw [l]) it
    subst es
    subst e
    have hin : i ∈ xs := by
      by_cases c : i ∈ xs
      · exact c
      · refine absurd ?_ hu
        rw [eM]
        unfold indexG
        rw [if_neg c]; rfl
    have ei : indexG xs i = .ok (xs.idxOf i : Nat) := if_pos hin
    refine ⟨p, xs.map E.f, E.f i, xs.idxOf i, E.f i, rfl, by rw [ew], z, E.fl i, flt_flat E xs, ?_, ?_, fun m z' hm2 hz' => ?_, ?_⟩
    · rw [List.getElem?_map, List.getElem?_eq_getElem (List.idxOf_lt_length_iff.mpr hin), List.getElem_idxOf (List.idxOf_lt_length_iff.mpr hin)]
      rfl
    · rw [E.eq]; exact decide_eq_true rfl
    · rw [List.getElem?_map] at hz'
      cases eq : xs[m]? with
      | none => rw [eq] at hz'; cases hz'
      | some y =>
        rw [eq] at hz'
        cases hz'
        rw [E.eq]
        refine decide_eq_false fun z => ?_
        subst z
        exact flt_before hm2 eq
    · exact hq _ _ (kM (xs.idxOf i : Nat)) (hk _) (by rw [eM, ei]; rfl) _ F2 emp h3 H2 (x.trans x2) (by unfold OpdOk own; exact .int _) he2 .emp ((f3.un dd).emp) fun z => ⟨(hp z).1.trans (hp2 rfl).1, (hp z).2⟩
end
end Tsa

/-! N94: d.get(k). -/
namespace Tsa
open PySem PySem.Spec PyProof.Rows L2
section
variable {X : Cx} {C : XC} {pu : Bool} {ω β : Type} {Γ : List SD} {o b : Expr} {M : Res ω} {pos apos : Pos} {k : Opd → List SD → Res ω → Prop}
end
end Tsa
namespace Tsa
open PySem PySem.Spec PyProof.Rows L2
theorem env_map {K : PySem.W.Frag} {F G h : Hp} {σ : L2.St} {Γ : List SD} {i : Nat} {s s' : SD} (hi : Γ[i]? = some s) (hs : ∀ v h, own K F G s h v → own K F G s' h v) (ns : s ≠ .hole) (dd : Dis F G) (he : EnvR K F G Γ h σ) : EnvR K F G (Γ.set i s') h σ := by
  obtain ⟨o, k1, k2, eo, s1, s2, d12, w, back⟩ := he.at hi
  obtain ⟨u, eu, wu⟩ := w.val ns
  subst eu
  have E := back F s' (some u) k1 h .refl dd (.of (hs _ _ wu)) d12 s1 s2
  have es : σ.set i (some u) = σ := by
    obtain ⟨hi', e'⟩ := List.getElem?_eq_some_iff.mp eo
    rw [← e']; exact List.set_getElem_self hi'
  rw [es] at E
  exact E
section
variable {X : Cx} {C : XC} {pu : Bool} {ω ω' : Type} {Γ : List SD} {e : Expr} {M : Res ω} {pos p q : Pos} {k : Opd → List SD → Res ω → Prop} {mir : Exn → Res ω'} {ret : ω' → SD}
theorem JE.iso {Γ' : List SD} (h1 : ∀ (F G h : Hp) (σ : L2.St), Dis F G → EnvR X.K F G Γ h σ → EnvR X.K F G Γ' h σ) (h2 : ∀ (F G h : Hp) (σ : L2.St), Dis F G → EnvR X.K F G Γ' h σ → EnvR X.K F G Γ h σ) (j : JE X C pu Γ' e M fun o Γ1 M1 => Γ1 = Γ' ∧ k o Γ M1) : JE X C pu Γ e M k :=
  fun F h0 g H σ Q he hf hG hu hx hq => j F h0 g H σ Q (h1 F C.G h0 σ (hf.G hG) he) hf hG hu hx fun o Γ1 M1 ⟨e1, hk⟩ hm v F1 k1 k2 H1 x ow he1 d hf1 hp => by
    subst e1
    exact hq o Γ M1 hk hm v F1 k1 k2 H1 x ow (h2 F1 C.G k2 σ (hf1.G hG) he1) d hf1 fun z => ⟨(hp z).1, rfl⟩
theorem exc_up {K : PySem.W.Frag} {F G : Hp} {a : Addr} {od : Option Addr} {l : List (Str × SD)} (v : V) (h : Hp) (w : own K F G (excS a od l) h v) : own K F G (.pin (.ref a) (excS a od l)) h v := by
  unfold own
  refine ⟨?_, w⟩
  unfold excS own at w
  exact w.1
theorem exc_down {K : PySem.W.Frag} {F G : Hp} {a : Addr} {od : Option Addr} {l : List (Str × SD)} (v : V) (h : Hp) (w : own K F G (.pin (.ref a) (excS a od l)) h v) : own K F G (excS a od l) h v := by
  unfold own at w
  exact w.2
theorem excS_ne {a : Addr} {od : Option Addr} {l : List (Str × SD)} : excS a od l ≠ .hole := by
  unfold excS
  intro z
  cases z
/-- such a def is called by another one -/
theorem JE.callHG {fn n : Str} {lv i : Nat} {a : Addr} {od : Option Addr} {oe : Obj} {e : Exn} {kM : ω' → Res ω} (c : HasH X fn lv mir ret) (hr : L2H.RoomH lv X.A) (hp : (a, oe) ∈ X.pn) (hd : X.A.handled = some (.ref a)) (zn : L2N.Zn (.ref (He.ga X.K e.cls)) od oe) (hf : ∃ vs, oe.data = .fields vs) (nr : ∀ r, NR (ret r))
    (hΓ : Γ[i]? = some (.pin (.ref a) (excS a od e.flds))) (nrf : NRF e.flds) (hM : M = (mir e).bind kM) (nx : ∀ x, mir e ≠ .ex x) (hk : ∀ r, mir e = .ok r → k (.own (ret r)) Γ (kM r))
    (hN : X.N[i]? = some n := by rfl) (hv : Vis X.env.scope n := by first | exact Or.inl rfl | exact Or.inr (Or.inl rfl) | exact Or.inr (Or.inr rfl)) (hdn : (n == ("__debug__" : Str)) = false := by decide) (hcd : (n == ("__classdict__" : Str)) = false := by decide)
    (hg : Gl X fn := by rfl) (hdb : (fn == ("__debug__" : Str)) = false := by decide)
    (he : starEach [.Name n q] X.env = (false, eval (.Name n q) X.env) :: starEach [] X.env := by rfl) (hpl : (backTo pos (starEach [] X.env)).any (·.1) = false := by rfl) : JE X C false Γ (.Call (.Name fn p) [.Name n q] [] pos) M k := by
  have il : i < Γ.length := (List.getElem?_eq_some_iff.mp hΓ).1
  have back : (Γ.set i (excS a od e.flds)).set i (.pin (.ref a) (excS a od e.flds)) = Γ := by
    rw [List.set_set]
    obtain ⟨hi', e'⟩ := List.getElem?_eq_some_iff.mp hΓ
    rw [← e']; exact List.set_getElem_self hi'
  have at_ : (Γ.set i (excS a od e.flds))[i]? = some (excS a od e.flds) := List.getElem?_set_self il
  refine JE.iso (Γ' := Γ.set i (excS a od e.flds)) (fun F G h σ dd z => env_map hΓ exc_down (by intro z; cases z) dd z) (fun F G h σ dd z => ?_) (JE.callH c hr hp hd zn hf nr at_ nrf hM nx (fun r hr => ⟨rfl, hk r hr⟩) hN hv hdn hcd hg hdb he hpl)
  have y := env_map at_ exc_up excS_ne dd z
  rw [back] at y
  exact y
end
end Tsa

/-! N95: x.f.pop(k), dict(x.f), things lent side by side in a tuple. -/
namespace Tsa
open PySem PySem.Spec PyProof.Rows L2
def dPopR {κ β : Type} [DecidableEq κ] (m : List (κ × β)) (k : κ) : Res (β × List (κ × β)) := match aGet m k with
  | some v => .ok (v, aDrop m k)
  | none => .un
section
variable {K : PySem.W.Frag} {F G : Hp} {κ β : Type} [DecidableEq κ] {kk : κ → Key} {kd : κ → PyData} {f : β → SD} {e : β → PyData}
end
section
variable {X : Cx} {C : XC} {pu : Bool} {ω : Type} {Γ : List SD} {e o b tg : Expr} {M : Res ω} {pos p p2 apos : Pos} {pn : Pos} {k : Opd → List SD → Res ω → Prop} {kS : List SD → List SD → Res ω → Prop}
end
end Tsa

/-! N96: defs that are called with the caught exception and read its fields (as N31, where the fields' place is known). -/
namespace Tsa
open PySem PySem.Spec PyProof.Rows L2
/-- e's class and fields say what comes -/
def SpMF {ω : Type} (K : PySem.W.Frag) (mir : Exn → Res ω) (ret : ω → SD) : Addr → Value → Option Addr → Sp := fun a c od vs H Q E =>
  vs = [.ref a] ∧ ∃ (e : Exn) (F h g : Hp), c = .ref (He.ga K e.cls) ∧ NRF e.flds ∧ (e.flds = [] ∨ ∃ d, od = some d) ∧ own K F g (excS a od e.flds) h (.ref a) ∧ Fits F h g H ∧ mir e ≠ .un ∧ (∀ x, mir e ≠ .ex x) ∧
    ∀ r, mir e = .ok r → ∀ (v : V) (F' h1 h2 H' : Hp), Sub F F' → own K F' emp (ret r) h1 v → own K F' emp (excS a od e.flds) h2 (.ref a) → Dis h1 h2 → Fits F' (cup h1 h2) g H' → Q v H'
section
variable {P : Program} {w : World} {K : PySem.W.Frag} {mg : Str → Option Value} {base : Heap} {x qual : Str} {params : Arguments} {body : List Stmt} {scope : Scope} {dvs : List V} {kws : List (Str × V)} {f : Addr} {fd : FuncData} {N ps : List Str} {k : Nat}
theorem fnGF_of {ω : Type} {mir : Exn → Res ω} {ret : ω → SD} {n : Nat} {p0 : Str} (F : FunD K x qual params body scope dvs kws f fd) (S : FnScope N [p0] scope) (hN : N.length = 1 + n) (nr : ∀ r, NR (ret r))
    (hb : ∀ (cdv : Value) (A : Around) (outer : List Env) (s : Shared) (H : Hp) (E : XK) (p : Addr × Obj) (a : Addr) (od : Option Addr) (G : Hp) (e : Exn), BodyH (L2H.cxH (L2N.CX P w) P w K mg base N qual scope f cdv A outer s H E p) k a (.ref (He.ga K e.cls)) od → (e.flds = [] ∨ ∃ d, od = some d) →
      JL (L2H.cxH (L2N.CX P w) P w K mg base N qual scope f cdv A outer s H E p) ⟨fun _ _ _ _ => False, [], G⟩ (.pin (.ref a) (excS a od e.flds) :: List.replicate n .hole) body (mir e)
        (fun Γ' M' => ∃ r, M' = .ok r ∧ ret r = .val .none ∧ Le Γ' (.pin (.ref a) (excS a od e.flds) :: List.replicate n .hole)) fun r => .rt (ret r) (.pin (.ref a) (excS a od e.flds) :: List.replicate n .hole)) :
    FnGH P w K mg base (k + 1) f fd [p0] (SpMF K mir ret) := by
  obtain ⟨oc, od0, dV, kV, doc, pm, an, cdv, ct, osl, efd, look, code, _, _⟩ := F.ex
  subst efd
  refine ⟨fun a c od vs H Q E ⟨e, _⟩ => by rw [e]; rfl, ?_⟩
  intro A outer s H args us vs Q E p c od room hot hpin zn hf env bind rel spec
  have spec0 := spec
  obtain ⟨evs, e, F0, h, g, ec, nrf, fo, ow, fit, hu, hnx, hq⟩ := spec
  have count : vs.length = [p0].length := by rw [evs]; rfl
  have stays : ∀ b o, base.get? b = some o → s.heap.get? b = some o := fun b o e => (env.bs b o e).1
  have inK : K.In s.heap := env.mod.kin.keeps stays
  have free := env.mod.nolimit.keeps stays
  have kinds : ∀ y ∈ [p0].zip us, scope.names.lookup y.1 = some .local ∨ (scope.names.lookup y.1 = some .cell ∧ ((cellsFrom (s.heap.objs.size + 1) scope.names []).lookup y.1).isSome = true) := by
    intro y hy
    obtain ⟨n, v⟩ := y
    cases S.par n (List.of_mem_zip hy).1 with
    | inl q => exact Or.inl q
    | inr q => exact Or.inr ⟨q, PySem.W.cellsFrom_some _ _ _ (Or.inl q)⟩
  refine codeAny_call_function room.depth (inK _ _ look) rfl S.co S.gen rfl (PySem.W.codeRec_of inK code) (bind _ _ _ _ ?_)
  refine wpAny_newFunctionEnv_cells S.kind kinds ?_
  intro en hen s1 made
  subst hen
  have lim1 := free.keeps made.toInCall.keep
  refine ⟨lim1, codeAny_func ?_⟩
  have begun : Inv (L2H.cxH (L2N.CX P w) P w K mg base N qual scope f cdv A outer s H E p) [] (L2.start N vs) H s1 := L2H.inv_startH S hpin env count rel made
  have est : EnvR K F0 g (.pin (.ref p.1) (excS p.1 od e.flds) :: List.replicate n .hole) h (L2.start N vs) := by
    have eS : L2.start N vs = some (.ref p.1) :: List.replicate n none := by
      unfold L2.start
      rw [hN, evs]
      have e1 : 1 + n - [V.ref p.1].length = n := by show 1 + n - 1 = n; omega
      rw [e1]
      rfl
    rw [eS]
    refine ⟨_, _, h, emp, rfl, .refl, .emp, Dis.emp.symm, ⟨_, rfl, ?_⟩, ?_⟩
    · unfold own; exact ⟨rfl, ow⟩
    · exact env_holes
  have went := semL_run (hb cdv A outer s H E p p.1 od g e ⟨room.deeper _, ⟨p, hot, List.mem_cons_self ..⟩, hot.1, passes_of rfl, ⟨p.2, List.mem_cons_self .., ec ▸ zn, hf⟩⟩ fo F0 h g H (L2.start N vs) { nx := fun _ H' => Q .non H', rt := Q } est fit .refl hu (fun x z => absurd z (hnx x))
    (fun Γ' M' ⟨r, e1, e2, hl⟩ hm F' h' σ' H' s1 ev ff => ?_) (fun r hr' v F' h1 h2 σ' H' s1 ow' ev d ff => ?_)) [] s1 begun
  · refine wpAny_mono went ?_ (fun _ _ z => z)
    intro fl s' leaves
    cases fl with
    | brk => exact leaves.elim fun _ z => z.elim fun _ z => z.2.elim
    | cont => exact leaves.elim fun _ z => z.elim fun _ z => z.2.elim
    | next =>
      obtain ⟨σ', H', J, q⟩ := leaves
      exact ⟨V.non, H', J.os, J.bare, J.base, J.hok, rfl, q⟩
    | ret u =>
      obtain ⟨v, σ', H', J, rv, q⟩ := leaves
      exact ⟨v, H', J.os, J.bare, J.base, J.hok, rv, q⟩
  · obtain ⟨o, σr, k1, k2, e3, s3, s4, d3, w3, _⟩ := hl.ok ev
    obtain ⟨v1, ev1, w3⟩ := w3
    unfold own at w3
    refine hq r (by rw [← hm, e1]) .non F' emp h' H' s1 (by rw [e2]; unfold own; exact .non) ?_ .emp ff.emp
    exact NR.excS nrf _ _ _ _ _ _ (own_mono .refl .refl _ s3 (by rw [← w3.1]; exact w3.2))
  · obtain ⟨o, σr, k1, k2, e3, s3, s4, d3, w3, _⟩ := ev
    obtain ⟨v1, ev1, w3⟩ := w3
    unfold own at w3
    refine hq r hr' v F' h1 h2 H' s1 (nr r _ _ _ _ _ _ ow') ?_ d ff
    exact NR.excS nrf _ _ _ _ _ _ (own_mono .refl .refl _ s3 (by rw [← w3.1]; exact w3.2))
end
/-! ### the call -/
/-- a def by its name, called with the caught one -/
def HasF_ (X : Cx) {ω : Type} (x : Str) (lv : Nat) (mir : Exn → Res ω) (ret : ω → SD) : Prop := ∃ f fd p0, X.mg x = some (.ref f) ∧ PySem.W.keepIn X.K (.ref f) = true ∧ FnGH X.prog X.w X.K X.mg X.base lv f fd [p0] (SpMF X.K mir ret) ∧ Binds X.K fd [p0] []
section
variable {X : Cx} {C : XC} {pu : Bool} {ω ω' : Type} {Γ : List SD} {M : Res ω} {pos p q : Pos} {k : Opd → List SD → Res ω → Prop} {mir : Exn → Res ω'} {ret : ω' → SD}
theorem hasF_of {x : Str} {st : Stmt} {lv : Nat} {p0 : Str} (h : ∃ f fd, X.mg x = some (.ref f) ∧ FnP X.K x st f fd) (g : ∀ f fd, FnP X.K x st f fd → FnGH X.prog X.w X.K X.mg X.base lv f fd [p0] (SpMF X.K mir ret)) (b : ∀ f fd, FnP X.K x st f fd → Binds X.K fd [p0] []) : HasF_ X x lv mir ret := by
  obtain ⟨f, fd, e, F⟩ := h
  exact ⟨f, fd, p0, e, F.kp, g f fd F, b f fd F⟩
theorem JE.callF {fn n : Str} {lv i : Nat} {a : Addr} {od : Option Addr} {oe : Obj} {e : Exn} {kM : ω' → Res ω} (c : HasF_ X fn lv mir ret) (hr : L2H.RoomH lv X.A) (hp : (a, oe) ∈ X.pn) (hd : X.A.handled = some (.ref a)) (zn : L2N.Zn (.ref (He.ga X.K e.cls)) od oe) (hf : ∃ vs, oe.data = .fields vs) (nr : ∀ r, NR (ret r))
    (hΓ : Γ[i]? = some (excS a od e.flds)) (nrf : NRF e.flds) (fo : e.flds = [] ∨ ∃ d, od = some d) (hM : M = (mir e).bind kM) (nx : ∀ x, mir e ≠ .ex x) (hk : ∀ r, mir e = .ok r → k (.own (ret r)) Γ (kM r))
    (hN : X.N[i]? = some n := by rfl) (hv : Vis X.env.scope n := by first | exact Or.inl rfl | exact Or.inr (Or.inl rfl) | exact Or.inr (Or.inr rfl)) (hdn : (n == ("__debug__" : Str)) = false := by decide) (hcd : (n == ("__classdict__" : Str)) = false := by decide)
    (hg : Gl X fn := by rfl) (hdb : (fn == ("__debug__" : Str)) = false := by decide)
    (he : starEach [.Name n q] X.env = (false, eval (.Name n q) X.env) :: starEach [] X.env := by rfl) (hpl : (backTo pos (starEach [] X.env)).any (·.1) = false := by rfl) : JE X C false Γ (.Call (.Name fn p) [.Name n q] [] pos) M k := by
  obtain ⟨f, fd, p0, e1, kp, Fn, hb⟩ := c
  obtain ⟨vs0, hvs0⟩ := id hf
  have hot : L2H.Hot1 X.A (a, oe) := ⟨hd, vs0, hvs0, zn.2.2 vs0 hvs0⟩
  have run : PE X (.Call (.Name fn p) [.Name n q] [] pos) (fun σ H Q => (tCons (fun σ H Q => ∃ v, σ[i]? = some (some v) ∧ Q v H) tNil) σ H fun vs H1 => SpMF X.K mir ret a (.ref (He.ga X.K e.cls)) od vs H1 Q (fun _ _ _ => False)) := by
    refine ⟨fun pins s σ H Q I h => ?_⟩
    refine wpAny_Call_Name_kw (ld_glob I hg e1 ?_ hdb)
    refine PySem.W.callWith_K (h₀ := X.base) I.ok.mod.kin kp (thn ((pa_cons (pe_var hN hv hdn hcd) pa_nil he).run pos pins s σ H _ I h) fun us s1 ⟨vs, H1, I1, r, sp⟩ => ⟨I1.kIn, ?_⟩) he hpl
    have P1 := I1.pin (a, oe) (List.mem_append_left _ hp)
    have hpin : L2H.PinOk X.stack H1 s1 (a, oe) := ⟨P1.1, P1.2.1, fun hm => (List.mem_cons.mp (I1.stkSub a hm)).elim P1.2.2.1 P1.2.2.2.1, P1.2.2.2.2⟩
    have hl : us.length = [p0].length := by rw [← r.length]; exact Fn.len _ _ _ _ _ _ _ sp
    have b := hb s1 us I1.kIn (by rw [List.append_nil]; exact hl)
    rw [List.append_nil] at b
    refine wpAny_call (codeAny_mono (Fn.run X.A X.stack s1 H1 ⟨us, []⟩ us vs Q (fun _ _ _ => False) (a, oe) _ od hr hot hpin zn hf I1.env0 b r sp) fun r s' hq => ?_)
    cases r with
    | error er =>
      obtain ⟨_, _, _, _, _, _, _, _, _, _, _, _, z⟩ := hq
      exact z.elim
    | ok fl =>
      cases fl with
      | ret u => exact I1.after hq
      | next => exact False.elim hq
      | brk => exact False.elim hq
      | cont => exact False.elim hq
  refine JE.of run fun F h0 g H σ Q he' hf' hG hu hx hq => ?_
  subst hM
  obtain ⟨v, k1, k2, ev, s1, s2, d12, wv, back⟩ := env_out he' hΓ (by intro z; cases z) hf' hG
  obtain ⟨rfl, _⟩ := excS_in wv
  have hf4 : Fits F k1 (cup k2 g) H := ((hf'.sub (Sub.cup s2 s1)).out d12.symm)
  have dg2 : Dis k2 g := hf'.hg.mono s2 .refl
  have sg : Sub C.G (cup k2 g) := hG.trans (.r dg2)
  refine ⟨.ref a, ev, rfl, e, F, k1, cup k2 g, rfl, nrf, fo, own_mono .refl (Sub.cup2 .refl sg (hf4.fg)) _ .refl wv, hf4, fun z => hu (by rw [z]; rfl), nx, fun r hr' v F2 h1 h2 H2 x2 owr owe dd ff => ?_⟩
  have dG : Dis F2 C.G := ff.fg.mono .refl sg
  have d2 : Dis h2 k2 := ff.hg.mono (.r dd) .l
  have d1 : Dis h1 k2 := ff.hg.mono .l .l
  have ev2 := env_in (back.mono x2 dG .refl) ((List.getElem?_eq_some_iff.mp hΓ).1) ev (NR.excS nrf _ _ _ _ _ _ owe) d2 dG
  have eΓ : Γ.set i (excS a od e.flds) = Γ := by
    obtain ⟨hi', e'⟩ := List.getElem?_eq_some_iff.mp hΓ
    rw [← e']; exact List.set_getElem_self hi'
  rw [eΓ] at ev2
  refine hq (.own (ret r)) Γ (kM r) (hk r hr') (by rw [hr']; rfl) v F2 h1 (cup h2 k2) H2 x2 (by unfold OpdOk; exact nr r _ _ _ _ _ _ owr) ev2 (Dis.cup dd.symm d1.symm).symm ((ff.inn dg2).sub ?_) fun z => nomatch z
  exact Sub.cup (Sub.l.trans (.r (ff.hg.mono .refl .l).symm)) (Sub.cup ((Sub.r dd).trans (.r (ff.hg.mono .refl .l).symm)) .l)
end
section
/-- e.f where e is pinned -/
theorem pe_xfH {X : Cx} {a C : Addr} {oe : Obj} {cls : Value} {d : Option Addr} {e : Expr} {te : TE} {pos : Pos} {n : Str} (T : XfC X.K C) (hno : PySem.W.findIn X.K (.ref C) n = some none) (hp : (a, oe) ∈ X.pn)
    (hz : Zc cls d oe) (hf : ∃ vs, oe.data = .fields vs) (he : PE X e te) (hb : attributeBase e n X.env (eval e X.env) = eval e X.env := by rfl) : PE X (.Attribute e n pos) (tXf a cls d C n te) := by
  refine ⟨fun pins s σ H Q I h => ?_⟩
  refine attr_of hb (thn (he.run pins s σ H _ I h) fun u s1 hh => ?_)
  obtain ⟨x, H1, I1, rx, ex, ec, dd, fs, v, ed, ea, l, q⟩ := hh
  subst ex
  obtain rfl : u = Value.ref a := rx
  subst ec
  subst ed
  obtain ⟨ha, _⟩ := I1.pin (a, oe) (List.mem_append_left _ hp)
  obtain ⟨vs, hd⟩ := hf
  have hx : ObjOk X.prog X.w H1 s1.heap dd (.xd fs) := I1.hok dd _ ea
  obtain ⟨mA, hns, hr⟩ := hx
  obtain ⟨od, ho, hl⟩ := lookIn_ns hns
  obtain ⟨u, hu, ru⟩ := RelO.some_of (v := v) (o := mA n) (by rw [← l]; exact hr n)
  have J : PySem.W.InstAt s1.heap a oe C (some od) := ⟨ha, hz.1, by unfold PySem.W.notCls; rw [hd] <;> rfl, by rw [hz.2]; exact ho⟩
  exact HandSPX.exc_get I1.kIn J T.ga T.gg T.exC (PySem.W.findObj_own T.hdC hno rfl (by rw [hl, hu])) (handed_of ru) ⟨v, H1, I1.tok _, ru, q⟩
variable {X : Cx} {C : XC} {pu : Bool} {ω : Type} {Γ : List SD} {pos p : Pos} {k : Opd → List SD → Res ω → Prop}
theorem JE.xfG {α : Type} {dec : SD → Option α} {en : α → PyData} {kM : α → Res ω} {a : Addr} {oe : Obj} {od : Option Addr} {i : Nat} {x f c : Str} {e : Exn} (hdec : ∀ s y, dec s = some y → s = .val (en y)) (T : ExcC X.K (He.ga X.K e.cls)) (hno : PySem.W.findIn X.K (.ref (He.ga X.K c)) f = some none)
    (hp : (a, oe) ∈ X.pn) (hz : Zc (.ref (He.ga X.K e.cls)) od oe) (hf : ∃ vs, oe.data = .fields vs) (fo : e.flds = [] ∨ ∃ d, od = some d) (hΓ : Γ[i]? = some (.pin (.ref a) (excS a od e.flds))) (hk : ∀ y, k (.own (.val (en y))) Γ (kM y))
    (hN : X.N[i]? = some x := by rfl) (hv : Vis X.env.scope x := by first | exact Or.inl rfl | exact Or.inr (Or.inl rfl) | exact Or.inr (Or.inr rfl)) (hd : (x == ("__debug__" : Str)) = false := by decide) (hcd : (x == ("__classdict__" : Str)) = false := by decide)
    (hb : attributeBase (.Name x p) f X.env (eval (.Name x p) X.env) = eval (.Name x p) X.env := by rfl) :
    JE X C pu Γ (.Attribute (.Name x p) f pos) ((fldR dec c e f).bind kM) k := by
  by_cases hu : fldR dec c e f = .un
  · exact JE.ne fun z => absurd (by rw [hu]; rfl) z
  obtain ⟨s, y, ec, ef, ed, em⟩ := fldR_ok hu
  have es := hdec _ _ ed
  subst es
  rw [ef] at fo hΓ
  refine JE.of (pe_xfH ⟨T.hg, T.hk, T.hs, T.hd⟩ (by rw [ec]; exact hno) hp hz hf (pe_var hN hv hd hcd) hb) fun F h0 g H σ Q he hfit hG _ hx hq => ?_
  obtain ⟨o, k1, k2, eo, s1, s2, d12, w, back⟩ := he.at hΓ
  obtain ⟨v, rfl, wv⟩ := w.val (by intro z; cases z)
  unfold own at wv
  obtain ⟨rfl, d, u, h', eod, hd1, sh, ow⟩ := exc_at (h2 := h0) (σ := σ) fo wv.2
  refine ⟨.ref a, eo, rfl, rfl, d, [(f, u)], u, eod, hfit.hH _ _ (s1 _ _ hd1), by simp [List.lookup], ?_⟩
  unfold own at ow
  exact hq _ _ _ (hk y) (by rw [em]; rfl) u F emp h0 H .refl (by unfold OpdOk own; exact ow) he .emp hfit.emp fun _ => ⟨.refl, rfl⟩
end
end Tsa

/-! N97: data of any kind read as a pair; a slot told otherwise. -/
namespace Tsa
open PySem PySem.Spec PyProof.Rows L2
def xpair : PyData → Res (Int × Int)
  | .tuple [.int a, .int b] => .ok (a, b)
  | _ => .un
theorem xpair_of {d : PyData} (h : xpair d ≠ .un) : ∃ p : Int × Int, d = .tuple [.int p.1, .int p.2] ∧ xpair d = .ok p := by
  unfold xpair at h ⊢
  split at h
  · exact ⟨(_, _), rfl, rfl⟩
  · exact absurd rfl h
theorem xpair_nex {d : PyData} : ∀ e, xpair d ≠ .ex e := fun e z => by
  unfold xpair at z
  split at z <;> cases z
section
variable {X : Cx} {C : XC} {ω : Type} {k : List SD → Res ω → Prop} {en : ω → EndK} {sts : List Stmt} {Γf : PyData → List SD} {d : PyData} {M : Res ω}
theorem JL.xrefP {kM : Int × Int → Res ω} (h : ∀ p, JL X C (Γf (.tuple [.int p.1, .int p.2])) sts (kM p) k en) : JL X C (Γf d) sts ((xpair d).bind kM) k en := JL.ne fun hu => by
  have hx : xpair d ≠ .un := fun z => hu (by rw [z]; rfl)
  obtain ⟨p, e1, e2⟩ := xpair_of hx
  rw [e2, e1]
  exact h p
theorem JL.told {Γ Γ' : List SD} (e : Γ = Γ') (h : JL X C Γ' sts M k en) : JL X C Γ sts M k en := by rw [e]; exact h
end
end Tsa

/-! N98: a locked list many times; a locked tuple many times, whatever is in it. -/
namespace Tsa
open PySem PySem.Spec PyProof.Rows L2
theorem list_mulW (l : Addr) (items : Array Value) (n : Nat) (dd : Option Addr) (sl : Array (Option Value)) (x : Int) (u : Tok) (hc0 : ¬(!Builtin.List.listFitsIndex x) = true) (hc1 : ¬items.size * x.toNat > (2 ^ 63 - 1) / 8) (hc2 : ¬Builtin.List.listTooLong (items.size * x.toNat) = true) :
    Meets (Builtin.«list.__mul__» ⟨[.ref l, .int x u], []⟩) (fun _ R s => s.heap.get? l = some { cls := .type "list", dict := dd, data := .seq items n, slots := sl } ∧ R (.ok (.ret (Value.ref s.heap.objs.size))) { s with heap := s.heap.push { cls := Value.type "list", data := Data.seq (List.foldl (fun x1 x2 => x1 ++ x2) #[] (List.replicate (if items.isEmpty = true then 0 else x.toNat) items)) }, toks := s.toks }) :=
  .of_wp fun prog w A R s h => by
    obtain ⟨hp, g, d, tk, os⟩ := s; obtain ⟨hl, h⟩ := h
    have hsz := AutoListH.joined_fits hc2
    wp_walk using wpAny_loadPart' hl; refine wpAny_ite_false (decide_eq_false (Nat.not_lt.mpr hsz)) ?_; wp_walk using wpAny_loadPart' hl; exact ⟨_, rfl, h⟩
theorem int_rmul_listW (a : Int) (t : Tok) (l : Addr) (items : Array Value) (n : Nat) (dd : Option Addr) (sl : Array (Option Value)) :
    Meets (Builtin.«int.__rmul__» ⟨[.int a t, .ref l], []⟩) (fun _ R s => s.heap.get? l = some { cls := .type "list", dict := dd, data := .seq items n, slots := sl } ∧ R (.ok (.ret Value.notImplemented)) s) :=
  .of_wp fun prog w A R s h => by obtain ⟨hp, g, d, tk, os⟩ := s; obtain ⟨hl, h⟩ := h; wp_walk using wpAny_loadPart' hl; exact ⟨_, rfl, h⟩
theorem tuple_mulE (l : Addr) (items : Array Value) (n : Nat) (dd : Option Addr) (sl : Array (Option Value)) (x : Int) (u : Tok) (c0 : (decide (x < -(2 ^ 63)) || decide (x ≥ 2 ^ 63)) = false) (hi : items.isEmpty = true) :
    Meets (Builtin.«tuple.__mul__» ⟨[.ref l, .int x u], []⟩) (fun _ R s => s.heap.get? l = some { cls := .type "tuple", dict := dd, data := .seq items n, slots := sl } ∧ R (.ok (.ret (Value.ref l))) s) :=
  .of_wp fun prog w A R s h => by
    obtain ⟨hp, g, d, tk, os⟩ := s
    obtain ⟨hl, h⟩ := h
    have f1 := AutoSeq1.idx_int
    have c1 : (items.isEmpty || x == 1) = true := by rw [hi]; rfl
    wp_walk using wpAny_loadPart' hl
    repeat (first
      | (refine wpAny_ite_false (decide_eq_false (by rw [c0]; exact Bool.false_ne_true)) ?_; wp_walk using wpAny_loadPart' hl)
      | (refine wpAny_ite_true (decide_eq_true (by rw [c1])) ?_; wp_walk using wpAny_loadPart' hl))
    exact ⟨_, rfl, h⟩
def rRepS (K : PySem.W.Frag) : R2 := fun x y H Q => ∃ l k xs, x = .ref l ∧ y = .int k ∧ SqL K H l xs ∧ 0 ≤ k ∧ k ≤ 1000 ∧ xs.length ≤ 1000 ∧
  ∀ p, H p = none → Q (.ref p) (upd H p (.lst (List.replicate k.toNat xs).flatten))
/-- xs * k, whatever is in it -/
def rRepZ (K : PySem.W.Frag) : R2 := fun x y H Q => ∃ l k xs, x = .ref l ∧ y = .int k ∧ SqT K H l xs ∧ 0 ≤ k ∧ k ≤ 1000 ∧ xs.length ≤ 1000 ∧ ((k = 1 ∨ xs = []) → Q (.ref l) H) ∧ (k ≠ 1 → ∀ p, H p = none → Q (.ref p) (upd H p (.tup (List.replicate k.toNat xs).flatten)))
section
variable {X : Cx}
theorem op_repS : OpR X (binaryOp .Mult) (rRepS X.K) := by
  intro pins s σ H x y v u Q I rx ry h
  obtain ⟨l, k, xs, rfl, rfl, hT, h1, h2, hz, q⟩ := h
  cases rx
  obtain ⟨t, rfl⟩ := ry
  obtain ⟨its, r, ⟨⟨cls, dd, data, sl⟩, n, ho, hc, hd0, hd⟩, hs⟩ := I.list hT
  simp only at hc hd hd0
  subst hc hd hd0
  have hle : its.length = xs.length := r.length.symm
  have hsz0 : its.toArray.size = xs.length := by rw [List.size_toArray, hle]
  have hm : its.toArray.size * k.toNat ≤ 1000 * 1000 := by
    rw [hsz0]
    exact Nat.mul_le_mul hz (by omega)
  have hlen : its.toArray.size * k.toNat ≤ sizeLine := by rw [sizeLine_eq]; omega
  have hcap : ¬ its.toArray.size * k.toNat > (2 ^ 63 - 1) / 8 := by omega
  have hfit : ¬ (!Builtin.List.listFitsIndex k) = true := by
    rw [fitsIndex_both (by omega) (by omega)]
    exact Bool.false_ne_true
  have hlong : ¬ Builtin.List.listTooLong (its.toArray.size * k.toNat) = true := by
    rw [notLongL hlen]
    exact Bool.false_ne_true
  have hnew : List.foldl (fun x1 x2 => x1 ++ x2) #[] (List.replicate (if its.toArray.isEmpty = true then 0 else k.toNat) its.toArray) = (List.replicate k.toNat its).flatten.toArray := by
    have f0 : ∀ m : Nat, List.foldl (fun x1 x2 => x1 ++ x2) #[] (List.replicate m its.toArray) = (List.replicate m its).flatten.toArray := fun m => by
      have := foldl_rep its m []
      rw [List.nil_append] at this
      exact this
    rw [f0]
    cases its with
    | nil => simp
    | cons a r' => rw [if_neg (by simp)]
  refine wpAny_binaryOp_repeat_ref (T := "list") (U := "int") (by decide) ⟨_, ho, rfl⟩ (fun s' => typeIs_int s' k t) noFill_list_mul F.fills_int_mul F.slot_int_rmul repeat_list F.slot_int_index.lookup
    (call_meets F.slot_int_rmul (typeIs_int s k t) F.entry_int_rmul (F.args_int_rmul_2 _ _) (int_rmul_listW k t l its.toArray n none sl)
      ⟨ho, rfl, ⟨_, ho, rfl⟩, call_meets F.slot_list_mul ⟨_, ho, rfl⟩ F.entry_list_mul (F.args_list_mul_2 _ _) (list_mulW l its.toArray n none sl k t hfit hcap hlong) ⟨ho, ?_⟩⟩)
  rw [hnew]
  exact ⟨.ref _, _, I.lnew (t' := s.toks) (r.rep k.toNat) (by rw [PyProof.Rows.lm_len_rep_flat, ← hsz0, Nat.mul_comm]; exact hlen), rfl, q _ I.fresh⟩
theorem op_repZ : OpR X (binaryOp .Mult) (rRepZ X.K) := by
  intro pins s σ H x y v u Q I rx ry h
  obtain ⟨l, k, xs, rfl, rfl, hT, h1, h2, hz, q1, q⟩ := h
  by_cases c : xs = []
  · cases rx
    obtain ⟨t, rfl⟩ := ry
    obtain ⟨its, r, ⟨⟨cls, dd, data, sl⟩, ho, hc, n, hd⟩, hs⟩ := I.tuple hT
    simp only at hc hd
    subst hc hd
    have hn : its = [] := List.eq_nil_of_length_eq_zero (by rw [← r.length, c]; rfl)
    have hi : its.toArray.isEmpty = true := by rw [hn]; rfl
    have c0 : (decide (k < -(2 ^ 63)) || decide (k ≥ 2 ^ 63)) = false := by
      rw [decide_eq_false (by omega), decide_eq_false (by omega)] <;> rfl
    exact wpAny_binaryOp_repeat_ref (T := "tuple") (U := "int") (by decide) ⟨_, ho, rfl⟩ (fun s' => typeIs_int s' k t) noFill_tuple_mul F.fills_int_mul F.slot_int_rmul repeat_tuple F.slot_int_index.lookup
      (call_meets F.slot_int_rmul (typeIs_int s k t) F.entry_int_rmul (F.args_int_rmul_2 _ _) (int_rmul_tuple k t l its.toArray n dd sl)
        ⟨ho, rfl, ⟨_, ho, rfl⟩, call_meets F.slot_tuple_mul ⟨_, ho, rfl⟩ F.entry_tuple_mul (F.args_tuple_mul_2 _ _) (tuple_mulE l its.toArray n dd sl k t c0 hi) ⟨ho, ⟨.ref l, H, I, rfl, q1 (.inr c)⟩⟩⟩)
  · exact op_repA pins s σ H _ _ v u Q I rx ry ⟨l, k, xs, rfl, rfl, hT, c, h1, h2, hz, fun z => q1 (.inl z), q⟩
variable {C : XC} {pu : Bool} {ω : Type} {Γ : List SD} {a b : Expr} {M : Res ω} {pos : Pos} {k : Opd → List SD → Res ω → Prop}
/-- xs * n, xs a locked tuple -/
theorem JE.repZ {α : Type} {e : α → PyData} (h : JE X C pu Γ a M fun oa Γ1 M1 => ∃ xs : List α, oa = .own (.val (.tuple (xs.map e))) ∧ JE X C pu Γ1 b M1 fun ob Γ2 M2 => ∃ (n : Int) (M3 : Res ω), ob = .own (.val (.int n)) ∧ (M2 ≠ .un → M2 = M3 ∧ (0 ≤ n ∧ n ≤ 1000 ∧ xs.length ≤ 1000)) ∧ k (.own (.val (.tuple ((repD n.toNat xs).map e)))) Γ2 M3) :
    JE X C pu Γ (.BinOp a .Mult b pos) M k :=
  JE.of (pe_op op_repZ pe_sem pe_sem) (JT.two2 (pt := pu) (Z := fun oa ob Γ2 M2 => ∃ (xs : List α) (n : Int) (M3 : Res ω), oa = .own (.val (.tuple (xs.map e))) ∧ ob = .own (.val (.int n)) ∧ (M2 ≠ .un → M2 = M3 ∧ (0 ≤ n ∧ n ≤ 1000 ∧ xs.length ≤ 1000)) ∧ k (.own (.val (.tuple ((repD n.toNat xs).map e)))) Γ2 M3)
    (h.mono fun oa Γ1 M1 ⟨xs, e1, h2⟩ => ⟨.inl ⟨_, e1⟩, fun z => z, h2.mono fun ob Γ2 M2 ⟨n, M3, e2, hM, hk⟩ => ⟨xs, n, M3, e1, e2, hM, hk⟩⟩) (by
    rintro oa ob Γ2 ⟨xs, n, M3, rfl, rfl, hM, hk⟩ F h1 h0 h2 g H σ va vb Q ow he d hf hG hp hu hx hq
    obtain ⟨eM, n1, n2, lx⟩ := hM hu
    subst eM
    obtain ⟨v1, v2, ha, hb, ev, t1, t2, d12, w1, w2⟩ := ow.two
    cases ev
    unfold OpdOk own at w1 w2
    obtain ⟨pa, us, ea, za, da⟩ := Dt.tupV w1
    subst ea
    have ei := w2.intV
    subst ei
    have la := da.len
    rw [List.length_map] at la
    have f0 : Fits F h2 g H := hf.un d
    have e2 : (repD n.toNat xs).map e = repD n.toNat (xs.map e) := by
      unfold repD
      rw [List.map_flatten, List.map_replicate]
    rw [e2] at hk
    refine ⟨pa, n, us, rfl, rfl, SqT.mono hf.fH za, n1, n2, by omega, fun z => ?_, fun _ q hn => ?_⟩
    · have e3 : repD n.toNat (xs.map e) = xs.map e := by
        rcases z with z | z
        · subst z
          unfold repD
          show ((List.replicate 1 (xs.map e)).flatten) = _
          simp
        · have x0 : xs = [] := List.eq_nil_of_length_eq_zero (by rw [← la, z]; rfl)
          subst x0
          unfold repD
          simp
      rw [e3] at hk
      exact hq _ _ _ hk rfl _ F emp h2 H .refl (by unfold OpdOk own; exact w1) he .emp f0.emp hp
    · have nn := f0.no hn
      have f4 := f0.new (o := .tup (repD n.toNat us)) hn
      have dq : Dis (sgl q (HO.tup (repD n.toNat us))) h2 := Dis.one nn.2.1
      have f5 := f4.freeze dq
      have dF : Dis F (sgl q (HO.tup (repD n.toNat us))) := f4.fh.mono .refl .l
      refine hq _ _ _ hk rfl (.ref q) _ emp h2 _ .l ?_ (he.mono .l (f5.G hG) .refl) .emp f5.emp hp
      unfold OpdOk own
      exact .tup (.of (Sub.r dF _ _ one_same)) ((dtl_rep da n.toNat).mono .l)))
/-- xs * n, xs a locked list: another one of one's own -/
theorem JE.repS {α : Type} {e : α → PyData} (h : JE X C pu Γ a M fun oa Γ1 M1 => ∃ xs : List α, oa = .own (.val (.list (xs.map e))) ∧ JE X C pu Γ1 b M1 fun ob Γ2 M2 => ∃ (n : Int) (M3 : Res ω), ob = .own (.val (.int n)) ∧ (M2 ≠ .un → M2 = M3 ∧ (0 ≤ n ∧ n ≤ 1000 ∧ xs.length ≤ 1000)) ∧ k (.own (.lst ((repD n.toNat xs).map fun x => .val (e x)))) Γ2 M3) :
    JE X C pu Γ (.BinOp a .Mult b pos) M k :=
  JE.of (pe_op op_repS pe_sem pe_sem) (JT.two2 (pt := pu) (Z := fun oa ob Γ2 M2 => ∃ (xs : List α) (n : Int) (M3 : Res ω), oa = .own (.val (.list (xs.map e))) ∧ ob = .own (.val (.int n)) ∧ (M2 ≠ .un → M2 = M3 ∧ (0 ≤ n ∧ n ≤ 1000 ∧ xs.length ≤ 1000)) ∧ k (.own (.lst ((repD n.toNat xs).map fun x => .val (e x)))) Γ2 M3)
    (h.mono fun oa Γ1 M1 ⟨xs, e1, h2⟩ => ⟨.inl ⟨_, e1⟩, fun z => z, h2.mono fun ob Γ2 M2 ⟨n, M3, e2, hM, hk⟩ => ⟨xs, n, M3, e1, e2, hM, hk⟩⟩) (by
    rintro oa ob Γ2 ⟨xs, n, M3, rfl, rfl, hM, hk⟩ F h1 h0 h2 g H σ va vb Q ow he d hf hG hp hu hx hq
    obtain ⟨eM, n1, n2, lx⟩ := hM hu
    subst eM
    obtain ⟨v1, v2, ha, hb, ev, t1, t2, d12, w1, w2⟩ := ow.two
    cases ev
    unfold OpdOk own at w1 w2
    obtain ⟨pa, us, ea, za, da⟩ := Dt.lstV w1
    subst ea
    have ei := w2.intV
    subst ei
    have la := da.len
    rw [List.length_map] at la
    have f0 : Fits F h2 g H := hf.un d
    refine ⟨pa, n, us, rfl, rfl, SqL.mono hf.fH za, n1, n2, by omega, fun q hn => ?_⟩
    have nn := f0.no hn
    refine hq _ Γ2 _ hk rfl (.ref q) F (cup (sgl q (.lst (repD n.toNat us))) emp) h2 _ .refl ?_ he (Dis.cup (Dis.one nn.2.1) .emp) ?_ hp
    · unfold OpdOk own
      refine ⟨q, repD n.toNat us, emp, rfl, cup_some (by unfold sgl; simp), .emp, rfl, ?_⟩
      have e2 : ((repD n.toNat xs).map fun x => SD.val (e x)) = (repD n.toNat (xs.map e)).map .val := by
        unfold repD
        rw [List.map_flatten, List.map_flatten, List.map_replicate, List.map_replicate, List.map_map]
        rfl
      rw [e2]
      exact ownL_of (dtl_rep da n.toNat)
    · exact (f0.new hn).sub (Sub.cup (Sub.cup .l .emp) (.r (Dis.one nn.2.1)))))
end
end Tsa

namespace HD
open PySem PySem.Spec PyProof.Rows L2 Tsa
/-! -/
def top (i : Nat) : Stmt := PySem.Challenge.pw_treesapart_k12_no_webs.main.body.getD i (.Pass ⟨0, 0, 0, 0⟩)
abbrev s_is_whole : Stmt := top 20
abbrev s_is_place : Stmt := top 21
abbrev s_is_pair : Stmt := top 22
abbrev s_made_web : Stmt := top 23
abbrev s_nth : Stmt := top 25
abbrev s_pot : Stmt := top 26
abbrev s_take : Stmt := top 27
abbrev s_pair : Stmt := top 28
abbrev s_pairs : Stmt := top 29
abbrev s_l_is_whole : Stmt := top 30
abbrev s_l_is_pair : Stmt := top 31
abbrev s_odd : Stmt := top 32
abbrev s_no_places : Stmt := top 33
abbrev s_is_other : Stmt := top 34
abbrev s_words : Stmt := top 35
abbrev s_told : Stmt := top 36
abbrev s_law : Stmt := top 37
def cbody (s : Stmt) (j : Nat) : Stmt := match s with
  | .ClassDef _ _ _ body .. => body.getD j (.Pass ⟨0, 0, 0, 0⟩)
  | s => s
abbrev s_NoTie___init__ : Stmt := cbody (top 4) 0
def XC : List Str := ["NoWeb", "TooMany", "NoTie"]
def XO : List Str := ["NoTie"]
def XN : List Str := ["NoWeb", "TooMany", "NoTie", "NoSuch", "NoCount", "NoPlace", "NoMost", "NoTrees", "NoStrengths", "NoSpreads", "Held", "NotHeld", "NoDeed", "NoRow", "NoName"]
/-- the module, by its names -/
structure Md (K : PySem.W.Frag) (mg : Str → Option Value) : Prop where
  isinstance : mg "isinstance" = none
  int : mg "int" = none
  bool : mg "bool" = none
  tuple : mg "tuple" = none
  len : mg "len" = none
  min : mg "min" = none
  max : mg "max" = none
  enumerate : mg "enumerate" = none
  repr : mg "repr" = none
  range : mg "range" = none
  divmod : mg "divmod" = none
  abs : mg "abs" = none
  ValueError : mg "ValueError" = none
  c_MOST_PLACES : ∃ t, mg "MOST_PLACES" = some (.int 9 t)
  c_MOST_TIES : ∃ t, mg "MOST_TIES" = some (.int 30 t)
  f_is_whole : ∃ f fd, mg "is_whole" = some (.ref f) ∧ FnP K "is_whole" s_is_whole f fd
  f_is_place : ∃ f fd, mg "is_place" = some (.ref f) ∧ FnP K "is_place" s_is_place f fd
  f_is_pair : ∃ f fd, mg "is_pair" = some (.ref f) ∧ FnP K "is_pair" s_is_pair f fd
  f_made_web : ∃ f fd, mg "made_web" = some (.ref f) ∧ FnP K "made_web" s_made_web f fd
  f_nth : ∃ f fd, mg "_law_nth" = some (.ref f) ∧ FnP K "_law_nth" s_nth f fd
  f_pot : ∃ f fd, mg "_law_pot" = some (.ref f) ∧ FnP K "_law_pot" s_pot f fd
  f_take : ∃ f fd, mg "_law_take" = some (.ref f) ∧ FnP K "_law_take" s_take f fd
  f_pair : ∃ f fd, mg "_law_pair" = some (.ref f) ∧ FnP K "_law_pair" s_pair f fd
  f_pairs : ∃ f fd, mg "_law_pairs" = some (.ref f) ∧ FnP K "_law_pairs" s_pairs f fd
  f_l_is_whole : ∃ f fd, mg "_law_is_whole" = some (.ref f) ∧ FnP K "_law_is_whole" s_l_is_whole f fd
  f_l_is_pair : ∃ f fd, mg "_law_is_pair" = some (.ref f) ∧ FnP K "_law_is_pair" s_l_is_pair f fd
  f_odd : ∃ f fd, mg "_law_odd" = some (.ref f) ∧ FnP K "_law_odd" s_odd f fd
  f_no_places : ∃ f fd, mg "_law_no_places" = some (.ref f) ∧ FnP K "_law_no_places" s_no_places f fd
  f_is_other : ∃ f fd, mg "_law_is_other" = some (.ref f) ∧ FnP K "_law_is_other" s_is_other f fd
  f_words : ∃ f fd, mg "_law_words" = some (.ref f) ∧ FnP K "_law_words" s_words f fd
  f_told : ∃ f fd, mg "_law_told" = some (.ref f) ∧ FnP K "_law_told" s_told f fd
  f_NoTie___init__ : ∃ fd, FnM K "__init__" "NoTie.__init__" s_NoTie___init__ (He.ma K (He.ga K "NoTie") "__init__") fd
  xo_NoTie : OexK K "NoTie"
  no_NoTie_at : PySem.W.findIn K (.ref (He.ga K "NoTie")) "at" = some none
  xf : XF K XC XN
  xb : BaseK K (He.ga K "TreeError")
  cn_TreeError : mg "TreeError" = some (.ref (He.ga K "TreeError"))
  cn_NoWeb : mg "NoWeb" = some (.ref (He.ga K "NoWeb"))
  cn_TooMany : mg "TooMany" = some (.ref (He.ga K "TooMany"))
  cn_NoTie : mg "NoTie" = some (.ref (He.ga K "NoTie"))
  cn_NoSuch : mg "NoSuch" = some (.ref (He.ga K "NoSuch"))
  cn_NoCount : mg "NoCount" = some (.ref (He.ga K "NoCount"))
  cn_NoPlace : mg "NoPlace" = some (.ref (He.ga K "NoPlace"))
  cn_NoMost : mg "NoMost" = some (.ref (He.ga K "NoMost"))
  cn_NoTrees : mg "NoTrees" = some (.ref (He.ga K "NoTrees"))
  cn_NoStrengths : mg "NoStrengths" = some (.ref (He.ga K "NoStrengths"))
  cn_NoSpreads : mg "NoSpreads" = some (.ref (He.ga K "NoSpreads"))
  cn_Held : mg "Held" = some (.ref (He.ga K "Held"))
  cn_NotHeld : mg "NotHeld" = some (.ref (He.ga K "NotHeld"))
  cn_NoDeed : mg "NoDeed" = some (.ref (He.ga K "NoDeed"))
  cn_NoRow : mg "NoRow" = some (.ref (He.ga K "NoRow"))
  cn_NoName : mg "NoName" = some (.ref (He.ga K "NoName"))
  xk_NoWeb : ExcK K "NoWeb"
  xk_TooMany : ExcK K "TooMany"
end HD

namespace HD
open PySem PySem.Spec PyProof.Rows L2 Tsa
/-! -/
def d_is_whole : He.DefD := ⟨("is_whole", none), "is_whole", "is_whole", defArgs s_is_whole, defBody s_is_whole, defScope s_is_whole, [], []⟩
def d_is_place : He.DefD := ⟨("is_place", none), "is_place", "is_place", defArgs s_is_place, defBody s_is_place, defScope s_is_place, [], []⟩
def d_is_pair : He.DefD := ⟨("is_pair", none), "is_pair", "is_pair", defArgs s_is_pair, defBody s_is_pair, defScope s_is_pair, [], []⟩
def d_made_web : He.DefD := ⟨("made_web", none), "made_web", "made_web", defArgs s_made_web, defBody s_made_web, defScope s_made_web, [], []⟩
def d_nth : He.DefD := ⟨("_law_nth", none), "_law_nth", "_law_nth", defArgs s_nth, defBody s_nth, defScope s_nth, [], []⟩
def d_pot : He.DefD := ⟨("_law_pot", none), "_law_pot", "_law_pot", defArgs s_pot, defBody s_pot, defScope s_pot, [], []⟩
def d_take : He.DefD := ⟨("_law_take", none), "_law_take", "_law_take", defArgs s_take, defBody s_take, defScope s_take, [], []⟩
def d_pair : He.DefD := ⟨("_law_pair", none), "_law_pair", "_law_pair", defArgs s_pair, defBody s_pair, defScope s_pair, [], []⟩
def d_pairs : He.DefD := ⟨("_law_pairs", none), "_law_pairs", "_law_pairs", defArgs s_pairs, defBody s_pairs, defScope s_pairs, [], []⟩
def d_l_is_whole : He.DefD := ⟨("_law_is_whole", none), "_law_is_whole", "_law_is_whole", defArgs s_l_is_whole, defBody s_l_is_whole, defScope s_l_is_whole, [], []⟩
def d_l_is_pair : He.DefD := ⟨("_law_is_pair", none), "_law_is_pair", "_law_is_pair", defArgs s_l_is_pair, defBody s_l_is_pair, defScope s_l_is_pair, [], []⟩
def d_odd : He.DefD := ⟨("_law_odd", none), "_law_odd", "_law_odd", defArgs s_odd, defBody s_odd, defScope s_odd, [], []⟩
def d_no_places : He.DefD := ⟨("_law_no_places", none), "_law_no_places", "_law_no_places", defArgs s_no_places, defBody s_no_places, defScope s_no_places, [], []⟩
def d_is_other : He.DefD := ⟨("_law_is_other", none), "_law_is_other", "_law_is_other", defArgs s_is_other, defBody s_is_other, defScope s_is_other, [], []⟩
def d_words : He.DefD := ⟨("_law_words", none), "_law_words", "_law_words", defArgs s_words, defBody s_words, defScope s_words, [], []⟩
def d_told : He.DefD := ⟨("_law_told", none), "_law_told", "_law_told", defArgs s_told, defBody s_told, defScope s_told, [], []⟩
def d_law : He.DefD := ⟨("law", none), "law", "law", defArgs s_law, defBody s_law, defScope s_law, [], []⟩
def d_NoTie___init__ : He.DefD := ⟨("NoTie", some "__init__"), "__init__", "NoTie.__init__", defArgs s_NoTie___init__, defBody s_NoTie___init__, defScope s_NoTie___init__, [], []⟩
def names : List PySem.Str := [("TreeError" : PySem.Str), ("NoWeb" : PySem.Str), ("TooMany" : PySem.Str), ("NoTie" : PySem.Str), ("NoSuch" : PySem.Str), ("NoCount" : PySem.Str), ("NoPlace" : PySem.Str), ("Held" : PySem.Str), ("NotHeld" : PySem.Str), ("NoMost" : PySem.Str), ("NoTrees" : PySem.Str), ("NoStrengths" : PySem.Str), ("NoSpreads" : PySem.Str), ("NoDeed" : PySem.Str), ("NoRow" : PySem.Str), ("NoName" : PySem.Str), ("MOST_PLACES" : PySem.Str), ("MOST_TIES" : PySem.Str), ("is_whole" : PySem.Str), ("is_place" : PySem.Str), ("is_pair" : PySem.Str), ("made_web" : PySem.Str), ("_law_nth" : PySem.Str), ("_law_pot" : PySem.Str), ("_law_take" : PySem.Str), ("_law_pair" : PySem.Str), ("_law_pairs" : PySem.Str), ("_law_is_whole" : PySem.Str), ("_law_is_pair" : PySem.Str), ("_law_odd" : PySem.Str), ("_law_no_places" : PySem.Str), ("_law_is_other" : PySem.Str), ("_law_words" : PySem.Str), ("_law_told" : PySem.Str)]
def fn : List He.DefD := [d_is_whole, d_is_place, d_is_pair, d_made_web, d_nth, d_pot, d_take, d_pair, d_pairs, d_l_is_whole, d_l_is_pair, d_odd, d_no_places, d_is_other, d_words, d_told, d_law, d_NoTie___init__]
def fa : List He.Fa := [.glo "is_whole", .glo "is_place", .glo "is_pair", .glo "made_web", .glo "_law_nth", .glo "_law_pot", .glo "_law_take", .glo "_law_pair", .glo "_law_pairs", .glo "_law_is_whole", .glo "_law_is_pair", .glo "_law_odd", .glo "_law_no_places", .glo "_law_is_other", .glo "_law_words", .glo "_law_told", .glo "law", .free "isinstance", .free "int", .free "bool", .free "tuple", .free "len", .free "min", .free "max", .free "enumerate", .free "repr", .free "range", .free "divmod", .free "abs", .free "ValueError", .int "MOST_PLACES" 9, .int "MOST_TIES" 30, .noat "NoTie" "at", .glo "TreeError", .glo "NoWeb", .glo "TooMany", .glo "NoTie", .glo "NoSuch", .glo "NoCount", .glo "NoPlace", .glo "NoMost", .glo "NoTrees", .glo "NoStrengths", .glo "NoSpreads", .glo "Held", .glo "NotHeld", .glo "NoDeed", .glo "NoRow", .glo "NoName", .exc "NoWeb", .exc "TooMany"]
abbrev R : PySem.W.OpenRow := PySem.W.OpenLaw.row PySem.Challenge.rw_treesapart_k12_no_webs
abbrev hk : PySem.W.Hook := Tsa.hookXS 5 fa fn (xfB2 XC XN XO)
def ob (s : PySem.W.SharedT) : Tsa.AlX_ := Tsa.obsXS 5 fa fn (xfB2 XC XN XO) (HandSHeadRun.getT s)
theorem ob_eq (s : PySem.W.SharedT) : ob s = hk.obs s.abs := Tsa.obsXS_eq (HandSHeadRun.getT_eq s)
theorem run (w : World) : HandSHeadRun.RunEq R (PySem.W.view R.prog [37]) hk ob 6000 names w := by
  intro os
  kernel_rfl

end HD

namespace HD
open PySem PySem.Spec PyProof.Rows L2 Tsa
/-! -/
abbrev eT2II : Int × Int → PyData := fun p => .tuple [PyData.int p.1, PyData.int p.2]
def m_is_whole (thing : Int) : Res Bool := .ok (true && (!false))
theorem m_is_whole_nex (thing : Int) : ∀ e, m_is_whole thing ≠ .ex e := nex_ok
theorem sc_is_whole : FnScope ["thing"] ["thing"] (defScope s_is_whole) := ⟨rfl, rfl, rfl, by decide +kernel, rfl, by decide +kernel, by decide +kernel⟩
section
variable {P : Program} {w : World} {K : PySem.W.Frag} {mg : Str → Option Value} {base : Heap} {f : Addr} {fd : FuncData}
theorem g_is_whole (F : FnP K "is_whole" s_is_whole f fd) (m : Md K mg) : FnG P w K mg base 1 f fd ["thing"] (SpM K (fun a : Int => [.val (PyData.int a)]) (fun a => m_is_whole a) (fun _ r => .val (PyData.bool r)) (fun _ r => [.hole]) (fun _ => [.hole])) := by
  refine fnG_of (n := 0) F sc_is_whole (fun _ => rfl) rfl (fun _ _ => .val) (fun _ _ => (.cons .hole .nil)) (fun _ => (.cons .hole .nil)) (fun a e h => absurd h (m_is_whole_nex _ e)) fun cdv A outer s H vs E G thing hvs B => ?_
  match vs, hvs with
  | [_], _ => ?_
  refine ⟨[.val (PyData.int thing)], [.hole], fun r => [.hole], (.keep .nil), fun _ => (.hole .nil), (.hole .nil), ?_⟩
  show JL _ _ [.val (PyData.int thing)] _ _ _ _
  exact JL.cons (JS.ret (JE.tot (JVt.and (JE.isi m.isinstance m.int (JE.var (i := 0) rfl ⟨.inl ⟨_, rfl⟩, _, _, (.own .val), isi_int _, ⟨rfl, rfl⟩⟩)) fun _ => (JE.one (JVt.not (JE.isi m.isinstance m.bool (JE.var (i := 0) rfl ⟨.inl ⟨_, rfl⟩, _, _, (.own .val), isi_bool _, ⟨rfl, rfl⟩⟩))))) ⟨(true && (!false)), _, _, rfl, rfl, rfl, (by exact (.drop .nil))⟩))
end
theorem h_is_whole {X : Cx} (m : Md X.K X.mg) : Has X "is_whole" 1 (fun a : Int => [.val (PyData.int a)]) (fun a => m_is_whole a) (fun _ r => .val (PyData.bool r)) (fun _ r => [.hole]) (fun _ => [.hole]) :=
  has_of (ps := ["thing"]) m.f_is_whole (fun f fd F => g_is_whole F m) (fun f fd F => F.bindsN fun _ _ _ _ _ _ us hl => match us, hl with | [_], _ => rfl) (fun _ _ => .val) (fun _ _ => (.cons .hole .nil)) (fun _ => (.cons .hole .nil)) (fun a e h => absurd h (m_is_whole_nex _ e))
def m_is_whole_2 (thing : PyData) : Res Bool := .ok ((isIntD thing) && (!(isBoolD thing)))
theorem m_is_whole_2_nex (thing : PyData) : ∀ e, m_is_whole_2 thing ≠ .ex e := nex_ok
theorem sc_is_whole_2 : FnScope ["thing"] ["thing"] (defScope s_is_whole) := ⟨rfl, rfl, rfl, by decide +kernel, rfl, by decide +kernel, by decide +kernel⟩
section
variable {P : Program} {w : World} {K : PySem.W.Frag} {mg : Str → Option Value} {base : Heap} {f : Addr} {fd : FuncData}
theorem g_is_whole_2 (F : FnP K "is_whole" s_is_whole f fd) (m : Md K mg) : FnG P w K mg base 1 f fd ["thing"] (SpM K (fun a : PyData => [.val (eX a)]) (fun a => m_is_whole_2 a) (fun _ r => .val (PyData.bool r)) (fun _ r => [.hole]) (fun _ => [.hole])) := by
  refine fnG_of (n := 0) F sc_is_whole_2 (fun _ => rfl) rfl (fun _ _ => .val) (fun _ _ => (.cons .hole .nil)) (fun _ => (.cons .hole .nil)) (fun a e h => absurd h (m_is_whole_2_nex _ e)) fun cdv A outer s H vs E G thing hvs B => ?_
  match vs, hvs with
  | [_], _ => ?_
  refine ⟨[.val (eX thing)], [.hole], fun r => [.hole], (.keep .nil), fun _ => (.hole .nil), (.hole .nil), ?_⟩
  show JL _ _ [.val (eX thing)] _ _ _ _
  exact JL.cons (JS.ret (JE.tot (JVt.and (JE.isi m.isinstance m.int (JE.var (i := 0) rfl ⟨.inl ⟨_, rfl⟩, _, _, (.own .val), isi_int _, ⟨rfl, rfl⟩⟩)) fun _ => (JE.one (JVt.not (JE.isi m.isinstance m.bool (JE.var (i := 0) rfl ⟨.inl ⟨_, rfl⟩, _, _, (.own .val), isi_bool _, ⟨rfl, rfl⟩⟩))))) ⟨((isIntD thing) && (!(isBoolD thing))), _, _, rfl, rfl, rfl, (by exact (.drop .nil))⟩))
end
theorem h_is_whole_2 {X : Cx} (m : Md X.K X.mg) : Has X "is_whole" 1 (fun a : PyData => [.val (eX a)]) (fun a => m_is_whole_2 a) (fun _ r => .val (PyData.bool r)) (fun _ r => [.hole]) (fun _ => [.hole]) :=
  has_of (ps := ["thing"]) m.f_is_whole (fun f fd F => g_is_whole_2 F m) (fun f fd F => F.bindsN fun _ _ _ _ _ _ us hl => match us, hl with | [_], _ => rfl) (fun _ _ => .val) (fun _ _ => (.cons .hole .nil)) (fun _ => (.cons .hole .nil)) (fun a e h => absurd h (m_is_whole_2_nex _ e))
def m_is_place (places : Int) (thing : Int) : Res Bool := ((m_is_whole thing).bind fun r => cond r (.ok (decide (0 ≤ thing) && decide (thing < places))) (.ok false)).bind fun c => .ok c
theorem m_is_place_nex (places : Int) (thing : Int) : ∀ e, m_is_place places thing ≠ .ex e := nex_bind (nex_bind (m_is_whole_nex _) fun _ => nex_cond (nex_ok) (nex_ok)) fun _ => nex_ok
theorem sc_is_place : FnScope ["places", "thing"] ["places", "thing"] (defScope s_is_place) := ⟨rfl, rfl, rfl, by decide +kernel, rfl, by decide +kernel, by decide +kernel⟩
section
variable {P : Program} {w : World} {K : PySem.W.Frag} {mg : Str → Option Value} {base : Heap} {f : Addr} {fd : FuncData}
theorem g_is_place (F : FnP K "is_place" s_is_place f fd) (m : Md K mg) : FnG P w K mg base 2 f fd ["places", "thing"] (SpM K (fun a : Int × Int => [.val (PyData.int a.1), .val (PyData.int a.2)]) (fun a => m_is_place a.1 a.2) (fun _ r => .val (PyData.bool r)) (fun _ r => [.hole, .hole]) (fun _ => [.hole, .hole])) := by
  refine fnG_of (n := 0) F sc_is_place (fun _ => rfl) rfl (fun _ _ => .val) (fun _ _ => (.cons .hole (.cons .hole .nil))) (fun _ => (.cons .hole (.cons .hole .nil))) (fun a e h => absurd h (m_is_place_nex _ _ e)) fun cdv A outer s H vs E G a hvs B => ?_
  obtain ⟨places, thing⟩ := a
  match vs, hvs with
  | [_, _], _ => ?_
  refine ⟨[.val (PyData.int places), .val (PyData.int thing)], [.hole, .hole], fun r => [.hole, .hole], (.keep (.keep .nil)), fun _ => (.hole (.hole .nil)), (.hole (.hole .nil)), ?_⟩
  show JL _ _ [.val (PyData.int places), .val (PyData.int thing)] _ _ _ _
  exact JL.cons (JS.ret (JE.runV (m := (m_is_whole thing).bind fun r => cond r (.ok (decide (0 ≤ thing) && decide (thing < places))) (.ok false)) (f := fun b => .val (.bool b)) (Δ := fun _ => [.val (PyData.int places), .val (PyData.int thing)]) rfl (JE.and (JE.callN (h_is_whole m) (B.room.mono (by decide)) B.pass (JA.one (JE.var (i := 1) rfl (Args.plain thing _ [false] (.own .nil) rfl rfl rfl (fun e z => absurd z (m_is_whole_nex _ e)) fun r _ => ⟨_, rfl, _, _, rfl, fun _ => JE.one (JE.tot (JVt.chain .le .lt (JE.int ⟨rfl, rfl⟩) (JE.var (i := 1) rfl ⟨rfl, rfl⟩) (JE.var (i := 0) rfl ⟨rfl, rfl⟩)) ⟨_, rfl, rfl, rfl⟩), fun _ => ⟨_, rfl, rfl, rfl⟩⟩))))) fun c _ => ⟨c, _, _, rfl, rfl, rfl, (by exact (.drop (.drop .nil)))⟩))
end
theorem h_is_place {X : Cx} (m : Md X.K X.mg) : Has X "is_place" 2 (fun a : Int × Int => [.val (PyData.int a.1), .val (PyData.int a.2)]) (fun a => m_is_place a.1 a.2) (fun _ r => .val (PyData.bool r)) (fun _ r => [.hole, .hole]) (fun _ => [.hole, .hole]) :=
  has_of (ps := ["places", "thing"]) m.f_is_place (fun f fd F => g_is_place F m) (fun f fd F => F.bindsN fun _ _ _ _ _ _ us hl => match us, hl with | [_, _], _ => rfl) (fun _ _ => .val) (fun _ _ => (.cons .hole (.cons .hole .nil))) (fun _ => (.cons .hole (.cons .hole .nil))) (fun a e h => absurd h (m_is_place_nex _ _ e))
def m_is_place_2 (places : Int) (thing : PyData) : Res Bool := ((m_is_whole_2 thing).bind fun r => cond r ((xint thing).bind fun n => .ok (decide (0 ≤ n) && decide (n < places))) (.ok false)).bind fun c => .ok c
theorem m_is_place_2_nex (places : Int) (thing : PyData) : ∀ e, m_is_place_2 places thing ≠ .ex e := nex_bind (nex_bind (m_is_whole_2_nex _) fun _ => nex_cond (nex_bind xint_nex fun _ => nex_ok) (nex_ok)) fun _ => nex_ok
theorem sc_is_place_2 : FnScope ["places", "thing"] ["places", "thing"] (defScope s_is_place) := ⟨rfl, rfl, rfl, by decide +kernel, rfl, by decide +kernel, by decide +kernel⟩
section
variable {P : Program} {w : World} {K : PySem.W.Frag} {mg : Str → Option Value} {base : Heap} {f : Addr} {fd : FuncData}
theorem g_is_place_2 (F : FnP K "is_place" s_is_place f fd) (m : Md K mg) : FnG P w K mg base 2 f fd ["places", "thing"] (SpM K (fun a : Int × PyData => [.val (PyData.int a.1), .val (eX a.2)]) (fun a => m_is_place_2 a.1 a.2) (fun _ r => .val (PyData.bool r)) (fun _ r => [.hole, .hole]) (fun _ => [.hole, .hole])) := by
  refine fnG_of (n := 0) F sc_is_place_2 (fun _ => rfl) rfl (fun _ _ => .val) (fun _ _ => (.cons .hole (.cons .hole .nil))) (fun _ => (.cons .hole (.cons .hole .nil))) (fun a e h => absurd h (m_is_place_2_nex _ _ e)) fun cdv A outer s H vs E G a hvs B => ?_
  obtain ⟨places, thing⟩ := a
  match vs, hvs with
  | [_, _], _ => ?_
  refine ⟨[.val (PyData.int places), .val (eX thing)], [.hole, .hole], fun r => [.hole, .hole], (.keep (.keep .nil)), fun _ => (.hole (.hole .nil)), (.hole (.hole .nil)), ?_⟩
  show JL _ _ [.val (PyData.int places), .val (eX thing)] _ _ _ _
  exact JL.cons (JS.ret (JE.runV (m := (m_is_whole_2 thing).bind fun r => cond r ((xint thing).bind fun n => .ok (decide (0 ≤ n) && decide (n < places))) (.ok false)) (f := fun b => .val (.bool b)) (Δ := fun _ => [.val (PyData.int places), .val (eX thing)]) rfl (JE.and (JE.callN (h_is_whole_2 m) (B.room.mono (by decide)) B.pass (JA.one (JE.var (i := 1) rfl (Args.plain thing _ [false] (.own .nil) rfl rfl rfl (fun e z => absurd z (m_is_whole_2_nex _ e)) fun r _ => ⟨_, rfl, _, _, rfl, fun _ => JE.one (JE.xrefV (Γf := fun y => [.val (PyData.int places), .val (eX y)]) fun n => JE.tot (JVt.chain .le .lt (JE.int ⟨rfl, rfl⟩) (JE.var (i := 1) rfl ⟨rfl, rfl⟩) (JE.var (i := 0) rfl ⟨rfl, rfl⟩)) ⟨rfl, ⟨_, rfl, rfl, rfl⟩⟩), fun _ => ⟨_, rfl, rfl, rfl⟩⟩))))) fun c _ => ⟨c, _, _, rfl, rfl, rfl, (by exact (.drop (.drop .nil)))⟩))
end
theorem h_is_place_2 {X : Cx} (m : Md X.K X.mg) : Has X "is_place" 2 (fun a : Int × PyData => [.val (PyData.int a.1), .val (eX a.2)]) (fun a => m_is_place_2 a.1 a.2) (fun _ r => .val (PyData.bool r)) (fun _ r => [.hole, .hole]) (fun _ => [.hole, .hole]) :=
  has_of (ps := ["places", "thing"]) m.f_is_place (fun f fd F => g_is_place_2 F m) (fun f fd F => F.bindsN fun _ _ _ _ _ _ us hl => match us, hl with | [_, _], _ => rfl) (fun _ _ => .val) (fun _ _ => (.cons .hole (.cons .hole .nil))) (fun _ => (.cons .hole (.cons .hole .nil))) (fun a e h => absurd h (m_is_place_2_nex _ _ e))
def m_is_pair (places : Int) (thing : Int × Int) : Res Bool := cond ((!true) || (!decide (2 = 2))) (.ok false) (((m_is_place places thing.1).bind fun r => cond r ((m_is_place places thing.2).bind fun r_2 => cond r_2 (.ok (!decide (thing.1 = thing.2))) (.ok false)) (.ok false)).bind fun c => .ok c)
theorem m_is_pair_nex (places : Int) (thing : Int × Int) : ∀ e, m_is_pair places thing ≠ .ex e := nex_cond (nex_ok) (nex_bind (nex_bind (m_is_place_nex _ _) fun _ => nex_cond (nex_bind (m_is_place_nex _ _) fun _ => nex_cond (nex_ok) (nex_ok)) (nex_ok)) fun _ => nex_ok)
theorem sc_is_pair : FnScope ["places", "thing"] ["places", "thing"] (defScope s_is_pair) := ⟨rfl, rfl, rfl, by decide +kernel, rfl, by decide +kernel, by decide +kernel⟩
section
variable {P : Program} {w : World} {K : PySem.W.Frag} {mg : Str → Option Value} {base : Heap} {f : Addr} {fd : FuncData}
theorem g_is_pair (F : FnP K "is_pair" s_is_pair f fd) (m : Md K mg) : FnG P w K mg base 3 f fd ["places", "thing"] (SpM K (fun a : Int × (Int × Int) => [.val (PyData.int a.1), .val (eT2II a.2)]) (fun a => m_is_pair a.1 a.2) (fun _ r => .val (PyData.bool r)) (fun _ r => [.hole, .hole]) (fun _ => [.hole, .hole])) := by
  refine fnG_of (n := 0) F sc_is_pair (fun _ => rfl) rfl (fun _ _ => .val) (fun _ _ => (.cons .hole (.cons .hole .nil))) (fun _ => (.cons .hole (.cons .hole .nil))) (fun a e h => absurd h (m_is_pair_nex _ _ e)) fun cdv A outer s H vs E G a hvs B => ?_
  obtain ⟨places, thing⟩ := a
  match vs, hvs with
  | [_, _], _ => ?_
  refine ⟨[.val (PyData.int places), .val (eT2II thing)], [.hole, .hole], fun r => [.hole, .hole], (.keep (.keep .nil)), fun _ => (.hole (.hole .nil)), (.hole (.hole .nil)), ?_⟩
  show JL _ _ [.val (PyData.int places), .val (eT2II thing)] _ _ _ _
  refine JL.cons (JS.ite (JC.tot (JCt.bop (JWt.or (JCt.not (JCt.val (JE.isi m.isinstance m.tuple (JE.var (i := 1) rfl ⟨.inl ⟨_, rfl⟩, _, _, (.own .val), isi_tuple _, ⟨rfl, rfl⟩⟩)))) fun _ => (JWt.or1 (JCt.cmp (Cmp.neI (JE.len m.len (JE.var (i := 1) rfl ⟨2, (.seq (.own .tup) rfl), ⟨_, rfl, JE.int ⟨_, rfl, ⟨rfl, rfl⟩⟩⟩⟩))))))) ⟨_, _, rfl, fun _ => ?h1, fun _ => ?h2⟩))
  case h1 =>
    exact JL.cons (JS.ret (JE.bl ⟨false, _, _, rfl, rfl, rfl, (by exact (.drop (.drop .nil)))⟩))
  case h2 =>
    refine JL.nil ?_
    show JL _ _ [.val (PyData.int places), .val (eT2II thing)] _ _ _ _
    exact JL.cons (JS.ret (JE.runV (m := (m_is_place places thing.1).bind fun r => cond r ((m_is_place places thing.2).bind fun r_2 => cond r_2 (.ok (!decide (thing.1 = thing.2))) (.ok false)) (.ok false)) (f := fun b => .val (.bool b)) (Δ := fun _ => [.val (PyData.int places), .val (eT2II thing)]) rfl (JE.and (JE.callN (h_is_place m) (B.room.mono (by decide)) B.pass (JA.cons (pt := false) (JE.var (i := 0) rfl ⟨.inl ⟨_, rfl⟩, fun z => z, JA.one (JE.ixT (JE.var (i := 1) rfl ⟨.inl ⟨_, rfl⟩, _, _, .own (.tup (ds := [PyData.int thing.1, PyData.int thing.2])), rfl, Args.plain (places, thing.1) _ [false, false] (.own (.own .nil)) rfl rfl rfl (fun e z => absurd z (m_is_place_nex _ _ e)) fun r _ => ⟨_, rfl, _, _, rfl, fun _ => JE.and (JE.callN (h_is_place m) (B.room.mono (by decide)) B.pass (JA.cons (pt := false) (JE.var (i := 0) rfl ⟨.inl ⟨_, rfl⟩, fun z => z, JA.one (JE.ixT (JE.var (i := 1) rfl ⟨.inl ⟨_, rfl⟩, _, _, .own (.tup (ds := [PyData.int thing.1, PyData.int thing.2])), rfl, Args.plain (places, thing.2) _ [false, false] (.own (.own .nil)) rfl rfl rfl (fun e z => absurd z (m_is_place_nex _ _ e)) fun r_2 _ => ⟨_, rfl, _, _, rfl, fun _ => JE.one (JE.tot (JE.cmp (Cmp.neI (JE.ixT (JE.var (i := 1) rfl ⟨.inl ⟨_, rfl⟩, _, _, .own (.tup (ds := [PyData.int thing.1, PyData.int thing.2])), rfl, ⟨_, rfl, JE.ixT (JE.var (i := 1) rfl ⟨.inl ⟨_, rfl⟩, _, _, .own (.tup (ds := [PyData.int thing.1, PyData.int thing.2])), rfl, ⟨_, rfl, ⟨rfl, rfl⟩⟩⟩)⟩⟩)))) ⟨_, rfl, rfl, rfl⟩), fun _ => ⟨_, rfl, rfl, rfl⟩⟩⟩))⟩))), fun _ => ⟨_, rfl, rfl, rfl⟩⟩⟩))⟩)))) fun c _ => ⟨c, _, _, rfl, rfl, rfl, (by exact (.drop (.drop .nil)))⟩))
end
theorem h_is_pair {X : Cx} (m : Md X.K X.mg) : Has X "is_pair" 3 (fun a : Int × (Int × Int) => [.val (PyData.int a.1), .val (eT2II a.2)]) (fun a => m_is_pair a.1 a.2) (fun _ r => .val (PyData.bool r)) (fun _ r => [.hole, .hole]) (fun _ => [.hole, .hole]) :=
  has_of (ps := ["places", "thing"]) m.f_is_pair (fun f fd F => g_is_pair F m) (fun f fd F => F.bindsN fun _ _ _ _ _ _ us hl => match us, hl with | [_, _], _ => rfl) (fun _ _ => .val) (fun _ _ => (.cons .hole (.cons .hole .nil))) (fun _ => (.cons .hole (.cons .hole .nil))) (fun a e h => absurd h (m_is_pair_nex _ _ e))
def m_is_pair_2 (places : Int) (thing : PyData) : Res Bool := (cond (!(isTupD thing)) (.ok true) ((xseq thing).bind fun xs => .ok (!decide ((xs.length : Int) = 2)))).bind fun c => cond c (.ok false) (((xat thing 0).bind fun y => (m_is_place_2 places y).bind fun r => cond r ((xat thing 1).bind fun y_2 => (m_is_place_2 places y_2).bind fun r_2 => cond r_2 ((xat thing 0).bind fun y_3 => (xat thing 1).bind fun y_4 => gd (SeqAt.shaped (eX y_3) = true ∧ SeqAt.shaped (eX y_4) = true) (.ok (!PyData.eqv (eX y_3) (eX y_4)))) (.ok false)) (.ok false)).bind fun c_2 => .ok c_2)
theorem m_is_pair_2_nex (places : Int) (thing : PyData) : ∀ e, m_is_pair_2 places thing ≠ .ex e := nex_bind (nex_cond (nex_ok) (nex_bind xseq_nex fun _ => nex_ok)) fun _ => nex_cond (nex_ok) (nex_bind (nex_bind xat_nex fun _ => nex_bind (m_is_place_2_nex _ _) fun _ => nex_cond (nex_bind xat_nex fun _ => nex_bind (m_is_place_2_nex _ _) fun _ => nex_cond (nex_bind xat_nex fun _ => nex_bind xat_nex fun _ => nex_gd (nex_ok)) (nex_ok)) (nex_ok)) fun _ => nex_ok)
theorem sc_is_pair_2 : FnScope ["places", "thing"] ["places", "thing"] (defScope s_is_pair) := ⟨rfl, rfl, rfl, by decide +kernel, rfl, by decide +kernel, by decide +kernel⟩
section
variable {P : Program} {w : World} {K : PySem.W.Frag} {mg : Str → Option Value} {base : Heap} {f : Addr} {fd : FuncData}
theorem g_is_pair_2 (F : FnP K "is_pair" s_is_pair f fd) (m : Md K mg) : FnG P w K mg base 3 f fd ["places", "thing"] (SpM K (fun a : Int × PyData => [.val (PyData.int a.1), .val (eX a.2)]) (fun a => m_is_pair_2 a.1 a.2) (fun _ r => .val (PyData.bool r)) (fun _ r => [.hole, .hole]) (fun _ => [.hole, .hole])) := by
  refine fnG_of (n := 0) F sc_is_pair_2 (fun _ => rfl) rfl (fun _ _ => .val) (fun _ _ => (.cons .hole (.cons .hole .nil))) (fun _ => (.cons .hole (.cons .hole .nil))) (fun a e h => absurd h (m_is_pair_2_nex _ _ e)) fun cdv A outer s H vs E G a hvs B => ?_
  obtain ⟨places, thing⟩ := a
  match vs, hvs with
  | [_, _], _ => ?_
  refine ⟨[.val (PyData.int places), .val (eX thing)], [.hole, .hole], fun r => [.hole, .hole], (.keep (.keep .nil)), fun _ => (.hole (.hole .nil)), (.hole (.hole .nil)), ?_⟩
  show JL _ _ [.val (PyData.int places), .val (eX thing)] _ _ _ _
  refine JL.cons (JS.ite (JC.all (m := cond (!(isTupD thing)) (.ok true) ((xseq thing).bind fun xs => .ok (!decide ((xs.length : Int) = 2)))) (by first | with_reducible rfl | rfl) (JC.bop (JW.or (JC.tot (JCt.not (JCt.val (JE.isi m.isinstance m.tuple (JE.var (i := 1) rfl ⟨.inl ⟨_, rfl⟩, _, _, (.own .val), isi_tuple _, ⟨rfl, rfl⟩⟩)))) ⟨_, _, rfl, fun _ => ⟨rfl, rfl⟩, fun _ => JW.or1 (JC.cmp (Cmp.neI (JE.lenX m.len (JE.var (i := 1) rfl ⟨thing, _, rfl, rfl, fun xs => ⟨_, rfl, JE.int ⟨_, rfl, ⟨_, rfl, ⟨rfl, rfl⟩⟩⟩⟩⟩))))⟩))) fun c _ => ⟨_, _, rfl, fun _ => ?h1, fun _ => ?h2⟩))
  case h1 =>
    exact JL.cons (JS.ret (JE.bl ⟨false, _, _, rfl, rfl, rfl, (by exact (.drop (.drop .nil)))⟩))
  case h2 =>
    refine JL.nil ?_
    show JL _ _ [.val (PyData.int places), .val (eX thing)] _ _ _ _
    exact JL.cons (JS.ret (JE.runV (m := (xat thing 0).bind fun y => (m_is_place_2 places y).bind fun r => cond r ((xat thing 1).bind fun y_2 => (m_is_place_2 places y_2).bind fun r_2 => cond r_2 ((xat thing 0).bind fun y_3 => (xat thing 1).bind fun y_4 => gd (SeqAt.shaped (eX y_3) = true ∧ SeqAt.shaped (eX y_4) = true) (.ok (!PyData.eqv (eX y_3) (eX y_4)))) (.ok false)) (.ok false)) (f := fun b => .val (.bool b)) (Δ := fun _ => [.val (PyData.int places), .val (eX thing)]) rfl (JE.and (JE.callN (h_is_place_2 m) (B.room.mono (by decide)) B.pass (JA.cons (pt := false) (JE.var (i := 0) rfl ⟨.inl ⟨_, rfl⟩, fun z => z, JA.one (JE.ixX (i := 1) (n := 0) rfl fun y => Args.plain (places, y) _ [false, false] (.own (.own .nil)) rfl rfl rfl (fun e z => absurd z (m_is_place_2_nex _ _ e)) fun r _ => ⟨_, rfl, _, _, rfl, fun _ => JE.and (JE.callN (h_is_place_2 m) (B.room.mono (by decide)) B.pass (JA.cons (pt := false) (JE.var (i := 0) rfl ⟨.inl ⟨_, rfl⟩, fun z => z, JA.one (JE.ixX (i := 1) (n := 1) rfl fun y_2 => Args.plain (places, y_2) _ [false, false] (.own (.own .nil)) rfl rfl rfl (fun e z => absurd z (m_is_place_2_nex _ _ e)) fun r_2 _ => ⟨_, rfl, _, _, rfl, fun _ => JE.one (JE.cmp (Cmp.ne B.room.lines64 (JE.ixX (i := 1) (n := 0) rfl fun y_3 => ⟨.inl ⟨_, rfl⟩, JE.ixX (i := 1) (n := 1) rfl fun y_4 => ⟨eX y_3, eX y_4, _, (.own .val), (.own .val), gd_ok, ⟨_, rfl, rfl, rfl⟩⟩⟩))), fun _ => ⟨_, rfl, rfl, rfl⟩⟩)⟩))), fun _ => ⟨_, rfl, rfl, rfl⟩⟩)⟩)))) fun c_2 _ => ⟨c_2, _, _, rfl, rfl, rfl, (by exact (.drop (.drop .nil)))⟩))
end
theorem h_is_pair_2 {X : Cx} (m : Md X.K X.mg) : Has X "is_pair" 3 (fun a : Int × PyData => [.val (PyData.int a.1), .val (eX a.2)]) (fun a => m_is_pair_2 a.1 a.2) (fun _ r => .val (PyData.bool r)) (fun _ r => [.hole, .hole]) (fun _ => [.hole, .hole]) :=
  has_of (ps := ["places", "thing"]) m.f_is_pair (fun f fd F => g_is_pair_2 F m) (fun f fd F => F.bindsN fun _ _ _ _ _ _ us hl => match us, hl with | [_, _], _ => rfl) (fun _ _ => .val) (fun _ _ => (.cons .hole (.cons .hole .nil))) (fun _ => (.cons .hole (.cons .hole .nil))) (fun a e h => absurd h (m_is_pair_2_nex _ _ e))
end HD

namespace HD
open PySem PySem.Spec PyProof.Rows L2 Tsa
/-! -/
abbrev eWT2II : List (Int × Int) → PyData := fun xs => .tuple (xs.map eT2II)
abbrev eT2IWT2II : Int × (List (Int × Int)) → PyData := fun p => .tuple [PyData.int p.1, eWT2II p.2]
abbrev eLX : List PyData → PyData := fun xs => .list (xs.map eX)
abbrev eWX : List PyData → PyData := fun xs => .tuple (xs.map eX)

def m_NoTie___init__ (at' : Int) : Res (Unit × Int) := .ok ((), at')
theorem m_NoTie___init___nex (at' : Int) : ∀ e, m_NoTie___init__ at' ≠ .ex e := nex_ok
theorem sc_NoTie___init__ : FnScope ["self", "at"] ["self", "at"] (defScope s_NoTie___init__) := ⟨rfl, rfl, rfl, by decide +kernel, rfl, by decide +kernel, by decide +kernel⟩
section
variable {P : Program} {w : World} {K : PySem.W.Frag} {mg : Str → Option Value} {base : Heap} {f : Addr} {fd : FuncData}
theorem g_NoTie___init__ (F : FnM K "__init__" "NoTie.__init__" s_NoTie___init__ f fd) (m : Md K mg) : FnG P w K mg base 1 f fd ["self", "at"] (SpM K (fun a : Int => [exN (He.ga K "NoTie"), .val (PyData.int a)]) (fun a => m_NoTie___init__ a) (fun _ _ => .val .none) (fun _ r => [.exo (He.ga K "NoTie") [("at", .val (PyData.int r.2))], .hole]) (fun _ => [.hole, .hole])) := by
  refine fnG_of (n := 0) F sc_NoTie___init__ (fun _ => rfl) rfl (fun _ _ => .val) (fun _ _ => .cons (NR.exo (NRF.cons .val .nil)) (.cons .hole .nil)) (fun _ => .cons .hole (.cons .hole .nil)) (fun a e h => absurd h (m_NoTie___init___nex _ e)) fun cdv A outer s H vs E G at' hvs B => ?_
  match vs, hvs with
  | [v0, _], _ => ?_
  refine ⟨[.pin v0 (exN (He.ga K "NoTie")), .val (PyData.int at')], [.hole, .hole], fun r => [.pin v0 (.exo (He.ga K "NoTie") [("at", .val (PyData.int r.2))]), .hole], (.pin (.keep .nil)), fun _ => (.pin (.hole .nil)), (.hole (.hole .nil)), ?_⟩
  show JL _ _ [.pin v0 (exN (He.ga K "NoTie")), .val (PyData.int at')] _ _ _ _
  refine JL.cons (JS.expr (JE.teinit (i := 0) m.cn_TreeError m.xb m.xo_NoTie.o rfl ?_))
  show JL _ _ [.pin v0 (exN (He.ga K "NoTie")), .val (PyData.int at')] _ _ _ _
  exact JL.cons (JS.oset (i := 0) m.xo_NoTie.o m.no_NoTie_at (JE.var (i := 1) rfl ⟨_, rfl, rfl, JL.nil ⟨((), at'), rfl, rfl, (.same (.drop .nil))⟩⟩))
end
theorem h_NoTie___init__ {X : Cx} (m : Md X.K X.mg) : HasI X "NoTie" 1 (fun a : Int => .val (PyData.int a)) (fun a => m_NoTie___init__ a) (fun _ r => [("at", .val (PyData.int r.2))]) := by
  obtain ⟨fd, F⟩ := m.f_NoTie___init__
  exact ⟨m.cn_NoTie, m.xo_NoTie, ⟨fd, ["self", "at"], g_NoTie___init__ F m, F.bindsN fun _ _ _ _ _ _ us hl => match us, hl with | [_, _], _ => rfl⟩, fun _ _ => (NRF.cons .val .nil), fun _ => m_NoTie___init___nex _⟩
def f_made_web_1 (places : Int) (x : (Int × Int) × Nat) : Res Unit := ((m_is_pair places x.1).bind fun r_2 => .ok (!r_2)).bind fun c_2 => cond c_2 (.un) (.ok ())
def m_made_web (places : Int) (ties : List (Int × Int)) : Res (Int × (List (Int × Int))) := ((m_is_whole places).bind fun r => cond (!r) (.ok true) (.ok (!(decide (1 ≤ places) && decide (places ≤ 9))))).bind fun c => cond c (.un) (cond (decide (30 < (ties.length : Int))) (.un) ((forS (fun x' _ => f_made_web_1 places x') (ties.zipIdx) ()).bind fun _ => .ok (places, (ties.map fun x_2 => ((min x_2.1 x_2.2), (max x_2.1 x_2.2))))))
theorem m_made_web_nex (places : Int) (ties : List (Int × Int)) : ∀ e, m_made_web places ties ≠ .ex e := nex_bind (nex_bind (m_is_whole_nex _) fun _ => nex_cond (nex_ok) (nex_ok)) fun _ => nex_cond (nex_un) (nex_cond (nex_un) (nex_bind (forS_nex (fun _ _ => nex_bind (nex_bind (m_is_pair_nex _ _) fun _ => nex_ok) fun _ => nex_cond (nex_un) (nex_ok)) _ _) fun _ => nex_ok))
theorem sc_made_web : FnScope ["places", "ties", "at", "pair"] ["places", "ties"] (defScope s_made_web) := ⟨rfl, rfl, rfl, by decide +kernel, rfl, by decide +kernel, by decide +kernel⟩
section
variable {P : Program} {w : World} {K : PySem.W.Frag} {mg : Str → Option Value} {base : Heap} {f : Addr} {fd : FuncData}
theorem g_made_web (F : FnP K "made_web" s_made_web f fd) (m : Md K mg) : FnG P w K mg base 4 f fd ["places", "ties"] (SpM K (fun a : Int × (List (Int × Int)) => [.val (PyData.int a.1), .val (eWT2II a.2)]) (fun a => m_made_web a.1 a.2) (fun _ r => .val (eT2IWT2II r)) (fun _ r => [.hole, .hole]) (fun _ => [.hole, .hole])) := by
  refine fnG_of (n := 2) F sc_made_web (fun _ => rfl) rfl (fun _ _ => .val) (fun _ _ => (.cons .hole (.cons .hole .nil))) (fun _ => (.cons .hole (.cons .hole .nil))) (fun a e h => absurd h (m_made_web_nex _ _ e)) fun cdv A outer s H vs E G a hvs B => ?_
  obtain ⟨places, ties⟩ := a
  match vs, hvs with
  | [_, _], _ => ?_
  refine ⟨[.val (PyData.int places), .val (eWT2II ties)], [.hole, .hole, .hole, .hole], fun r => [.hole, .hole, .hole, .hole], (.keep (.keep .nil)), fun _ => (.hole (.hole .nil)), (.hole (.hole .nil)), ?_⟩
  show JL _ _ [.val (PyData.int places), .val (eWT2II ties), .hole, .hole] _ _ _ _
  refine JL.cons (JS.ite (JC.all (m := (m_is_whole places).bind fun r => cond (!r) (.ok true) (.ok (!(decide (1 ≤ places) && decide (places ≤ 9))))) (by first | with_reducible rfl | rfl) (JC.bop (JW.or (JC.not (JC.val (JE.callN (h_is_whole m) (B.room.mono (by decide)) B.pass (JA.one (JE.var (i := 0) rfl (Args.plain places _ [false] (.own .nil) rfl rfl rfl (fun e z => absurd z (m_is_whole_nex _ e)) fun r _ => ⟨_, rfl, ⟨_, _, rfl, fun _ => ⟨rfl, rfl⟩, fun _ => JW.or1 (JC.tot (JCt.not (JCt.chain .le .le (JE.int ⟨rfl, rfl⟩) (JE.var (i := 0) rfl ⟨rfl, rfl⟩) (JE.globI m.c_MOST_PLACES ⟨rfl, rfl⟩))) ⟨rfl, rfl⟩)⟩⟩)))))))) fun c _ => ⟨_, _, rfl, fun _ => ?h1, fun _ => ?h2⟩))
  case h1 =>
    exact JL.cons (JST.un rfl)
  case h2 =>
    refine JL.nil ?_
    show JL _ _ [.val (PyData.int places), .val (eWT2II ties), .hole, .hole] _ _ _ _
    refine JL.cons (JS.ite (JC.tot (JCt.cmp (Cmp.gt (JE.len m.len (JE.var (i := 1) rfl ⟨ties.length, (.seq (.own (soW (xs := ties) (e := eT2II))) (List.length_map _)), ⟨_, rfl, JE.globI m.c_MOST_TIES ⟨_, rfl, ⟨rfl, rfl⟩⟩⟩⟩)))) ⟨_, _, rfl, fun _ => ?h3, fun _ => ?h4⟩))
    case h3 =>
      exact JL.cons (JST.un rfl)
    case h4 =>
      refine JL.nil ?_
      show JL _ _ [.val (PyData.int places), .val (eWT2II ties), .hole, .hole] _ _ _ _
      refine JL.cons (JS.forS B.own B.calm (JSrc.enW m.enumerate (JE.var (i := 1) rfl ⟨_, ties, rfl, (soW (xs := ties) (e := eT2II)), ⟨(Int × Int) × Nat, Unit, (ties.zipIdx), fun q => .val (.tuple [.int (q.2 : Nat), eT2II q.1]), fun x' _ => f_made_web_1 places x', (), fun (_ : Unit) => [.val (PyData.int places), .val (eWT2II ties), .hole, .hole], _, rfl, rfl, (.same (.same (.drop (.drop .nil)))), fun x _ => ?h5, fun _ => ?h6⟩⟩)))
      case h5 =>
        refine JG.tupV B.calm (JGs.cons (JG.name (i := 2) (JGs.cons (JG.name (i := 3) (JGs.nil ?_) sc_made_web.nd)) sc_made_web.nd))
        show JL _ _ [.val (PyData.int places), .val (eWT2II ties), .val (PyData.int (x.2 : Int)), .val (eT2II x.1)] _ _ _ _
        refine JL.cons (JS.ite (JC.all (m := (m_is_pair places x.1).bind fun r_2 => .ok (!r_2)) (by first | with_reducible rfl | rfl) (JC.not (JC.val (JE.callN (h_is_pair m) (B.room.mono (by decide)) B.pass (JA.cons (pt := false) (JE.var (i := 0) rfl ⟨.inl ⟨_, rfl⟩, fun z => z, JA.one (JE.var (i := 3) rfl (Args.plain (places, x.1) _ [false, false] (.own (.own .nil)) rfl rfl rfl (fun e z => absurd z (m_is_pair_nex _ _ e)) fun r_2 _ => ⟨_, rfl, ⟨rfl, rfl⟩⟩))⟩))))) fun c_2 _ => ⟨_, _, rfl, fun _ => ?h7, fun _ => ?h8⟩))
        case h7 =>
          exact JL.cons (JST.un rfl)
        case h8 =>
          refine JL.nil ?_
          exact JL.nil ⟨(), rfl, (.same (.same (.drop (.drop .nil))))⟩
      case h6 =>
        show JL _ _ [.val (PyData.int places), .val (eWT2II ties), .hole, .hole] _ _ _ _
        exact JL.cons (JS.ret (JT.frz (JE.tupD (JA.cons (pt := false) (JE.var (i := 0) rfl ⟨.inl ⟨_, rfl⟩, fun z => z, JA.one (JT.frz (JE.tupleL m.tuple (JE.ofLc (own' := [("pair", 3)]) B.calm sc_made_web.nd (blkOk_by (by kernel_rfl)) (JT.compP (sd := fun x => .val (eT2II x)) (g := fun x_2 => ((min x_2.1 x_2.2), (max x_2.1 x_2.2))) (se := fun y => .val (eT2II y)) (JSrc.tup (JE.var (i := 1) rfl ⟨_, _, rfl, (soW (xs := ties) (e := eT2II)), ⟨ties, rfl, (.hole rfl .nil), fun x_2 => ⟨[.val (PyData.int places), .val (eWT2II ties), .hole, .val (eT2II x_2)], Le.refl, fun s H Ca cl fp => JG.name (i := 3) rfl sc_made_web.nd, fun s H Ca cl fp => JT.frz (JE.tupD (JA.cons (pt := true) (JE.leastP B.room B.calm m.min (JE.var (i := 3) rfl ⟨rfl, ⟨.inl ⟨_, rfl⟩, fun z => z, JA.one (JE.mostP B.room B.calm m.max (JE.var (i := 3) rfl ⟨rfl, ⟨[_, _], rfl, Nat.le_of_ble_eq_true rfl, _, _, rfl, .tup (.cons .val (.cons .val .nil)), ⟨rfl, rfl⟩⟩⟩))⟩⟩))))⟩, ⟨_, (.own (soM (xs := (ties.map fun x_2 => ((min x_2.1 x_2.2), (max x_2.1 x_2.2)))) (e := eT2II))), _, _, rfl, .tup (.map fun _ => .val), ⟨[_, _], rfl, Nat.le_of_ble_eq_true rfl, _, _, rfl, .tup (.cons .val (.cons .val .nil)), ⟨(places, (ties.map fun x_2 => ((min x_2.1 x_2.2), (max x_2.1 x_2.2)))), _, _, rfl, rfl, rfl, by exact (.drop (.drop (.drop (.drop .nil))))⟩⟩⟩⟩⟩))))))⟩)))))
end
theorem h_made_web {X : Cx} (m : Md X.K X.mg) : Has X "made_web" 4 (fun a : Int × (List (Int × Int)) => [.val (PyData.int a.1), .val (eWT2II a.2)]) (fun a => m_made_web a.1 a.2) (fun _ r => .val (eT2IWT2II r)) (fun _ r => [.hole, .hole]) (fun _ => [.hole, .hole]) :=
  has_of (ps := ["places", "ties"]) m.f_made_web (fun f fd F => g_made_web F m) (fun f fd F => F.bindsN fun _ _ _ _ _ _ us hl => match us, hl with | [_, _], _ => rfl) (fun _ _ => .val) (fun _ _ => (.cons .hole (.cons .hole .nil))) (fun _ => (.cons .hole (.cons .hole .nil))) (fun a e h => absurd h (m_made_web_nex _ _ e))
def f_made_web_2_1 (places_2 : Int) (x : (Int × Int) × Nat) : Res Unit := ((m_is_pair places_2 x.1).bind fun r_2 => .ok (!r_2)).bind fun c_2 => cond c_2 ((m_NoTie___init__ (x.2 : Int)).bind fun r_3 => .ex ⟨"NoTie", [("at", .val (PyData.int r_3.2))]⟩) (.ok ())
def m_made_web_2 (places : PyData) (ties : List (Int × Int)) : Res (Int × (List (Int × Int))) := ((m_is_whole_2 places).bind fun r => cond (!r) (.ok true) ((xint places).bind fun n => .ok (!(decide (1 ≤ n) && decide (n ≤ 9))))).bind fun c => cond c (.ex ⟨"NoWeb", []⟩) ((xint places).bind fun places_2 => cond (decide (30 < (ties.length : Int))) (.ex ⟨"TooMany", []⟩) ((forS (fun x' _ => f_made_web_2_1 places_2 x') (ties.zipIdx) ()).bind fun _ => .ok (places_2, (ties.map fun x_2 => ((min x_2.1 x_2.2), (max x_2.1 x_2.2))))))
theorem m_made_web_2_rx (places : PyData) (ties : List (Int × Int)) : ∀ e, m_made_web_2 places ties = .ex e → xok XC e := rx_bind (rx_nex (nex_bind (m_is_whole_2_nex _) fun _ => nex_cond (nex_ok) (nex_bind xint_nex fun _ => nex_ok))) fun _ => rx_cond (rx_ex (by decide)) (rx_bind (rx_nex xint_nex) fun _ => rx_cond (rx_ex (by decide)) (rx_bind (rx_forS (fun _ _ => rx_bind (rx_nex (nex_bind (m_is_pair_nex _ _) fun _ => nex_ok)) fun _ => rx_cond (rx_bind (rx_nex (m_NoTie___init___nex _)) fun _ => rx_exF (by decide) (nrBF_one nrB_val)) (rx_ok)) _ _) fun _ => rx_ok))
theorem sc_made_web_2 : FnScope ["places", "ties", "at", "pair"] ["places", "ties"] (defScope s_made_web) := ⟨rfl, rfl, rfl, by decide +kernel, rfl, by decide +kernel, by decide +kernel⟩
section
variable {P : Program} {w : World} {K : PySem.W.Frag} {mg : Str → Option Value} {base : Heap} {f : Addr} {fd : FuncData}
theorem g_made_web_2 (F : FnP K "made_web" s_made_web f fd) (m : Md K mg) : FnG P w K mg base 4 f fd ["places", "ties"] (SpM K (fun a : PyData × (List (Int × Int)) => [.val (eX a.1), .val (eWT2II a.2)]) (fun a => m_made_web_2 a.1 a.2) (fun _ r => .val (eT2IWT2II r)) (fun _ r => [.hole, .hole]) (fun _ => [.hole, .hole])) := by
  refine fnG_of (n := 2) F sc_made_web_2 (fun _ => rfl) rfl (fun _ _ => .val) (fun _ _ => (.cons .hole (.cons .hole .nil))) (fun _ => (.cons .hole (.cons .hole .nil))) (fun a e h => nrf_of (m_made_web_2_rx _ _ e h)) fun cdv A outer s H vs E G a hvs B => ?_
  obtain ⟨places, ties⟩ := a
  match vs, hvs with
  | [_, _], _ => ?_
  refine ⟨[.val (eX places), .val (eWT2II ties)], [.hole, .hole, .hole, .hole], fun r => [.hole, .hole, .hole, .hole], (.keep (.keep .nil)), fun _ => (.hole (.hole .nil)), (.hole (.hole .nil)), ?_⟩
  show JL _ _ [.val (eX places), .val (eWT2II ties), .hole, .hole] _ _ _ _
  refine JL.cons (JS.ite (JC.all (m := (m_is_whole_2 places).bind fun r => cond (!r) (.ok true) ((xint places).bind fun n => .ok (!(decide (1 ≤ n) && decide (n ≤ 9))))) (by first | with_reducible rfl | rfl) (JC.bop (JW.or (JC.not (JC.val (JE.callN (h_is_whole_2 m) (B.room.mono (by decide)) B.pass (JA.one (JE.var (i := 0) rfl (Args.plain places _ [false] (.own .nil) rfl rfl rfl (fun e z => absurd z (m_is_whole_2_nex _ e)) fun r _ => ⟨_, rfl, ⟨_, _, rfl, fun _ => ⟨rfl, rfl⟩, fun _ => JW.or1 (JC.not (JC.xref (Γf := fun y => [.val (eX y), .val (eWT2II ties), .hole, .hole]) fun n => JC.tot (JCt.chain .le .le (JE.int ⟨rfl, rfl⟩) (JE.var (i := 0) rfl ⟨rfl, rfl⟩) (JE.globI m.c_MOST_PLACES ⟨rfl, rfl⟩)) ⟨rfl, ⟨rfl, rfl⟩⟩))⟩⟩)))))))) fun c _ => ⟨_, _, rfl, fun _ => ?h1, fun _ => ?h2⟩))
  case h1 =>
    exact JL.cons (JS.raise B.tk B.calm m.xk_NoWeb m.cn_NoWeb rfl (.drop (.drop (.drop (.drop .nil)))))
  case h2 =>
    refine JL.nil ?_
    show JL _ _ [.val (eX places), .val (eWT2II ties), .hole, .hole] _ _ _ _
    refine JL.xref (Γf := fun y => [.val (eX y), .val (eWT2II ties), .hole, .hole]) fun places_2 => ?_
    show JL _ _ [.val (PyData.int places_2), .val (eWT2II ties), .hole, .hole] _ _ _ _
    refine JL.cons (JS.ite (JC.tot (JCt.cmp (Cmp.gt (JE.len m.len (JE.var (i := 1) rfl ⟨ties.length, (.seq (.own (soW (xs := ties) (e := eT2II))) (List.length_map _)), ⟨_, rfl, JE.globI m.c_MOST_TIES ⟨_, rfl, ⟨rfl, rfl⟩⟩⟩⟩)))) ⟨_, _, rfl, fun _ => ?h3, fun _ => ?h4⟩))
    case h3 =>
      exact JL.cons (JS.raise B.tk B.calm m.xk_TooMany m.cn_TooMany rfl (.drop (.drop (.drop (.drop .nil)))))
    case h4 =>
      refine JL.nil ?_
      show JL _ _ [.val (PyData.int places_2), .val (eWT2II ties), .hole, .hole] _ _ _ _
      refine JL.cons (JS.forS B.own B.calm (JSrc.enW m.enumerate (JE.var (i := 1) rfl ⟨_, ties, rfl, (soW (xs := ties) (e := eT2II)), ⟨(Int × Int) × Nat, Unit, (ties.zipIdx), fun q => .val (.tuple [.int (q.2 : Nat), eT2II q.1]), fun x' _ => f_made_web_2_1 places_2 x', (), fun (_ : Unit) => [.val (PyData.int places_2), .val (eWT2II ties), .hole, .hole], _, rfl, rfl, (.same (.same (.drop (.drop .nil)))), fun x _ => ?h5, fun _ => ?h6⟩⟩)))
      case h5 =>
        refine JG.tupV B.calm (JGs.cons (JG.name (i := 2) (JGs.cons (JG.name (i := 3) (JGs.nil ?_) sc_made_web_2.nd)) sc_made_web_2.nd))
        show JL _ _ [.val (PyData.int places_2), .val (eWT2II ties), .val (PyData.int (x.2 : Int)), .val (eT2II x.1)] _ _ _ _
        refine JL.cons (JS.ite (JC.all (m := (m_is_pair places_2 x.1).bind fun r_2 => .ok (!r_2)) (by first | with_reducible rfl | rfl) (JC.not (JC.val (JE.callN (h_is_pair m) (B.room.mono (by decide)) B.pass (JA.cons (pt := false) (JE.var (i := 0) rfl ⟨.inl ⟨_, rfl⟩, fun z => z, JA.one (JE.var (i := 3) rfl (Args.plain (places_2, x.1) _ [false, false] (.own (.own .nil)) rfl rfl rfl (fun e z => absurd z (m_is_pair_nex _ _ e)) fun r_2 _ => ⟨_, rfl, ⟨rfl, rfl⟩⟩))⟩))))) fun c_2 _ => ⟨_, _, rfl, fun _ => ?h7, fun _ => ?h8⟩))
        case h7 =>
          exact JL.cons (JS.raiseI B.tk B.calm (h_NoTie___init__ m) (B.room.mono (by decide)) (JE.var (i := 2) rfl ⟨(x.2 : Int), rfl, rfl, (.drop (.drop (.drop (.drop .nil))))⟩))
        case h8 =>
          refine JL.nil ?_
          exact JL.nil ⟨(), rfl, (.same (.same (.drop (.drop .nil))))⟩
      case h6 =>
        show JL _ _ [.val (PyData.int places_2), .val (eWT2II ties), .hole, .hole] _ _ _ _
        exact JL.cons (JS.ret (JT.frz (JE.tupD (JA.cons (pt := false) (JE.var (i := 0) rfl ⟨.inl ⟨_, rfl⟩, fun z => z, JA.one (JT.frz (JE.tupleL m.tuple (JE.ofLc (own' := [("pair", 3)]) B.calm sc_made_web_2.nd (blkOk_by (by kernel_rfl)) (JT.compP (sd := fun x => .val (eT2II x)) (g := fun x_2 => ((min x_2.1 x_2.2), (max x_2.1 x_2.2))) (se := fun y => .val (eT2II y)) (JSrc.tup (JE.var (i := 1) rfl ⟨_, _, rfl, (soW (xs := ties) (e := eT2II)), ⟨ties, rfl, (.hole rfl .nil), fun x_2 => ⟨[.val (PyData.int places_2), .val (eWT2II ties), .hole, .val (eT2II x_2)], Le.refl, fun s H Ca cl fp => JG.name (i := 3) rfl sc_made_web_2.nd, fun s H Ca cl fp => JT.frz (JE.tupD (JA.cons (pt := true) (JE.leastP B.room B.calm m.min (JE.var (i := 3) rfl ⟨rfl, ⟨.inl ⟨_, rfl⟩, fun z => z, JA.one (JE.mostP B.room B.calm m.max (JE.var (i := 3) rfl ⟨rfl, ⟨[_, _], rfl, Nat.le_of_ble_eq_true rfl, _, _, rfl, .tup (.cons .val (.cons .val .nil)), ⟨rfl, rfl⟩⟩⟩))⟩⟩))))⟩, ⟨_, (.own (soM (xs := (ties.map fun x_2 => ((min x_2.1 x_2.2), (max x_2.1 x_2.2)))) (e := eT2II))), _, _, rfl, .tup (.map fun _ => .val), ⟨[_, _], rfl, Nat.le_of_ble_eq_true rfl, _, _, rfl, .tup (.cons .val (.cons .val .nil)), ⟨(places_2, (ties.map fun x_2 => ((min x_2.1 x_2.2), (max x_2.1 x_2.2)))), _, _, rfl, rfl, rfl, by exact (.drop (.drop (.drop (.drop .nil))))⟩⟩⟩⟩⟩))))))⟩)))))
end
theorem h_made_web_2 {X : Cx} (m : Md X.K X.mg) : Has X "made_web" 4 (fun a : PyData × (List (Int × Int)) => [.val (eX a.1), .val (eWT2II a.2)]) (fun a => m_made_web_2 a.1 a.2) (fun _ r => .val (eT2IWT2II r)) (fun _ r => [.hole, .hole]) (fun _ => [.hole, .hole]) :=
  has_of (ps := ["places", "ties"]) m.f_made_web (fun f fd F => g_made_web_2 F m) (fun f fd F => F.bindsN fun _ _ _ _ _ _ us hl => match us, hl with | [_, _], _ => rfl) (fun _ _ => .val) (fun _ _ => (.cons .hole (.cons .hole .nil))) (fun _ => (.cons .hole (.cons .hole .nil))) (fun a e h => nrf_of (m_made_web_2_rx _ _ e h))
def f_made_web_3_1 (places_2 : Int) (x : PyData × Nat) : Res Unit := ((m_is_pair_2 places_2 x.1).bind fun r_2 => .ok (!r_2)).bind fun c_2 => cond c_2 ((m_NoTie___init__ (x.2 : Int)).bind fun r_3 => .ex ⟨"NoTie", [("at", .val (PyData.int r_3.2))]⟩) (.ok ())
def m_made_web_3 (places : PyData) (ties : List PyData) : Res Unit := ((m_is_whole_2 places).bind fun r => cond (!r) (.ok true) ((xint places).bind fun n => .ok (!(decide (1 ≤ n) && decide (n ≤ 9))))).bind fun c => cond c (.ex ⟨"NoWeb", []⟩) ((xint places).bind fun places_2 => cond (decide (30 < (ties.length : Int))) (.ex ⟨"TooMany", []⟩) ((forS (fun x' _ => f_made_web_3_1 places_2 x') (ties.zipIdx) ()).bind fun _ => .un))
theorem m_made_web_3_rx (places : PyData) (ties : List PyData) : ∀ e, m_made_web_3 places ties = .ex e → xok XC e := rx_bind (rx_nex (nex_bind (m_is_whole_2_nex _) fun _ => nex_cond (nex_ok) (nex_bind xint_nex fun _ => nex_ok))) fun _ => rx_cond (rx_ex (by decide)) (rx_bind (rx_nex xint_nex) fun _ => rx_cond (rx_ex (by decide)) (rx_bind (rx_forS (fun _ _ => rx_bind (rx_nex (nex_bind (m_is_pair_2_nex _ _) fun _ => nex_ok)) fun _ => rx_cond (rx_bind (rx_nex (m_NoTie___init___nex _)) fun _ => rx_exF (by decide) (nrBF_one nrB_val)) (rx_ok)) _ _) fun _ => rx_un))
theorem sc_made_web_3 : FnScope ["places", "ties", "at", "pair"] ["places", "ties"] (defScope s_made_web) := ⟨rfl, rfl, rfl, by decide +kernel, rfl, by decide +kernel, by decide +kernel⟩
section
variable {P : Program} {w : World} {K : PySem.W.Frag} {mg : Str → Option Value} {base : Heap} {f : Addr} {fd : FuncData}
theorem g_made_web_3 (F : FnP K "made_web" s_made_web f fd) (m : Md K mg) : FnG P w K mg base 4 f fd ["places", "ties"] (SpM K (fun a : PyData × List PyData => [.val (eX a.1), .val (eLX a.2)]) (fun a => m_made_web_3 a.1 a.2) (fun _ r => .hole) (fun _ r => [.hole, .hole]) (fun _ => [.hole, .hole])) := by
  refine fnG_of (n := 2) F sc_made_web_3 (fun _ => rfl) rfl (fun _ _ => .hole) (fun _ _ => (.cons .hole (.cons .hole .nil))) (fun _ => (.cons .hole (.cons .hole .nil))) (fun a e h => nrf_of (m_made_web_3_rx _ _ e h)) fun cdv A outer s H vs E G a hvs B => ?_
  obtain ⟨places, ties⟩ := a
  match vs, hvs with
  | [_, _], _ => ?_
  refine ⟨[.val (eX places), .val (eLX ties)], [.hole, .hole, .hole, .hole], fun r => [.hole, .hole, .hole, .hole], (.keep (.keep .nil)), fun _ => (.hole (.hole .nil)), (.hole (.hole .nil)), ?_⟩
  show JL _ _ [.val (eX places), .val (eLX ties), .hole, .hole] _ _ _ _
  refine JL.cons (JS.ite (JC.all (m := (m_is_whole_2 places).bind fun r => cond (!r) (.ok true) ((xint places).bind fun n => .ok (!(decide (1 ≤ n) && decide (n ≤ 9))))) (by first | with_reducible rfl | rfl) (JC.bop (JW.or (JC.not (JC.val (JE.callN (h_is_whole_2 m) (B.room.mono (by decide)) B.pass (JA.one (JE.var (i := 0) rfl (Args.plain places _ [false] (.own .nil) rfl rfl rfl (fun e z => absurd z (m_is_whole_2_nex _ e)) fun r _ => ⟨_, rfl, ⟨_, _, rfl, fun _ => ⟨rfl, rfl⟩, fun _ => JW.or1 (JC.not (JC.xref (Γf := fun y => [.val (eX y), .val (eLX ties), .hole, .hole]) fun n => JC.tot (JCt.chain .le .le (JE.int ⟨rfl, rfl⟩) (JE.var (i := 0) rfl ⟨rfl, rfl⟩) (JE.globI m.c_MOST_PLACES ⟨rfl, rfl⟩)) ⟨rfl, ⟨rfl, rfl⟩⟩))⟩⟩)))))))) fun c _ => ⟨_, _, rfl, fun _ => ?h1, fun _ => ?h2⟩))
  case h1 =>
    exact JL.cons (JS.raise B.tk B.calm m.xk_NoWeb m.cn_NoWeb rfl (.drop (.drop (.drop (.drop .nil)))))
  case h2 =>
    refine JL.nil ?_
    show JL _ _ [.val (eX places), .val (eLX ties), .hole, .hole] _ _ _ _
    refine JL.xref (Γf := fun y => [.val (eX y), .val (eLX ties), .hole, .hole]) fun places_2 => ?_
    show JL _ _ [.val (PyData.int places_2), .val (eLX ties), .hole, .hole] _ _ _ _
    refine JL.cons (JS.ite (JC.tot (JCt.cmp (Cmp.gt (JE.len m.len (JE.var (i := 1) rfl ⟨ties.length, (.seq (.own (soL (xs := ties) (e := eX))) (List.length_map _)), ⟨_, rfl, JE.globI m.c_MOST_TIES ⟨_, rfl, ⟨rfl, rfl⟩⟩⟩⟩)))) ⟨_, _, rfl, fun _ => ?h3, fun _ => ?h4⟩))
    case h3 =>
      exact JL.cons (JS.raise B.tk B.calm m.xk_TooMany m.cn_TooMany rfl (.drop (.drop (.drop (.drop .nil)))))
    case h4 =>
      refine JL.nil ?_
      show JL _ _ [.val (PyData.int places_2), .val (eLX ties), .hole, .hole] _ _ _ _
      refine JL.cons (JS.forS B.own B.calm (JSrc.enL m.enumerate (JE.var (i := 1) rfl ⟨_, ties, rfl, (soL (xs := ties) (e := eX)), ⟨PyData × Nat, Unit, (ties.zipIdx), fun q => .val (.tuple [.int (q.2 : Nat), eX q.1]), fun x' _ => f_made_web_3_1 places_2 x', (), fun (_ : Unit) => [.val (PyData.int places_2), .val (eLX ties), .hole, .hole], _, rfl, rfl, (.same (.same (.drop (.drop .nil)))), fun x _ => ?h5, fun _ => ?h6⟩⟩)))
      case h5 =>
        refine JG.tupV B.calm (JGs.cons (JG.name (i := 2) (JGs.cons (JG.name (i := 3) (JGs.nil ?_) sc_made_web_3.nd)) sc_made_web_3.nd))
        show JL _ _ [.val (PyData.int places_2), .val (eLX ties), .val (PyData.int (x.2 : Int)), .val (eX x.1)] _ _ _ _
        refine JL.cons (JS.ite (JC.all (m := (m_is_pair_2 places_2 x.1).bind fun r_2 => .ok (!r_2)) (by first | with_reducible rfl | rfl) (JC.not (JC.val (JE.callN (h_is_pair_2 m) (B.room.mono (by decide)) B.pass (JA.cons (pt := false) (JE.var (i := 0) rfl ⟨.inl ⟨_, rfl⟩, fun z => z, JA.one (JE.var (i := 3) rfl (Args.plain (places_2, x.1) _ [false, false] (.own (.own .nil)) rfl rfl rfl (fun e z => absurd z (m_is_pair_2_nex _ _ e)) fun r_2 _ => ⟨_, rfl, ⟨rfl, rfl⟩⟩))⟩))))) fun c_2 _ => ⟨_, _, rfl, fun _ => ?h7, fun _ => ?h8⟩))
        case h7 =>
          exact JL.cons (JS.raiseI B.tk B.calm (h_NoTie___init__ m) (B.room.mono (by decide)) (JE.var (i := 2) rfl ⟨(x.2 : Int), rfl, rfl, (.drop (.drop (.drop (.drop .nil))))⟩))
        case h8 =>
          refine JL.nil ?_
          exact JL.nil ⟨(), rfl, (.same (.same (.drop (.drop .nil))))⟩
      case h6 =>
        show JL _ _ [.val (PyData.int places_2), .val (eLX ties), .hole, .hole] _ _ _ _
        exact JST.un rfl
end
theorem h_made_web_3 {X : Cx} (m : Md X.K X.mg) : Has X "made_web" 4 (fun a : PyData × List PyData => [.val (eX a.1), .val (eLX a.2)]) (fun a => m_made_web_3 a.1 a.2) (fun _ r => .hole) (fun _ r => [.hole, .hole]) (fun _ => [.hole, .hole]) :=
  has_of (ps := ["places", "ties"]) m.f_made_web (fun f fd F => g_made_web_3 F m) (fun f fd F => F.bindsN fun _ _ _ _ _ _ us hl => match us, hl with | [_, _], _ => rfl) (fun _ _ => .hole) (fun _ _ => (.cons .hole (.cons .hole .nil))) (fun _ => (.cons .hole (.cons .hole .nil))) (fun a e h => nrf_of (m_made_web_3_rx _ _ e h))
def f_made_web_4_1 (places_2 : Int) (x : PyData × Nat) : Res Unit := ((m_is_pair_2 places_2 x.1).bind fun r_2 => .ok (!r_2)).bind fun c_2 => cond c_2 ((m_NoTie___init__ (x.2 : Int)).bind fun r_3 => .ex ⟨"NoTie", [("at", .val (PyData.int r_3.2))]⟩) (.ok ())
def m_made_web_4 (places : PyData) (ties : List PyData) : Res Unit := ((m_is_whole_2 places).bind fun r => cond (!r) (.ok true) ((xint places).bind fun n => .ok (!(decide (1 ≤ n) && decide (n ≤ 9))))).bind fun c => cond c (.ex ⟨"NoWeb", []⟩) ((xint places).bind fun places_2 => cond (decide (30 < (ties.length : Int))) (.ex ⟨"TooMany", []⟩) ((forS (fun x' _ => f_made_web_4_1 places_2 x') (ties.zipIdx) ()).bind fun _ => .un))
theorem m_made_web_4_rx (places : PyData) (ties : List PyData) : ∀ e, m_made_web_4 places ties = .ex e → xok XC e := rx_bind (rx_nex (nex_bind (m_is_whole_2_nex _) fun _ => nex_cond (nex_ok) (nex_bind xint_nex fun _ => nex_ok))) fun _ => rx_cond (rx_ex (by decide)) (rx_bind (rx_nex xint_nex) fun _ => rx_cond (rx_ex (by decide)) (rx_bind (rx_forS (fun _ _ => rx_bind (rx_nex (nex_bind (m_is_pair_2_nex _ _) fun _ => nex_ok)) fun _ => rx_cond (rx_bind (rx_nex (m_NoTie___init___nex _)) fun _ => rx_exF (by decide) (nrBF_one nrB_val)) (rx_ok)) _ _) fun _ => rx_un))
theorem sc_made_web_4 : FnScope ["places", "ties", "at", "pair"] ["places", "ties"] (defScope s_made_web) := ⟨rfl, rfl, rfl, by decide +kernel, rfl, by decide +kernel, by decide +kernel⟩
section
variable {P : Program} {w : World} {K : PySem.W.Frag} {mg : Str → Option Value} {base : Heap} {f : Addr} {fd : FuncData}
theorem g_made_web_4 (F : FnP K "made_web" s_made_web f fd) (m : Md K mg) : FnG P w K mg base 4 f fd ["places", "ties"] (SpM K (fun a : PyData × List PyData => [.val (eX a.1), .val (eWX a.2)]) (fun a => m_made_web_4 a.1 a.2) (fun _ r => .hole) (fun _ r => [.hole, .hole]) (fun _ => [.hole, .hole])) := by
  refine fnG_of (n := 2) F sc_made_web_4 (fun _ => rfl) rfl (fun _ _ => .hole) (fun _ _ => (.cons .hole (.cons .hole .nil))) (fun _ => (.cons .hole (.cons .hole .nil))) (fun a e h => nrf_of (m_made_web_4_rx _ _ e h)) fun cdv A outer s H vs E G a hvs B => ?_
  obtain ⟨places, ties⟩ := a
  match vs, hvs with
  | [_, _], _ => ?_
  refine ⟨[.val (eX places), .val (eWX ties)], [.hole, .hole, .hole, .hole], fun r => [.hole, .hole, .hole, .hole], (.keep (.keep .nil)), fun _ => (.hole (.hole .nil)), (.hole (.hole .nil)), ?_⟩
  show JL _ _ [.val (eX places), .val (eWX ties), .hole, .hole] _ _ _ _
  refine JL.cons (JS.ite (JC.all (m := (m_is_whole_2 places).bind fun r => cond (!r) (.ok true) ((xint places).bind fun n => .ok (!(decide (1 ≤ n) && decide (n ≤ 9))))) (by first | with_reducible rfl | rfl) (JC.bop (JW.or (JC.not (JC.val (JE.callN (h_is_whole_2 m) (B.room.mono (by decide)) B.pass (JA.one (JE.var (i := 0) rfl (Args.plain places _ [false] (.own .nil) rfl rfl rfl (fun e z => absurd z (m_is_whole_2_nex _ e)) fun r _ => ⟨_, rfl, ⟨_, _, rfl, fun _ => ⟨rfl, rfl⟩, fun _ => JW.or1 (JC.not (JC.xref (Γf := fun y => [.val (eX y), .val (eWX ties), .hole, .hole]) fun n => JC.tot (JCt.chain .le .le (JE.int ⟨rfl, rfl⟩) (JE.var (i := 0) rfl ⟨rfl, rfl⟩) (JE.globI m.c_MOST_PLACES ⟨rfl, rfl⟩)) ⟨rfl, ⟨rfl, rfl⟩⟩))⟩⟩)))))))) fun c _ => ⟨_, _, rfl, fun _ => ?h1, fun _ => ?h2⟩))
  case h1 =>
    exact JL.cons (JS.raise B.tk B.calm m.xk_NoWeb m.cn_NoWeb rfl (.drop (.drop (.drop (.drop .nil)))))
  case h2 =>
    refine JL.nil ?_
    show JL _ _ [.val (eX places), .val (eWX ties), .hole, .hole] _ _ _ _
    refine JL.xref (Γf := fun y => [.val (eX y), .val (eWX ties), .hole, .hole]) fun places_2 => ?_
    show JL _ _ [.val (PyData.int places_2), .val (eWX ties), .hole, .hole] _ _ _ _
    refine JL.cons (JS.ite (JC.tot (JCt.cmp (Cmp.gt (JE.len m.len (JE.var (i := 1) rfl ⟨ties.length, (.seq (.own (soW (xs := ties) (e := eX))) (List.length_map _)), ⟨_, rfl, JE.globI m.c_MOST_TIES ⟨_, rfl, ⟨rfl, rfl⟩⟩⟩⟩)))) ⟨_, _, rfl, fun _ => ?h3, fun _ => ?h4⟩))
    case h3 =>
      exact JL.cons (JS.raise B.tk B.calm m.xk_TooMany m.cn_TooMany rfl (.drop (.drop (.drop (.drop .nil)))))
    case h4 =>
      refine JL.nil ?_
      show JL _ _ [.val (PyData.int places_2), .val (eWX ties), .hole, .hole] _ _ _ _
      refine JL.cons (JS.forS B.own B.calm (JSrc.enW m.enumerate (JE.var (i := 1) rfl ⟨_, ties, rfl, (soW (xs := ties) (e := eX)), ⟨PyData × Nat, Unit, (ties.zipIdx), fun q => .val (.tuple [.int (q.2 : Nat), eX q.1]), fun x' _ => f_made_web_4_1 places_2 x', (), fun (_ : Unit) => [.val (PyData.int places_2), .val (eWX ties), .hole, .hole], _, rfl, rfl, (.same (.same (.drop (.drop .nil)))), fun x _ => ?h5, fun _ => ?h6⟩⟩)))
      case h5 =>
        refine JG.tupV B.calm (JGs.cons (JG.name (i := 2) (JGs.cons (JG.name (i := 3) (JGs.nil ?_) sc_made_web_4.nd)) sc_made_web_4.nd))
        show JL _ _ [.val (PyData.int places_2), .val (eWX ties), .val (PyData.int (x.2 : Int)), .val (eX x.1)] _ _ _ _
        refine JL.cons (JS.ite (JC.all (m := (m_is_pair_2 places_2 x.1).bind fun r_2 => .ok (!r_2)) (by first | with_reducible rfl | rfl) (JC.not (JC.val (JE.callN (h_is_pair_2 m) (B.room.mono (by decide)) B.pass (JA.cons (pt := false) (JE.var (i := 0) rfl ⟨.inl ⟨_, rfl⟩, fun z => z, JA.one (JE.var (i := 3) rfl (Args.plain (places_2, x.1) _ [false, false] (.own (.own .nil)) rfl rfl rfl (fun e z => absurd z (m_is_pair_2_nex _ _ e)) fun r_2 _ => ⟨_, rfl, ⟨rfl, rfl⟩⟩))⟩))))) fun c_2 _ => ⟨_, _, rfl, fun _ => ?h7, fun _ => ?h8⟩))
        case h7 =>
          exact JL.cons (JS.raiseI B.tk B.calm (h_NoTie___init__ m) (B.room.mono (by decide)) (JE.var (i := 2) rfl ⟨(x.2 : Int), rfl, rfl, (.drop (.drop (.drop (.drop .nil))))⟩))
        case h8 =>
          refine JL.nil ?_
          exact JL.nil ⟨(), rfl, (.same (.same (.drop (.drop .nil))))⟩
      case h6 =>
        show JL _ _ [.val (PyData.int places_2), .val (eWX ties), .hole, .hole] _ _ _ _
        exact JST.un rfl
end
theorem h_made_web_4 {X : Cx} (m : Md X.K X.mg) : Has X "made_web" 4 (fun a : PyData × List PyData => [.val (eX a.1), .val (eWX a.2)]) (fun a => m_made_web_4 a.1 a.2) (fun _ r => .hole) (fun _ r => [.hole, .hole]) (fun _ => [.hole, .hole]) :=
  has_of (ps := ["places", "ties"]) m.f_made_web (fun f fd F => g_made_web_4 F m) (fun f fd F => F.bindsN fun _ _ _ _ _ _ us hl => match us, hl with | [_, _], _ => rfl) (fun _ _ => .hole) (fun _ _ => (.cons .hole (.cons .hole .nil))) (fun _ => (.cons .hole (.cons .hole .nil))) (fun a e h => nrf_of (m_made_web_4_rx _ _ e h))
end HD

namespace HD
open PySem PySem.Spec PyProof.Rows L2 Tsa
/-! -/
abbrev eLT2II : List (Int × Int) → PyData := fun xs => .list (xs.map eT2II)
abbrev svT2II : Int × Int → SD := fun x => .val (eT2II x)
abbrev slvT2II : List (Int × Int) → SD := fun xs => .lst (xs.map svT2II)
/-! ### nth, pot, take -/
def m_nth (ns : List Int) (k : Int) : Res Int := cond (decide (k < (ns.length : Nat))) ((idx ns k).bind fun x => .ok x) (.ok 0)
theorem m_nth_nex (ns : List Int) (k : Int) : ∀ e, m_nth ns k ≠ .ex e := nex_cond (nex_bind idx_nex fun _ => nex_ok) nex_ok
theorem sc_nth : FnScope ["_law_script", "_law_k"] ["_law_script", "_law_k"] (defScope s_nth) := ⟨rfl, rfl, rfl, by decide +kernel, rfl, by decide +kernel, by decide +kernel⟩
section
variable {P : Program} {w : World} {K : PySem.W.Frag} {mg : Str → Option Value} {base : Heap} {f : Addr} {fd : FuncData}
theorem g_nth (F : FnP K "_law_nth" s_nth f fd) (m : Md K mg) : FnG P w K mg base 1 f fd ["_law_script", "_law_k"] (SpM K (fun a : List Int × Int => [.val (.list (a.1.map .int)), .val (.int a.2)]) (fun a => m_nth a.1 a.2) (fun _ r => .val (.int r)) (fun _ _ => [.hole, .hole]) (fun _ => [.hole, .hole])) := by
  refine fnG_of (n := 0) F sc_nth (fun _ => rfl) rfl (fun _ _ => .val) (fun _ _ => .cons .hole (.cons .hole .nil)) (fun _ => .cons .hole (.cons .hole .nil)) (fun a e h => absurd h (m_nth_nex _ _ e)) fun cdv A outer s H vs E G a hvs B => ?_
  obtain ⟨ns, k⟩ := a
  match vs, hvs with
  | [_, _], _ => ?_
  refine ⟨[.val (.list (ns.map .int)), .val (.int k)], [.val (.list (ns.map .int)), .val (.int k)], fun _ => [.val (.list (ns.map .int)), .val (.int k)], .keep (.keep .nil), fun _ => .hole (.hole .nil), .hole (.hole .nil), ?_⟩
  refine JL.cons (JS.ret (JE.ifx (JC.tot (JCt.cmp (Cmp.lt (JE.var (i := 1) rfl ⟨k, rfl, JE.len m.len (JE.var (i := 0) rfl ⟨ns.length, .seq (.own .lst) (by simp), _, rfl, rfl, rfl⟩)⟩))) ⟨_, _, rfl, fun _ => ?_, fun _ => JE.int ⟨_, _, _, rfl, rfl, rfl, Le.refl⟩⟩)))
  exact JE.ix (xs := ns) (f := fun i => .val (.int i)) (JE.var (i := 0) rfl ⟨.inl ⟨_, rfl⟩, JE.var (i := 1) rfl ⟨k, rfl, _, .own (soL (e := PyData.int)), rfl, fun x _ => ⟨_, _, _, rfl, rfl, rfl, Le.refl⟩⟩⟩)
end
theorem h_nth {X : Cx} (m : Md X.K X.mg) : Has X "_law_nth" 1 (fun a : List Int × Int => [.val (.list (a.1.map .int)), .val (.int a.2)]) (fun a => m_nth a.1 a.2) (fun _ r => .val (.int r)) (fun _ _ => [.hole, .hole]) (fun _ => [.hole, .hole]) :=
  has_of (ps := ["_law_script", "_law_k"]) m.f_nth (fun f fd F => g_nth F m) (fun f fd F => F.bindsN fun _ _ _ _ _ _ us hl => match us, hl with | [_, _], _ => rfl) (fun _ _ => .val) (fun _ _ => .cons .hole (.cons .hole .nil)) (fun _ => .cons .hole (.cons .hole .nil)) (fun a e h => absurd h (m_nth_nex _ _ e))

def absI (i : Int) : Int := if i < 0 then -i else i
def m_pot (ns : List Int) (k : Int) : Res (Int × Int) := (m_nth ns k).bind fun c => gd (mulOk 101 k) (.ok (max 0 (absI c - 10 ^ (18 : Int).toNat), absI c % 2147483563 + 101 * k + 1))
theorem m_pot_nex (ns : List Int) (k : Int) : ∀ e, m_pot ns k ≠ .ex e := nex_bind (m_nth_nex ns k) fun _ => nex_gd nex_ok
theorem sc_pot : FnScope ["_law_script", "_law_k", "_law_cell"] ["_law_script", "_law_k"] (defScope s_pot) := ⟨rfl, rfl, rfl, by decide +kernel, rfl, by decide +kernel, by decide +kernel⟩
section
variable {P : Program} {w : World} {K : PySem.W.Frag} {mg : Str → Option Value} {base : Heap} {f : Addr} {fd : FuncData}
theorem g_pot (F : FnP K "_law_pot" s_pot f fd) (m : Md K mg) : FnG P w K mg base 2 f fd ["_law_script", "_law_k"] (SpM K (fun a : List Int × Int => [.val (.list (a.1.map .int)), .val (.int a.2)]) (fun a => m_pot a.1 a.2) (fun _ r => potS r) (fun _ _ => [.hole, .hole]) (fun _ => [.hole, .hole])) := by
  refine fnG_of (n := 1) F sc_pot (fun _ => rfl) rfl (fun _ _ => nr_pot) (fun _ _ => .cons .hole (.cons .hole .nil)) (fun _ => .cons .hole (.cons .hole .nil)) (fun a e h => absurd h (m_pot_nex _ _ e)) fun cdv A outer s H vs E G a hvs B => ?_
  obtain ⟨ns, k⟩ := a
  match vs, hvs with
  | [_, _], _ => ?_
  refine ⟨[.val (.list (ns.map .int)), .val (.int k)], [.val (.list (ns.map .int)), .val (.int k), .hole], fun _ => [.hole, .hole, .hole], .keep (.keep .nil), fun _ => .hole (.hole .nil), .hole (.hole .nil), ?_⟩
  refine JL.cons (JS.set (i := 2) sc_pot.nd (JE.callN (h_nth m) (B.room.mono (by decide)) B.pass (JA.cons (pt := false) (JE.var (i := 0) rfl ⟨.inl ⟨_, rfl⟩, fun z => z, JA.one (JE.var (i := 1) rfl (Args.plain (ns, k) _ [false, false] (.own (.own .nil)) rfl rfl rfl (fun e z => absurd z (m_nth_nex _ _ e)) fun r _ => ⟨_, rfl, Nat.le_of_ble_eq_true rfl, ?_⟩))⟩))))
  refine JL.cons (JS.ret (JE.lstD (JA.cons (pt := false) (JE.max2 B.calm m.max (JE.int ⟨0, rfl, JE.sub (JE.abs m.abs (JE.var (i := 2) rfl ⟨r, rfl, _, rfl, JE.pow (JE.int ⟨10, rfl, JE.int ⟨18, rfl, prI (by decide) ⟨_, rfl, _, rfl, .inl ⟨_, rfl⟩, fun z => z, ?_⟩⟩⟩)⟩))⟩)))))
  refine JA.one (JE.add (JE.add (JE.mod (JE.abs m.abs (JE.var (i := 2) rfl ⟨r, rfl, _, rfl, JE.int ⟨_, rfl, prI (by decide) ⟨_, rfl, JE.mul (JE.int ⟨101, rfl, JE.var (i := 1) rfl ⟨k, rfl, gdI ⟨_, rfl, _, rfl, JE.int ⟨1, rfl, [_, _], rfl, Nat.le_of_ble_eq_true rfl, _, _, _, rfl, rfl, rfl, .drop (.drop (.drop .nil))⟩⟩⟩⟩)⟩⟩⟩)))))
end
theorem h_pot {X : Cx} (m : Md X.K X.mg) : Has X "_law_pot" 2 (fun a : List Int × Int => [.val (.list (a.1.map .int)), .val (.int a.2)]) (fun a => m_pot a.1 a.2) (fun _ r => potS r) (fun _ _ => [.hole, .hole]) (fun _ => [.hole, .hole]) :=
  has_of (ps := ["_law_script", "_law_k"]) m.f_pot (fun f fd F => g_pot F m) (fun f fd F => F.bindsN fun _ _ _ _ _ _ us hl => match us, hl with | [_, _], _ => rfl) (fun _ _ => nr_pot) (fun _ _ => .cons .hole (.cons .hole .nil)) (fun _ => .cons .hole (.cons .hole .nil)) (fun a e h => absurd h (m_pot_nex _ _ e))

def m_take (p : Int × Int) (n : Int) : Res (Int × (Int × Int)) :=
  cond (decide (0 < p.1)) (gd (divOk n) (.ok (p.1 % n, (p.1 / n, p.2))))
    (gd (mulOk p.2 39373) (gd (mulOk ((p.2 * 39373 + 7919) % 2147483629) ((p.2 * 39373 + 7919) % 2147483629)) (gd (0 < n)
      (.ok (((p.2 * 39373 + 7919) % 2147483629) * ((p.2 * 39373 + 7919) % 2147483629) % 2147483563 / 11 % n, (p.1, (p.2 * 39373 + 7919) % 2147483629))))))
theorem m_take_nex (p : Int × Int) (n : Int) : ∀ e, m_take p n ≠ .ex e := nex_cond (nex_gd nex_ok) (nex_gd (nex_gd (nex_gd nex_ok)))
theorem sc_take : FnScope ["_law_pot_here", "_law_many", "_law_digit"] ["_law_pot_here", "_law_many"] (defScope s_take) := ⟨rfl, rfl, rfl, by decide +kernel, rfl, by decide +kernel, by decide +kernel⟩
section
variable {P : Program} {w : World} {K : PySem.W.Frag} {mg : Str → Option Value} {base : Heap} {f : Addr} {fd : FuncData}
theorem g_take (F : FnP K "_law_take" s_take f fd) (m : Md K mg) : FnG P w K mg base 1 f fd ["_law_pot_here", "_law_many"] (SpM K (fun a : (Int × Int) × Int => [potS a.1, .val (.int a.2)]) (fun a => m_take a.1 a.2) (fun _ r => .val (.int r.1)) (fun _ r => [potS r.2, .hole]) (fun _ => [.hole, .hole])) := by
  refine fnG_of (n := 1) F sc_take (fun _ => rfl) rfl (fun _ _ => .val) (fun _ _ => .cons nr_pot (.cons .hole .nil)) (fun _ => .cons .hole (.cons .hole .nil)) (fun a e h => absurd h (m_take_nex _ _ e)) fun cdv A outer s H vs E G a hvs B => ?_
  match vs, hvs with
  | [v, _], _ => ?_
  refine ⟨[.pin v (potS a.1), .val (.int a.2)], [.hole, .hole, .hole], fun r => [.pin v (potS r.2), .hole, .hole], .pin (.keep .nil), fun _ => .pin (.hole .nil), .hole (.hole .nil), ?_⟩
  refine JL.cons (JS.ite (JC.tot (JCt.cmp (Cmp.gt (JE.ixC (JE.slot (i := 0) rfl ⟨.inr ⟨_, rfl⟩, .pin rfl (.mine (ds := [.int a.1.1, .int a.1.2])), rfl, a.1.1, rfl, JE.int ⟨0, rfl, rfl, rfl⟩⟩)))) ⟨_, _, rfl, fun _ => ?_, fun _ => JL.nil ?_⟩))
  · refine JL.cons (JS.asg2 (JE.divmod m.divmod (JE.ixC (JE.slot (i := 0) rfl ⟨.inr ⟨_, rfl⟩, .pin rfl (.mine (ds := [.int a.1.1, .int a.1.2])), rfl, a.1.1, rfl, JE.var (i := 1) rfl ⟨a.2, rfl, gdD ⟨_, rfl, JG2.tup B.calm (JGs2.cons (JG2.ix (i := 0) rfl .pin ⟨0, JE.int ⟨rfl, rfl⟩, 0, _, fun _ => ⟨rfl, rfl⟩, JGs2.cons (JG2.name (i := 2) (JGs2.nil ?_) sc_take.nd)⟩))⟩⟩⟩))))
    exact JL.cons (JS.ret (JE.var (i := 2) rfl ⟨_, _, _, rfl, rfl, rfl, .same (.drop (.drop .nil))⟩))
  · refine JL.cons (JS.asg2 (JE.mod (JE.add (JE.mul (JE.ixC (JE.slot (i := 0) rfl ⟨.inr ⟨_, rfl⟩, .pin rfl (.mine (ds := [.int a.1.1, .int a.1.2])), rfl, a.1.2, rfl, JE.int ⟨39373, rfl, gdI ⟨_, rfl, JE.int ⟨7919, rfl, _, rfl, JE.int ⟨2147483629, rfl, prI (by decide) ⟨_, rfl, JG2.ix (i := 0) rfl .pin ⟨1, JE.int ⟨rfl, rfl⟩, 1, _, fun _ => ⟨rfl, rfl⟩, ?_⟩⟩⟩⟩⟩⟩⟩))))))
    refine JL.cons (JS.ret (JE.mod (JE.fdiv (JE.mod (JE.mul (JE.ixC (JE.slot (i := 0) rfl ⟨.inr ⟨_, rfl⟩, .pin rfl (.mine (ds := [.int a.1.1, .int ((a.1.2 * 39373 + 7919) % 2147483629)])), rfl, _, rfl, JE.ixC (JE.slot (i := 0) rfl ⟨.inr ⟨_, rfl⟩, .pin rfl (.mine (ds := [.int a.1.1, .int ((a.1.2 * 39373 + 7919) % 2147483629)])), rfl, _, rfl, gdI ⟨_, rfl, JE.int ⟨_, rfl, prI (by decide) ⟨_, rfl, JE.int ⟨11, rfl, prI (by exact ⟨by decide, by decide⟩) ⟨_, rfl, JE.var (i := 1) rfl ⟨a.2, rfl, gdI ⟨_, _, _, rfl, rfl, rfl, .same (.drop (.drop .nil))⟩⟩⟩⟩⟩⟩⟩⟩)⟩)))))))
end
theorem h_take {X : Cx} (m : Md X.K X.mg) : Has X "_law_take" 1 (fun a : (Int × Int) × Int => [potS a.1, .val (.int a.2)]) (fun a => m_take a.1 a.2) (fun _ r => .val (.int r.1)) (fun _ r => [potS r.2, .hole]) (fun _ => [.hole, .hole]) :=
  has_of (ps := ["_law_pot_here", "_law_many"]) m.f_take (fun f fd F => g_take F m) (fun f fd F => F.bindsN fun _ _ _ _ _ _ us hl => match us, hl with | [_, _], _ => rfl) (fun _ _ => .val) (fun _ _ => .cons nr_pot (.cons .hole .nil)) (fun _ => .cons .hole (.cons .hole .nil)) (fun a e h => absurd h (m_take_nex _ _ e))

def m_pair (pot_here : Int × Int) (places : Int) (found : List (Int × Int)) : Res ((Int × Int) × (Int × Int)) := (cond (!decide (found = ([] : List (Int × Int)))) ((m_take pot_here 4).bind fun r => .ok (decide (r.1 = 0), r.2)) (.ok (false, pot_here))).bind fun c => cond c.1 ((m_take c.2 (found.length : Int)).bind fun r_2 => (idx found r_2.1).bind fun x => .ok ((x.2, x.1), r_2.2)) ((m_take c.2 places).bind fun r_3 => (m_take r_3.2 (places - 1)).bind fun r_4 => gd (0 < places) (.ok ((r_3.1, (((r_3.1 + 1) + r_4.1) % places)), r_4.2)))
theorem m_pair_nex (pot_here : Int × Int) (places : Int) (found : List (Int × Int)) : ∀ e, m_pair pot_here places found ≠ .ex e := nex_bind (nex_cond (nex_bind (m_take_nex _ _) fun _ => nex_ok) (nex_ok)) fun _ => nex_cond (nex_bind (m_take_nex _ _) fun _ => nex_bind idx_nex fun _ => nex_ok) (nex_bind (m_take_nex _ _) fun _ => nex_bind (m_take_nex _ _) fun _ => nex_gd (nex_ok))
theorem sc_pair : FnScope ["_law_pot_here", "_law_places", "_law_found", "_law_a"] ["_law_pot_here", "_law_places", "_law_found"] (defScope s_pair) := ⟨rfl, rfl, rfl, by decide +kernel, rfl, by decide +kernel, by decide +kernel⟩
section
variable {P : Program} {w : World} {K : PySem.W.Frag} {mg : Str → Option Value} {base : Heap} {f : Addr} {fd : FuncData}
theorem g_pair (F : FnP K "_law_pair" s_pair f fd) (m : Md K mg) : FnG P w K mg base 2 f fd ["_law_pot_here", "_law_places", "_law_found"] (SpM K (fun a : (Int × Int) × Int × (List (Int × Int)) => [potS a.1, .val (PyData.int a.2.1), slvT2II a.2.2]) (fun a => m_pair a.1 a.2.1 a.2.2) (fun _ r => .val (eT2II r.1)) (fun a r => [potS r.2, .hole, slvT2II a.2.2]) (fun _ => [.hole, .hole, .hole])) := by
  refine fnG_of (n := 1) F sc_pair (fun _ => rfl) rfl (fun _ _ => .val) (fun _ _ => (.cons nr_pot (.cons .hole (.cons (.lst (.map fun _ => .val)) .nil)))) (fun _ => (.cons .hole (.cons .hole (.cons .hole .nil)))) (fun a e h => absurd h (m_pair_nex _ _ _ e)) fun cdv A outer s H vs E G a hvs B => ?_
  obtain ⟨pot_here, places, found⟩ := a
  match vs, hvs with
  | [v0, _, v2], _ => ?_
  refine ⟨[.pin v0 (potS pot_here), .val (PyData.int places), .pin v2 (slvT2II found)], [.hole, .hole, .hole, .hole], fun r => [.pin v0 (potS r.2), .hole, .pin v2 (slvT2II found), .hole], (.pin (.keep (.pin .nil))), fun _ => (.pin (.hole (.pin .nil))), (.hole (.hole (.hole .nil))), ?_⟩
  show JL _ _ [.pin v0 (potS pot_here), .val (PyData.int places), .pin v2 (slvT2II found), .hole] _ _ _ _
  refine JL.cons (JS.ite (JC.allS (m := cond (!decide (found = ([] : List (Int × Int)))) ((m_take pot_here 4).bind fun r => .ok (decide (r.1 = 0), r.2)) (.ok (false, pot_here))) (Δ := fun x' => [.pin v0 (potS x'.2), .val (PyData.int places), .pin v2 (slvT2II found), .hole]) rfl (JC.bop (JW.and (JC.tot (JCt.cmp (Cmp.neT (e := eLT2II) (eokL (eokT2 eokI eokI)) (by decide) B.room (JE.slot (i := 2) rfl ⟨.inr ⟨_, rfl⟩, JE.lstD (JA.nil ⟨[], rfl, Nat.le_of_ble_eq_true rfl, ⟨found, ([] : List (Int × Int)), (.at (i := 2) rfl (.pin (.lst (.map fun _ => .val)))), (.own (.lst .nil)), ⟨rfl, rfl⟩⟩⟩)⟩))) ⟨_, _, rfl, fun _ => JW.and1 (JC.cmp (Cmp.eqI (JE.callN (h_take m) (B.room.mono (by decide)) B.pass (JA.cons (pt := false) (JE.slot (i := 0) rfl ⟨.inr (.inl ⟨_, rfl⟩), fun z => z, JA.one (JE.int ⟨(pot_here, 4), _, [true, false], _, _, _, (.cons rfl .pin .nil), (.inout (.own .nil)), (List.append_nil _).symm, rfl, fun e z => absurd z (m_take_nex _ _ e), ft, fun r _ => ⟨_, rfl, JE.int ⟨_, rfl, ⟨_, rfl, ⟨_, rfl, rfl, rfl⟩⟩⟩⟩⟩)⟩))))), fun _ => ⟨_, rfl, rfl, rfl⟩⟩))) fun c _ => ⟨_, _, rfl, fun _ => ?h1, fun _ => ?h2⟩))
  case h1 =>
    exact JL.cons (JS.ret (JT.frz (JE.revT (JE.ixE (f := fun x => .val (eT2II x)) (t := false) (JE.slot (i := 2) rfl ⟨.inr ⟨_, rfl⟩, JE.callN (h_take m) (B.room.mono (by decide)) B.pass (JA.cons (pt := false) (JE.slot (i := 0) rfl ⟨.inr (.inl ⟨_, rfl⟩), fun z => z, JA.one (JE.len m.len (JE.slot (i := 2) rfl ⟨found.length, (.seq (.pin (i := 2) rfl (soM (xs := found) (e := eT2II))) (List.length_map _)), ⟨(c.2, (found.length : Int)), _, [true, false], _, _, _, (.cons rfl .pin .nil), (.inout (.own .nil)), (List.append_nil _).symm, rfl, fun e z => absurd z (m_take_nex _ _ e), ft, fun r_2 _ => ⟨_, rfl, _, _, (.pin (i := 2) rfl (soM (xs := found) (e := eT2II))), rfl, fun x _ => ⟨_, .own .tup, _, _, rfl, .tup (.cons .val (.cons .val .nil)), ⟨((x.2, x.1), r_2.2), _, _, rfl, rfl, rfl, (by exact (.same (.drop (.same (.drop .nil)))))⟩⟩⟩⟩⟩))⟩))⟩)))))
  case h2 =>
    refine JL.nil ?_
    show JL _ _ [.pin v0 (potS c.2), .val (PyData.int places), .pin v2 (slvT2II found), .hole] _ _ _ _
    refine JL.cons (JS.set (i := 3) sc_pair.nd (JE.callN (h_take m) (B.room.mono (by decide)) B.pass (JA.cons (pt := false) (JE.slot (i := 0) rfl ⟨.inr (.inl ⟨_, rfl⟩), fun z => z, JA.one (JE.var (i := 1) rfl ⟨(c.2, places), _, [true, false], _, _, _, (.cons rfl .pin .nil), (.inout (.own .nil)), (List.append_nil _).symm, rfl, fun e z => absurd z (m_take_nex _ _ e), ft, fun r_3 _ => ⟨_, rfl, Nat.le_of_ble_eq_true rfl, ?h3⟩⟩)⟩))))
    show JL _ _ [.pin v0 (potS r_3.2), .val (PyData.int places), .pin v2 (slvT2II found), .val (PyData.int r_3.1)] _ _ _ _
    exact JL.cons (JS.ret (JT.frz (JE.tupD (JA.cons (pt := false) (JE.var (i := 3) rfl ⟨.inl ⟨_, rfl⟩, fun z => z, JA.one (JE.mod (JE.add (JE.add (JE.var (i := 3) rfl ⟨_, rfl, JE.int ⟨_, rfl, ⟨_, rfl, JE.callN (h_take m) (B.room.mono (by decide)) B.pass (JA.cons (pt := false) (JE.slot (i := 0) rfl ⟨.inr (.inl ⟨_, rfl⟩), fun z => z, JA.one (JE.sub (JE.var (i := 1) rfl ⟨_, rfl, JE.int ⟨_, rfl, ⟨(r_3.2, (places - 1)), _, [true, false], _, _, _, (.cons rfl .pin .nil), (.inout (.own .nil)), (List.append_nil _).symm, rfl, fun e z => absurd z (m_take_nex _ _ e), ft, fun r_4 _ => ⟨_, rfl, ⟨_, rfl, JE.var (i := 1) rfl ⟨_, rfl, gdI ⟨[_, _], rfl, Nat.le_of_ble_eq_true rfl, _, _, rfl, .tup (.cons .val (.cons .val .nil)), ⟨((r_3.1, (((r_3.1 + 1) + r_4.1) % places)), r_4.2), _, _, rfl, rfl, rfl, by exact (.same (.drop (.same (.drop .nil))))⟩⟩⟩⟩⟩⟩⟩⟩))⟩))⟩⟩⟩))))⟩)))))
end
theorem h_pair {X : Cx} (m : Md X.K X.mg) : Has X "_law_pair" 2 (fun a : (Int × Int) × Int × (List (Int × Int)) => [potS a.1, .val (PyData.int a.2.1), slvT2II a.2.2]) (fun a => m_pair a.1 a.2.1 a.2.2) (fun _ r => .val (eT2II r.1)) (fun a r => [potS r.2, .hole, slvT2II a.2.2]) (fun _ => [.hole, .hole, .hole]) :=
  has_of (ps := ["_law_pot_here", "_law_places", "_law_found"]) m.f_pair (fun f fd F => g_pair F m) (fun f fd F => F.bindsN fun _ _ _ _ _ _ us hl => match us, hl with | [_, _, _], _ => rfl) (fun _ _ => .val) (fun _ _ => (.cons nr_pot (.cons .hole (.cons (.lst (.map fun _ => .val)) .nil)))) (fun _ => (.cons .hole (.cons .hole (.cons .hole .nil)))) (fun a e h => absurd h (m_pair_nex _ _ _ e))
def f_pairs_1 (places : Int) (x : Int) (pot_here_2 : Int × Int) (found_2 : List (Int × Int)) : Res ((Int × Int) × (List (Int × Int))) := (m_pair pot_here_2 places found_2).bind fun r_2 => gd (found_2.length < 16000000) (bindv (found_2 ++ [r_2.1]) fun found_3 => .ok (r_2.2, found_3))
def m_pairs (pot_here : Int × Int) (places : Int) : Res ((List (Int × Int)) × (Int × Int)) := bindv ([] : List (Int × Int)) fun found => (m_take pot_here 31).bind fun r => gd (mulOk r.1 (ofB (decide (1 < places)))) (gd (rngOk 0 (r.1 * (ofB (decide (1 < places))))) ((forS (fun x' t => f_pairs_1 places x' t.1 t.2) (rangeL 0 (r.1 * (ofB (decide (1 < places))))) (r.2, found)).bind fun (pot_here_3, found_4) => .ok (found_4, pot_here_3)))
theorem m_pairs_nex (pot_here : Int × Int) (places : Int) : ∀ e, m_pairs pot_here places ≠ .ex e := nex_bindv fun _ => nex_bind (m_take_nex _ _) fun _ => nex_gd (nex_gd (nex_bind (forS_nex (fun _ _ => nex_bind (m_pair_nex _ _ _) fun _ => nex_gd (nex_bindv fun _ => nex_ok)) _ _) fun _ => nex_ok))
theorem sc_pairs : FnScope ["_law_pot_here", "_law_places", "_law_found", "_law_k"] ["_law_pot_here", "_law_places"] (defScope s_pairs) := ⟨rfl, rfl, rfl, by decide +kernel, rfl, by decide +kernel, by decide +kernel⟩
section
variable {P : Program} {w : World} {K : PySem.W.Frag} {mg : Str → Option Value} {base : Heap} {f : Addr} {fd : FuncData}
theorem g_pairs (F : FnP K "_law_pairs" s_pairs f fd) (m : Md K mg) : FnG P w K mg base 3 f fd ["_law_pot_here", "_law_places"] (SpM K (fun a : (Int × Int) × Int => [potS a.1, .val (PyData.int a.2)]) (fun a => m_pairs a.1 a.2) (fun _ r => slvT2II r.1) (fun _ r => [potS r.2, .hole]) (fun _ => [.hole, .hole])) := by
  refine fnG_of (n := 2) F sc_pairs (fun _ => rfl) rfl (fun _ _ => (.lst (.map fun _ => .val))) (fun _ _ => (.cons nr_pot (.cons .hole .nil))) (fun _ => (.cons .hole (.cons .hole .nil))) (fun a e h => absurd h (m_pairs_nex _ _ e)) fun cdv A outer s H vs E G a hvs B => ?_
  obtain ⟨pot_here, places⟩ := a
  match vs, hvs with
  | [v0, _], _ => ?_
  refine ⟨[.pin v0 (potS pot_here), .val (PyData.int places)], [.hole, .hole, .hole, .hole], fun r => [.pin v0 (potS r.2), .hole, .hole, .hole], (.pin (.keep .nil)), fun _ => (.pin (.hole .nil)), (.hole (.hole .nil)), ?_⟩
  show JL _ _ [.pin v0 (potS pot_here), .val (PyData.int places), .hole, .hole] _ _ _ _
  refine JL.cons (JS.set (i := 2) sc_pairs.nd (JE.lstD (JA.nil ⟨[], rfl, Nat.le_of_ble_eq_true rfl, ⟨_, rfl, Nat.le_of_ble_eq_true rfl, ?h1⟩⟩)))
  refine JL.letv (Γf := fun found => [.pin v0 (potS pot_here), .val (PyData.int places), slvT2II found, .hole]) ([] : List (Int × Int)) fun found => ?_
  show JL _ _ [.pin v0 (potS pot_here), .val (PyData.int places), slvT2II found, .hole] _ _ _ _
  refine JL.cons (JS.forS B.own B.calm (JSrc.rng1 m.range (JE.mul (JE.callN (h_take m) (B.room.mono (by decide)) B.pass (JA.cons (pt := false) (JE.slot (i := 0) rfl ⟨.inr (.inl ⟨_, rfl⟩), fun z => z, JA.one (JE.int ⟨(pot_here, 31), _, [true, false], _, _, _, (.cons rfl .pin .nil), (.inout (.own .nil)), (List.append_nil _).symm, rfl, fun e z => absurd z (m_take_nex _ _ e), ft, fun r _ => ⟨_, rfl, JE.intB m.int (JE.tot (JE.cmp (Cmp.gt (JE.var (i := 1) rfl ⟨_, rfl, JE.int ⟨_, rfl, ⟨rfl, rfl⟩⟩⟩))) ⟨_, rfl, ⟨_, rfl, gdI ⟨_, rfl, gdI ⟨Int, (Int × Int) × (List (Int × Int)), (rangeL 0 (r.1 * (ofB (decide (1 < places))))), fun i => .val (.int i), fun x' t => f_pairs_1 places x' t.1 t.2, (r.2, found), fun (pot_here_2, found_2) => [.pin v0 (potS pot_here_2), .val (PyData.int places), slvT2II found_2, .hole], _, rfl, rfl, (by exact (.same (.same (.same (.drop .nil))))), fun x t => ?h2, fun t_2 => ?h3⟩⟩⟩⟩)⟩⟩)⟩))))))
  case h2 =>
    obtain ⟨pot_here_2, found_2⟩ := t
    refine JG.name (i := 3) ?_ sc_pairs.nd
    show JL _ _ [.pin v0 (potS pot_here_2), .val (PyData.int places), slvT2II found_2, .val (PyData.int x)] _ _ _ _
    refine JL.cons (JS.expr (JE.appendT (f := svT2II) (i := 2) rfl .lst (JE.callN (h_pair m) (B.room.mono (by decide)) B.pass (JA.cons (pt := false) (JE.slot (i := 0) rfl ⟨.inr (.inl ⟨_, rfl⟩), fun z => z, JA.cons (pt := false) (JE.var (i := 1) rfl ⟨.inl ⟨_, rfl⟩, fun z => z, JA.one (JE.slot (i := 2) rfl ⟨(pot_here_2, places, found_2), _, [true, false, true], _, _, _, (.cons rfl .pin (.cons rfl (.plain (by intro z; cases z)) .nil)), (.inout (.own (.inout .nil))), (List.append_nil _).symm, rfl, fun e z => absurd z (m_pair_nex _ _ _ e), ft, fun r_2 _ => ⟨_, _, found_2, r_2.1, _, rfl, rfl, .lst, gd_ok, ?h4⟩⟩)⟩)⟩)))))
    refine JL.letv (Γf := fun found_3 => [.pin v0 (potS r_2.2), .val (PyData.int places), slvT2II found_3, .val (PyData.int x)]) (found_2 ++ [r_2.1]) fun found_3 => ?_
    exact JL.nil ⟨(r_2.2, found_3), rfl, (.same (.same (.same (.drop .nil))))⟩
  case h3 =>
    obtain ⟨pot_here_3, found_4⟩ := t_2
    show JL _ _ [.pin v0 (potS pot_here_3), .val (PyData.int places), slvT2II found_4, .hole] _ _ _ _
    exact JL.cons (JS.ret (JE.move (i := 2) rfl ⟨(found_4, pot_here_3), _, _, rfl, rfl, rfl, (by exact (.same (.drop (.drop (.drop .nil)))))⟩))
end
theorem h_pairs {X : Cx} (m : Md X.K X.mg) : Has X "_law_pairs" 3 (fun a : (Int × Int) × Int => [potS a.1, .val (PyData.int a.2)]) (fun a => m_pairs a.1 a.2) (fun _ r => slvT2II r.1) (fun _ r => [potS r.2, .hole]) (fun _ => [.hole, .hole]) :=
  has_of (ps := ["_law_pot_here", "_law_places"]) m.f_pairs (fun f fd F => g_pairs F m) (fun f fd F => F.bindsN fun _ _ _ _ _ _ us hl => match us, hl with | [_, _], _ => rfl) (fun _ _ => (.lst (.map fun _ => .val))) (fun _ _ => (.cons nr_pot (.cons .hole .nil))) (fun _ => (.cons .hole (.cons .hole .nil))) (fun a e h => absurd h (m_pairs_nex _ _ e))
def m_l_is_whole (thing : PyData) : Res Bool := .ok ((isIntD thing) && (!(isBoolD thing)))
theorem m_l_is_whole_nex (thing : PyData) : ∀ e, m_l_is_whole thing ≠ .ex e := nex_ok
theorem sc_l_is_whole : FnScope ["_law_thing"] ["_law_thing"] (defScope s_l_is_whole) := ⟨rfl, rfl, rfl, by decide +kernel, rfl, by decide +kernel, by decide +kernel⟩
section
variable {P : Program} {w : World} {K : PySem.W.Frag} {mg : Str → Option Value} {base : Heap} {f : Addr} {fd : FuncData}
theorem g_l_is_whole (F : FnP K "_law_is_whole" s_l_is_whole f fd) (m : Md K mg) : FnG P w K mg base 1 f fd ["_law_thing"] (SpM K (fun a : PyData => [.val (eX a)]) (fun a => m_l_is_whole a) (fun _ r => .val (PyData.bool r)) (fun _ r => [.hole]) (fun _ => [.hole])) := by
  refine fnG_of (n := 0) F sc_l_is_whole (fun _ => rfl) rfl (fun _ _ => .val) (fun _ _ => (.cons .hole .nil)) (fun _ => (.cons .hole .nil)) (fun a e h => absurd h (m_l_is_whole_nex _ e)) fun cdv A outer s H vs E G thing hvs B => ?_
  match vs, hvs with
  | [_], _ => ?_
  refine ⟨[.val (eX thing)], [.hole], fun r => [.hole], (.keep .nil), fun _ => (.hole .nil), (.hole .nil), ?_⟩
  show JL _ _ [.val (eX thing)] _ _ _ _
  exact JL.cons (JS.ret (JE.tot (JVt.and (JE.isi m.isinstance m.int (JE.var (i := 0) rfl ⟨.inl ⟨_, rfl⟩, _, _, (.own .val), isi_int _, ⟨rfl, rfl⟩⟩)) fun _ => (JE.one (JVt.not (JE.isi m.isinstance m.bool (JE.var (i := 0) rfl ⟨.inl ⟨_, rfl⟩, _, _, (.own .val), isi_bool _, ⟨rfl, rfl⟩⟩))))) ⟨((isIntD thing) && (!(isBoolD thing))), _, _, rfl, rfl, rfl, (by exact (.drop .nil))⟩))
end
theorem h_l_is_whole {X : Cx} (m : Md X.K X.mg) : Has X "_law_is_whole" 1 (fun a : PyData => [.val (eX a)]) (fun a => m_l_is_whole a) (fun _ r => .val (PyData.bool r)) (fun _ r => [.hole]) (fun _ => [.hole]) :=
  has_of (ps := ["_law_thing"]) m.f_l_is_whole (fun f fd F => g_l_is_whole F m) (fun f fd F => F.bindsN fun _ _ _ _ _ _ us hl => match us, hl with | [_], _ => rfl) (fun _ _ => .val) (fun _ _ => (.cons .hole .nil)) (fun _ => (.cons .hole .nil)) (fun a e h => absurd h (m_l_is_whole_nex _ e))
end HD

namespace HD
open PySem PySem.Spec PyProof.Rows L2 Tsa
/-! -/
abbrev eN : Unit → PyData := fun _ => .none
abbrev eLI : List Int → PyData := fun xs => .list (xs.map PyData.int)
abbrev eWI : List Int → PyData := fun xs => .tuple (xs.map PyData.int)
abbrev eT3III : Int × Int × Int → PyData := fun p => .tuple [PyData.int p.1, PyData.int p.2.1, PyData.int p.2.2]
abbrev eWU : List Unit → PyData := fun xs => .tuple (xs.map eN)
abbrev eT2IN : Int × Unit → PyData := fun p => .tuple [PyData.int p.1, eN p.2]
abbrev eT2IS : Int × Str → PyData := fun p => .tuple [PyData.int p.1, PyData.str p.2]
abbrev eT2BI : Bool × Int → PyData := fun p => .tuple [PyData.bool p.1, PyData.int p.2]
abbrev eT2WII : List Int × Int → PyData := fun p => .tuple [eWI p.1, PyData.int p.2]
abbrev eT2ILI : Int × List Int → PyData := fun p => .tuple [PyData.int p.1, eLI p.2]
abbrev eWS : List Str → PyData := fun xs => .tuple (xs.map PyData.str)
abbrev eT2SI : Str × Int → PyData := fun p => .tuple [PyData.str p.1, PyData.int p.2]
abbrev eLB : List Bool → PyData := fun xs => .list (xs.map PyData.bool)
def m_l_is_pair (places : Int) (thing : PyData) : Res Bool := (cond (!(isTupD thing)) (.ok true) ((xseq thing).bind fun xs => .ok (!decide ((xs.length : Int) = 2)))).bind fun c => cond c (.ok false) (((xat thing 0).bind fun y => (m_l_is_whole y).bind fun r => cond (!r) (.ok true) ((xat thing 1).bind fun y_2 => (m_l_is_whole y_2).bind fun r_2 => cond (!r_2) (.ok true) ((xat thing 0).bind fun y_3 => (xat thing 1).bind fun y_4 => gd (SeqAt.shaped (eX y_3) = true ∧ SeqAt.shaped (eX y_4) = true) (.ok (PyData.eqv (eX y_3) (eX y_4)))))).bind fun c_2 => cond c_2 (.ok false) ((xpair thing).bind fun thing_2 => .ok ((decide (0 ≤ (min thing_2.1 thing_2.2))) && (decide ((max thing_2.1 thing_2.2) < places)))))
theorem m_l_is_pair_nex (places : Int) (thing : PyData) : ∀ e, m_l_is_pair places thing ≠ .ex e := nex_bind (nex_cond (nex_ok) (nex_bind xseq_nex fun _ => nex_ok)) fun _ => nex_cond (nex_ok) (nex_bind (nex_bind xat_nex fun _ => nex_bind (m_l_is_whole_nex _) fun _ => nex_cond (nex_ok) (nex_bind xat_nex fun _ => nex_bind (m_l_is_whole_nex _) fun _ => nex_cond (nex_ok) (nex_bind xat_nex fun _ => nex_bind xat_nex fun _ => nex_gd (nex_ok)))) fun _ => nex_cond (nex_ok) (nex_bind xpair_nex fun _ => nex_ok))
theorem sc_l_is_pair : FnScope ["_law_places", "_law_thing"] ["_law_places", "_law_thing"] (defScope s_l_is_pair) := ⟨rfl, rfl, rfl, by decide +kernel, rfl, by decide +kernel, by decide +kernel⟩
section
variable {P : Program} {w : World} {K : PySem.W.Frag} {mg : Str → Option Value} {base : Heap} {f : Addr} {fd : FuncData}
theorem g_l_is_pair (F : FnP K "_law_is_pair" s_l_is_pair f fd) (m : Md K mg) : FnG P w K mg base 2 f fd ["_law_places", "_law_thing"] (SpM K (fun a : Int × PyData => [.val (PyData.int a.1), .val (eX a.2)]) (fun a => m_l_is_pair a.1 a.2) (fun _ r => .val (PyData.bool r)) (fun _ r => [.hole, .hole]) (fun _ => [.hole, .hole])) := by
  refine fnG_of (n := 0) F sc_l_is_pair (fun _ => rfl) rfl (fun _ _ => .val) (fun _ _ => (.cons .hole (.cons .hole .nil))) (fun _ => (.cons .hole (.cons .hole .nil))) (fun a e h => absurd h (m_l_is_pair_nex _ _ e)) fun cdv A outer s H vs E G a hvs B => ?_
  obtain ⟨places, thing⟩ := a
  match vs, hvs with
  | [_, _], _ => ?_
  refine ⟨[.val (PyData.int places), .val (eX thing)], [.hole, .hole], fun r => [.hole, .hole], (.keep (.keep .nil)), fun _ => (.hole (.hole .nil)), (.hole (.hole .nil)), ?_⟩
  show JL _ _ [.val (PyData.int places), .val (eX thing)] _ _ _ _
  refine JL.cons (JS.ite (JC.all (m := cond (!(isTupD thing)) (.ok true) ((xseq thing).bind fun xs => .ok (!decide ((xs.length : Int) = 2)))) (by first | with_reducible rfl | rfl) (JC.bop (JW.or (JC.tot (JCt.not (JCt.val (JE.isi m.isinstance m.tuple (JE.var (i := 1) rfl ⟨.inl ⟨_, rfl⟩, _, _, (.own .val), isi_tuple _, ⟨rfl, rfl⟩⟩)))) ⟨_, _, rfl, fun _ => ⟨rfl, rfl⟩, fun _ => JW.or1 (JC.cmp (Cmp.neI (JE.lenX m.len (JE.var (i := 1) rfl ⟨thing, _, rfl, rfl, fun xs => ⟨_, rfl, JE.int ⟨_, rfl, ⟨_, rfl, ⟨rfl, rfl⟩⟩⟩⟩⟩))))⟩))) fun c _ => ⟨_, _, rfl, fun _ => ?h1, fun _ => ?h2⟩))
  case h1 =>
    exact JL.cons (JS.ret (JE.bl ⟨false, _, _, rfl, rfl, rfl, (by exact (.drop (.drop .nil)))⟩))
  case h2 =>
    refine JL.nil ?_
    show JL _ _ [.val (PyData.int places), .val (eX thing)] _ _ _ _
    refine JL.cons (JS.ite (JC.all (m := (xat thing 0).bind fun y => (m_l_is_whole y).bind fun r => cond (!r) (.ok true) ((xat thing 1).bind fun y_2 => (m_l_is_whole y_2).bind fun r_2 => cond (!r_2) (.ok true) ((xat thing 0).bind fun y_3 => (xat thing 1).bind fun y_4 => gd (SeqAt.shaped (eX y_3) = true ∧ SeqAt.shaped (eX y_4) = true) (.ok (PyData.eqv (eX y_3) (eX y_4)))))) (by first | with_reducible rfl | rfl) (JC.bop (JW.or (JC.not (JC.val (JE.callN (h_l_is_whole m) (B.room.mono (by decide)) B.pass (JA.one (JE.ixX (i := 1) (n := 0) rfl fun y => Args.plain y _ [false] (.own .nil) rfl rfl rfl (fun e z => absurd z (m_l_is_whole_nex _ e)) fun r _ => ⟨_, rfl, ⟨_, _, rfl, fun _ => ⟨rfl, rfl⟩, fun _ => JW.or (JC.not (JC.val (JE.callN (h_l_is_whole m) (B.room.mono (by decide)) B.pass (JA.one (JE.ixX (i := 1) (n := 1) rfl fun y_2 => Args.plain y_2 _ [false] (.own .nil) rfl rfl rfl (fun e z => absurd z (m_l_is_whole_nex _ e)) fun r_2 _ => ⟨_, rfl, ⟨_, _, rfl, fun _ => ⟨rfl, rfl⟩, fun _ => JW.or1 (JC.cmp (Cmp.eq B.room.lines64 (JE.ixX (i := 1) (n := 0) rfl fun y_3 => ⟨.inl ⟨_, rfl⟩, JE.ixX (i := 1) (n := 1) rfl fun y_4 => ⟨eX y_3, eX y_4, _, (.own .val), (.own .val), gd_ok, ⟨_, rfl, ⟨rfl, rfl⟩⟩⟩⟩)))⟩⟩)))))⟩⟩))))))) fun c_2 _ => ⟨_, _, rfl, fun _ => ?h3, fun _ => ?h4⟩))
    case h3 =>
      exact JL.cons (JS.ret (JE.bl ⟨false, _, _, rfl, rfl, rfl, (by exact (.drop (.drop .nil)))⟩))
    case h4 =>
      refine JL.nil ?_
      show JL _ _ [.val (PyData.int places), .val (eX thing)] _ _ _ _
      refine JL.xrefP (Γf := fun y => [.val (PyData.int places), .val (eX y)]) fun thing_2 => ?_
      show JL _ _ [.val (PyData.int places), .val (eT2II thing_2)] _ _ _ _
      exact JL.cons (JS.ret (JE.tot (JVt.and (JE.cmp (Cmp.ge (JE.leastP B.room B.calm m.min (JE.var (i := 1) rfl ⟨rfl, ⟨_, rfl, JE.int ⟨_, rfl, ⟨rfl, rfl⟩⟩⟩⟩)))) fun _ => (JE.one (JE.cmp (Cmp.lt (JE.mostP B.room B.calm m.max (JE.var (i := 1) rfl ⟨rfl, ⟨_, rfl, JE.var (i := 0) rfl ⟨_, rfl, ⟨rfl, rfl⟩⟩⟩⟩)))))) ⟨((decide (0 ≤ (min thing_2.1 thing_2.2))) && (decide ((max thing_2.1 thing_2.2) < places))), _, _, rfl, rfl, rfl, (by exact (.drop (.drop .nil)))⟩))
end
theorem h_l_is_pair {X : Cx} (m : Md X.K X.mg) : Has X "_law_is_pair" 2 (fun a : Int × PyData => [.val (PyData.int a.1), .val (eX a.2)]) (fun a => m_l_is_pair a.1 a.2) (fun _ r => .val (PyData.bool r)) (fun _ r => [.hole, .hole]) (fun _ => [.hole, .hole]) :=
  has_of (ps := ["_law_places", "_law_thing"]) m.f_l_is_pair (fun f fd F => g_l_is_pair F m) (fun f fd F => F.bindsN fun _ _ _ _ _ _ us hl => match us, hl with | [_, _], _ => rfl) (fun _ _ => .val) (fun _ _ => (.cons .hole (.cons .hole .nil))) (fun _ => (.cons .hole (.cons .hole .nil))) (fun a e h => absurd h (m_l_is_pair_nex _ _ e))
def m_odd (pot_here : Int × Int) (places : Int) : Res (PyData × (Int × Int)) := (m_take pot_here places).bind fun r => bindv [(eN ()), (PyData.int r.1), (PyData.str ("ab" : PySem.Str)), (eLI [0, 1]), (eWI [r.1]), (eT2II (r.1, r.1)), (eT2II (r.1, places)), (eT2II ((-1), r.1)), (eT3III (0, 1, 2)), (eWU ([] : List Unit)), (PyData.bool true), (eT2IN (r.1, ())), (eT2IS (r.1, ("1" : PySem.Str))), (.dict [])] fun some' => gd (some'.length + [(eT2BI (true, r.1)), (eT2WII ([0], 1)), (eT2ILI (r.1, [1]))].length ≤ 16000000) (bindv (some' ++ [(eT2BI (true, r.1)), (eT2WII ([0], 1)), (eT2ILI (r.1, [1]))]) fun some'_2 => (m_take r.2 17).bind fun r_2 => (idx some'_2 r_2.1).bind fun x => .ok (x, r_2.2))
theorem m_odd_nex (pot_here : Int × Int) (places : Int) : ∀ e, m_odd pot_here places ≠ .ex e := nex_bind (m_take_nex _ _) fun _ => nex_bindv fun _ => nex_gd (nex_bindv fun _ => nex_bind (m_take_nex _ _) fun _ => nex_bind idx_nex fun _ => nex_ok)
theorem sc_odd : FnScope ["_law_pot_here", "_law_places", "_law_a", "_law_some"] ["_law_pot_here", "_law_places"] (defScope s_odd) := ⟨rfl, rfl, rfl, by decide +kernel, rfl, by decide +kernel, by decide +kernel⟩
section
variable {P : Program} {w : World} {K : PySem.W.Frag} {mg : Str → Option Value} {base : Heap} {f : Addr} {fd : FuncData}
theorem g_odd (F : FnP K "_law_odd" s_odd f fd) (m : Md K mg) : FnG P w K mg base 2 f fd ["_law_pot_here", "_law_places"] (SpM K (fun a : (Int × Int) × Int => [potS a.1, .val (PyData.int a.2)]) (fun a => m_odd a.1 a.2) (fun _ r => .val (eX r.1)) (fun _ r => [potS r.2, .hole]) (fun _ => [.hole, .hole])) := by
  refine fnG_of (n := 2) F sc_odd (fun _ => rfl) rfl (fun _ _ => .val) (fun _ _ => (.cons nr_pot (.cons .hole .nil))) (fun _ => (.cons .hole (.cons .hole .nil))) (fun a e h => absurd h (m_odd_nex _ _ e)) fun cdv A outer s H vs E G a hvs B => ?_
  obtain ⟨pot_here, places⟩ := a
  match vs, hvs with
  | [v0, _], _ => ?_
  refine ⟨[.pin v0 (potS pot_here), .val (PyData.int places)], [.hole, .hole, .hole, .hole], fun r => [.pin v0 (potS r.2), .hole, .hole, .hole], (.pin (.keep .nil)), fun _ => (.pin (.hole .nil)), (.hole (.hole .nil)), ?_⟩
  show JL _ _ [.pin v0 (potS pot_here), .val (PyData.int places), .hole, .hole] _ _ _ _
  refine JL.cons (JS.set (i := 2) sc_odd.nd (JE.callN (h_take m) (B.room.mono (by decide)) B.pass (JA.cons (pt := false) (JE.slot (i := 0) rfl ⟨.inr (.inl ⟨_, rfl⟩), fun z => z, JA.one (JE.var (i := 1) rfl ⟨(pot_here, places), _, [true, false], _, _, _, (.cons rfl .pin .nil), (.inout (.own .nil)), (List.append_nil _).symm, rfl, fun e z => absurd z (m_take_nex _ _ e), ft, fun r _ => ⟨_, rfl, Nat.le_of_ble_eq_true rfl, ?h1⟩⟩)⟩))))
  show JL _ _ [.pin v0 (potS r.2), .val (PyData.int places), .val (PyData.int r.1), .hole] _ _ _ _
  refine JL.cons (JS.set (i := 3) sc_odd.nd (JT.frz (JE.lstD (JA.cons (pt := false) (?_)))))
  refine JE.non ⟨.inl ⟨_, rfl⟩, fun z => z, JA.cons (pt := false) (?_)⟩
  refine JE.var (i := 2) rfl ⟨.inl ⟨_, rfl⟩, fun z => z, JA.cons (pt := false) (?_)⟩
  refine JE.str ⟨.inl ⟨_, rfl⟩, fun z => z, JA.cons (pt := false) (?_)⟩
  refine JT.frz (JE.lstD (JA.cons (pt := false) (JE.int ⟨.inl ⟨_, rfl⟩, fun z => z, JA.one (JE.int ⟨[_, _], rfl, Nat.le_of_ble_eq_true rfl, ⟨_, _, rfl, (.lst (.cons .val (.cons .val .nil))), ⟨.inl ⟨_, rfl⟩, fun z => z, JA.cons (pt := false) (?_)⟩⟩⟩)⟩)))
  refine JT.frz (JE.tupD (JA.one (JE.var (i := 2) rfl ⟨[_], rfl, Nat.le_of_ble_eq_true rfl, _, _, rfl, .tup (.cons .val .nil), ⟨.inl ⟨_, rfl⟩, fun z => z, JA.cons (pt := false) (?_)⟩⟩)))
  refine JT.frz (JE.tupD (JA.cons (pt := false) (JE.var (i := 2) rfl ⟨.inl ⟨_, rfl⟩, fun z => z, JA.one (JE.var (i := 2) rfl ⟨[_, _], rfl, Nat.le_of_ble_eq_true rfl, _, _, rfl, .tup (.cons .val (.cons .val .nil)), ⟨.inl ⟨_, rfl⟩, fun z => z, JA.cons (pt := false) (?_)⟩⟩)⟩)))
  refine JT.frz (JE.tupD (JA.cons (pt := false) (JE.var (i := 2) rfl ⟨.inl ⟨_, rfl⟩, fun z => z, JA.one (JE.var (i := 1) rfl ⟨[_, _], rfl, Nat.le_of_ble_eq_true rfl, _, _, rfl, .tup (.cons .val (.cons .val .nil)), ⟨.inl ⟨_, rfl⟩, fun z => z, JA.cons (pt := false) (?_)⟩⟩)⟩)))
  refine JT.frz (JE.tupD (JA.cons (pt := false) (JE.neg (JE.int ⟨_, rfl, ⟨.inl ⟨_, rfl⟩, fun z => z, JA.one (JE.var (i := 2) rfl ⟨[_, _], rfl, Nat.le_of_ble_eq_true rfl, _, _, rfl, .tup (.cons .val (.cons .val .nil)), ⟨.inl ⟨_, rfl⟩, fun z => z, JA.cons (pt := false) (?_)⟩⟩)⟩⟩))))
  refine JT.frz (JE.tupD (JA.cons (pt := false) (JE.int ⟨.inl ⟨_, rfl⟩, fun z => z, JA.cons (pt := false) (JE.int ⟨.inl ⟨_, rfl⟩, fun z => z, JA.one (JE.int ⟨[_, _, _], rfl, Nat.le_of_ble_eq_true rfl, _, _, rfl, .tup (.cons .val (.cons .val (.cons .val .nil))), ⟨.inl ⟨_, rfl⟩, fun z => z, JA.cons (pt := false) (?_)⟩⟩)⟩)⟩)))
  refine JT.frz (JE.tupD (JA.nil ⟨[], rfl, Nat.le_of_ble_eq_true rfl, _, _, rfl, .tup .nil, ⟨.inl ⟨_, rfl⟩, fun z => z, JA.cons (pt := false) (?_)⟩⟩))
  refine JE.bl ⟨.inl ⟨_, rfl⟩, fun z => z, JA.cons (pt := false) (?_)⟩
  refine JT.frz (JE.tupD (JA.cons (pt := false) (JE.var (i := 2) rfl ⟨.inl ⟨_, rfl⟩, fun z => z, JA.one (JE.non ⟨[_, _], rfl, Nat.le_of_ble_eq_true rfl, _, _, rfl, .tup (.cons .val (.cons .val .nil)), ⟨.inl ⟨_, rfl⟩, fun z => z, JA.cons (pt := false) (?_)⟩⟩)⟩)))
  refine JT.frz (JE.tupD (JA.cons (pt := false) (JE.var (i := 2) rfl ⟨.inl ⟨_, rfl⟩, fun z => z, JA.one (JE.str ⟨[_, _], rfl, Nat.le_of_ble_eq_true rfl, _, _, rfl, .tup (.cons .val (.cons .val .nil)), ⟨.inl ⟨_, rfl⟩, fun z => z, JA.one (?_)⟩⟩)⟩)))
  refine JT.frz (JE.dnew ⟨_, _, rfl, .dct0, ⟨[_, _, _, _, _, _, _, _, _, _, _, _, _, _], rfl, Nat.le_of_ble_eq_true rfl, ⟨_, _, rfl, (.lst (.cons .val (.cons .val (.cons .val (.cons .val (.cons .val (.cons .val (.cons .val (.cons .val (.cons .val (.cons .val (.cons .val (.cons .val (.cons .val (.cons .val .nil))))))))))))))), ⟨_, rfl, Nat.le_of_ble_eq_true rfl, ?h2⟩⟩⟩⟩)
  refine JL.letv (Γf := fun some' => [.pin v0 (potS r.2), .val (PyData.int places), .val (PyData.int r.1), .val (eLX some')]) [(eN ()), (PyData.int r.1), (PyData.str ("ab" : PySem.Str)), (eLI [0, 1]), (eWI [r.1]), (eT2II (r.1, r.1)), (eT2II (r.1, places)), (eT2II ((-1), r.1)), (eT3III (0, 1, 2)), (eWU ([] : List Unit)), (PyData.bool true), (eT2IN (r.1, ())), (eT2IS (r.1, ("1" : PySem.Str))), (.dict [])] fun some' => ?_
  show JL _ _ [.pin v0 (potS r.2), .val (PyData.int places), .val (PyData.int r.1), .val (eLX some')] _ _ _ _
  refine JL.cons (JS.set (i := 3) sc_odd.nd (JT.frz (JE.catT (f := fun x => .val (eX x)) (JE.var (i := 3) rfl ⟨.inl ⟨_, rfl⟩, JE.lstD (JA.cons (pt := false) (JT.frz (JE.tupD (JA.cons (pt := false) (JE.bl ⟨.inl ⟨_, rfl⟩, fun z => z, JA.one (JE.var (i := 2) rfl ⟨[_, _], rfl, Nat.le_of_ble_eq_true rfl, _, _, rfl, .tup (.cons .val (.cons .val .nil)), ⟨.inl ⟨_, rfl⟩, fun z => z, JA.cons (pt := false) (JT.frz (JE.tupD (JA.cons (pt := false) (JT.frz (JE.tupD (JA.one (JE.int ⟨[_], rfl, Nat.le_of_ble_eq_true rfl, _, _, rfl, .tup (.cons .val .nil), ⟨.inl ⟨_, rfl⟩, fun z => z, JA.one (JE.int ⟨[_, _], rfl, Nat.le_of_ble_eq_true rfl, _, _, rfl, .tup (.cons .val (.cons .val .nil)), ⟨.inl ⟨_, rfl⟩, fun z => z, JA.one (JT.frz (JE.tupD (JA.cons (pt := false) (JE.var (i := 2) rfl ⟨.inl ⟨_, rfl⟩, fun z => z, JA.one (JE.lstD (JA.one (JE.int ⟨[_], rfl, Nat.le_of_ble_eq_true rfl, ⟨[_, _], rfl, Nat.le_of_ble_eq_true rfl, ⟨_, _, rfl, (.tup (.cons .val (.cons (.lst (.cons .val .nil)) .nil))), ⟨[_, _, _], rfl, Nat.le_of_ble_eq_true rfl, ⟨_, _, _, (.own (soL (xs := some') (e := eX))), (.own (soM (xs := [(eT2BI (true, r.1)), (eT2WII ([0], 1)), (eT2ILI (r.1, [1]))]) (e := eX))), gd_ok, ⟨_, _, rfl, (.lst (.map fun _ => .val)), ⟨_, rfl, Nat.le_of_ble_eq_true rfl, ?h3⟩⟩⟩⟩⟩⟩⟩)))⟩))))⟩⟩)⟩⟩)))))))⟩⟩)⟩)))))⟩))))
  refine JL.letv (Γf := fun some'_2 => [.pin v0 (potS r.2), .val (PyData.int places), .val (PyData.int r.1), .val (eLX some'_2)]) (some' ++ [(eT2BI (true, r.1)), (eT2WII ([0], 1)), (eT2ILI (r.1, [1]))]) fun some'_2 => ?_
  show JL _ _ [.pin v0 (potS r.2), .val (PyData.int places), .val (PyData.int r.1), .val (eLX some'_2)] _ _ _ _
  exact JL.cons (JS.ret (JE.ixE (f := fun x => .val (eX x)) (t := false) (JE.var (i := 3) rfl ⟨.inl ⟨_, rfl⟩, JE.callN (h_take m) (B.room.mono (by decide)) B.pass (JA.cons (pt := false) (JE.slot (i := 0) rfl ⟨.inr (.inl ⟨_, rfl⟩), fun z => z, JA.one (JE.int ⟨(r.2, 17), _, [true, false], _, _, _, (.cons rfl .pin .nil), (.inout (.own .nil)), (List.append_nil _).symm, rfl, fun e z => absurd z (m_take_nex _ _ e), ft, fun r_2 _ => ⟨_, rfl, _, _, (.own (soL (xs := some'_2) (e := eX))), rfl, fun x _ => ⟨(x, r_2.2), _, _, rfl, rfl, rfl, (by exact (.same (.drop (.drop (.drop .nil)))))⟩⟩⟩)⟩))⟩)))
end
theorem h_odd {X : Cx} (m : Md X.K X.mg) : Has X "_law_odd" 2 (fun a : (Int × Int) × Int => [potS a.1, .val (PyData.int a.2)]) (fun a => m_odd a.1 a.2) (fun _ r => .val (eX r.1)) (fun _ r => [potS r.2, .hole]) (fun _ => [.hole, .hole]) :=
  has_of (ps := ["_law_pot_here", "_law_places"]) m.f_odd (fun f fd F => g_odd F m) (fun f fd F => F.bindsN fun _ _ _ _ _ _ us hl => match us, hl with | [_, _], _ => rfl) (fun _ _ => .val) (fun _ _ => (.cons nr_pot (.cons .hole .nil))) (fun _ => (.cons .hole (.cons .hole .nil))) (fun a e h => absurd h (m_odd_nex _ _ e))
def m_no_places (pot_here : Int × Int) : Res (PyData × (Int × Int)) := (m_take pot_here (10 ^ (9 : Int).toNat)).bind fun r => gd (mulOk r.1 (10 ^ (50 : Int).toNat)) (bindv (r.1 * (10 ^ (50 : Int).toNat)) fun far => (m_take r.2 12).bind fun r_2 => (idx [(PyData.int 0), (PyData.int 10), (PyData.int (-1)), (PyData.int (10 + far)), (PyData.int ((-1) - far)), (eN ()), (PyData.str ("3" : PySem.Str)), (eWI [3]), (eLI [3]), (PyData.bool true), (PyData.bool false), (.dict [])] r_2.1).bind fun x => .ok (x, r_2.2))
theorem m_no_places_nex (pot_here : Int × Int) : ∀ e, m_no_places pot_here ≠ .ex e := nex_bind (m_take_nex _ _) fun _ => nex_gd (nex_bindv fun _ => nex_bind (m_take_nex _ _) fun _ => nex_bind idx_nex fun _ => nex_ok)
theorem sc_no_places : FnScope ["_law_pot_here", "_law_far"] ["_law_pot_here"] (defScope s_no_places) := ⟨rfl, rfl, rfl, by decide +kernel, rfl, by decide +kernel, by decide +kernel⟩
section
variable {P : Program} {w : World} {K : PySem.W.Frag} {mg : Str → Option Value} {base : Heap} {f : Addr} {fd : FuncData}
theorem g_no_places (F : FnP K "_law_no_places" s_no_places f fd) (m : Md K mg) : FnG P w K mg base 2 f fd ["_law_pot_here"] (SpM K (fun a : Int × Int => [potS a]) (fun a => m_no_places a) (fun _ r => .val (eX r.1)) (fun _ r => [potS r.2]) (fun _ => [.hole])) := by
  refine fnG_of (n := 1) F sc_no_places (fun _ => rfl) rfl (fun _ _ => .val) (fun _ _ => (.cons nr_pot .nil)) (fun _ => (.cons .hole .nil)) (fun a e h => absurd h (m_no_places_nex _ e)) fun cdv A outer s H vs E G pot_here hvs B => ?_
  match vs, hvs with
  | [v0], _ => ?_
  refine ⟨[.pin v0 (potS pot_here)], [.hole, .hole], fun r => [.pin v0 (potS r.2), .hole], (.pin .nil), fun _ => (.pin .nil), (.hole .nil), ?_⟩
  show JL _ _ [.pin v0 (potS pot_here), .hole] _ _ _ _
  refine JL.cons (JS.set (i := 1) sc_no_places.nd (JE.mul (JE.callN (h_take m) (B.room.mono (by decide)) B.pass (JA.cons (pt := false) (JE.slot (i := 0) rfl ⟨.inr (.inl ⟨_, rfl⟩), fun z => z, JA.one (JE.pow (JE.int ⟨_, rfl, JE.int ⟨_, rfl, prI (by decide) ⟨(pot_here, (10 ^ (9 : Int).toNat)), _, [true, false], _, _, _, (.cons rfl .pin .nil), (.inout (.own .nil)), (List.append_nil _).symm, rfl, fun e z => absurd z (m_take_nex _ _ e), ft, fun r _ => ⟨_, rfl, JE.pow (JE.int ⟨_, rfl, JE.int ⟨_, rfl, prI (by decide) ⟨_, rfl, gdI ⟨_, rfl, Nat.le_of_ble_eq_true rfl, ?h1⟩⟩⟩⟩)⟩⟩⟩⟩))⟩)))))
  refine JL.letv (Γf := fun far => [.pin v0 (potS r.2), .val (PyData.int far)]) (r.1 * (10 ^ (50 : Int).toNat)) fun far => ?_
  show JL _ _ [.pin v0 (potS r.2), .val (PyData.int far)] _ _ _ _
  refine JL.cons (JS.ret (JE.ixE (f := fun x => .val (eX x)) (t := false) (JE.lstD (JA.cons (pt := false) (?_)))))
  refine JE.int ⟨.inl ⟨_, rfl⟩, fun z => z, JA.cons (pt := false) (?_)⟩
  refine JE.int ⟨.inl ⟨_, rfl⟩, fun z => z, JA.cons (pt := false) (?_)⟩
  refine JE.neg (JE.int ⟨_, rfl, ⟨.inl ⟨_, rfl⟩, fun z => z, JA.cons (pt := false) (?_)⟩⟩)
  refine JE.add (JE.int ⟨_, rfl, JE.var (i := 1) rfl ⟨_, rfl, ⟨.inl ⟨_, rfl⟩, fun z => z, JA.cons (pt := false) (?_)⟩⟩⟩)
  refine JE.sub (JE.neg (JE.int ⟨_, rfl, ⟨_, rfl, JE.var (i := 1) rfl ⟨_, rfl, ⟨.inl ⟨_, rfl⟩, fun z => z, JA.cons (pt := false) (?_)⟩⟩⟩⟩))
  refine JE.non ⟨.inl ⟨_, rfl⟩, fun z => z, JA.cons (pt := false) (?_)⟩
  refine JE.str ⟨.inl ⟨_, rfl⟩, fun z => z, JA.cons (pt := false) (?_)⟩
  refine JT.frz (JE.tupD (JA.one (JE.int ⟨[_], rfl, Nat.le_of_ble_eq_true rfl, _, _, rfl, .tup (.cons .val .nil), ⟨.inl ⟨_, rfl⟩, fun z => z, JA.cons (pt := false) (?_)⟩⟩)))
  refine JT.frz (JE.lstD (JA.one (JE.int ⟨[_], rfl, Nat.le_of_ble_eq_true rfl, ⟨_, _, rfl, (.lst (.cons .val .nil)), ⟨.inl ⟨_, rfl⟩, fun z => z, JA.cons (pt := false) (?_)⟩⟩⟩)))
  refine JE.bl ⟨.inl ⟨_, rfl⟩, fun z => z, JA.cons (pt := false) (?_)⟩
  refine JE.bl ⟨.inl ⟨_, rfl⟩, fun z => z, JA.one (?_)⟩
  refine JT.frz (JE.dnew ⟨_, _, rfl, .dct0, ⟨[_, _, _, _, _, _, _, _, _, _, _, _], rfl, Nat.le_of_ble_eq_true rfl, ⟨.inl ⟨_, rfl⟩, JE.callN (h_take m) (B.room.mono (by decide)) B.pass (JA.cons (pt := false) (JE.slot (i := 0) rfl ⟨.inr (.inl ⟨_, rfl⟩), fun z => z, JA.one (JE.int ⟨(r.2, 12), _, [true, false], _, _, _, (.cons rfl .pin .nil), (.inout (.own .nil)), (List.append_nil _).symm, rfl, fun e z => absurd z (m_take_nex _ _ e), ft, fun r_2 _ => ⟨_, rfl, _, _, (.own (soM (xs := [(PyData.int 0), (PyData.int 10), (PyData.int (-1)), (PyData.int (10 + far)), (PyData.int ((-1) - far)), (eN ()), (PyData.str ("3" : PySem.Str)), (eWI [3]), (eLI [3]), (PyData.bool true), (PyData.bool false), (.dict [])]) (e := eX))), rfl, fun x _ => ⟨(x, r_2.2), _, _, rfl, rfl, rfl, (by exact (.same (.drop .nil)))⟩⟩⟩)⟩))⟩⟩⟩)
end
theorem h_no_places {X : Cx} (m : Md X.K X.mg) : Has X "_law_no_places" 2 (fun a : Int × Int => [potS a]) (fun a => m_no_places a) (fun _ r => .val (eX r.1)) (fun _ r => [potS r.2]) (fun _ => [.hole]) :=
  has_of (ps := ["_law_pot_here"]) m.f_no_places (fun f fd F => g_no_places F m) (fun f fd F => F.bindsN fun _ _ _ _ _ _ us hl => match us, hl with | [_], _ => rfl) (fun _ _ => .val) (fun _ _ => (.cons nr_pot .nil)) (fun _ => (.cons .hole .nil)) (fun a e h => absurd h (m_no_places_nex _ e))
def m_is_other (e' : Exn) : Res Bool := gd (xok XC e') (((.ok (anyXc e'.cls ["Held", "NoCount", "NoDeed", "NoMost", "NoName", "NoPlace"]) : Res Bool)).bind fun c => cond c (.ok true) (.ok (anyXc e'.cls ["NoRow", "NoSpreads", "NoStrengths", "NoSuch", "NotHeld", "NoTrees"])))
theorem m_is_other_nex (e' : Exn) : ∀ x, m_is_other e' ≠ .ex x := nex_gd (nex_bind (nex_ok) fun _ => nex_cond (nex_ok) (nex_ok))
theorem sc_is_other : FnScope ["_law_e"] ["_law_e"] (defScope s_is_other) := ⟨rfl, rfl, rfl, by decide +kernel, rfl, by decide +kernel, by decide +kernel⟩
section
variable {P : Program} {w : World} {K : PySem.W.Frag} {mg : Str → Option Value} {base : Heap} {f : Addr} {fd : FuncData}
theorem g_is_other (F : FnP K "_law_is_other" s_is_other f fd) (m : Md K mg) : FnGH P w K mg base 1 f fd ["_law_e"] (SpMH K (fun e' : Exn => m_is_other e') (fun r => .val (PyData.bool r))) := by
  refine fnGH_of (n := 0) F sc_is_other rfl (fun _ => .val) fun cdv A outer s H E p a od G e' B => ?_
  obtain ⟨oe, hp, zn, hf⟩ := B.pin
  have HC := B.hot
  have hd := B.hd
  refine JL.gd fun xo => ?_
  show JL _ _ [.pin (.ref a) (excS a od e'.flds)] _ _ _ _
  refine JL.cons (JS.ite (JC.all (m := (.ok (anyXc e'.cls ["Held", "NoCount", "NoDeed", "NoMost", "NoName", "NoPlace"]) : Res Bool)) (by first | with_reducible rfl | rfl) (JC.val (JE.isXs (i := 0) rfl .given hp ⟨zn.1, zn.2.1⟩ hf (m.xf.c _ xo.1) m.isinstance (.cons m.cn_Held (.cons m.cn_NoCount (.cons m.cn_NoDeed (.cons m.cn_NoMost (.cons m.cn_NoName (.cons m.cn_NoPlace .nil)))))) (kitAny_of m.xf (xs := ["Held", "NoCount", "NoDeed", "NoMost", "NoName", "NoPlace"]) xo.1 (by decide)) (Nat.le_of_ble_eq_true rfl) (⟨_, rfl, ⟨rfl, rfl⟩⟩))) fun c _ => ⟨_, _, rfl, fun _ => ?h1, fun _ => ?h2⟩))
  case h1 =>
    exact JL.cons (JS.ret (JE.bl ⟨true, _, _, rfl, rfl, rfl, (by exact (.same .nil))⟩))
  case h2 =>
    refine JL.nil ?_
    show JL _ _ [.pin (.ref a) (excS a od e'.flds)] _ _ _ _
    exact JL.cons (JS.ret (JE.isXs (i := 0) rfl .given hp ⟨zn.1, zn.2.1⟩ hf (m.xf.c _ xo.1) m.isinstance (.cons m.cn_NoRow (.cons m.cn_NoSpreads (.cons m.cn_NoStrengths (.cons m.cn_NoSuch (.cons m.cn_NotHeld (.cons m.cn_NoTrees .nil)))))) (kitAny_of m.xf (xs := ["NoRow", "NoSpreads", "NoStrengths", "NoSuch", "NotHeld", "NoTrees"]) xo.1 (by decide)) (Nat.le_of_ble_eq_true rfl) (⟨(anyXc e'.cls ["NoRow", "NoSpreads", "NoStrengths", "NoSuch", "NotHeld", "NoTrees"]), _, _, rfl, rfl, rfl, by exact (.same .nil)⟩)))
end
theorem h_is_other {X : Cx} (m : Md X.K X.mg) : HasH X "_law_is_other" 1 (fun e' : Exn => m_is_other e') (fun r => .val (PyData.bool r)) :=
  hasH_of (p0 := "_law_e") m.f_is_other (fun f fd F => g_is_other F m) (fun f fd F => F.bindsN fun _ _ _ _ _ _ us hl => match us, hl with | [_], _ => rfl)
def m_words (e' : Exn) : Res PyData := gd (xok XC e') (bindv [(isXc e'.cls "NoWeb"), (isXc e'.cls "TooMany"), (isXc e'.cls "NoTie")] fun kinds => (((m_is_other e').bind fun r => cond r (.ok true) (cond (!true) (.ok true) (.ok (!decide (((kinds.count true : Nat) : Int) = 1)))) : Res Bool)).bind fun c => cond c (.ok (eWS [("other" : PySem.Str)])) ((((idx kinds 2).bind fun x => .ok x : Res Bool)).bind fun c_2 => cond c_2 ((fldR decI "NoTie" e' "at").bind fun y => .ok (eT2SI (("tie" : PySem.Str), y))) ((indexG kinds true).bind fun j => (idx [("web" : PySem.Str), ("many" : PySem.Str)] j).bind fun x_2 => .ok (eWS [x_2]))))
theorem m_words_nex (e' : Exn) : ∀ x, m_words e' ≠ .ex x := nex_gd (nex_bindv fun _ => nex_bind (nex_bind (m_is_other_nex _) fun _ => nex_cond (nex_ok) (nex_cond (nex_ok) (nex_ok))) fun _ => nex_cond (nex_ok) (nex_bind (nex_bind idx_nex fun _ => nex_ok) fun _ => nex_cond (nex_bind fldR_nex fun _ => nex_ok) (nex_bind indexG_nex fun _ => nex_bind idx_nex fun _ => nex_ok)))
theorem sc_words : FnScope ["_law_e", "_law_kinds"] ["_law_e"] (defScope s_words) := ⟨rfl, rfl, rfl, by decide +kernel, rfl, by decide +kernel, by decide +kernel⟩
section
variable {P : Program} {w : World} {K : PySem.W.Frag} {mg : Str → Option Value} {base : Heap} {f : Addr} {fd : FuncData}
theorem g_words (F : FnP K "_law_words" s_words f fd) (m : Md K mg) : FnGH P w K mg base 2 f fd ["_law_e"] (SpMF K (fun e' : Exn => m_words e') (fun r => .val (eX r))) := by
  refine fnGF_of (n := 1) F sc_words rfl (fun _ => .val) fun cdv A outer s H E p a od G e' B fo => ?_
  obtain ⟨oe, hp, zn, hf⟩ := B.pin
  have HC := B.hot
  have hd := B.hd
  refine JL.gd fun xo => ?_
  show JL _ _ [.pin (.ref a) (excS a od e'.flds), .hole] _ _ _ _
  refine JL.cons (JS.set (i := 1) sc_words.nd (JT.frz (JE.lstD (JA.cons (pt := false) (JE.isX (i := 0) rfl .given hp ⟨zn.1, zn.2.1⟩ hf (m.xf.c _ xo.1) m.isinstance m.cn_NoWeb (m.xf.k _ xo.1 _ (by decide)) (⟨.inl ⟨_, rfl⟩, fun z => z, JA.cons (pt := false) (JE.isX (i := 0) rfl .given hp ⟨zn.1, zn.2.1⟩ hf (m.xf.c _ xo.1) m.isinstance m.cn_TooMany (m.xf.k _ xo.1 _ (by decide)) (⟨.inl ⟨_, rfl⟩, fun z => z, JA.one (JE.isX (i := 0) rfl .given hp ⟨zn.1, zn.2.1⟩ hf (m.xf.c _ xo.1) m.isinstance m.cn_NoTie (m.xf.k _ xo.1 _ (by decide)) (⟨[_, _, _], rfl, Nat.le_of_ble_eq_true rfl, ⟨_, _, rfl, (.lst (.cons .val (.cons .val (.cons .val .nil)))), ⟨_, rfl, Nat.le_of_ble_eq_true rfl, ?h1⟩⟩⟩))⟩))⟩))))))
  refine JL.letv (Γf := fun kinds => [.pin (.ref a) (excS a od e'.flds), .val (eLB kinds)]) [(isXc e'.cls "NoWeb"), (isXc e'.cls "TooMany"), (isXc e'.cls "NoTie")] fun kinds => ?_
  show JL _ _ [.pin (.ref a) (excS a od e'.flds), .val (eLB kinds)] _ _ _ _
  refine JL.cons (JS.ite (JC.all (m := ((m_is_other e').bind fun r => cond r (.ok true) (cond (!true) (.ok true) (.ok (!decide (((kinds.count true : Nat) : Int) = 1)))) : Res Bool)) (by first | with_reducible rfl | rfl) (JC.bop (JW.or (JC.val (JE.callHG (i := 0) (h_is_other m) (B.room.mono (by decide)) hp hd zn hf (fun _ => .val) rfl (nrf_of xo) rfl (m_is_other_nex _) fun r _ => ⟨_, rfl, ⟨_, _, rfl, fun _ => ⟨rfl, rfl⟩, fun _ => JW.or (JC.not (JC.val (JE.isXT (i := 0) (T := "ValueError") rfl .given hp ⟨zn.1, zn.2.1⟩ hf (m.xf.c _ xo.1) m.isinstance m.ValueError (m.xf.v _ xo.1) (⟨_, rfl, ⟨_, _, rfl, fun _ => ⟨rfl, rfl⟩, fun _ => JW.or1 (JC.tot (JCt.cmp (Cmp.neI (JE.countF (en := PyData.bool) fltB (JE.var (i := 1) rfl ⟨.inl ⟨_, rfl⟩, kinds, true, (.own (soL (xs := kinds) (e := PyData.bool))), JE.bl ⟨rfl, rfl⟩, ⟨_, rfl, JE.int ⟨_, rfl, ⟨rfl, rfl⟩⟩⟩⟩)))) ⟨rfl, rfl⟩)⟩⟩))))⟩⟩)))) fun c _ => ⟨_, _, rfl, fun _ => ?h2, fun _ => ?h3⟩))
  case h2 =>
    exact JL.cons (JS.ret (JT.frz (JE.tupD (JA.one (JE.str ⟨[_], rfl, Nat.le_of_ble_eq_true rfl, _, _, rfl, .tup (.cons .val .nil), ⟨(eWS [("other" : PySem.Str)]), _, _, rfl, rfl, rfl, (by exact (.same (.drop .nil)))⟩⟩)))))
  case h3 =>
    refine JL.nil ?_
    show JL _ _ [.pin (.ref a) (excS a od e'.flds), .val (eLB kinds)] _ _ _ _
    refine JL.cons (JS.ite (JC.all (m := ((idx kinds 2).bind fun x => .ok x : Res Bool)) (by first | with_reducible rfl | rfl) (JC.val (JE.ixE (f := fun x => .val (PyData.bool x)) (t := false) (JE.var (i := 1) rfl ⟨.inl ⟨_, rfl⟩, JE.int ⟨_, rfl, _, _, (.own (soL (xs := kinds) (e := PyData.bool))), rfl, fun x _ => ⟨_, rfl, ⟨rfl, rfl⟩⟩⟩⟩))) fun c_2 _ => ⟨_, _, rfl, fun _ => ?h4, fun _ => ?h5⟩))
    case h4 =>
      exact JL.cons (JS.ret (JT.frz (JE.tupD (JA.cons (pt := false) (JE.str ⟨.inl ⟨_, rfl⟩, fun z => z, JA.one (JE.xfG (i := 0) (c := "NoTie") (en := PyData.int) (fun _ _ => decI_eq) (m.xf.c _ xo.1) m.no_NoTie_at hp ⟨zn.1, zn.2.1⟩ hf fo rfl fun y => ⟨[_, _], rfl, Nat.le_of_ble_eq_true rfl, _, _, rfl, .tup (.cons .val (.cons .val .nil)), ⟨(eT2SI (("tie" : PySem.Str), y)), _, _, rfl, rfl, rfl, (by exact (.same (.drop .nil)))⟩⟩)⟩)))))
    case h5 =>
      refine JL.nil ?_
      show JL _ _ [.pin (.ref a) (excS a od e'.flds), .val (eLB kinds)] _ _ _ _
      exact JL.cons (JS.ret (JT.frz (JE.tupD (JA.one (JE.ixE (f := fun x => .val (PyData.str x)) (t := false) (JE.lstD (JA.cons (pt := false) (JE.str ⟨.inl ⟨_, rfl⟩, fun z => z, JA.one (JE.str ⟨[_, _], rfl, Nat.le_of_ble_eq_true rfl, ⟨.inl ⟨_, rfl⟩, JE.indexF (en := PyData.bool) fltB (JE.var (i := 1) rfl ⟨.inl ⟨_, rfl⟩, kinds, true, fun j => (idx [("web" : PySem.Str), ("many" : PySem.Str)] j).bind fun x_2 => .ok (eWS [x_2]), (.own (soL (xs := kinds) (e := PyData.bool))), JE.bl ⟨rfl, rfl⟩, rfl, fun j => ⟨_, rfl, _, _, (.own (soM (xs := [("web" : PySem.Str), ("many" : PySem.Str)]) (e := PyData.str))), rfl, fun x_2 _ => ⟨[_], rfl, Nat.le_of_ble_eq_true rfl, _, _, rfl, .tup (.cons .val .nil), ⟨(eWS [x_2]), _, _, rfl, rfl, rfl, by exact (.same (.drop .nil))⟩⟩⟩⟩)⟩⟩)⟩))))))))
end
theorem h_words {X : Cx} (m : Md X.K X.mg) : HasF_ X "_law_words" 2 (fun e' : Exn => m_words e') (fun r => .val (eX r)) :=
  hasF_of (p0 := "_law_e") m.f_words (fun f fd F => g_words F m) (fun f fd F => F.bindsN fun _ _ _ _ _ _ us hl => match us, hl with | [_], _ => rfl)
def m_told (places : PyData) (ties : List (Int × Int)) : Res PyData := bindv [("let" : PySem.Str)] fun told_here => tryR ((m_made_web_2 places ties).bind fun r => .ok ()) (fun e' => gd (xok XC e') ((m_words e').bind fun r_2 => .ok r_2)) (fun (_ : Unit) => .ok (eWS told_here))
theorem m_told_nex (places : PyData) (ties : List (Int × Int)) : ∀ e, m_told places ties ≠ .ex e := nex_bindv fun _ => nex_try (fun e' => nex_gd (nex_bind (m_words_nex _) fun _ => nex_ok)) fun _ => nex_ok
theorem sc_told : FnScope ["_law_places", "_law_ties", "_law_told_here", "_law_e"] ["_law_places", "_law_ties"] (defScope s_told) := ⟨rfl, rfl, rfl, by decide +kernel, rfl, by decide +kernel, by decide +kernel⟩
section
variable {P : Program} {w : World} {K : PySem.W.Frag} {mg : Str → Option Value} {base : Heap} {f : Addr} {fd : FuncData}
theorem g_told (F : FnP K "_law_told" s_told f fd) (m : Md K mg) : FnG P w K mg base 5 f fd ["_law_places", "_law_ties"] (SpM K (fun a : PyData × (List (Int × Int)) => [.val (eX a.1), .val (eWT2II a.2)]) (fun a => m_told a.1 a.2) (fun _ r => .val (eX r)) (fun _ r => [.hole, .hole]) (fun _ => [.hole, .hole])) := by
  refine fnG_of (n := 2) F sc_told (fun _ => rfl) rfl (fun _ _ => .val) (fun _ _ => (.cons .hole (.cons .hole .nil))) (fun _ => (.cons .hole (.cons .hole .nil))) (fun a e h => absurd h (m_told_nex _ _ e)) fun cdv A outer s H vs E G a hvs B => ?_
  obtain ⟨places, ties⟩ := a
  match vs, hvs with
  | [_, _], _ => ?_
  refine ⟨[.val (eX places), .val (eWT2II ties)], [.hole, .hole, .hole, .hole], fun r => [.hole, .hole, .hole, .hole], (.keep (.keep .nil)), fun _ => (.hole (.hole .nil)), (.hole (.hole .nil)), ?_⟩
  show JL _ _ [.val (eX places), .val (eWT2II ties), .hole, .hole] _ _ _ _
  refine JL.cons (JS.set (i := 2) sc_told.nd (JT.frz (JE.tupD (JA.one (JE.str ⟨[_], rfl, Nat.le_of_ble_eq_true rfl, _, _, rfl, .tup (.cons .val .nil), ⟨_, rfl, Nat.le_of_ble_eq_true rfl, ?h1⟩⟩)))))
  refine JL.letv (Γf := fun told_here => [.val (eX places), .val (eWT2II ties), .val (eWS told_here), .hole]) [("let" : PySem.Str)] fun told_here => ?_
  show JL _ _ [.val (eX places), .val (eWT2II ties), .val (eWS told_here), .hole] _ _ _ _
  refine JL.cons (JS.tryAs (i := 3) (Γx := [.val (eX places), .val (eWT2II ties), .val (eWS told_here), .hole]) (β := Unit) rfl rfl sc_told.nd rfl rfl ⟨rfl, by decide, .inl m.cn_TreeError⟩ (show _ = tryR ((m_made_web_2 places ties).bind fun r => .ok ()) (fun e' => gd (xok XC e') ((m_words e').bind fun r_2 => .ok r_2)) (fun (_ : Unit) => .ok (eWS told_here)) from rfl) (fun e h => m.xf.t _ ((rx_bind (m_made_web_2_rx _ _) fun _ => rx_ok) e h).1) (fun e' => nex_gd (nex_bind (m_words_nex _) fun _ => nex_ok)) (fun pn xe E tk po => ?h4) (fun e' he ax odx pnx oex SC fo => ?h5) (fun w Γ' => ⟨(fun z => nomatch z), (fun z => nomatch z)⟩) (Nat.le_of_ble_eq_true rfl) rfl)
  case h4 =>
    show JL _ _ [.val (eX places), .val (eWT2II ties), .val (eWS told_here), .hole] _ _ _ _
    refine JL.cons (JS.expr (JE.callN (h_made_web_2 m) (B.room.mono (by decide)) (passesW tk) (JA.cons (pt := false) (JE.var (i := 0) rfl ⟨.inl ⟨_, rfl⟩, fun z => z, JA.one (JE.var (i := 1) rfl (Args.plain (places, ties) _ [false, false] (.own (.own .nil)) rfl rfl rfl (fun _ _ => (.same (.same (.same (.drop .nil))))) fun r _ => ?h2))⟩))))
    refine JL.nil ⟨(), rfl, ?_⟩
    show JL _ _ [.val (eX places), .val (eWT2II ties), .val (eWS told_here), .hole] _ _ _ _
    exact JL.cons (JS.ret (JE.var (i := 2) rfl ⟨(eWS told_here), _, _, rfl, rfl, rfl, (by exact (.drop (.drop (.drop (.drop .nil)))))⟩))
  case h5 =>
    obtain ⟨⟨oe, hp, zn, hf⟩, hd⟩ := SC
    refine JL.gd fun xo => ?_
    show JL _ _ [.val (eX places), .val (eWT2II ties), .val (eWS told_here), excS ax odx e'.flds] _ _ _ _
    refine JL.cons (JS.set (i := 2) sc_told.nd (JE.callF (i := 3) (h_words m) (roomX (B.room.mono (by decide))) hp hd zn hf (fun _ => .val) rfl (nrf_of xo) fo rfl (m_words_nex _) fun r_2 _ => ⟨_, rfl, Nat.le_of_ble_eq_true rfl, ?h3⟩))
    refine JL.nil ?_
    show JL _ _ [.val (eX places), .val (eWT2II ties), .val (eX r_2), .hole] _ _ _ _
    exact JL.cons (JS.ret (JE.var (i := 2) rfl ⟨r_2, _, _, rfl, rfl, rfl, (by exact (.drop (.drop (.drop (.drop .nil)))))⟩))
end
theorem h_told {X : Cx} (m : Md X.K X.mg) : Has X "_law_told" 5 (fun a : PyData × (List (Int × Int)) => [.val (eX a.1), .val (eWT2II a.2)]) (fun a => m_told a.1 a.2) (fun _ r => .val (eX r)) (fun _ r => [.hole, .hole]) (fun _ => [.hole, .hole]) :=
  has_of (ps := ["_law_places", "_law_ties"]) m.f_told (fun f fd F => g_told F m) (fun f fd F => F.bindsN fun _ _ _ _ _ _ us hl => match us, hl with | [_, _], _ => rfl) (fun _ _ => .val) (fun _ _ => (.cons .hole (.cons .hole .nil))) (fun _ => (.cons .hole (.cons .hole .nil))) (fun a e h => absurd h (m_told_nex _ _ e))
end HD

namespace HD
open PySem PySem.Spec PyProof.Rows L2 Tsa
/-! -/
abbrev svX : PyData → SD := fun x => .val (eX x)
abbrev slvX : List PyData → SD := fun xs => .lst (xs.map svX)
def m_told_2 (places : PyData) (ties : List PyData) : Res PyData := bindv [("let" : PySem.Str)] fun told_here => tryR ((m_made_web_3 places ties).bind fun r => .ok ()) (fun e' => gd (xok XC e') ((m_words e').bind fun r_2 => .ok r_2)) (fun (_ : Unit) => .ok (eWS told_here))
theorem m_told_2_nex (places : PyData) (ties : List PyData) : ∀ e, m_told_2 places ties ≠ .ex e := nex_bindv fun _ => nex_try (fun e' => nex_gd (nex_bind (m_words_nex _) fun _ => nex_ok)) fun _ => nex_ok
theorem sc_told_2 : FnScope ["_law_places", "_law_ties", "_law_told_here", "_law_e"] ["_law_places", "_law_ties"] (defScope s_told) := ⟨rfl, rfl, rfl, by decide +kernel, rfl, by decide +kernel, by decide +kernel⟩
section
variable {P : Program} {w : World} {K : PySem.W.Frag} {mg : Str → Option Value} {base : Heap} {f : Addr} {fd : FuncData}
theorem g_told_2 (F : FnP K "_law_told" s_told f fd) (m : Md K mg) : FnG P w K mg base 5 f fd ["_law_places", "_law_ties"] (SpM K (fun a : PyData × List PyData => [.val (eX a.1), .val (eLX a.2)]) (fun a => m_told_2 a.1 a.2) (fun _ r => .val (eX r)) (fun _ r => [.hole, .hole]) (fun _ => [.hole, .hole])) := by
  refine fnG_of (n := 2) F sc_told_2 (fun _ => rfl) rfl (fun _ _ => .val) (fun _ _ => (.cons .hole (.cons .hole .nil))) (fun _ => (.cons .hole (.cons .hole .nil))) (fun a e h => absurd h (m_told_2_nex _ _ e)) fun cdv A outer s H vs E G a hvs B => ?_
  obtain ⟨places, ties⟩ := a
  match vs, hvs with
  | [_, _], _ => ?_
  refine ⟨[.val (eX places), .val (eLX ties)], [.hole, .hole, .hole, .hole], fun r => [.hole, .hole, .hole, .hole], (.keep (.keep .nil)), fun _ => (.hole (.hole .nil)), (.hole (.hole .nil)), ?_⟩
  show JL _ _ [.val (eX places), .val (eLX ties), .hole, .hole] _ _ _ _
  refine JL.cons (JS.set (i := 2) sc_told_2.nd (JT.frz (JE.tupD (JA.one (JE.str ⟨[_], rfl, Nat.le_of_ble_eq_true rfl, _, _, rfl, .tup (.cons .val .nil), ⟨_, rfl, Nat.le_of_ble_eq_true rfl, ?h1⟩⟩)))))
  refine JL.letv (Γf := fun told_here => [.val (eX places), .val (eLX ties), .val (eWS told_here), .hole]) [("let" : PySem.Str)] fun told_here => ?_
  show JL _ _ [.val (eX places), .val (eLX ties), .val (eWS told_here), .hole] _ _ _ _
  refine JL.cons (JS.tryAs (i := 3) (Γx := [.val (eX places), .val (eLX ties), .val (eWS told_here), .hole]) (β := Unit) rfl rfl sc_told_2.nd rfl rfl ⟨rfl, by decide, .inl m.cn_TreeError⟩ (show _ = tryR ((m_made_web_3 places ties).bind fun r => .ok ()) (fun e' => gd (xok XC e') ((m_words e').bind fun r_2 => .ok r_2)) (fun (_ : Unit) => .ok (eWS told_here)) from rfl) (fun e h => m.xf.t _ ((rx_bind (m_made_web_3_rx _ _) fun _ => rx_ok) e h).1) (fun e' => nex_gd (nex_bind (m_words_nex _) fun _ => nex_ok)) (fun pn xe E tk po => ?h4) (fun e' he ax odx pnx oex SC fo => ?h5) (fun w Γ' => ⟨(fun z => nomatch z), (fun z => nomatch z)⟩) (Nat.le_of_ble_eq_true rfl) rfl)
  case h4 =>
    show JL _ _ [.val (eX places), .val (eLX ties), .val (eWS told_here), .hole] _ _ _ _
    refine JL.cons (JS.expr (JE.callN (h_made_web_3 m) (B.room.mono (by decide)) (passesW tk) (JA.cons (pt := false) (JE.var (i := 0) rfl ⟨.inl ⟨_, rfl⟩, fun z => z, JA.one (JE.var (i := 1) rfl (Args.plain (places, ties) _ [false, false] (.own (.own .nil)) rfl rfl rfl (fun _ _ => (.same (.same (.same (.drop .nil))))) fun r _ => ?h2))⟩))))
    refine JL.nil ⟨(), rfl, ?_⟩
    show JL _ _ [.val (eX places), .val (eLX ties), .val (eWS told_here), .hole] _ _ _ _
    exact JL.cons (JS.ret (JE.var (i := 2) rfl ⟨(eWS told_here), _, _, rfl, rfl, rfl, (by exact (.drop (.drop (.drop (.drop .nil)))))⟩))
  case h5 =>
    obtain ⟨⟨oe, hp, zn, hf⟩, hd⟩ := SC
    refine JL.gd fun xo => ?_
    show JL _ _ [.val (eX places), .val (eLX ties), .val (eWS told_here), excS ax odx e'.flds] _ _ _ _
    refine JL.cons (JS.set (i := 2) sc_told_2.nd (JE.callF (i := 3) (h_words m) (roomX (B.room.mono (by decide))) hp hd zn hf (fun _ => .val) rfl (nrf_of xo) fo rfl (m_words_nex _) fun r_2 _ => ⟨_, rfl, Nat.le_of_ble_eq_true rfl, ?h3⟩))
    refine JL.nil ?_
    show JL _ _ [.val (eX places), .val (eLX ties), .val (eX r_2), .hole] _ _ _ _
    exact JL.cons (JS.ret (JE.var (i := 2) rfl ⟨r_2, _, _, rfl, rfl, rfl, (by exact (.drop (.drop (.drop (.drop .nil)))))⟩))
end
theorem h_told_2 {X : Cx} (m : Md X.K X.mg) : Has X "_law_told" 5 (fun a : PyData × List PyData => [.val (eX a.1), .val (eLX a.2)]) (fun a => m_told_2 a.1 a.2) (fun _ r => .val (eX r)) (fun _ r => [.hole, .hole]) (fun _ => [.hole, .hole]) :=
  has_of (ps := ["_law_places", "_law_ties"]) m.f_told (fun f fd F => g_told_2 F m) (fun f fd F => F.bindsN fun _ _ _ _ _ _ us hl => match us, hl with | [_, _], _ => rfl) (fun _ _ => .val) (fun _ _ => (.cons .hole (.cons .hole .nil))) (fun _ => (.cons .hole (.cons .hole .nil))) (fun a e h => absurd h (m_told_2_nex _ _ e))
def m_told_3 (places : PyData) (ties : List PyData) : Res PyData := bindv [("let" : PySem.Str)] fun told_here => tryR ((m_made_web_4 places ties).bind fun r => .ok ()) (fun e' => gd (xok XC e') ((m_words e').bind fun r_2 => .ok r_2)) (fun (_ : Unit) => .ok (eWS told_here))
theorem m_told_3_nex (places : PyData) (ties : List PyData) : ∀ e, m_told_3 places ties ≠ .ex e := nex_bindv fun _ => nex_try (fun e' => nex_gd (nex_bind (m_words_nex _) fun _ => nex_ok)) fun _ => nex_ok
theorem sc_told_3 : FnScope ["_law_places", "_law_ties", "_law_told_here", "_law_e"] ["_law_places", "_law_ties"] (defScope s_told) := ⟨rfl, rfl, rfl, by decide +kernel, rfl, by decide +kernel, by decide +kernel⟩
section
variable {P : Program} {w : World} {K : PySem.W.Frag} {mg : Str → Option Value} {base : Heap} {f : Addr} {fd : FuncData}
theorem g_told_3 (F : FnP K "_law_told" s_told f fd) (m : Md K mg) : FnG P w K mg base 5 f fd ["_law_places", "_law_ties"] (SpM K (fun a : PyData × List PyData => [.val (eX a.1), .val (eWX a.2)]) (fun a => m_told_3 a.1 a.2) (fun _ r => .val (eX r)) (fun _ r => [.hole, .hole]) (fun _ => [.hole, .hole])) := by
  refine fnG_of (n := 2) F sc_told_3 (fun _ => rfl) rfl (fun _ _ => .val) (fun _ _ => (.cons .hole (.cons .hole .nil))) (fun _ => (.cons .hole (.cons .hole .nil))) (fun a e h => absurd h (m_told_3_nex _ _ e)) fun cdv A outer s H vs E G a hvs B => ?_
  obtain ⟨places, ties⟩ := a
  match vs, hvs with
  | [_, _], _ => ?_
  refine ⟨[.val (eX places), .val (eWX ties)], [.hole, .hole, .hole, .hole], fun r => [.hole, .hole, .hole, .hole], (.keep (.keep .nil)), fun _ => (.hole (.hole .nil)), (.hole (.hole .nil)), ?_⟩
  show JL _ _ [.val (eX places), .val (eWX ties), .hole, .hole] _ _ _ _
  refine JL.cons (JS.set (i := 2) sc_told_3.nd (JT.frz (JE.tupD (JA.one (JE.str ⟨[_], rfl, Nat.le_of_ble_eq_true rfl, _, _, rfl, .tup (.cons .val .nil), ⟨_, rfl, Nat.le_of_ble_eq_true rfl, ?h1⟩⟩)))))
  refine JL.letv (Γf := fun told_here => [.val (eX places), .val (eWX ties), .val (eWS told_here), .hole]) [("let" : PySem.Str)] fun told_here => ?_
  show JL _ _ [.val (eX places), .val (eWX ties), .val (eWS told_here), .hole] _ _ _ _
  refine JL.cons (JS.tryAs (i := 3) (Γx := [.val (eX places), .val (eWX ties), .val (eWS told_here), .hole]) (β := Unit) rfl rfl sc_told_3.nd rfl rfl ⟨rfl, by decide, .inl m.cn_TreeError⟩ (show _ = tryR ((m_made_web_4 places ties).bind fun r => .ok ()) (fun e' => gd (xok XC e') ((m_words e').bind fun r_2 => .ok r_2)) (fun (_ : Unit) => .ok (eWS told_here)) from rfl) (fun e h => m.xf.t _ ((rx_bind (m_made_web_4_rx _ _) fun _ => rx_ok) e h).1) (fun e' => nex_gd (nex_bind (m_words_nex _) fun _ => nex_ok)) (fun pn xe E tk po => ?h4) (fun e' he ax odx pnx oex SC fo => ?h5) (fun w Γ' => ⟨(fun z => nomatch z), (fun z => nomatch z)⟩) (Nat.le_of_ble_eq_true rfl) rfl)
  case h4 =>
    show JL _ _ [.val (eX places), .val (eWX ties), .val (eWS told_here), .hole] _ _ _ _
    refine JL.cons (JS.expr (JE.callN (h_made_web_4 m) (B.room.mono (by decide)) (passesW tk) (JA.cons (pt := false) (JE.var (i := 0) rfl ⟨.inl ⟨_, rfl⟩, fun z => z, JA.one (JE.var (i := 1) rfl (Args.plain (places, ties) _ [false, false] (.own (.own .nil)) rfl rfl rfl (fun _ _ => (.same (.same (.same (.drop .nil))))) fun r _ => ?h2))⟩))))
    refine JL.nil ⟨(), rfl, ?_⟩
    show JL _ _ [.val (eX places), .val (eWX ties), .val (eWS told_here), .hole] _ _ _ _
    exact JL.cons (JS.ret (JE.var (i := 2) rfl ⟨(eWS told_here), _, _, rfl, rfl, rfl, (by exact (.drop (.drop (.drop (.drop .nil)))))⟩))
  case h5 =>
    obtain ⟨⟨oe, hp, zn, hf⟩, hd⟩ := SC
    refine JL.gd fun xo => ?_
    show JL _ _ [.val (eX places), .val (eWX ties), .val (eWS told_here), excS ax odx e'.flds] _ _ _ _
    refine JL.cons (JS.set (i := 2) sc_told_3.nd (JE.callF (i := 3) (h_words m) (roomX (B.room.mono (by decide))) hp hd zn hf (fun _ => .val) rfl (nrf_of xo) fo rfl (m_words_nex _) fun r_2 _ => ⟨_, rfl, Nat.le_of_ble_eq_true rfl, ?h3⟩))
    refine JL.nil ?_
    show JL _ _ [.val (eX places), .val (eWX ties), .val (eX r_2), .hole] _ _ _ _
    exact JL.cons (JS.ret (JE.var (i := 2) rfl ⟨r_2, _, _, rfl, rfl, rfl, (by exact (.drop (.drop (.drop (.drop .nil)))))⟩))
end
theorem h_told_3 {X : Cx} (m : Md X.K X.mg) : Has X "_law_told" 5 (fun a : PyData × List PyData => [.val (eX a.1), .val (eWX a.2)]) (fun a => m_told_3 a.1 a.2) (fun _ r => .val (eX r)) (fun _ r => [.hole, .hole]) (fun _ => [.hole, .hole]) :=
  has_of (ps := ["_law_places", "_law_ties"]) m.f_told (fun f fd F => g_told_3 F m) (fun f fd F => F.bindsN fun _ _ _ _ _ _ us hl => match us, hl with | [_, _], _ => rfl) (fun _ _ => .val) (fun _ _ => (.cons .hole (.cons .hole .nil))) (fun _ => (.cons .hole (.cons .hole .nil))) (fun a e h => absurd h (m_told_3_nex _ _ e))
def f_law_1 (places : Int) (x_2 : Int) (pot_here : Int × Int) (bad_2 : List PyData) : Res ((Int × Int) × List PyData) := (m_odd pot_here places).bind fun r_6 => (m_take r_6.2 ((bad_2.length : Int) + 1)).bind fun r_7 => gd (0 ≤ r_7.1 ∧ r_7.1 < 2 ^ 62 ∧ bad_2.length < 16000000) (bindv (bad_2.take r_7.1.toNat ++ [r_6.1] ++ bad_2.drop r_7.1.toNat) fun bad_3 => .ok (r_7.2, bad_3))
def c_law_15 (places : Int) (x_3 : PyData × Nat) : Res (Option Int × Unit) := ((m_l_is_pair places x_3.1).bind fun r_8 => .ok (!r_8, ()) : Res (Bool × Unit)).bind fun r' => cond r'.1 ((fun _ => .ok (some (x_3.2 : Int), ())) r'.2) (.ok (none, r'.2))
def f_law_16 (script : List Int) (x : Int) : Res (Lp Unit Bool) := (m_pot script x).bind fun r => (m_take r 9).bind fun r_2 => bindv (1 + r_2.1) fun places => (m_no_places r_2.2).bind fun r_3 => (m_pairs r_3.2 places).bind fun r_4 => bindv (cutG r_4.1 none (some 27)) fun bad => (m_take r_4.2 3).bind fun r_5 => gd (rngOk 0 (1 + r_5.1)) ((forS (fun x' t => f_law_1 places x' t.1 t.2) (rangeL 0 (1 + r_5.1)) (r_5.2, (bad.map eT2II))).bind fun (pot_here_2, bad_4) => gd (showX (eLX bad_4) = true) (bindv ((eLX bad_4).shown) fun kept => (compL (fun x' _ => c_law_15 places x') (bad_4.zipIdx) ()).bind fun r_9 => (idx r_9.1 0).bind fun x_4 => gd ((0 : Int) ≤ 40 ∧ 40 ≤ (1000 : Int) ∧ (bad_4 : List PyData).length ≤ 1000) ((m_take pot_here_2 10).bind fun r_11 => bindv (cutG (repD (40 : Int).toNat bad_4) none (some (31 + r_11.1))) fun long => (m_told_2 r_3.1 long).bind fun r_12 => (m_told r_3.1 bad).bind fun r_13 => (m_told_2 (PyData.int places) long).bind fun r_14 => (m_told_2 (PyData.int places) bad_4).bind fun r_15 => bindv [r_12, r_13, r_14, r_15] fun told_here => (gd (showX (eLX told_here) = true) (gd (showX (eLX [(eWS [("web" : PySem.Str)]), (eWS [("web" : PySem.Str)]), (eWS [("many" : PySem.Str)]), (eT2SI (("tie" : PySem.Str), x_4))]) = true) (cond (!decide ((eLX told_here).shown = (eLX [(eWS [("web" : PySem.Str)]), (eWS [("web" : PySem.Str)]), (eWS [("many" : PySem.Str)]), (eT2SI (("tie" : PySem.Str), x_4))]).shown)) (.ok true) (gd (showX (eLX bad_4) = true) (.ok (!decide ((eLX bad_4).shown = kept))))))).bind fun c => cond c (.ok (.rt false)) (((m_told_3 (PyData.int places) bad_4).bind fun r_16 => gd (showX (eX r_16) = true) (gd (showOk (eT2SI (("tie" : PySem.Str), x_4)) = true) (.ok (!decide ((eX r_16).shown = (eT2SI (("tie" : PySem.Str), x_4)).shown))))).bind fun c_2 => cond c_2 (.ok (.rt false)) (bindv (places, (bad.map fun x_5 => ((min x_5.1 x_5.2), (max x_5.1 x_5.2)))) fun due => (gd ((0 : Int) ≤ 30 ∧ 30 ≤ (1000 : Int) ∧ (bad : List (Int × Int)).length ≤ 1000) ((m_told (PyData.int places) (cutG (repD (30 : Int).toNat bad) none (some 30))).bind fun r_17 => gd (SeqAt.shaped (eX r_17) = true ∧ SeqAt.shaped (eWS [("let" : PySem.Str)]) = true) (cond (!PyData.eqv (eX r_17) (eWS [("let" : PySem.Str)])) (.ok true) ((m_made_web places bad).bind fun r_18 => .ok (!decide (r_18 = due)))))).bind fun c_3 => cond c_3 (.ok (.rt false)) (.ok (.nx ())))))))
def m_law (script : List Int) : Res Bool := gd (rngOk 0 (max 1 (min 8 (script.length : Int)))) ((forL (fun x' _ => f_law_16 script x') (rangeL 0 (max 1 (min 8 (script.length : Int)))) ()).bind (orW fun _ => .ok true))
theorem m_law_nex (script : List Int) : ∀ e, m_law script ≠ .ex e := nex_gd (nex_bind (forL_nex (fun _ _ => nex_bind (m_pot_nex _ _) fun _ => nex_bind (m_take_nex _ _) fun _ => nex_bindv fun _ => nex_bind (m_no_places_nex _) fun _ => nex_bind (m_pairs_nex _ _) fun _ => nex_bindv fun _ => nex_bind (m_take_nex _ _) fun _ => nex_gd (nex_bind (forS_nex (fun _ _ => nex_bind (m_odd_nex _ _) fun _ => nex_bind (m_take_nex _ _) fun _ => nex_gd (nex_bindv fun _ => nex_ok)) _ _) fun _ => nex_gd (nex_bindv fun _ => nex_bind (compL_nex _ _) fun _ => nex_bind idx_nex fun _ => nex_gd (nex_bind (m_take_nex _ _) fun _ => nex_bindv fun _ => nex_bind (m_told_2_nex _ _) fun _ => nex_bind (m_told_nex _ _) fun _ => nex_bind (m_told_2_nex _ _) fun _ => nex_bind (m_told_2_nex _ _) fun _ => nex_bindv fun _ => nex_bind (nex_gd (nex_gd (nex_cond (nex_ok) (nex_gd (nex_ok))))) fun _ => nex_cond (nex_ok) (nex_bind (nex_bind (m_told_3_nex _ _) fun _ => nex_gd (nex_gd (nex_ok))) fun _ => nex_cond (nex_ok) (nex_bindv fun _ => nex_bind (nex_gd (nex_bind (m_told_nex _ _) fun _ => nex_gd (nex_cond (nex_ok) (nex_bind (m_made_web_nex _ _) fun _ => nex_ok)))) fun _ => nex_cond (nex_ok) (nex_ok))))))) _ _) (nex_orW fun _ => nex_ok))
theorem sc_law : FnScope ["_law_script", "_law_k", "_law_pot_here", "_law_places", "_law_none", "_law_bad", "_law_pairs_here", "_law_turn", "_law_odd_here", "_law_kept", "_law_first", "_law_at", "_law_thing", "_law_long", "_law_told_here", "_law_due", "_law_pair_here"] ["_law_script"] (defScope s_law) := ⟨rfl, rfl, rfl, by decide +kernel, rfl, by decide +kernel, by decide +kernel⟩
section
variable {P : Program} {w : World} {K : PySem.W.Frag} {mg : Str → Option Value} {base : Heap} {f : Addr} {fd : FuncData}
theorem g_law (F : FnP K "law" s_law f fd) (m : Md K mg) : FnG P w K mg base 6 f fd ["_law_script"] (SpM K (fun a : List Int => [.val (eLI a)]) (fun a => m_law a) (fun _ r => .val (PyData.bool r)) (fun _ r => [.hole]) (fun _ => [.hole])) := by
  refine fnG_of (n := 16) F sc_law (fun _ => rfl) rfl (fun _ _ => .val) (fun _ _ => (.cons .hole .nil)) (fun _ => (.cons .hole .nil)) (fun a e h => absurd h (m_law_nex _ e)) fun cdv A outer s H vs E G script hvs B => ?_
  match vs, hvs with
  | [_], _ => ?_
  refine ⟨[.val (eLI script)], [.hole, .hole, .hole, .hole, .hole, .hole, .hole, .hole, .hole, .hole, .hole, .hole, .hole, .hole, .hole, .hole, .hole], fun r => [.hole, .hole, .hole, .hole, .hole, .hole, .hole, .hole, .hole, .hole, .hole, .hole, .hole, .hole, .hole, .hole, .hole], (.keep .nil), fun _ => (.hole .nil), (.hole .nil), ?_⟩
  show JL _ _ [.val (eLI script), .hole, .hole, .hole, .hole, .hole, .hole, .hole, .hole, .hole, .hole, .hole, .hole, .hole, .hole, .hole, .hole] _ _ _ _
  refine JL.cons (JS.for_ B.own B.calm (JSrc.rng1 m.range (JE.max2 B.calm m.max (JE.int ⟨_, rfl, JE.min2 B.calm m.min (JE.int ⟨_, rfl, JE.len m.len (JE.var (i := 0) rfl ⟨script.length, (.seq (.own (soL (xs := script) (e := PyData.int))) (List.length_map _)), ⟨_, rfl, ⟨_, rfl, ⟨_, rfl, gdI ⟨Int, Unit, (rangeL 0 (max 1 (min 8 (script.length : Int)))), fun i => .val (.int i), fun x' _ => f_law_16 script x', (), fun (_ : Unit) => [.val (eLI script), .hole, .hole, .hole, .hole, .hole, .hole, .hole, .hole, .hole, .hole, .hole, .hole, .hole, .hole, .hole, .hole], _, rfl, rfl, (.same (.drop (.drop (.drop (.drop (.drop (.drop (.drop (.drop (.drop (.drop (.drop (.drop (.drop (.drop (.drop (.drop .nil))))))))))))))))), fun x _ => ?h1, fun _ => ?h2⟩⟩⟩⟩⟩)⟩)⟩))))
  case h1 =>
    refine JG.name (i := 1) ?_ sc_law.nd
    show JL _ _ [.val (eLI script), .val (PyData.int x), .hole, .hole, .hole, .hole, .hole, .hole, .hole, .hole, .hole, .hole, .hole, .hole, .hole, .hole, .hole] _ _ _ _
    refine JL.cons (JS.set (i := 2) sc_law.nd (JE.callN (h_pot m) (B.room.mono (by decide)) B.pass (JA.cons (pt := false) (JE.var (i := 0) rfl ⟨.inl ⟨_, rfl⟩, fun z => z, JA.one (JE.var (i := 1) rfl (Args.plain (script, x) _ [false, false] (.own (.own .nil)) rfl rfl rfl (fun e z => absurd z (m_pot_nex _ _ e)) fun r _ => ⟨_, rfl, Nat.le_of_ble_eq_true rfl, ?h3⟩))⟩))))
    show JL _ _ [.val (eLI script), .val (PyData.int x), potS r, .hole, .hole, .hole, .hole, .hole, .hole, .hole, .hole, .hole, .hole, .hole, .hole, .hole, .hole] _ _ _ _
    refine JL.cons (JS.set (i := 3) sc_law.nd (JE.add (JE.int ⟨_, rfl, JE.callN (h_take m) (B.room.mono (by decide)) B.pass (JA.cons (pt := false) (JE.slot (i := 2) rfl ⟨.inr (.inl ⟨_, rfl⟩), fun z => z, JA.one (JE.int ⟨(r, 9), _, [true, false], _, _, _, (.cons rfl (.plain pot_ne) .nil), (.inout (.own .nil)), (List.append_nil _).symm, rfl, fun e z => absurd z (m_take_nex _ _ e), ft, fun r_2 _ => ⟨_, rfl, ⟨_, rfl, Nat.le_of_ble_eq_true rfl, ?h4⟩⟩⟩)⟩))⟩)))
    refine JL.letv (Γf := fun places => [.val (eLI script), .val (PyData.int x), potS r_2.2, .val (PyData.int places), .hole, .hole, .hole, .hole, .hole, .hole, .hole, .hole, .hole, .hole, .hole, .hole, .hole]) (1 + r_2.1) fun places => ?_
    show JL _ _ [.val (eLI script), .val (PyData.int x), potS r_2.2, .val (PyData.int places), .hole, .hole, .hole, .hole, .hole, .hole, .hole, .hole, .hole, .hole, .hole, .hole, .hole] _ _ _ _
    refine JL.cons (JS.set (i := 4) sc_law.nd (JE.callN (h_no_places m) (B.room.mono (by decide)) B.pass (JA.one (JE.slot (i := 2) rfl ⟨r_2.2, _, [true], _, _, _, (.cons rfl (.plain pot_ne) .nil), (.inout .nil), (List.append_nil _).symm, rfl, fun e z => absurd z (m_no_places_nex _ e), ft, fun r_3 _ => ⟨_, rfl, Nat.le_of_ble_eq_true rfl, ?h5⟩⟩))))
    show JL _ _ [.val (eLI script), .val (PyData.int x), potS r_3.2, .val (PyData.int places), .val (eX r_3.1), .hole, .hole, .hole, .hole, .hole, .hole, .hole, .hole, .hole, .hole, .hole, .hole] _ _ _ _
    refine JL.cons (JS.set (i := 5) sc_law.nd (JE.sliceLT (f := fun x => .val (eT2II x)) (JE.callN (h_pairs m) (B.room.mono (by decide)) B.pass (JA.cons (pt := false) (JE.slot (i := 2) rfl ⟨.inr (.inl ⟨_, rfl⟩), fun z => z, JA.one (JE.var (i := 3) rfl ⟨(r_3.2, places), _, [true, false], _, _, _, (.cons rfl (.plain pot_ne) .nil), (.inout (.own .nil)), (List.append_nil _).symm, rfl, fun e z => absurd z (m_pairs_nex _ _ e), ft, fun r_4 _ => ⟨.inl ⟨_, rfl⟩, _, _, _, (.own (soM (xs := r_4.1) (e := eT2II))), .no, (.at (JE.int ⟨rfl, rfl⟩)), ⟨_, rfl, Nat.le_of_ble_eq_true rfl, ?h6⟩⟩⟩)⟩)))))
    refine JL.letv (Γf := fun bad => [.val (eLI script), .val (PyData.int x), potS r_4.2, .val (PyData.int places), .val (eX r_3.1), slvT2II bad, .hole, .hole, .hole, .hole, .hole, .hole, .hole, .hole, .hole, .hole, .hole]) (cutG r_4.1 none (some 27)) fun bad => ?_
    show JL _ _ [.val (eLI script), .val (PyData.int x), potS r_4.2, .val (PyData.int places), .val (eX r_3.1), slvT2II bad, .hole, .hole, .hole, .hole, .hole, .hole, .hole, .hole, .hole, .hole, .hole] _ _ _ _
    refine JL.cons (JS.set (i := 6) sc_law.nd (JT.frz (JE.tupleL m.tuple (JE.slot (i := 5) rfl ⟨_, (.at (i := 5) rfl (soM (xs := bad) (e := eT2II))), _, _, rfl, .tup (.map fun _ => .val), ⟨_, rfl, Nat.le_of_ble_eq_true rfl, ?h7⟩⟩))))
    show JL _ _ [.val (eLI script), .val (PyData.int x), potS r_4.2, .val (PyData.int places), .val (eX r_3.1), slvT2II bad, .val (eWT2II bad), .hole, .hole, .hole, .hole, .hole, .hole, .hole, .hole, .hole, .hole] _ _ _ _
    refine JL.told (Γ' := [.val (eLI script), .val (PyData.int x), potS r_4.2, .val (PyData.int places), .val (eX r_3.1), slvX (bad.map eT2II), .val (eWT2II bad), .hole, .hole, .hole, .hole, .hole, .hole, .hole, .hole, .hole, .hole]) (congrArg (fun s_ => [.val (eLI script), .val (PyData.int x), potS r_4.2, .val (PyData.int places), .val (eX r_3.1), s_, .val (eWT2II bad), .hole, .hole, .hole, .hole, .hole, .hole, .hole, .hole, .hole, .hole]) (lstX (f := eT2II) (xs := bad))) ?_
    show JL _ _ [.val (eLI script), .val (PyData.int x), potS r_4.2, .val (PyData.int places), .val (eX r_3.1), slvX (bad.map eT2II), .val (eWT2II bad), .hole, .hole, .hole, .hole, .hole, .hole, .hole, .hole, .hole, .hole] _ _ _ _
    refine JL.cons (JS.forS B.own B.calm (JSrc.rng1 m.range (JE.add (JE.int ⟨_, rfl, JE.callN (h_take m) (B.room.mono (by decide)) B.pass (JA.cons (pt := false) (JE.slot (i := 2) rfl ⟨.inr (.inl ⟨_, rfl⟩), fun z => z, JA.one (JE.int ⟨(r_4.2, 3), _, [true, false], _, _, _, (.cons rfl (.plain pot_ne) .nil), (.inout (.own .nil)), (List.append_nil _).symm, rfl, fun e z => absurd z (m_take_nex _ _ e), ft, fun r_5 _ => ⟨_, rfl, ⟨_, rfl, gdI ⟨Int, (Int × Int) × List PyData, (rangeL 0 (1 + r_5.1)), fun i => .val (.int i), fun x' t => f_law_1 places x' t.1 t.2, (r_5.2, (bad.map eT2II)), fun (pot_here, bad_2) => [.val (eLI script), .val (PyData.int x), potS pot_here, .val (PyData.int places), .val (eX r_3.1), slvX bad_2, .val (eWT2II bad), .hole, .hole, .hole, .hole, .hole, .hole, .hole, .hole, .hole, .hole], _, rfl, rfl, (by exact (.same (.same (.same (.same (.same (.same (.same (.drop (.drop (.drop (.drop (.drop (.drop (.drop (.drop (.drop (.drop .nil)))))))))))))))))), fun x_2 t => ?h8, fun t_3 => ?h9⟩⟩⟩⟩)⟩))⟩))))
    case h8 =>
      obtain ⟨pot_here, bad_2⟩ := t
      refine JG.name (i := 7) ?_ sc_law.nd
      show JL _ _ [.val (eLI script), .val (PyData.int x), potS pot_here, .val (PyData.int places), .val (eX r_3.1), slvX bad_2, .val (eWT2II bad), .val (PyData.int x_2), .hole, .hole, .hole, .hole, .hole, .hole, .hole, .hole, .hole] _ _ _ _
      refine JL.cons (JS.set (i := 8) sc_law.nd (JE.callN (h_odd m) (B.room.mono (by decide)) B.pass (JA.cons (pt := false) (JE.slot (i := 2) rfl ⟨.inr (.inl ⟨_, rfl⟩), fun z => z, JA.one (JE.var (i := 3) rfl ⟨(pot_here, places), _, [true, false], _, _, _, (.cons rfl (.plain pot_ne) .nil), (.inout (.own .nil)), (List.append_nil _).symm, rfl, fun e z => absurd z (m_odd_nex _ _ e), ft, fun r_6 _ => ⟨_, rfl, Nat.le_of_ble_eq_true rfl, ?h10⟩⟩)⟩))))
      show JL _ _ [.val (eLI script), .val (PyData.int x), potS r_6.2, .val (PyData.int places), .val (eX r_3.1), slvX bad_2, .val (eWT2II bad), .val (PyData.int x_2), .val (eX r_6.1), .hole, .hole, .hole, .hole, .hole, .hole, .hole, .hole] _ _ _ _
      refine JL.cons (JS.expr (JE.insertT (f := svX) (i := 5) rfl .lst (JE.callN (h_take m) (B.room.mono (by decide)) B.pass (JA.cons (pt := false) (JE.slot (i := 2) rfl ⟨.inr (.inl ⟨_, rfl⟩), fun z => z, JA.one (JE.add (JE.len m.len (JE.slot (i := 5) rfl ⟨bad_2.length, (.seq (.at (i := 5) rfl (soM (xs := bad_2) (e := eX))) (List.length_map _)), ⟨_, rfl, JE.int ⟨_, rfl, ⟨(r_6.2, ((bad_2.length : Int) + 1)), _, [true, false], _, _, _, (.cons rfl (.plain pot_ne) .nil), (.inout (.own .nil)), (List.append_nil _).symm, rfl, fun e z => absurd z (m_take_nex _ _ e), ft, fun r_7 _ => ⟨_, rfl, JE.var (i := 8) rfl ⟨_, _, bad_2, r_6.1, _, rfl, rfl, .lst, gd_ok, ?h11⟩⟩⟩⟩⟩⟩)))⟩)))))
      refine JL.letv (Γf := fun bad_3 => [.val (eLI script), .val (PyData.int x), potS r_7.2, .val (PyData.int places), .val (eX r_3.1), slvX bad_3, .val (eWT2II bad), .val (PyData.int x_2), .val (eX r_6.1), .hole, .hole, .hole, .hole, .hole, .hole, .hole, .hole]) (bad_2.take r_7.1.toNat ++ [r_6.1] ++ bad_2.drop r_7.1.toNat) fun bad_3 => ?_
      exact JL.nil ⟨(r_7.2, bad_3), rfl, (.same (.same (.same (.same (.same (.same (.same (.drop (.drop (.drop (.drop (.drop (.drop (.drop (.drop (.drop (.drop .nil)))))))))))))))))⟩
    case h9 =>
      obtain ⟨pot_here_2, bad_4⟩ := t_3
      show JL _ _ [.val (eLI script), .val (PyData.int x), potS pot_here_2, .val (PyData.int places), .val (eX r_3.1), slvX bad_4, .val (eWT2II bad), .hole, .hole, .hole, .hole, .hole, .hole, .hole, .hole, .hole, .hole] _ _ _ _
      refine JL.frz (i := 5) rfl (.lst (.map fun _ => .val)) ?_
      show JL _ _ [.val (eLI script), .val (PyData.int x), potS pot_here_2, .val (PyData.int places), .val (eX r_3.1), .val (eLX bad_4), .val (eWT2II bad), .hole, .hole, .hole, .hole, .hole, .hole, .hole, .hole, .hole, .hole] _ _ _ _
      refine JL.cons (JS.set (i := 9) sc_law.nd (JE.reprX m.xf.md B.room m.repr (JE.var (i := 5) rfl ⟨(eLX bad_4), _, (.own .val), gd_ok, ⟨_, rfl, Nat.le_of_ble_eq_true rfl, ?h12⟩⟩)))
      refine JL.letv (Γf := fun kept => [.val (eLI script), .val (PyData.int x), potS pot_here_2, .val (PyData.int places), .val (eX r_3.1), .val (eLX bad_4), .val (eWT2II bad), .hole, .hole, .val (PyData.str kept), .hole, .hole, .hole, .hole, .hole, .hole, .hole]) ((eLX bad_4).shown) fun kept => ?_
      show JL _ _ [.val (eLI script), .val (PyData.int x), potS pot_here_2, .val (PyData.int places), .val (eX r_3.1), .val (eLX bad_4), .val (eWT2II bad), .hole, .hole, .val (PyData.str kept), .hole, .hole, .hole, .hole, .hole, .hole, .hole] _ _ _ _
      refine JL.cons (JS.set (i := 10) sc_law.nd (JE.ixE (f := fun x => .val (PyData.int x)) (t := false) (JE.ofLc (own' := [("_law_at", 11), ("_law_thing", 12)]) B.calm sc_law.nd (blkOk_by (by kernel_rfl)) (JT.comp (JSrc.enL m.enumerate (JE.var (i := 5) rfl ⟨_, bad_4, rfl, (soL (xs := bad_4) (e := eX)), ⟨PyData × Nat, Int, Unit, (bad_4.zipIdx), fun q => .val (.tuple [.int (q.2 : Nat), eX q.1]), fun x' _ => c_law_15 places x', (), fun _ => [.val (eLI script), .val (PyData.int x), potS pot_here_2, .val (PyData.int places), .val (eX r_3.1), .val (eLX bad_4), .val (eWT2II bad), .hole, .hole, .val (PyData.str kept), .hole, .hole, .hole, .hole, .hole, .hole, .hole], fun y => .val (PyData.int y), _, rfl, rfl, Le.refl, ft, fun _ => (.hole rfl (.hole rfl .nil)), fun x_3 _ => ⟨[.val (eLI script), .val (PyData.int x), potS pot_here_2, .val (PyData.int places), .val (eX r_3.1), .val (eLX bad_4), .val (eWT2II bad), .hole, .hole, .val (PyData.str kept), .hole, .val (PyData.int (x_3.2 : Int)), .val (eX x_3.1), .hole, .hole, .hole, .hole], Le.refl, fun s H Ca cl fp => JG.tupV B.calm (JGs.cons (JG.name (i := 11) (JGs.cons (JG.name (i := 12) (JGs.nil rfl) sc_law.nd)) sc_law.nd)), ((m_l_is_pair places x_3.1).bind fun r_8 => .ok (!r_8, ()) : Res (Bool × Unit)), (fun _ => .ok (some (x_3.2 : Int), ())), fun _ => [.val (eLI script), .val (PyData.int x), potS pot_here_2, .val (PyData.int places), .val (eX r_3.1), .val (eLX bad_4), .val (eWT2II bad), .hole, .hole, .val (PyData.str kept), .hole, .val (PyData.int (x_3.2 : Int)), .val (eX x_3.1), .hole, .hole, .hole, .hole], rfl, fun _ => Le.refl, fun s H Ca cl fp => JC.not (JC.val (JE.callN (h_l_is_pair m) (B.room.mono (by decide)) passN (JA.cons (pt := false) (JE.var (i := 3) rfl ⟨.inl ⟨_, rfl⟩, fun z => z, JA.one (JE.var (i := 12) rfl (Args.plain (places, x_3.1) _ [false, false] (.own (.own .nil)) rfl rfl rfl (fun e z => absurd z (m_l_is_pair_nex _ _ e)) fun r_8 _ => ⟨_, rfl, ⟨(), rfl, rfl⟩⟩))⟩)))), fun _ => fun s H Ca cl fp => JE.var (i := 11) rfl ⟨(x_3.2 : Int), (), rfl, rfl, Le.refl⟩⟩, fun r_9 _ => ⟨.inl ⟨_, rfl⟩, JE.int ⟨_, rfl, _, _, (.own (soM (xs := r_9.1) (e := PyData.int))), rfl, fun x_4 _ => ⟨_, rfl, Nat.le_of_ble_eq_true rfl, ?h13⟩⟩⟩⟩⟩))))))
      show JL _ _ [.val (eLI script), .val (PyData.int x), potS pot_here_2, .val (PyData.int places), .val (eX r_3.1), .val (eLX bad_4), .val (eWT2II bad), .hole, .hole, .val (PyData.str kept), .val (PyData.int x_4), .hole, .hole, .hole, .hole, .hole, .hole] _ _ _ _
      refine JL.cons (JS.set (i := 13) sc_law.nd (JT.frz (JE.sliceToT (f := fun x => .val (eX x)) (JE.repS (e := eX) (JE.var (i := 5) rfl ⟨bad_4, rfl, JE.int ⟨40, _, rfl, gd_ok, ⟨_, _, rfl, (.own (soM (xs := (repD (40 : Int).toNat bad_4)) (e := eX))), JE.add (JE.int ⟨_, rfl, JE.callN (h_take m) (B.room.mono (by decide)) B.pass (JA.cons (pt := false) (JE.slot (i := 2) rfl ⟨.inr (.inl ⟨_, rfl⟩), fun z => z, JA.one (JE.int ⟨(pot_here_2, 10), _, [true, false], _, _, _, (.cons rfl (.plain pot_ne) .nil), (.inout (.own .nil)), (List.append_nil _).symm, rfl, fun e z => absurd z (m_take_nex _ _ e), ft, fun r_11 _ => ⟨_, rfl, ⟨_, rfl, (.own (soM (xs := (repD (40 : Int).toNat bad_4)) (e := eX))), ⟨_, _, rfl, (.lst (.map fun _ => .val)), ⟨_, rfl, Nat.le_of_ble_eq_true rfl, ?h14⟩⟩⟩⟩⟩)⟩))⟩)⟩⟩⟩)))))
      refine JL.letv (Γf := fun long => [.val (eLI script), .val (PyData.int x), potS r_11.2, .val (PyData.int places), .val (eX r_3.1), .val (eLX bad_4), .val (eWT2II bad), .hole, .hole, .val (PyData.str kept), .val (PyData.int x_4), .hole, .hole, .val (eLX long), .hole, .hole, .hole]) (cutG (repD (40 : Int).toNat bad_4) none (some (31 + r_11.1))) fun long => ?_
      show JL _ _ [.val (eLI script), .val (PyData.int x), potS r_11.2, .val (PyData.int places), .val (eX r_3.1), .val (eLX bad_4), .val (eWT2II bad), .hole, .hole, .val (PyData.str kept), .val (PyData.int x_4), .hole, .hole, .val (eLX long), .hole, .hole, .hole] _ _ _ _
      refine JL.cons (JS.set (i := 14) sc_law.nd (JT.frz (JE.lstD (JA.cons (pt := false) (JE.callN (h_told_2 m) (B.room.mono (by decide)) B.pass (JA.cons (pt := false) (JE.var (i := 4) rfl ⟨.inl ⟨_, rfl⟩, fun z => z, JA.one (JE.var (i := 13) rfl (Args.plain (r_3.1, long) _ [false, false] (.own (.own .nil)) rfl rfl rfl (fun e z => absurd z (m_told_2_nex _ _ e)) fun r_12 _ => ⟨.inl ⟨_, rfl⟩, fun z => z, JA.cons (pt := false) (JE.callN (h_told m) (B.room.mono (by decide)) B.pass (JA.cons (pt := false) (JE.var (i := 4) rfl ⟨.inl ⟨_, rfl⟩, fun z => z, JA.one (JE.var (i := 6) rfl (Args.plain (r_3.1, bad) _ [false, false] (.own (.own .nil)) rfl rfl rfl (fun e z => absurd z (m_told_nex _ _ e)) fun r_13 _ => ⟨.inl ⟨_, rfl⟩, fun z => z, JA.cons (pt := false) (JE.callN (h_told_2 m) (B.room.mono (by decide)) B.pass (JA.cons (pt := false) (JE.var (i := 3) rfl ⟨.inl ⟨_, rfl⟩, fun z => z, JA.one (JE.var (i := 13) rfl (Args.plain ((PyData.int places), long) _ [false, false] (.own (.own .nil)) rfl rfl rfl (fun e z => absurd z (m_told_2_nex _ _ e)) fun r_14 _ => ⟨.inl ⟨_, rfl⟩, fun z => z, JA.one (JE.callN (h_told_2 m) (B.room.mono (by decide)) B.pass (JA.cons (pt := false) (JE.var (i := 3) rfl ⟨.inl ⟨_, rfl⟩, fun z => z, JA.one (JE.var (i := 5) rfl (Args.plain ((PyData.int places), bad_4) _ [false, false] (.own (.own .nil)) rfl rfl rfl (fun e z => absurd z (m_told_2_nex _ _ e)) fun r_15 _ => ⟨[_, _, _, _], rfl, Nat.le_of_ble_eq_true rfl, ⟨_, _, rfl, (.lst (.cons .val (.cons .val (.cons .val (.cons .val .nil))))), ⟨_, rfl, Nat.le_of_ble_eq_true rfl, ?h15⟩⟩⟩))⟩)))⟩))⟩)))⟩))⟩)))⟩))⟩)))))))
      refine JL.letv (Γf := fun told_here => [.val (eLI script), .val (PyData.int x), potS r_11.2, .val (PyData.int places), .val (eX r_3.1), .val (eLX bad_4), .val (eWT2II bad), .hole, .hole, .val (PyData.str kept), .val (PyData.int x_4), .hole, .hole, .val (eLX long), .val (eLX told_here), .hole, .hole]) [r_12, r_13, r_14, r_15] fun told_here => ?_
      show JL _ _ [.val (eLI script), .val (PyData.int x), potS r_11.2, .val (PyData.int places), .val (eX r_3.1), .val (eLX bad_4), .val (eWT2II bad), .hole, .hole, .val (PyData.str kept), .val (PyData.int x_4), .hole, .hole, .val (eLX long), .val (eLX told_here), .hole, .hole] _ _ _ _
      refine JL.cons (JS.ite (JC.all (m := gd (showX (eLX told_here) = true) (gd (showX (eLX [(eWS [("web" : PySem.Str)]), (eWS [("web" : PySem.Str)]), (eWS [("many" : PySem.Str)]), (eT2SI (("tie" : PySem.Str), x_4))]) = true) (cond (!decide ((eLX told_here).shown = (eLX [(eWS [("web" : PySem.Str)]), (eWS [("web" : PySem.Str)]), (eWS [("many" : PySem.Str)]), (eT2SI (("tie" : PySem.Str), x_4))]).shown)) (.ok true) (gd (showX (eLX bad_4) = true) (.ok (!decide ((eLX bad_4).shown = kept))))))) (by first | with_reducible rfl | rfl) (JC.bop (JW.or (JC.cmp (Cmp.neS B.room (JE.reprX m.xf.md B.room m.repr (JE.var (i := 14) rfl ⟨(eLX told_here), _, (.own .val), gd_ok, ⟨_, rfl, JE.reprX m.xf.md B.room m.repr (JE.lstD (JA.cons (pt := false) (JT.frz (JE.tupD (JA.one (JE.str ⟨[_], rfl, Nat.le_of_ble_eq_true rfl, _, _, rfl, .tup (.cons .val .nil), ⟨.inl ⟨_, rfl⟩, fun z => z, JA.cons (pt := false) (JT.frz (JE.tupD (JA.one (JE.str ⟨[_], rfl, Nat.le_of_ble_eq_true rfl, _, _, rfl, .tup (.cons .val .nil), ⟨.inl ⟨_, rfl⟩, fun z => z, JA.cons (pt := false) (JT.frz (JE.tupD (JA.one (JE.str ⟨[_], rfl, Nat.le_of_ble_eq_true rfl, _, _, rfl, .tup (.cons .val .nil), ⟨.inl ⟨_, rfl⟩, fun z => z, JA.one (JT.frz (JE.tupD (JA.cons (pt := false) (JE.str ⟨.inl ⟨_, rfl⟩, fun z => z, JA.one (JE.var (i := 10) rfl ⟨[_, _], rfl, Nat.le_of_ble_eq_true rfl, _, _, rfl, .tup (.cons .val (.cons .val .nil)), ⟨[_, _, _, _], rfl, Nat.le_of_ble_eq_true rfl, ⟨(eLX [(eWS [("web" : PySem.Str)]), (eWS [("web" : PySem.Str)]), (eWS [("many" : PySem.Str)]), (eT2SI (("tie" : PySem.Str), x_4))]), _, (.own (.lst (.cons .val (.cons .val (.cons .val (.cons .val .nil)))))), gd_ok, ⟨_, rfl, ⟨_, rfl, ⟨_, _, rfl, fun _ => ⟨rfl, rfl⟩, fun _ => JW.or1 (JC.cmp (Cmp.neS B.room (JE.reprX m.xf.md B.room m.repr (JE.var (i := 5) rfl ⟨(eLX bad_4), _, (.own .val), gd_ok, ⟨_, rfl, JE.var (i := 9) rfl ⟨_, rfl, ⟨_, rfl, ⟨rfl, rfl⟩⟩⟩⟩⟩))))⟩⟩⟩⟩⟩⟩)⟩))))⟩⟩))))⟩⟩))))⟩⟩))))))⟩⟩)))))) fun c _ => ⟨_, _, rfl, fun _ => ?h16, fun _ => ?h17⟩))
      case h16 =>
        exact JL.cons (JS.ret (JE.bl ⟨.rt false, _, _, rfl, rfl, rfl, (by exact (.drop (.drop (.drop (.drop (.drop (.drop (.drop (.drop (.drop (.drop (.drop (.drop (.drop (.drop (.drop (.drop (.drop .nil))))))))))))))))))⟩))
      case h17 =>
        refine JL.nil ?_
        show JL _ _ [.val (eLI script), .val (PyData.int x), potS r_11.2, .val (PyData.int places), .val (eX r_3.1), .val (eLX bad_4), .val (eWT2II bad), .hole, .hole, .val (PyData.str kept), .val (PyData.int x_4), .hole, .hole, .val (eLX long), .val (eLX told_here), .hole, .hole] _ _ _ _
        refine JL.cons (JS.ite (JC.all (m := (m_told_3 (PyData.int places) bad_4).bind fun r_16 => gd (showX (eX r_16) = true) (gd (showOk (eT2SI (("tie" : PySem.Str), x_4)) = true) (.ok (!decide ((eX r_16).shown = (eT2SI (("tie" : PySem.Str), x_4)).shown))))) (by first | with_reducible rfl | rfl) (JC.cmp (Cmp.neS B.room (JE.reprX m.xf.md B.room m.repr (JE.callN (h_told_3 m) (B.room.mono (by decide)) B.pass (JA.cons (pt := false) (JE.var (i := 3) rfl ⟨.inl ⟨_, rfl⟩, fun z => z, JA.one (JT.frz (JE.tupleL m.tuple (JE.var (i := 5) rfl ⟨_, (.own (soL (xs := bad_4) (e := eX))), _, _, rfl, .tup (.map fun _ => .val), Args.plain ((PyData.int places), bad_4) _ [false, false] (.own (.own .nil)) rfl rfl rfl (fun e z => absurd z (m_told_3_nex _ _ e)) fun r_16 _ => ⟨(eX r_16), _, (.own .val), gd_ok, ⟨_, rfl, JE.repr B.room m.repr (JT.frz (JE.tupD (JA.cons (pt := false) (JE.str ⟨.inl ⟨_, rfl⟩, fun z => z, JA.one (JE.var (i := 10) rfl ⟨[_, _], rfl, Nat.le_of_ble_eq_true rfl, _, _, rfl, .tup (.cons .val (.cons .val .nil)), ⟨(eT2SI (("tie" : PySem.Str), x_4)), _, (.own .val), rfl, gd_ok, ⟨_, rfl, ⟨_, rfl, ⟨rfl, rfl⟩⟩⟩⟩⟩)⟩))))⟩⟩⟩)))⟩)))))) fun c_2 _ => ⟨_, _, rfl, fun _ => ?h18, fun _ => ?h19⟩))
        case h18 =>
          exact JL.cons (JS.ret (JE.bl ⟨.rt false, _, _, rfl, rfl, rfl, (by exact (.drop (.drop (.drop (.drop (.drop (.drop (.drop (.drop (.drop (.drop (.drop (.drop (.drop (.drop (.drop (.drop (.drop .nil))))))))))))))))))⟩))
        case h19 =>
          refine JL.nil ?_
          show JL _ _ [.val (eLI script), .val (PyData.int x), potS r_11.2, .val (PyData.int places), .val (eX r_3.1), .val (eLX bad_4), .val (eWT2II bad), .hole, .hole, .val (PyData.str kept), .val (PyData.int x_4), .hole, .hole, .val (eLX long), .val (eLX told_here), .hole, .hole] _ _ _ _
          refine JL.cons (JS.set (i := 15) sc_law.nd (JT.frz (JE.tupD (JA.cons (pt := false) (JE.var (i := 3) rfl ⟨.inl ⟨_, rfl⟩, fun z => z, JA.one (JT.frz (JE.tupleL m.tuple (JE.ofLc (own' := [("_law_pair_here", 16)]) B.calm sc_law.nd (blkOk_by (by kernel_rfl)) (JT.compP (sd := fun x => .val (eT2II x)) (g := fun x_5 => ((min x_5.1 x_5.2), (max x_5.1 x_5.2))) (se := fun y => .val (eT2II y)) (JSrc.tup (JE.var (i := 6) rfl ⟨_, _, rfl, (soW (xs := bad) (e := eT2II)), ⟨bad, rfl, (.hole rfl .nil), fun x_5 => ⟨[.val (eLI script), .val (PyData.int x), potS r_11.2, .val (PyData.int places), .val (eX r_3.1), .val (eLX bad_4), .val (eWT2II bad), .hole, .hole, .val (PyData.str kept), .val (PyData.int x_4), .hole, .hole, .val (eLX long), .val (eLX told_here), .hole, .val (eT2II x_5)], Le.refl, fun s H Ca cl fp => JG.name (i := 16) rfl sc_law.nd, fun s H Ca cl fp => JT.frz (JE.tupD (JA.cons (pt := true) (JE.leastP B.room B.calm m.min (JE.var (i := 16) rfl ⟨rfl, ⟨.inl ⟨_, rfl⟩, fun z => z, JA.one (JE.mostP B.room B.calm m.max (JE.var (i := 16) rfl ⟨rfl, ⟨[_, _], rfl, Nat.le_of_ble_eq_true rfl, _, _, rfl, .tup (.cons .val (.cons .val .nil)), ⟨rfl, rfl⟩⟩⟩))⟩⟩))))⟩, ⟨_, (.own (soM (xs := (bad.map fun x_5 => ((min x_5.1 x_5.2), (max x_5.1 x_5.2)))) (e := eT2II))), _, _, rfl, .tup (.map fun _ => .val), ⟨[_, _], rfl, Nat.le_of_ble_eq_true rfl, _, _, rfl, .tup (.cons .val (.cons .val .nil)), ⟨_, rfl, Nat.le_of_ble_eq_true rfl, ?h20⟩⟩⟩⟩⟩))))))⟩)))))
          refine JL.letv (Γf := fun due => [.val (eLI script), .val (PyData.int x), potS r_11.2, .val (PyData.int places), .val (eX r_3.1), .val (eLX bad_4), .val (eWT2II bad), .hole, .hole, .val (PyData.str kept), .val (PyData.int x_4), .hole, .hole, .val (eLX long), .val (eLX told_here), .val (eT2IWT2II due), .hole]) (places, (bad.map fun x_5 => ((min x_5.1 x_5.2), (max x_5.1 x_5.2)))) fun due => ?_
          show JL _ _ [.val (eLI script), .val (PyData.int x), potS r_11.2, .val (PyData.int places), .val (eX r_3.1), .val (eLX bad_4), .val (eWT2II bad), .hole, .hole, .val (PyData.str kept), .val (PyData.int x_4), .hole, .hole, .val (eLX long), .val (eLX told_here), .val (eT2IWT2II due), .hole] _ _ _ _
          refine JL.cons (JS.ite (JC.all (m := gd ((0 : Int) ≤ 30 ∧ 30 ≤ (1000 : Int) ∧ (bad : List (Int × Int)).length ≤ 1000) ((m_told (PyData.int places) (cutG (repD (30 : Int).toNat bad) none (some 30))).bind fun r_17 => gd (SeqAt.shaped (eX r_17) = true ∧ SeqAt.shaped (eWS [("let" : PySem.Str)]) = true) (cond (!PyData.eqv (eX r_17) (eWS [("let" : PySem.Str)])) (.ok true) ((m_made_web places bad).bind fun r_18 => .ok (!decide (r_18 = due)))))) (by first | with_reducible rfl | rfl) (JC.bop (JW.or (JC.cmp (Cmp.ne B.room.lines64 (JE.callN (h_told m) (B.room.mono (by decide)) B.pass (JA.cons (pt := false) (JE.var (i := 3) rfl ⟨.inl ⟨_, rfl⟩, fun z => z, JA.one (JE.sliceWT (e := eT2II) (JE.repZ (e := eT2II) (JE.var (i := 6) rfl ⟨bad, rfl, JE.int ⟨30, _, rfl, gd_ok, ⟨_, _, _, rfl, .no, (.at (JE.int ⟨rfl, rfl⟩)), Args.plain ((PyData.int places), (cutG (repD (30 : Int).toNat bad) none (some 30))) _ [false, false] (.own (.own .nil)) rfl rfl rfl (fun e z => absurd z (m_told_nex _ _ e)) fun r_17 _ => ⟨.inl ⟨_, rfl⟩, JT.frz (JE.tupD (JA.one (JE.str ⟨[_], rfl, Nat.le_of_ble_eq_true rfl, _, _, rfl, .tup (.cons .val .nil), ⟨eX r_17, eWS [("let" : PySem.Str)], _, (.own .val), (.own .val), gd_ok, ⟨_, rfl, ⟨_, _, rfl, fun _ => ⟨rfl, rfl⟩, fun _ => JW.or1 (JC.cmp (Cmp.neT (e := eT2IWT2II) (eokT2 eokI (eokW (eokT2 eokI eokI))) (by decide) B.room (JE.callN (h_made_web m) (B.room.mono (by decide)) B.pass (JA.cons (pt := false) (JE.var (i := 3) rfl ⟨.inl ⟨_, rfl⟩, fun z => z, JA.one (JE.var (i := 6) rfl (Args.plain (places, bad) _ [false, false] (.own (.own .nil)) rfl rfl rfl (fun e z => absurd z (m_made_web_nex _ _ e)) fun r_18 _ => ⟨.inl ⟨_, rfl⟩, JE.var (i := 15) rfl ⟨r_18, due, (.own .val), (.own .val), ⟨_, rfl, ⟨rfl, rfl⟩⟩⟩⟩))⟩)))))⟩⟩⟩⟩)))⟩⟩⟩⟩)))⟩))))))) fun c_3 _ => ⟨_, _, rfl, fun _ => ?h21, fun _ => ?h22⟩))
          case h21 =>
            exact JL.cons (JS.ret (JE.bl ⟨.rt false, _, _, rfl, rfl, rfl, (by exact (.drop (.drop (.drop (.drop (.drop (.drop (.drop (.drop (.drop (.drop (.drop (.drop (.drop (.drop (.drop (.drop (.drop .nil))))))))))))))))))⟩))
          case h22 =>
            refine JL.nil ?_
            exact JL.nil ⟨(), rfl, (.same (.drop (.drop (.drop (.drop (.drop (.drop (.drop (.drop (.drop (.drop (.drop (.drop (.drop (.drop (.drop (.drop .nil)))))))))))))))))⟩
  case h2 =>
    show JL _ _ [.val (eLI script), .hole, .hole, .hole, .hole, .hole, .hole, .hole, .hole, .hole, .hole, .hole, .hole, .hole, .hole, .hole, .hole] _ _ _ _
    exact JL.cons (JS.ret (JE.bl ⟨true, _, _, rfl, rfl, rfl, (by exact (.drop (.drop (.drop (.drop (.drop (.drop (.drop (.drop (.drop (.drop (.drop (.drop (.drop (.drop (.drop (.drop (.drop .nil))))))))))))))))))⟩))
end
end HD

/-! G3: sums over lists; flows, cuts, plainly. -/
namespace Tsa
open PySem PySem.Spec PyProof.Rows L2
/-! ### sums -/
def sumI {α : Type} (g : α → Int) : List α → Int
  | [] => 0
  | x :: xs => g x + sumI g xs
section
variable {α β : Type} {g h : α → Int}
end
/-! ### flows -/
/-- the strength, what is borne -/
def fv (f : List Int) (k : Int) : Int := f.getD k.toNat 0
/-- a lane -/
def tk (ts : List (Int × Int)) (k : Int) : Int × Int := ts.getD k.toNat (0, 0)
/-- what a lane brings a place -/
def inb (ts : List (Int × Int)) (f : List Int) (p k : Int) : Int := (if (tk ts k).2 = p then fv f k else 0) - (if (tk ts k).1 = p then fv f k else 0)
/-- what comes into a place, less what goes out of it -/
def net (ts : List (Int × Int)) (f : List Int) (p : Int) : Int := sumI (inb ts f p) (rangeL 0 (ts.length : Nat))
structure FlowOk (ts : List (Int × Int)) (S f : List Int) (s t A : Int) : Prop where
  len : f.length = ts.length
  rng : ∀ k : Int, 0 ≤ k → k < (ts.length : Nat) → 0 ≤ fv f k ∧ fv f k ≤ fv S k
  mid : ∀ p, p ≠ s → p ≠ t → net ts f p = 0
  goal : net ts f t = A
/-- the strengths that enter some places -/
def ent (ts : List (Int × Int)) (S T : List Int) : Int := sumI (fun k => if (tk ts k).2 ∈ T ∧ (tk ts k).1 ∉ T then fv S k else 0) (rangeL 0 (ts.length : Nat))
section
variable {ts : List (Int × Int)} {S f T : List Int} {s t A : Int}
end
/-- by lane k from u to v more can go -/
def RE (ts : List (Int × Int)) (S f : List Int) (k u v : Int) : Prop := 0 ≤ k ∧ k < (ts.length : Nat) ∧ ((tk ts k = (u, v) ∧ fv f k < fv S k) ∨ (tk ts k = (v, u) ∧ 0 < fv f k))
/-- the tree of a search -/
inductive TrE (E : Int → Int → Int → Prop) (n a : Int) : TreeL → Prop
  | root : 0 ≤ a → a < n → TrE E n a [(a, none)]
  | add {l : TreeL} {u v k : Int} : TrE E n a l → u ∈ l.map (·.1) → v ∉ l.map (·.1) → E k u v → 0 ≤ v → v < n → TrE E n a (l ++ [(v, some (k, u))])
section
variable {E : Int → Int → Int → Prop} {ts : List (Int × Int)} {ns : List Int} {n a v : Int} {l : TreeL}
end
end Tsa

set_option exponentiation.threshold 6000
/-! G4: data with great numbers that may be shown; loops that may be left. -/
namespace Tsa
open PySem PySem.Spec PyProof.Rows L2
theorem strOk_of (s : String) : PyData.strOk (Str.ofString s) = true := by
  rw [Str.ofString_eq_toList]
  unfold PyData.strOk
  rw [List.all_toArray, List.all_eq_true]
  intro x hx
  obtain ⟨c, _, rfl⟩ := List.mem_map.mp hx
  have h : c.toNat < 1114112 := by
    rcases c.valid with h | ⟨_, h⟩
    · exact Nat.lt_trans h (by decide)
    · exact h
  exact decide_eq_true h
structure Sb (D W : Nat) (d : PyData) : Prop where
  lay : d.canLay0 = true
  dep : d.depth ≤ D
  wt : d.weight ≤ W
  short : d.intsShort 70 = true
  shw : d.showable = true
  okt : PyData.strOk d.shown = true
structure SbL (D W : Nat) (ds : List PyData) : Prop where
  lay : PyData.canLayAll0 ds = true
  dep : PyData.depthAll ds ≤ D
  wt : PyData.weightAll ds ≤ W
  short : PyData.intsShortAll 70 ds = true
  shw : PyData.showableAll ds = true
  okt : ∀ t ∈ PyData.shownAll ds, PyData.strOk t = true
theorem log2_lt220 {n : Nat} (h : n < 10 ^ 66) : n.log2 < 220 := by
  by_cases z : n = 0
  · subst z; decide
  · exact (Nat.log2_lt z).mpr (Nat.lt_trans h (by decide))
theorem sb_int {i : Int} (h : i.natAbs < 10 ^ 66) : Sb 0 220 (.int i) where
  lay := rfl
  dep := Nat.le_refl 0
  wt := by
    have := log2_lt220 h
    show (if i == 0 then 0 else i.natAbs.log2 + 1) ≤ 220
    split <;> omega
  short := decide_eq_true (by
    have e := int_text_length_le10 (k := 66) (by decide) h
    show (Str.ofString (toString i)).length ≤ 70
    rw [PySem.ofString_length]; omega)
  shw := decide_eq_true (Nat.lt_trans (log2_lt220 h) (by decide))
  okt := strOk_of _
end Tsa

set_option exponentiation.threshold 6000
/-! G23: data of any kind that may be shown. -/
namespace Tsa
open PySem PySem.Spec PyProof.Rows L2
structure Sx (D W : Nat) (d : PyData) : Prop where
  dep : d.depth ≤ D
  wt : d.weight ≤ W
  shr : d.leavesShort 70 = true
  shw : d.showable = true
structure SxL (D W : Nat) (ds : List PyData) : Prop where
  dep : PyData.depthAll ds ≤ D
  wt : PyData.weightAll ds ≤ W
  shr : PyData.leavesShortAll 70 ds = true
  shw : PyData.showableAll ds = true
structure SxK (D W : Nat) (ds : List (PyData × PyData)) : Prop where
  dep : PyData.depthKv ds ≤ D
  wt : PyData.weightKv ds ≤ W
  shr : PyData.leavesShortKv 70 ds = true
  shw : PyData.showableKv ds = true
theorem Sx.mono {D W D' W' : Nat} {d : PyData} (h : Sx D W d) (a : D ≤ D') (b : W ≤ W') : Sx D' W' d := ⟨Nat.le_trans h.dep a, Nat.le_trans h.wt b, h.shr, h.shw⟩
theorem SxL.mono {D W D' W' : Nat} {d : List PyData} (h : SxL D W d) (a : D ≤ D') (b : W ≤ W') : SxL D' W' d := ⟨Nat.le_trans h.dep a, Nat.le_trans h.wt b, h.shr, h.shw⟩
theorem sx_int {i : Int} (h : i.natAbs < 10 ^ 66) : Sx 0 220 (.int i) where
  dep := Nat.le_refl 0
  wt := (sb_int h).wt
  shr := (sb_int h).short
  shw := (sb_int h).shw
theorem sx_none : Sx 0 0 .none := ⟨Nat.le_refl 0, Nat.le_refl 0, rfl, rfl⟩
theorem sx_bool (b : Bool) : Sx 0 0 (.bool b) := ⟨Nat.le_refl 0, Nat.le_refl 0, rfl, rfl⟩
theorem SxL.nil {D W : Nat} : SxL D W [] := ⟨Nat.zero_le _, Nat.zero_le _, rfl, rfl⟩
theorem SxL.cons {D W W' : Nat} {d : PyData} {ds : List PyData} (h : Sx D W d) (t : SxL D W' ds) : SxL D (W + 1 + W') (d :: ds) where
  dep := by show max d.depth (PyData.depthAll ds) ≤ D; have := h.dep; have := t.dep; omega
  wt := by show d.weight + 1 + PyData.weightAll ds ≤ _; have := h.wt; have := t.wt; omega
  shr := by show (d.leavesShort 70 && PyData.leavesShortAll 70 ds) = true; rw [h.shr, t.shr]; rfl
  shw := by show (d.showable && PyData.showableAll ds) = true; rw [h.shw, t.shw]; rfl
theorem SxK.nil {D W : Nat} : SxK D W [] := ⟨Nat.zero_le _, Nat.zero_le _, rfl, rfl⟩
theorem SxL.all {D W n : Nat} : ∀ {xs : List PyData}, (∀ x ∈ xs, Sx D W x) → xs.length ≤ n → SxL D (n * (W + 1)) xs
  | [], _, _ => .nil
  | x :: xs, h, hn => by
    cases n with
    | zero => exact absurd hn (Nat.not_succ_le_zero _)
    | succ n =>
      refine (SxL.cons (h x (List.mem_cons_self ..)) (SxL.all (n := n) (fun y hy => h y (List.mem_cons_of_mem _ hy)) (Nat.le_of_succ_le_succ hn))).mono (Nat.le_refl _) ?_
      rw [Nat.succ_mul]
      omega
theorem SxL.list {D W : Nat} {ds : List PyData} (h : SxL D W ds) : Sx (D + 1) W (.list ds) := ⟨Nat.succ_le_succ h.dep, h.wt, h.shr, h.shw⟩
theorem SxL.tup {D W : Nat} {ds : List PyData} (h : SxL D W ds) : Sx (D + 1) W (.tuple ds) := ⟨Nat.succ_le_succ h.dep, h.wt, h.shr, h.shw⟩
theorem SxK.dict {D W : Nat} {ds : List (PyData × PyData)} (h : SxK D W ds) : Sx (D + 1) W (.dict ds) := ⟨Nat.succ_le_succ h.dep, h.wt, h.shr, h.shw⟩
theorem Sx.show_ {D W : Nat} {d : PyData} (h : Sx D W d) (hD : D ≤ 40) (hW : W ≤ 200000) : showX d = true := by
  have hd := Nat.le_trans h.dep hD
  have hw := Nat.le_trans h.wt hW
  have len := PyData.shown_le 70 (by decide) d h.shr
  have l2 : (70 + 2) * d.weight ≤ 72 * 200000 := Nat.mul_le_mul (by decide) hw
  have l3 : d.shown.length ≤ sizeLine := by rw [sizeLine_eq]; omega
  unfold showX
  rw [h.shw, decide_eq_true hd, decide_eq_true l3]
  rfl
/-! ### what is counted -/
def isCnt : PyData → Bool
  | .int n => decide (0 ≤ n)
  | _ => false
def isPl (n : Int) : PyData → Bool
  | .int i => decide (0 ≤ i) && decide (i < n)
  | _ => false
def areS (n : Nat) : PyData → Bool
  | .list l => decide (l.length = n) && l.all isCnt
  | .tuple l => decide (l.length = n) && l.all isCnt
  | _ => false
end Tsa

set_option exponentiation.threshold 6000
namespace HD
open PySem PySem.Spec PyProof.Rows L2 Tsa
abbrev Pr := List (Int × Int)
theorem gdt {ω : Type} {P : Prop} [Decidable P] {m : Res ω} (h : P) : Tsa.gd P m = m := if_pos h
theorem absI_nn (i : Int) : 0 ≤ absI i := by unfold absI; split <;> omega
theorem take_ok {p : Int × Int} {n : Int} (g : PotOk p) (h0 : 0 < n) (hb : n < 1099511627776) : Fine (m_take p n) fun r => 0 ≤ r.1 ∧ r.1 < n ∧ PotOk r.2 := pot_take g h0 hb
theorem pot_ok {ns : List Int} {k : Int} (h0 : 0 ≤ k) (h1 : k < 1000) : Fine (m_pot ns k) PotOk := pot_new (ab := absI) (c := 0) absI_nn h0 h1 (nth_fine h0)
/-! ### pairs -/
def isLn (n : Int) : PyData → Bool
  | .tuple [.int a, .int b] => (decide (0 ≤ a) && decide (a < n)) && ((decide (0 ≤ b) && decide (b < n)) && !decide (a = b))
  | _ => false
def LP (n : Int) (q : Int × Int) : Prop := (0 ≤ q.1 ∧ q.1 < n) ∧ (0 ≤ q.2 ∧ q.2 < n) ∧ q.1 ≠ q.2
theorem place2_ok (n : Int) (d : PyData) : m_is_place_2 n d = .ok (isPl n d) := by
  unfold m_is_place_2
  rw [show m_is_whole_2 d = .ok (isIntD d && !isBoolD d) from rfl, Res.bind_ok]
  cases d <;> rfl
theorem len3 {a b c : PyData} {r : List PyData} : decide (((a :: b :: c :: r).length : Int) = 2) = false := decide_eq_false (by
  rw [List.length_cons, List.length_cons, List.length_cons]; omega)
theorem eqvI (i j : Int) : PyData.eqv (.int i) (.int j) = decide (i = j) := by
  show (i == j) = _
  by_cases h : i = j
  · subst h; simp
  · rw [decide_eq_false h]; simpa using h
theorem pair2_ok (n : Int) (d : PyData) : m_is_pair_2 n d = .ok (isLn n d) := by
  unfold m_is_pair_2
  cases d with
  | tuple l =>
    match l with
    | [] => rfl
    | [a] => cases a <;> rfl
    | a :: b :: c :: r =>
      show ((Res.ok (!decide (((a :: b :: c :: r).length : Int) = 2))).bind fun c => cond c (Res.ok false) _) = Res.ok (isLn n (.tuple (a :: b :: c :: r)))
      rw [len3]
      cases a <;> (first | rfl | (cases b <;> rfl))
    | [a, b] =>
      have x0 : xat (.tuple [a, b]) 0 = .ok a := rfl
      have x1 : xat (.tuple [a, b]) 1 = .ok b := rfl
      show (((xat (.tuple [a, b]) 0).bind fun y => _).bind fun c_2 => _) = _
      simp only [x0, x1, Res.bind_ok, place2_ok]
      cases a with
      | int i =>
        cases b with
        | int j =>
          show (cond (decide (0 ≤ i) && decide (i < n)) (cond (decide (0 ≤ j) && decide (j < n)) (Tsa.gd (SeqAt.shaped (.int i) = true ∧ SeqAt.shaped (.int j) = true) (Res.ok (!PyData.eqv (.int i) (.int j)))) (.ok false)) (.ok false)).bind _ = Res.ok ((decide (0 ≤ i) && decide (i < n)) && ((decide (0 ≤ j) && decide (j < n)) && !decide (i = j)))
          rw [gdt (show SeqAt.shaped (.int i) = true ∧ SeqAt.shaped (.int j) = true from ⟨rfl, rfl⟩), eqvI]
          generalize (decide (0 ≤ i) && decide (i < n)) = p
          generalize (decide (0 ≤ j) && decide (j < n)) = q
          cases p <;> cases q <;> rfl
        | _ =>
          show (cond (isPl n (.int i)) (Res.ok false) (.ok false)).bind _ = Res.ok false
          cases isPl n (.int i) <;> rfl
      | _ => rfl
  | _ => rfl
theorem lpair_ok (n : Int) (d : PyData) : m_l_is_pair n d = .ok (isLn n d) := by
  unfold m_l_is_pair
  cases d with
  | tuple l =>
    match l with
    | [] => rfl
    | [a] => cases a <;> rfl
    | a :: b :: c :: r =>
      have e3 : xseq (.tuple (a :: b :: c :: r)) = .ok (a :: b :: c :: r) := rfl
      rw [show isTupD (.tuple (a :: b :: c :: r)) = true from rfl, e3]
      simp only [Bool.not_true, cond_false, Res.bind_ok, len3, Bool.not_false, cond_true]
      cases a <;> (first | rfl | (cases b <;> rfl))
    | [a, b] =>
      have x0 : xat (.tuple [a, b]) 0 = .ok a := rfl
      have x1 : xat (.tuple [a, b]) 1 = .ok b := rfl
      have lw : ∀ d, m_l_is_whole d = .ok (isIntD d && !isBoolD d) := fun _ => rfl
      show ((((xat (.tuple [a, b]) 0).bind fun y => _) : Res Bool).bind fun c_2 => _) = _
      simp only [x0, x1, Res.bind_ok, lw]
      cases a with
      | int i =>
        cases b with
        | int j =>
          show ((Tsa.gd (SeqAt.shaped (.int i) = true ∧ SeqAt.shaped (.int j) = true) (Res.ok (PyData.eqv (.int i) (.int j)))).bind fun c_2 => cond c_2 (Res.ok false) ((Res.ok (i, j)).bind fun thing_2 => .ok ((decide (0 ≤ (min thing_2.1 thing_2.2))) && (decide ((max thing_2.1 thing_2.2) < n))))) = Res.ok ((decide (0 ≤ i) && decide (i < n)) && ((decide (0 ≤ j) && decide (j < n)) && !decide (i = j)))
          rw [gdt (show SeqAt.shaped (.int i) = true ∧ SeqAt.shaped (.int j) = true from ⟨rfl, rfl⟩), eqvI, Res.bind_ok, Res.bind_ok]
          by_cases e : i = j
          · rw [decide_eq_true e]
            cases (decide (0 ≤ i) && decide (i < n)) <;> cases (decide (0 ≤ j) && decide (j < n)) <;> rfl
          · rw [decide_eq_false e]
            show Res.ok (decide (0 ≤ min i j) && decide (max i j < n)) = _
            congr 1
            rw [Bool.eq_iff_iff]
            simp only [Bool.and_eq_true, decide_eq_true_eq, Bool.not_false, and_true]
            omega
        | _ => rfl
      | _ => rfl
  | _ => rfl
theorem pairT_ok {n : Int} {q : Int × Int} (h : LP n q) : m_is_pair n q = .ok true := by
  obtain ⟨⟨a, b⟩, ⟨c, d⟩, e⟩ := h
  have p : ∀ i, 0 ≤ i → i < n → m_is_place n i = .ok true := fun i i0 i1 => by
    unfold m_is_place
    show (Res.ok (decide (0 ≤ i) && decide (i < n))).bind _ = _
    rw [decide_eq_true i0, decide_eq_true i1]; rfl
  unfold m_is_pair
  show (((m_is_place n q.1).bind fun r => cond r ((m_is_place n q.2).bind fun r_2 => cond r_2 (.ok (!decide (q.1 = q.2))) (.ok false)) (.ok false)).bind fun c => .ok c) = _
  rw [p _ a b, Res.bind_ok, cond_true, p _ c d, decide_eq_false e]
  rfl
/-! ### the ties one after another -/
def bad1 (n : Int) (zs : List (PyData × Nat)) : Option (PyData × Nat) := zs.find? fun z => !isLn n z.1
theorem loop3 (n : Int) : ∀ zs : List (PyData × Nat), forS (fun x' _ => f_made_web_3_1 n x') zs () = match bad1 n zs with
    | none => .ok ()
    | some z => .ex ⟨"NoTie", [("at", .val (.int (z.2 : Nat)))]⟩
  | [] => rfl
  | z :: zs => by
    have e : f_made_web_3_1 n z = cond (!isLn n z.1) (.ex ⟨"NoTie", [("at", .val (.int (z.2 : Nat)))]⟩) (.ok ()) := by
      unfold f_made_web_3_1
      rw [pair2_ok]
      rfl
    show (f_made_web_3_1 n z).bind (fun t => forS (fun x' _ => f_made_web_3_1 n x') zs t) = _
    rw [e]
    unfold bad1
    rw [List.find?_cons]
    cases isLn n z.1 with
    | true => exact loop3 n zs
    | false => rfl
/-- no number of places -/
def okN : PyData → Bool
  | .int i => decide (1 ≤ i) && decide (i ≤ 9)
  | _ => false
theorem head_no {α : Type} {d : PyData} (h : okN d = false) (k : Res α) : (((m_is_whole_2 d).bind fun r => cond (!r) (.ok true) ((xint d).bind fun n => .ok (!(decide (1 ≤ n) && decide (n ≤ 9))))).bind fun c => cond c (.ex ⟨"NoWeb", []⟩) k) = .ex ⟨"NoWeb", []⟩ := by
  rw [show m_is_whole_2 d = .ok (isIntD d && !isBoolD d) from rfl, Res.bind_ok]
  cases d with
  | int i =>
    show ((Res.ok (!(decide (1 ≤ i) && decide (i ≤ 9)))).bind fun c => cond c (.ex ⟨"NoWeb", []⟩) k) = _
    have h : (decide (1 ≤ i) && decide (i ≤ 9)) = false := h
    rw [h]; rfl
  | _ => rfl
theorem head_yes {α : Type} {i : Int} (h1 : 1 ≤ i) (h9 : i ≤ 9) (k : Res α) : (((m_is_whole_2 (.int i)).bind fun r => cond (!r) (.ok true) ((xint (.int i)).bind fun n => .ok (!(decide (1 ≤ n) && decide (n ≤ 9))))).bind fun c => cond c (.ex ⟨"NoWeb", []⟩) k) = k := by
  show ((Res.ok (!(decide (1 ≤ i) && decide (i ≤ 9)))).bind fun c => cond c (.ex ⟨"NoWeb", []⟩) k) = _
  rw [decide_eq_true h1, decide_eq_true h9]; rfl
/-! ### what is told -/
theorem words0 : m_words ⟨"NoWeb", []⟩ = .ok (eWS [("web" : PySem.Str)]) ∧ xok XC ⟨"NoWeb", []⟩ := ⟨by kernel_rfl, by decide +kernel, rfl⟩
theorem words1 : m_words ⟨"TooMany", []⟩ = .ok (eWS [("many" : PySem.Str)]) ∧ xok XC ⟨"TooMany", []⟩ := ⟨by kernel_rfl, by decide +kernel, rfl⟩
theorem words2 (j : Nat) : m_words ⟨"NoTie", [("at", .val (.int (j : Nat)))]⟩ = .ok (eT2SI (("tie" : PySem.Str), (j : Int))) ∧ xok XC ⟨"NoTie", [("at", .val (.int (j : Nat)))]⟩ := by
  have hn : nrBF [("at", SD.val (PyData.int (j : Nat)))] = true := nrBF_one nrB_val
  have hx : xok XC ⟨"NoTie", [("at", .val (.int (j : Nat)))]⟩ := ⟨show ("NoTie" : Str) ∈ XC by decide +kernel, hn⟩
  refine ⟨?_, hx⟩
  unfold m_words
  rw [gdt hx]
  kernel_rfl
theorem told0 {d : PyData} (h : okN d = false) (ts : Pr) : m_told d ts = .ok (eWS [("web" : PySem.Str)]) := by
  have e : m_made_web_2 d ts = .ex ⟨"NoWeb", []⟩ := head_no h _
  unfold m_told
  rw [e]
  show Tsa.gd (xok XC ⟨"NoWeb", []⟩) ((m_words ⟨"NoWeb", []⟩).bind _) = _
  rw [gdt words0.2, words0.1]; rfl
theorem told0L {d : PyData} (h : okN d = false) (ts : List PyData) : m_told_2 d ts = .ok (eWS [("web" : PySem.Str)]) := by
  have e : m_made_web_3 d ts = .ex ⟨"NoWeb", []⟩ := head_no h _
  unfold m_told_2
  rw [e]
  show Tsa.gd (xok XC ⟨"NoWeb", []⟩) ((m_words ⟨"NoWeb", []⟩).bind _) = _
  rw [gdt words0.2, words0.1]; rfl
theorem told1 {n : Int} (h1 : 1 ≤ n) (h9 : n ≤ 9) {ts : List PyData} (h : 30 < ts.length) : m_told_2 (.int n) ts = .ok (eWS [("many" : PySem.Str)]) := by
  have e : m_made_web_3 (.int n) ts = .ex ⟨"TooMany", []⟩ := by
    refine (head_yes h1 h9 _).trans ?_
    show cond (decide (30 < (ts.length : Int))) _ _ = _
    rw [decide_eq_true (by omega)]; rfl
  unfold m_told_2
  rw [e]
  show Tsa.gd (xok XC ⟨"TooMany", []⟩) ((m_words ⟨"TooMany", []⟩).bind _) = _
  rw [gdt words1.2, words1.1]; rfl
theorem made3 {n : Int} (h1 : 1 ≤ n) (h9 : n ≤ 9) {ts : List PyData} (h : ts.length ≤ 30) {z : PyData × Nat} (hz : bad1 n ts.zipIdx = some z) : m_made_web_3 (.int n) ts = .ex ⟨"NoTie", [("at", .val (.int (z.2 : Nat)))]⟩ := by
  refine (head_yes h1 h9 _).trans ?_
  show cond (decide (30 < (ts.length : Int))) _ ((forS (fun x' _ => f_made_web_3_1 n x') (ts.zipIdx) ()).bind _) = _
  rw [decide_eq_false (by omega), loop3, hz]; rfl
theorem told2 {n : Int} (h1 : 1 ≤ n) (h9 : n ≤ 9) {ts : List PyData} (h : ts.length ≤ 30) {z : PyData × Nat} (hz : bad1 n ts.zipIdx = some z) : m_told_2 (.int n) ts = .ok (eT2SI (("tie" : PySem.Str), (z.2 : Int))) := by
  unfold m_told_2
  rw [made3 h1 h9 h hz]
  show Tsa.gd (xok XC ⟨"NoTie", [("at", .val (.int (z.2 : Nat)))]⟩) ((m_words ⟨"NoTie", [("at", .val (.int (z.2 : Nat)))]⟩).bind _) = _
  rw [gdt (words2 z.2).2, (words2 z.2).1]; rfl
theorem told2W {n : Int} (h1 : 1 ≤ n) (h9 : n ≤ 9) {ts : List PyData} (h : ts.length ≤ 30) {z : PyData × Nat} (hz : bad1 n ts.zipIdx = some z) : m_told_3 (.int n) ts = .ok (eT2SI (("tie" : PySem.Str), (z.2 : Int))) := by
  have e : m_made_web_4 (.int n) ts = .ex ⟨"NoTie", [("at", .val (.int (z.2 : Nat)))]⟩ := made3 h1 h9 h hz
  unfold m_told_3
  rw [e]
  show Tsa.gd (xok XC ⟨"NoTie", [("at", .val (.int (z.2 : Nat)))]⟩) ((m_words ⟨"NoTie", [("at", .val (.int (z.2 : Nat)))]⟩).bind _) = _
  rw [gdt (words2 z.2).2, (words2 z.2).1]; rfl
theorem loopT {n : Int} : ∀ zs : List ((Int × Int) × Nat), (∀ z ∈ zs, LP n z.1) → forS (fun x' _ => f_made_web_2_1 n x') zs () = .ok () ∧ forS (fun x' _ => f_made_web_1 n x') zs () = .ok ()
  | [], _ => ⟨rfl, rfl⟩
  | z :: zs, h => by
    have e := pairT_ok (h z List.mem_cons_self)
    have ih := loopT zs fun y hy => h y (List.mem_cons_of_mem _ hy)
    have e2 : f_made_web_2_1 n z = .ok () := by unfold f_made_web_2_1; rw [e]; rfl
    have e1 : f_made_web_1 n z = .ok () := by unfold f_made_web_1; rw [e]; rfl
    refine ⟨?_, ?_⟩
    · show (f_made_web_2_1 n z).bind (fun t => forS (fun x' _ => f_made_web_2_1 n x') zs t) = _
      rw [e2]; exact ih.1
    · show (f_made_web_1 n z).bind (fun t => forS (fun x' _ => f_made_web_1 n x') zs t) = _
      rw [e1]; exact ih.2
theorem zips {n : Int} {ts : Pr} (h : ∀ q ∈ ts, LP n q) : ∀ z ∈ ts.zipIdx, LP n z.1 := fun z hz => by
  have := (List.mem_zipIdx hz).2.2
  rw [this]
  exact h _ (List.getElem_mem _)
theorem told_let {n : Int} (h1 : 1 ≤ n) (h9 : n ≤ 9) {ts : Pr} (h : ts.length ≤ 30) (hp : ∀ q ∈ ts, LP n q) : m_told (.int n) ts = .ok (eWS [("let" : PySem.Str)]) := by
  have e : m_made_web_2 (.int n) ts = .ok (n, ts.map fun x_2 => (min x_2.1 x_2.2, max x_2.1 x_2.2)) := by
    refine (head_yes h1 h9 _).trans ?_
    show cond (decide (30 < (ts.length : Int))) _ ((forS (fun x' _ => f_made_web_2_1 n x') (ts.zipIdx) ()).bind _) = _
    rw [decide_eq_false (by omega), (loopT _ (zips hp)).1]; rfl
  unfold m_told
  rw [e]
  rfl
theorem made_ok {n : Int} (h1 : 1 ≤ n) (h9 : n ≤ 9) {ts : Pr} (h : ts.length ≤ 30) (hp : ∀ q ∈ ts, LP n q) : m_made_web n ts = .ok (n, ts.map fun x_2 => (min x_2.1 x_2.2, max x_2.1 x_2.2)) := by
  unfold m_made_web
  show ((Res.ok (!(decide (1 ≤ n) && decide (n ≤ 9)))).bind fun c => cond c .un (cond (decide (30 < (ts.length : Int))) .un ((forS (fun x' _ => f_made_web_1 n x') (ts.zipIdx) ()).bind fun _ => _))) = _
  rw [decide_eq_true h1, decide_eq_true h9]
  show cond (decide (30 < (ts.length : Int))) _ ((forS (fun x' _ => f_made_web_1 n x') (ts.zipIdx) ()).bind _) = _
  rw [decide_eq_false (by omega), (loopT _ (zips hp)).2]; rfl
end HD

/-! G6: how many parts: labels counted, forests. -/
namespace HD
open Tsa
theorem once_perm {L M : List Int} (h : M.Nodup) (e : ∀ x, x ∈ M ↔ x ∈ L) : (once L).length = M.length :=
  ((List.perm_ext_iff_of_nodup (once_nodup L) h).mpr fun x => mem_once.trans (e x).symm).length_eq
theorem once_range (n : Int) : (once (rangeL 0 n)).length = n.toNat := by
  rw [once_perm ((rangeL_lt 0 n).imp fun h => by omega) fun x => Iff.rfl, len_rangeL]
  simp
/-- a step of counting: part, rings -/
def holdS (ts : List (Int × Int)) (t : List Int × Nat) (k : Int) : List Int × Nat :=
  match ts[k.toNat]? with
  | none => t
  | some q => (relab (t.1.getD q.2.toNat 0) (t.1.getD q.1.toNat 0) t.1, t.2 + if t.1.getD q.1.toNat 0 = t.1.getD q.2.toNat 0 then 1 else 0)
/-- the parts and the rings of these ties -/
def holdL (n : Int) (ts : List (Int × Int)) (ns : List Int) : List Int × Nat := ns.foldl (holdS ts) (rangeL 0 n, 0)
def parts (n : Int) (ts : List (Int × Int)) (ns : List Int) : Nat := (once (holdL n ts ns).1).length
def rings (n : Int) (ts : List (Int × Int)) (ns : List Int) : Nat := (holdL n ts ns).2
def InW (n : Int) (ts : List (Int × Int)) : Prop := 0 ≤ n ∧ ∀ q ∈ ts, 0 ≤ q.1 ∧ q.1 < n ∧ 0 ≤ q.2 ∧ q.2 < n
def InN (ts : List (Int × Int)) (ns : List Int) : Prop := ∀ k ∈ ns, 0 ≤ k ∧ k < (ts.length : Nat)
structure HoldOk (n : Int) (ts : List (Int × Int)) (ns : List Int) (t : List Int × Nat) : Prop where
  lab : LabOk ts ns t.1
  len : t.1.length = n.toNat
  cnt : (once t.1).length + ns.length = n.toNat + t.2
end HD

/-! G7: one tie for another, in a wood. -/
namespace HD
open Tsa
variable {n : Int} {ts : List (Int × Int)} {I J : List Int} {a b x y p q : Int}
/-- out and in, one after the other -/
def swaps (I : List Int) : List (Int × Int) → List Int
  | [] => I
  | (x, y) :: r => swaps (I.erase y ++ [x]) r
/-- the way of x -/
def WayOf (ts : List (Int × Int)) (row : Int → List Int) (x : Int) : Prop := ∃ p q Vs, ts[x.toNat]? = some (p, q) ∧ Fol ts p (row x) q Vs ∧ (row x).Nodup
end HD

/-! G8: woods and labels: how many ties inside. -/
namespace HD
open Tsa
variable {n : Int} {ts : List (Int × Int)} {F I L : List Int}
/-- both ends of this tie have one label -/
def Inside (ts : List (Int × Int)) (L : List Int) (k : Int) : Prop := ∀ q, ts[k.toNat]? = some q → L[q.1.toNat]? = L[q.2.toNat]?
end HD

/-! G9: several woods: room, and labels that are filled. -/
namespace HD
open Tsa
variable {n : Int} {ts : List (Int × Int)} {L : List Int} {Ws Vs : List (List Int)}
def insB (ts : List (Int × Int)) (L : List Int) (k : Int) : Bool := match ts[k.toNat]? with
  | none => true
  | some q => decide (L[q.1.toNat]? = L[q.2.toNat]?)
/-- woods of these ties, no tie twice -/
structure Woods (n : Int) (ts : List (Int × Int)) (Ws : List (List Int)) : Prop where
  inn : ∀ W ∈ Ws, InN ts W
  free : ∀ W ∈ Ws, rings n ts W = 0
  nd : Ws.flatten.Nodup
def inside (ts : List (Int × Int)) (L : List Int) (Ws : List (List Int)) : Nat := (Ws.flatten.filter (insB ts L)).length
def spare (n : Int) (L : List Int) : Nat := n.toNat - (once L).length
/-- filled: no further tie inside can be held -/
def Filled (n : Int) (ts : List (Int × Int)) (L : List Int) (Ws : List (List Int)) : Prop := Ws.length * spare n L ≤ inside ts L Ws
end HD

/-! G10: what woods can hold, and when they hold it. -/
namespace HD
open Tsa
variable {n : Int} {ts : List (Int × Int)} {L : List Int} {Ws : List (List Int)}
/-- the ties between labels -/
def apart (ts : List (Int × Int)) (L : List Int) : Nat := (ts.filter fun q => !decide (L[q.1.toNat]? = L[q.2.toNat]?)).length
end HD

/-! G11: moves along a chain keep the woods. -/
namespace HD
open Tsa
variable {n : Int} {ts : List (Int × Int)}
/-- in wood w: who comes in, who goes out, the last first -/
def prs (w : Int) : List (Int × Int) → List (Int × Int)
  | [] => []
  | (x, v) :: r => match r with
    | [] => []
    | (y, _) :: _ => prs w r ++ (if v = w then [(x, y)] else [])
/-- moves as the search finds them: row w x is the way of x in wood w -/
inductive Chain (ts : List (Int × Int)) (own : Int → Option Int) (W : Int → List Int) (row : Int → Int → List Int) : List (Int × Int) → Prop
  | last {x v : Int} : own x ≠ some v → Chain ts own W row [(x, v)]
  | next {x v y v' : Int} {r : List (Int × Int)} : own x ≠ some v → own y = some v → WayOf ts (row v) x → y ∈ row v x → (∀ j ∈ row v x, j ∈ W v) →
      (∀ z ∈ r, ∀ w, own z.1 = some w → own x ≠ some w → z.1 ∉ row w x) → Chain ts own W row ((y, v') :: r) → Chain ts own W row ((x, v) :: (y, v') :: r)
variable {own : Int → Option Int} {W : Int → List Int} {row : Int → Int → List Int}
end HD

/-! G12: what the woods are when the moves are made. -/
namespace HD
open Tsa
variable {n : Int} {ts : List (Int × Int)} {own : Int → Option Int} {W : Int → List Int} {row : Int → Int → List Int}
/-- wood w when all moves are made -/
def moved (W : Int → List Int) (c : List (Int × Int)) (w : Int) : List Int := swaps (W w) (prs w c) ++ match c.getLast? with
  | some (x, v) => if v = w then [x] else []
  | none => []
end HD

/-! G13: the search for moves, plainly; the new tie stands for None. -/
namespace HD
open Tsa
variable {n : Int} {ts : List (Int × Int)} {own : Int → Option Int} {W : Int → List Int} {row : Int → Int → List Int}
/-- ks: found, in their order; par: from where; d: how many are done -/
structure Bfs (ts : List (Int × Int)) (own : Int → Option Int) (W : Int → List Int) (row : Int → Int → List Int) (many e : Int) (ks : List Int) (par : Int → Int) (d : Nat) : Prop where
  nd : ks.Nodup
  up : ∀ y ∈ ks, y ≠ e → par y ∈ ks ∧ ks.idxOf (par y) < ks.idxOf y ∧ ks.idxOf (par y) < d ∧ ∃ w, 0 ≤ w ∧ w < many ∧ own y = some w ∧ own (par y) ≠ some w ∧ y ∈ row w (par y)
  new : own e = none
  rows : ∀ x ∈ ks, ks.idxOf x < d → ∀ w, 0 ≤ w → w < many → own x ≠ some w → WayOf ts (row w) x ∧ (∀ j ∈ row w x, j ∈ W w) ∧ ∀ y ∈ row w x, y ∈ ks ∧ (y ≠ e → ks.idxOf (par y) ≤ ks.idxOf x)
  top : ∀ x ∈ ks, ∀ w, own x = some w → 0 ≤ w ∧ w < many
/-- the walk back to the new tie -/
def back (own : Int → Option Int) (par : Int → Int) (e : Int) : Nat → Int → List (Int × Int) → List (Int × Int)
  | 0, _, acc => acc
  | f + 1, x, acc => if x = e then acc else back own par e f (par x) ((par x, (own x).getD 0) :: acc)
end HD

/-! G14: a search that finds nothing. -/
namespace HD
open Tsa
variable {n : Int} {ts : List (Int × Int)} {own : Int → Option Int} {W : Int → List Int} {row : Int → Int → List Int}
end HD

/-! G15: two filled labellings, joined. -/
namespace HD
open Tsa
variable {n : Int} {ts : List (Int × Int)} {L M : List Int} {Ws : List (List Int)}
end HD

/-! G16: the search's ties in a table: the new tie stands for None. -/
namespace HD
open PySem PySem.Spec PyProof.Rows L2 Tsa
abbrev Tb := List (Int × Option Int)
def ksA (e : Int) (A : Tb) : List Int := e :: A.map (·.1)
def parA (e : Int) (A : Tb) (y : Int) : Int := ((aGet A y).getD none).getD e
def ahd (A : Tb) : List (Option Int × Option Int) := (none, none) :: A.map fun p => (some p.1, p.2)
/-- the ties of a way that are new are put behind -/
def addA (t : Option Int) : Tb → List Int → Tb
  | A, [] => A
  | A, y :: r => if y ∈ A.map (·.1) then addA t A r else addA t (A ++ [(y, t)]) r
variable {n : Int} {ts : List (Int × Int)} {own : Int → Option Int} {W : Int → List Int} {row : Int → Int → List Int} {many e : Int}
/-- in the midst of a tie's turn: A0 what was there ahead of it, w the next wood -/
structure Mid (ts : List (Int × Int)) (own : Int → Option Int) (W : Int → List Int) (row : Int → Int → List Int) (many e : Int) (A0 A : Tb) (d : Nat) (x : Int) (t : Option Int) (w : Int) : Prop where
  base : Bfs ts own W row many e (ksA e A0) (parA e A0) d
  at_ : (ksA e A0)[d]? = some x
  tx : t.getD e = x
  ext : ∃ B, A = A0 ++ B ∧ ∀ p ∈ B, p.2 = t ∧ ∃ w', 0 ≤ w' ∧ w' < many ∧ own p.1 = some w' ∧ own x ≠ some w' ∧ p.1 ∈ row w' x
  nd : (ksA e A).Nodup
  rows : ∀ w', 0 ≤ w' → w' < w → own x ≠ some w' → WayOf ts (row w') x ∧ (∀ j ∈ row w' x, j ∈ W w') ∧ ∀ y ∈ row w' x, y ∈ A.map (·.1)
end HD

/-! G17: woods kept in a table by tie; loops that may end early. -/
namespace Tsa
open PySem PySem.Spec PyProof.Rows L2
theorem compL_filtM {α β : Type} {q : α → Bool} {g : α → β} {f : α → Unit → Res (Option β × Unit)} : ∀ l : List α, (∀ x ∈ l, f x () = cond (q x) (.ok (some (g x), ())) (.ok (none, ()))) → compL f l () = .ok ((l.filter q).map g, ())
  | [], _ => rfl
  | x :: l, h => by
    rw [compL_cons, h x List.mem_cons_self]
    have ih := compL_filtM l fun y hy => h y (List.mem_cons_of_mem _ hy)
    cases e : q x with
    | true =>
      show (compL f l ()).bind (fun p => Res.ok (consO (some (g x)) p.1, p.2)) = _
      rw [ih, List.filter_cons_of_pos e]; rfl
    | false =>
      show (compL f l ()).bind (fun p => Res.ok (consO none p.1, p.2)) = _
      rw [ih, List.filter_cons_of_neg (by rw [e]; exact Bool.false_ne_true)]; rfl
theorem range_cons {lo hi : Int} (h : lo < hi) : rangeL lo hi = lo :: rangeL (lo + 1) hi := by
  unfold rangeL
  have e : (hi - lo).toNat = (hi - (lo + 1)).toNat + 1 := by omega
  rw [e, List.range_succ_eq_map, List.map_cons, List.map_map]
  have a : lo + ((0 : Nat) : Int) = lo := by omega
  rw [a]
  congr 1
  refine List.map_congr_left fun k _ => ?_
  show lo + ((k + 1 : Nat) : Int) = lo + 1 + (k : Int)
  omega
theorem range_nil {lo hi : Int} (h : hi ≤ lo) : rangeL lo hi = [] := by
  unfold rangeL
  have e : (hi - lo).toNat = 0 := by omega
  rw [e]; rfl
end Tsa
namespace HD
open PySem PySem.Spec PyProof.Rows L2 Tsa
section
variable {n : Int} {ts : List (Int × Int)}
end
/-! ### a table of ties and woods -/
abbrev Dc := List (Int × Int)
def Wd (d : Dc) (v : Int) : List Int := sortD PyData.int ((d.filter fun p => decide (p.2 = v)).map (·.1))
def Wds (many : Int) (d : Dc) : List (List Int) := (rangeL 0 many).map (Wd d)
section
variable {d : Dc} {v k : Int}
structure WOk (n : Int) (ts : List (Int × Int)) (many : Int) (d : Dc) : Prop where
  nd : (d.map (·.1)).Nodup
  inn : ∀ p ∈ d, (0 ≤ p.1 ∧ p.1 < (ts.length : Nat)) ∧ 0 ≤ p.2 ∧ p.2 < many
  free : ∀ v, 0 ≤ v → v < many → rings n ts (Wd d v) = 0
variable {n many : Int} {ts : List (Int × Int)}
theorem int_len {L : List Int} {m : Nat} (nd : L.Nodup) (h : ∀ x ∈ L, 0 ≤ x ∧ x < (m : Nat)) : L.length ≤ m := by
  have := nodup_len (L := rangeL 0 (m : Nat)) nd fun x hx => mem_rangeL.mpr (h x hx)
  rw [len_rangeL] at this
  omega
theorem WOk.len (h : WOk n ts many d) : d.length ≤ ts.length := by
  have := int_len h.nd (m := ts.length) fun x hx => by
    obtain ⟨p, hp, rfl⟩ := List.mem_map.mp hx
    exact (h.inn p hp).1
  rwa [List.length_map] at this
/-- all moves done -/
def putAll (d : Dc) (c : List (Int × Int)) : Dc := c.foldl (fun d p => aPut d p.1 p.2) d
end
end HD

set_option exponentiation.threshold 6000
namespace HD
open PySem PySem.Spec PyProof.Rows L2 Tsa
/-! ### what may be shown -/
def Nx (d : PyData) : Prop := Sx 2 700 d
theorem nx_int {i : Int} (h : i.natAbs < 10 ^ 66) : Nx (.int i) := (sx_int h).mono (by decide) (by decide)
theorem nx_pair {a b : PyData} {D V W : Nat} (ha : Sx D V a) (hb : Sx D W b) (hD : D ≤ 1) (hW : V + 1 + (W + 1) ≤ 700) : Nx (.tuple [a, b]) :=
  ((SxL.cons ha (SxL.cons hb (SxL.nil (D := D) (W := 0)))).tup).mono (by omega) (by omega)
theorem nx_ii {a b : Int} (ha : a.natAbs < 10 ^ 66) (hb : b.natAbs < 10 ^ 66) : Nx (eT2II (a, b)) := nx_pair (sx_int ha) (sx_int hb) (by decide) (by decide)
theorem show_list {L : List PyData} (h : ∀ x ∈ L, Nx x) (hl : L.length ≤ 140) : showX (eLX L) = true := by
  have e : eLX L = .list L := by show PyData.list (L.map fun x => x) = _; rw [List.map_id']
  rw [e]
  exact (SxL.all h hl : SxL 2 (140 * 701) L).list.show_ (by decide) (by decide)
theorem sx_one {i : Int} (h : i.natAbs < 10 ^ 66) : Sx 1 221 (eLI [i]) := ((SxL.cons (sx_int h) (SxL.nil (D := 0) (W := 0))).list).mono (by decide) (by decide)
theorem sx_oneW {i : Int} (h : i.natAbs < 10 ^ 66) : Sx 1 221 (eWI [i]) := ((SxL.cons (sx_int h) (SxL.nil (D := 0) (W := 0))).tup).mono (by decide) (by decide)
theorem nx_word {s : Str} (h : Sx 0 200 (.str s)) : Nx (eWS [s]) := ((SxL.cons h (SxL.nil (D := 0) (W := 0))).tup).mono (by decide) (by decide)
theorem sx_web : Sx 0 200 (.str ("web" : PySem.Str)) := ⟨by decide, by decide, by decide, by decide⟩
theorem sx_many : Sx 0 200 (.str ("many" : PySem.Str)) := ⟨by decide, by decide, by decide, by decide⟩
theorem sx_tie : Sx 0 200 (.str ("tie" : PySem.Str)) := ⟨by decide, by decide, by decide, by decide⟩
theorem nx_tie {j : Int} (h : j.natAbs < 10 ^ 66) : Nx (eT2SI (("tie" : PySem.Str), j)) := nx_pair sx_tie (sx_int h) (by decide) (by decide)
theorem sm_tie {j : Int} (h : j.natAbs < 10 ^ 12) : showOk (eT2SI (("tie" : PySem.Str), j)) = true := by
  have s : Sm 0 40 (.str ("tie" : PySem.Str)) := ⟨by decide +kernel, by decide, by decide, by decide, by decide⟩
  exact ((SmL.cons s (SmL.cons (sm_int h) (SmL.nil (W := 0)))).tup).show_ (by decide) (by decide)
/-! ### what is drawn -/
theorem ne_turn {a b n : Int} (a0 : 0 ≤ a) (a1 : a < n) (b0 : 0 ≤ b) (b1 : b < n - 1) : a ≠ (a + 1 + b) % n := by
  by_cases c : a + 1 + b < n
  · rw [Int.emod_eq_of_lt (by omega) c]; omega
  · have e : a + 1 + b = (a + 1 + b - n) + n := by omega
    rw [e, Int.add_emod_right, Int.emod_eq_of_lt (by omega) (by omega)]; omega
theorem pair_ok {p : Int × Int} {n : Int} {found : Pr} (g : PotOk p) (n2 : 1 < n) (n9 : n ≤ 9) (hf : ∀ q ∈ found, LP n q) (hl : found.length ≤ 60) : Fine (m_pair p n found) fun r => LP n r.1 ∧ PotOk r.2 := by
  unfold m_pair
  refine Fine.bind (P := fun c => PotOk c.2 ∧ (c.1 = true → found ≠ [])) (Fine.cond (fun e => ?_) fun _ => Fine.ok ⟨g, fun z => nomatch z⟩) fun c hc => Fine.cond (fun e => ?_) fun _ => ?_
  · have ne : found ≠ [] := by simpa using e
    exact (take_ok g (by decide : (0 : Int) < 4) (by decide)).bind fun r hr => Fine.ok ⟨hr.2.2, fun _ => ne⟩
  · have pos : 0 < found.length := List.length_pos_iff.mpr (hc.2 e)
    refine (take_ok hc.1 (by omega : (0 : Int) < (found.length : Nat)) (by omega)).bind fun r hr => (Fine.idxM hr.1 hr.2.1).bind fun q hq => Fine.ok ⟨?_, hr.2.2⟩
    obtain ⟨a, b, c⟩ := hf q hq
    exact ⟨b, a, Ne.symm c⟩
  · refine (take_ok hc.1 (by omega) (by omega)).bind fun r hr => (take_ok hr.2.2 (by omega : 0 < n - 1) (by omega)).bind fun r2 hr2 => Fine.gd (by omega) (Fine.ok ⟨⟨⟨hr.1, hr.2.1⟩, ⟨Int.emod_nonneg _ (by omega), Int.emod_lt_of_pos _ (by omega)⟩, ne_turn hr.1 hr.2.1 hr2.1 hr2.2.1⟩, hr2.2.2⟩)
theorem pairs_ok {p : Int × Int} {n : Int} (g : PotOk p) (n1 : 1 ≤ n) (n9 : n ≤ 9) : Fine (m_pairs p n) fun r => r.1.length ≤ 30 ∧ (∀ q ∈ r.1, LP n q) ∧ PotOk r.2 := by
  unfold m_pairs
  refine Fine.bindv ((take_ok g (by decide : (0 : Int) < 31) (by decide)).bind fun r hr => Fine.gd (.inl (.inl (by have := hr.1; have := hr.2.1; omega))) ?_)
  have mu : (r.1 * ofB (decide (1 < n)) = r.1 ∧ 1 < n) ∨ (r.1 * ofB (decide (1 < n)) = 0 ∧ ¬ 1 < n) := by
    by_cases c : 1 < n
    · rw [decide_eq_true c]
      exact .inl ⟨by show r.1 * 1 = r.1; omega, c⟩
    · rw [decide_eq_false c]
      exact .inr ⟨by show r.1 * 0 = 0; omega, c⟩
  have r0 := hr.1
  have r1 := hr.2.1
  refine Fine.gd (rng_ok (by rcases mu with h | h <;> rw [h.1] <;> omega) (by rcases mu with h | h <;> rw [h.1] <;> omega)) ((Fine.forSn (fun rest (t : (Int × Int) × Pr) => PotOk t.1 ∧ t.2.length + rest.length ≤ 30 ∧ ∀ q ∈ t.2, LP n q) ⟨hr.2.2, by show 0 + (rangeL 0 _).length ≤ 30; rw [len_rangeL]; rcases mu with h | h <;> rw [h.1] <;> omega, fun _ z => absurd z List.not_mem_nil⟩ fun x rest t ht hx => ?_).bind fun t ht => ?_)
  · have n2 : 1 < n := by
      rcases mu with h | h
      · exact h.2
      · have hx := hx x List.mem_cons_self
        rw [h.1, range_nil (Int.le_refl 0)] at hx
        cases hx
    obtain ⟨k1, k2, k3⟩ := ht
    rw [List.length_cons] at k2
    unfold f_pairs_1
    refine (pair_ok k1 n2 n9 k3 (by omega)).bind fun r2 h2 => Fine.gd (by omega) (Fine.bindv (Fine.ok ⟨h2.2, by show (t.2 ++ [r2.1]).length + rest.length ≤ 30; rw [List.length_append, List.length_singleton]; omega, fun q hq => ?_⟩))
    rcases List.mem_append.mp hq with hq | hq
    · exact k3 q hq
    · exact List.mem_singleton.mp hq ▸ h2.1
  · obtain ⟨a, b⟩ := t
    exact Fine.ok ⟨by have := ht.2.1; simpa using this, ht.2.2, ht.1⟩
theorem odd_ok {p : Int × Int} {n : Int} (g : PotOk p) (h1 : 1 ≤ n) (h9 : n ≤ 9) : Fine (m_odd p n) fun r => isLn n r.1 = false ∧ Nx r.1 ∧ PotOk r.2 := by
  unfold m_odd
  refine (take_ok g (by omega) (by omega)).bind fun r hr => Fine.bindv (Fine.gd (by show 14 + 3 ≤ 16000000; decide) (Fine.bindv ((take_ok hr.2.2 (by decide : (0 : Int) < 17) (by decide)).bind fun r2 hr2 => Fine.bind (Fine.idxM hr2.1 ?_) fun x hx => Fine.ok ?_)))
  · exact hr2.2.1
  have r0 := hr.1
  have r1 := hr.2.1
  have a1 : r.1.natAbs < 10 ^ 66 := by omega
  have a3 : n.natAbs < 10 ^ 66 := by omega
  have sab : Sx 0 200 (.str ("ab" : PySem.Str)) := ⟨by decide, by decide, by decide, by decide⟩
  have s1 : Sx 0 200 (.str ("1" : PySem.Str)) := ⟨by decide, by decide, by decide, by decide⟩
  have fls : ∀ {a b : Int}, ¬ LP n (a, b) → isLn n (.tuple [.int a, .int b]) = false := fun {a b} h => by
    show ((decide (0 ≤ a) && decide (a < n)) && ((decide (0 ≤ b) && decide (b < n)) && !decide (a = b))) = false
    cases e : ((decide (0 ≤ a) && decide (a < n)) && ((decide (0 ≤ b) && decide (b < n)) && !decide (a = b))) with
    | false => rfl
    | true =>
      simp only [Bool.and_eq_true, decide_eq_true_eq, Bool.not_eq_true', decide_eq_false_iff_not] at e
      exact absurd ⟨e.1, e.2.1, e.2.2⟩ h
  simp only [List.cons_append, List.nil_append, List.mem_cons, List.not_mem_nil, or_false] at hx
  rcases hx with rfl | rfl | rfl | rfl | rfl | rfl | rfl | rfl | rfl | rfl | rfl | rfl | rfl | rfl | rfl | rfl | rfl
  · exact ⟨rfl, sx_none.mono (by decide) (by decide), hr2.2.2⟩
  · exact ⟨rfl, nx_int a1, hr2.2.2⟩
  · exact ⟨rfl, sab.mono (by decide) (by decide), hr2.2.2⟩
  · exact ⟨rfl, ((SxL.cons (sx_int (i := 0) (by decide)) (SxL.cons (sx_int (i := 1) (by decide)) (SxL.nil (W := 0)))).list).mono (by decide) (by decide), hr2.2.2⟩
  · exact ⟨rfl, (sx_oneW a1).mono (by decide) (by decide), hr2.2.2⟩
  · exact ⟨fls fun h => h.2.2 rfl, nx_ii a1 a1, hr2.2.2⟩
  · exact ⟨fls fun h => absurd h.2.1.2 (Int.lt_irrefl n), nx_ii a1 a3, hr2.2.2⟩
  · exact ⟨fls fun h => absurd (show (0 : Int) ≤ -1 from h.1.1) (by decide), nx_ii (by decide) a1, hr2.2.2⟩
  · exact ⟨rfl, ((SxL.cons (sx_int (i := 0) (by decide)) (SxL.cons (sx_int (i := 1) (by decide)) (SxL.cons (sx_int (i := 2) (by decide)) (SxL.nil (W := 0))))).tup).mono (by decide) (by decide), hr2.2.2⟩
  · exact ⟨rfl, ((SxL.nil (D := 0) (W := 0)).tup).mono (by decide) (by decide), hr2.2.2⟩
  · exact ⟨rfl, (sx_bool true).mono (by decide) (by decide), hr2.2.2⟩
  · exact ⟨rfl, nx_pair (sx_int a1) sx_none (by decide) (by decide), hr2.2.2⟩
  · exact ⟨rfl, nx_pair (sx_int a1) s1 (by decide) (by decide), hr2.2.2⟩
  · exact ⟨rfl, ((SxK.nil (D := 0) (W := 0)).dict).mono (by decide) (by decide), hr2.2.2⟩
  · exact ⟨rfl, nx_pair (sx_bool true) (sx_int a1) (by decide) (by decide), hr2.2.2⟩
  · exact ⟨rfl, nx_pair (sx_oneW (i := 0) (by decide)) ((sx_int (i := 1) (by decide)).mono (by decide) (Nat.le_refl _)) (by decide) (by decide), hr2.2.2⟩
  · exact ⟨rfl, nx_pair ((sx_int a1).mono (by decide) (Nat.le_refl _)) (sx_one (i := 1) (by decide)) (by decide) (by decide), hr2.2.2⟩
theorem none_ok {p : Int × Int} (g : PotOk p) : Fine (m_no_places p) fun r => okN r.1 = false ∧ PotOk r.2 := by
  unfold m_no_places
  refine (take_ok g (by decide) (by decide)).bind fun r hr => Fine.gd (.inl (.inl ?_)) (Fine.bindv ((take_ok hr.2.2 (by decide : (0 : Int) < 12) (by decide)).bind fun r2 hr2 => ?_))
  · have := hr.1
    have e : r.1 < 1000000000 := hr.2.1
    show r.1.natAbs < 18446744073709551616
    omega
  have f0 : 0 ≤ r.1 * 10 ^ (50 : Int).toNat := Int.mul_nonneg hr.1 (by decide)
  generalize r.1 * 10 ^ (50 : Int).toNat = far at f0
  refine Fine.bind (Fine.idxM hr2.1 ?_) fun x hx => Fine.ok ⟨?_, hr2.2.2⟩
  · exact hr2.2.1
  show okN x = false
  have pi : ∀ i : Int, ¬ (1 ≤ i ∧ i ≤ 9) → okN (.int i) = false := fun i h => by
    show (decide (1 ≤ i) && decide (i ≤ 9)) = false
    cases a : decide (1 ≤ i) with
    | false => rfl
    | true =>
      have a := of_decide_eq_true a
      show decide (i ≤ 9) = false
      exact decide_eq_false fun z => h ⟨a, z⟩
  simp only [List.mem_cons, List.not_mem_nil, or_false] at hx
  rcases hx with rfl | rfl | rfl | rfl | rfl | rfl | rfl | rfl | rfl | rfl | rfl | rfl
  · rfl
  · rfl
  · rfl
  · exact pi _ (by omega)
  · exact pi _ (by omega)
  · rfl
  · rfl
  · rfl
  · rfl
  · rfl
  · rfl
  · rfl
theorem cut_len {α : Type} {ys : List α} {j : Int} (j0 : 0 ≤ j) (h : j ≤ (ys.length : Nat)) : (cutG ys none (some j)).length = j.toNat := by
  have e : HT.sIx ys.length ys.length (some j) = j.toNat := by
    unfold HT.sIx
    simp only []
    rw [if_neg (by omega)]
    omega
  unfold cutG
  rw [e, List.length_take, List.length_drop]
  show min (j.toNat - 0) (ys.length - 0) = _
  omega
theorem cut_le {α : Type} {ys : List α} {j : Int} (j0 : 0 ≤ j) : (cutG ys none (some j)).length ≤ j.toNat := by
  by_cases h : j ≤ (ys.length : Nat)
  · rw [cut_len j0 h]; exact Nat.le_refl _
  · exact Nat.le_trans cutG_len (by omega)
theorem repD_len {α : Type} {n : Nat} {xs : List α} : (repD n xs).length = n * xs.length := by
  unfold repD
  rw [List.length_flatten, List.map_replicate, List.sum_replicate_nat]
theorem repD_mem {α : Type} {n : Nat} {xs : List α} {x : α} (h : x ∈ repD n xs) : x ∈ xs := by
  unfold repD at h
  obtain ⟨l, hl, hq⟩ := List.mem_flatten.mp h
  obtain ⟨_, rfl⟩ := List.mem_replicate.mp hl
  exact hq
/-- a thing among them that is none -/
theorem bad_some {n : Int} {L : List PyData} (h : ∃ x ∈ L, isLn n x = false) : ∃ z : PyData × Nat, bad1 n L.zipIdx = some z ∧ z.2 < L.length := by
  obtain ⟨x, hx, e⟩ := h
  obtain ⟨i, hi, rfl⟩ := List.mem_iff_getElem.mp hx
  have hm : (L[i], i) ∈ L.zipIdx := by
    rw [List.mem_zipIdx_iff_getElem?]
    exact List.getElem?_eq_getElem hi
  unfold bad1
  cases q : L.zipIdx.find? fun z => !isLn n z.1 with
  | none =>
    have := List.find?_eq_none.mp q _ hm
    rw [show (!isLn n (L[i], i).1) = true from by rw [e]; rfl] at this
    exact absurd rfl this
  | some z =>
    have hz := List.mem_of_find?_eq_some q
    have := (List.mem_zipIdx hz).2.1
    exact ⟨z, rfl, by omega⟩
theorem find_head {α : Type} {P : α → Bool} : ∀ {l : List α} {x : α}, l.find? P = some x → ∃ r, l.filter P = x :: r
  | [], x, h => by cases h
  | a :: l, x, h => by
    rw [List.find?_cons] at h
    cases c : P a with
    | true =>
      rw [c] at h
      cases h
      exact ⟨_, List.filter_cons_of_pos c⟩
    | false =>
      rw [c] at h
      obtain ⟨r, e⟩ := find_head h
      exact ⟨r, by rw [List.filter_cons_of_neg (by rw [c]; exact Bool.false_ne_true)]; exact e⟩
end HD

set_option exponentiation.threshold 6000
namespace HD
open PySem PySem.Spec PyProof.Rows L2 Tsa
theorem lay_let : SeqAt.shaped (eWS [("let" : PySem.Str)]) = true := by decide +kernel
theorem eqv_let : PyData.eqv (eWS [("let" : PySem.Str)]) (eWS [("let" : PySem.Str)]) = true := by decide +kernel
theorem law_true (ns : List Int) (h : ns.length ≤ 63) : m_law ns = .ok true := by
  unfold m_law
  refine Fine.run (Fine.gd (rng_ok (by omega) (by omega)) ((Fine.forL (fun _ : Unit => True) trivial fun x hx t _ => ?_).bind fun r hr => ?_))
  · have hx := mem_rangeL.mp hx
    unfold f_law_16
    refine (pot_ok hx.1 (by omega)).bind fun p g => (take_ok g (by decide : (0 : Int) < 9) (by decide)).bind fun r2 h2 => Fine.bindv ?_
    have n1 : 1 ≤ 1 + r2.1 := by have := h2.1; omega
    have n9 : 1 + r2.1 ≤ 9 := by have := h2.2.1; omega
    generalize 1 + r2.1 = n at n1 n9
    refine (none_ok h2.2.2).bind fun r3 h3 => (pairs_ok h3.2 n1 n9).bind fun r4 h4 => Fine.bindv ?_
    obtain ⟨p1, p2, g4⟩ := h4
    have c1 : (cutG r4.1 none (some 27)).length ≤ 27 := cut_le (j := 27) (by decide)
    have c2 : ∀ q ∈ cutG r4.1 none (some 27), LP n q := fun q hq => p2 q (cutG_mem hq)
    generalize cutG r4.1 none (some 27) = bad at c1 c2
    refine (take_ok g4 (by decide : (0 : Int) < 3) (by decide)).bind fun r5 h5 => Fine.gd (rng_ok (by have := h5.1; omega) (by have := h5.2.1; omega)) ?_
    have t0 := h5.1
    have t1 := h5.2.1
    refine (Fine.forSn (fun rest (t : (Int × Int) × List PyData) => PotOk t.1 ∧ t.2.length + rest.length ≤ 30 ∧ (∀ x ∈ t.2, Nx x) ∧ ((∃ x ∈ t.2, isLn n x = false) ∨ rest ≠ [])) ⟨h5.2.2, by show (bad.map eT2II).length + (rangeL 0 (1 + r5.1)).length ≤ 30; rw [List.length_map, len_rangeL]; omega, fun x hx => ?_, .inr ?_⟩ fun x rest t ht _ => ?_).bind fun t ht => ?_
    · obtain ⟨q, hq, rfl⟩ := List.mem_map.mp hx
      obtain ⟨⟨a, b⟩, ⟨c, d⟩, _⟩ := c2 q hq
      exact nx_ii (by omega) (by omega)
    · rw [range_cons (by omega)]
      exact List.cons_ne_nil _ _
    · obtain ⟨k1, k2, k3, _⟩ := ht
      rw [List.length_cons] at k2
      unfold f_law_1
      refine (odd_ok k1 n1 n9).bind fun r6 h6 => (take_ok h6.2.2 (by omega : (0 : Int) < (t.2.length : Nat) + 1) (by omega)).bind fun r7 h7 => Fine.gd ⟨h7.1, by have := h7.2.1; omega, by omega⟩ (Fine.bindv (Fine.ok ⟨h7.2.2, ?_, fun y hy => ?_, .inl ⟨r6.1, ?_, h6.1⟩⟩))
      · show (t.2.take r7.1.toNat ++ [r6.1] ++ t.2.drop r7.1.toNat).length + rest.length ≤ 30
        rw [List.length_append, List.length_append, List.length_take, List.length_drop, List.length_singleton]
        omega
      · rcases List.mem_append.mp hy with hy | hy
        · rcases List.mem_append.mp hy with hy | hy
          · exact k3 y (List.mem_of_mem_take hy)
          · exact List.mem_singleton.mp hy ▸ h6.2.1
        · exact k3 y (List.mem_of_mem_drop hy)
      · exact List.mem_append_left _ (List.mem_append_right _ (List.mem_singleton.mpr rfl))
    obtain ⟨pt, L⟩ := t
    obtain ⟨k1, k2, k3, k4⟩ := ht
    have k2 : L.length ≤ 30 := k2
    have k3 : ∀ x ∈ L, Nx x := k3
    have k4 : ∃ x ∈ L, isLn n x = false := k4.resolve_right fun z => z rfl
    have sL := show_list k3 (by omega)
    obtain ⟨z, hz, zl⟩ := bad_some k4
    have pos : 0 < L.length := by omega
    refine Fine.gd sL (Fine.bindv ?_)
    have e9 : compL (fun x' _ => c_law_15 n x') L.zipIdx () = .ok ((L.zipIdx.filter fun z => !isLn n z.1).map (fun z => (z.2 : Int)), ()) := compL_filtM _ fun y _ => by
      unfold c_law_15
      rw [lpair_ok]
      cases isLn n y.1 <;> rfl
    obtain ⟨rr, er⟩ := find_head hz
    rw [e9, Res.bind_ok, er]
    have i0 : idx ((z :: rr).map fun z => (z.2 : Int)) 0 = .ok (z.2 : Int) := by
      obtain ⟨x, ex, hx⟩ := Fine.idx (l := (z :: rr).map fun z => (z.2 : Int)) (i := 0) (Int.le_refl 0) (by rw [List.length_map, List.length_cons]; omega)
      obtain ⟨_, e⟩ := hx
      rw [ex, e]
      rfl
    rw [i0, Res.bind_ok]
    refine Fine.gd ⟨by decide, by decide, by omega⟩ ((take_ok k1 (by decide : (0 : Int) < 10) (by decide)).bind fun r11 h11 => Fine.bindv ?_)
    have lc : (cutG (repD (40 : Int).toNat L) none (some (31 + r11.1))).length = (31 + r11.1).toNat := cut_len (by have := h11.1; omega) (by rw [repD_len]; have := h11.2.1; show 31 + r11.1 ≤ ((40 * L.length : Nat) : Int); omega)
    have l30 : 30 < (cutG (repD (40 : Int).toNat L) none (some (31 + r11.1))).length := by rw [lc]; have := h11.1; omega
    rw [told0L h3.1, Res.bind_ok, told0 h3.1, Res.bind_ok, told1 n1 n9 l30, Res.bind_ok, told2 n1 n9 k2 hz, Res.bind_ok]
    have zz : ((z.2 : Nat) : Int).natAbs < 10 ^ 12 := by omega
    have zz' : ((z.2 : Nat) : Int).natAbs < 10 ^ 66 := by omega
    have sT : showX (eLX [(eWS [("web" : PySem.Str)]), (eWS [("web" : PySem.Str)]), (eWS [("many" : PySem.Str)]), (eT2SI (("tie" : PySem.Str), (z.2 : Int)))]) = true := show_list (fun x hx => by
      simp only [List.mem_cons, List.not_mem_nil, or_false] at hx
      rcases hx with rfl | rfl | rfl | rfl
      · exact nx_word sx_web
      · exact nx_word sx_web
      · exact nx_word sx_many
      · exact nx_tie zz') (by show 4 ≤ 140; decide)
    refine Fine.bindv (Fine.bind (P := fun c => c = false) (Fine.gd sT (Fine.gd sT ?_)) fun c hc => ?_)
    · rw [decide_eq_true rfl]
      refine Fine.cond (fun z => nomatch z) fun _ => Fine.gd sL ?_
      rw [decide_eq_true rfl]
      exact Fine.ok rfl
    rw [hc]
    refine Fine.cond (fun z => nomatch z) fun _ => Fine.bind (P := fun c => c = false) ?_ fun c hc => ?_
    · rw [told2W n1 n9 k2 hz, Res.bind_ok]
      refine Fine.gd ((nx_tie zz').show_ (by decide) (by decide)) (Fine.gd (sm_tie zz) ?_)
      rw [decide_eq_true rfl]
      exact Fine.ok rfl
    rw [hc]
    refine Fine.cond (fun z => nomatch z) fun _ => Fine.bindv (Fine.bind (P := fun c => c = false) (Fine.gd ⟨by decide, by decide, by omega⟩ ?_) fun c hc => ?_)
    · rw [told_let n1 n9 (cut_le (j := 30) (by decide)) (fun q hq => c2 q (repD_mem (cutG_mem hq))), Res.bind_ok]
      refine Fine.gd ⟨lay_let, lay_let⟩ ?_
      rw [show PyData.eqv (eX (eWS [("let" : PySem.Str)])) (eWS [("let" : PySem.Str)]) = true from eqv_let]
      refine Fine.cond (fun z => nomatch z) fun _ => ?_
      rw [made_ok n1 n9 (by omega) c2, Res.bind_ok, decide_eq_true rfl]
      exact Fine.ok rfl
    · rw [hc]
      exact Fine.ok ⟨(), rfl, trivial⟩
  · obtain ⟨t, rfl, _⟩ := hr
    exact Fine.ok rfl
end HD

namespace HD
open PySem PySem.Spec PyProof.Rows L2 Tsa
/-! -/
theorem md_of {K : PySem.W.Frag} {h : Heap} {mg : Str → Option Value} (X : K.In h) (G : h.Ns mainGlobals mg) (c : He.SaysD fa fn K) (cx : xfB2 XC XN XO K = true) : Md K mg where
  xf := (xfB2_ok cx).1
  xb := (xfB2_ok cx).2.2
  cn_TreeError := He.glo_ok X G (c.fact 33 (f := .glo "TreeError") rfl)
  cn_NoWeb := He.glo_ok X G (c.fact 34 (f := .glo "NoWeb") rfl)
  cn_TooMany := He.glo_ok X G (c.fact 35 (f := .glo "TooMany") rfl)
  cn_NoTie := He.glo_ok X G (c.fact 36 (f := .glo "NoTie") rfl)
  cn_NoSuch := He.glo_ok X G (c.fact 37 (f := .glo "NoSuch") rfl)
  cn_NoCount := He.glo_ok X G (c.fact 38 (f := .glo "NoCount") rfl)
  cn_NoPlace := He.glo_ok X G (c.fact 39 (f := .glo "NoPlace") rfl)
  cn_NoMost := He.glo_ok X G (c.fact 40 (f := .glo "NoMost") rfl)
  cn_NoTrees := He.glo_ok X G (c.fact 41 (f := .glo "NoTrees") rfl)
  cn_NoStrengths := He.glo_ok X G (c.fact 42 (f := .glo "NoStrengths") rfl)
  cn_NoSpreads := He.glo_ok X G (c.fact 43 (f := .glo "NoSpreads") rfl)
  cn_Held := He.glo_ok X G (c.fact 44 (f := .glo "Held") rfl)
  cn_NotHeld := He.glo_ok X G (c.fact 45 (f := .glo "NotHeld") rfl)
  cn_NoDeed := He.glo_ok X G (c.fact 46 (f := .glo "NoDeed") rfl)
  cn_NoRow := He.glo_ok X G (c.fact 47 (f := .glo "NoRow") rfl)
  cn_NoName := He.glo_ok X G (c.fact 48 (f := .glo "NoName") rfl)
  xk_NoWeb := excK_ok (c.fact 49 (f := .exc "NoWeb") rfl)
  xk_TooMany := excK_ok (c.fact 50 (f := .exc "TooMany") rfl)
  isinstance := He.free_ok X G (c.fact 17 (f := .free "isinstance") rfl)
  int := He.free_ok X G (c.fact 18 (f := .free "int") rfl)
  bool := He.free_ok X G (c.fact 19 (f := .free "bool") rfl)
  tuple := He.free_ok X G (c.fact 20 (f := .free "tuple") rfl)
  len := He.free_ok X G (c.fact 21 (f := .free "len") rfl)
  min := He.free_ok X G (c.fact 22 (f := .free "min") rfl)
  max := He.free_ok X G (c.fact 23 (f := .free "max") rfl)
  enumerate := He.free_ok X G (c.fact 24 (f := .free "enumerate") rfl)
  repr := He.free_ok X G (c.fact 25 (f := .free "repr") rfl)
  range := He.free_ok X G (c.fact 26 (f := .free "range") rfl)
  divmod := He.free_ok X G (c.fact 27 (f := .free "divmod") rfl)
  abs := He.free_ok X G (c.fact 28 (f := .free "abs") rfl)
  ValueError := He.free_ok X G (c.fact 29 (f := .free "ValueError") rfl)
  c_MOST_PLACES := He.int_ok X G (c.fact 30 (f := .int "MOST_PLACES" 9) rfl)
  c_MOST_TIES := He.int_ok X G (c.fact 31 (f := .int "MOST_TIES" 30) rfl)
  f_is_whole := by
    obtain ⟨fd, F⟩ := c.def_ 0 (d := d_is_whole) rfl
    exact ⟨_, fd, He.glo_ok X G (c.fact 0 (f := .glo "is_whole") rfl), F⟩
  f_is_place := by
    obtain ⟨fd, F⟩ := c.def_ 1 (d := d_is_place) rfl
    exact ⟨_, fd, He.glo_ok X G (c.fact 1 (f := .glo "is_place") rfl), F⟩
  f_is_pair := by
    obtain ⟨fd, F⟩ := c.def_ 2 (d := d_is_pair) rfl
    exact ⟨_, fd, He.glo_ok X G (c.fact 2 (f := .glo "is_pair") rfl), F⟩
  f_made_web := by
    obtain ⟨fd, F⟩ := c.def_ 3 (d := d_made_web) rfl
    exact ⟨_, fd, He.glo_ok X G (c.fact 3 (f := .glo "made_web") rfl), F⟩
  f_nth := by
    obtain ⟨fd, F⟩ := c.def_ 4 (d := d_nth) rfl
    exact ⟨_, fd, He.glo_ok X G (c.fact 4 (f := .glo "_law_nth") rfl), F⟩
  f_pot := by
    obtain ⟨fd, F⟩ := c.def_ 5 (d := d_pot) rfl
    exact ⟨_, fd, He.glo_ok X G (c.fact 5 (f := .glo "_law_pot") rfl), F⟩
  f_take := by
    obtain ⟨fd, F⟩ := c.def_ 6 (d := d_take) rfl
    exact ⟨_, fd, He.glo_ok X G (c.fact 6 (f := .glo "_law_take") rfl), F⟩
  f_pair := by
    obtain ⟨fd, F⟩ := c.def_ 7 (d := d_pair) rfl
    exact ⟨_, fd, He.glo_ok X G (c.fact 7 (f := .glo "_law_pair") rfl), F⟩
  f_pairs := by
    obtain ⟨fd, F⟩ := c.def_ 8 (d := d_pairs) rfl
    exact ⟨_, fd, He.glo_ok X G (c.fact 8 (f := .glo "_law_pairs") rfl), F⟩
  f_l_is_whole := by
    obtain ⟨fd, F⟩ := c.def_ 9 (d := d_l_is_whole) rfl
    exact ⟨_, fd, He.glo_ok X G (c.fact 9 (f := .glo "_law_is_whole") rfl), F⟩
  f_l_is_pair := by
    obtain ⟨fd, F⟩ := c.def_ 10 (d := d_l_is_pair) rfl
    exact ⟨_, fd, He.glo_ok X G (c.fact 10 (f := .glo "_law_is_pair") rfl), F⟩
  f_odd := by
    obtain ⟨fd, F⟩ := c.def_ 11 (d := d_odd) rfl
    exact ⟨_, fd, He.glo_ok X G (c.fact 11 (f := .glo "_law_odd") rfl), F⟩
  f_no_places := by
    obtain ⟨fd, F⟩ := c.def_ 12 (d := d_no_places) rfl
    exact ⟨_, fd, He.glo_ok X G (c.fact 12 (f := .glo "_law_no_places") rfl), F⟩
  f_is_other := by
    obtain ⟨fd, F⟩ := c.def_ 13 (d := d_is_other) rfl
    exact ⟨_, fd, He.glo_ok X G (c.fact 13 (f := .glo "_law_is_other") rfl), F⟩
  f_words := by
    obtain ⟨fd, F⟩ := c.def_ 14 (d := d_words) rfl
    exact ⟨_, fd, He.glo_ok X G (c.fact 14 (f := .glo "_law_words") rfl), F⟩
  f_told := by
    obtain ⟨fd, F⟩ := c.def_ 15 (d := d_told) rfl
    exact ⟨_, fd, He.glo_ok X G (c.fact 15 (f := .glo "_law_told") rfl), F⟩
  f_NoTie___init__ := by
    obtain ⟨fd, F⟩ := c.def_ 17 (d := d_NoTie___init__) rfl
    exact ⟨fd, F⟩
  xo_NoTie := (xfB2_ok cx).2.1 _ (by decide)
  no_NoTie_at := He.noat_ok (c.fact 32 (f := .noat "NoTie" "at") rfl)
theorem facts {P : Program} {w : World} {K : PySem.W.Frag} {h : Heap} {mg : Str → Option Value} {f : Addr} (X : K.In h) (G : h.Ns mainGlobals mg) (hfa : mg ("law" : Str) = some (.ref f)) (c : He.SaysD fa fn K ∧ xfB2 XC XN XO K = true) :
    ∃ fd : FuncData, (∀ (s : Shared) (v : Value), BindsTo s fd ⟨[v], []⟩ [("_law_script", v)]) ∧ ∀ base : Heap, K.In base → base.Ns mainGlobals mg → FnG P w K mg base 6 f fd ["_law_script"] (SpM K (fun a : List Int => [.val (.list (a.map .int))]) (fun a => m_law a) (fun _ r => .val (.bool r)) (fun _ r => [.hole]) (fun _ => [.hole])) := by
  obtain ⟨c, cx⟩ := c
  obtain ⟨fd, F⟩ := c.def_ 16 (d := d_law) rfl
  have e := hfa.symm.trans (He.glo_ok X G (c.fact 16 (f := .glo "law") rfl))
  cases e
  have b := FunD.bindsA (ps := ["_law_script"]) F fun _ _ _ _ _ _ us hl => match us, hl with | [_], _ => rfl
  exact ⟨fd, fun s v => b s [v] rfl, fun base _ _ => g_law F (md_of X G c cx)⟩
end HD

open PySem PySem.W PySem.Calls PyProof.Rows
theorem PySem.Challenge.cw_treesapart_k12_no_webs_holds : PySem.Challenge.rw_treesapart_k12_no_webs.Holds := by
  w_on; o_law
  refine HandSHeadRun.head_any (r := OpenLaw.row PySem.Challenge.rw_treesapart_k12_no_webs) (q := view (OpenLaw.row PySem.Challenge.rw_treesapart_k12_no_webs).prog [37]) (H := HD.hk) (ob := HD.ob) (M := 6000) (loose := HD.names)
    (d := HandSHeadRun.topDef (OpenLaw.row PySem.Challenge.rw_treesapart_k12_no_webs).prog 37) (kwd := []) HD.ob_eq
    (by kernel_rfl) (fun s => by kernel_rfl) HD.run (by kernel_rfl) (by kernel_rfl) (by kernel_rfl) (by rfl) (by first | assumption | decide +kernel)
    (by decide +kernel) ⟨rfl, rfl, rfl, rfl, rfl, by decide +kernel⟩ ?hw ?hc
  case hw => w_witness2
  case hc =>
    refine Tsa.walkG (l := PySem.Challenge.rw_treesapart_k12_no_webs) (n := 63) (k := 6) (x := "_law_script") rfl (by decide) (by kernel_rfl) ⟨rfl, by decide, by decide⟩ ?F
    intro w mg fa h Y G hmg0
    obtain ⟨K, KX, c⟩ := Y
    have hmg : mg ("law" : PySem.Str) = some (.ref fa) := by
      have e : (HandSHeadRun.topDef (OpenLaw.row PySem.Challenge.rw_treesapart_k12_no_webs).prog 37).name = ("law" : PySem.Str) := by kernel_rfl
      rw [← e]
      exact hmg0
    obtain ⟨fd, hb, hF⟩ := HD.facts (P := (PySem.Challenge.rw_treesapart_k12_no_webs).prog) (w := w) KX G hmg c
    exact ⟨K, fd, KX, hb, HD.m_law, fun _ _ => [.hole], fun _ => [.hole], fun ns hl => HD.law_true ns hl, hF⟩

