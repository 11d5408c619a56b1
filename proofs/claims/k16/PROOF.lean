import PyProof.Rows.All
import Wide.All
import OpenK.AllK
import Wide.FinOn
import HandS.ForMost
import HandS.Exc
import HandS.ExcCtx
import HandS.HotCalls
import HandS.ExcField
import HandS.ExcIs
import HandS.ExcInit
import HandS.TryOnly
import HandS.ExcOwn
import HandS.WordsExc
import HandS.Defaults
import HandS.Head0
import HandS.Head1
import HandS.Head2
import HandS.HeadEnd
import HandS.HeadHook1
import HandS.HeadHook2
import HandS.Wide
import HandS.WideBits
import HandS.IsInst
import PyProof.ReprRoads
import KE.GoesEnum
import HandS.Style
import KE.DataMinMax
import HandS.More
import HandS.TupAny
import HandS.Deep
import HandS.SortInts
import HandS.Conv
import HandS.SetFor
import KE.SortData
import KE.KDictSum
import KE.KDictCopyH
import HandS.SetKeys
import HandS.Sort
import KE.KDictExact
import HandS.Ends
import PyProof.Rows.RegFStrParts
import PyProof.ReprLen
import HandS.Zip
import HandS.NoneIn
import HandS.Strs
import KE.KExcIs
import HandS.Remove
import HandS.SortKw
import HandS.Iter
import HandS.List
import PyProof.Rows.SeqMore
import HandS.TupMul
import KE.GoesMore
import HandS.Flow
import HandS.DeepEq
import HandS.WordsDict
import HandS.RaiseMore
import PyProof.NeData
import KE.KStateDown
import Lean
import HandS.Base
import HandS.Call
import HandS.Words
import PyProof.P3Eq
import PySem.Challenge.RW_treesapart_k16_partings
set_option Elab.async false
set_option linter.all false
set_option maxRecDepth 100000
set_option maxHeartbeats 4000000
/-! M0: heaplets, what a slot holds, the environment. -/
namespace Tsa
open PySem PySem.Spec PyProof.Rows L2

/-! ### heaplets -/
def emp : Hp := fun _ => none
def Sub (a b : Hp) : Prop := ∀ p o, a p = some o → b p = some o
def Dis (a b : Hp) : Prop := ∀ p, a p = none ∨ b p = none
def cup (a b : Hp) : Hp := fun p => match a p with
  | some o => some o
  | none => b p
def sgl (p : Addr) (o : HO) : Hp := fun a => if a = p then some o else none
section
variable {a b c d : Hp} {p q : Addr} {o u : HO}
theorem Sub.refl : Sub a a := fun _ _ h => h
theorem Sub.trans (x : Sub a b) (y : Sub b c) : Sub a c := fun p o h => y p o (x p o h)
theorem Sub.emp : Sub emp a := fun _ _ h => nomatch h
theorem Sub.no (x : Sub a b) (h : b p = none) : a p = none := by
  cases q : a p with
  | none => rfl
  | some o => rw [x p o q] at h; cases h
theorem cup_some (h : a p = some o) : cup a b p = some o := by unfold cup; rw [h]
theorem cup_none (h : a p = none) : cup a b p = b p := by unfold cup; rw [h]
theorem cup_cases (h : cup a b p = some o) : a p = some o ∨ (a p = none ∧ b p = some o) := by
  unfold cup at h
  cases e : a p with
  | some u => rw [e] at h; exact .inl h
  | none => rw [e] at h; exact .inr ⟨rfl, h⟩
theorem Sub.l : Sub a (cup a b) := fun _ _ h => cup_some h
theorem Dis.symm (x : Dis a b) : Dis b a := fun p => (x p).symm
theorem Dis.emp : Dis emp a := fun _ => .inl rfl
theorem Dis.no (x : Dis a b) (h : a p = some o) : b p = none := by
  rcases x p with e | e
  · rw [e] at h; cases h
  · exact e
theorem Dis.mono (x : Dis a b) (s : Sub c a) (t : Sub d b) : Dis c d := fun p => by
  rcases x p with e | e
  · exact .inl (s.no e)
  · exact .inr (t.no e)
theorem Sub.r (x : Dis a b) : Sub b (cup a b) := fun p o h => by
  have e : a p = none := x.symm.no h
  rw [cup_none e]; exact h
theorem Sub.cup (x : Sub a c) (y : Sub b c) : Sub (cup a b) c := fun p o h => by
  rcases cup_cases h with e | ⟨_, e⟩
  · exact x p o e
  · exact y p o e
theorem Sub.cup2 (x : Sub a c) (y : Sub b d) (z : Dis c d) : Sub (Tsa.cup a b) (Tsa.cup c d) := Sub.cup (x.trans .l) (y.trans (.r z))
theorem Dis.cup (x : Dis a c) (y : Dis b c) : Dis (cup a b) c := fun p => by
  rcases x p with e | e
  · rcases y p with e' | e'
    · exact .inl (by rw [cup_none e]; exact e')
    · exact .inr e'
  · exact .inr e
theorem one_same : sgl p o p = some o := by unfold sgl; rw [if_pos rfl]
theorem one_some {u : HO} (h : sgl p o q = some u) : q = p ∧ u = o := by
  unfold sgl at h
  split at h
  · exact ⟨‹_›, (Option.some.inj h).symm⟩
  · cases h
theorem Sub.one (h : a p = some o) : Sub (sgl p o) a := fun q u e => by
  obtain ⟨rfl, rfl⟩ := one_some e
  exact h
theorem Dis.one (h : a p = none) : Dis (sgl p o) a := fun q => by
  by_cases e : q = p
  · subst e; exact .inr h
  · exact .inl (by unfold Tsa.sgl; rw [if_neg e])
theorem one_none {q : Addr} (h : q ≠ p) : sgl p o q = none := by unfold sgl; rw [if_neg h]
end

structure Fits (F h g H : Hp) : Prop where
  fH : Sub F H
  hH : Sub h H
  gH : Sub g H
  fh : Dis F h
  fg : Dis F g
  hg : Dis h g
section
variable {F F' h h' h1 h2 g g' H : Hp} {p : Addr} {o u : HO}
theorem Fits.sub (x : Fits F h g H) (s : Sub h' h) : Fits F h' g H :=
  ⟨x.fH, s.trans x.hH, x.gH, x.fh.mono .refl s, x.fg, x.hg.mono s .refl⟩
theorem Fits.out (x : Fits F (cup h1 h2) g H) (d : Dis h1 h2) : Fits F h2 (cup h1 g) H :=
  ⟨x.fH, (Sub.r d).trans x.hH, Sub.cup (Sub.l.trans x.hH) x.gH, x.fh.mono .refl (.r d), (Dis.cup (x.fh.mono .refl .l).symm x.fg.symm).symm,
    (Dis.cup d (x.hg.mono (.r d) .refl).symm).symm⟩
theorem Fits.inn (x : Fits F h2 (cup h1 g) H) (d : Dis h1 g) : Fits F (cup h1 h2) g H :=
  ⟨x.fH, Sub.cup (Sub.l.trans x.gH) x.hH, (Sub.r d).trans x.gH, (Dis.cup (x.fg.mono .refl .l).symm x.fh.symm).symm, x.fg.mono .refl (.r d),
    Dis.cup d (x.hg.mono .refl (.r d))⟩
theorem Fits.dis (x : Fits F h2 (cup h1 g) H) : Dis h1 h2 := (x.hg.mono .refl .l).symm
theorem Fits.freeze (x : Fits F (cup h1 h2) g H) (d : Dis h1 h2) : Fits (cup F h1) h2 g H :=
  ⟨Sub.cup x.fH (Sub.l.trans x.hH), (Sub.r d).trans x.hH, x.gH, Dis.cup (x.fh.mono .refl (.r d)) d, Dis.cup x.fg (x.hg.mono .l .refl), x.hg.mono (.r d) .refl⟩
theorem Fits.no (x : Fits F h g H) (e : H p = none) : F p = none ∧ h p = none ∧ g p = none := ⟨x.fH.no e, x.hH.no e, x.gH.no e⟩
theorem Sub.upd_new {a H : Hp} (x : Sub a H) (e : H p = none) : Sub a (upd H p o) := fun q w h => by
  have n : q ≠ p := fun z => by subst z; rw [x q w h] at e; cases e
  rw [upd_ne n]; exact x q w h
theorem Sub.upd_off {a H : Hp} (x : Sub a H) (e : a p = none) : Sub a (upd H p o) := fun q w h => by
  have n : q ≠ p := fun z => by subst z; rw [h] at e; cases e
  rw [upd_ne n]; exact x q w h
/-- a new object, owned -/
theorem Fits.new (x : Fits F h g H) (e : H p = none) : Fits F (cup (sgl p o) h) g (upd H p o) :=
  ⟨x.fH.upd_new e, Sub.cup (Sub.one upd_same) (x.hH.upd_new e), x.gH.upd_new e, (Dis.cup (Dis.one (x.no e).1) x.fh.symm).symm, x.fg,
    Dis.cup (Dis.one (x.no e).2.2) x.hg⟩
/-- an owned object is changed -/
theorem Fits.upd (x : Fits F (cup (sgl p o) h) g H) (e : h p = none) : Fits F (cup (sgl p u) h) g (upd H p u) := by
  have d : Dis (sgl p o) h := Dis.one e
  have nF : F p = none := x.fh.symm.no (cup_some one_same)
  have ng : g p = none := x.hg.no (cup_some one_same)
  exact ⟨x.fH.upd_off nF, Sub.cup (Sub.one upd_same) (((Sub.r d).trans x.hH).upd_off e), x.gH.upd_off ng, (Dis.cup (Dis.one nF) (x.fh.mono .refl (.r d)).symm).symm, x.fg, Dis.cup (Dis.one ng) (x.hg.mono (.r d) .refl)⟩
end

/-! ### data that is locked: it never changes any more -/
/-- a key as data -/
def kD : Key → PyData
  | .inl i => .int i
  | .inr x => .str x
mutual
inductive Dt (K : PySem.W.Frag) (S : Hp) : V → PyData → Prop
  | non : Dt K S .non .none
  | bl (b : Bool) : Dt K S (.bl b) (.bool b)
  | int (i : Int) : Dt K S (.int i) (.int i)
  | str (x : Str) : Dt K S (.str x) (.str x)
  | lst {a : Addr} {xs : List V} {ds : List PyData} : SqL K S a xs → DtL K S xs ds → Dt K S (.ref a) (.list ds)
  | tup {a : Addr} {xs : List V} {ds : List PyData} : SqT K S a xs → DtL K S xs ds → Dt K S (.ref a) (.tuple ds)
  | dct {a : Addr} {kvs : List (Key × V)} {ds : List PyData} : Rd S a (.dK kvs) → DtL K S (kvs.map (·.2)) ds → Dt K S (.ref a) (.dict ((kvs.map fun q => kD q.1).zip ds))
inductive DtL (K : PySem.W.Frag) (S : Hp) : List V → List PyData → Prop
  | nil : DtL K S [] []
  | cons {v : V} {vs : List V} {d : PyData} {ds : List PyData} : Dt K S v d → DtL K S vs ds → DtL K S (v :: vs) (d :: ds)
end
section
variable {K : PySem.W.Frag} {S S' : Hp} {a : Addr} {xs : List V} {u : HO}
theorem Rd.mono (x : Sub S S') (h : Rd S a u) : Rd S' a u := by
  rcases h with h | ⟨o, h⟩
  · exact .inl (x _ _ h)
  · exact .inr ⟨o, x _ _ h⟩
theorem SqL.mono (x : Sub S S') (h : SqL K S a xs) : SqL K S' a xs := by
  rcases h with h | h
  · exact .inl (Rd.mono x h)
  · exact .inr h
theorem SqT.mono (x : Sub S S') (h : SqT K S a xs) : SqT K S' a xs := by
  rcases h with h | h
  · exact .inl (Rd.mono x h)
  · exact .inr h
mutual
theorem Dt.mono (x : Sub S S') : ∀ {d : PyData} {v : V}, Dt K S v d → Dt K S' v d
  | _, _, .non => .non
  | _, _, .bl b => .bl b
  | _, _, .int i => .int i
  | _, _, .str z => .str z
  | _, _, .lst h1 h2 => .lst (SqL.mono x h1) (DtL.mono x h2)
  | _, _, .tup h1 h2 => .tup (SqT.mono x h1) (DtL.mono x h2)
  | _, _, .dct h1 h2 => .dct (Rd.mono x h1) (DtL.mono x h2)
theorem DtL.mono (x : Sub S S') : ∀ {ds : List PyData} {vs : List V}, DtL K S vs ds → DtL K S' vs ds
  | _, _, .nil => .nil
  | _, _, .cons h1 h2 => .cons (Dt.mono x h1) (DtL.mono x h2)
end
theorem DtL.len : ∀ {ds : List PyData} {vs : List V}, DtL K S vs ds → vs.length = ds.length
  | _, _, .nil => rfl
  | _, _, .cons _ h => by rw [List.length_cons, List.length_cons, DtL.len h]
theorem DtL.get : ∀ {ds : List PyData} {vs : List V} {i : Nat} {d : PyData}, DtL K S vs ds → ds[i]? = some d → ∃ v, vs[i]? = some v ∧ Dt K S v d
  | _, _, _, _, .nil, e => by simp at e
  | _, _, 0, _, .cons h _, e => by simp at e; subst e; exact ⟨_, rfl, h⟩
  | _, _, i + 1, _, .cons _ h, e => by
    obtain ⟨v, h1, h2⟩ := DtL.get (i := i) h (by simpa using e)
    exact ⟨v, by simpa using h1, h2⟩
theorem DtL.app : ∀ {ds es : List PyData} {vs us : List V}, DtL K S vs ds → DtL K S us es → DtL K S (vs ++ us) (ds ++ es)
  | _, _, _, _, .nil, h => h
  | _, _, _, _, .cons h1 h2, h => .cons h1 (DtL.app h2 h)
theorem DtL.drop : ∀ {ds : List PyData} {vs : List V} (n : Nat), DtL K S vs ds → DtL K S (vs.drop n) (ds.drop n)
  | _, _, 0, h => h
  | _, _, _ + 1, .nil => .nil
  | _, _, n + 1, .cons _ h => DtL.drop n h
theorem DtL.take : ∀ {ds : List PyData} {vs : List V} (n : Nat), DtL K S vs ds → DtL K S (vs.take n) (ds.take n)
  | _, _, 0, _ => .nil
  | _, _, _ + 1, .nil => .nil
  | _, _, n + 1, .cons h1 h => .cons h1 (DtL.take n h)
theorem DtL.ofInts : ∀ {ns : List Int}, DtL K S (ns.map V.int) (ns.map .int)
  | [] => .nil
  | _ :: _ => .cons (.int _) DtL.ofInts
theorem Dt.intV {v : V} {i : Int} (h : Dt K S v (.int i)) : v = .int i := by cases h; rfl
theorem Dt.blV {v : V} {i : Bool} (h : Dt K S v (.bool i)) : v = .bl i := by cases h; rfl
theorem Dt.strV {v : V} {i : Str} (h : Dt K S v (.str i)) : v = .str i := by cases h; rfl
theorem Dt.lstV {v : V} {ds : List PyData} (h : Dt K S v (.list ds)) : ∃ p vs, v = .ref p ∧ SqL K S p vs ∧ DtL K S vs ds := by
  cases h with
  | lst h1 h2 => exact ⟨_, _, rfl, h1, h2⟩
theorem Dt.tupV {v : V} {ds : List PyData} (h : Dt K S v (.tuple ds)) : ∃ p vs, v = .ref p ∧ SqT K S p vs ∧ DtL K S vs ds := by
  cases h with
  | tup h1 h2 => exact ⟨_, _, rfl, h1, h2⟩
end

/-! ### what a slot holds -/
inductive SD where
  | hole
  /-- locked data -/
  | val (d : PyData)
  /-- data that is the caller's, to be read alone -/
  | rd (d : PyData)
  | lst (l : List SD)
  /-- a tuple of things that are owned -/
  | tup (l : List SD)
  | dct (l : List (Key × SD))
  | obj (C : Addr) (l : List (Str × SD))
  | xds (l : List (Str × SD))
  | pin (v : V) (s : SD)
  /-- a thing that is looked at, while what lies at u is owned -/
  | atv (u : V) (s : SD)
  /-- a thing that is owned, by what the heap holds of it -/
  | raw (o : Addr → HO)
  /-- an exception that is being made, with its dict -/
  | exo (C : Addr) (l : List (Str × SD))
  /-- a locked thing that is looked at; unlocked it is s -/
  | lk (d : Addr) (od : Obj) (u : HO) (s : SD)
  /-- a tuple that is the caller's, to be read alone, its items told one by one -/
  | rt (l : List SD)
  /-- a list whose cell is lent out, its items owned -/
  | bl (us : List V) (l : List SD)
mutual
def own (K : PySem.W.Frag) (F G : Hp) : SD → Hp → V → Prop
  | .hole, _, _ => True
  | .val d, _, v => Dt K F v d
  | .rd d, _, v => Dt K (cup F G) v d
  | .lst l, h, v => ∃ p vs h', v = .ref p ∧ h p = some (.lst vs) ∧ Sub h' h ∧ h' p = none ∧ ownL K F G l h' vs
  | .tup l, h, v => ∃ p vs h', v = .ref p ∧ h p = some (.tup vs) ∧ Sub h' h ∧ h' p = none ∧ ownL K F G l h' vs
  | .dct l, h, v => ∃ p kvs h', v = .ref p ∧ h p = some (.dK kvs) ∧ Sub h' h ∧ h' p = none ∧ ownK K F G l h' kvs
  | .obj C l, h, v => ∃ p dx fs h', v = .ref p ∧ h p = some (.ins C dx fs) ∧ Sub h' h ∧ h' p = none ∧ ownF K F G l h' fs
  | .xds l, h, v => ∃ p fs h', v = .ref p ∧ h p = some (.xd fs) ∧ Sub h' h ∧ h' p = none ∧ ownF K F G l h' fs
  | .pin u s, h, v => v = u ∧ own K F G s h v
  | .atv u s, h, _ => own K F G s h u
  | .raw o, h, v => ∃ p, v = .ref p ∧ h p = some (o p)
  | .exo C l, h, v => ∃ p dx fs h', v = .ref p ∧ h p = some (L2.exo p C (some dx)) ∧ h dx = some (exd dx fs) ∧ Sub h' h ∧ h' p = none ∧ h' dx = none ∧ ownF K F G l h' fs
  | .lk p od u s, _, v => v = .ref p ∧ cup F G p = some (.frz od u) ∧ own K F G s (sgl p u) v
  | .rt l, _, v => ∃ p vs, v = .ref p ∧ SqT K (cup F G) p vs ∧ ownL K F G l emp vs
  | .bl us l, h, v => ∃ p, v = .ref p ∧ SqL K (cup F G) p us ∧ ownL K F G l h us
def ownL (K : PySem.W.Frag) (F G : Hp) : List SD → Hp → List V → Prop
  | [], _, vs => vs = []
  | s :: r, h, vs => ∃ v vr h1 h2, vs = v :: vr ∧ Sub h1 h ∧ Sub h2 h ∧ Dis h1 h2 ∧ own K F G s h1 v ∧ ownL K F G r h2 vr
def ownK (K : PySem.W.Frag) (F G : Hp) : List (Key × SD) → Hp → List (Key × V) → Prop
  | [], _, vs => vs = []
  | (n, s) :: r, h, vs => ∃ v vr h1 h2, vs = (n, v) :: vr ∧ Sub h1 h ∧ Sub h2 h ∧ Dis h1 h2 ∧ own K F G s h1 v ∧ ownK K F G r h2 vr
def ownF (K : PySem.W.Frag) (F G : Hp) : List (Str × SD) → Hp → List (Str × V) → Prop
  | [], _, fs => fs = []
  | (n, s) :: r, h, fs => ∃ v fr h1 h2, fs = (n, v) :: fr ∧ Sub h1 h ∧ Sub h2 h ∧ Dis h1 h2 ∧ own K F G s h1 v ∧ ownF K F G r h2 fr
end
section
variable {K : PySem.W.Frag} {F F' G G' h h' : Hp}
mutual
theorem own_mono (x : Sub F F') (d : Sub (cup F G) (cup F' G')) : ∀ (s : SD) {h h' : Hp} {v : V}, Sub h h' → own K F G s h v → own K F' G' s h' v
  | .hole, _, _, _, _, _ => by unfold own; trivial
  | .val u, _, _, _, _, q => by unfold own at q ⊢; exact q.mono x
  | .rd u, _, _, _, _, q => by unfold own at q ⊢; exact q.mono d
  | .pin u s, _, _, _, y, q => by unfold own at q ⊢; exact ⟨q.1, own_mono x d s y q.2⟩
  | .atv u s, _, _, _, y, q => by unfold own at q ⊢; exact own_mono x d s y q
  | .raw o, _, _, _, y, q => by
    unfold own at q ⊢
    obtain ⟨p, e, q1⟩ := q
    exact ⟨p, e, y _ _ q1⟩
  | .exo C l, _, _, _, y, q => by
    unfold own at q ⊢
    obtain ⟨p, dx, fs, h0, e, q1, q2, q3, q4, q5, q6⟩ := q
    exact ⟨p, dx, fs, h0, e, y _ _ q1, y _ _ q2, q3.trans y, q4, q5, ownF_mono x d l .refl q6⟩
  | .lk p od u s, _, _, _, y, q => by
    unfold own at q ⊢
    obtain ⟨e, q1, q2⟩ := q
    exact ⟨e, d _ _ q1, own_mono x d s .refl q2⟩
  | .rt l, _, _, _, y, q => by
    unfold own at q ⊢
    obtain ⟨p, vs, e, q1, q2⟩ := q
    exact ⟨p, vs, e, SqT.mono d q1, ownL_mono x d l .refl q2⟩
  | .bl us l, _, _, _, y, q => by
    unfold own at q ⊢
    obtain ⟨p, e, q1, q2⟩ := q
    exact ⟨p, e, SqL.mono d q1, ownL_mono x d l y q2⟩
  | .lst l, _, _, _, y, q => by
    unfold own at q ⊢
    obtain ⟨p, vs, h0, e, q1, q2, q3, q4⟩ := q
    exact ⟨p, vs, h0, e, y _ _ q1, q2.trans y, q3, ownL_mono x d l .refl q4⟩
  | .tup l, _, _, _, y, q => by
    unfold own at q ⊢
    obtain ⟨p, vs, h0, e, q1, q2, q3, q4⟩ := q
    exact ⟨p, vs, h0, e, y _ _ q1, q2.trans y, q3, ownL_mono x d l .refl q4⟩
  | .dct l, _, _, _, y, q => by
    unfold own at q ⊢
    obtain ⟨p, vs, h0, e, q1, q2, q3, q4⟩ := q
    exact ⟨p, vs, h0, e, y _ _ q1, q2.trans y, q3, ownK_mono x d l .refl q4⟩
  | .obj C l, _, _, _, y, q => by
    unfold own at q ⊢
    obtain ⟨p, dx, fs, h0, e, q1, q2, q3, q4⟩ := q
    exact ⟨p, dx, fs, h0, e, y _ _ q1, q2.trans y, q3, ownF_mono x d l .refl q4⟩
  | .xds l, _, _, _, y, q => by
    unfold own at q ⊢
    obtain ⟨p, fs, h0, e, q1, q2, q3, q4⟩ := q
    exact ⟨p, fs, h0, e, y _ _ q1, q2.trans y, q3, ownF_mono x d l .refl q4⟩
theorem ownL_mono (x : Sub F F') (d : Sub (cup F G) (cup F' G')) : ∀ (l : List SD) {h h' : Hp} {vs : List V}, Sub h h' → ownL K F G l h vs → ownL K F' G' l h' vs
  | [], _, _, _, _, q => by unfold ownL at q ⊢; exact q
  | s :: r, _, _, _, y, q => by
    unfold ownL at q ⊢
    obtain ⟨v, vr, h1, h2, e, q1, q2, q3, q4, q5⟩ := q
    exact ⟨v, vr, h1, h2, e, q1.trans y, q2.trans y, q3, own_mono x d s .refl q4, ownL_mono x d r .refl q5⟩
theorem ownK_mono (x : Sub F F') (d : Sub (cup F G) (cup F' G')) : ∀ (l : List (Key × SD)) {h h' : Hp} {fs : List (Key × V)}, Sub h h' → ownK K F G l h fs → ownK K F' G' l h' fs
  | [], _, _, _, _, q => by unfold ownK at q ⊢; exact q
  | (n, s) :: r, _, _, _, y, q => by
    unfold ownK at q ⊢
    obtain ⟨v, fr, h1, h2, e, q1, q2, q3, q4, q5⟩ := q
    exact ⟨v, fr, h1, h2, e, q1.trans y, q2.trans y, q3, own_mono x d s .refl q4, ownK_mono x d r .refl q5⟩
theorem ownF_mono (x : Sub F F') (d : Sub (cup F G) (cup F' G')) : ∀ (l : List (Str × SD)) {h h' : Hp} {fs : List (Str × V)}, Sub h h' → ownF K F G l h fs → ownF K F' G' l h' fs
  | [], _, _, _, _, q => by unfold ownF at q ⊢; exact q
  | (n, s) :: r, _, _, _, y, q => by
    unfold ownF at q ⊢
    obtain ⟨v, fr, h1, h2, e, q1, q2, q3, q4, q5⟩ := q
    exact ⟨v, fr, h1, h2, e, q1.trans y, q2.trans y, q3, own_mono x d s .refl q4, ownF_mono x d r .refl q5⟩
end
theorem cup_mono_l (x : Sub F F') (d : Dis F' G) : Sub (cup F G) (cup F' G) := Sub.cup2 x .refl d
end

/-! ### the environment -/
def ownO (K : PySem.W.Frag) (F G : Hp) (s : SD) (h : Hp) (o : Option V) : Prop := match s with
  | .hole => True
  | s => ∃ v, o = some v ∧ own K F G s h v
section
variable {K : PySem.W.Frag}
theorem ownO.of {F G : Hp} {s : SD} {h : Hp} {v : V} (q : own K F G s h v) : ownO K F G s h (some v) := by
  cases s <;> first
    | trivial
    | exact ⟨v, rfl, q⟩
theorem ownO.val {F G : Hp} {s : SD} {h : Hp} {o : Option V} (q : ownO K F G s h o) (n : s ≠ .hole) : ∃ v, o = some v ∧ own K F G s h v := by
  cases s <;> first
    | exact absurd rfl n
    | exact q
theorem ownO.mono {F F' G : Hp} (x : Sub F F') (d : Dis F' G) {s : SD} {h h' : Hp} {o : Option V} (y : Sub h h') (q : ownO K F G s h o) : ownO K F' G s h' o := by
  cases s <;> first
    | trivial
    | (obtain ⟨v, e, q⟩ := q; exact ⟨v, e, own_mono x (cup_mono_l x d) _ y q⟩)
def EnvR (K : PySem.W.Frag) (F G : Hp) : List SD → Hp → L2.St → Prop
  | [], _, σ => σ = []
  | s :: r, h, σ => ∃ o σr h1 h2, σ = o :: σr ∧ Sub h1 h ∧ Sub h2 h ∧ Dis h1 h2 ∧ ownO K F G s h1 o ∧ EnvR K F G r h2 σr
theorem EnvR.mono {F F' G : Hp} (x : Sub F F') (d : Dis F' G) : ∀ {Γ : List SD} {h h' : Hp} {σ : L2.St}, Sub h h' → EnvR K F G Γ h σ → EnvR K F' G Γ h' σ
  | [], _, _, _, _, q => q
  | s :: r, _, _, _, y, ⟨o, σr, h1, h2, e, q1, q2, q3, q4, q5⟩ => ⟨o, σr, h1, h2, e, q1.trans y, q2.trans y, q3, ownO.mono x d .refl q4, EnvR.mono x d .refl q5⟩
/-- a slot taken out, and what may be put there instead -/
theorem EnvR.at {F G : Hp} : ∀ {Γ : List SD} {h : Hp} {σ : L2.St} {i : Nat} {s : SD}, EnvR K F G Γ h σ → Γ[i]? = some s → ∃ o h1 h2, σ[i]? = some o ∧ Sub h1 h ∧ Sub h2 h ∧ Dis h1 h2 ∧ ownO K F G s h1 o ∧
    ∀ (F' : Hp) (s' : SD) (o' : Option V) (h1' h' : Hp), Sub F F' → Dis F' G → ownO K F' G s' h1' o' → Dis h1' h2 → Sub h1' h' → Sub h2 h' → EnvR K F' G (Γ.set i s') h' (σ.set i o')
  | [], _, _, _, _, _, e => by simp at e
  | t :: r, h, _, 0, s, ⟨o, σr, h1, h2, rfl, q1, q2, q3, q4, q5⟩, e => by
    simp at e
    subst e
    exact ⟨o, h1, h2, rfl, q1, q2, q3, q4, fun F' s' o' h1' h' x d z z1 z2 z3 => ⟨o', σr, h1', h2, rfl, z2, z3, z1, z, EnvR.mono x d .refl q5⟩⟩
  | t :: r, h, _, i + 1, s, ⟨o, σr, h1, h2, rfl, q1, q2, q3, q4, q5⟩, e => by
    obtain ⟨p, k1, k2, e1, s1, s2, d1, w, back⟩ := EnvR.at (i := i) (s := s) q5 (by simpa using e)
    have d12 : Dis h1 k1 := q3.mono .refl s1
    have d22 : Dis h1 k2 := q3.mono .refl s2
    refine ⟨p, k1, cup h1 k2, by simpa using e1, s1.trans q2, Sub.cup q1 (s2.trans q2), (Dis.cup d12 d1.symm).symm, w, fun F' s' o' h1' h' x d z z1 z2 z3 => ?_⟩
    have a1 : Dis h1' h1 := z1.mono .refl .l
    have a2 : Dis h1' k2 := z1.mono .refl (.r d22)
    refine ⟨o, σr.set i o', h1, cup h1' k2, rfl, Sub.l.trans z3, Sub.cup z2 ((Sub.r d22).trans z3), (Dis.cup a1 d22.symm).symm, ownO.mono x d .refl q4, ?_⟩
    exact back F' s' o' h1' _ x d z a2 .l (.r a2)
theorem EnvR.len {F G : Hp} : ∀ {Γ : List SD} {h : Hp} {σ : L2.St}, EnvR K F G Γ h σ → σ.length = Γ.length
  | [], _, σ, q => by
    have e : σ = [] := q
    rw [e]; rfl
  | _ :: _, _, _, ⟨_, _, _, _, e, _, _, _, _, q⟩ => by rw [e, List.length_cons, List.length_cons, EnvR.len q]
/-- some slots are forgotten -/
inductive Le : List SD → List SD → Prop
  | nil : Le [] []
  | same {s : SD} {a b : List SD} : Le a b → Le (s :: a) (s :: b)
  | drop {s : SD} {a b : List SD} : Le a b → Le (s :: a) (.hole :: b)
theorem Le.ok {F G : Hp} : ∀ {Γ Γ' : List SD}, Le Γ Γ' → ∀ {h : Hp} {σ : L2.St}, EnvR K F G Γ h σ → EnvR K F G Γ' h σ
  | _, _, .nil, _, _, q => q
  | _, _, .same l, _, _, ⟨o, σr, h1, h2, e, q1, q2, q3, q4, q5⟩ => ⟨o, σr, h1, h2, e, q1, q2, q3, q4, l.ok q5⟩
  | _, _, .drop l, _, _, ⟨o, σr, h1, h2, e, q1, q2, q3, _, q5⟩ => ⟨o, σr, h1, h2, e, q1, q2, q3, trivial, l.ok q5⟩
theorem Le.refl : ∀ {Γ : List SD}, Le Γ Γ
  | [] => .nil
  | _ :: _ => .same Le.refl
end
end Tsa

/-! M1: outcomes, judgements, names, numbers, tests. -/
namespace Tsa
open PySem PySem.Spec PyProof.Rows L2

structure Exn where
  cls : Str
  flds : List (Str × SD)
/-- ok, an exception, or what is not walked -/
inductive Res (α : Type) where
  | ok (a : α)
  | ex (e : Exn)
  | un
def Res.bind {α β : Type} (m : Res α) (f : α → Res β) : Res β := match m with
  | .ok a => f a
  | .ex e => .ex e
  | .un => .un
instance : Monad Res where
  pure := .ok
  bind := Res.bind
@[simp] theorem Res.bind_ok {α β : Type} (a : α) (f : α → Res β) : (Res.ok a).bind f = f a := rfl
@[simp] theorem Res.bind_un {α β : Type} (f : α → Res β) : (Res.un : Res α).bind f = .un := rfl
@[simp] theorem Res.bind_ex {α β : Type} (e : Exn) (f : α → Res β) : (Res.ex e : Res α).bind f = .ex e := rfl
def Res.guard (c : Prop) [Decidable c] : Res Unit := if c then .ok () else .un

/-- what a call may let out is taken, at the slots as they stand -/
def PassesW (X : Cx) (W : WX) : Prop := ∀ σ, PassesAt (L2N.CX X.prog X.w) X σ (fun c d H => W c d σ H)
theorem passesW {X : Cx} {W : WX} (tk : L2N.Takes X W) : PassesW X W := fun _ _ _ _ e s' I c => tk e s' (L2N.XE.of_call I (fun _ _ _ h => h) c)
structure XC where
  E : WX
  Γx : List SD
  G : Hp

/-- an exception's class and own dict -/
def ExnOwn (K : PySem.W.Frag) (F G h : Hp) (e : Exn) (c : Value) (od : Option Addr) : Prop :=
  c = .ref (He.ga K e.cls) ∧ ((e.flds = [] ∧ od = none) ∨ ∃ d, od = some d ∧ own K F G (.xds e.flds) h (.ref d))
/-- what is wanted where M raises -/
def XOk (K : PySem.W.Frag) (C : XC) (F g : Hp) {ω : Type} (M : Res ω) : Prop :=
  ∀ e, M = .ex e → ∀ (c : Value) (od : Option Addr) (F' hx h' H' : Hp) (σ : L2.St), Sub F F' → ExnOwn K F' C.G hx e c od → EnvR K F' C.G C.Γx h' σ → Dis hx h' → Fits F' (cup hx h') g H' → C.E c od σ H'
theorem XOk.mono {K : PySem.W.Frag} {C : XC} {F F' g : Hp} {ω : Type} {M : Res ω} (h : XOk K C F g M) (x : Sub F F') : XOk K C F' g M :=
  fun e he c od F2 hx h' H' σ s => h e he c od F2 hx h' H' σ (x.trans s)

/-- what an expression has given: its own, a thing of the environment that is only looked at, a slot -/
inductive Opd where
  | own (s : SD)
  | bor (d : PyData)
  | at (i : Nat)
  /-- a field of the object in a slot -/
  | fl (i : Nat) (f : Str)
  /-- a thing that lies somewhere in the environment, looked at -/
  | brw (s : SD)
def OpdOk (K : PySem.W.Frag) (F G h1 h2 : Hp) (σ : L2.St) : Opd → V → Prop
  | .own s, v => Tsa.own K F G s h1 v
  | .bor d, v => Dt K (cup F (cup G h2)) v d
  | .at i, v => σ[i]? = some (some v)
  | .brw s, v => ∃ h3, Sub h3 h2 ∧ Tsa.own K F G s h3 v
  | .fl i f, v => ∃ a C dx fs, σ[i]? = some (some (.ref a)) ∧ h2 a = some (.ins C dx fs) ∧ fs.lookup f = some v

/-- what an expression's run asks -/
@[irreducible] def semE (X : Cx) (e : Expr) : TE := fun σ H Q => ∀ pins s, Inv X pins σ H s → wpAny (model X.prog X.w) X.A (eval e X.env) (EP X pins σ Q) X.xe s
theorem pe_sem {X : Cx} {e : Expr} : PE X e (semE X e) := ⟨fun pins s σ H Q I h => by unfold semE at h; exact h pins s I⟩
theorem semE_run {X : Cx} {e : Expr} {σ : L2.St} {H : Hp} {Q : VK} (h : semE X e σ H Q) : ∀ pins s, Inv X pins σ H s → wpAny (model X.prog X.w) X.A (eval e X.env) (EP X pins σ Q) X.xe s := by unfold semE at h; exact h
theorem semE_of {X : Cx} {e : Expr} {t : TE} (p : PE X e t) {σ : L2.St} {H : Hp} {Q : VK} (h : t σ H Q) : semE X e σ H Q := by unfold semE; exact fun pins s I => p.run pins s σ H Q I h
@[irreducible] def semT (X : Cx) (e : Expr) : TT := fun σ H Q => ∀ pins s, Inv X pins σ H s → wpAny (model X.prog X.w) X.A (isTrue e X.env (eval e X.env)) (TP X pins σ Q) X.xe s
theorem pt_sem {X : Cx} {e : Expr} : PT X e (semT X e) := ⟨fun pins s σ H Q I h => by unfold semT at h; exact h pins s I⟩
theorem semT_run {X : Cx} {e : Expr} {σ : L2.St} {H : Hp} {Q : Bool → Hp → Prop} (h : semT X e σ H Q) : ∀ pins s, Inv X pins σ H s → wpAny (model X.prog X.w) X.A (isTrue e X.env (eval e X.env)) (TP X pins σ Q) X.xe s := by unfold semT at h; exact h
theorem semT_of {X : Cx} {e : Expr} {t : TT} (p : PT X e t) {σ : L2.St} {H : Hp} {Q : Bool → Hp → Prop} (h : t σ H Q) : semT X e σ H Q := by unfold semT; exact fun pins s I => p.run pins s σ H Q I h
@[irreducible] def semW (X : Cx) (e : Expr) : TT := fun σ H Q => ∀ whole pins s, Inv X pins σ H s → wpAny (model X.prog X.w) X.A (isTrue e X.env whole) (TP X pins σ Q) X.xe s
theorem pw_sem {X : Cx} {e : Expr} : PW X e (semW X e) := ⟨fun whole pins s σ H Q I h => by unfold semW at h; exact h whole pins s I⟩
theorem semW_of {X : Cx} {e : Expr} {t : TT} (p : PW X e t) {σ : L2.St} {H : Hp} {Q : Bool → Hp → Prop} (h : t σ H Q) : semW X e σ H Q := by unfold semW; exact fun whole pins s I => p.run whole pins s σ H Q I h

/-- THE JUDGEMENT of readings: from Γ, under the outcome M -/
def JT (K : PySem.W.Frag) (C : XC) (pu : Bool) {ω : Type} (Γ : List SD) (t : TE) (M : Res ω) (k : Opd → List SD → Res ω → Prop) : Prop :=
  ∀ (F h g H : Hp) (σ : L2.St) (Q : VK), EnvR K F C.G Γ h σ → Fits F h g H → Sub C.G g → M ≠ .un → XOk K C F g M →
    (∀ (o : Opd) (Γ' : List SD) (M' : Res ω), k o Γ' M' → M' = M → ∀ (v : V) (F' h1 h2 H' : Hp), Sub F F' → OpdOk K F' C.G h1 h2 σ o v → EnvR K F' C.G Γ' h2 σ → Dis h1 h2 → Fits F' (cup h1 h2) g H' →
      (pu = true → Sub h h2 ∧ Γ' = Γ) → Q v H') → t σ H Q
abbrev JE (X : Cx) (C : XC) (pu : Bool) {ω : Type} (Γ : List SD) (e : Expr) (M : Res ω) (k : Opd → List SD → Res ω → Prop) : Prop := JT X.K C pu Γ (semE X e) M k
/-- a test's -/
def JB2 (K : PySem.W.Frag) (C : XC) (pu : Bool) {ω : Type} (Γ : List SD) (t : TT) (M : Res ω) (k : Bool → List SD → Res ω → Prop) : Prop :=
  ∀ (F h g H : Hp) (σ : L2.St) (Q : Bool → Hp → Prop), EnvR K F C.G Γ h σ → Fits F h g H → Sub C.G g → M ≠ .un → XOk K C F g M →
    (∀ (b : Bool) (Γ' : List SD) (M' : Res ω), k b Γ' M' → M' = M → ∀ (F' h2 H' : Hp), Sub F F' → EnvR K F' C.G Γ' h2 σ → Fits F' h2 g H' →
      (pu = true → Sub h h2 ∧ Γ' = Γ) → Q b H') → t σ H Q
abbrev JC (X : Cx) (C : XC) (pu : Bool) {ω : Type} (Γ : List SD) (e : Expr) (M : Res ω) (k : Bool → List SD → Res ω → Prop) : Prop := JB2 X.K C pu Γ (semT X e) M k
/-- a link of and, or -/
abbrev JW (X : Cx) (C : XC) (pu : Bool) {ω : Type} (Γ : List SD) (e : Expr) (M : Res ω) (k : Bool → List SD → Res ω → Prop) : Prop := JB2 X.K C pu Γ (semW X e) M k

section
variable {X : Cx} {C : XC} {pu : Bool} {ω : Type} {Γ : List SD} {e a b : Expr} {M : Res ω} {pos : Pos}
theorem Fits.G {F h g H G : Hp} (x : Fits F h g H) (s : Sub G g) : Dis F G := x.fg.mono .refl s

/-- ints out of an expression -/
abbrev JI (X : Cx) (C : XC) (pu : Bool) {ω : Type} (Γ : List SD) (e : Expr) (M : Res ω) (k : Int → List SD → Res ω → Prop) : Prop :=
  JE X C pu Γ e M fun o Γ' M' => ∃ i, o = .own (.val (.int i)) ∧ k i Γ' M'
abbrev JBo (X : Cx) (C : XC) (pu : Bool) {ω : Type} (Γ : List SD) (e : Expr) (M : Res ω) (k : Bool → List SD → Res ω → Prop) : Prop :=
  JE X C pu Γ e M fun o Γ' M' => ∃ i, o = .own (.val (.bool i)) ∧ k i Γ' M'
abbrev JStr (X : Cx) (C : XC) (pu : Bool) {ω : Type} (Γ : List SD) (e : Expr) (M : Res ω) (k : Str → List SD → Res ω → Prop) : Prop :=
  JE X C pu Γ e M fun o Γ' M' => ∃ i, o = .own (.val (.str i)) ∧ k i Γ' M'

theorem JT.mono {K : PySem.W.Frag} {t : TE} {k k' : Opd → List SD → Res ω → Prop} (h : JT K C pu Γ t M k) (hk : ∀ o Γ' M', k o Γ' M' → k' o Γ' M') : JT K C pu Γ t M k' :=
  fun F h0 g H σ Q he hf hG hu hx hq => h F h0 g H σ Q he hf hG hu hx fun o Γ' M' ho => hq o Γ' M' (hk o Γ' M' ho)
theorem JE.of {t : TE} {k : Opd → List SD → Res ω → Prop} (p : PE X e t) (h : JT X.K C pu Γ t M k) : JE X C pu Γ e M k :=
  fun F h0 g H σ Q he hf hG hu hx hq => semE_of p (h F h0 g H σ Q he hf hG hu hx hq)

/-- a reading that leaves the heap as it is and gives a written value -/
theorem JT.pure {K : PySem.W.Frag} {t : TE} {k : Opd → List SD → Res ω → Prop} {v : V} {o : Opd} (ht : ∀ σ H Q, Q v H → t σ H Q) (ho : ∀ F h1 h2 σ, OpdOk K F C.G h1 h2 σ o v) (hk : k o Γ M) : JT K C pu Γ t M k :=
  fun F h g H σ Q he hf hG hu hx hq => ht σ H Q (hq o Γ M hk rfl v F emp h H .refl (ho _ _ _ _) he .emp ⟨hf.fH, Sub.cup .emp hf.hH, hf.gH, (Dis.cup Dis.emp hf.fh.symm).symm, hf.fg, Dis.cup .emp hf.hg⟩ fun _ => ⟨.refl, rfl⟩)
theorem JE.int {i : Int} {j} {k : Opd → List SD → Res ω → Prop} (hk : k (.own (.val (.int i))) Γ M) : JE X C pu Γ (.Constant (.int i) j pos) M k :=
  JE.of pe_int (JT.pure (fun _ _ _ q => q) (fun _ _ _ _ => by unfold OpdOk own; exact .int i) hk)
theorem JE.bl {i : Bool} {j} {k : Opd → List SD → Res ω → Prop} (hk : k (.own (.val (.bool i))) Γ M) : JE X C pu Γ (.Constant (.bool i) j pos) M k :=
  JE.of pe_bl (JT.pure (fun _ _ _ q => q) (fun _ _ _ _ => by unfold OpdOk own; exact .bl i) hk)
theorem JE.non {j} {k : Opd → List SD → Res ω → Prop} (hk : k (.own (.val .none)) Γ M) : JE X C pu Γ (.Constant .none j pos) M k :=
  JE.of pe_non (JT.pure (fun _ _ _ q => q) (fun _ _ _ _ => by unfold OpdOk own; exact .non) hk)
theorem JE.str {i : Str} {j} {k : Opd → List SD → Res ω → Prop} (hk : k (.own (.val (.str i))) Γ M) : JE X C pu Γ (.Constant (.str i) j pos) M k :=
  JE.of pe_str (JT.pure (fun _ _ _ q => q) (fun _ _ _ _ => by unfold OpdOk own; exact .str i) hk)

/-- the heaplet emp ahead -/
theorem Fits.emp {F h g H : Hp} (hf : Fits F h g H) : Fits F (cup emp h) g H :=
  ⟨hf.fH, Sub.cup .emp hf.hH, hf.gH, (Dis.cup Dis.emp hf.fh.symm).symm, hf.fg, Dis.cup .emp hf.hg⟩
theorem Fits.un {F h1 h g H : Hp} (hf : Fits F (cup h1 h) g H) (d : Dis h1 h) : Fits F h g H := hf.sub (.r d)

/-! ### names -/
/-- locked data in a slot -/
theorem JE.var {i : Nat} {x : Str} {d : PyData} {k : Opd → List SD → Res ω → Prop} (hΓ : Γ[i]? = some (.val d)) (hk : k (.own (.val d)) Γ M) (hN : X.N[i]? = some x := by rfl)
    (hv : Vis X.env.scope x := by first | exact Or.inl rfl | exact Or.inr (Or.inl rfl) | exact Or.inr (Or.inr rfl)) (hd : (x == ("__debug__" : Str)) = false := by decide) (hcd : (x == ("__classdict__" : Str)) = false := by decide) :
    JE X C pu Γ (.Name x pos) M k := by
  refine JE.of (pe_var hN hv hd hcd) fun F h g H σ Q he hf hG hu hx hq => ?_
  obtain ⟨o, h1, h2, e, s1, s2, d12, w, back⟩ := he.at hΓ
  obtain ⟨v, rfl, wv⟩ := w.val (by intro z; cases z)
  refine ⟨v, e, hq _ _ _ hk rfl v F Tsa.emp h H .refl ?_ he .emp hf.emp fun _ => ⟨.refl, rfl⟩⟩
  unfold OpdOk
  unfold own at wv ⊢
  exact wv
/-- data to be read in a slot -/
theorem JE.varR {i : Nat} {x : Str} {d : PyData} {k : Opd → List SD → Res ω → Prop} (hΓ : Γ[i]? = some (.rd d)) (hk : k (.own (.rd d)) Γ M) (hN : X.N[i]? = some x := by rfl)
    (hv : Vis X.env.scope x := by first | exact Or.inl rfl | exact Or.inr (Or.inl rfl) | exact Or.inr (Or.inr rfl)) (hd : (x == ("__debug__" : Str)) = false := by decide) (hcd : (x == ("__classdict__" : Str)) = false := by decide) :
    JE X C pu Γ (.Name x pos) M k := by
  refine JE.of (pe_var hN hv hd hcd) fun F h g H σ Q he hf hG hu hx hq => ?_
  obtain ⟨o, h1, h2, e, s1, s2, d12, w, back⟩ := he.at hΓ
  obtain ⟨v, rfl, wv⟩ := w.val (by intro z; cases z)
  refine ⟨v, e, hq _ _ _ hk rfl v F Tsa.emp h H .refl ?_ he .emp hf.emp fun _ => ⟨.refl, rfl⟩⟩
  unfold OpdOk
  unfold own at wv ⊢
  exact wv
/-- a slot is looked at, or handed on as a place -/
theorem JE.slot {i : Nat} {x : Str} {s : SD} {k : Opd → List SD → Res ω → Prop} (hΓ : Γ[i]? = some s) (hk : k (.at i) Γ M) (hs : s ≠ .hole := by intro z; cases z) (hN : X.N[i]? = some x := by rfl)
    (hv : Vis X.env.scope x := by first | exact Or.inl rfl | exact Or.inr (Or.inl rfl) | exact Or.inr (Or.inr rfl)) (hd : (x == ("__debug__" : Str)) = false := by decide) (hcd : (x == ("__classdict__" : Str)) = false := by decide) :
    JE X C pu Γ (.Name x pos) M k := by
  refine JE.of (pe_var hN hv hd hcd) fun F h g H σ Q he hf hG hu hx hq => ?_
  obtain ⟨o, h1, h2, e, s1, s2, d12, w, back⟩ := he.at hΓ
  obtain ⟨v, rfl, wv⟩ := w.val hs
  exact ⟨v, e, hq _ _ _ hk rfl v F Tsa.emp h H .refl e he .emp hf.emp fun _ => ⟨.refl, rfl⟩⟩
end
end Tsa

/-! M2: two operands, numbers, tests. -/
namespace Tsa
open PySem PySem.Spec PyProof.Rows L2

/-- what comes behind -/
def Kt (K : PySem.W.Frag) (C : XC) (pu : Bool) {ω : Type} (Γ : List SD) (M : Res ω) (k : Opd → List SD → Res ω → Prop) (F h g : Hp) (σ : L2.St) (Q : VK) : Prop :=
  ∀ (o : Opd) (Γ' : List SD) (M' : Res ω), k o Γ' M' → M' = M → ∀ (v : V) (F' h1 h2 H' : Hp), Sub F F' → OpdOk K F' C.G h1 h2 σ o v → EnvR K F' C.G Γ' h2 σ → Dis h1 h2 → Fits F' (cup h1 h2) g H' →
      (pu = true → Sub h h2 ∧ Γ' = Γ) → Q v H'
def Kb (K : PySem.W.Frag) (C : XC) (pu : Bool) {ω : Type} (Γ : List SD) (M : Res ω) (k : Bool → List SD → Res ω → Prop) (F h g : Hp) (σ : L2.St) (Q : Bool → Hp → Prop) : Prop :=
  ∀ (b : Bool) (Γ' : List SD) (M' : Res ω), k b Γ' M' → M' = M → ∀ (F' h2 H' : Hp), Sub F F' → EnvR K F' C.G Γ' h2 σ → Fits F' h2 g H' →
      (pu = true → Sub h h2 ∧ Γ' = Γ) → Q b H'
section
variable {K : PySem.W.Frag} {X : Cx} {C : XC} {pu : Bool} {ω : Type} {Γ : List SD} {e a b c : Expr} {M : Res ω} {pos : Pos} {ta tb : TE} {k : Opd → List SD → Res ω → Prop}
/-- at the end: a value of the state's own -/
theorem Kt.val {Γ2 : List SD} {F h g : Hp} {σ : L2.St} {Q : VK} (q : Kt K C pu Γ M k F h g σ Q) {F2 h2 H2 : Hp} {d : PyData} {v : V} (x : Sub F F2) (hk : k (.own (.val d)) Γ2 M) (hd : Dt K F2 v d) (he : EnvR K F2 C.G Γ2 h2 σ) (hf : Fits F2 h2 g H2)
    (hp : pu = true → Sub h h2 ∧ Γ2 = Γ) : Q v H2 :=
  q _ _ _ hk rfl v F2 emp h2 H2 x (by unfold OpdOk own; exact hd) he .emp hf.emp hp
/-- two operands, the first sgl held meanwhile -/
theorem JT.two {r : R2} {Z : SD → Opd → List SD → Res ω → Prop} (h : JT K C pu Γ ta M fun oa Γ1 M1 => ∃ sa, oa = .own sa ∧ JT K C pu Γ1 tb M1 fun ob Γ2 M2 => Z sa ob Γ2 M2)
    (fin : ∀ (sa : SD) (ob : Opd) (Γ2 : List SD), Z sa ob Γ2 M → ∀ (F ha hb h h2 g H : Hp) (σ : L2.St) (va vb : V) (Q : VK), own K F C.G sa ha va → OpdOk K F C.G hb h2 σ ob vb → EnvR K F C.G Γ2 h2 σ → Dis ha hb → Dis ha h2 → Dis hb h2 →
      Fits F (cup ha (cup hb h2)) g H → Sub C.G g → (pu = true → Sub h h2 ∧ Γ2 = Γ) → M ≠ .un → XOk K C F g M → Kt K C pu Γ M k F h g σ Q → r va vb H Q) : JT K C pu Γ (tOp r ta tb) M k := by
  intro F h0 g H σ Q he hf hG hu hx hq
  refine h F h0 g H σ _ he hf hG hu hx fun oa Γ1 M1 ⟨sa, e1, hb⟩ hm va F1 ha h1 H1 x1 ow1 he1 d1 hf1 p1 => ?_
  subst e1 hm
  have hf1' := hf1.out d1
  have hx1 : XOk K C F1 (cup ha g) M1 := fun e hm c od F' hx' h' H' σ' s ex en dd ff => by
    have z := Fits.inn (ff) (hf1.hg.mono .l .refl)
    refine hx e hm c od F' hx' h' H' σ' (x1.trans s) ex en dd (z.sub (.r ?_))
    exact (ff.hg.mono .refl .l).symm
  refine hb F1 h1 (cup ha g) H1 σ _ he1 hf1' (hG.trans (.r (hf1.hg.mono .l .refl))) hu hx1 fun ob Γ2 M2 hz hm2 vb F2 hb' h2 H2 x2 ow2 he2 d2 hf2 p2 => ?_
  subst hm2
  have dag : Dis ha g := hf1.hg.mono .l .refl
  have hdis : Dis ha (cup hb' h2) := hf2.dis
  have hf3 := hf2.inn dag
  refine fin sa ob Γ2 hz F2 ha hb' h0 h2 g H2 σ va vb Q (own_mono x2 (cup_mono_l x2 (hf3.fg.mono .refl hG)) sa .refl ow1) ow2 he2 (hdis.mono .refl .l) (hdis.mono .refl (.r d2)) d2 hf3 hG
    (fun z => ⟨(p1 z).1.trans (p2 z).1, (p2 z).2.trans (p1 z).2⟩) hu (hx.mono (x1.trans x2)) ?_
  exact fun o Γ' M' hk hm v F' h1' h2' H' x => hq o Γ' M' hk hm v F' h1' h2' H' ((x1.trans x2).trans x)
/-- ints, both -/
theorem JT.ints {gv : Int → Int → V} {d : Int → Int → PyData} {P : Int → Int → Prop} {r : R2} (hr : ∀ i j H Q, P i j → Q (gv i j) H → r (.int i) (.int j) H Q) (hd : ∀ F i j, Dt K F (gv i j) (d i j))
    (h : JT K C pu Γ ta M fun o Γ1 M1 => ∃ i, o = .own (.val (.int i)) ∧ JT K C pu Γ1 tb M1 fun o Γ2 M2 => ∃ j, o = .own (.val (.int j)) ∧ ∃ M3, (M2 ≠ .un → M2 = M3 ∧ P i j) ∧ k (.own (.val (d i j))) Γ2 M3) : JT K C pu Γ (tOp r ta tb) M k := by
  refine JT.two (Z := fun sa ob Γ2 M2 => ∃ i j, sa = .val (.int i) ∧ ob = .own (.val (.int j)) ∧ ∃ M3, (M2 ≠ .un → M2 = M3 ∧ P i j) ∧ k (.own (.val (d i j))) Γ2 M3) (h.mono fun o Γ1 M1 ⟨i, e, q⟩ => ⟨_, e, q.mono fun o Γ2 M2 ⟨j, e2, q2⟩ => ⟨i, j, rfl, e2, q2⟩⟩) ?_
  intro sa ob Γ2 ⟨i, j, e1, e2, M3, hM, hk⟩ F ha hb h h2 g H σ va vb Q w1 w2 he d1 d2 d3 hf hG hp hu hx hq
  subst e1 e2
  unfold own at w1
  unfold OpdOk own at w2
  obtain rfl := w1.intV
  obtain rfl := w2.intV
  obtain ⟨e3, hP⟩ := hM hu
  subst e3
  refine hr i j H Q hP (hq.val (.refl) hk (hd F i j) he (hf.sub ((Sub.r d3).trans (.r ?_))) hp)
  exact (Dis.cup d1.symm d2.symm).symm
/-- a guard -/
def gd {ω : Type} (c : Prop) [Decidable c] (m : Res ω) : Res ω := if c then m else .un
theorem gd_ok {ω : Type} {c : Prop} [Decidable c] {m : Res ω} (h : gd c m ≠ .un) : gd c m = m ∧ c := by
  unfold gd at h ⊢
  by_cases hc : c
  · rw [if_pos hc]; exact ⟨rfl, hc⟩
  · rw [if_neg hc] at h; exact absurd rfl h
@[simp] theorem gd_pos {ω : Type} {c : Prop} [Decidable c] {m : Res ω} (h : c) : gd c m = m := if_pos h
theorem JE.add (h : JI X C pu Γ a M fun i Γ1 M1 => JI X C pu Γ1 b M1 fun j Γ2 M2 => k (.own (.val (.int (i + j)))) Γ2 M2) : JE X C pu Γ (.BinOp a .Add b pos) M k :=
  JE.of (pe_op op_add pe_sem pe_sem) (JT.ints (gv := fun i j => .int (i + j)) (d := fun i j => .int (i + j)) (P := fun _ _ => True) (fun i j H Q _ q => ⟨i, j, rfl, rfl, q⟩) (fun _ _ _ => .int _)
    (h.mono fun _ _ _ ⟨i, e, q⟩ => ⟨i, e, q.mono fun _ _ M2 ⟨j, e, q⟩ => ⟨j, e, M2, fun _ => ⟨rfl, trivial⟩, q⟩⟩))
theorem JE.sub (h : JI X C pu Γ a M fun i Γ1 M1 => JI X C pu Γ1 b M1 fun j Γ2 M2 => k (.own (.val (.int (i - j)))) Γ2 M2) : JE X C pu Γ (.BinOp a .Sub b pos) M k :=
  JE.of (pe_op op_sub pe_sem pe_sem) (JT.ints (gv := fun i j => .int (i - j)) (d := fun i j => .int (i - j)) (P := fun _ _ => True) (fun i j H Q _ q => ⟨i, j, rfl, rfl, q⟩) (fun _ _ _ => .int _)
    (h.mono fun _ _ _ ⟨i, e, q⟩ => ⟨i, e, q.mono fun _ _ M2 ⟨j, e, q⟩ => ⟨j, e, M2, fun _ => ⟨rfl, trivial⟩, q⟩⟩))
/-- products: sgl factor below 2^64, or both below 2^5000 -/
def mulOk (i j : Int) : Prop := (i.natAbs < 2 ^ 64 ∨ j.natAbs < 2 ^ 64) ∨ (i.natAbs < 2 ^ 5000 ∧ j.natAbs < 2 ^ 5000)
instance (i j : Int) : Decidable (mulOk i j) := inferInstanceAs (Decidable (_ ∨ _))
theorem mulOk.ok {i j : Int} (h : mulOk i j) : CMul i j ∨ CMulW i j := by
  rcases h with (h | h) | ⟨h1, h2⟩
  · exact .inl (.inl (by omega))
  · exact .inl (.inr (by omega))
  · exact .inr (wide_mul h1 h2 (by decide) (by decide) (by decide))
theorem op_mulB {X : Cx} : OpR X (binaryOp .Mult) (rI mulOk fun i j => .int (i * j)) := by
  intro pins s σ H x y v u Q I rx ry ⟨i, j, e1, e2, hc, q⟩
  rcases hc.ok with h | h
  · exact op_mul pins s σ H x y v u Q I rx ry ⟨i, j, e1, e2, h, q⟩
  · exact op_mulW pins s σ H x y v u Q I rx ry ⟨i, j, e1, e2, h, q⟩
/-- with a guard, or with a proof -/
theorem JE.mul (h : JI X C pu Γ a M fun i Γ1 M1 => JI X C pu Γ1 b M1 fun j Γ2 M2 => ∃ M3, (M2 ≠ .un → M2 = M3 ∧ mulOk i j) ∧ k (.own (.val (.int (i * j)))) Γ2 M3) : JE X C pu Γ (.BinOp a .Mult b pos) M k :=
  JE.of (pe_op op_mulB pe_sem pe_sem) (JT.ints (gv := fun i j => .int (i * j)) (d := fun i j => .int (i * j)) (fun i j H Q c q => ⟨i, j, rfl, rfl, c, q⟩) (fun _ _ _ => .int _) h)
def divOk (j : Int) : Prop := 0 < j ∧ j < 2 ^ 5000
instance (j : Int) : Decidable (divOk j) := inferInstanceAs (Decidable (_ ∧ _))
theorem JE.fdiv (h : JI X C pu Γ a M fun i Γ1 M1 => JI X C pu Γ1 b M1 fun j Γ2 M2 => ∃ M3, (M2 ≠ .un → M2 = M3 ∧ divOk j) ∧ k (.own (.val (.int (i / j)))) Γ2 M3) : JE X C pu Γ (.BinOp a .FloorDiv b pos) M k :=
  JE.of (pe_op op_fdivW pe_sem pe_sem) (JT.ints (gv := fun i j => .int (i / j)) (d := fun i j => .int (i / j)) (P := fun _ j => divOk j) (fun i j H Q c q => ⟨i, j, rfl, rfl, wide_div (b := 5000) c.1 (by have := c.1; have := c.2; omega) (by decide) (by decide), q⟩) (fun _ _ _ => .int _) h)
theorem JE.mod (h : JI X C pu Γ a M fun i Γ1 M1 => JI X C pu Γ1 b M1 fun j Γ2 M2 => ∃ M3, (M2 ≠ .un → M2 = M3 ∧ 0 < j) ∧ k (.own (.val (.int (i % j)))) Γ2 M3) : JE X C pu Γ (.BinOp a .Mod b pos) M k :=
  JE.of (pe_op op_mod pe_sem pe_sem) (JT.ints (gv := fun i j => .int (i % j)) (d := fun i j => .int (i % j)) (P := fun _ j => 0 < j) (fun i j H Q c q => ⟨i, j, rfl, rfl, c, q⟩) (fun _ _ _ => .int _) h)
def powOk (i j : Int) : Prop := 0 ≤ j ∧ j ≤ 1000000 ∧ i.natAbs < 2 ^ 64
instance (i j : Int) : Decidable (powOk i j) := inferInstanceAs (Decidable (_ ∧ _ ∧ _))
theorem JE.pow (h : JI X C pu Γ a M fun i Γ1 M1 => JI X C pu Γ1 b M1 fun j Γ2 M2 => ∃ M3, (M2 ≠ .un → M2 = M3 ∧ powOk i j) ∧ k (.own (.val (.int (i ^ j.toNat)))) Γ2 M3) : JE X C pu Γ (.BinOp a .Pow b pos) M k :=
  JE.of (pe_op op_pow pe_sem pe_sem) (JT.ints (gv := fun i j => .int (i ^ j.toNat)) (d := fun i j => .int (i ^ j.toNat)) (P := powOk) (fun i j H Q c q => ⟨i, j, rfl, rfl, c, q⟩) (fun _ _ _ => .int _) h)
/-- a guard stands here -/
theorem gdI {ω : Type} {c : Prop} [Decidable c] {m : Res ω} {Z : Res ω → Prop} (h : Z m) : ∃ M3, (gd c m ≠ .un → gd c m = M3 ∧ c) ∧ Z M3 := ⟨m, gd_ok, h⟩
/-- a proof stands here -/
theorem prI {ω : Type} {c : Prop} {m : Res ω} {Z : Res ω → Prop} (hc : c) (h : Z m) : ∃ M3, (m ≠ .un → m = M3 ∧ c) ∧ Z M3 := ⟨m, fun _ => ⟨rfl, hc⟩, h⟩

/-! ### comparisons of ints -/
/-! ### tests -/
theorem JC.of {t : TT} {kb : Bool → List SD → Res ω → Prop} (p : PT X e t) (h : JB2 X.K C pu Γ t M kb) : JC X C pu Γ e M kb :=
  fun F h0 g H σ Q he hf hG hu hx hq => semT_of p (h F h0 g H σ Q he hf hG hu hx hq)
theorem JW.of {t : TT} {kb : Bool → List SD → Res ω → Prop} (p : PW X e t) (h : JB2 X.K C pu Γ t M kb) : JW X C pu Γ e M kb :=
  fun F h0 g H σ Q he hf hG hu hx hq => semW_of p (h F h0 g H σ Q he hf hG hu hx hq)
theorem JB2.mono {t : TT} {kb kb' : Bool → List SD → Res ω → Prop} (h : JB2 K C pu Γ t M kb) (hk : ∀ o Γ' M', kb o Γ' M' → kb' o Γ' M') : JB2 K C pu Γ t M kb' :=
  fun F h0 g H σ Q he hf hG hu hx hq => h F h0 g H σ Q he hf hG hu hx fun o Γ' M' ho => hq o Γ' M' (hk o Γ' M' ho)
/-- a truth as a test -/
theorem JC.val {kb : Bool → List SD → Res ω → Prop} (h : JBo X C pu Γ e M kb) (he : ∀ whole, isTrue e X.env whole = (do let v ← whole; standAt e.pos; holding [v] (truthy v)) := by intro _; rfl) : JC X C pu Γ e M kb := by
  refine JC.of (pt_truth pe_sem he) fun F h0 g H σ Q hen hf hG hu hx hq => ?_
  refine h F h0 g H σ _ hen hf hG hu hx fun o Γ' M' ⟨b, e1, hk⟩ hm v F' h1 h2 H' x ow he' d hf' hp => ?_
  subst e1
  unfold OpdOk own at ow
  obtain rfl := ow.blV
  exact ⟨b, rfl, hq b Γ' M' hk hm F' h2 H' x he' (hf'.un d) hp⟩
end
end Tsa

/-! M3: runs within runs, tests, statements. -/
namespace Tsa
open PySem PySem.Spec PyProof.Rows L2
section
variable {K : PySem.W.Frag} {X : Cx} {C : XC} {pu : Bool} {ω β : Type} {Γ : List SD} {e a b c : Expr} {rest : List Expr} {M : Res ω} {pos : Pos} {t ta tb : TE} {k : Opd → List SD → Res ω → Prop}
/-- a run within the run -/
theorem XOk.bind {F g : Hp} {m : Res β} {kM : β → Res ω} (h : XOk K C F g (m.bind kM)) : XOk K C F g m := fun e he => h e (by rw [he]; rfl)
theorem JT.run {m : Res β} {kM : β → Res ω} {τ : β → Opd} {Δ : β → List SD} (h : JT K C pu Γ t m fun o Γ' M' => ∃ x, M' = .ok x ∧ o = τ x ∧ Γ' = Δ x) (hk : ∀ x, m = .ok x → k (τ x) (Δ x) (kM x)) : JT K C pu Γ t (m.bind kM) k := by
  intro F h0 g H σ Q he hf hG hu hx hq
  have hum : m ≠ .un := fun z => hu (by rw [z]; rfl)
  refine h F h0 g H σ Q he hf hG hum hx.bind fun o Γ' M' ⟨x, e1, e2, e3⟩ hm v F' h1 h2 H' a1 a2 a3 a4 a5 a6 => ?_
  subst e2 e3
  have em : m = .ok x := by rw [← hm, e1]
  refine hq _ _ (kM x) (hk x em) ?_ v F' h1 h2 H' a1 a2 a3 a4 a5 a6
  rw [em]; rfl
theorem JB2.run {t : TT} {kb : Bool → List SD → Res ω → Prop} {m : Res β} {kM : β → Res ω} {τ : β → Bool} {Δ : β → List SD} (h : JB2 K C pu Γ t m fun o Γ' M' => ∃ x, M' = .ok x ∧ o = τ x ∧ Γ' = Δ x) (hk : ∀ x, m = .ok x → kb (τ x) (Δ x) (kM x)) :
    JB2 K C pu Γ t (m.bind kM) kb := by
  intro F h0 g H σ Q he hf hG hu hx hq
  have hum : m ≠ .un := fun z => hu (by rw [z]; rfl)
  refine h F h0 g H σ Q he hf hG hum hx.bind fun o Γ' M' ⟨x, e1, e2, e3⟩ hm F' h2 H' a1 a2 a3 a4 => ?_
  subst e2 e3
  have em : m = .ok x := by rw [← hm, e1]
  refine hq _ _ (kM x) (hk x em) ?_ F' h2 H' a1 a2 a3 a4
  rw [em]; rfl
/-- pure and total: a value, a test -/
abbrev JVt (X : Cx) (C : XC) (Γ : List SD) (e : Expr) (o : Opd) : Prop := JE X C true Γ e (Res.ok ()) fun o' Γ' _ => o' = o ∧ Γ' = Γ
abbrev JCt (X : Cx) (C : XC) (Γ : List SD) (e : Expr) (c : Bool) : Prop := JC X C true Γ e (Res.ok ()) fun b Γ' _ => b = c ∧ Γ' = Γ
theorem xok_unit {F g : Hp} {u : Unit} : XOk K C F g (Res.ok u) := fun _ z => nomatch z
theorem JE.tot {o : Opd} (h : JVt X C Γ e o) (hk : k o Γ M) : JE X C pu Γ e M k := fun F h0 g H σ Q he hf hG hu hx hq =>
  h F h0 g H σ Q he hf hG (fun z => nomatch z) xok_unit fun o' Γ' M' ⟨e1, e2⟩ hm v F' h1 h2 H' a1 a2 a3 a4 a5 a6 => hq o Γ M hk rfl v F' h1 h2 H' a1 (e1 ▸ a2) (e2 ▸ a3) a4 a5 fun _ => ⟨(a6 rfl).1, rfl⟩
theorem JC.tot {cb : Bool} {kb : Bool → List SD → Res ω → Prop} (h : JCt X C Γ e cb) (hk : kb cb Γ M) : JC X C pu Γ e M kb := fun F h0 g H σ Q he hf hG hu hx hq =>
  h F h0 g H σ Q he hf hG (fun z => nomatch z) xok_unit fun o' Γ' M' ⟨e1, e2⟩ hm F' h2 H' a1 a2 a3 a4 => by
    subst e1 e2
    exact hq _ _ M hk rfl F' h2 H' a1 a2 a3 fun _ => ⟨(a4 rfl).1, rfl⟩

/-! ### comparisons, as values and as tests -/
/-- a comparison's two operands -/
def Cmp (X : Cx) (C : XC) (pu : Bool) {ω : Type} (Γ : List SD) (op : CmpOp) (a b : Expr) (M : Res ω) (k : Opd → List SD → Res ω → Prop) : Prop :=
  behindInMarks op b = false ∧ ∃ r, OpR X (compareOp op) r ∧ JT X.K C pu Γ (tOp r (semE X a) (semE X b)) M k
theorem Cmp.int {op : CmpOp} {g : Int → Int → Bool} (ho : OpR X (compareOp op) (rI0 fun i j => .bl (g i j))) (hm : behindInMarks op b = false)
    (h : JI X C pu Γ a M fun i Γ1 M1 => JI X C pu Γ1 b M1 fun j Γ2 M2 => k (.own (.val (.bool (g i j)))) Γ2 M2) : Cmp X C pu Γ op a b M k :=
  ⟨hm, _, ho, JT.ints (gv := fun i j => .bl (g i j)) (d := fun i j => .bool (g i j)) (P := fun _ _ => True) (fun i j H Q _ q => ⟨i, j, rfl, rfl, q⟩) (fun _ _ _ => .bl _)
    (h.mono fun _ _ _ ⟨i, e, q⟩ => ⟨i, e, q.mono fun _ _ M2 ⟨j, e, q⟩ => ⟨j, e, M2, fun _ => ⟨rfl, trivial⟩, q⟩⟩)⟩
theorem Cmp.lt (h : JI X C pu Γ a M fun i Γ1 M1 => JI X C pu Γ1 b M1 fun j Γ2 M2 => k (.own (.val (.bool (decide (i < j))))) Γ2 M2) : Cmp X C pu Γ .Lt a b M k := Cmp.int op_lt (nomark _) h
theorem Cmp.gt (h : JI X C pu Γ a M fun i Γ1 M1 => JI X C pu Γ1 b M1 fun j Γ2 M2 => k (.own (.val (.bool (decide (j < i))))) Γ2 M2) : Cmp X C pu Γ .Gt a b M k := Cmp.int op_gt (nomark _) h
theorem JE.cmp {op : CmpOp} (h : Cmp X C pu Γ op a b M k) : JE X C pu Γ (.Compare a [op] [b] pos) M k := by
  obtain ⟨hm, r, ho, h⟩ := h
  exact JE.of (pe_cmpR ho pe_sem pe_sem hm) h
theorem JB2.test {t : TE} {kb : Bool → List SD → Res ω → Prop} (h : JT K C pu Γ t M fun o Γ' M' => ∃ c, o = .own (.val (.bool c)) ∧ kb c Γ' M') : JB2 K C pu Γ (tTest t) M kb := by
  intro F h0 g H σ Q he hf hG hu hx hq
  refine h F h0 g H σ _ he hf hG hu hx fun o Γ' M' ⟨c, e1, hk⟩ hm v F' h1 h2 H' a1 a2 a3 a4 a5 a6 => ?_
  subst e1
  unfold OpdOk own at a2
  exact ⟨c, a2.blV, hq c Γ' M' hk hm F' h2 H' a1 a3 (a5.un a4) a6⟩
theorem JC.cmp {op : CmpOp} {kb : Bool → List SD → Res ω → Prop} (h : Cmp X C pu Γ op a b M fun o Γ' M' => ∃ c, o = .own (.val (.bool c)) ∧ kb c Γ' M') : JC X C pu Γ (.Compare a [op] [b] pos) M kb := by
  obtain ⟨hm, r, ho, h⟩ := h
  exact JC.of (pt_cmpR ho pe_sem pe_sem hm) (JB2.test h)
/-- a comparison as a total test -/
theorem JCt.cmp {op : CmpOp} {cb : Bool} (h : Cmp X C true Γ op a b (Res.ok ()) fun o Γ' _ => o = .own (.val (.bool cb)) ∧ Γ' = Γ) : JCt X C Γ (.Compare a [op] [b] pos) cb := by
  obtain ⟨hm, r, ho, h⟩ := h
  exact JC.of (pt_cmpR ho pe_sem pe_sem hm) (JB2.test (h.mono fun o Γ' M' ⟨e1, e2⟩ => ⟨cb, e1, rfl, e2⟩))
theorem JCt.val {cb : Bool} (h : JVt X C Γ e (.own (.val (.bool cb)))) (he : ∀ whole, isTrue e X.env whole = (do let v ← whole; standAt e.pos; holding [v] (truthy v)) := by intro _; rfl) : JCt X C Γ e cb :=
  JC.val (h.mono fun o Γ' M' ⟨e1, e2⟩ => ⟨cb, e1, rfl, e2⟩) he

/-! ### not, and, or, if-else -/
theorem JC.not {kb : Bool → List SD → Res ω → Prop} (h : JC X C pu Γ a M fun c Γ' M' => kb (!c) Γ' M') : JC X C pu Γ (.UnaryOp .Not a pos) M kb :=
  JC.of (pt_not pt_sem) fun F h0 g H σ Q he hf hG hu hx hq => h F h0 g H σ _ he hf hG hu hx fun c Γ' M' hk => hq (!c) Γ' M' hk
theorem JCt.not {cb : Bool} (h : JCt X C Γ a cb) : JCt X C Γ (.UnaryOp .Not a pos) (!cb) := JC.not (h.mono fun c Γ' M' ⟨e1, e2⟩ => ⟨by rw [e1], e2⟩)
/-- links of and, or: total -/
abbrev JWt (X : Cx) (C : XC) (Γ : List SD) (e : Expr) (c : Bool) : Prop := JW X C true Γ e (Res.ok ()) fun b Γ' _ => b = c ∧ Γ' = Γ
theorem JWt.and1 {cb : Bool} (h : JCt X C Γ a cb) : JWt X C Γ (.BoolOp .And [a] pos) cb := JW.of (pw_and1 pt_sem) h
theorem JWt.and {ca cb : Bool} (h : JCt X C Γ a ca) (h2 : ca = true → JWt X C Γ (.BoolOp .And (b :: rest) pos) cb) : JWt X C Γ (.BoolOp .And (a :: b :: rest) pos) (ca && cb) :=
  JW.of (pw_and pt_sem pw_sem) fun F h0 g H σ Q he hf hG hu hx hq => h F h0 g H σ _ he hf hG hu hx fun c Γ' M' ⟨e1, e2⟩ hm F' h1 H' a1 a2 a3 a4 => by
    subst e1 e2
    cases c with
    | false => exact hq false _ _ ⟨rfl, rfl⟩ rfl F' h1 H' a1 a2 a3 a4
    | true => exact h2 rfl F' h1 g H' σ _ a2 a3 hG hu xok_unit fun c Γ' M' ⟨e1, e2⟩ hm F2 h2 H2 b1 b2 b3 b4 => hq c Γ' M' ⟨e1, e2⟩ hm F2 h2 H2 (a1.trans b1) b2 b3 fun z => ⟨(a4 z).1.trans (b4 z).1, (b4 z).2⟩
theorem JCt.bop {cb : Bool} (h : JWt X C Γ e cb) : JCt X C Γ e cb := JC.of pw_sem.pt h
/-- .. that may stop: in a run of its own -/
theorem JW.and1 {kb : Bool → List SD → Res ω → Prop} (h : JC X C pu Γ a M kb) : JW X C pu Γ (.BoolOp .And [a] pos) M kb := JW.of (pw_and1 pt_sem) h
theorem JW.or1 {kb : Bool → List SD → Res ω → Prop} (h : JC X C pu Γ a M kb) : JW X C pu Γ (.BoolOp .Or [a] pos) M kb := JW.of (pw_or1 pt_sem) h
theorem JW.and {kb : Bool → List SD → Res ω → Prop} (h : JC X C pu Γ a M fun c Γ1 M1 => ∃ Mt Mf, M1 = cond c Mt Mf ∧ (c = true → JW X C pu Γ1 (.BoolOp .And (b :: rest) pos) Mt kb) ∧ (c = false → kb false Γ1 Mf)) : JW X C pu Γ (.BoolOp .And (a :: b :: rest) pos) M kb :=
  JW.of (pw_and pt_sem pw_sem) fun F h0 g H σ Q he hf hG hu hx hq => h F h0 g H σ _ he hf hG hu hx fun c Γ' M' ⟨Mt, Mf, e1, h2, h3⟩ hm F' h1 H' a1 a2 a3 a4 => by
    subst hm
    cases c with
    | false => exact hq false _ Mf (h3 rfl) e1.symm F' h1 H' a1 a2 a3 a4
    | true =>
      have e1 : M' = Mt := e1
      subst e1
      exact h2 rfl F' h1 g H' σ _ a2 a3 hG hu (hx.mono a1) fun c Γ' M' hk hm F2 h2 H2 b1 b2 b3 b4 => hq c Γ' M' hk hm F2 h2 H2 (a1.trans b1) b2 b3 fun z => ⟨(a4 z).1.trans (b4 z).1, (b4 z).2.trans (a4 z).2⟩
theorem JW.or {kb : Bool → List SD → Res ω → Prop} (h : JC X C pu Γ a M fun c Γ1 M1 => ∃ Mt Mf, M1 = cond c Mt Mf ∧ (c = true → kb true Γ1 Mt) ∧ (c = false → JW X C pu Γ1 (.BoolOp .Or (b :: rest) pos) Mf kb)) : JW X C pu Γ (.BoolOp .Or (a :: b :: rest) pos) M kb :=
  JW.of (pw_or pt_sem pw_sem) fun F h0 g H σ Q he hf hG hu hx hq => h F h0 g H σ _ he hf hG hu hx fun c Γ' M' ⟨Mt, Mf, e1, h3, h2⟩ hm F' h1 H' a1 a2 a3 a4 => by
    subst hm
    cases c with
    | true => exact hq true _ Mt (h3 rfl) e1.symm F' h1 H' a1 a2 a3 a4
    | false =>
      have e1 : M' = Mf := e1
      subst e1
      exact h2 rfl F' h1 g H' σ _ a2 a3 hG hu (hx.mono a1) fun c Γ' M' hk hm F2 h2 H2 b1 b2 b3 b4 => hq c Γ' M' hk hm F2 h2 H2 (a1.trans b1) b2 b3 fun z => ⟨(a4 z).1.trans (b4 z).1, (b4 z).2.trans (a4 z).2⟩
theorem JC.bop {kb : Bool → List SD → Res ω → Prop} (h : JW X C pu Γ e M kb) : JC X C pu Γ e M kb := JC.of pw_sem.pt h
/-- as values -/
theorem JE.one {op} (h : JE X C pu Γ a M k) : JE X C pu Γ (.BoolOp op [a] pos) M k := JE.of (pe_one pe_sem) h
theorem JE.not (h : JBo X C pu Γ a M fun c Γ' M' => k (.own (.val (.bool (!c)))) Γ' M') : JE X C pu Γ (.UnaryOp .Not a pos) M k :=
  JE.of (pe_not pe_sem) fun F h0 g H σ Q he hf hG hu hx hq => h F h0 g H σ _ he hf hG hu hx fun o Γ' M' ⟨c, e1, hk⟩ hm v F' h1 h2 H' a1 a2 a3 a4 a5 a6 => by
    subst e1
    unfold OpdOk own at a2
    exact ⟨c, a2.blV, hq _ Γ' M' hk hm _ F' emp h2 H' a1 (by unfold OpdOk own; exact .bl _) a3 .emp (a5.un a4).emp a6⟩
theorem JVt.not {cb : Bool} (h : JVt X C Γ a (.own (.val (.bool cb)))) : JVt X C Γ (.UnaryOp .Not a pos) (.own (.val (.bool (!cb)))) := JE.not (h.mono fun o Γ' M' ⟨e1, e2⟩ => ⟨cb, e1, rfl, e2⟩)
theorem JE.and (h : JBo X C pu Γ a M fun c Γ1 M1 => ∃ Mt Mf, M1 = cond c Mt Mf ∧ (c = true → JE X C pu Γ1 (.BoolOp .And (b :: rest) pos) Mt k) ∧ (c = false → k (.own (.val (.bool false))) Γ1 Mf)) : JE X C pu Γ (.BoolOp .And (a :: b :: rest) pos) M k :=
  JE.of (pe_and pe_sem pe_sem) fun F h0 g H σ Q he hf hG hu hx hq => h F h0 g H σ _ he hf hG hu hx fun o Γ' M' ⟨c, e0, Mt, Mf, e1, h2, h3⟩ hm v F' hv h1 H' a1 aw a2 d a3 a4 => by
    subst hm e0
    unfold OpdOk own at aw
    refine ⟨c, aw.blV, ?_⟩
    have a3' := a3.un d
    cases c with
    | false =>
      rw [if_neg Bool.false_ne_true]
      exact hq _ _ Mf (h3 rfl) e1.symm _ F' emp h1 H' a1 (by unfold OpdOk own; exact .bl _) a2 .emp a3'.emp a4
    | true =>
      have e1 : M' = Mt := e1
      subst e1
      rw [if_pos rfl]
      exact h2 rfl F' h1 g H' σ _ a2 a3' hG hu (hx.mono a1) fun o Γ' M' hk hm v F2 h1' h2 H2 b1 bw b2 bd b3 b4 => hq o Γ' M' hk hm v F2 h1' h2 H2 (a1.trans b1) bw b2 bd b3 fun z => ⟨(a4 z).1.trans (b4 z).1, (b4 z).2.trans (a4 z).2⟩
theorem JVt.and {ca cb : Bool} (h : JVt X C Γ a (.own (.val (.bool ca)))) (h2 : ca = true → JVt X C Γ (.BoolOp .And (b :: rest) pos) (.own (.val (.bool cb)))) : JVt X C Γ (.BoolOp .And (a :: b :: rest) pos) (.own (.val (.bool (ca && cb)))) :=
  JE.and (h.mono fun o Γ' M' ⟨e1, e2⟩ => ⟨ca, e1, M', M', by cases ca <;> rfl, fun z => by subst z e2; exact JE.tot (h2 rfl) ⟨rfl, rfl⟩, fun z => ⟨by rw [z, Bool.false_and], e2⟩⟩)
/-- sgl of two values, by a test -/
theorem JE.ifx (h : JC X C pu Γ c M fun cb Γ1 M1 => ∃ Mt Mf, M1 = cond cb Mt Mf ∧ (cb = true → JE X C pu Γ1 a Mt k) ∧ (cb = false → JE X C pu Γ1 b Mf k)) : JE X C pu Γ (.IfExp c a b pos) M k :=
  JE.of (pe_ifExp pt_sem pe_sem pe_sem) fun F h0 g H σ Q he hf hG hu hx hq => h F h0 g H σ _ he hf hG hu hx fun cb Γ' M' ⟨Mt, Mf, e1, h2, h3⟩ hm F' h1 H' a1 a2 a3 a4 => by
    subst hm
    cases cb with
    | true =>
      have e1 : M' = Mt := e1
      subst e1
      rw [if_pos rfl]
      exact h2 rfl F' h1 g H' σ _ a2 a3 hG hu (hx.mono a1) fun o Γ' M' hk hm v F2 h1' h2 H2 b1 bw b2 bd b3 b4 => hq o Γ' M' hk hm v F2 h1' h2 H2 (a1.trans b1) bw b2 bd b3 fun z => ⟨(a4 z).1.trans (b4 z).1, (b4 z).2.trans (a4 z).2⟩
    | false =>
      have e1 : M' = Mf := e1
      subst e1
      rw [if_neg Bool.false_ne_true]
      exact h3 rfl F' h1 g H' σ _ a2 a3 hG hu (hx.mono a1) fun o Γ' M' hk hm v F2 h1' h2 H2 b1 bw b2 bd b3 b4 => hq o Γ' M' hk hm v F2 h1' h2 H2 (a1.trans b1) bw b2 bd b3 fun z => ⟨(a4 z).1.trans (b4 z).1, (b4 z).2.trans (a4 z).2⟩
end
end Tsa

/-! M4: statements, targets, loops. -/
namespace Tsa
open PySem PySem.Spec PyProof.Rows L2

inductive EndK where
  | rt (s : SD) (Γ : List SD)
  | bk (Γ : List SD)
  | ct (Γ : List SD)
  | no
def EndOk (K : PySem.W.Frag) (C : XC) (F g : Hp) (D : Ends) : EndK → Prop
  | .rt s Γ => ∀ (v : V) (F' h1 h2 : Hp) (σ : L2.St) (H : Hp), Sub F F' → own K F' C.G s h1 v → EnvR K F' C.G Γ h2 σ → Dis h1 h2 → Fits F' (cup h1 h2) g H → D.rt v H
  | .bk Γ => ∀ (F' h : Hp) (σ : L2.St) (H : Hp), Sub F F' → EnvR K F' C.G Γ h σ → Fits F' h g H → D.bk σ H
  | .ct Γ => ∀ (F' h : Hp) (σ : L2.St) (H : Hp), Sub F F' → EnvR K F' C.G Γ h σ → Fits F' h g H → D.ct σ H
  | .no => True
theorem EndOk.mono {K : PySem.W.Frag} {C : XC} {F F' g : Hp} {D : Ends} (x : Sub F F') : ∀ {e : EndK}, EndOk K C F g D e → EndOk K C F' g D e
  | .rt s Γ, q => fun v F2 h1 h2 σ H y => q v F2 h1 h2 σ H (x.trans y)
  | .bk Γ, q => fun F2 h σ H y => q F2 h σ H (x.trans y)
  | .ct Γ, q => fun F2 h σ H y => q F2 h σ H (x.trans y)
  | .no, _ => trivial
theorem EndOk.nx {K : PySem.W.Frag} {C : XC} {F g : Hp} {D : Ends} {n : L2.St → Hp → Prop} : ∀ {e : EndK}, EndOk K C F g D e → EndOk K C F g { D with nx := n } e
  | .rt s Γ, q => q
  | .bk Γ, q => q
  | .ct Γ, q => q
  | .no, _ => trivial

/-- THE JUDGEMENT of statements: k behind it, en for what leaves -/
def JST (K : PySem.W.Frag) (C : XC) {ω : Type} (Γ : List SD) (t : TS) (M : Res ω) (k : List SD → Res ω → Prop) (en : ω → EndK) : Prop :=
  ∀ (F h g H : Hp) (σ : L2.St) (D : Ends), EnvR K F C.G Γ h σ → Fits F h g H → Sub C.G g → M ≠ .un → XOk K C F g M →
    (∀ (Γ' : List SD) (M' : Res ω), k Γ' M' → M' = M → ∀ (F' h' : Hp) (σ' : L2.St) (H' : Hp), Sub F F' → EnvR K F' C.G Γ' h' σ' → Fits F' h' g H' → D.nx σ' H') →
    (∀ w, M = .ok w → EndOk K C F g D (en w)) → t D σ H
@[irreducible] def semS (X : Cx) (st : Stmt) : TS := fun D σ H => ∀ pins s, Inv X pins σ H s → wpAny (model X.prog X.w) X.A (exec st X.env) (SP X pins D) X.xe s
theorem ps_sem {X : Cx} {st : Stmt} : PS X st (semS X st) := ⟨fun pins s σ H D I h => by unfold semS at h; exact h pins s I⟩
@[irreducible] def semL (X : Cx) (sts : List Stmt) : TS := fun D σ H => ∀ pins s, Inv X pins σ H s → wpAny (model X.prog X.w) X.A (execs sts X.env) (SP X pins D) X.xe s
theorem pss_sem {X : Cx} {sts : List Stmt} : PSs X sts (semL X sts) := ⟨fun pins s σ H D I h => by unfold semL at h; exact h pins s I⟩
theorem semL_run {X : Cx} {sts : List Stmt} {σ : L2.St} {H : Hp} {D : Ends} (h : semL X sts D σ H) : ∀ pins s, Inv X pins σ H s → wpAny (model X.prog X.w) X.A (execs sts X.env) (SP X pins D) X.xe s := by unfold semL at h; exact h
theorem semS_of {X : Cx} {st : Stmt} {t : TS} (p : PS X st t) {σ : L2.St} {H : Hp} {D : Ends} (h : t D σ H) : semS X st D σ H := by unfold semS; exact fun pins s I => p.run pins s σ H D I h
theorem semL_of {X : Cx} {sts : List Stmt} {t : TS} (p : PSs X sts t) {σ : L2.St} {H : Hp} {D : Ends} (h : t D σ H) : semL X sts D σ H := by unfold semL; exact fun pins s I => p.run pins s σ H D I h
abbrev JS (X : Cx) (C : XC) {ω : Type} (Γ : List SD) (st : Stmt) (M : Res ω) (k : List SD → Res ω → Prop) (en : ω → EndK) : Prop := JST X.K C Γ (semS X st) M k en
abbrev JL (X : Cx) (C : XC) {ω : Type} (Γ : List SD) (sts : List Stmt) (M : Res ω) (k : List SD → Res ω → Prop) (en : ω → EndK) : Prop := JST X.K C Γ (semL X sts) M k en
section
variable {K : PySem.W.Frag} {X : Cx} {C : XC} {ω β : Type} {Γ : List SD} {e a b c : Expr} {st : Stmt} {rest : List Stmt} {M : Res ω} {pos : Pos} {t u : TS} {k : List SD → Res ω → Prop} {en : ω → EndK}
theorem JS.of (p : PS X st t) (h : JST X.K C Γ t M k en) : JS X C Γ st M k en := fun F h0 g H σ D he hf hG hu hx hk hn => semS_of p (h F h0 g H σ D he hf hG hu hx hk hn)
theorem JL.of {sts : List Stmt} (p : PSs X sts t) (h : JST X.K C Γ t M k en) : JL X C Γ sts M k en := fun F h0 g H σ D he hf hG hu hx hk hn => semL_of p (h F h0 g H σ D he hf hG hu hx hk hn)
theorem JL.nil (hk : k Γ M) : JL X C Γ [] M k en := JL.of pss_nil fun F h0 g H σ D he hf hG hu hx q hn => q Γ M hk rfl F h0 σ H .refl he hf
theorem JL.cons (h : JS X C Γ st M (fun Γ' M' => JL X C Γ' rest M' k en) en) : JL X C Γ (st :: rest) M k en :=
  JL.of (pss_cons ps_sem pss_sem) fun F h0 g H σ D he hf hG hu hx q hn => h F h0 g H σ _ he hf hG hu hx
    (fun Γ' M' z hm F' h' σ' H' x he' hf' => by
      subst hm
      exact z F' h' g H' σ' D he' hf' hG hu (hx.mono x) (fun Γ2 M2 z2 hm2 F2 h2 σ2 H2 y => q Γ2 M2 z2 hm2 F2 h2 σ2 H2 (x.trans y)) fun w hw => (hn w hw).mono x)
    fun w hw => (hn w hw).nx
theorem JS.expr (h : JE X C false Γ e M fun _ Γ' M' => k Γ' M') (hs : swapsWith e none pos.line X.env = pure false := by rfl) : JS X C Γ (.Expr e pos) M k en :=
  JS.of (ps_expr pe_sem hs) fun F h0 g H σ D he hf hG hu hx q hn => h F h0 g H σ _ he hf hG hu hx fun o Γ' M' hk hm v F' h1 h2 H' x ow he' d hf' _ => q Γ' M' hk hm F' h2 σ H' x he' (hf'.un d)
/-- what a return hands back -/
def Rt {ω : Type} (en : ω → EndK) (o : Opd) (Γ : List SD) (M : Res ω) : Prop := ∃ w s Γ', o = .own s ∧ M = .ok w ∧ en w = .rt s Γ' ∧ Le Γ Γ'
theorem JS.ret (h : JE X C false Γ e M fun o Γ' M' => Rt en o Γ' M') : JS X C Γ (.Return (some e) pos) M k en :=
  JS.of (ps_ret pe_sem) fun F h0 g H σ D he hf hG hu hx q hn => h F h0 g H σ _ he hf hG hu hx fun o Γ' M' ⟨w, s, Γ2, e1, e2, e3, hl⟩ hm v F' h1 h2 H' x ow he' d hf' _ => by
    subst e1 hm
    have z := (hn w e2).mono x
    rw [e3] at z
    exact z v F' h1 h2 σ H' .refl ow (hl.ok he') d hf'
/-- if -/
theorem JS.ite {A B : List Stmt} (h : JC X C false Γ c M fun cb Γ1 M1 => ∃ Mt Mf, M1 = cond cb Mt Mf ∧ (cb = true → JL X C Γ1 A Mt k en) ∧ (cb = false → JL X C Γ1 B Mf k en)) : JS X C Γ (.If c A B pos) M k en :=
  JS.of (ps_if pt_sem pss_sem pss_sem) fun F h0 g H σ D he hf hG hu hx q hn => h F h0 g H σ _ he hf hG hu hx fun cb Γ1 M1 ⟨Mt, Mf, e1, h2, h3⟩ hm F' h1 H' a1 a2 a3 _ => by
    subst hm
    cases cb with
    | true =>
      have e1 : M1 = Mt := e1
      subst e1
      rw [if_pos rfl]
      exact h2 rfl F' h1 g H' σ D a2 a3 hG hu (hx.mono a1) (fun Γ2 M2 z2 hm2 F2 h2 σ2 H2 y => q Γ2 M2 z2 hm2 F2 h2 σ2 H2 (a1.trans y)) fun w hw => (hn w hw).mono a1
    | false =>
      have e1 : M1 = Mf := e1
      subst e1
      rw [if_neg Bool.false_ne_true]
      exact h3 rfl F' h1 g H' σ D a2 a3 hG hu (hx.mono a1) (fun Γ2 M2 z2 hm2 F2 h2 σ2 H2 y => q Γ2 M2 z2 hm2 F2 h2 σ2 H2 (a1.trans y)) fun w hw => (hn w hw).mono a1
def orW {ω β : Type} (kM : β → Res ω) : β ⊕ ω → Res ω
  | .inl x => kM x
  | .inr w => .ok w
def orE {ω β : Type} (en : ω → EndK) : β ⊕ ω → EndK
  | .inl _ => .no
  | .inr w => en w
/-! ### targets -/
theorem EnvR.put {F G : Hp} {h h1 : Hp} {σ : L2.St} {i : Nat} {s : SD} {v : V} (he : EnvR K F G Γ h σ) (hi : i < Γ.length) (ow : own K F G s h1 v) (d : Dis h1 h) (fg : Dis F G) : EnvR K F G (Γ.set i s) (cup h1 h) (σ.set i (some v)) := by
  obtain ⟨o, k1, k2, e, s1, s2, d12, w, back⟩ := he.at (i := i) (s := Γ[i]) (by simp [hi])
  exact back F s (some v) h1 _ .refl fg (.of ow) (d.mono .refl s2) .l (s2.trans (.r d))
def semG (X : Cx) (tg : Expr) : TG := fun v σ H Q => ∀ pins s u, Inv X pins σ H s → RelV v u → wpAny (model X.prog X.w) X.A (assign tg X.env u) (fun _ s' => ∃ σ' H', Inv X pins σ' H' s' ∧ Q σ' H') X.xe s
theorem pg_sem {X : Cx} {tg : Expr} : PG X tg (semG X tg) := ⟨fun pins s σ H v u Q I r h => h pins s u I r⟩
/-- a thing is stored; ws: where it may be written -/
def JG (X : Cx) (C : XC) (ws : Nat → Prop) (Γ : List SD) (tg : Expr) (s : SD) (k : List SD → Prop) : Prop :=
  ∀ (F h1 h g H : Hp) (σ : L2.St) (v : V) (Q : L2.St → Hp → Prop), EnvR X.K F C.G Γ h σ → own X.K F C.G s h1 v → Dis h1 h → Fits F (cup h1 h) g H → Sub C.G g →
    (∀ Γ', k Γ' → ∀ (h' : Hp) (σ' : L2.St), EnvR X.K F C.G Γ' h' σ' → Fits F h' g H → (∀ j, ¬ ws j → σ'[j]? = σ[j]?) → σ'.length = σ.length → Sub h h' → Q σ' H) → semG X tg v σ H Q
def semGs (X : Cx) (ts : List Expr) : TGs := fun vs σ H Q => ∀ pins s us, Inv X pins σ H s → Vals vs us → wpAny (model X.prog X.w) X.A (assignInOrder ((assignEach ts X.env).map (·.2)) us) (fun _ s' => ∃ σ' H', Inv X pins σ' H' s' ∧ Q σ' H') X.xe s
theorem pgs_sem {X : Cx} {ts : List Expr} : PGs X ts (semGs X ts) := ⟨fun pins s σ H vs us Q I r h => h pins s us I r⟩
def JGs (X : Cx) (C : XC) (ws : Nat → Prop) (Γ : List SD) (ts : List Expr) (ss : List SD) (k : List SD → Prop) : Prop :=
  ∀ (F h1 h g H : Hp) (σ : L2.St) (vs : List V) (Q : L2.St → Hp → Prop), EnvR X.K F C.G Γ h σ → ownL X.K F C.G ss h1 vs → Dis h1 h → Fits F (cup h1 h) g H → Sub C.G g →
    (∀ Γ', k Γ' → ∀ (h' : Hp) (σ' : L2.St), EnvR X.K F C.G Γ' h' σ' → Fits F h' g H → (∀ j, ¬ ws j → σ'[j]? = σ[j]?) → σ'.length = σ.length → Sub h h' → Q σ' H) → semGs X ts vs σ H Q
variable {ws : Nat → Prop}
theorem JG.name {i : Nat} {x : Str} {s : SD} {kg : List SD → Prop} (hk : kg (Γ.set i s)) (hN : X.N.Nodup) (hi : X.N[i]? = some x := by rfl) (hx : Loc X.env.scope x := by first | exact Or.inl rfl | exact Or.inr rfl)
    (hf : X.fn x = true ∨ X.env.scope.names.lookup x = some .local := by first | exact .inl rfl | exact .inr rfl | assumption) (hl : i < Γ.length := by exact Nat.le_of_ble_eq_true rfl) (hw : ws i := by first | trivial | decide) : JG X C ws Γ (.Name x pos) s kg :=
  fun F h1 h g H σ v Q he ow d hf' hG hq pins s' u I r => (pg_name hN hi hx hf).run pins s' σ H v u Q I r (hq _ hk _ _ (he.put hl ow d (hf'.G hG)) hf' (fun j hj => List.getElem?_set_ne (fun z => hj (by rw [← z]; exact hw))) (List.length_set ..) (.r d))
theorem JGs.nil {kg : List SD → Prop} (hk : kg Γ) : JGs X C ws Γ [] [] kg := fun F h1 h g H σ vs Q he ow d hf' hG hq pins s' us I r => by
  unfold ownL at ow
  exact pgs_nil.run pins s' σ H vs us Q I r ⟨ow, hq _ hk _ _ he (hf'.un d) (fun _ _ => rfl) rfl .refl⟩
theorem JGs.cons {e : Expr} {es : List Expr} {s : SD} {ss : List SD} {kg : List SD → Prop} (h : JG X C ws Γ e s fun Γ' => JGs X C ws Γ' es ss kg)
    (hs : (assignEach (e :: es) X.env).map (·.2) = assign e X.env :: (assignEach es X.env).map (·.2) := by rfl) : JGs X C ws Γ (e :: es) (s :: ss) kg := fun F h1 h2 g H σ vs Q he ow d hf' hG hq pins s' us I r => by
  unfold ownL at ow
  obtain ⟨v, vr, k1, k2, e1, s1, s2, d12, ow1, ow2⟩ := ow
  refine (pgs_cons pg_sem pgs_sem hs).run pins s' σ H vs us Q I r ⟨v, vr, e1, ?_⟩
  have dk2 : Dis k2 (cup k1 h2) := (Dis.cup d12 (d.mono s2 .refl).symm).symm
  have f1 : Fits F (cup k2 (cup k1 h2)) g H := hf'.sub (Sub.cup (s2.trans .l) (Sub.cup (s1.trans .l) (.r d)))
  refine h F k1 h2 (cup k2 g) H σ v _ he ow1 (d.mono s1 .refl) (f1.out dk2) (hG.trans (.r (f1.hg.mono .l .refl))) fun Γ' hk' h' σ' he' hf2 o1 l1 b1 => ?_
  exact hk' F k2 h' g H σ' vr Q he' ow2 hf2.dis (hf2.inn (f1.hg.mono .l .refl)) hG fun Γ2 hk2 h3 σ3 he3 hf3 o2 l2 b2 => hq Γ2 hk2 h3 σ3 he3 hf3 (fun j hj => (o2 j hj).trans (o1 j hj)) (l2.trans l1) (b1.trans b2)
theorem ownL_len {F G : Hp} : ∀ {ss : List SD} {h : Hp} {vs : List V}, ownL K F G ss h vs → vs.length = ss.length
  | [], _, _, q => by unfold ownL at q; rw [q]; rfl
  | s :: ss, _, _, q => by
    unfold ownL at q
    obtain ⟨v, vr, k2, k3, e, _, _, _, _, q⟩ := q
    rw [e, List.length_cons, List.length_cons, ownL_len q]
/-- .. a locked tuple -/
theorem ownL_vals {F G h : Hp} : ∀ {ds : List PyData} {vs : List V}, ownL K F G (ds.map .val) h vs → DtL K F vs ds
  | [], _, q => by unfold ownL at q; rw [show _ = [] from q]; exact .nil
  | d :: ds, _, q => by
    simp only [List.map_cons] at q
    unfold ownL at q
    obtain ⟨v, vr, k2, k3, e, _, _, _, q1, q2⟩ := q
    unfold own at q1
    rw [e]
    exact .cons q1 (ownL_vals q2)
theorem ownL_of {F G h : Hp} : ∀ {ds : List PyData} {vs : List V}, DtL K F vs ds → ownL K F G (ds.map .val) h vs
  | [], _, q => by cases q; unfold ownL; rfl
  | d :: ds, _, q => by
    cases q with
    | cons q1 q2 =>
      simp only [List.map_cons]
      unfold ownL
      exact ⟨_, _, emp, h, rfl, .emp, .refl, .emp, by unfold own; exact q1, ownL_of q2⟩
theorem JG.tupV {es : List Expr} {n : Nat} {ds : List PyData} {kg : List SD → Prop} (hc : X.calm = true) (h : JGs X C ws Γ es (ds.map .val) kg) (hn : (assignEach es X.env).length = ds.length := by rfl) (hst : (assignEach es X.env).findIdx? (·.1) = none := by rfl) :
    JG X C ws Γ (.Tuple es n pos) (.val (.tuple ds)) kg := fun F h1 h2 g H σ v Q he ow d hf' hG hq pins s' u I r => by
  unfold own at ow
  obtain ⟨p, vs, e1, q1, q2⟩ := ow.tupV
  refine (pg_tup hc pgs_sem hn hst).run pins s' σ H v u Q I r ⟨p, vs, e1, SqT.mono hf'.fH q1, q2.len, ?_⟩
  exact h F emp h2 g H σ vs Q he (ownL_of q2) .emp (hf'.un d).emp hG hq
/-- target = value -/
theorem JS.asg {tg : Expr} (h : JE X C false Γ e M fun o Γ' M' => ∃ s, o = .own s ∧ JG X C (fun _ => True) Γ' tg s fun Γ2 => k Γ2 M') (hs : swapsWithSole [tg] e pos.line X.env = pure false := by rfl) (hw : swappedStores [tg] e X.env = pure none := by rfl)
    (h1 : (assignEach [tg] X.env).map (·.2) = [assign tg X.env] := by rfl) : JS X C Γ (.Assign [tg] e pos) M k en :=
  JS.of (ps_asg pe_sem pg_sem hs hw h1) fun F h0 g H σ D he hf hG hu hx q hn => h F h0 g H σ _ he hf hG hu hx fun o Γ' M' ⟨s, e1, hg⟩ hm v F' k1 k2 H' x ow he' d hf' _ => by
    subst e1
    exact hg F' k1 k2 g H' σ v _ he' ow d hf' hG fun Γ2 hk2 h2 σ2 he2 hf2 _ _ _ => q Γ2 M' hk2 hm F' h2 σ2 H' x he2 hf2
/-- name = value -/
theorem JS.set {i : Nat} {x : Str} {pos' : Pos} (hN : X.N.Nodup) (h : JE X C false Γ e M fun o Γ' M' => ∃ s, o = .own s ∧ i < Γ'.length ∧ k (Γ'.set i s) M') (hi : X.N[i]? = some x := by rfl) (hx : Loc X.env.scope x := by first | exact Or.inl rfl | exact Or.inr rfl)
    (hs : swapsWith e (some (.Name x pos')) pos.line X.env = pure false := by rfl) (hf : X.fn x = true ∨ X.env.scope.names.lookup x = some .local := by first | exact .inl rfl | exact .inr rfl | assumption) :
    JS X C Γ (.Assign [.Name x pos'] e pos) M k en :=
  JS.of (ps_set hN hi hx pe_sem hs hf) fun F h0 g H σ D he hf hG hu hx q hn => h F h0 g H σ _ he hf hG hu hx fun o Γ' M' ⟨s, e1, hl, hk⟩ hm v F' k1 k2 H' x ow he' d hf' _ => by
    subst e1
    exact q _ M' hk hm F' _ _ H' x (he'.put hl ow d (hf'.G hG)) hf'
end
end Tsa

/-! M5: what is walked, for, while, comprehensions. -/
namespace Tsa
open PySem PySem.Spec PyProof.Rows L2

/-- sizes that hold of every heap -/
def Sz (K : PySem.W.Frag) (H : Hp) : Prop := (∀ a xs, SqL K H a xs → xs.length ≤ 16777216) ∧ (∀ a xs, SqT K H a xs → xs.length ≤ 16777216)
theorem sz_of {X : Cx} {pins : List (Addr × Obj)} {σ : L2.St} {H : Hp} {s : Shared} (I : Inv X pins σ H s) : Sz X.K H :=
  ⟨fun a xs h => let ⟨_, _, _, z⟩ := I.list h; z, fun a xs h => let ⟨_, _, _, z⟩ := I.tuple h; z⟩
theorem semE_sz {X : Cx} {e : Expr} {σ : L2.St} {H : Hp} {Q : VK} (h : semE X e σ H fun v H' => Sz X.K H' → Q v H') : semE X e σ H Q := by
  unfold semE at h ⊢
  exact fun pins s I => wpAny_mono (h pins s I) (fun u s' ⟨v, H', I', r, q⟩ => ⟨v, H', I', r, q (sz_of I')⟩) fun _ _ z => z

/-- a loop's step: on, broken off, or out -/
inductive Lp (τ ω : Type) where
  | nx (t : τ)
  | bk (t : τ)
  | rt (w : ω)
def lpGo {τ ω : Type} (go : τ → Res (τ ⊕ ω)) : Lp τ ω → Res (τ ⊕ ω)
  | .nx t => go t
  | .bk t => .ok (.inl t)
  | .rt w => .ok (.inr w)
def forL {α τ ω : Type} (f : α → τ → Res (Lp τ ω)) : List α → τ → Res (τ ⊕ ω)
  | [], t => .ok (.inl t)
  | x :: xs, t => (f x t).bind (lpGo (forL f xs))
def forS {α τ : Type} (f : α → τ → Res τ) : List α → τ → Res τ
  | [], t => .ok t
  | x :: xs, t => (f x t).bind fun t' => forS f xs t'
def whileL {τ ω : Type} (c : τ → Res Bool) (f : τ → Res (Lp τ ω)) : Nat → τ → Res (τ ⊕ ω)
  | 0, _ => .un
  | n + 1, t => (c t).bind fun b => cond b ((f t).bind (lpGo (whileL c f n))) (.ok (.inl t))
def whileS {τ : Type} (c : τ → Res Bool) (f : τ → Res τ) : Nat → τ → Res τ
  | 0, _ => .un
  | n + 1, t => (c t).bind fun b => cond b ((f t).bind fun t' => whileS c f n t') (.ok t)

/-- what a loop draws -/
structure SrcGood (K : PySem.W.Frag) (G F g : Hp) (J : It) (ys : List SD) : Prop where
  size : ys.length ≤ 16777216
  stop : ∀ i F2 h H, Sub F F2 → Fits F2 h g H → ys.length ≤ i → J.stop i H
  go : ∀ i s F2 h H, Sub F F2 → Fits F2 h g H → ys[i]? = some s → J.go i H ∧ ∀ x H', J.yld i H x H' → ∃ F3, Sub F2 F3 ∧ own K F3 G s emp x ∧ Fits F3 h g H'
def semI (X : Cx) (tg iter : Expr) : TI := fun σ H R => ∀ pins s, Inv X pins σ H s → wpAny (model X.prog X.w) X.A (eval iter X.env) (fun v s1 => wpAny (model X.prog X.w) X.A (pyIter v) (PIE X pins σ tg R) X.xe s1) X.xe s
theorem pi_sem {X : Cx} {tg iter : Expr} : PI X tg iter (semI X tg iter) := ⟨fun pins s σ H R I h => h pins s I⟩
/-- THE JUDGEMENT of what is walked -/
def JSrc (X : Cx) (C : XC) (pu : Bool) {ω : Type} (Γ : List SD) (tg iter : Expr) (M : Res ω) (kS : List SD → List SD → Res ω → Prop) : Prop :=
  ∀ (F h g H : Hp) (σ : L2.St) (R : It → Hp → Prop), EnvR X.K F C.G Γ h σ → Fits F h g H → Sub C.G g → M ≠ .un → XOk X.K C F g M →
    (∀ ys Γ' M', kS ys Γ' M' → M' = M → ∀ (F' hl h2 H' : Hp) (J : It), Sub F F' → EnvR X.K F' C.G Γ' h2 σ → Fits F' h2 (cup hl g) H' → Dis hl g → SrcGood X.K C.G F' (cup hl g) J ys → (pu = true → Sub h h2 ∧ Γ' = Γ) → R J H') → semI X tg iter σ H R
section
variable {K : PySem.W.Frag} {X : Cx} {C : XC} {pu : Bool} {ω β : Type} {Γ : List SD} {e a b c tg : Expr} {st : Stmt} {rest : List Stmt} {M : Res ω} {pos : Pos} {t u : TS} {k : List SD → Res ω → Prop} {en : ω → EndK} {kS : List SD → List SD → Res ω → Prop}
theorem JSrc.of {iter : Expr} {wi : TI} (p : PI X tg iter wi) (h : ∀ (F h g H : Hp) (σ : L2.St) (R : It → Hp → Prop), EnvR X.K F C.G Γ h σ → Fits F h g H → Sub C.G g → M ≠ .un → XOk X.K C F g M →
    (∀ ys Γ' M', kS ys Γ' M' → M' = M → ∀ (F' hl h2 H' : Hp) (J : It), Sub F F' → EnvR X.K F' C.G Γ' h2 σ → Fits F' h2 (cup hl g) H' → Dis hl g → SrcGood X.K C.G F' (cup hl g) J ys → (pu = true → Sub h h2 ∧ Γ' = Γ) → R J H') → wi σ H R) : JSrc X C pu Γ tg iter M kS :=
  fun F h0 g H σ R he hf hG hu hx q pins s I => p.run pins s σ H R I (h F h0 g H σ R he hf hG hu hx q)
def isScal : PyData → Bool
  | .none => true
  | .bool _ => true
  | .int _ => true
  | .str _ => true
  | _ => false
theorem Dt.scal {S S' : Hp} {v : V} {d : PyData} (h : Dt K S v d) (c : isScal d = true) : Dt K S' v d := by
  cases h with
  | non => exact .non
  | bl b => exact .bl b
  | int i => exact .int i
  | str x => exact .str x
  | _ => cases c
/-- a sequence's items -/
inductive SeqOf : SD → Bool → List SD → Prop
  | lst {ds : List PyData} : SeqOf (.val (.list ds)) false (ds.map .val)
  | tup {ds : List PyData} : SeqOf (.val (.tuple ds)) true (ds.map .val)
  | rlst {ds : List PyData} : SeqOf (.rd (.list ds)) false (ds.map .rd)
  | rtup {ds : List PyData} : SeqOf (.rd (.tuple ds)) true (ds.map .rd)
  | mine {ds : List PyData} : SeqOf (.lst (ds.map .val)) false (ds.map .val)
  | mineR {ds : List PyData} : SeqOf (.lst (ds.map .rd)) false (ds.map .rd)
  | rscL {ds : List PyData} (c : ∀ d ∈ ds, isScal d = true) : SeqOf (.rd (.list ds)) false (ds.map .val)
  | rscT {ds : List PyData} (c : ∀ d ∈ ds, isScal d = true) : SeqOf (.rd (.tuple ds)) true (ds.map .val)
theorem ownL_rds {K : PySem.W.Frag} {F G h : Hp} : ∀ {ds : List PyData} {vs : List V}, ownL K F G (ds.map .rd) h vs → DtL K (cup F G) vs ds
  | [], _, q => by unfold ownL at q; rw [show _ = [] from q]; exact .nil
  | d :: ds, _, q => by
    simp only [List.map_cons] at q
    unfold ownL at q
    obtain ⟨v, vr, k2, k3, e, _, _, _, q1, q2⟩ := q
    unfold own at q1
    rw [e]
    exact .cons q1 (ownL_rds q2)
/-- where it lies -/
theorem SeqOf.at {s : SD} {tb : Bool} {ys : List SD} (q : SeqOf s tb ys) {F G h g H : Hp} {v : V} (ow : own K F G s h v) (hf : Fits F h g H) (hG : Sub G g) :
    ∃ p vs, v = .ref p ∧ vs.length = ys.length ∧ (∀ H' h' F', Sub F F' → Fits F' h' (cup h g) H' → if tb then SqT K H' p vs else SqL K H' p vs) ∧ ∀ (i : Nat) (s : SD), ys[i]? = some s → ∃ x, vs[i]? = some x ∧ own K F G s emp x := by
  cases q with
  | @lst ds =>
    unfold own at ow
    obtain ⟨p, vs, e, q1, q2⟩ := ow.lstV
    refine ⟨p, vs, e, by rw [q2.len, List.length_map], fun H' h' F' x f => SqL.mono (x.trans f.fH) q1, fun i s hs => ?_⟩
    rw [List.getElem?_map] at hs
    cases hd : ds[i]? with
    | none => rw [hd] at hs; cases hs
    | some d =>
      rw [hd] at hs; cases hs
      obtain ⟨x, e1, e2⟩ := q2.get hd
      exact ⟨x, e1, by unfold own; exact e2⟩
  | @tup ds =>
    unfold own at ow
    obtain ⟨p, vs, e, q1, q2⟩ := ow.tupV
    refine ⟨p, vs, e, by rw [q2.len, List.length_map], fun H' h' F' x f => SqT.mono (x.trans f.fH) q1, fun i s hs => ?_⟩
    rw [List.getElem?_map] at hs
    cases hd : ds[i]? with
    | none => rw [hd] at hs; cases hs
    | some d =>
      rw [hd] at hs; cases hs
      obtain ⟨x, e1, e2⟩ := q2.get hd
      exact ⟨x, e1, by unfold own; exact e2⟩
  | @rlst ds =>
    unfold own at ow
    obtain ⟨p, vs, e, q1, q2⟩ := ow.lstV
    refine ⟨p, vs, e, by rw [q2.len, List.length_map], fun H' h' F' x f => SqL.mono (Sub.cup (x.trans f.fH) (hG.trans ((Sub.r hf.hg).trans f.gH))) q1, fun i s hs => ?_⟩
    rw [List.getElem?_map] at hs
    cases hd : ds[i]? with
    | none => rw [hd] at hs; cases hs
    | some d =>
      rw [hd] at hs; cases hs
      obtain ⟨x, e1, e2⟩ := q2.get hd
      exact ⟨x, e1, by unfold own; exact e2⟩
  | @rtup ds =>
    unfold own at ow
    obtain ⟨p, vs, e, q1, q2⟩ := ow.tupV
    refine ⟨p, vs, e, by rw [q2.len, List.length_map], fun H' h' F' x f => SqT.mono (Sub.cup (x.trans f.fH) (hG.trans ((Sub.r hf.hg).trans f.gH))) q1, fun i s hs => ?_⟩
    rw [List.getElem?_map] at hs
    cases hd : ds[i]? with
    | none => rw [hd] at hs; cases hs
    | some d =>
      rw [hd] at hs; cases hs
      obtain ⟨x, e1, e2⟩ := q2.get hd
      exact ⟨x, e1, by unfold own; exact e2⟩
  | @rscL ds c =>
    unfold own at ow
    obtain ⟨p, vs, e, q1, q2⟩ := ow.lstV
    refine ⟨p, vs, e, by rw [q2.len, List.length_map], fun H' h' F' x f => SqL.mono (Sub.cup (x.trans f.fH) (hG.trans ((Sub.r hf.hg).trans f.gH))) q1, fun i s hs => ?_⟩
    rw [List.getElem?_map] at hs
    cases hd : ds[i]? with
    | none => rw [hd] at hs; cases hs
    | some d =>
      rw [hd] at hs; cases hs
      obtain ⟨x, e1, e2⟩ := q2.get hd
      exact ⟨x, e1, by unfold own; exact e2.scal (c d (List.mem_of_getElem? hd))⟩
  | @rscT ds c =>
    unfold own at ow
    obtain ⟨p, vs, e, q1, q2⟩ := ow.tupV
    refine ⟨p, vs, e, by rw [q2.len, List.length_map], fun H' h' F' x f => SqT.mono (Sub.cup (x.trans f.fH) (hG.trans ((Sub.r hf.hg).trans f.gH))) q1, fun i s hs => ?_⟩
    rw [List.getElem?_map] at hs
    cases hd : ds[i]? with
    | none => rw [hd] at hs; cases hs
    | some d =>
      rw [hd] at hs; cases hs
      obtain ⟨x, e1, e2⟩ := q2.get hd
      exact ⟨x, e1, by unfold own; exact e2.scal (c d (List.mem_of_getElem? hd))⟩
  | @mine ds =>
    unfold own at ow
    obtain ⟨p, vs, h', e, q0, s0, n0, ow⟩ := ow
    have q2 := ownL_vals ow
    refine ⟨p, vs, e, by rw [q2.len, List.length_map], fun H' h' F' x f => SqL.of (f.gH _ _ (cup_some q0)), fun i s hs => ?_⟩
    rw [List.getElem?_map] at hs
    cases hd : ds[i]? with
    | none => rw [hd] at hs; cases hs
    | some d =>
      rw [hd] at hs; cases hs
      obtain ⟨x, e1, e2⟩ := q2.get hd
      exact ⟨x, e1, by unfold own; exact e2⟩
  | @mineR ds =>
    unfold own at ow
    obtain ⟨p, vs, h', e, q0, s0, n0, ow⟩ := ow
    have q2 := ownL_rds ow
    refine ⟨p, vs, e, by rw [q2.len, List.length_map], fun H' h' F' x f => SqL.of (f.gH _ _ (cup_some q0)), fun i s hs => ?_⟩
    rw [List.getElem?_map] at hs
    cases hd : ds[i]? with
    | none => rw [hd] at hs; cases hs
    | some d =>
      rw [hd] at hs; cases hs
      obtain ⟨x, e1, e2⟩ := q2.get hd
      exact ⟨x, e1, by unfold own; exact e2⟩
theorem Fits.lent {F h1 h2 g H : Hp} (f : Fits F (cup h1 h2) g H) (d : Dis h1 h2) : Fits F h2 (cup h1 g) H ∧ Dis h1 g := ⟨f.out d, f.hg.mono .l .refl⟩
/-- a list walked; a tuple walked -/
theorem JSrc.lst (h : JE X C pu Γ e M fun o Γ' M' => ∃ s ys, o = .own s ∧ SeqOf s false ys ∧ kS ys Γ' M') : JSrc X C pu Γ tg e M kS :=
  JSrc.of (pi_list pe_sem) fun F h0 g H σ R he hf hG hu hx q => semE_sz (h F h0 g H σ _ he hf hG hu hx fun o Γ' M' ⟨s, ys, e1, sq, hk⟩ hm v F' h1 h2 H' x ow he' d hf' hp sz => by
    subst e1
    obtain ⟨f2, dg⟩ := hf'.lent d
    obtain ⟨p, vs, e2, hl, hs, hi⟩ := sq.at ow (hf'.sub .l) hG
    have now : SqL X.K H' p vs := hs H' h2 F' .refl f2
    refine ⟨p, e2, ⟨vs, now⟩, q ys Γ' M' hk hm F' h1 h2 H' _ x he' f2 dg ⟨?_, ?_, ?_⟩ hp⟩
    · rw [← hl]; exact sz.1 _ _ now
    · exact fun i F2 h3 H3 x2 f3 hle => ⟨vs, hs H3 h3 F2 x2 f3, by rw [hl]; exact hle⟩
    · intro i s' F2 h3 H3 x2 f3 hs3
      obtain ⟨y, e3, ow3⟩ := hi i s' hs3
      have sq3 : SqL X.K H3 p vs := hs H3 h3 F2 x2 f3
      refine ⟨⟨vs, y, sq3, e3⟩, fun z H4 ⟨e4, hz⟩ => ?_⟩
      subst e4
      have e5 := hz vs sq3
      rw [e3] at e5
      cases e5
      exact ⟨F2, .refl, own_mono x2 (cup_mono_l x2 (f3.fg.mono .refl (hG.trans (.r dg)))) _ .refl ow3, f3⟩)
theorem JSrc.tup (h : JE X C pu Γ e M fun o Γ' M' => ∃ s ys, o = .own s ∧ SeqOf s true ys ∧ kS ys Γ' M') : JSrc X C pu Γ tg e M kS :=
  JSrc.of (pi_tup pe_sem) fun F h0 g H σ R he hf hG hu hx q => semE_sz (h F h0 g H σ _ he hf hG hu hx fun o Γ' M' ⟨s, ys, e1, sq, hk⟩ hm v F' h1 h2 H' x ow he' d hf' hp sz => by
    subst e1
    obtain ⟨f2, dg⟩ := hf'.lent d
    obtain ⟨p, vs, e2, hl, hs, hi⟩ := sq.at ow (hf'.sub .l) hG
    have now : SqT X.K H' p vs := hs H' h2 F' .refl f2
    refine ⟨p, e2, ⟨vs, now⟩, q ys Γ' M' hk hm F' h1 h2 H' _ x he' f2 dg ⟨?_, ?_, ?_⟩ hp⟩
    · rw [← hl]; exact sz.2 _ _ now
    · exact fun i F2 h3 H3 x2 f3 hle => ⟨vs, hs H3 h3 F2 x2 f3, by rw [hl]; exact hle⟩
    · intro i s' F2 h3 H3 x2 f3 hs3
      obtain ⟨y, e3, ow3⟩ := hi i s' hs3
      have sq3 : SqT X.K H3 p vs := hs H3 h3 F2 x2 f3
      refine ⟨⟨vs, y, sq3, e3⟩, fun z H4 ⟨e4, hz⟩ => ?_⟩
      subst e4
      have e5 := hz vs sq3
      rw [e3] at e5
      cases e5
      exact ⟨F2, .refl, own_mono x2 (cup_mono_l x2 (f3.fg.mono .refl (hG.trans (.r dg)))) _ .refl ow3, f3⟩)
/-- the numbers from lo to below hi -/
def rangeL (lo hi : Int) : List Int := (List.range (hi - lo).toNat).map fun (i : Nat) => lo + (i : Int)
def rngOk (lo hi : Int) : Prop := (-(2 ^ 62) ≤ lo ∧ lo < 2 ^ 62) ∧ (-(2 ^ 62) ≤ hi ∧ hi < 2 ^ 62) ∧ hi - lo ≤ 16777216
instance (i j : Int) : Decidable (rngOk i j) := inferInstanceAs (Decidable (_ ∧ _ ∧ _))
theorem rng_good {F g : Hp} {lo hi : Int} (hr : rngOk lo hi) : SrcGood K C.G F g (Itr lo (hi - lo).toNat) ((rangeL lo hi).map fun i => .val (.int i)) := by
  have hl : ((rangeL lo hi).map fun (i : Int) => SD.val (.int i)).length = (hi - lo).toNat := by unfold rangeL; simp
  refine ⟨by rw [hl]; have := hr.2.2; omega, fun i F2 h H x f hle => by rw [hl] at hle; exact hle, fun i s F2 h H x f hs => ?_⟩
  have hi' : i < (hi - lo).toNat := by
    rw [← hl]
    exact (List.getElem?_eq_some_iff.mp hs).1
  refine ⟨hi', fun z H' ⟨e1, e2⟩ => ⟨F2, .refl, ?_, by rw [e1]; exact f⟩⟩
  have e3 : s = .val (.int (lo + (i : Int))) := by
    unfold rangeL at hs
    rw [List.map_map, List.getElem?_map, List.getElem?_range hi'] at hs
    cases hs; rfl
  rw [e2, e3]
  unfold own
  exact .int _
theorem JSrc.rng1 {p : Pos} (hm : X.mg "range" = none) (h : JI X C pu Γ a M fun j Γ1 M1 => ∃ M2, (M1 ≠ .un → M1 = M2 ∧ rngOk 0 j) ∧ kS ((rangeL 0 j).map fun i => .val (.int i)) Γ1 M2) (hg : Gl X "range" := by rfl)
    (hs : starEach [a] X.env = [(false, eval a X.env)] := by rfl) : JSrc X C pu Γ tg (.Call (.Name "range" p) [a] [] pos) M kS :=
  JSrc.of (pi_range1 hg hm (pa_cons pe_sem pa_nil (by rw [hs]; rfl)) hs) fun F h0 g H σ R he hf hG hu hx q => h F h0 g H σ _ he hf hG hu hx fun o Γ' M' ⟨j, e1, M2, hM, hk⟩ hm v F' h1 h2 H' x ow he' d hf' hp => by
    subst e1 hm
    obtain ⟨e2, hr⟩ := hM hu
    subst e2
    unfold OpdOk own at ow
    obtain rfl := ow.intV
    obtain ⟨f2, dg⟩ := hf'.lent d
    refine ⟨j, rfl, hr.2.1.1, hr.2.1.2, ?_⟩
    have z := rng_good (K := X.K) (C := C) (F := F') (g := cup h1 g) hr
    rw [Int.sub_zero] at z
    exact q _ Γ' M' hk rfl F' h1 h2 H' _ x he' f2 dg z hp
theorem JSrc.rng2 {p : Pos} (hm : X.mg "range" = none) (h : JI X C pu Γ a M fun i Γ1 M1 => JI X C pu Γ1 b M1 fun j Γ1 M1 => ∃ M2, (M1 ≠ .un → M1 = M2 ∧ rngOk i j) ∧ kS ((rangeL i j).map fun i => .val (.int i)) Γ1 M2) (hg : Gl X "range" := by rfl)
    (hs : starEach [a, b] X.env = [(false, eval a X.env), (false, eval b X.env)] := by rfl) (hs2 : starEach [b] X.env = [(false, eval b X.env)] := by rfl) : JSrc X C pu Γ tg (.Call (.Name "range" p) [a, b] [] pos) M kS :=
  JSrc.of (pi_range2 hg hm (pa_cons pe_sem (pa_cons pe_sem pa_nil (by rw [hs2]; rfl)) (by rw [hs, hs2])) hs hs2) fun F h0 g H σ R he hf hG hu hx q => h F h0 g H σ _ he hf hG hu hx fun o Γ1 M1 ⟨i, e1, h2⟩ hm v F' h1 k2 H' x ow he' d hf' hp => by
    subst e1 hm
    unfold OpdOk own at ow
    obtain rfl := ow.intV
    have f0 := hf'.un d
    refine h2 F' k2 g H' σ _ he' f0 hG hu (hx.mono x) fun o Γ2 M2 ⟨j, e2, M3, hM, hk⟩ hm2 v2 F2 h3 h4 H2 x2 ow2 he2 d2 hf2 hp2 => ?_
    subst e2 hm2
    obtain ⟨e3, hr⟩ := hM hu
    subst e3
    unfold OpdOk own at ow2
    obtain rfl := ow2.intV
    obtain ⟨f2, dg⟩ := hf2.lent d2
    exact ⟨i, j, rfl, ⟨hr.1.1, hr.1.2, hr.2.1.1, hr.2.1.2⟩, q _ Γ2 M2 hk rfl F2 h3 h4 H2 _ (x.trans x2) he2 f2 dg (rng_good hr) fun z => ⟨(hp z).1.trans (hp2 z).1, (hp2 z).2.trans (hp z).2⟩⟩

/-! ### for -/
def EndK.rtOnly : EndK → EndK
  | .rt s Γ => .rt s Γ
  | _ => .no
def lpE {τ ω : Type} (Γi : τ → List SD) (en : ω → EndK) : Lp τ ω → EndK
  | .nx t => .ct (Γi t)
  | .bk t => .bk (Γi t)
  | .rt w => (en w).rtOnly
theorem forL_nx {α τ ω : Type} {f : α → τ → Res (Lp τ ω)} {x : α} {xs : List α} {t : τ} : forL f (x :: xs) t = (f x t).bind (lpGo (forL f xs)) := rfl
theorem JS.for_ {body : List Stmt} {iter : Expr} (hp : PassesOwn (model X.prog X.w) X.A X.env X.xe) (hc : X.calm = true)
    (h : JSrc X C false Γ tg iter M fun ys Γ1 M1 => ∃ (α τ : Type) (xs : List α) (sd : α → SD) (f : α → τ → Res (Lp τ ω)) (t0 : τ) (Γi : τ → List SD) (kM : τ → Res ω), ys = xs.map sd ∧ M1 = (forL f xs t0).bind (orW kM) ∧ Le Γ1 (Γi t0) ∧
      (∀ x t, JG X C (fun _ => True) (Γi t) tg (sd x) fun Γ2 => JL X C Γ2 body (f x t) (fun Γ' M' => ∃ t', M' = .ok (.nx t') ∧ Le Γ' (Γi t')) (lpE Γi en)) ∧ ∀ t, k (Γi t) (kM t))
    (hs : ∀ x, foldedSetIterable iter X.env x = pure x := by intro _; rfl) : JS X C Γ (.For tg iter body [] pos) M k en := by
  refine JS.of (ps_for hp hc pi_sem pg_sem pss_sem hs) fun F h0 g H σ D he hf hG hu hx q hn => h F h0 g H σ _ he hf hG hu hx fun ys Γ1 M1 ⟨α, τ, xs, sd, f, t0, Γi, kM, e1, e2, hl, hb, hk⟩ hm F' hl' h2 H' J x he' hf' dg sg _ => ?_
  subst e1 hm e2
  have hG' : Sub C.G (cup hl' g) := hG.trans (.r dg)
  refine ⟨fun i m σ2 H2 => m = xs.length - i ∧ i ≤ xs.length ∧ ∃ t F2 h3, Sub F' F2 ∧ EnvR X.K F2 C.G (Γi t) h3 σ2 ∧ Fits F2 h3 (cup hl' g) H2 ∧ (forL f (xs.drop i) t).bind (orW kM) = (forL f xs t0).bind (orW kM), ⟨_, rfl, Nat.zero_le _, t0, F', h2, .refl, hl.ok he', hf', rfl⟩, ?_⟩
  rintro i m σ2 H2 ⟨rfl, hi, t, F2, h3, x2, he2, hf2, hM⟩
  by_cases hlt : i < xs.length
  · have hget : (xs.map sd)[i]? = some (sd xs[i]) := by simp [hlt]
    obtain ⟨hgo, hyld⟩ := sg.go i _ F2 h3 H2 x2 hf2 hget
    have hdrop : xs.drop i = xs[i] :: xs.drop (i + 1) := List.drop_eq_getElem_cons hlt
    rw [hdrop, forL_nx] at hM
    have huf : f xs[i] t ≠ .un := fun z => hu (by rw [← hM, z]; rfl)
    refine .inr ⟨hgo, fun σ' H'' => i + 1 ≤ xs.length ∧ ∃ t F2 h3, Sub F' F2 ∧ EnvR X.K F2 C.G (Γi t) h3 σ' ∧ Fits F2 h3 (cup hl' g) H'' ∧ (forL f (xs.drop (i + 1)) t).bind (orW kM) = (forL f xs t0).bind (orW kM), fun σ' H'' ⟨z1, z2⟩ => ⟨xs.length - (i + 1), by omega, rfl, z1, z2⟩, fun v H3 hy => ?_⟩
    obtain ⟨F3, x3, ow3, hf3⟩ := hyld v H3 hy
    refine hb xs[i] t F3 emp h3 (cup hl' g) H3 σ2 v _ (he2.mono x3 (hf3.fg.mono .refl hG') .refl) ow3 .emp hf3.emp hG' fun Γ2 hj h4 σ4 he4 hf4 _ _ _ => ?_
    have hxf : XOk X.K C F3 (cup hl' g) (f xs[i] t) := fun e hee c od F4 hx' h' H' σ' s ex en' dd ff => by
      refine hx e ?_ c od F4 hx' h' H' σ' (x.trans (x2.trans (x3.trans s))) ex en' dd ((ff.inn dg).sub (.r ff.dis))
      rw [← hM, hee]; rfl
    refine hj F3 h4 (cup hl' g) H3 σ4 _ he4 hf4 hG' huf hxf (fun Γ' M' ⟨t', e3, hl3⟩ hm3 F4 h5 σ5 H5 x5 he5 hf5 => ?_) fun w hw => ?_
    · refine ⟨hlt, t', F4, h5, x2.trans (x3.trans x5), hl3.ok he5, hf5, ?_⟩
      rw [← hM, ← hm3, e3]; rfl
    · cases w with
      | nx t' =>
        refine fun F4 h5 σ5 H5 x5 he5 hf5 => ⟨hlt, t', F4, h5, x2.trans (x3.trans x5), he5, hf5, ?_⟩
        rw [← hM, hw]; rfl
      | bk t' =>
        refine fun F4 h5 σ5 H5 x5 he5 hf5 => q (Γi t') (kM t') (hk t') ?_ F4 h5 σ5 H5 (x.trans (x2.trans (x3.trans x5))) he5 ((hf5.inn dg).sub (.r hf5.dis))
        rw [← hM, hw]; rfl
      | rt w =>
        have hw' : (forL f xs t0).bind (orW kM) = .ok w := by rw [← hM, hw]; rfl
        have z := hn w hw'
        show EndOk X.K C F3 (cup hl' g) _ (en w).rtOnly
        cases hen : en w with
        | no => trivial
        | rt s Γr =>
          rw [hen] at z
          refine fun v F4 k1 k2 σ5 H5 x5 ow5 he5 d5 hf5 => z v F4 k1 k2 σ5 H5 (x.trans (x2.trans (x3.trans x5))) ow5 he5 d5 ((hf5.inn dg).sub (.r hf5.dis))
        | bk Γr => trivial
        | ct Γr => trivial
  · have e : i = xs.length := by omega
    subst e
    rw [List.drop_length] at hM
    refine .inl ⟨sg.stop _ F2 h3 H2 x2 hf2 (by simp), ?_⟩
    exact q (Γi t) (kM t) (hk t) hM F2 h3 σ2 H2 (x.trans x2) he2 ((hf2.inn dg).sub (.r hf2.dis))
end
end Tsa

/-! M6: simple loops, while, comprehensions. -/
namespace Tsa
open PySem PySem.Spec PyProof.Rows L2
section
variable {K : PySem.W.Frag} {X : Cx} {C : XC} {pu : Bool} {ω β : Type} {Γ : List SD} {e a b c tg iter elt : Expr} {st : Stmt} {rest body : List Stmt} {M : Res ω} {pos : Pos} {t u : TS} {k : List SD → Res ω → Prop} {en : ω → EndK} {kS : List SD → List SD → Res ω → Prop}
theorem forL_simple {α τ : Type} {f : α → τ → Res τ} : ∀ (xs : List α) (t : τ), forL (ω := ω) (fun x t => (f x t).bind fun t' => .ok (.nx t')) xs t = (forS f xs t).bind fun t' => .ok (.inl t')
  | [], t => rfl
  | x :: xs, t => by
    show ((f x t).bind fun t' => .ok (Lp.nx t')).bind _ = ((f x t).bind fun t' => forS f xs t').bind _
    cases h : f x t with
    | ok t' => exact forL_simple xs t'
    | ex e => rfl
    | un => rfl
theorem JST.stepS {τ : Type} {m : Res τ} {Γi : τ → List SD} (h : JST K C Γ t m (fun Γ' M' => ∃ x, M' = .ok x ∧ Le Γ' (Γi x)) fun x => .ct (Γi x)) :
    JST K C Γ t (m.bind fun x => .ok (Lp.nx x)) (fun Γ' M' => ∃ t', M' = .ok (.nx t') ∧ Le Γ' (Γi t')) (lpE Γi en) := fun F h0 g H σ D he hf hG hu hx q hn =>
  h F h0 g H σ D he hf hG (fun z => hu (by rw [z]; rfl)) hx.bind (fun Γ' M' ⟨x, e1, hl⟩ hm F' h' σ' H' y he' hf' => q Γ' (.ok (.nx x)) ⟨x, rfl, hl⟩ (by rw [← hm, e1]; rfl) F' h' σ' H' y he' hf') fun x hxm => hn (.nx x) (by rw [hxm]; rfl)
theorem JS.forS (hp : PassesOwn (model X.prog X.w) X.A X.env X.xe) (hc : X.calm = true)
    (h : JSrc X C false Γ tg iter M fun ys Γ1 M1 => ∃ (α τ : Type) (xs : List α) (sd : α → SD) (f : α → τ → Res τ) (t0 : τ) (Γi : τ → List SD) (kM : τ → Res ω), ys = xs.map sd ∧ M1 = (forS f xs t0).bind kM ∧ Le Γ1 (Γi t0) ∧
      (∀ x t, JG X C (fun _ => True) (Γi t) tg (sd x) fun Γ2 => JL X C Γ2 body (f x t) (fun Γ' M' => ∃ t', M' = .ok t' ∧ Le Γ' (Γi t')) fun t' => .ct (Γi t')) ∧ ∀ t, k (Γi t) (kM t))
    (hs : ∀ x, foldedSetIterable iter X.env x = pure x := by intro _; rfl) : JS X C Γ (.For tg iter body [] pos) M k en :=
  JS.for_ hp hc (fun F h0 g H σ R he hf hG hu hx q => h F h0 g H σ R he hf hG hu hx fun ys Γ' M' ⟨α, τ, xs, sd, f, t0, Γi, kM, e1, e2, hl, hb, hk⟩ => q ys Γ' M' ⟨α, τ, xs, sd, fun x t => (f x t).bind fun t' => .ok (.nx t'), t0, Γi, kM, e1, by
    rw [e2, forL_simple]
    cases Tsa.forS f xs t0 <;> rfl, hl, fun x t F h1 h g H σ v Q he ow d hf hG hq => hb x t F h1 h g H σ v Q he ow d hf hG fun Γ2 hj => hq Γ2 hj.stepS, hk⟩) hs
/-! ### the slots of a comprehension's own names -/
def wipeG (Γ : List SD) : List Nat → List SD
  | [] => Γ
  | v :: vs => (wipeG Γ vs).set v .hole
/-- what needs no heaplet -/
def Pers (K : PySem.W.Frag) (F G : Hp) (Γ : List SD) (σ : L2.St) (i : Nat) : Prop := i < Γ.length ∧ (Γ[i]? = some .hole ∨ ∃ d v, Γ[i]? = some (.val d) ∧ σ[i]? = some (some v) ∧ Dt K F v d)
theorem EnvR.wipe {F G h : Hp} {σ : L2.St} : ∀ {vs : List Nat}, EnvR K F G Γ h σ → Dis F G → (∀ i ∈ vs, i < Γ.length) → EnvR K F G (wipeG Γ vs) h (L2.wipe σ vs)
  | [], q, _, _ => q
  | v :: vs, q, d, hv => by
    have ih := EnvR.wipe (vs := vs) q d fun i hi => hv i (List.mem_cons_of_mem _ hi)
    have hl : (wipeG Γ vs).length = Γ.length := by
      clear ih hv
      induction vs with
      | nil => rfl
      | cons w vs ih => show ((wipeG Γ vs).set w .hole).length = _; rw [List.length_set, ih]
    obtain ⟨o, k1, k2, e, s1, s2, d12, w, back⟩ := ih.at (i := v) (s := (wipeG Γ vs)[v]'(by rw [hl]; exact hv v (List.mem_cons_self ..))) (by simp)
    exact back F .hole none k1 h .refl d trivial d12 s1 s2
theorem wipeG_len : ∀ {vs : List Nat}, (wipeG Γ vs).length = Γ.length
  | [] => rfl
  | w :: vs => by show ((wipeG Γ vs).set w .hole).length = _; rw [List.length_set, wipeG_len]
theorem wipeG_get {v : Nat} : ∀ {vs : List Nat}, (wipeG Γ vs)[v]? = if v ∈ vs ∧ v < Γ.length then some .hole else Γ[v]?
  | [] => by simp [wipeG]
  | w :: vs => by
    show ((wipeG Γ vs).set w .hole)[v]? = _
    rw [List.getElem?_set, wipeG_len, wipeG_get (vs := vs)]
    by_cases e : w = v
    · subst e
      by_cases hl : w < Γ.length
      · simp [hl]
      · simp [hl]
    · have e' : ¬ v = w := fun z => e z.symm
      simp [e, e']
theorem wipeS_get {σ : L2.St} {v : Nat} : ∀ {vs : List Nat}, (L2.wipe σ vs)[v]? = if v ∈ vs ∧ v < σ.length then some none else σ[v]?
  | [] => by simp [L2.wipe]
  | w :: vs => by
    show ((L2.wipe σ vs).set w none)[v]? = _
    rw [List.getElem?_set, L2.wipe_length, wipeS_get (vs := vs)]
    by_cases e : w = v
    · subst e
      by_cases hl : w < σ.length
      · simp [hl]
      · simp [hl]
    · have e' : ¬ v = w := fun z => e z.symm
      simp [e, e']
theorem set_back {α : Type} {l : List α} {v : Nat} {x y : α} (h : l[v]? = some x) : (l.set v y).set v x = l := by
  apply List.ext_getElem?
  intro i
  rw [List.getElem?_set, List.getElem?_set, List.length_set]
  by_cases e : v = i
  · subst e
    have hl := (List.getElem?_eq_some_iff.mp h).1
    rw [← h]; simp [hl]
  · simp [e]
theorem EnvR.unwipe {F G h : Hp} {σ : L2.St} (fg : Dis F G) : ∀ {vs : List Nat}, (∀ i ∈ vs, Pers K F G Γ σ i) → σ.length = Γ.length → EnvR K F G (wipeG Γ vs) h (L2.wipe σ vs) → EnvR K F G Γ h σ
  | [], _, _, q => q
  | v :: vs, hp, hl, q => by
    refine EnvR.unwipe (vs := vs) fg (fun i hi => hp i (List.mem_cons_of_mem _ hi)) hl ?_
    have q' : EnvR K F G ((wipeG Γ vs).set v .hole) h ((L2.wipe σ vs).set v none) := q
    have hv := (hp v (List.mem_cons_self ..)).1
    have hgl : v < (wipeG Γ vs).length := by rw [wipeG_len]; exact hv
    obtain ⟨o, k1, k2, e, s1, s2, d12, w, back⟩ := q'.at (i := v) (s := .hole) (by rw [List.getElem?_set_self hgl])
    obtain ⟨s, hs⟩ : ∃ s, (wipeG Γ vs)[v]? = some s := ⟨_, List.getElem?_eq_getElem hgl⟩
    have hsl : v < (L2.wipe σ vs).length := by rw [L2.wipe_length, hl]; exact hv
    obtain ⟨oo, hoo⟩ : ∃ o, (L2.wipe σ vs)[v]? = some o := ⟨_, List.getElem?_eq_getElem hsl⟩
    have z := back F s oo emp h .refl fg ?_ .emp .emp s2
    · rw [set_back hs, set_back hoo] at z
      exact z
    · rw [wipeG_get] at hs
      rw [wipeS_get] at hoo
      by_cases hm : v ∈ vs
      · rw [if_pos ⟨hm, hv⟩] at hs
        cases hs
        trivial
      · rw [if_neg (fun z => hm z.1)] at hs hoo
        rcases (hp v (List.mem_cons_self ..)).2 with hh | ⟨d, x, h1, h2, h3⟩
        · rw [hh] at hs; cases hs; trivial
        · rw [h1] at hs; cases hs
          rw [h2] at hoo; cases hoo
          exact .of (by unfold own; exact h3)
end
end Tsa

/-! M7: comprehensions. -/
namespace Tsa
open PySem PySem.Spec PyProof.Rows L2
/-- an exception isn't walked here -/
def Res.nex {α : Type} (m : Res α) : Res α := match m with
  | .ok a => .ok a
  | _ => .un
@[simp] theorem Res.nex_ok {α : Type} (a : α) : (Res.ok a).nex = .ok a := rfl
theorem Res.nex_ne {α : Type} {m : Res α} (h : m.nex ≠ .un) : ∃ a, m = .ok a := by
  cases m with
  | ok a => exact ⟨a, rfl⟩
  | ex e => exact absurd rfl h
  | un => exact absurd rfl h
def consO {β : Type} : Option β → List β → List β
  | none, bs => bs
  | some b, bs => b :: bs
/-- a comprehension: b, if sgl is made, and what goes on -/
def compL {α β τ : Type} (f : α → τ → Res (Option β × τ)) : List α → τ → Res (List β × τ)
  | [], t => .ok ([], t)
  | x :: xs, t => (f x t).nex.bind fun r => (compL f xs r.2).bind fun q => .ok (consO r.1 q.1, q.2)
inductive PersL (Γ0 Γ : List SD) : List Nat → Prop
  | nil : PersL Γ0 Γ []
  | hole {i : Nat} {r : List Nat} (h : Γ[i]? = some .hole) (t : PersL Γ0 Γ r) : PersL Γ0 Γ (i :: r)
  | val {i : Nat} {d : PyData} {r : List Nat} (h : Γ[i]? = some (.val d)) (h0 : Γ0[i]? = some (.val d)) (t : PersL Γ0 Γ r) : PersL Γ0 Γ (i :: r)
section
variable {K : PySem.W.Frag} {X : Cx} {C : XC} {pu : Bool} {ω : Type} {Γ : List SD} {e a b c tg iter elt : Expr} {M : Res ω} {pos : Pos} {k : Opd → List SD → Res ω → Prop}
theorem PersL.mem {Γ0 Γ : List SD} : ∀ {vs : List Nat}, PersL Γ0 Γ vs → ∀ i ∈ vs, i < Γ.length ∧ (Γ[i]? = some .hole ∨ ∃ d, Γ[i]? = some (.val d) ∧ Γ0[i]? = some (.val d))
  | _, .nil, i, h => nomatch h
  | _, .hole h t, i, hi => by
    rcases List.mem_cons.mp hi with rfl | hi
    · exact ⟨(List.getElem?_eq_some_iff.mp h).1, .inl h⟩
    · exact t.mem i hi
  | _, .val h h0 t, i, hi => by
    rcases List.mem_cons.mp hi with rfl | hi
    · exact ⟨(List.getElem?_eq_some_iff.mp h).1, .inr ⟨_, h, h0⟩⟩
    · exact t.mem i hi
theorem ownL_app {F G h h1 : Hp} : ∀ {ss : List SD} {vs : List V} {s : SD} {v : V}, ownL K F G ss h vs → own K F G s h1 v → Dis h h1 → ownL K F G (ss ++ [s]) (cup h h1) (vs ++ [v])
  | [], vs, s, v, q, w, d => by
    unfold ownL at q
    subst q
    show ownL K F G [s] _ [v]
    unfold ownL
    exact ⟨v, [], h1, emp, rfl, .r d, .emp, Dis.emp.symm, w, by unfold ownL; rfl⟩
  | s0 :: ss, vs, s, v, q, w, d => by
    unfold ownL at q
    obtain ⟨v0, vr, k1, k2, e, s1, s2, d12, q1, q2⟩ := q
    subst e
    show ownL K F G (s0 :: (ss ++ [s])) _ (v0 :: (vr ++ [v]))
    unfold ownL
    exact ⟨v0, vr ++ [v], k1, cup k2 h1, rfl, s1.trans .l, Sub.cup (s2.trans .l) (.r d), (Dis.cup d12.symm (d.mono s1 .refl).symm).symm, q1, ownL_app q2 w (d.mono s2 .refl)⟩
theorem compL_cons {α β τ : Type} {f : α → τ → Res (Option β × τ)} {x : α} {xs : List α} {t : τ} : compL f (x :: xs) t = (f x t).nex.bind fun r => (compL f xs r.2).bind fun q => .ok (consO r.1 q.1, q.2) := rfl
abbrev noE (C : XC) : XC := { C with E := fun _ _ _ _ => False }
theorem Fits.less {F h g g' H : Hp} (f : Fits F h g' H) (s : Sub g g') : Fits F h g H := ⟨f.fH, f.hH, s.trans f.gH, f.fh, f.fg.mono .refl s, f.hg.mono .refl s⟩
theorem wipe_eq {σ σ' : L2.St} {vs : List Nat} (h : ∀ j, ¬ j ∈ vs → σ'[j]? = (L2.wipe σ vs)[j]?) (hl : σ'.length = (L2.wipe σ vs).length) : L2.wipe σ' vs = L2.wipe σ vs := by
  apply List.ext_getElem?
  intro j
  rw [wipeS_get]
  by_cases hj : j ∈ vs
  · by_cases hl' : j < σ'.length
    · rw [if_pos ⟨hj, hl'⟩, wipeS_get, if_pos ⟨hj, by rw [hl, L2.wipe_length] at hl'; exact hl'⟩]
    · rw [if_neg (fun z => hl' z.2), List.getElem?_eq_none (Nat.le_of_not_lt hl'), List.getElem?_eq_none (by rw [← hl]; exact Nat.le_of_not_lt hl')]
  · rw [if_neg (fun z => hj z.1), h j hj]
/-- the element's turn: the test (if there is sgl), then the element; over every block -/
abbrev Blk (X : Cx) (scope : Scope) (P : Cx → Prop) : Prop := ∀ (s : Shared) (H : Hp) (Ca : Addr) (cl : List (Str × Addr)) (fp : List Addr), P (X.blk s H scope (compEnvC scope cl Ca X.env) fp)
def TurnOk (X : Cx) (scope : Scope) (C : XC) (pu : Bool) {β τ : Type} (vs : List Nat) (Γi : τ → List SD) (Γ : List SD) (ifs : List Expr) (elt : Expr) (t : τ) (m : Res (Option β × τ)) (k : Opd → List SD → Res (Option β × τ) → Prop) : Prop :=
  match ifs with
  | [] => Blk X scope fun X' => JE X' (noE C) pu Γ elt m k
  | [c] => ∃ (m1 : Res (Bool × τ)) (mt : τ → Res (Option β × τ)) (Γb : τ → List SD), m = m1.bind (fun r => cond r.1 (mt r.2) (.ok (none, r.2))) ∧ (∀ t', Le (wipeG (Γb t') vs) (wipeG (Γi t') vs)) ∧ (Blk X scope fun X' => JC X' (noE C) pu Γ c m1 fun b Γ' M' => ∃ t', M' = .ok (b, t') ∧ Γ' = Γb t') ∧ ∀ t', Blk X scope fun X' => JE X' (noE C) pu (Γb t') elt (mt t') k
  | _ => False
def semIfs (X : Cx) (scope : Scope) : List Expr → TT
  | [c] => fun σ H Q => Blk X scope fun X' => semT X' c σ H Q
  | _ => tYes
theorem cup_assoc {a b c : Hp} : cup (cup a b) c = cup a (cup b c) := by
  funext p
  unfold cup
  cases a p <;> rfl
theorem xok_noE {F g : Hp} {α : Type} {m : Res α} {a : α} (h : m = .ok a) : XOk K (noE C) F g m := fun e he => by rw [h] at he; cases he
theorem Le.len2 : ∀ {a b : List SD}, Le a b → a.length = b.length
  | _, _, .nil => rfl
  | _, _, .same l => by rw [List.length_cons, List.length_cons, l.len2]
  | _, _, .drop l => by rw [List.length_cons, List.length_cons, l.len2]
/-- what a comprehension's run asks -/
abbrev lcTE (X : Cx) (scope : Scope) (own' : List (Str × Nat)) (tg iter : Expr) (ifs : List Expr) (elt : Expr) : TE := tLc (semI X tg iter) (fun v σ H Q => Blk X scope fun X' => semG X' tg v σ H Q) (semIfs X scope ifs) (fun σ H Q => Blk X scope fun X' => semE X' elt σ H Q) (own'.map (·.2))
theorem JT.comp {scope : Scope} {own' : List (Str × Nat)} {ifs : List Expr}
    (h : JSrc X C pu Γ tg iter M fun ys Γ1 M1 => ∃ (α β τ : Type) (xs : List α) (sd : α → SD) (f : α → τ → Res (Option β × τ)) (t0 : τ) (Γi : τ → List SD) (se : β → SD) (kM : List β × τ → Res ω),
      ys = xs.map sd ∧ M1 = (compL f xs t0).bind kM ∧ Le Γ1 (Γi t0) ∧ (pu = true → Γ1 = Γi t0 ∧ ∀ t, Γi t = Γi t0) ∧ (∀ t, PersL (Γi t0) (Γi t) (own'.map (·.2))) ∧
      (∀ x t, ∃ Γ2, Le (wipeG Γ2 (own'.map (·.2))) (wipeG (Γi t) (own'.map (·.2))) ∧
        (Blk X scope fun X' => JG X' C (fun j => j ∈ own'.map (·.2)) (wipeG (Γi t) (own'.map (·.2))) tg (sd x) fun Γ' => Γ' = Γ2) ∧
        TurnOk X scope C pu (own'.map (·.2)) Γi Γ2 ifs elt t (f x t) fun o Γ' M' => ∃ y t', M' = .ok (some y, t') ∧ o = .own (se y) ∧ Le (wipeG Γ' (own'.map (·.2))) (wipeG (Γi t') (own'.map (·.2)))) ∧
      ∀ r, compL f xs t0 = .ok r → k (.own (.lst (r.1.map se))) (Γi r.2) (kM r))
    (hifs : ifs = [] ∨ ∃ c, ifs = [c] := by first | exact .inl rfl | exact .inr ⟨_, rfl⟩) : JT X.K C pu Γ (lcTE X scope own' tg iter ifs elt) M k := by
  intro F h0 g H σ Q he hf hG hu hx q
  refine h F h0 g H σ _ he hf hG hu hx fun ys Γ1 M1 ⟨α, β, τ, xs, sd, f, t0, Γi, se, kM, e1, e2, hl, hpu, hpers, hb, hk⟩ hm F1 hl' h2 H1 J x1 he1 hf1 dg sg hp D hD => ?_
  subst e1 hm e2
  have hG1 : Sub C.G (cup hl' g) := hG.trans (.r dg)
  have hne : compL f xs t0 ≠ .un := fun z => hu (by rw [z]; rfl)
  have he0 : EnvR X.K F1 C.G (Γi t0) h2 σ := hl.ok he1
  -- the invariant behind a turn
  let Nx : Nat → Hp → Prop := fun i H2 => ∃ t bsd F2 h3 hacc vacc, Sub F1 F2 ∧ EnvR X.K F2 C.G (Γi t) h3 σ ∧ ownL X.K F2 C.G (bsd.map se) hacc vacc ∧ hacc D = none ∧ Dis (cup (sgl D (.lst vacc)) hacc) (cup hl' g) ∧
      Fits F2 h3 (cup (cup (sgl D (.lst vacc)) hacc) (cup hl' g)) H2 ∧ (compL f (xs.drop i) t).bind (fun q => .ok (bsd ++ q.1, q.2)) = compL f xs t0 ∧ vacc.length ≤ i ∧ (pu = true → Sub h2 h3)
  have back : ∀ {F4 h5 : Hp} {σ4 : L2.St} {Γ' : List SD} {t : τ}, Sub F1 F4 → Dis F4 C.G → EnvR X.K F4 C.G Γ' h5 σ4 → L2.wipe σ4 (own'.map (·.2)) = L2.wipe σ (own'.map (·.2)) → σ4.length = σ.length → Le (wipeG Γ' (own'.map (·.2))) (wipeG (Γi t) (own'.map (·.2))) → (Γi t).length = σ.length → EnvR X.K F4 C.G (Γi t) h5 σ := by
    intro F4 h5 σ4 Γ' t x4 dG he5 hw hl4 hle hlt
    have z := he5.wipe (vs := own'.map (·.2)) dG fun i hi => by
      have a1 := ((hpers t).mem i hi).1
      have a2 := he5.len
      omega
    rw [hw] at z
    refine EnvR.unwipe dG (fun i hi => ?_) hlt.symm (hle.ok z)
    obtain ⟨a1, a2⟩ := (hpers t).mem i hi
    refine ⟨a1, ?_⟩
    rcases a2 with a2 | ⟨d, a2, a3⟩
    · exact .inl a2
    · obtain ⟨o, k1, k2, e1, s1, s2, d12, w, _⟩ := he0.at a3
      obtain ⟨v, ev, wv⟩ := w.val (by intro z; cases z)
      subst ev
      unfold own at wv
      exact .inr ⟨d, v, a2, e1, wv.mono x4⟩
  have elem : ∀ (i : Nat) (hlt : i < xs.length) (t : τ) (bsd : List β) (F2 h3 hacc : Hp) (vacc : List V) (F4 h4 H4 : Hp) (σ4 : L2.St) (Γ2 : List SD) (ob : Option β) (t' : τ) (m : Res (Option β × τ)),
      Sub F1 F2 → ownL X.K F2 C.G (bsd.map se) hacc vacc → hacc D = none → Dis (cup (sgl D (.lst vacc)) hacc) (cup hl' g) → Sub F2 F4 → EnvR X.K F4 C.G Γ2 h4 σ4 → Fits F4 h4 (cup (cup (sgl D (.lst vacc)) hacc) (cup hl' g)) H4 →
      L2.wipe σ4 (own'.map (·.2)) = L2.wipe σ (own'.map (·.2)) → σ4.length = σ.length → m = .ok (ob, t') → ((compL f (xs.drop (i + 1)) t').bind fun q => .ok (consO ob q.1, q.2)).bind (fun q => .ok (bsd ++ q.1, q.2)) = compL f xs t0 → vacc.length ≤ i →
      (pu = true → Sub h2 h4) →
      (Blk X scope fun X' => JE X' (noE C) pu Γ2 elt m fun o Γ' M' => ∃ y t', M' = .ok (some y, t') ∧ o = .own (se y) ∧ Le (wipeG Γ' (own'.map (·.2))) (wipeG (Γi t') (own'.map (·.2)))) →
      Blk X scope fun X' => semE X' elt σ4 H4 fun y H5 => ∃ acc, H5 D = some (.lst acc) ∧ acc.length < sizeLine ∧ Nx (i + 1) (upd H5 D (.lst (acc ++ [y]))) := by
    intro i hlt t bsd F2 h3 hacc vacc F4 h4 H4 σ4 Γ2 ob t' m x2 ow hD2 dA x4 he4 hf4 hw hl4 hm hM1 hlen hp4 hj s1 HH1 Ca1 cl1 fp1
    have hG2 : Sub C.G (cup (cup (sgl D (.lst vacc)) hacc) (cup hl' g)) := hG1.trans (.r dA)
    refine hj s1 HH1 Ca1 cl1 fp1 F4 h4 _ H4 σ4 _ he4 hf4 hG2 (by rw [hm]; intro z; cases z) (xok_noE hm) fun o Γ' M' ⟨y, t2, e1, e2, hle⟩ hm' vy F5 h1' h5 H5 x5 ow5 he5 d5 hf5 hp5 => ?_
    subst e2
    have e3 : (ob, t') = (some y, t2) := by
      have := hm'.symm.trans e1
      rw [hm] at this
      exact Res.ok.inj this
    obtain ⟨rfl, rfl⟩ := Prod.mk.inj e3
    have hold : cup (cup (sgl D (.lst vacc)) hacc) (cup hl' g) D = some (.lst vacc) := cup_some (cup_some one_same)
    refine ⟨vacc, hf5.gH _ _ hold, ?_, ?_⟩
    · have := sg.size
      rw [List.length_map] at this
      rw [sizeLine_eq]
      omega
    have n1 : h1' D = none := (hf5.hg.mono .l .refl).symm.no hold
    have n5 : h5 D = none := (hf5.hg.mono (.r d5) .refl).symm.no hold
    have dah : Dis hacc h1' := (hf5.hg.mono .l ((Sub.r (Dis.one hD2)).trans .l)).symm
    have dah5 : Dis hacc h5 := (hf5.hg.mono (.r d5) ((Sub.r (Dis.one hD2)).trans .l)).symm
    have f6 := hf5.inn dA
    rw [cup_assoc] at f6
    have nrest : cup hacc (cup h1' h5) D = none := by
      rw [cup_none hD2, cup_none n1]; exact n5
    have f7 := f6.upd (u := .lst (vacc ++ [vy])) nrest
    have ea : cup (sgl D (.lst (vacc ++ [vy]))) (cup hacc (cup h1' h5)) = cup (cup (sgl D (.lst (vacc ++ [vy]))) (cup hacc h1')) h5 := by
      rw [cup_assoc, cup_assoc]
    rw [ea] at f7
    have nacc : cup hacc h1' D = none := by rw [cup_none hD2]; exact n1
    refine ⟨t', bsd ++ [y], F5, h5, cup hacc h1', vacc ++ [vy], x2.trans (x4.trans x5), ?_, ?_, nacc, f7.hg.mono .l .refl, f7.out (Dis.cup (Dis.one n5) (Dis.cup dah5 d5)), ?_, ?_, fun z => (hp4 z).trans (hp5 z).1⟩
    · refine back (x2.trans (x4.trans x5)) (hf5.fg.mono .refl hG2) he5 hw hl4 hle ?_
      have a1 := hle.len2
      rw [wipeG_len, wipeG_len] at a1
      have a2 := he5.len
      omega
    · rw [List.map_append]
      exact ownL_app (ownL_mono (x4.trans x5) (cup_mono_l (x4.trans x5) (hf5.fg.mono .refl hG2)) _ .refl ow) ow5 dah
    · rw [← hM1]
      cases compL f (xs.drop (i + 1)) t' with
      | ok q => show Res.ok ((bsd ++ [y]) ++ q.1, q.2) = Res.ok (bsd ++ (y :: q.1), q.2); rw [List.append_assoc]; rfl
      | ex e => rfl
      | un => rfl
    · rw [List.length_append]
      exact Nat.succ_le_succ hlen
  refine ⟨fun i m H2 => m = xs.length - i ∧ i ≤ xs.length ∧ Nx i H2, ?_, ?_⟩
  · refine ⟨_, rfl, Nat.zero_le _, t0, [], F1, h2, emp, [], .refl, he0, by unfold ownL; rfl, rfl, ?_, ?_, ?_, Nat.le_refl _, fun _ => .refl⟩
    · exact Dis.cup (Dis.one (hf1.gH.no hD)) .emp
    · have z := hf1.new (o := .lst []) hD
      have z2 := z.out (Dis.one (hf1.hH.no hD))
      refine z2.less (Sub.cup (Sub.cup .l .emp) (.r (Dis.one (hf1.gH.no hD))))
    · show (compL f xs t0).bind _ = _
      cases compL f xs t0 <;> rfl
  · rintro i m H2 ⟨rfl, hi, t, bsd, F2, h3, hacc, vacc, x2, he2, ow, hD2, dA, hf2, hM, hlen, hpu3⟩
    have hG2 : Sub C.G (cup (cup (sgl D (.lst vacc)) hacc) (cup hl' g)) := hG1.trans (.r dA)
    have fin := hf2.inn dA
    by_cases hlt : i < xs.length
    · have hget : (xs.map sd)[i]? = some (sd xs[i]) := by simp [hlt]
      obtain ⟨hgo, hyld⟩ := sg.go i _ F2 _ H2 x2 fin hget
      have hdrop : xs.drop i = xs[i] :: xs.drop (i + 1) := List.drop_eq_getElem_cons hlt
      rw [hdrop, compL_cons] at hM
      obtain ⟨⟨ob, t'⟩, hfx⟩ : ∃ r, f xs[i] t = .ok r := Res.nex_ne fun z => hne (by rw [← hM, z]; rfl)
      rw [hfx] at hM
      have hM1 : ((compL f (xs.drop (i + 1)) t').bind fun q => .ok (consO ob q.1, q.2)).bind (fun q => .ok (bsd ++ q.1, q.2)) = compL f xs t0 := hM
      refine .inr ⟨hgo, Nx (i + 1), fun H3 z => ⟨xs.length - (i + 1), by omega, rfl, hlt, z⟩, fun v H3 hy s0 HH Ca cl fp => ?_⟩
      obtain ⟨F3, x3, ow3, hf3⟩ := hyld v H3 hy
      obtain ⟨Γ2, hle2, hjg, htn⟩ := hb xs[i] t
      have hf3' := hf3.out hf2.dis
      have dG3 : Dis F3 C.G := hf3'.fg.mono .refl hG2
      refine hjg s0 HH Ca cl fp F3 emp h3 _ H3 _ v _ ((he2.mono x3 dG3 .refl).wipe dG3 fun j hj => ((hpers t).mem j hj).1) ow3 .emp hf3'.emp hG2 fun Γ' e h4 σ4 he4 hf4 off hl4 hs4 => ?_
      subst e
      have hw := wipe_eq off hl4
      have hl4' : σ4.length = σ.length := by rw [hl4, L2.wipe_length]
      refine ⟨hw, ?_⟩
      rcases hifs with rfl | ⟨c, rfl⟩
      · unfold semIfs tYes
        refine iteT (B := Nx (i + 1) H3) ?_
        exact elem i hlt t bsd F2 h3 hacc vacc F3 h4 H3 σ4 Γ' ob t' (f xs[i] t) x2 ow hD2 dA x3 he4 hf4 hw hl4' hfx hM1 hlen (fun z => (hpu3 z).trans hs4) htn
      · intro s1 HH1 Ca1 cl1 fp1
        obtain ⟨m1, mt, Γb, em, hleb, hjc, hje⟩ := htn
        rw [hfx] at em
        have hm1 : ∃ r, m1 = .ok r := by
          cases m1 with
          | ok b => exact ⟨b, rfl⟩
          | ex e => cases em
          | un => cases em
        obtain ⟨⟨b0, t0'⟩, hb0⟩ := hm1
        refine hjc s1 HH1 Ca1 cl1 fp1 F3 h4 _ H3 σ4 _ he4 hf4 hG2 (by rw [hb0]; intro z; cases z) (xok_noE hb0) fun b Γ2 M' ⟨t1, e1, e2⟩ hm F4 h5 H4 x4 he5 hf5 hp5 => ?_
        subst e2
        have eb : (b0, t0') = (b, t1) := by
          have := hm.symm.trans e1
          rw [hb0] at this
          exact Res.ok.inj this
        obtain ⟨rfl, rfl⟩ := Prod.mk.inj eb
        rw [hb0] at em
        cases b0 with
        | true =>
          rw [if_pos rfl]
          have em' : Res.ok (ob, t') = mt t0' := em
          exact elem i hlt t bsd F2 h3 hacc vacc F4 h5 H4 σ4 (Γb t0') ob t' (mt t0') x2 ow hD2 dA (x3.trans x4) he5 hf5 hw hl4' em'.symm hM1 hlen (fun z => ((hpu3 z).trans hs4).trans (hp5 z).1) (hje t0')
        | false =>
          rw [if_neg Bool.false_ne_true]
          have em' : Res.ok (ob, t') = Res.ok (none, t0') := em
          obtain ⟨rfl, rfl⟩ := Prod.mk.inj (Res.ok.inj em')
          have hlt' : (Γi t').length = σ.length := by
            have a1 := (hleb t').len2
            rw [wipeG_len, wipeG_len] at a1
            have a2 := he5.len
            omega
          refine ⟨t', bsd, F4, h5, hacc, vacc, x2.trans (x3.trans x4), back (x2.trans (x3.trans x4)) (hf5.fg.mono .refl hG2) he5 hw hl4' (hleb t') hlt', ownL_mono (x3.trans x4) (cup_mono_l (x3.trans x4) (hf5.fg.mono .refl hG2)) _ .refl ow, hD2, dA, hf5, ?_, Nat.le_succ_of_le hlen, fun z => ((hpu3 z).trans hs4).trans (hp5 z).1⟩
          rw [← hM1]
          cases compL f (xs.drop (i + 1)) t' <;> rfl
    · have e : i = xs.length := by omega
      subst e
      rw [List.drop_length] at hM
      refine .inl ⟨sg.stop _ F2 _ H2 x2 fin (by simp), ?_⟩
      have hM' : compL f xs t0 = .ok (bsd, t) := by
        rw [← hM]
        show Res.ok (bsd ++ [], t) = _
        rw [List.append_nil]
      refine q _ (Γi t) (kM (bsd, t)) (hk (bsd, t) hM') (by rw [hM']; rfl) (.ref D) F2 (cup (sgl D (.lst vacc)) hacc) h3 H2 (x1.trans x2) ?_ he2 hf2.dis (fin.less (.r dg)) fun z => ?_
      · unfold OpdOk own
        exact ⟨D, vacc, hacc, rfl, cup_some one_same, .r (Dis.one hD2), hD2, ow⟩
      · obtain ⟨z1, z2⟩ := hpu z
        exact ⟨(hp z).1.trans (hpu3 z), by rw [z2, ← z1]; exact (hp z).2⟩
theorem JE.ofLc {scope : Scope} {own' : List (Str × Nat)} {ifs : List Expr} (hc : X.calm = true) (hN : X.N.Nodup) (ok : BlkOk X.N X.env.scope scope own') (h : JT X.K C pu Γ (lcTE X scope own' tg iter ifs elt) M k)
    (hifs : ifs = [] ∨ ∃ c, ifs = [c] := by first | exact .inl rfl | exact .inr ⟨_, rfl⟩) (hs : ∀ x, foldedSetIterable iter X.env x = pure x := by intro _; rfl) : JE X C pu Γ (.ListComp elt [⟨tg, iter, ifs, 0⟩] scope pos) M k := by
  refine JE.of (pe_lc (g := fun v σ H Q => Blk X scope fun X' => semG X' tg v σ H Q) (tt := semIfs X scope ifs) (te := fun σ H Q => Blk X scope fun X' => semE X' elt σ H Q) hc hN pi_sem ok (fun s H Ca cl fp => ⟨fun pins s' σ H' v u Q I r h => h s H Ca cl fp pins s' u I r⟩) (fun s H Ca cl fp => ?_) (fun s H Ca cl fp => ⟨fun pins s' σ H' Q I h => semE_run (h s H Ca cl fp) pins s' I⟩) hs) h
  rcases hifs with rfl | ⟨c, rfl⟩
  · exact pts_nil
  · exact pts_one ⟨fun pins s' σ H' Q I h => semT_run (h s H Ca cl fp) pins s' I⟩
/-- y = [..] -/
theorem JS.ofLc {kl : List SD → Res ω → Prop} {en : ω → EndK} {i : Nat} {y : Str} {py spos : Pos} {scope : Scope} {own' : List (Str × Nat)} {ifs : List Expr} (hc : X.calm = true) (hN : X.N.Nodup) (ok : BlkOk X.N X.env.scope scope own')
    (h : JT X.K C false Γ (lcTE X scope own' tg iter ifs elt) M fun o Γ' M' => ∃ s, o = .own s ∧ i < Γ'.length ∧ kl (Γ'.set i s) M')
    (hy : X.N[i]? = some y := by rfl) (hyl : X.env.scope.names.lookup y = some .local := by rfl) (hsw : swapsWith (.ListComp elt [⟨tg, iter, ifs, 0⟩] scope pos) (some (.Name y py)) spos.line X.env = pure true := by exact sw_true rfl rfl rfl (by decide +kernel))
    (hifs : ifs = [] ∨ ∃ c, ifs = [c] := by first | exact .inl rfl | exact .inr ⟨_, rfl⟩) (hs : ∀ x, foldedSetIterable iter X.env x = pure x := by intro _; rfl) : JS X C Γ (.Assign [.Name y py] (.ListComp elt [⟨tg, iter, ifs, 0⟩] scope pos) spos) M kl en := by
  refine JS.of (ps_setLc (g := fun v σ H Q => Blk X scope fun X' => semG X' tg v σ H Q) (tt := semIfs X scope ifs) (te := fun σ H Q => Blk X scope fun X' => semE X' elt σ H Q) hc hN hy hyl hsw pi_sem ok (fun s H Ca cl fp => ⟨fun pins s' σ H' v u Q I r h => h s H Ca cl fp pins s' u I r⟩) (fun s H Ca cl fp => ?_) (fun s H Ca cl fp => ⟨fun pins s' σ H' Q I h => semE_run (h s H Ca cl fp) pins s' I⟩) hs) ?_
  · rcases hifs with rfl | ⟨c, rfl⟩
    · exact pts_nil
    · exact pts_one ⟨fun pins s' σ H' Q I h => semT_run (h s H Ca cl fp) pins s' I⟩
  · exact fun F h0 g H σ D he hf hG hu hx q hn => h F h0 g H σ _ he hf hG hu hx fun o Γ' M' ⟨s, e1, hi, hk⟩ hm v F' h1 h2 H' x ow he' d hf' hp => by
      subst e1
      exact q _ M' hk hm F' _ _ H' x (EnvR.put he' hi ow d (hf'.G hG)) hf'
end
end Tsa

/-! M8: defs, their mirrors, calls. -/
namespace Tsa
open PySem PySem.Spec PyProof.Rows L2

/-- room to run, with no repr on the way -/
structure RoomG (k : Nat) (A : Around) : Prop where
  room : Room k A
  gd : A.guards = some []
theorem RoomG.mono {j k : Nat} {A : Around} (r : RoomG k A) (h : j ≤ k) : RoomG j A := ⟨r.room.mono h, r.gd⟩
theorem RoomG.deeper {k : Nat} {A : Around} (r : RoomG (k + 1) A) (env : Env) : RoomG k (A.deeper env) := ⟨r.room.deeper env, r.gd⟩
/-- a def keeps its promise, wherever there is such room -/
structure FnG (P : Program) (w : World) (K : PySem.W.Frag) (mg : Str → Option Value) (base : Heap) (k : Nat) (f : Addr) (fd : FuncData) (ps : List Str) (sp : Sp) : Prop where
  len : ∀ vs H Q E, sp vs H Q E → vs.length = ps.length
  run : ∀ (A : Around) (outer : List Env) (s : Shared) (H : Hp) (args : Args) (us : List Value) (vs : List V) (Q : VK) (E : XK), RoomG k A → Env0 P w K mg base A outer s H →
    BindsTo s fd args (ps.zip us) → Vals vs us → sp vs H Q E → codeAny (model P w) A (.call (.ref f) args) (CR (L2N.CX P w) outer P w H s Q E) s
/-- what the arguments are, what M makes of them -/
def SpM {ι ω : Type} (K : PySem.W.Frag) (args : ι → List SD) (mir : ι → Res ω) (ret : ι → ω → SD) (out : ι → ω → List SD) (xout : ι → List SD) : Sp := fun vs H Q E =>
  ∃ (i : ι) (F h g : Hp), ownL K F g (args i) h vs ∧ Fits F h g H ∧ mir i ≠ .un ∧
    (∀ r, mir i = .ok r → ∀ (v : V) (F' h1 h2 H' : Hp), Sub F F' → own K F' emp (ret i r) h1 v → EnvR K F' emp (out i r) h2 (vs.map some) → Dis h1 h2 → Fits F' (cup h1 h2) g H' → Q v H') ∧
    (∀ e, mir i = .ex e → ∀ (c : Value) (od : Option Addr) (F' hx h2 H' : Hp), Sub F F' → ExnOwn K F' emp hx e c od → EnvR K F' emp (xout i) h2 (vs.map some) → Dis hx h2 → Fits F' (cup hx h2) g H' → E c od H')

section
variable {P : Program} {w : World} {K : PySem.W.Frag} {mg : Str → Option Value} {base : Heap} {x qual : Str} {params : Arguments} {body : List Stmt} {scope : Scope} {dvs : List V} {kws : List (Str × V)} {f : Addr} {fd : FuncData} {N ps : List Str} {k : Nat} {sp : Sp}
/-- the body of a def, run: as the layer's own rule, with the guards told -/
theorem fnG_body (F : FunD K x qual params body scope dvs kws f fd) (S : FnScope N ps scope) (hlen : ∀ vs H Q E, sp vs H Q E → vs.length = ps.length)
    (hb : ∀ (cdv : Value) (A : Around) (outer : List Env) (s : Shared) (H : Hp) (vs : List V) (Q : VK) (E : XK), RoomG k (A.deeper (envOfC qual scope s.heap.objs.size f cdv)) → sp vs H Q E →
      semL (cxOf (L2N.CX P w) P w K mg base N qual scope f cdv A outer s H E) body { nx := fun _ H' => Q .non H', rt := Q } (start N vs) H) : FnG P w K mg base (k + 1) f fd ps sp := by
  obtain ⟨oc, od, dV, kV, doc, pm, an, cdv, ct, osl, efd, look, code, _, _⟩ := F.ex
  subst efd
  refine ⟨hlen, ?_⟩
  intro A outer s H args us vs Q E room env bind rel spec
  have count := hlen _ _ _ _ spec
  have stays : ∀ b o, base.get? b = some o → s.heap.get? b = some o := fun b o e => (env.bs b o e).1
  have inK : K.In s.heap := env.mod.kin.keeps stays
  have free := env.mod.nolimit.keeps stays
  have kinds : ∀ y ∈ ps.zip us, scope.names.lookup y.1 = some .local ∨ (scope.names.lookup y.1 = some .cell ∧ ((cellsFrom (s.heap.objs.size + 1) scope.names []).lookup y.1).isSome = true) := by
    intro y hy
    obtain ⟨n, v⟩ := y
    cases S.par n (List.of_mem_zip hy).1 with
    | inl q => exact Or.inl q
    | inr q => exact Or.inr ⟨q, PySem.W.cellsFrom_some _ _ _ (Or.inl q)⟩
  refine codeAny_call_function room.room.depth (inK _ _ look) rfl S.co S.gen rfl (PySem.W.codeRec_of inK code) (bind _ _ _ _ ?_)
  refine wpAny_newFunctionEnv_cells S.kind kinds ?_
  intro en hen s1 made
  subst hen
  have lim1 := free.keeps made.toInCall.keep
  refine ⟨lim1, codeAny_func ?_⟩
  have begun := inv_start (CX := L2N.CX P w) (E := E) S room.room.hd env count rel made
  have went := semL_run (hb cdv A outer s H vs Q E (room.deeper _) spec) [] s1 begun
  refine wpAny_mono went ?_ (fun _ _ z => z)
  intro fl s' leaves
  cases fl with
  | brk => exact leaves.elim fun _ z => z.elim fun _ z => z.2.elim
  | cont => exact leaves.elim fun _ z => z.elim fun _ z => z.2.elim
  | next =>
    obtain ⟨σ', H', J, q⟩ := leaves
    exact ⟨V.non, H', J.os, J.bare, J.base, J.hok, rfl, q⟩
  | ret u =>
    obtain ⟨v, σ', H', J, rv, q⟩ := leaves
    exact ⟨v, H', J.os, J.bare, J.base, J.hok, rv, q⟩
theorem ownL_env {F G : Hp} {n : Nat} : ∀ {ss : List SD} {h : Hp} {vs : List V}, ownL K F G ss h vs → (∀ s ∈ ss, True) → EnvR K F G (List.zipWith SD.pin vs ss ++ List.replicate n .hole) h (vs.map some ++ List.replicate n none)
  | [], h, vs, q, _ => by
    unfold ownL at q
    subst q
    show EnvR K F G (List.replicate n .hole) h (List.replicate n none)
    induction n generalizing h with
    | zero => exact rfl
    | succ n ih => exact ⟨none, List.replicate n none, emp, h, rfl, .emp, .refl, .emp, trivial, ih (h := h)⟩
  | s :: ss, h, vs, q, _ => by
    unfold ownL at q
    obtain ⟨v, vr, h1, h2, e, s1, s2, d, w, q⟩ := q
    subst e
    refine ⟨some v, vr.map some ++ List.replicate n none, h1, h2, rfl, s1, s2, d, ⟨v, rfl, ?_⟩, ownL_env q fun _ _ => trivial⟩
    unfold own
    exact ⟨rfl, w⟩
/-- the entry's slots: inout ones are pinned, the others as they are -/
inductive Entry : List V → List SD → List SD → Prop
  | nil : Entry [] [] []
  | keep {v : V} {s : SD} {vs : List V} {ss Γ : List SD} : Entry vs ss Γ → Entry (v :: vs) (s :: ss) (s :: Γ)
  | pin {v : V} {s : SD} {vs : List V} {ss Γ : List SD} : Entry vs ss Γ → Entry (v :: vs) (s :: ss) (.pin v s :: Γ)
theorem Entry.ok {F G : Hp} {n : Nat} : ∀ {vs : List V} {ss Γ : List SD}, Entry vs ss Γ → ∀ {h : Hp}, ownL K F G ss h vs → EnvR K F G (Γ ++ List.replicate n .hole) h (vs.map some ++ List.replicate n none)
  | _, _, _, .nil, h, q => ownL_env q fun _ _ => trivial
  | _, _, _, .keep r, h, q => by
    unfold ownL at q
    obtain ⟨v, vr, h1, h2, e, s1, s2, d, w, q⟩ := q
    cases e
    exact ⟨_, _, h1, h2, rfl, s1, s2, d, .of w, r.ok q⟩
  | _, _, _, .pin r, h, q => by
    unfold ownL at q
    obtain ⟨v, vr, h1, h2, e, s1, s2, d, w, q⟩ := q
    cases e
    exact ⟨_, _, h1, h2, rfl, s1, s2, d, ⟨_, rfl, by unfold own; exact ⟨rfl, w⟩⟩, r.ok q⟩
/-- the exit's slots against the arguments: what is handed back was pinned -/
inductive Exit : List V → List SD → List SD → Prop
  | nil {Γ : List SD} : Exit [] Γ []
  | hole {v : V} {s : SD} {vs : List V} {Γ os : List SD} : Exit vs Γ os → Exit (v :: vs) (s :: Γ) (.hole :: os)
  | pin {v : V} {s : SD} {vs : List V} {Γ os : List SD} : Exit vs Γ os → Exit (v :: vs) (.pin v s :: Γ) (s :: os)
theorem Exit.ok {F G : Hp} : ∀ {vs : List V} {Γ os : List SD}, Exit vs Γ os → ∀ {h : Hp} {σ : L2.St}, EnvR K F G Γ h σ → EnvR K F G os h (vs.map some)
  | _, _, _, .nil, h, σ, q => rfl
  | _, _, _, .hole r, h, σ, ⟨o, σr, h1, h2, e, s1, s2, d, w, q⟩ => ⟨_, _, h1, h2, rfl, s1, s2, d, trivial, r.ok q⟩
  | _, _, _, .pin r, h, σ, ⟨o, σr, h1, h2, e, s1, s2, d, w, q⟩ => by
    obtain ⟨v, ev, wv⟩ := w
    unfold own at wv
    obtain ⟨rfl, wv⟩ := wv
    exact ⟨_, _, h1, h2, rfl, s1, s2, d, .of wv, r.ok q⟩
end
/-! ### nothing in it leans on the frame -/
def NR (s : SD) : Prop := ∀ (K : PySem.W.Frag) (F G G' h : Hp) (v : V), own K F G s h v → own K F G' s h v
def NRL (ss : List SD) : Prop := ∀ s ∈ ss, NR s
theorem NR.val {d : PyData} : NR (.val d) := fun K F G G' h v q => by unfold own at q ⊢; exact q
theorem NR.hole : NR .hole := fun K F G G' h v q => by unfold own; trivial
theorem NRL.nil : NRL [] := fun _ h => nomatch h
theorem NRL.cons {s : SD} {ss : List SD} (h : NR s) (t : NRL ss) : NRL (s :: ss) := fun x hx => by
  rcases List.mem_cons.mp hx with rfl | hx
  · exact h
  · exact t x hx
theorem NRL.map {α : Type} {f : α → SD} {xs : List α} (h : ∀ x, NR (f x)) : NRL (xs.map f) := fun s hs => by
  obtain ⟨x, _, rfl⟩ := List.mem_map.mp hs
  exact h x
theorem NRL.own {K : PySem.W.Frag} {F G G' : Hp} : ∀ {ss : List SD} {h : Hp} {vs : List V}, NRL ss → ownL K F G ss h vs → ownL K F G' ss h vs
  | [], _, _, _, q => by unfold ownL at q ⊢; exact q
  | s :: ss, _, _, n, q => by
    unfold ownL at q ⊢
    obtain ⟨v, vr, h1, h2, e, s1, s2, d, w, q⟩ := q
    exact ⟨v, vr, h1, h2, e, s1, s2, d, n s (List.mem_cons_self ..) K F G G' h1 v w, NRL.own (fun x hx => n x (List.mem_cons_of_mem _ hx)) q⟩
theorem NR.lst {ss : List SD} (n : NRL ss) : NR (.lst ss) := fun K F G G' h v q => by
  unfold Tsa.own at q ⊢
  obtain ⟨p, vs, h', e, q1, q2, q3, q4⟩ := q
  exact ⟨p, vs, h', e, q1, q2, q3, n.own q4⟩
def NRK (ss : List (Key × SD)) : Prop := ∀ s ∈ ss, NR s.2
def NRF (ss : List (Str × SD)) : Prop := ∀ s ∈ ss, NR s.2
theorem NRF.own {K : PySem.W.Frag} {F G G' : Hp} : ∀ {ss : List (Str × SD)} {h : Hp} {vs : List (Str × V)}, NRF ss → ownF K F G ss h vs → ownF K F G' ss h vs
  | [], _, _, _, q => by unfold ownF at q ⊢; exact q
  | (n0, s) :: ss, _, _, n, q => by
    unfold ownF at q ⊢
    obtain ⟨v, vr, h1, h2, e, s1, s2, d, w, q⟩ := q
    exact ⟨v, vr, h1, h2, e, s1, s2, d, n (n0, s) (List.mem_cons_self ..) K F G G' h1 v w, NRF.own (fun x hx => n x (List.mem_cons_of_mem _ hx)) q⟩
theorem NR.xds {ss : List (Str × SD)} (n : NRF ss) : NR (.xds ss) := fun K F G G' h v q => by
  unfold Tsa.own at q ⊢
  obtain ⟨p, fs, h', e, q1, q2, q3, q4⟩ := q
  exact ⟨p, fs, h', e, q1, q2, q3, n.own q4⟩
theorem NRL.env {K : PySem.W.Frag} {F G G' : Hp} : ∀ {Γ : List SD} {h : Hp} {σ : L2.St}, NRL Γ → EnvR K F G Γ h σ → EnvR K F G' Γ h σ
  | [], _, _, _, q => q
  | s :: r, _, _, n, ⟨o, σr, h1, h2, e, s1, s2, d, w, q⟩ => ⟨o, σr, h1, h2, e, s1, s2, d, by
    cases s with
    | hole => trivial
    | _ =>
      obtain ⟨v, ev, wv⟩ := w
      exact ⟨v, ev, n _ (List.mem_cons_self ..) K F G G' h1 v wv⟩, NRL.env (fun x hx => n x (List.mem_cons_of_mem _ hx)) q⟩

section
variable {P : Program} {w : World} {K : PySem.W.Frag} {mg : Str → Option Value} {base : Heap} {x qual : Str} {params : Arguments} {body : List Stmt} {scope : Scope} {dvs : List V} {kws : List (Str × V)} {f : Addr} {fd : FuncData} {N ps : List Str} {k : Nat}
/-- the context of a def's body -/
structure BodyCx (X : Cx) (k : Nat) (E : WX) : Prop where
  room : RoomG k X.A
  pass : PassesW X E
  own : PassesOwn (model X.prog X.w) X.A X.env X.xe
  calm : X.calm = true
  tk : L2N.Takes X E
/-- THE RULE for a def: its mirror, its body -/
theorem fnG_of {ι ω : Type} {args : ι → List SD} {mir : ι → Res ω} {ret : ι → ω → SD} {out : ι → ω → List SD} {xout : ι → List SD} {n : Nat} (F : FunD K x qual params body scope dvs kws f fd) (S : FnScope N ps scope) (hlen : ∀ i, (args i).length = ps.length) (hN : N.length = ps.length + n)
    (nr : ∀ i r, NR (ret i r)) (no : ∀ i r, NRL (out i r)) (nx : ∀ i, NRL (xout i)) (nex : ∀ i e, mir i = .ex e → NRF e.flds)
    (hb : ∀ (cdv : Value) (A : Around) (outer : List Env) (s : Shared) (H : Hp) (vs : List V) (E : XK) (G : Hp) (i : ι), vs.length = ps.length → BodyCx (cxOf (L2N.CX P w) P w K mg base N qual scope f cdv A outer s H E) k (fun c d _ H => E c d H) →
      ∃ (Γ0 Γx : List SD) (Γe : ω → List SD), Entry vs (args i) Γ0 ∧ (∀ r, Exit vs (Γe r) (out i r)) ∧ Exit vs Γx (xout i) ∧
        JL (cxOf (L2N.CX P w) P w K mg base N qual scope f cdv A outer s H E) ⟨fun c d _ H => E c d H, Γx, G⟩ (Γ0 ++ List.replicate n .hole) body (mir i) (fun Γ' M' => ∃ r, M' = .ok r ∧ ret i r = .val .none ∧ Le Γ' (Γe r)) fun r => .rt (ret i r) (Γe r)) :
    FnG P w K mg base (k + 1) f fd ps (SpM K args mir ret out xout) := by
  refine fnG_body F S (fun vs H Q E ⟨i, F, h, g, q, _⟩ => by rw [ownL_len q, hlen]) fun cdv A outer s H vs Q E hr ⟨i, F0, h, g, ow, fit, hu, hq, hx⟩ => ?_
  have hvs : vs.length = ps.length := by rw [ownL_len ow, hlen]
  have tk : L2N.Takes (cxOf (L2N.CX P w) P w K mg base N qual scope f cdv A outer s H E) (fun cls d _ H => E cls d H) := L2N.takes_of rfl rfl rfl rfl
  obtain ⟨Γ0, Γx, Γe, he, hex, hxx, hj⟩ := hb cdv A outer s H vs E g i hvs ⟨hr, passesW tk, passes_of rfl, rfl, tk⟩
  have est : EnvR K F0 g (Γ0 ++ List.replicate n .hole) h (L2.start N vs) := by
    have z := he.ok (n := n) ow
    have e : L2.start N vs = vs.map some ++ List.replicate n none := by
      unfold L2.start
      rw [hN, hvs, Nat.add_sub_cancel_left]
    rw [e]; exact z
  refine hj F0 h g H _ _ est fit .refl hu (fun e hee c od F' hx' h2 H' σ' s1 en ev d ff => ?_) (fun Γ' M' ⟨r, e1, e2, hl⟩ hm F' h' σ' H' s1 ev ff => ?_) fun r hr' v F' h1 h2 σ' H' s1 ow' ev d ff => ?_
  · refine hx e hee c od F' hx' h2 H' s1 ?_ ((nx i).env (hxx.ok ev)) d ff
    obtain ⟨z1, z2⟩ := en
    refine ⟨z1, ?_⟩
    rcases z2 with z2 | ⟨dd, z3, z4⟩
    · exact .inl z2
    · exact .inr ⟨dd, z3, NR.xds (nex i e hee) _ _ _ _ _ _ z4⟩
  · refine hq r (by rw [← hm, e1]) .non F' emp h' H' s1 (by rw [e2]; unfold own; exact .non) ((no i r).env ((hex r).ok (hl.ok ev))) .emp ff.emp
  · exact hq r hr' v F' h1 h2 H' s1 (nr i r _ _ _ _ _ _ ow') ((no i r).env ((hex r).ok ev)) d ff
end
end Tsa

/-! M9: arguments, calls. -/
namespace Tsa
open PySem PySem.Spec PyProof.Rows L2
/-- the operands' things, one heaplet -/
def OpdsOk (K : PySem.W.Frag) (F G : Hp) : List Opd → Hp → Hp → L2.St → List V → Prop
  | [], _, _, _, vs => vs = []
  | o :: r, h1, h2, σ, vs => ∃ v vr ha hb, vs = v :: vr ∧ Sub ha h1 ∧ Sub hb h1 ∧ Dis ha hb ∧ OpdOk K F G ha h2 σ o v ∧ OpdsOk K F G r hb h2 σ vr
theorem OpdOk.mono {K : PySem.W.Frag} {F F' G h1 h2 h2' : Hp} {σ : L2.St} {o : Opd} {v : V} (x : Sub F F') (d : Dis F' G) (d2 : Dis F' (cup G h2')) (dg : Dis G h2') (y : (∃ s, o = .own s) ∨ (∃ i, o = .at i) ∨ Sub h2 h2') (q : OpdOk K F G h1 h2 σ o v) : OpdOk K F' G h1 h2' σ o v := by
  cases o with
  | own s => exact own_mono x (cup_mono_l x d) s .refl q
  | bor d' =>
    rcases y with ⟨_, z⟩ | ⟨_, z⟩ | y
    · cases z
    · cases z
    · exact Dt.mono (Sub.cup2 x (Sub.cup2 .refl y dg) d2) q
  | brw s =>
    rcases y with ⟨_, z⟩ | ⟨_, z⟩ | y
    · cases z
    · cases z
    · obtain ⟨h3, s3, w3⟩ := q
      exact ⟨h3, s3.trans y, own_mono x (cup_mono_l x d) s .refl w3⟩
  | fl i f =>
    rcases y with ⟨_, z⟩ | ⟨_, z⟩ | y
    · cases z
    · cases z
    · obtain ⟨a, C, dx, fs, e1, e2, e3⟩ := q
      exact ⟨a, C, dx, fs, e1, y _ _ e2, e3⟩
  | «at» i => exact q
@[irreducible] def semA (X : Cx) (es : List Expr) : TA := fun σ H Q => ∀ pos pins s, Inv X pins σ H s → wpAny (model X.prog X.w) X.A (spliced (backTo pos (starEach es X.env))) (AP X pins σ Q) X.xe s
theorem pa_sem {X : Cx} {es : List Expr} : PA X es (semA X es) := ⟨fun pos pins s σ H Q I h => by unfold semA at h; exact h pos pins s I⟩
theorem semA_of {X : Cx} {es : List Expr} {t : TA} (p : PA X es t) {σ : L2.St} {H : Hp} {Q : List V → Hp → Prop} (h : t σ H Q) : semA X es σ H Q := by unfold semA; exact fun pos pins s I => p.run pos pins s σ H Q I h
/-- arguments, from the left -/
def JTA (K : PySem.W.Frag) (C : XC) (pu : Bool) {ω : Type} (Γ : List SD) (t : TA) (M : Res ω) (k : List Opd → List SD → Res ω → Prop) : Prop :=
  ∀ (F h g H : Hp) (σ : L2.St) (Q : List V → Hp → Prop), EnvR K F C.G Γ h σ → Fits F h g H → Sub C.G g → M ≠ .un → XOk K C F g M →
    (∀ os Γ' M', k os Γ' M' → M' = M → ∀ (vs : List V) (F' h1 h2 H' : Hp), Sub F F' → OpdsOk K F' C.G os h1 h2 σ vs → EnvR K F' C.G Γ' h2 σ → Dis h1 h2 → Fits F' (cup h1 h2) g H' → (pu = true → Sub h h2 ∧ Γ' = Γ) → Q vs H') → t σ H Q
abbrev JA (X : Cx) (C : XC) (pu : Bool) {ω : Type} (Γ : List SD) (es : List Expr) (M : Res ω) (k : List Opd → List SD → Res ω → Prop) : Prop := JTA X.K C pu Γ (semA X es) M k
section
variable {K : PySem.W.Frag} {X : Cx} {C : XC} {pu pt : Bool} {ω : Type} {Γ : List SD} {e o : Expr} {es : List Expr} {M : Res ω} {pos : Pos} {k : Opd → List SD → Res ω → Prop} {ka : List Opd → List SD → Res ω → Prop}
theorem JA.of {t : TA} (p : PA X es t) (h : JTA X.K C pu Γ t M ka) : JA X C pu Γ es M ka := fun F h0 g H σ Q he hf hG hu hx hq => semA_of p (h F h0 g H σ Q he hf hG hu hx hq)
theorem JA.nil (hk : ka [] Γ M) : JA X C pu Γ [] M ka := JA.of pa_nil fun F h g H σ Q he hf hG hu hx hq => hq [] Γ M hk rfl [] F emp h H .refl rfl he .emp hf.emp fun _ => ⟨.refl, rfl⟩
/-- the first operand stands while the rest is reckoned: it is its own or a slot; or the rest leaves the environment as it is (pt) -/
theorem JA.cons (h : JE X C pu Γ e M fun o Γ1 M1 => ((∃ s, o = .own s) ∨ (∃ i, o = .at i) ∨ pt = true) ∧ (pu = true → pt = true) ∧ JA X C pt Γ1 es M1 fun os Γ2 M2 => ka (o :: os) Γ2 M2)
    (hs : starEach (e :: es) X.env = (false, eval e X.env) :: starEach es X.env := by rfl) : JA X C pu Γ (e :: es) M ka := by
  refine JA.of (pa_cons pe_sem pa_sem hs) fun F h0 g H σ Q he hf hG hu hx hq => h F h0 g H σ _ he hf hG hu hx fun o Γ1 M1 ⟨ho, hpt, hj⟩ hm v F1 ha h1 H1 x1 ow he1 d1 hf1 hp1 => ?_
  subst hm
  have dag : Dis ha g := hf1.hg.mono .l .refl
  have hf1' := hf1.out d1
  have hx1 : XOk X.K C F1 (cup ha g) M1 := fun e hm c od F' hx' h' H' σ' s ex en dd ff => by
    refine hx e hm c od F' hx' h' H' σ' (x1.trans s) ex en dd ((ff.inn dag).sub (.r ff.dis))
  refine hj F1 h1 (cup ha g) H1 σ _ he1 hf1' (hG.trans (.r dag)) hu hx1 fun os Γ2 M2 hk hm2 vs F2 hb h2 H2 x2 ow2 he2 d2 hf2 hp2 => ?_
  have hf3 := hf2.inn dag
  have dha : Dis ha (cup hb h2) := hf2.dis
  have dfg : Dis F2 C.G := hf3.fg.mono .refl hG
  have dgh2 : Dis C.G h2 := (hf3.hg.mono ((Sub.r d2).trans (.r dha)) hG).symm
  refine hq (o :: os) Γ2 M2 hk hm2 (v :: vs) F2 (cup ha hb) h2 H2 (x1.trans x2) ⟨v, vs, ha, hb, rfl, .l, .r (dha.mono .refl .l), dha.mono .refl .l, ow.mono x2 dfg (Dis.cup dfg.symm (hf3.fh.mono .refl ((Sub.r d2).trans (.r dha))).symm).symm dgh2 ?_, ow2⟩ he2 (Dis.cup (dha.mono .refl (.r d2)) d2) (by rw [cup_assoc]; exact hf3) fun z => ⟨(hp1 z).1.trans (hp2 (hpt z)).1, (hp2 (hpt z)).2.trans (hp1 z).2⟩
  rcases ho with z | z | z
  · exact .inl z
  · exact .inr (.inl z)
  · exact .inr (.inr (hp2 z).1)
end

/-! ### what a thing looks like -/
mutual
inductive See : SD → PyData → Prop
  | val {d : PyData} : See (.val d) d
  | rd {d : PyData} : See (.rd d) d
  | pin {v : V} {s : SD} {d : PyData} : See s d → See (.pin v s) d
  | lst {ss : List SD} {ds : List PyData} : SeeL ss ds → See (.lst ss) (.list ds)
  | tup {ss : List SD} {ds : List PyData} : SeeL ss ds → See (.tup ss) (.tuple ds)
  | dct {α : Type} {m : List α} {kk : α → Key} {f : α → SD} {g : α → PyData} : (∀ x, See (f x) (g x)) → See (.dct (m.map fun x => (kk x, f x))) (.dict (m.map fun x => (kD (kk x), g x)))
inductive SeeL : List SD → List PyData → Prop
  | nil : SeeL [] []
  | cons {s : SD} {d : PyData} {ss : List SD} {ds : List PyData} : See s d → SeeL ss ds → SeeL (s :: ss) (d :: ds)
  | vals {ds : List PyData} : SeeL (ds.map .val) ds
  | map {α : Type} {xs : List α} {f : α → SD} {g : α → PyData} : (∀ x, See (f x) (g x)) → SeeL (xs.map f) (xs.map g)
  | app {a b : List SD} {c d : List PyData} : SeeL a c → SeeL b d → SeeL (a ++ b) (c ++ d)
end
theorem ownL_split {K : PySem.W.Frag} {F G : Hp} : ∀ {a b : List SD} {h : Hp} {vs : List V}, ownL K F G (a ++ b) h vs → ∃ v1 v2 h1 h2, vs = v1 ++ v2 ∧ Sub h1 h ∧ Sub h2 h ∧ Dis h1 h2 ∧ ownL K F G a h1 v1 ∧ ownL K F G b h2 v2
  | [], b, h, vs, q => ⟨[], vs, emp, h, rfl, .emp, .refl, .emp, by unfold ownL; rfl, q⟩
  | s :: a, b, h, vs, q => by
    have q : ownL K F G (s :: (a ++ b)) h vs := q
    unfold ownL at q
    obtain ⟨v, vr, h1, h2, e, s1, s2, d, w, q⟩ := q
    obtain ⟨v1, v2, k1, k2, e2, t1, t2, d2, q1, q2⟩ := ownL_split q
    refine ⟨v :: v1, v2, cup h1 k1, k2, by rw [e, e2]; rfl, Sub.cup s1 (t1.trans s2), t2.trans s2, Dis.cup (d.mono .refl t2) d2, ?_, q2⟩
    unfold ownL
    exact ⟨v, v1, h1, k1, rfl, .l, .r (d.mono .refl t1), d.mono .refl t1, w, q1⟩
theorem see_map {K : PySem.W.Frag} {F G : Hp} {α : Type} {f : α → SD} {g : α → PyData} : ∀ {xs : List α} {h : Hp} {vs : List V} {S : Hp}, (∀ x (h : Hp) (v : V), Sub h S → own K F G (f x) h v → Dt K S v (g x)) → Sub h S → ownL K F G (xs.map f) h vs → DtL K S vs (xs.map g)
  | [], h, vs, S, _, _, q => by
    simp only [List.map_nil] at q ⊢
    unfold ownL at q
    subst q
    exact .nil
  | x :: xs, h, vs, S, hx, hs, q => by
    simp only [List.map_cons] at q ⊢
    unfold ownL at q
    obtain ⟨v, vr, h1, h2, e, s1, s2, d, w, q⟩ := q
    subst e
    exact .cons (hx x h1 v (s1.trans hs) w) (see_map hx (s2.trans hs) q)
theorem see_mapK {K : PySem.W.Frag} {F G : Hp} {α : Type} {kk : α → Key} {f : α → SD} {g : α → PyData} : ∀ {m : List α} {h : Hp} {kvs : List (Key × V)} {S : Hp}, (∀ x (h : Hp) (v : V), Sub h S → own K F G (f x) h v → Dt K S v (g x)) → Sub h S → ownK K F G (m.map fun x => (kk x, f x)) h kvs → kvs.map (·.1) = m.map kk ∧ DtL K S (kvs.map (·.2)) (m.map g)
  | [], h, vs, S, _, _, q => by
    simp only [List.map_nil] at q ⊢
    unfold ownK at q
    subst q
    exact ⟨rfl, .nil⟩
  | x :: xs, h, vs, S, hx, hs, q => by
    simp only [List.map_cons] at q ⊢
    unfold ownK at q
    obtain ⟨v, vr, h1, h2, e, s1, s2, d, w, q⟩ := q
    subst e
    obtain ⟨e1, e2⟩ := see_mapK hx (s2.trans hs) q
    exact ⟨by rw [List.map_cons, e1], .cons (hx x h1 v (s1.trans hs) w) e2⟩
theorem zip_keys {α : Type} {kk : α → Key} {g : α → PyData} : ∀ {m : List α} {kvs : List (Key × V)}, kvs.map (·.1) = m.map kk → (kvs.map fun q => kD q.1).zip (m.map g) = m.map fun x => (kD (kk x), g x)
  | [], kvs, e => by
    rw [List.map_nil, List.map_eq_nil_iff] at e
    subst e; rfl
  | x :: m, [], e => nomatch e
  | x :: m, kv :: kvs, e => by
    rw [List.map_cons, List.map_cons] at e
    injection e with e1 e2
    rw [List.map_cons, List.map_cons, List.map_cons, List.zip_cons_cons, zip_keys e2, e1]
theorem dt_dct {K : PySem.W.Frag} {S : Hp} {α : Type} {kk : α → Key} {g : α → PyData} {m : List α} {kvs : List (Key × V)} {a : Addr} (r : Rd S a (.dK kvs)) (e : kvs.map (·.1) = m.map kk) (d : DtL K S (kvs.map (·.2)) (m.map g)) : Dt K S (.ref a) (.dict (m.map fun x => (kD (kk x), g x))) := by
  rw [← zip_keys e]
  exact .dct r d
mutual
theorem See.ok {K : PySem.W.Frag} {F G : Hp} : ∀ {s : SD} {d : PyData}, See s d → ∀ {h S : Hp} {v : V}, Sub F S → Sub (cup F G) S → Sub h S → own K F G s h v → Dt K S v d
  | _, _, .val, h, S, v, hF, hG, hh, ow => by unfold own at ow; exact ow.mono hF
  | _, _, .rd, h, S, v, hF, hG, hh, ow => by unfold own at ow; exact ow.mono hG
  | _, _, .pin q, h, S, v, hF, hG, hh, ow => by unfold own at ow; exact See.ok q hF hG hh ow.2
  | _, _, .lst q, h, S, v, hF, hG, hh, ow => by
    unfold own at ow
    obtain ⟨p, vs, h', e, q1, q2, q3, q4⟩ := ow
    subst e
    exact .lst (.of (hh _ _ q1)) (SeeL.ok q hF hG (q2.trans hh) q4)
  | _, _, .tup q, h, S, v, hF, hG, hh, ow => by
    unfold own at ow
    obtain ⟨p, vs, h', e, q1, q2, q3, q4⟩ := ow
    subst e
    exact .tup (.of (hh _ _ q1)) (SeeL.ok q hF hG (q2.trans hh) q4)
  | _, _, .dct q, h, S, v, hF, hG, hh, ow => by
    unfold own at ow
    obtain ⟨p, vs, h', e, q1, q2, q3, q4⟩ := ow
    subst e
    obtain ⟨e1, e2⟩ := see_mapK (fun x h v hs w => See.ok (q x) hF hG hs w) (q2.trans hh) q4
    exact dt_dct (.inl (hh _ _ q1)) e1 e2
theorem SeeL.ok {K : PySem.W.Frag} {F G : Hp} : ∀ {s : List SD} {d : List PyData}, SeeL s d → ∀ {h S : Hp} {v : List V}, Sub F S → Sub (cup F G) S → Sub h S → ownL K F G s h v → DtL K S v d
  | _, _, .nil, h, S, v, hF, hG, hh, ow => by unfold ownL at ow; subst ow; exact .nil
  | _, _, .cons q1 q2, h, S, v, hF, hG, hh, ow => by
    unfold ownL at ow
    obtain ⟨v0, vr, k1, k2, e2, s1, s2, d, w, q4⟩ := ow
    subst e2
    exact .cons (See.ok q1 hF hG (s1.trans hh) w) (SeeL.ok q2 hF hG (s2.trans hh) q4)
  | _, _, .vals, h, S, v, hF, hG, hh, ow => (ownL_vals ow).mono hF
  | _, _, .map q, h, S, v, hF, hG, hh, ow => see_map (fun x h v hs w => See.ok (q x) hF hG hs w) hh ow
  | _, _, .app q1 q2, h, S, v, hF, hG, hh, ow => by
    obtain ⟨v1, v2, k1, k2, e, s1, s2, d, w1, w2⟩ := ownL_split ow
    subst e
    exact (SeeL.ok q1 hF hG (s1.trans hh) w1).app (SeeL.ok q2 hF hG (s2.trans hh) w2)
end

/-- a tuple, to be read, its items one by one: what lasts, and what is to be read -/
inductive SeeTL : List SD → List SD → Prop
  | nil : SeeTL [] []
  | val {d : PyData} {ss l : List SD} : SeeTL ss l → SeeTL (.val d :: ss) (.val d :: l)
  | rd {s : SD} {d : PyData} {ss l : List SD} : See s d → SeeTL ss l → SeeTL (s :: ss) (.rd d :: l)
inductive SeeT : SD → List SD → Prop
  | tup {ss l : List SD} : SeeTL ss l → SeeT (.tup ss) l
  | pin {v : V} {s : SD} {l : List SD} : SeeT s l → SeeT (.pin v s) l
theorem SeeTL.ok {K : PySem.W.Frag} {F G g' : Hp} (sG : Sub (cup F G) (cup F g')) : ∀ {ss l : List SD}, SeeTL ss l → ∀ {h : Hp} {vs : List V}, Sub h (cup F g') → ownL K F G ss h vs → ownL K F g' l emp vs
  | _, _, .nil, h, vs, hh, ow => by unfold ownL at ow ⊢; exact ow
  | _, _, .val t, h, vs, hh, ow => by
    unfold ownL at ow ⊢
    obtain ⟨v, vr, h1, h2, e, s1, s2, d, w, q⟩ := ow
    refine ⟨v, vr, emp, emp, e, .emp, .emp, .emp, ?_, SeeTL.ok sG t (s2.trans hh) q⟩
    unfold own at w ⊢
    exact w
  | _, _, .rd see t, h, vs, hh, ow => by
    unfold ownL at ow ⊢
    obtain ⟨v, vr, h1, h2, e, s1, s2, d, w, q⟩ := ow
    refine ⟨v, vr, emp, emp, e, .emp, .emp, .emp, ?_, SeeTL.ok sG t (s2.trans hh) q⟩
    unfold own
    exact See.ok see .l sG (s1.trans hh) w
theorem SeeT.ok {K : PySem.W.Frag} {F G g' : Hp} (sG : Sub (cup F G) (cup F g')) : ∀ {s : SD} {l : List SD}, SeeT s l → ∀ {h : Hp} {v : V}, Sub h (cup F g') → own K F G s h v → own K F g' (.rt l) emp v
  | _, _, .tup t, h, v, hh, ow => by
    unfold own at ow ⊢
    obtain ⟨p, vs, h', e, q1, q2, q3, q4⟩ := ow
    exact ⟨p, vs, e, SqT.of (hh _ _ q1), t.ok sG (q2.trans hh) q4⟩
  | _, _, .pin t, h, v, hh, ow => by
    unfold own at ow
    exact SeeT.ok sG t hh ow.2
theorem SeeT.ne {s : SD} {l : List SD} (q : SeeT s l) : s ≠ .hole := fun z => by subst z; cases q

/-- a field of an object -/
inductive FldS : SD → Str → SD → Prop
  | obj {C : Addr} {l : List (Str × SD)} {f : Str} {s : SD} (h : l.lookup f = some s) : FldS (.obj C l) f s
  | pin {v : V} {s0 s : SD} {f : Str} (h : FldS s0 f s) : FldS (.pin v s0) f s
theorem ownF_look {K : PySem.W.Frag} {F G : Hp} {f : Str} {s : SD} : ∀ {l : List (Str × SD)} {h : Hp} {fs : List (Str × V)}, ownF K F G l h fs → l.lookup f = some s → ∃ v h1, fs.lookup f = some v ∧ Sub h1 h ∧ own K F G s h1 v
  | [], _, _, _, e => nomatch e
  | (n, t) :: r, h, fs, q, e => by
    unfold ownF at q
    obtain ⟨v, fr, h1, h2, ef, s1, s2, d, w, q⟩ := q
    subst ef
    rw [List.lookup_cons] at e ⊢
    cases c : f == n with
    | true =>
      rw [c] at e
      cases e
      exact ⟨v, h1, rfl, s1, w⟩
    | false =>
      rw [c] at e
      obtain ⟨u, k1, e1, t1, w1⟩ := ownF_look q e
      exact ⟨u, k1, e1, t1.trans s2, w1⟩
theorem FldS.ne {s0 s : SD} {f : Str} (q : FldS s0 f s) : s0 ≠ .hole := fun z => by subst z; cases q
theorem FldS.ok {s0 s : SD} {f : Str} (q : FldS s0 f s) {K : PySem.W.Frag} {F G h : Hp} {v0 : V} (ow : own K F G s0 h v0) : ∃ a C dx fs v h1, v0 = .ref a ∧ h a = some (.ins C dx fs) ∧ fs.lookup f = some v ∧ Sub h1 h ∧ own K F G s h1 v := by
  induction q with
  | obj hl =>
    unfold own at ow
    obtain ⟨p, dx, fs, h', e, q1, q2, q3, q4⟩ := ow
    obtain ⟨v, h1, e1, t1, w1⟩ := ownF_look q4 hl
    exact ⟨p, _, dx, fs, v, h1, e, q1, e1, t1.trans q2, w1⟩
  | pin _ ih =>
    unfold own at ow
    exact ih ow.2
/-- a slot's field: where it lies, what it is -/
theorem FldS.at {Γ : List SD} {s0 s : SD} {f : Str} {i : Nat} (q : FldS s0 f s) (hi : Γ[i]? = some s0) {K : PySem.W.Frag} {F G h1 h2 : Hp} {σ : L2.St} {v : V} (he : EnvR K F G Γ h2 σ) (ow : OpdOk K F G h1 h2 σ (.fl i f) v) : ∃ h3, Sub h3 h2 ∧ own K F G s h3 v := by
  obtain ⟨o, k1, k2, eo, s1, s2, d12, w, _⟩ := he.at hi
  obtain ⟨u, eu, wu⟩ := w.val q.ne
  obtain ⟨a, C, dx, fs, e1, e2, e3⟩ := ow
  rw [eo, eu] at e1
  cases e1
  obtain ⟨a', C', dx', fs', v', k3, e4, e5, e6, s3, w3⟩ := q.ok wu
  cases e4
  have e7 := s1 _ _ e5
  rw [e2] at e7
  cases e7
  rw [e3] at e6
  cases e6
  exact ⟨k3, s3.trans s1, w3⟩
/-! ### operands against parameters -/
def sel {α : Type} : List Bool → List α → List α
  | true :: m, x :: xs => x :: sel m xs
  | false :: m, _ :: xs => sel m xs
  | _, _ => []
def slots : List Bool → List Opd → List Nat
  | true :: m, .at i :: os => i :: slots m os
  | _ :: m, _ :: os => slots m os
  | _, _ => []
/-- Γf: the environment that stays meanwhile; mask: what is taken out and handed back -/
inductive Resv (Γf : List SD) : List Opd → List SD → List Bool → Prop
  | nil : Resv Γf [] [] []
  | own {s : SD} {os : List Opd} {ss : List SD} {m : List Bool} (t : Resv Γf os ss m) : Resv Γf (.own s :: os) (s :: ss) (false :: m)
  | ownR {s : SD} {d : PyData} {os : List Opd} {ss : List SD} {m : List Bool} (q : See s d) (t : Resv Γf os ss m) : Resv Γf (.own s :: os) (.rd d :: ss) (false :: m)
  | lend {i : Nat} {s : SD} {d : PyData} {os : List Opd} {ss : List SD} {m : List Bool} (hi : Γf[i]? = some s) (q : See s d) (t : Resv Γf os ss m) : Resv Γf (.at i :: os) (.rd d :: ss) (false :: m)
  | inout {i : Nat} {s : SD} {os : List Opd} {ss : List SD} {m : List Bool} (t : Resv Γf os ss m) : Resv Γf (.at i :: os) (s :: ss) (true :: m)
  | lendT {i : Nat} {s : SD} {l : List SD} {os : List Opd} {ss : List SD} {m : List Bool} (hi : Γf[i]? = some s) (q : SeeT s l) (t : Resv Γf os ss m) : Resv Γf (.at i :: os) (.rt l :: ss) (false :: m)
/-- a slot's thing: plain, or pinned -/
inductive Wrap : SD → SD → (SD → SD) → Prop
  | plain {s : SD} (hs : s ≠ .hole) : Wrap s s id
  | pin {v : V} {s : SD} : Wrap (.pin v s) s (.pin v)
inductive Take : List SD → List Nat → List SD → List (SD → SD) → List SD → Prop
  | nil {Γ : List SD} : Take Γ [] [] [] Γ
  | cons {Γ Γf xs : List SD} {is : List Nat} {ws : List (SD → SD)} {i : Nat} {s0 s : SD} {w : SD → SD} (hi : Γ[i]? = some s0) (hw : Wrap s0 s w) (t : Take (Γ.set i .hole) is xs ws Γf) : Take Γ (i :: is) (s :: xs) (w :: ws) Γf
def putB (Γf : List SD) : List Nat → List (SD → SD) → List SD → List SD
  | i :: is, w :: ws, o :: os => (putB Γf is ws os).set i (w o)
  | _, _, _ => Γf
section
variable {K : PySem.W.Frag} {F G h : Hp} {σ : L2.St}
/-- the values that stand in some slots -/
def SlotsV (σ : L2.St) : List Nat → List V → Prop
  | [], vs => vs = []
  | i :: is, vs => ∃ v vr, vs = v :: vr ∧ σ[i]? = some (some v) ∧ SlotsV σ is vr
theorem ownL_append2 {s : SD} {ss : List SD} {h1 h2 : Hp} {v : V} {vs : List V} (a : own K F G s h1 v) (b : ownL K F G ss h2 vs) (d : Dis h1 h2) : ownL K F G (s :: ss) (cup h1 h2) (v :: vs) := by
  unfold ownL
  exact ⟨v, vs, h1, h2, rfl, .l, .r d, d, a, b⟩
theorem Wrap.ok {s0 s : SD} {w : SD → SD} {o : Option V} (q : Wrap s0 s w) (a : ownO K F G s0 h o) : ∃ v, o = some v ∧ own K F G s h v ∧ ∀ {F' h' : Hp} {s' : SD}, ownO K F' G s' h' (some v) → ownO K F' G (w s') h' (some v) := by
  cases q with
  | plain hs =>
    obtain ⟨v, ev, wv⟩ := a.val hs
    exact ⟨v, ev, wv, fun z => z⟩
  | @pin u =>
    obtain ⟨v, ev, wv⟩ := a
    unfold own at wv
    refine ⟨v, ev, wv.2, fun {F' h' s'} z => ⟨v, rfl, ?_⟩⟩
    unfold own
    refine ⟨wv.1, ?_⟩
    cases s' with
    | hole => unfold own; trivial
    | _ =>
      obtain ⟨x, e1, e2⟩ := z
      cases e1
      exact e2
theorem Take.ok (fg : Dis F G) : ∀ {Γ : List SD} {is : List Nat} {xs : List SD} {ws : List (SD → SD)} {Γf : List SD}, Take Γ is xs ws Γf → ∀ {h : Hp}, EnvR K F G Γ h σ → ∃ hx hr vs, (is = [] → hr = h) ∧ Sub hx h ∧ Sub hr h ∧ Dis hx hr ∧ SlotsV σ is vs ∧ ownL K F G xs hx vs ∧ EnvR K F G Γf hr σ ∧
    ∀ (F' : Hp) (os : List SD) (hx' : Hp), Sub F F' → Dis F' G → EnvR K F' G os hx' (vs.map some) → Dis hx' hr → EnvR K F' G (putB Γf is ws os) (cup hx' hr) σ
  | _, _, _, _, _, .nil, h, he => ⟨emp, h, [], fun _ => rfl, .emp, .refl, .emp, rfl, by unfold ownL; rfl, he, fun F' os hx' x d q dd => he.mono x d (.r dd)⟩
  | Γ, i :: is, s :: xs, _, Γf, .cons (ws := ws) hi hw t, h, he => by
    obtain ⟨o, k1, k2, e, s1, s2, d12, w, back⟩ := he.at hi
    obtain ⟨v, ev, wv, wback⟩ := hw.ok w
    subst ev
    have es : σ.set i (some v) = σ := by
      obtain ⟨hl, e'⟩ := List.getElem?_eq_some_iff.mp e
      rw [← e']; exact List.set_getElem_self hl
    have E2 := back F .hole (some v) emp k2 .refl fg trivial .emp .emp .refl
    rw [es] at E2
    obtain ⟨hx, hr, vs, _, a1, a2, a3, a4, a5, a6, a7⟩ := Take.ok fg t E2
    refine ⟨cup k1 hx, hr, v :: vs, (fun z => nomatch z), Sub.cup s1 (a1.trans s2), a2.trans s2, Dis.cup (d12.mono .refl a2) a3, ⟨v, vs, rfl, e, a4⟩, ownL_append2 wv a5 (d12.mono .refl a1), a6, fun F' os hx' x d q dd => ?_⟩
    cases os with
    | nil => exact a6.mono x d (.r dd)
    | cons o os =>
      obtain ⟨ov, σr, q1, q2, e2, t1, t2, d3, w3, q3⟩ := q
      cases e2
      have z := a7 F' os q2 x d q3 (dd.mono t2 .refl)
      have hl : i < (putB Γf is ws os).length := by rw [z.len.symm]; exact (List.getElem?_eq_some_iff.mp e).1
      obtain ⟨o0, m1, m2, e0, u1, u2, d0, w0, back0⟩ := z.at (i := i) (s := (putB Γf is ws os)[i]) (by simp [hl])
      have z2 := back0 F' _ (some v) q1 (cup hx' hr) .refl d (wback w3) ?_ (t1.trans .l) (u2.trans (Sub.cup (t2.trans .l) (.r dd)))
      · rw [es] at z2
        exact z2
      · exact (Dis.cup d3.symm (dd.mono t1 .refl).symm).symm.mono .refl u2
theorem EnvR.sel {F' : Hp} (fg : Dis F' G) : ∀ {m : List Bool} {os : List SD} {vs : List V} {h : Hp}, EnvR K F' G os h (vs.map some) → EnvR K F' G (sel m os) h ((sel m vs).map some)
  | [], os, vs, h, q => by cases os <;> rfl
  | true :: m, [], vs, h, q => by
    cases vs with
    | nil => rfl
    | cons v vs => exact absurd q (by intro z; cases z)
  | false :: m, [], vs, h, q => by
    cases vs with
    | nil => rfl
    | cons v vs => exact absurd q (by intro z; cases z)
  | b :: m, o :: os, vs, h, ⟨ov, σr, q1, q2, e2, t1, t2, d3, w3, q3⟩ => by
    cases vs with
    | nil => cases e2
    | cons v vs =>
      cases e2
      cases b with
      | true => exact ⟨some v, _, q1, q2, rfl, t1, t2, d3, w3, q3.sel fg⟩
      | false => exact (q3.sel fg (m := m)).mono .refl fg t2
theorem Resv.ok {Γf : List SD} {hr : Hp} (er : EnvR K F G Γf hr σ) : ∀ {os : List Opd} {ss : List SD} {m : List Bool}, Resv Γf os ss m → ∀ {h1 h2 hx : Hp} {vs vx : List V}, OpdsOk K F G os h1 h2 σ vs → SlotsV σ (slots m os) vx → ownL K F G (sel m ss) hx vx → Dis h1 hx →
    vx = sel m vs ∧ ∃ ho hd, Sub ho (cup h1 hx) ∧ Sub hd h1 ∧ Dis ho hd ∧ ∀ g', Sub G g' → Sub hd g' → Sub hr g' → Dis F g' → ownL K F g' ss ho vs
  | _, _, _, .nil, h1, h2, hx, vs, vx, q, sv, ox, d => by
    have e1 : vs = [] := q
    have e2 : vx = [] := sv
    subst e1 e2
    exact ⟨rfl, emp, emp, .emp, .emp, .emp, fun g' _ _ _ _ => by unfold ownL; rfl⟩
  | _, _, _, .own (m := m) t, h1, h2, hx, vs, vx, ⟨v, vr, ha, hb, e, s1, s2, dd, w, q⟩, sv, ox, d => by
    subst e
    obtain ⟨e1, ho, hd, a1, a2, a3, a4⟩ := Resv.ok er t q (m := m) sv ox (d.mono s2 .refl)
    have dax : Dis ha (cup hb hx) := (Dis.cup dd.symm (d.mono s1 .refl).symm).symm
    refine ⟨e1, cup ha ho, hd, Sub.cup (s1.trans .l) (a1.trans (Sub.cup (s2.trans .l) (.r d))), a2.trans s2, Dis.cup (dd.mono .refl a2) a3, fun g' b1 b2 b3 b4 => ownL_append2 (own_mono .refl (Sub.cup2 .refl b1 b4) _ .refl w) (a4 g' b1 b2 b3 b4) (dax.mono .refl a1)⟩
  | _, _, _, .ownR (d := dt) (m := m) see t, h1, h2, hx, vs, vx, ⟨v, vr, ha, hb, e, s1, s2, dd, w, q⟩, sv, ox, d => by
    subst e
    obtain ⟨e1, ho, hd, a1, a2, a3, a4⟩ := Resv.ok er t q (m := m) sv ox (d.mono s2 .refl)
    have dax : Dis ha (cup hb hx) := (Dis.cup dd.symm (d.mono s1 .refl).symm).symm
    refine ⟨e1, ho, cup ha hd, a1.trans (Sub.cup (s2.trans .l) (.r d)), Sub.cup s1 (a2.trans s2), (Dis.cup (dax.mono .refl a1) a3.symm).symm, fun g' b1 b2 b3 b4 => ?_⟩
    have z : Tsa.own K F g' (.rd dt) emp v := by
      unfold Tsa.own
      exact See.ok see .l (Sub.cup2 .refl b1 b4) ((Sub.l.trans b2).trans (.r b4)) w
    exact ownL_mono .refl .refl _ (Sub.cup .emp .refl) (ownL_append2 z (a4 g' b1 ((Sub.r (dd.mono .refl a2)).trans b2) b3 b4) .emp)
  | _, _, _, .lend (d := dt) (m := m) hi see t, h1, h2, hx, vs, vx, ⟨v, vr, ha, hb, e, s1, s2, dd, w, q⟩, sv, ox, d => by
    subst e
    obtain ⟨e1, ho, hd, a1, a2, a3, a4⟩ := Resv.ok er t q (m := m) sv ox (d.mono s2 .refl)
    refine ⟨e1, ho, hd, a1.trans (Sub.cup (s2.trans .l) (.r d)), a2.trans s2, a3, fun g' b1 b2 b3 b4 => ?_⟩
    obtain ⟨o, k1, k2, eo, t1, t2, d12, wo, _⟩ := er.at hi
    have hne : ∀ {s : SD} {dt : PyData}, See s dt → s ≠ .hole := fun q z => by subst z; cases q
    obtain ⟨u, eu, wu⟩ := wo.val (hne see)
    have ev : u = v := by
      have w' : σ[_]? = some (some v) := w
      rw [eo, eu] at w'
      exact Option.some.inj (Option.some.inj w')
    subst ev
    have z : Tsa.own K F g' (.rd dt) emp u := by
      unfold Tsa.own
      exact See.ok see .l (Sub.cup2 .refl b1 b4) ((t1.trans b3).trans (.r b4)) wu
    exact ownL_mono .refl .refl _ (Sub.cup .emp .refl) (ownL_append2 z (a4 g' b1 b2 b3 b4) .emp)
  | _, _, _, .lendT (m := m) hi see t, h1, h2, hx, vs, vx, ⟨v, vr, ha, hb, e, s1, s2, dd, w, q⟩, sv, ox, d => by
    subst e
    obtain ⟨e1, ho, hd, a1, a2, a3, a4⟩ := Resv.ok er t q (m := m) sv ox (d.mono s2 .refl)
    refine ⟨e1, ho, hd, a1.trans (Sub.cup (s2.trans .l) (.r d)), a2.trans s2, a3, fun g' b1 b2 b3 b4 => ?_⟩
    obtain ⟨o, k1, k2, eo, t1, t2, d12, wo, _⟩ := er.at hi
    obtain ⟨u, eu, wu⟩ := wo.val see.ne
    have ev : u = v := by
      have w' : σ[_]? = some (some v) := w
      rw [eo, eu] at w'
      exact Option.some.inj (Option.some.inj w')
    subst ev
    have z := SeeT.ok (K := K) (Sub.cup2 .refl b1 b4) see ((t1.trans b3).trans (.r b4)) wu
    exact ownL_mono .refl .refl _ (Sub.cup .emp .refl) (ownL_append2 z (a4 g' b1 b2 b3 b4) .emp)
  | _, _, _, .inout (m := m) t, h1, h2, hx, vs, vx, ⟨v, vr, ha, hb, e, s1, s2, dd, w, q⟩, sv, ox, d => by
    subst e
    obtain ⟨v', vr', e', eσ, sv'⟩ := sv
    subst e'
    have ev : v' = v := by
      have w' : σ[_]? = some (some v) := w
      rw [eσ] at w'
      exact Option.some.inj (Option.some.inj w')
    subst ev
    have ox' : ownL K F G (_ :: sel m _) hx (v' :: vr') := ox
    unfold ownL at ox'
    obtain ⟨v0, v1, k1, k2, e0, t1, t2, d12, wx, ox2⟩ := ox'
    cases e0
    obtain ⟨e1, ho, hd, a1, a2, a3, a4⟩ := Resv.ok er t q (m := m) sv' ox2 (d.mono s2 t2)
    have dk : Dis k1 ho := ((Dis.cup (d.mono s2 t1) d12.symm).mono a1 .refl).symm
    refine ⟨by show _ :: _ = _ :: sel m vr; rw [e1], cup k1 ho, hd, Sub.cup (t1.trans (.r d)) (a1.trans (Sub.cup (s2.trans .l) (t2.trans (.r d)))), a2.trans s2, Dis.cup (d.mono (a2.trans s2) t1).symm a3, fun g' b1 b2 b3 b4 => ownL_append2 (own_mono .refl (Sub.cup2 .refl b1 b4) _ .refl wx) (a4 g' b1 b2 b3 b4) dk⟩
end

/-! ### calls -/
section
variable {K : PySem.W.Frag} {X : Cx} {C : XC} {pu pt : Bool} {ω ω' ι : Type} {Γ : List SD} {e o : Expr} {es : List Expr} {M : Res ω} {pos p : Pos} {k : Opd → List SD → Res ω → Prop} {ka : List Opd → List SD → Res ω → Prop} {lv : Nat} {f : Addr} {fd : FuncData} {ps : List Str} {sp : Sp} {x : Str}
  {args : ι → List SD} {mir : ι → Res ω'} {ret : ι → ω' → SD} {out : ι → ω' → List SD} {xout : ι → List SD} {dvs : List V} {ds : List Value}
/-- the callee runs -/
theorem runG {pins : List (Addr × Obj)} {σ : L2.St} {H : Hp} {s : Shared} {Q : VK} {E : XK} {us : List Value} {vs : List V} (Fn : FnG X.prog X.w X.K X.mg X.base lv f fd ps sp) (hr : RoomG lv X.A) (hb : Binds X.K fd ps ds) (hd : Vals dvs ds) (hx : PassesAt (L2N.CX X.prog X.w) X σ E)
    (I : Inv X pins σ H s) (r : Vals vs us) (h : sp (vs ++ dvs) H Q E) : wpAny (model X.prog X.w) X.A (call (.ref f) us) (EP X pins σ Q) X.xe s := by
  have all : Vals (vs ++ dvs) (us ++ ds) := r.append hd
  have count : (us ++ ds).length = ps.length := by
    rw [← all.length]
    exact Fn.len _ _ _ _ h
  have went := Fn.run X.A X.stack s H ⟨us, []⟩ (us ++ ds) (vs ++ dvs) Q E hr I.env0 (hb s us I.kIn count) all h
  refine wpAny_call (codeAny_mono went ?_)
  intro res s' got
  match res, got with
  | .error e, got => exact hx pins H s e s' I got
  | .ok (.ret u), got => exact I.after got
  | .ok .next, got => exact got.elim
  | .ok .brk, got => exact got.elim
  | .ok .cont, got => exact got.elim
/-- what a call's arguments are to the callee -/
def Args (C : XC) {ω ω' ι : Type} (args : ι → List SD) (mir : ι → Res ω') (ret : ι → ω' → SD) (out : ι → ω' → List SD) (xout : ι → List SD) (dl : List SD) (pu : Bool) (k : Opd → List SD → Res ω → Prop) (os : List Opd) (Γ1 : List SD) (M1 : Res ω) : Prop :=
  ∃ (i : ι) (ss : List SD) (m : List Bool) (Γf : List SD) (ws : List (SD → SD)) (kM : ω' → Res ω), Take Γ1 (slots m os) (sel m ss) ws Γf ∧ Resv Γf os ss m ∧ args i = ss ++ dl ∧ M1 = (mir i).bind kM ∧
    (∀ e, mir i = .ex e → Le (putB Γf (slots m os) ws (sel m (xout i))) C.Γx) ∧ (pu = true → Γf = Γ1 ∧ slots m os = []) ∧ ∀ r, mir i = .ok r → k (.own (ret i r)) (putB Γf (slots m os) ws (sel m (out i r))) (kM r)
theorem ownL_appL {F G : Hp} : ∀ {a b : List SD} {h : Hp} {vs us : List V}, ownL K F G a h vs → ownL K F G b emp us → ownL K F G (a ++ b) h (vs ++ us)
  | [], b, h, vs, us, q, r => by
    unfold ownL at q
    subst q
    exact ownL_mono .refl .refl _ .emp r
  | s :: a, b, h, vs, us, q, r => by
    unfold ownL at q
    obtain ⟨v, vr, h1, h2, e, s1, s2, d, w, q⟩ := q
    subst e
    show ownL K F G (s :: (a ++ b)) h (v :: (vr ++ us))
    unfold ownL
    exact ⟨v, _, h1, h2, rfl, s1, s2, d, w, ownL_appL q r⟩
theorem sel_app {α : Type} : ∀ {m : List Bool} {a b : List α}, m.length = a.length → sel m (a ++ b) = sel m a
  | [], [], b, _ => by cases b <;> rfl
  | true :: m, x :: a, b, h => by show x :: sel m (a ++ b) = x :: sel m a; rw [sel_app (by simpa using h)]
  | false :: m, x :: a, b, h => by show sel m (a ++ b) = sel m a; exact sel_app (by simpa using h)
theorem Resv.len {Γf : List SD} : ∀ {os : List Opd} {ss : List SD} {m : List Bool}, Resv Γf os ss m → m.length = os.length
  | _, _, _, .nil => rfl
  | _, _, _, .own t => by rw [List.length_cons, List.length_cons, t.len]
  | _, _, _, .ownR _ t => by rw [List.length_cons, List.length_cons, t.len]
  | _, _, _, .lend _ _ t => by rw [List.length_cons, List.length_cons, t.len]
  | _, _, _, .inout t => by rw [List.length_cons, List.length_cons, t.len]
  | _, _, _, .lendT _ _ t => by rw [List.length_cons, List.length_cons, t.len]
theorem OpdsOk.len {F G : Hp} {σ : L2.St} {h2 : Hp} : ∀ {os : List Opd} {h1 : Hp} {vs : List V}, OpdsOk K F G os h1 h2 σ vs → os.length = vs.length
  | [], _, _, q => by rw [show _ = [] from q]; rfl
  | _ :: _, _, _, ⟨_, _, _, _, e, _, _, _, _, q⟩ => by rw [e, List.length_cons, List.length_cons, q.len]
theorem NRL.sel {ss : List SD} (n : NRL ss) : ∀ {m : List Bool}, NRL (Tsa.sel m ss) := by
  induction ss with
  | nil => intro m; cases m with
    | nil => exact NRL.nil
    | cons b m => cases b <;> exact NRL.nil
  | cons s ss ih =>
    intro m
    have n' : NRL ss := fun x hx => n x (List.mem_cons_of_mem _ hx)
    cases m with
    | nil => exact NRL.nil
    | cons b m =>
      cases b with
      | true => exact NRL.cons (n s (List.mem_cons_self ..)) (ih n')
      | false => exact ih n'
/-- the callee's promise is asked rightly -/
theorem args_sp {dl : List SD} {os : List Opd} {Γ1 : List SD} {M1 : Res ω} (A : Args C args mir ret out xout dl pu k os Γ1 M1) (hdl : ∀ F G, ownL X.K F G dl emp dvs) (nr : ∀ i r, NR (ret i r)) (no : ∀ i r, NRL (out i r)) (nx : ∀ i, NRL (xout i)) (nex : ∀ i e, mir i = .ex e → NRF e.flds)
    {F1 h1 h2 g H1 : Hp} {σ : L2.St} {vs : List V} {Q : VK} (ow1 : OpdsOk X.K F1 C.G os h1 h2 σ vs) (he1 : EnvR X.K F1 C.G Γ1 h2 σ) (d1 : Dis h1 h2) (hf1 : Fits F1 (cup h1 h2) g H1) (hG : Sub C.G g) (hu : M1 ≠ .un) (hx : XOk X.K C F1 g M1)
    (hq : ∀ (o : Opd) (Γ' : List SD) (M' : Res ω), k o Γ' M' → M' = M1 → ∀ (v : V) (F' k1 k2 H' : Hp), Sub F1 F' → OpdOk X.K F' C.G k1 k2 σ o v → EnvR X.K F' C.G Γ' k2 σ → Dis k1 k2 → Fits F' (cup k1 k2) g H' → (pu = true → Sub h2 k2 ∧ Γ' = Γ1) → Q v H') :
    SpM X.K args mir ret out xout (vs ++ dvs) H1 Q (fun c d H' => C.E c d σ H') := by
  obtain ⟨i, ss, m, Γf, ws, kM, tk, rs, ea, eM, hex, hpu, hk⟩ := A
  have fg : Dis F1 C.G := hf1.fg.mono .refl hG
  obtain ⟨hxx, hr, vx, a0, a1, a2, a3, a4, a5, a6, a7⟩ := tk.ok fg he1
  obtain ⟨e1, ho, hd, b1, b2, b3, b4⟩ := rs.ok a6 ow1 a4 a5 (d1.mono .refl a1)
  have dor : Dis ho hr := (Dis.cup (d1.mono .refl a2) a3).mono b1 .refl
  have ddr : Dis hd hr := d1.mono b2 a2
  have all : Sub (cup hd (cup hr ho)) (cup h1 h2) := Sub.cup (b2.trans .l) (Sub.cup (a2.trans (.r d1)) (b1.trans (Sub.cup2 .refl a1 d1)))
  have f1 := (hf1.sub all).out (Dis.cup ddr.symm b3).symm
  have f2 := f1.out dor.symm
  have dgd : Dis hd g := hf1.hg.mono (b2.trans .l) .refl
  have dgr : Dis hr (cup hd g) := (Dis.cup ddr (hf1.hg.mono (a2.trans (.r d1)) .refl).symm).symm
  have sg : Sub g (cup hr (cup hd g)) := (Sub.r dgd).trans (.r dgr)
  have hlen : m.length = vs.length := by rw [rs.len, ow1.len]
  have evx : sel m (vs ++ dvs) = vx := by rw [sel_app hlen, e1]
  refine ⟨i, F1, ho, cup hr (cup hd g), ?_, f2, fun z => hu (by rw [eM, z]; rfl), fun r hr' v F2 k1 k2 H2 x2 owr eout dd ff => ?_, fun e hee c od F2 hx' k2 H2 x2 en eout dd ff => ?_⟩
  · rw [ea]
    exact ownL_appL (b4 _ (hG.trans sg) (Sub.l.trans (.r dgr)) .l f2.fg) (hdl _ _)
  · have f3 := (ff.inn dgr).less (.r dgd)
    have dkr : Dis k2 hr := (ff.hg.mono (.r dd) .l)
    have dk1r : Dis k1 hr := (ff.hg.mono .l .l)
    have z := eout.sel (m := m) (fun _ => .inr rfl)
    rw [evx] at z
    refine hq _ _ (kM r) (hk r hr') (by rw [eM, hr']; rfl) v F2 k1 (cup k2 hr) H2 x2 (nr i r _ _ _ _ _ _ owr) (a7 F2 _ k2 x2 (f3.fg.mono .refl hG) (((no i r).sel).env z) dkr) (Dis.cup dd.symm dk1r.symm).symm (f3.sub ?_) fun w => ?_
    · exact Sub.cup (Sub.l.trans (.r (ff.hg.mono .refl .l).symm)) (Sub.cup ((Sub.r dd).trans (.r (ff.hg.mono .refl .l).symm)) .l)
    · obtain ⟨w1, w2⟩ := hpu w
      refine ⟨?_, ?_⟩
      · have z := a0 w2
        rw [z] at dkr
        rw [z]
        exact .r dkr
      · rw [w2, w1]
        rfl
  · have f3 := (ff.inn dgr).less (.r dgd)
    have dkr : Dis k2 hr := (ff.hg.mono (.r dd) .l)
    have dk1r : Dis hx' hr := (ff.hg.mono .l .l)
    have z := eout.sel (m := m) (fun _ => .inr rfl)
    rw [evx] at z
    refine hx e (by rw [eM, hee]; rfl) c od F2 hx' (cup k2 hr) H2 σ x2 ?_ ((hex e hee).ok (a7 F2 _ k2 x2 (f3.fg.mono .refl hG) (((nx i).sel).env z) dkr)) (Dis.cup dd.symm dk1r.symm).symm (f3.sub ?_)
    · obtain ⟨z1, z2⟩ := en
      refine ⟨z1, ?_⟩
      rcases z2 with z2 | ⟨dd, z3, z4⟩
      · exact .inl z2
      · exact .inr ⟨dd, z3, NR.xds (nex i e hee) _ _ _ _ _ _ z4⟩
    · exact Sub.cup (Sub.l.trans (.r (ff.hg.mono .refl .l).symm)) (Sub.cup ((Sub.r dd).trans (.r (ff.hg.mono .refl .l).symm)) .l)
theorem call_core {dl : List SD} {t : TA} (h : JTA X.K C pu Γ t M (Args C args mir ret out xout dl pu k)) (hdl : ∀ F G, ownL X.K F G dl emp dvs) (nr : ∀ i r, NR (ret i r)) (no : ∀ i r, NRL (out i r)) (nx : ∀ i, NRL (xout i)) (nex : ∀ i e, mir i = .ex e → NRF e.flds) :
    JT X.K C pu Γ (fun σ H Q => t σ H fun vs H1 => SpM X.K args mir ret out xout (vs ++ dvs) H1 Q (fun c d H' => C.E c d σ H')) M k := by
  intro F h0 g H σ Q he hf hG hu hx hq
  refine h F h0 g H σ _ he hf hG hu hx fun os Γ1 M1 A hm vs F1 h1 h2 H1 x1 ow1 he1 d1 hf1 hp1 => ?_
  subst hm
  exact args_sp A hdl nr no nx nex ow1 he1 d1 hf1 hG hu (hx.mono x1) fun o Γ' M' hk hm v F' k1 k2 H' a1 a2 a3 a4 a5 a6 => hq o Γ' M' hk hm v F' k1 k2 H' (x1.trans a1) a2 a3 a4 a5 fun z => ⟨(hp1 z).1.trans (a6 z).1, (a6 z).2.trans (hp1 z).2⟩
end
end Tsa

/-! M10: calls by name, of methods, of classes. -/
namespace Tsa
open PySem PySem.Spec PyProof.Rows L2
section
variable {K : PySem.W.Frag} {X : Cx} {C : XC} {pu pt : Bool} {ω ω' ι : Type} {Γ : List SD} {e o : Expr} {es : List Expr} {M : Res ω} {pos p apos : Pos} {k : Opd → List SD → Res ω → Prop} {ka : List Opd → List SD → Res ω → Prop} {lv : Nat} {f Ca : Addr} {fd : FuncData} {ps : List Str} {sp : Sp} {x m : Str}
  {args : ι → List SD} {mir : ι → Res ω'} {ret : ι → ω' → SD} {out : ι → ω' → List SD} {xout : ι → List SD} {dvs : List V} {ds : List Value} {E : WX} {t : TA} {ta : TE}
abbrev tCallG (sp : Sp) (dvs : List V) (E : WX) (t : TA) : TE := fun σ H Q => t σ H fun vs H1 => sp (vs ++ dvs) H1 Q (fun c d H' => E c d σ H')
theorem pe_callG (Fn : FnG X.prog X.w X.K X.mg X.base lv f fd ps sp) (hr : RoomG lv X.A) (hg : Gl X x) (hm : X.mg x = some (.ref f)) (hk : PySem.W.keepIn X.K (.ref f) = true) (hb : Binds X.K fd ps ds) (hd : Vals dvs ds) (hx : PassesW X E)
    (ha : PA X (e :: es) t) (hdb : (x == ("__debug__" : Str)) = false := by decide) (he : starEach (e :: es) X.env = (false, eval e X.env) :: starEach es X.env := by rfl) (hpl : (backTo pos (starEach es X.env)).any (·.1) = false := by rfl) :
    PE X (.Call (.Name x p) (e :: es) [] pos) (tCallG sp dvs E t) :=
  ⟨fun pins s σ H Q I h => wpAny_Call_Name_kw (ld_glob I hg hm (PySem.W.callWith_K (h₀ := X.base) I.ok.mod.kin hk (thn (ha.run pos pins s σ H _ I h) fun us s1 ⟨vs, H1, I1, r, q⟩ => ⟨I1.kIn, runG Fn hr hb hd (hx σ) I1 r q⟩) he hpl) hdb)⟩
/-- what stands of a callee: where it lies, what it promises -/
structure Callee (X : Cx) {ι ω' : Type} (lv : Nat) (f : Addr) (args : ι → List SD) (mir : ι → Res ω') (ret : ι → ω' → SD) (out : ι → ω' → List SD) (xout : ι → List SD) (dl : List SD) : Prop where
  ex : ∃ (fd : FuncData) (ps : List Str) (dvs : List V) (ds : List Value), FnG X.prog X.w X.K X.mg X.base lv f fd ps (SpM X.K args mir ret out xout) ∧ Binds X.K fd ps ds ∧ Vals dvs ds ∧ ∀ F G, ownL X.K F G dl emp dvs
  keep : PySem.W.keepIn X.K (.ref f) = true
  nr : ∀ i r, NR (ret i r)
  no : ∀ i r, NRL (out i r)
  nx : ∀ i, NRL (xout i)
  nex : ∀ i e, mir i = .ex e → NRF e.flds
variable {dl : List SD}
/-- a call by name; dl: the defaults that fill up -/
theorem JE.call (c : Callee X lv f args mir ret out xout dl) (hr : RoomG lv X.A) (hm : X.mg x = some (.ref f)) (hx : PassesW X C.E)
    (h : JA X C pu Γ (e :: es) M (Args C args mir ret out xout dl pu k)) (hg : Gl X x := by rfl) (hdb : (x == ("__debug__" : Str)) = false := by decide)
    (he : starEach (e :: es) X.env = (false, eval e X.env) :: starEach es X.env := by rfl) (hpl : (backTo pos (starEach es X.env)).any (·.1) = false := by rfl) : JE X C pu Γ (.Call (.Name x p) (e :: es) [] pos) M k := by
  obtain ⟨fd, ps, dvs, ds, Fn, hb, hd, hdl⟩ := c.ex
  exact JE.of (pe_callG Fn hr hg hm c.keep hb hd hx pa_sem hdb he hpl) (call_core h hdl c.nr c.no c.nx c.nex)
/-! ### methods -/
abbrev tMethG (Ca : Addr) (m : Str) (sp : Sp) (dvs : List V) (E : WX) (ta : TE) (t : TA) : TE := fun σ H Q => ta σ H fun x H1 => ∃ a dx fs, x = .ref a ∧ H1 a = some (.ins Ca dx fs) ∧ fs.lookup m = none ∧ t σ H1 fun vs H2 => sp (x :: (vs ++ dvs)) H2 Q (fun c d H' => E c d σ H')
inductive ObjAt : SD → Addr → List (Str × SD) → Prop
  | obj {Ca : Addr} {l : List (Str × SD)} : ObjAt (.obj Ca l) Ca l
  | pin {v : V} {Ca : Addr} {l : List (Str × SD)} : ObjAt (.pin v (.obj Ca l)) Ca l
/-! ### new instances -/
abbrev tMakeG (Ca : Addr) (sp : Sp) (dvs : List V) (E : WX) (t : TA) : TE := fun σ H Q => t σ H fun vs H1 => ∀ x dx, H1 x = none → H1 dx = none → dx ≠ x →
  sp (.ref x :: (vs ++ dvs)) (upd (upd H1 dx (.own x)) x (.ins Ca dx [])) (fun v H2 => v = .non ∧ Q (.ref x) H2) (fun c d H' => E c d σ H')
/-- one slot more -/
theorem EnvR.more {F G : Hp} : ∀ {Γ : List SD} {h h1 : Hp} {σ : L2.St} {s : SD} {o : Option V}, EnvR K F G Γ h σ → ownO K F G s h1 o → Dis h h1 → EnvR K F G (Γ ++ [s]) (cup h h1) (σ ++ [o])
  | [], h, h1, σ, s, o, q, w, d => by
    have e : σ = [] := q
    subst e
    exact ⟨o, [], h1, emp, rfl, .r d, .emp, Dis.emp.symm, w, rfl⟩
  | t :: r, h, h1, σ, s, o, ⟨ov, σr, k1, k2, e, s1, s2, d12, wt, q⟩, w, d => by
    subst e
    exact ⟨ov, _, k1, cup k2 h1, rfl, s1.trans .l, Sub.cup (s2.trans .l) (.r d), (Dis.cup d12.symm (d.mono s1 .refl).symm).symm, wt, EnvR.more q w (d.mono s2 .refl)⟩
theorem EnvR.last {F G : Hp} : ∀ {Γ : List SD} {h : Hp} {σ : L2.St} {s : SD} {o : Option V}, EnvR K F G Γ h (σ ++ [o]) → Γ.getLast? = some s → ∃ h1 h2, Sub h1 h ∧ Sub h2 h ∧ Dis h1 h2 ∧ ownO K F G s h1 o ∧ EnvR K F G Γ.dropLast h2 σ
  | [], _, _, _, _, _, e => by cases e
  | [t], h, σ, s, o, ⟨ov, σr, k1, k2, e, s1, s2, d12, w, q⟩, el => by
    have e2 : σr = [] := q
    subst e2
    cases σ with
    | nil =>
      cases e
      cases el
      exact ⟨k1, k2, s1, s2, d12, w, rfl⟩
    | cons a σ => simp at e
  | t :: t2 :: r, h, σ, s, o, ⟨ov, σr, k1, k2, e, s1, s2, d12, w, q⟩, el => by
    cases σ with
    | nil =>
      have hl := EnvR.len q
      simp at e
      rw [e.2] at hl
      simp at hl
    | cons a σ =>
      have e' : a :: (σ ++ [o]) = ov :: σr := e
      cases e'
      obtain ⟨h1, h2, t1, t2', d, w2, q2⟩ := EnvR.last q (by simpa using el)
      refine ⟨h1, cup k1 h2, t1.trans s2, Sub.cup s1 (t2'.trans s2), (Dis.cup (d12.mono .refl t1) d.symm).symm, w2, ?_⟩
      exact ⟨_, σ, k1, h2, rfl, .l, .r (d12.mono .refl t2'), d12.mono .refl t2', w, q2⟩
/-- C(..): its __init__ hands the new object back -/
abbrev moreX (C : XC) : XC := { C with Γx := C.Γx ++ [.hole], E := fun c d σ H => C.E c d σ.dropLast H }
end
end Tsa

/-! M11: sequences: looked at, indexed, made, locked. -/
namespace Tsa
open PySem PySem.Spec PyProof.Rows L2
section
variable {K : PySem.W.Frag} {X : Cx} {C : XC} {pu pt : Bool} {ω : Type} {Γ : List SD} {e a b : Expr} {es : List Expr} {M : Res ω} {pos p : Pos} {ta tb : TE} {k : Opd → List SD → Res ω → Prop}
/-- two operands -/
theorem JT.two2 {r : R2} {Z : Opd → Opd → List SD → Res ω → Prop} (h : JT K C pu Γ ta M fun oa Γ1 M1 => ((∃ s, oa = .own s) ∨ (∃ i, oa = .at i) ∨ pt = true) ∧ (pu = true → pt = true) ∧ JT K C pt Γ1 tb M1 fun ob Γ2 M2 => Z oa ob Γ2 M2)
    (fin : ∀ (oa ob : Opd) (Γ2 : List SD), Z oa ob Γ2 M → ∀ (F h1 h h2 g H : Hp) (σ : L2.St) (va vb : V) (Q : VK), OpdsOk K F C.G [oa, ob] h1 h2 σ [va, vb] → EnvR K F C.G Γ2 h2 σ → Dis h1 h2 →
      Fits F (cup h1 h2) g H → Sub C.G g → (pu = true → Sub h h2 ∧ Γ2 = Γ) → M ≠ .un → XOk K C F g M → Kt K C pu Γ M k F h g σ Q → r va vb H Q) : JT K C pu Γ (tOp r ta tb) M k := by
  intro F h0 g H σ Q he hf hG hu hx hq
  refine h F h0 g H σ _ he hf hG hu hx fun oa Γ1 M1 ⟨ho, hpt, hj⟩ hm va F1 ha h1 H1 x1 ow he1 d1 hf1 hp1 => ?_
  subst hm
  have dag : Dis ha g := hf1.hg.mono .l .refl
  have hf1' := hf1.out d1
  have hx1 : XOk K C F1 (cup ha g) M1 := fun e hm c od F' hx' h' H' σ' s ex en dd ff => by
    refine hx e hm c od F' hx' h' H' σ' (x1.trans s) ex en dd ((ff.inn dag).sub (.r ff.dis))
  refine hj F1 h1 (cup ha g) H1 σ _ he1 hf1' (hG.trans (.r dag)) hu hx1 fun ob Γ2 M2 hk hm2 vb F2 hb h2 H2 x2 ow2 he2 d2 hf2 hp2 => ?_
  subst hm2
  have hf3 := hf2.inn dag
  have dha : Dis ha (cup hb h2) := hf2.dis
  have dfg : Dis F2 C.G := hf3.fg.mono .refl hG
  have dgh2 : Dis C.G h2 := (hf3.hg.mono ((Sub.r d2).trans (.r dha)) hG).symm
  refine fin oa ob Γ2 hk F2 (cup ha hb) h0 h2 g H2 σ va vb Q ⟨va, [vb], ha, hb, rfl, .l, .r (dha.mono .refl .l), dha.mono .refl .l, ow.mono x2 dfg (Dis.cup dfg.symm (hf3.fh.mono .refl ((Sub.r d2).trans (.r dha))).symm).symm dgh2 ?_, ⟨vb, [], hb, emp, rfl, .refl, .emp, Dis.emp.symm, ow2, rfl⟩⟩ he2 (Dis.cup (dha.mono .refl (.r d2)) d2) (by rw [cup_assoc]; exact hf3) hG
    (fun z => ⟨(hp1 z).1.trans (hp2 (hpt z)).1, (hp2 (hpt z)).2.trans (hp1 z).2⟩) hu (hx.mono (x1.trans x2)) ?_
  · rcases ho with z | z | z
    · exact .inl z
    · exact .inr (.inl z)
    · exact .inr (.inr (hp2 z).1)
  · exact fun o Γ' M' hk hm v F' h1' h2' H' x => hq o Γ' M' hk hm v F' h1' h2' H' ((x1.trans x2).trans x)

/-! ### views -/
/-- a sequence behind an operand: a tuple (true) or a list, its items lasting -/
inductive SeqV (Γ : List SD) : Opd → Bool → List SD → Prop
  | own {s : SD} {t : Bool} {ys : List SD} (q : SeqOf s t ys) : SeqV Γ (.own s) t ys
  | at {i : Nat} {s : SD} {t : Bool} {ys : List SD} (hi : Γ[i]? = some s) (q : SeqOf s t ys) : SeqV Γ (.at i) t ys
  | pin {i : Nat} {v : V} {s : SD} {t : Bool} {ys : List SD} (hi : Γ[i]? = some (.pin v s)) (q : SeqOf s t ys) : SeqV Γ (.at i) t ys
  | fl {i : Nat} {f : Str} {s0 s : SD} {t : Bool} {ys : List SD} (hi : Γ[i]? = some s0) (hf : FldS s0 f s) (q : SeqOf s t ys) : SeqV Γ (.fl i f) t ys
  | brw {s : SD} {t : Bool} {ys : List SD} (q : SeqOf s t ys) : SeqV Γ (.brw s) t ys
theorem SeqOf.ne {s : SD} {t : Bool} {ys : List SD} (q : SeqOf s t ys) : s ≠ .hole := fun z => by subst z; cases q
theorem SeqV.ok {o : Opd} {t : Bool} {ys : List SD} (q : SeqV Γ o t ys) {F G h1 h2 g H : Hp} {σ : L2.St} {v : V} (ow : OpdOk K F G h1 h2 σ o v) (he : EnvR K F G Γ h2 σ) (d : Dis h1 h2) (hf : Fits F (cup h1 h2) g H) (hG : Sub G g) :
    ∃ p vs, v = .ref p ∧ vs.length = ys.length ∧ (if t then SqT K H p vs else SqL K H p vs) ∧ ∀ (i : Nat) (s : SD), ys[i]? = some s → ∃ x, vs[i]? = some x ∧ Tsa.own K F G s emp x := by
  have at_ : ∀ {s : SD} {h : Hp}, SeqOf s t ys → Sub h (cup h1 h2) → Tsa.own K F G s h v → ∃ p vs, v = .ref p ∧ vs.length = ys.length ∧ (if t then SqT K H p vs else SqL K H p vs) ∧ ∀ (i : Nat) (s : SD), ys[i]? = some s → ∃ x, vs[i]? = some x ∧ Tsa.own K F G s emp x := by
    intro s h q sb ow
    have f := hf.sub sb
    obtain ⟨p, vs, e, l, z, it⟩ := q.at ow f hG
    have f2 : Fits F (cup h emp) g H := f.sub (Sub.cup .refl .emp)
    exact ⟨p, vs, e, l, z H emp F .refl (f2.out Dis.emp.symm), it⟩
  cases q with
  | own q => exact at_ q .l ow
  | «at» hi q =>
    obtain ⟨o, k1, k2, eo, s1, s2, d12, w, _⟩ := he.at hi
    obtain ⟨u, eu, wu⟩ := w.val q.ne
    have ow' : σ[_]? = some (some v) := ow
    rw [eo, eu] at ow'
    cases ow'
    exact at_ q (s1.trans (.r d)) wu
  | pin hi q =>
    obtain ⟨o, k1, k2, eo, s1, s2, d12, w, _⟩ := he.at hi
    obtain ⟨u, eu, wu⟩ := w.val (by intro z; cases z)
    have ow' : σ[_]? = some (some v) := ow
    rw [eo, eu] at ow'
    cases ow'
    unfold Tsa.own at wu
    exact at_ q (s1.trans (.r d)) wu.2
  | fl hi hf q =>
    obtain ⟨h3, s3, w3⟩ := hf.at hi he ow
    exact at_ q (s3.trans (.r d)) w3
  | brw q =>
    obtain ⟨h3, s3, w3⟩ := ow
    exact at_ q (s3.trans (.r d)) w3
/-- an item, or nothing that is walked -/
def idx {α : Type} (xs : List α) (i : Int) : Res α := match atI xs i with
  | some x => .ok x
  | none => .un
theorem atI_map {α β : Type} {f : α → β} {xs : List α} {i : Int} : atI (xs.map f) i = (atI xs i).map f := by
  unfold atI
  rw [List.length_map]
  cases ixN xs.length i with
  | none => rfl
  | some j => show (xs.map f)[j]? = (xs[j]?).map f; rw [List.getElem?_map]
theorem atI_len {α β : Type} {xs : List α} {ys : List β} {i : Int} {y : β} (h : xs.length = ys.length) (e : atI ys i = some y) : ∃ j, ixN xs.length i = some j ∧ ys[j]? = some y := by
  unfold atI at e
  rw [← h] at e
  cases q : ixN xs.length i with
  | none => rw [q] at e; cases e
  | some j => rw [q] at e; exact ⟨j, rfl, e⟩
theorem ix_any {X : Cx} (t : Bool) : IxR X (if t then rIxT X.K else rIxL X.K) := by
  cases t with
  | true => exact ix_tup
  | false => exact ix_list
/-- e[i], i reckoned -/
theorem JE.ix {α : Type} {xs : List α} {f : α → SD} {t : Bool} (h : JE X C pu Γ a M fun oa Γ1 M1 => ((∃ s, oa = .own s) ∨ (∃ i, oa = .at i)) ∧ JI X C pu Γ1 b M1 fun i Γ2 M2 => ∃ kM, SeqV Γ2 oa t (xs.map f) ∧ M2 = (idx xs i).bind kM ∧ ∀ x, idx xs i = .ok x → k (.own (f x)) Γ2 (kM x)) (hs : PlainIx b := by exact fun _ _ => rfl) :
    JE X C pu Γ (.Subscript a b pos) M k := by
  refine JE.of (pe_ix (ix_any t) pe_sem pe_sem hs) (JT.two2 (pt := pu) (Z := fun oa ob Γ2 M2 => ∃ i, ob = .own (.val (.int i)) ∧ ∃ kM, SeqV Γ2 oa t (xs.map f) ∧ M2 = (idx xs i).bind kM ∧ ∀ x, idx xs i = .ok x → k (.own (f x)) Γ2 (kM x)) (h.mono fun oa Γ1 M1 ⟨h1, h2⟩ => ⟨by
    rcases h1 with h1 | h1
    · exact .inl h1
    · exact .inr (.inl h1), fun z => z, h2⟩) ?_)
  intro oa ob Γ2 ⟨i, e2, kM, sv, eM, hk⟩ F h1 h0 h2 g H σ va vb Q ow he d hf hG hp hu hx hq
  subst e2
  obtain ⟨va', vr, ha, hb, ev, s1, s2, dd, w1, v2, vr2, hb1, hb2, ev2, s3, s4, dd2, w2, e3⟩ := ow
  cases ev
  cases ev2
  unfold OpdOk own at w2
  obtain rfl := w2.intV
  have d1 : Dis ha h2 := d.mono s1 .refl
  obtain ⟨p, vs, e, l, z, it⟩ := sv.ok w1 he d1 (hf.sub (Sub.cup2 s1 .refl d)) hG
  subst e
  cases hx' : atI xs i with
  | none =>
    refine absurd ?_ hu
    rw [eM]; unfold idx; rw [hx']; rfl
  | some x =>
    have hidx : idx xs i = .ok x := by unfold idx; rw [hx']
    have ha' : atI (xs.map f) i = some (f x) := by rw [atI_map, hx']; rfl
    obtain ⟨j, ej, ey⟩ := atI_len (xs := vs) l ha'
    obtain ⟨y, ey2, wy⟩ := it j _ ey
    have hy : atI vs i = some y := by unfold atI; rw [ej]; exact ey2
    have fin : Q y H := hq _ _ (kM x) (hk x hidx) (by rw [eM, hidx]; rfl) y F emp h2 H .refl wy he .emp ((hf.sub (.r d)).emp) hp
    cases t with
    | true => exact ⟨p, vs, i, y, rfl, rfl, z, hy, fin⟩
    | false => exact ⟨p, vs, i, y, rfl, rfl, z, hy, fin⟩
/-- e[3]: the items told -/
theorem JE.ixC {ys : List SD} {s : SD} {t : Bool} {i : Int} {j} {p' : Pos} (h : JE X C pu Γ a M fun oa Γ1 M1 => ((∃ s, oa = .own s) ∨ (∃ i, oa = .at i)) ∧ SeqV Γ1 oa t ys ∧ atI ys i = some s ∧ k (.own s) Γ1 M1) : JE X C pu Γ (.Subscript a (.Constant (.int i) j p') pos) M k := by
  refine JE.of (pe_ix (ix_any t) pe_sem pe_int (fun _ _ => rfl)) fun F h0 g H σ Q he hf hG hu hx hq => h F h0 g H σ _ he hf hG hu hx fun oa Γ1 M1 ⟨_, sv, hs, hk⟩ hm v F' h1 h2 H' x ow he' d hf' hp => ?_
  obtain ⟨p, vs, e, l, z, it⟩ := sv.ok ow he' d hf' hG
  subst e
  obtain ⟨j', ej, ey⟩ := atI_len (xs := vs) l hs
  obtain ⟨y, ey2, wy⟩ := it j' _ ey
  have hy : atI vs i = some y := by unfold atI; rw [ej]; exact ey2
  have fin : Q y H' := hq _ _ M1 hk hm y F' emp h2 H' x wy he' .emp ((hf'.un d).emp) hp
  cases t with
  | true => exact ⟨p, vs, i, y, rfl, rfl, z, hy, fin⟩
  | false => exact ⟨p, vs, i, y, rfl, rfl, z, hy, fin⟩
/-- len: of anything whose length shows -/
inductive LenV (Γ : List SD) : Opd → Nat → Prop
  | seq {o : Opd} {t : Bool} {ys : List SD} {n : Nat} (q : SeqV Γ o t ys) (hn : ys.length = n) : LenV Γ o n
  | lst {l : List SD} {n : Nat} (hn : l.length = n) : LenV Γ (.own (.lst l)) n
  | lstAt {i : Nat} {l : List SD} {n : Nat} (hi : Γ[i]? = some (.lst l)) (hn : l.length = n) : LenV Γ (.at i) n
  | lstPin {i : Nat} {v : V} {l : List SD} {n : Nat} (hi : Γ[i]? = some (.pin v (.lst l))) (hn : l.length = n) : LenV Γ (.at i) n
  | lstFl {i : Nat} {f : Str} {s0 : SD} {l : List SD} {n : Nat} (hi : Γ[i]? = some s0) (hf : FldS s0 f (.lst l)) (hn : l.length = n) : LenV Γ (.fl i f) n
theorem LenV.ok {o : Opd} {n : Nat} (q : LenV Γ o n) {F G h1 h2 g H : Hp} {σ : L2.St} {v : V} (ow : OpdOk K F G h1 h2 σ o v) (he : EnvR K F G Γ h2 σ) (d : Dis h1 h2) (hf : Fits F (cup h1 h2) g H) (hG : Sub G g) :
    ∃ p vs, v = .ref p ∧ vs.length = n ∧ (SqL K H p vs ∨ SqT K H p vs) := by
  have at_ : ∀ {l : List SD} {h : Hp}, l.length = n → Sub h (cup h1 h2) → own K F G (.lst l) h v → ∃ p vs, v = .ref p ∧ vs.length = n ∧ (SqL K H p vs ∨ SqT K H p vs) := by
    intro l h hn sb ow
    unfold own at ow
    obtain ⟨p, vs, h', e, q1, q2, q3, q4⟩ := ow
    exact ⟨p, vs, e, by rw [ownL_len q4]; exact hn, .inl (.of (hf.hH _ _ (sb _ _ q1)))⟩
  cases q with
  | seq q hn =>
    obtain ⟨p, vs, e, l, z, it⟩ := q.ok ow he d hf hG
    rename_i t _
    refine ⟨p, vs, e, l.trans hn, ?_⟩
    cases t with
    | true => exact .inr z
    | false => exact .inl z
  | lst hn => exact at_ hn .l ow
  | lstFl hi hf' hn =>
    obtain ⟨h3, s3, w3⟩ := hf'.at hi he ow
    exact at_ hn (s3.trans (.r d)) w3
  | lstAt hi hn =>
    obtain ⟨o, k1, k2, eo, s1, s2, d12, w, _⟩ := he.at hi
    obtain ⟨u, eu, wu⟩ := w.val (by intro z; cases z)
    have ow' : σ[_]? = some (some v) := ow
    rw [eo, eu] at ow'
    cases ow'
    exact at_ hn (s1.trans (.r d)) wu
  | lstPin hi hn =>
    obtain ⟨o, k1, k2, eo, s1, s2, d12, w, _⟩ := he.at hi
    obtain ⟨u, eu, wu⟩ := w.val (by intro z; cases z)
    have ow' : σ[_]? = some (some v) := ow
    rw [eo, eu] at ow'
    cases ow'
    unfold own at wu
    exact at_ hn (s1.trans (.r d)) wu.2

/-! ### built-ins -/
theorem semA_sz {X : Cx} {es : List Expr} {σ : L2.St} {H : Hp} {Q : List V → Hp → Prop} (h : semA X es σ H fun v H' => Sz X.K H' → Q v H') : semA X es σ H Q := by
  unfold semA at h ⊢
  exact fun pos pins s I => wpAny_mono (h pos pins s I) (fun u s' ⟨v, H', I', r, q⟩ => ⟨v, H', I', r, q (sz_of I')⟩) fun _ _ z => z
def BiK (K : PySem.W.Frag) (C : XC) (pu : Bool) {ω : Type} (r : List V → Hp → VK → Prop) (os : List Opd) (Γ : List SD) (M : Res ω) (k : Opd → List SD → Res ω → Prop) : Prop :=
  ∀ (vs : List V) (F h1 h2 g H : Hp) (σ : L2.St) (Q : VK), OpdsOk K F C.G os h1 h2 σ vs → EnvR K F C.G Γ h2 σ → Dis h1 h2 → Fits F (cup h1 h2) g H → Sub C.G g → Sz K H → M ≠ .un → Kt K C pu Γ M k F h2 g σ Q → r vs H Q
theorem bi_core {r : List V → Hp → VK → Prop} (h : JA X C pu Γ (e :: es) M fun os Γ1 M1 => BiK X.K C pu r os Γ1 M1 k) : JT X.K C pu Γ (tCB r (semA X (e :: es))) M k :=
  fun F h0 g H σ Q he hf hG hu hx hq => semA_sz (h F h0 g H σ _ he hf hG hu hx fun os Γ1 M1 hk hm vs F' h1 h2 H' x ow he' d hf' hp sz => by
    subst hm
    exact hk vs F' h1 h2 g H' σ Q ow he' d hf' hG sz hu fun o Γ' M' hk hm v F2 k1 k2 H2 x2 a2 a3 a4 a5 a6 => hq o Γ' M' hk hm v F2 k1 k2 H2 (x.trans x2) a2 a3 a4 a5 fun z => ⟨(hp z).1.trans (a6 z).1, (a6 z).2.trans (hp z).2⟩)
/-- a built-in by its name -/
theorem JE.bi {id : String} {r : List V → Hp → VK → Prop} {x : Str} (hc : CallR X (.builtin id) r) (hm : X.mg x = none) (h : JA X C pu Γ (e :: es) M fun os Γ1 M1 => BiK X.K C pu r os Γ1 M1 k) (hv : bootBuiltins x = some (.builtin id) := by rfl) (hg : Gl X x := by rfl) (hn : x ≠ "__name__" := by decide)
    (hdb : (x == ("__debug__" : Str)) = false := by decide) (hs : starEach (e :: es) X.env = (false, eval e X.env) :: starEach es X.env := by rfl) (hpl : (backTo pos (starEach es X.env)).any (·.1) = false := by rfl) : JE X C pu Γ (.Call (.Name x p) (e :: es) [] pos) M k :=
  JE.of (pe_callB hc hg hm hv pa_sem hn hdb hs hpl) (bi_core h)
/-- a built-in type by its name -/
theorem JE.ty {T : String} {r : List V → Hp → VK → Prop} {x : Str} (hc : CallR X (.type T) r) (hm : X.mg x = none) (h : JA X C pu Γ (e :: es) M fun os Γ1 M1 => BiK X.K C pu r os Γ1 M1 k) (hv : bootBuiltins x = some (.type T) := by rfl) (hg : Gl X x := by rfl) (hn : x ≠ "__name__" := by decide)
    (hdb : (x == ("__debug__" : Str)) = false := by decide) (hs : starEach (e :: es) X.env = (false, eval e X.env) :: starEach es X.env := by rfl) (hpl : (backTo pos (starEach es X.env)).any (·.1) = false := by rfl) : JE X C pu Γ (.Call (.Name x p) (e :: es) [] pos) M k :=
  JE.of (pe_callTy hc hg hm hv pa_sem hn hdb hs hpl) (bi_core h)
/-- at the end: a new object, standing on what is owned -/
theorem Kt.new {F h1 h2 g H : Hp} {σ : L2.St} {Q : VK} {s : SD} {o : HO} {q : Addr} (hq : Kt K C pu Γ M k F h2 g σ Q) (hk : k (.own s) Γ M) (he : EnvR K F C.G Γ h2 σ) (d : Dis h1 h2) (hf : Fits F (cup h1 h2) g H) (hp : H q = none) (ow : own K F C.G s (cup (sgl q o) h1) (.ref q)) : Q (.ref q) (upd H q o) := by
  have n := hf.no hp
  have n2 : h2 q = none := (Sub.r d).no n.2.1
  refine hq _ _ M hk rfl (.ref q) F (cup (sgl q o) h1) h2 _ .refl ow he (Dis.cup (Dis.one n2) d) ?_ fun _ => ⟨.refl, rfl⟩
  rw [cup_assoc]
  exact hf.new hp
/-- operands that are owned -/
theorem OpdsOk.owns {F G h2 : Hp} {σ : L2.St} : ∀ {ss : List SD} {h1 : Hp} {vs : List V}, OpdsOk K F G (ss.map .own) h1 h2 σ vs → ownL K F G ss h1 vs
  | [], _, _, q => by unfold ownL; exact q
  | s :: ss, _, _, ⟨v, vr, ha, hb, e, s1, s2, dd, w, q⟩ => by
    unfold ownL
    exact ⟨v, vr, ha, hb, e, s1, s2, dd, w, OpdsOk.owns q⟩
theorem OpdsOk.one {F G h1 h2 : Hp} {σ : L2.St} {o : Opd} {vs : List V} (q : OpdsOk K F G [o] h1 h2 σ vs) : ∃ v ha, vs = [v] ∧ Sub ha h1 ∧ OpdOk K F G ha h2 σ o v := by
  obtain ⟨v, vr, ha, hb, e, s1, s2, dd, w, q⟩ := q
  cases q
  exact ⟨v, ha, e, s1, w⟩
theorem OpdsOk.two {F G h1 h2 : Hp} {σ : L2.St} {o o' : Opd} {vs : List V} (q : OpdsOk K F G [o, o'] h1 h2 σ vs) : ∃ v v' ha hb, vs = [v, v'] ∧ Sub ha h1 ∧ Sub hb h1 ∧ Dis ha hb ∧ OpdOk K F G ha h2 σ o v ∧ OpdOk K F G hb h2 σ o' v' := by
  obtain ⟨v, vr, ha, hb, e, s1, s2, dd, w, q⟩ := q
  obtain ⟨v', hb', e2, s3, w2⟩ := q.one
  exact ⟨v, v', ha, hb', by rw [e, e2], s1, s3.trans s2, dd.mono .refl s3, w, w2⟩
theorem OpdOk.intV {F G h1 h2 : Hp} {σ : L2.St} {v : V} {i : Int} (q : OpdOk K F G h1 h2 σ (.own (.val (.int i))) v) : v = .int i := by
  unfold OpdOk own at q
  exact q.intV
theorem OpdOk.blV {F G h1 h2 : Hp} {σ : L2.St} {v : V} {i : Bool} (q : OpdOk K F G h1 h2 σ (.own (.val (.bool i))) v) : v = .bl i := by
  unfold OpdOk own at q
  exact q.blV

/-- what any operand looks like -/
inductive SeeO (Γ : List SD) : Opd → PyData → Prop
  | own {s : SD} {d : PyData} (h : See s d) : SeeO Γ (.own s) d
  | at {i : Nat} {s : SD} {d : PyData} (hi : Γ[i]? = some s) (h : See s d) : SeeO Γ (.at i) d
  | bor {d : PyData} : SeeO Γ (.bor d) d
  | fl {i : Nat} {f : Str} {s0 s : SD} {d : PyData} (hi : Γ[i]? = some s0) (hf : FldS s0 f s) (h : See s d) : SeeO Γ (.fl i f) d
  | brw {s : SD} {d : PyData} (h : See s d) : SeeO Γ (.brw s) d
theorem See.ne {s : SD} {d : PyData} (q : See s d) : s ≠ .hole := fun z => by subst z; cases q
theorem SeeO.ok {o : Opd} {d : PyData} (q : SeeO Γ o d) {F G h1 h2 ha g H : Hp} {σ : L2.St} {v : V} (ow : OpdOk K F G h1 h2 σ o v) (hs : Sub h1 ha) (he : EnvR K F G Γ h2 σ) (dd : Dis ha h2) (hf : Fits F (cup ha h2) g H) (hG : Sub G g) : Dt K H v d := by
  have sF : Sub F H := hf.fH
  have sG : Sub (cup F G) H := Sub.cup hf.fH (hG.trans hf.gH)
  cases q with
  | own q => exact q.ok sF sG (hs.trans (Sub.l.trans hf.hH)) ow
  | «at» hi q =>
    obtain ⟨o, k1, k2, eo, s1, s2, d12, w, _⟩ := he.at hi
    obtain ⟨u, eu, wu⟩ := w.val q.ne
    have ow' : σ[_]? = some (some v) := ow
    rw [eo, eu] at ow'
    cases ow'
    exact q.ok sF sG (s1.trans ((Sub.r dd).trans hf.hH)) wu
  | bor => exact Dt.mono (Sub.cup hf.fH (Sub.cup (hG.trans hf.gH) ((Sub.r dd).trans hf.hH))) ow
  | fl hi hfl q =>
    obtain ⟨h3, s3, w3⟩ := hfl.at hi he ow
    exact q.ok sF sG (s3.trans ((Sub.r dd).trans hf.hH)) w3
  | brw q =>
    obtain ⟨h3, s3, w3⟩ := ow
    exact q.ok sF sG (s3.trans ((Sub.r dd).trans hf.hH)) w3
/-! may be locked: nothing is read of the frame -/
mutual
inductive Fz : SD → PyData → Prop
  | val {d : PyData} : Fz (.val d) d
  | lst {ss : List SD} {ds : List PyData} : FzL ss ds → Fz (.lst ss) (.list ds)
  | tup {ss : List SD} {ds : List PyData} : FzL ss ds → Fz (.tup ss) (.tuple ds)
  | dct {α : Type} {m : List α} {kk : α → Key} {f : α → SD} {g : α → PyData} : (∀ x, Fz (f x) (g x)) → Fz (.dct (m.map fun x => (kk x, f x))) (.dict (m.map fun x => (kD (kk x), g x)))
inductive FzL : List SD → List PyData → Prop
  | nil : FzL [] []
  | cons {s : SD} {d : PyData} {ss : List SD} {ds : List PyData} : Fz s d → FzL ss ds → FzL (s :: ss) (d :: ds)
  | vals {ds : List PyData} : FzL (ds.map .val) ds
  | map {α : Type} {xs : List α} {f : α → SD} {g : α → PyData} : (∀ x, Fz (f x) (g x)) → FzL (xs.map f) (xs.map g)
  | app {a b : List SD} {c d : List PyData} : FzL a c → FzL b d → FzL (a ++ b) (c ++ d)
end
mutual
theorem Fz.ok {F G : Hp} : ∀ {s : SD} {d : PyData}, Fz s d → ∀ {h S : Hp} {v : V}, Sub F S → Sub h S → own K F G s h v → Dt K S v d
  | _, _, .val, h, S, v, hF, hh, ow => by unfold own at ow; exact ow.mono hF
  | _, _, .lst q, h, S, v, hF, hh, ow => by
    unfold own at ow
    obtain ⟨p, vs, h', e, q1, q2, q3, q4⟩ := ow
    subst e
    exact .lst (.of (hh _ _ q1)) (FzL.ok q hF (q2.trans hh) q4)
  | _, _, .tup q, h, S, v, hF, hh, ow => by
    unfold own at ow
    obtain ⟨p, vs, h', e, q1, q2, q3, q4⟩ := ow
    subst e
    exact .tup (.of (hh _ _ q1)) (FzL.ok q hF (q2.trans hh) q4)
  | _, _, .dct q, h, S, v, hF, hh, ow => by
    unfold own at ow
    obtain ⟨p, vs, h', e, q1, q2, q3, q4⟩ := ow
    subst e
    obtain ⟨e1, e2⟩ := see_mapK (fun x h v hs w => Fz.ok (q x) hF hs w) (q2.trans hh) q4
    exact dt_dct (.inl (hh _ _ q1)) e1 e2
theorem FzL.ok {F G : Hp} : ∀ {s : List SD} {d : List PyData}, FzL s d → ∀ {h S : Hp} {v : List V}, Sub F S → Sub h S → ownL K F G s h v → DtL K S v d
  | _, _, .nil, h, S, v, hF, hh, ow => by unfold ownL at ow; subst ow; exact .nil
  | _, _, .cons q1 q2, h, S, v, hF, hh, ow => by
    unfold ownL at ow
    obtain ⟨v0, vr, k1, k2, e2, s1, s2, d, w, q4⟩ := ow
    subst e2
    exact .cons (Fz.ok q1 hF (s1.trans hh) w) (FzL.ok q2 hF (s2.trans hh) q4)
  | _, _, .vals, h, S, v, hF, hh, ow => (ownL_vals ow).mono hF
  | _, _, .map q, h, S, v, hF, hh, ow => see_map (fun x h v hs w => Fz.ok (q x) hF hs w) hh ow
  | _, _, .app q1 q2, h, S, v, hF, hh, ow => by
    obtain ⟨v1, v2, k1, k2, e, s1, s2, d, w1, w2⟩ := ownL_split ow
    subst e
    exact (FzL.ok q1 hF (s1.trans hh) w1).app (FzL.ok q2 hF (s2.trans hh) w2)
end
/-- what is owned is locked -/
theorem JT.frz {t : TE} (h : JT K C pu Γ t M fun o Γ1 M1 => ∃ s d, o = .own s ∧ Fz s d ∧ k (.own (.val d)) Γ1 M1) : JT K C pu Γ t M k :=
  fun F h0 g H σ Q he hf hG hu hx hq => h F h0 g H σ Q he hf hG hu hx fun o Γ1 M1 ⟨s, d, e, fz, hk⟩ hm v F' h1 h2 H' x ow he' dd hf' hp => by
    subst e
    have hf2 := hf'.freeze dd
    refine hq _ Γ1 M1 hk hm v (cup F' h1) emp h2 H' (x.trans .l) ?_ (he'.mono .l (hf2.G hG) .refl) .emp hf2.emp hp
    unfold OpdOk own
    exact fz.ok .l (.r (hf'.fh.mono .refl .l)) ow
/-- (a, b, ..) -/
theorem JE.tupD {x1} (h : JA X C pu Γ es M fun os Γ1 M1 => ∃ ss, os = ss.map .own ∧ ss.length ≤ 1000 ∧ k (.own (.tup ss)) Γ1 M1) : JE X C pu Γ (.Tuple es x1 pos) M k :=
  JE.of (pe_tup pa_sem) fun F h0 g H σ Q he hf hG hu hx hq => h F h0 g H σ _ he hf hG hu hx fun os Γ1 M1 ⟨ss, e, hz, hk⟩ hm vs F' h1 h2 H' x ow he' d hf' hp => by
    subst e
    subst hm
    refine ⟨by rw [ownL_len ow.owns]; exact Nat.le_trans hz (by decide), fun q hn => ?_⟩
    have n := hf'.no hn
    have n1 : h1 q = none := Sub.l.no n.2.1
    refine Kt.new (Γ := Γ1) (F := F') (fun o Γ' M' hk hm v F2 k1 k2 H2 x2 a2 a3 a4 a5 a6 => hq o Γ' M' hk hm v F2 k1 k2 H2 (x.trans x2) a2 a3 a4 a5 fun z => ⟨(hp z).1.trans (a6 z).1, (a6 z).2.trans (hp z).2⟩) hk he' d hf' hn ?_
    unfold own
    exact ⟨q, vs, h1, rfl, cup_some one_same, .r (Dis.one n1), n1, ow.owns⟩
/-- [a, b, ..] -/
theorem JE.lstD (h : JA X C pu Γ es M fun os Γ1 M1 => ∃ ss, os = ss.map .own ∧ ss.length ≤ 1000 ∧ k (.own (.lst ss)) Γ1 M1) : JE X C pu Γ (.List es pos) M k :=
  JE.of (pe_lst pa_sem) fun F h0 g H σ Q he hf hG hu hx hq => h F h0 g H σ _ he hf hG hu hx fun os Γ1 M1 ⟨ss, e, hz, hk⟩ hm vs F' h1 h2 H' x ow he' d hf' hp => by
    subst e
    subst hm
    refine ⟨by rw [ownL_len ow.owns]; exact Nat.le_trans hz (by decide), fun q hn => ?_⟩
    have n := hf'.no hn
    have n1 : h1 q = none := Sub.l.no n.2.1
    refine Kt.new (Γ := Γ1) (F := F') (fun o Γ' M' hk hm v F2 k1 k2 H2 x2 a2 a3 a4 a5 a6 => hq o Γ' M' hk hm v F2 k1 k2 H2 (x.trans x2) a2 a3 a4 a5 fun z => ⟨(hp z).1.trans (a6 z).1, (a6 z).2.trans (hp z).2⟩) hk he' d hf' hn ?_
    unfold own
    exact ⟨q, vs, h1, rfl, cup_some one_same, .r (Dis.one n1), n1, ow.owns⟩
end
end Tsa

/-! M12: built-ins, likeness, shown text. -/
namespace Tsa
open PySem PySem.Spec PyProof.Rows L2
section
variable {K : PySem.W.Frag} {X : Cx} {C : XC} {pu pt : Bool} {ω : Type} {Γ : List SD} {e a b tg : Expr} {es : List Expr} {M : Res ω} {pos p pn : Pos} {ta tb : TE} {k : Opd → List SD → Res ω → Prop} {ka : List Opd → List SD → Res ω → Prop}
theorem JA.one (h : JE X C pu Γ e M fun o Γ1 M1 => ka [o] Γ1 M1) (hs : starEach (e :: []) X.env = (false, eval e X.env) :: starEach [] X.env := by rfl) : JA X C pu Γ [e] M ka :=
  JA.cons (pt := true) (h.mono fun o Γ1 M1 hk => ⟨.inr (.inr rfl), fun _ => rfl, JA.nil hk⟩) hs
/-- two numbers -/
theorem JA.ints (h : JI X C pu Γ a M fun i Γ1 M1 => JI X C pu Γ1 b M1 fun j Γ2 M2 => ka [.own (.val (.int i)), .own (.val (.int j))] Γ2 M2) (hs : starEach (a :: [b]) X.env = (false, eval a X.env) :: starEach [b] X.env := by rfl) (hs2 : starEach (b :: []) X.env = (false, eval b X.env) :: starEach [] X.env := by rfl) : JA X C pu Γ [a, b] M ka :=
  JA.cons (pt := pu) (h.mono fun o Γ1 M1 ⟨i, e, h2⟩ => ⟨.inl ⟨_, e⟩, fun z => z, JA.one (h2.mono fun o' Γ2 M2 ⟨j, e2, hk⟩ => by rw [e, e2]; exact hk) hs2⟩) hs
theorem Kt.scal {F h1 h2 g H : Hp} {σ : L2.St} {Q : VK} {d : PyData} {v : V} (hq : Kt K C pu Γ M k F h2 g σ Q) (hk : k (.own (.val d)) Γ M) (he : EnvR K F C.G Γ h2 σ) (d12 : Dis h1 h2) (hf : Fits F (cup h1 h2) g H) (hd : Dt K F v d) : Q v H :=
  hq.val .refl hk hd he (hf.un d12) fun _ => ⟨.refl, rfl⟩
theorem JE.len (hm : X.mg "len" = none) (h : JE X C pu Γ e M fun o Γ1 M1 => ∃ n : Nat, LenV Γ1 o n ∧ k (.own (.val (.int n))) Γ1 M1) (hg : Gl X "len" := by rfl) (hs : starEach [e] X.env = (false, eval e X.env) :: starEach [] X.env := by rfl) : JE X C pu Γ (.Call (.Name "len" pn) [e] [] pos) M k :=
  JE.bi call_len_seq hm (JA.one (h.mono fun o Γ1 M1 ⟨n, lv, hk⟩ vs F h1 h2 g H σ Q ow he d hf hG sz hu hq => by
    obtain ⟨v, ha, e1, s1, w⟩ := ow.one
    obtain ⟨q, ws, e2, l, z⟩ := lv.ok w he (d.mono s1 .refl) (hf.sub (Sub.cup2 s1 .refl d)) hG
    subst e1 e2 l
    exact ⟨q, ws, rfl, z, hq.scal hk he d hf (.int _)⟩) hs) rfl hg (hs := hs)
theorem JE.max2 (hc : X.calm = true) (hm : X.mg "max" = none) (h : JI X C pu Γ a M fun i Γ1 M1 => JI X C pu Γ1 b M1 fun j Γ2 M2 => k (.own (.val (.int (max i j)))) Γ2 M2) (hg : Gl X "max" := by rfl) (hs : starEach (a :: [b]) X.env = (false, eval a X.env) :: starEach [b] X.env := by rfl)
    (hs2 : starEach (b :: []) X.env = (false, eval b X.env) :: starEach [] X.env := by rfl) (hpl : (backTo pos (starEach [b] X.env)).any (·.1) = false := by rfl) : JE X C pu Γ (.Call (.Name "max" pn) [a, b] [] pos) M k :=
  JE.bi (call_max2 hc) hm (JA.ints (h.mono fun o Γ1 M1 ⟨i, e, h2⟩ => ⟨i, e, h2.mono fun o' Γ2 M2 ⟨j, e2, hk⟩ => ⟨j, e2, fun vs F h1 h2 g H σ Q ow he d hf hG sz hu hq => by
    obtain ⟨v, v', ha, hb, ev, s1, s2, dd, w1, w2⟩ := ow.two
    obtain rfl := w1.intV
    obtain rfl := w2.intV
    refine ⟨i, j, ev, ?_⟩
    have em : (if j > i then j else i) = max i j := by split <;> omega
    rw [em]
    exact hq.scal hk he d hf (.int _)⟩⟩) hs hs2) rfl hg (hs := hs) (hpl := hpl)
theorem JE.abs (hm : X.mg "abs" = none) (h : JI X C pu Γ e M fun i Γ1 M1 => k (.own (.val (.int (if i < 0 then -i else i)))) Γ1 M1) (hg : Gl X "abs" := by rfl) (hs : starEach [e] X.env = (false, eval e X.env) :: starEach [] X.env := by rfl) : JE X C pu Γ (.Call (.Name "abs" pn) [e] [] pos) M k :=
  JE.bi call_abs hm (JA.one (h.mono fun o Γ1 M1 ⟨i, e, hk⟩ vs F h1 h2 g H σ Q ow he d hf hG sz hu hq => by
    subst e
    obtain ⟨v, ha, e1, s1, w⟩ := ow.one
    obtain rfl := w.intV
    exact ⟨i, e1, hq.scal hk he d hf (.int _)⟩) hs) rfl hg (hs := hs)
def ofB (b : Bool) : Int := if b then 1 else 0
theorem JE.intB (hm : X.mg "int" = none) (h : JBo X C pu Γ e M fun i Γ1 M1 => k (.own (.val (.int (ofB i)))) Γ1 M1) (hg : Gl X "int" := by rfl) (hs : starEach [e] X.env = (false, eval e X.env) :: starEach [] X.env := by rfl) : JE X C pu Γ (.Call (.Name "int" pn) [e] [] pos) M k :=
  JE.ty call_int1 hm (JA.one (h.mono fun o Γ1 M1 ⟨i, e, hk⟩ vs F h1 h2 g H σ Q ow he d hf hG sz hu hq => by
    subst e
    obtain ⟨v, ha, e1, s1, w⟩ := ow.one
    obtain rfl := w.blV
    exact .inr ⟨i, e1, hq.scal hk he d hf (.int _)⟩) hs) rfl hg (hs := hs)
/-- divmod, wide -/
theorem JE.divmod (hm : X.mg "divmod" = none) (h : JI X C pu Γ a M fun i Γ1 M1 => JI X C pu Γ1 b M1 fun j Γ2 M2 => ∃ M3, (M2 ≠ .un → M2 = M3 ∧ CDivP i j) ∧ k (.own (.tup [.val (.int (i / j)), .val (.int (i % j))])) Γ2 M3) (hg : Gl X "divmod" := by rfl) (hs : starEach (a :: [b]) X.env = (false, eval a X.env) :: starEach [b] X.env := by rfl)
    (hs2 : starEach (b :: []) X.env = (false, eval b X.env) :: starEach [] X.env := by rfl) (hpl : (backTo pos (starEach [b] X.env)).any (·.1) = false := by rfl) : JE X C pu Γ (.Call (.Name "divmod" pn) [a, b] [] pos) M k :=
  JE.bi call_divmodW hm (JA.ints (h.mono fun o Γ1 M1 ⟨i, e, h2⟩ => ⟨i, e, h2.mono fun o' Γ2 M2 ⟨j, e2, M3, hM, hk⟩ => ⟨j, e2, fun vs F h1 h2 g H σ Q ow he d hf hG sz hu hq => by
    obtain ⟨eM, hd⟩ := hM hu
    subst eM
    obtain ⟨v, v', ha, hb, ev, s1, s2, dd, w1, w2⟩ := ow.two
    obtain rfl := w1.intV
    obtain rfl := w2.intV
    refine ⟨i, j, ev, hd, fun q hn => ?_⟩
    have n := hf.no hn
    have n1 : h1 q = none := Sub.l.no n.2.1
    refine hq.new hk he d hf hn ?_
    unfold own
    refine ⟨q, _, h1, rfl, cup_some one_same, .r (Dis.one n1), n1, ?_⟩
    unfold ownL ownL ownL
    exact ⟨_, _, emp, emp, rfl, .emp, .emp, .emp, by unfold own; exact .int _, _, _, emp, emp, rfl, .refl, .refl, .emp, by unfold own; exact .int _, rfl⟩⟩⟩) hs hs2) rfl hg (hs := hs) (hpl := hpl)
/-- items that lean on nothing of their own -/
theorem ownL_last {F G : Hp} : ∀ {ys : List SD} {vs : List V}, vs.length = ys.length → (∀ (i : Nat) (s : SD), ys[i]? = some s → ∃ x, vs[i]? = some x ∧ own K F G s emp x) → ∀ {h : Hp}, ownL K F G ys h vs
  | [], vs, l, _, h => by
    unfold ownL
    exact List.length_eq_zero_iff.mp l
  | s :: ys, [], l, _, h => by cases l
  | s :: ys, v :: vs, l, it, h => by
    unfold ownL
    obtain ⟨x, e, w⟩ := it 0 s rfl
    cases e
    exact ⟨v, vs, emp, h, rfl, .emp, .refl, .emp, w, ownL_last (by simpa using l) fun i s hs => it (i + 1) s hs⟩
/-- list(xs) -/
theorem JE.listOf (hm : X.mg "list" = none) (h : JE X C pu Γ e M fun o Γ1 M1 => ∃ t ys, SeqV Γ1 o t ys ∧ k (.own (.lst ys)) Γ1 M1) (hg : Gl X "list" := by rfl) (hs : starEach [e] X.env = (false, eval e X.env) :: starEach [] X.env := by rfl) : JE X C pu Γ (.Call (.Name "list" pn) [e] [] pos) M k :=
  JE.ty call_list_of hm (JA.one (h.mono fun o Γ1 M1 ⟨t, ys, sv, hk⟩ vs F h1 h2 g H σ Q ow he d hf hG sz hu hq => by
    obtain ⟨v, ha, e1, s1, w⟩ := ow.one
    obtain ⟨q, ws, e2, l, z, it⟩ := sv.ok w he (d.mono s1 .refl) (hf.sub (Sub.cup2 s1 .refl d)) hG
    subst e1 e2
    refine ⟨q, ws, rfl, by cases t with | true => exact .inr z | false => exact .inl z, fun r hn => ?_⟩
    have n := hf.no hn
    have n1 : h1 r = none := Sub.l.no n.2.1
    refine hq.new hk he d hf hn ?_
    unfold own
    exact ⟨r, ws, h1, rfl, cup_some one_same, .r (Dis.one n1), n1, ownL_last l it⟩) hs) rfl hg (hs := hs)
/-- tuple(xs) of a list -/
theorem JE.tupleL (hm : X.mg "tuple" = none) (h : JE X C pu Γ e M fun o Γ1 M1 => ∃ ys, SeqV Γ1 o false ys ∧ k (.own (.tup ys)) Γ1 M1) (hg : Gl X "tuple" := by rfl) (hs : starEach [e] X.env = (false, eval e X.env) :: starEach [] X.env := by rfl) : JE X C pu Γ (.Call (.Name "tuple" pn) [e] [] pos) M k :=
  JE.ty call_tuple_of hm (JA.one (h.mono fun o Γ1 M1 ⟨ys, sv, hk⟩ vs F h1 h2 g H σ Q ow he d hf hG sz hu hq => by
    obtain ⟨v, ha, e1, s1, w⟩ := ow.one
    obtain ⟨q, ws, e2, l, z, it⟩ := sv.ok w he (d.mono s1 .refl) (hf.sub (Sub.cup2 s1 .refl d)) hG
    subst e1 e2
    refine ⟨q, ws, rfl, .inl ⟨z, fun r hn => ?_⟩⟩
    have n := hf.no hn
    have n1 : h1 r = none := Sub.l.no n.2.1
    refine hq.new hk he d hf hn ?_
    unfold own
    exact ⟨r, ws, h1, rfl, cup_some one_same, .r (Dis.one n1), n1, ownL_last l it⟩) hs) rfl hg (hs := hs)
/-! ### data as the kit sees it -/
def PlainD : PyData → Bool
  | .dict _ => false
  | _ => true
mutual
theorem Dt.dp {S : Hp} : ∀ {d : PyData} {v : V}, SeqAt.shaped d = true ∨ d.canLay0 = true → Dt K S v d → Dp K S v d
  | _, _, _, .non => .non
  | _, _, _, .bl b => .bl b
  | _, _, _, .int i => .int i
  | _, _, _, .str x => .str x
  | _, _, hc, .lst q l => .lst q (DtL.dp (by
      have z : (PyData.list _).canLay0 = true := hc.elim SeqAt.canLay_of_shaped id
      exact z) l)
  | _, _, hc, .tup q l => .tup q (DtL.dp (by
      have z : (PyData.tuple _).canLay0 = true := hc.elim SeqAt.canLay_of_shaped id
      exact z) l)
  | _, _, hc, .dct .. => by
    have z : (PyData.dict _).canLay0 = true := hc.elim SeqAt.canLay_of_shaped id
    cases z
theorem DtL.dp {S : Hp} : ∀ {ds : List PyData} {vs : List V}, PyData.canLayAll0 ds = true → DtL K S vs ds → DpAll K S vs ds
  | _, _, _, .nil => .nil
  | _, _, hc, .cons q l => .cons (Dt.dp (.inr (by
      have z := Bool.and_eq_true_iff.mp hc
      exact z.1)) q) (DtL.dp (by
      have z := Bool.and_eq_true_iff.mp hc
      exact z.2) l)
end

section
variable {K : PySem.W.Frag} {X : Cx} {C : XC} {pu pt : Bool} {ω : Type} {Γ : List SD} {e a b tg : Expr} {es : List Expr} {M : Res ω} {pos p pn : Pos} {ta tb : TE} {k : Opd → List SD → Res ω → Prop} {ka : List Opd → List SD → Res ω → Prop} {kS : List SD → List SD → Res ω → Prop}
theorem see_two {oa ob : Opd} {d e : PyData} {F G h1 h2 g H : Hp} {σ : L2.St} {va vb : V} (sa : SeeO Γ oa d) (sb : SeeO Γ ob e) (ow : OpdsOk K F G [oa, ob] h1 h2 σ [va, vb]) (he : EnvR K F G Γ h2 σ) (dd : Dis h1 h2) (hf : Fits F (cup h1 h2) g H) (hG : Sub G g) : Dt K H va d ∧ Dt K H vb e := by
  obtain ⟨v, v', ha, hb, ev, s1, s2, d12, w1, w2⟩ := ow.two
  cases ev
  exact ⟨sa.ok w1 s1 he dd hf hG, sb.ok w2 s2 he dd hf hG⟩
/-- ==, != of data -/
def EqIn (X : Cx) (C : XC) (pu : Bool) {ω : Type} (Γ : List SD) (a b : Expr) (M : Res ω) (k : PyData → PyData → List SD → Res ω → Prop) : Prop :=
  JE X C pu Γ a M fun oa Γ1 M1 => ((∃ s, oa = .own s) ∨ (∃ i, oa = .at i)) ∧ JE X C pu Γ1 b M1 fun ob Γ2 M2 => ∃ d e M3, SeeO Γ2 oa d ∧ SeeO Γ2 ob e ∧ (M2 ≠ .un → M2 = M3 ∧ (SeqAt.shaped d = true ∧ SeqAt.shaped e = true)) ∧ k d e Γ2 M3
theorem EqIn.core {r : R2} {f : PyData → PyData → Bool} (hr : ∀ (x y : V) (H : Hp) (Q : VK) (d e : PyData), Dp X.K H x d → Dp X.K H y e → SeqAt.shaped d = true → SeqAt.shaped e = true → Q (.bl (f d e)) H → r x y H Q)
    (h : EqIn X C pu Γ a b M fun d e Γ2 M3 => k (.own (.val (.bool (f d e)))) Γ2 M3) : JT X.K C pu Γ (tOp r (semE X a) (semE X b)) M k := by
  refine JT.two2 (pt := pu) (Z := fun oa ob Γ2 M2 => ∃ d e M3, SeeO Γ2 oa d ∧ SeeO Γ2 ob e ∧ (M2 ≠ .un → M2 = M3 ∧ (SeqAt.shaped d = true ∧ SeqAt.shaped e = true)) ∧ k (.own (.val (.bool (f d e)))) Γ2 M3) (JT.mono h fun oa Γ1 M1 ⟨h1, h2⟩ => ⟨by
    rcases h1 with h1 | h1
    · exact .inl h1
    · exact .inr (.inl h1), fun z => z, h2⟩) ?_
  intro oa ob Γ2 ⟨d, e, M3, sa, sb, hM, hk⟩ F h1 h0 h2 g H σ va vb Q ow he dd hf hG hp hu hx hq
  obtain ⟨eM, c1, c2⟩ := hM hu
  subst eM
  obtain ⟨w1, w2⟩ := see_two sa sb ow he dd hf hG
  exact hr va vb H Q d e (w1.dp (.inl c1)) (w2.dp (.inl c2)) c1 c2 (hq.val .refl hk (.bl _) he (hf.un dd) hp)
theorem Cmp.eq (hu : X.A.units + 64 < cLine) (h : EqIn X C pu Γ a b M fun d e Γ2 M3 => k (.own (.val (.bool (PyData.eqv d e)))) Γ2 M3) : Cmp X C pu Γ .Eq a b M k :=
  ⟨nomark _, _, op_eqD hu, EqIn.core (f := fun d e => PyData.eqv d e) (fun x y H Q d e p1 p2 c1 c2 q => ⟨d, e, p1, p2, c1, c2, q⟩) h⟩
theorem Cmp.ne (hu : X.A.units + 64 < cLine) (h : EqIn X C pu Γ a b M fun d e Γ2 M3 => k (.own (.val (.bool (!PyData.eqv d e)))) Γ2 M3) : Cmp X C pu Γ .NotEq a b M k :=
  ⟨nomark _, _, op_neD hu, EqIn.core (f := fun d e => !PyData.eqv d e) (fun x y H Q d e p1 p2 c1 c2 q => ⟨d, e, p1, p2, c1, c2, q⟩) h⟩
/-- what may be shown -/
def showOk (d : PyData) : Bool := SeqAt.shaped d && d.showable && decide (d.shown.length ≤ sizeLine) && !d.hasDict
theorem call_reprD (hg : X.A.guards = some []) (hu : X.A.units + 100 < cLine) : CallR X (.builtin "repr") (fun xs H Q => ∃ x d, xs = [x] ∧ Dp X.K H x d ∧ (∃ q, x = .ref q) ∧ showOk d = true ∧ Q (.str d.shown) H) := by
  intro pins s σ H xs us Q I r h
  obtain ⟨x, d, rfl, hd, ⟨q, rfl⟩, hs, hq⟩ := h
  obtain ⟨u, rfl, ru⟩ := r.one
  obtain ⟨as, rd⟩ := Dp.reads I d (.ref q) u hd ru
  cases ru
  simp only [showOk, Bool.and_eq_true, decide_eq_true_eq, Bool.not_eq_true'] at hs
  obtain ⟨⟨⟨s1, s2⟩, s3⟩, s4⟩ := hs
  have dep := SeqAt.depth_of_shaped s1
  exact repr_of_reads' rd s2 (fun z => by rw [s4] at z; cases z) hg (by omega) (fun _ _ z => z) (fun h' u tk hk => ⟨.str d.shown, H, I.kept hk, ⟨u, rfl⟩, hq⟩) s3
theorem RoomG.lines {j : Nat} (r : RoomG j X.A) : X.A.units + 100 < cLine := by have := r.room.un; omega
theorem RoomG.lines64 {j : Nat} (r : RoomG j X.A) : X.A.units + 64 < cLine := by have := r.room.un; omega
def isSeq : PyData → Bool
  | .list _ => true
  | .tuple _ => true
  | _ => false
theorem Dt.isRef {S : Hp} {v : V} {d : PyData} (h : Dt K S v d) (c : isSeq d = true) : ∃ q, v = .ref q := by
  cases h with
  | lst _ _ => exact ⟨_, rfl⟩
  | tup _ _ => exact ⟨_, rfl⟩
  | dct _ _ => exact ⟨_, rfl⟩
  | _ => cases c
theorem JE.repr {j : Nat} (hr : RoomG j X.A) (hm : X.mg "repr" = none) (h : JE X C pu Γ e M fun o Γ1 M1 => ∃ d M2, SeeO Γ1 o d ∧ isSeq d = true ∧ (M1 ≠ .un → M1 = M2 ∧ showOk d = true) ∧ k (.own (.val (.str d.shown))) Γ1 M2) (hg : Gl X "repr" := by rfl) (hs : starEach [e] X.env = (false, eval e X.env) :: starEach [] X.env := by rfl) : JE X C pu Γ (.Call (.Name "repr" pn) [e] [] pos) M k :=
  JE.bi (call_reprD hr.gd hr.lines) hm (JA.one (h.mono fun o Γ1 M1 ⟨d, M2, se, sq, hM, hk⟩ vs F h1 h2 g H σ Q ow he dd hf hG sz hu hq => by
    obtain ⟨eM, c⟩ := hM hu
    subst eM
    obtain ⟨v, ha, e1, s1, w⟩ := ow.one
    have w2 := se.ok w s1 he dd hf hG
    have c1 : SeqAt.shaped d = true := by
      simp only [showOk, Bool.and_eq_true] at c
      exact c.1.1.1
    exact ⟨v, d, e1, w2.dp (.inl c1), w2.isRef sq, c, hq.scal hk he dd hf (.str _)⟩) hs) rfl hg (hs := hs)
/-! ### isinstance -/
def tyD : PyData → String
  | .none => "NoneType"
  | .bool _ => "bool"
  | .int _ => "int"
  | .str _ => "str"
  | .list _ => "list"
  | .tuple _ => "tuple"
  | .dict _ => "dict"
theorem Dt.tyX {S : Hp} {v : V} {d : PyData} (h : Dt K S v d) : TyX K S v (.type (tyD d)) := by
  cases h with
  | non => exact .base .non
  | bl b => exact .base (.bl b)
  | int i => exact .base (.int i)
  | str x => exact .base (.str x)
  | lst q _ =>
    rcases q with q | ⟨o, its, n, hk, hc, _⟩
    · rcases q with q | ⟨ob, q⟩
      · exact .base (.lst q)
      · exact .base (.frz q)
    · exact .kList hk hc
  | tup q _ =>
    rcases q with q | ⟨o, its, n, hk, hc, _⟩
    · rcases q with q | ⟨ob, q⟩
      · exact .base (.tup q)
      · exact .fTuple q
    · exact .kTuple hk hc
  | dct q _ =>
    rcases q with q | ⟨ob, q⟩
    · exact .base (.dK q)
    · exact .fDict q
/-- a built-in type's name -/
theorem JE.tyN {T : String} {x : Str} (hm : X.mg x = none) (hk : k (.own (.pin (.ty T) .hole)) Γ M) (hv : bootBuiltins x = some (.type T) := by rfl) (hg : Gl X x := by rfl) (hn : x ≠ "__name__" := by decide) (hd : (x == ("__debug__" : Str)) = false := by decide) : JE X C pu Γ (.Name x pos) M k :=
  JE.of (pe_bltn (v := .ty T) hg hm hv rfl hn hd) (JT.pure (fun _ _ _ q => q) (fun _ _ _ _ => by unfold OpdOk own own; exact ⟨rfl, trivial⟩) hk)
/-- isinstance(x, T), T a built-in type -/
theorem JE.isi {x : Str} {T : String} (hm : X.mg "isinstance" = none) (hmT : X.mg x = none) (h : JE X C pu Γ e M fun o Γ1 M1 => ((∃ s, o = .own s) ∨ (∃ i, o = .at i) ∨ pu = true) ∧ ∃ d r, SeeO Γ1 o d ∧ PySem.W.kitOne X.K (.type (tyD d)) (.type T) = some r ∧ k (.own (.val (.bool r))) Γ1 M1) (hv : bootBuiltins x = some (.type T) := by rfl) (hgT : Gl X x := by rfl) (hn : x ≠ "__name__" := by decide) (hd : (x == ("__debug__" : Str)) = false := by decide)
    (hg : Gl X "isinstance" := by rfl) (hs : starEach (e :: [.Name x p]) X.env = (false, eval e X.env) :: starEach [.Name x p] X.env := by rfl)
    (hs2 : starEach (.Name x p :: []) X.env = (false, eval (.Name x p) X.env) :: starEach [] X.env := by rfl) (hpl : (backTo pos (starEach [.Name x p] X.env)).any (·.1) = false := by rfl) : JE X C pu Γ (.Call (.Name "isinstance" pn) [e, .Name x p] [] pos) M k :=
  JE.bi call_isi hm (JA.cons (pt := pu) (h.mono fun o Γ1 M1 ⟨ho, d, r, se, hr, hk⟩ => ⟨ho, fun z => z, JA.one (JE.tyN (T := T) hmT (fun vs F h1 h2 g H σ Q ow he dd hf hG sz hu hq => by
    obtain ⟨v, v', ha, hb, ev, s1, s2, d12, w1, w2⟩ := ow.two
    have w := se.ok w1 s1 he dd hf hG
    unfold OpdOk own at w2
    exact ⟨v, .ty T, _, _, r, by rw [ev, w2.1], .ty T, w.tyX, hr, hq.scal hk he dd hf (.bl _)⟩) hv hgT hn hd) hs2⟩) hs) rfl hg (hs := hs) (hpl := hpl)
/-! ### for .. in enumerate(xs) -/
def pairS (l : List SD) : List SD := l.zipIdx.map fun q => .tup [.val (.int (q.2 : Nat)), q.1]
def enumS (ds : List PyData) : List PyData := ds.zipIdx.map fun q => .tuple [.int (q.2 : Nat), q.1]
theorem JSrc.enum {elts : List Expr} {kk : Nat} {tpos : Pos} (hm : X.mg "enumerate" = none) (h : JE X C pu Γ e M fun o Γ' M' => ∃ s ds, o = .own s ∧ SeqOf s false (ds.map .val) ∧ kS ((enumS ds).map .val) Γ' M') (hg : Gl X "enumerate" := by rfl) (hs : starEach [e] X.env = [(false, eval e X.env)] := by rfl) :
    JSrc X C pu Γ (.Tuple elts kk tpos) (.Call (.Name "enumerate" pn) [e] [] pos) M kS :=
  JSrc.of (pi_enum hg hm (pa_cons pe_sem pa_nil (by rw [hs]; rfl)) hs) fun F h0 g H σ R he hf hG hu hx q => semE_sz (h F h0 g H σ _ he hf hG hu hx fun o Γ' M' ⟨s, ds, e1, sq, hk⟩ hm v F' h1 h2 H' x ow he' d hf' hp sz => by
    subst e1
    obtain ⟨f2, dg⟩ := hf'.lent d
    obtain ⟨p, vs, e2, hl, hs, hi⟩ := sq.at ow (hf'.sub .l) hG
    subst e2
    have now : SqL X.K H' p vs := hs H' h2 F' .refl f2
    have len : ((enumS ds).map SD.val).length = vs.length := by rw [hl]; unfold enumS; simp
    refine ⟨p, vs, rfl, now, q _ Γ' M' hk hm F' h1 h2 H' _ x he' f2 dg ⟨?_, ?_, ?_⟩ hp⟩
    · rw [len]; exact sz.1 _ _ now
    · exact fun i F2 h3 H3 x2 f3 hle => ⟨vs, hs H3 h3 F2 x2 f3, by rw [← len]; exact hle⟩
    · intro i s' F2 h3 H3 x2 f3 hs3
      have hd : ∃ d, ds[i]? = some d ∧ s' = .val (.tuple [.int (i : Nat), d]) := by
        unfold enumS at hs3
        rw [List.map_map, List.getElem?_map, List.getElem?_zipIdx] at hs3
        cases q : ds[i]? with
        | none => rw [q] at hs3; cases hs3
        | some d => rw [q] at hs3; cases hs3; exact ⟨d, rfl, by simp⟩
      obtain ⟨dd, ed, es'⟩ := hd
      obtain ⟨y, e3, ow3⟩ := hi i (.val dd) (by rw [List.getElem?_map, ed]; rfl)
      have sq3 : SqL X.K H3 p vs := hs H3 h3 F2 x2 f3
      refine ⟨⟨vs, y, sq3, e3⟩, fun z H4 ⟨T, y', e4, hT, eH, hz⟩ => ?_⟩
      have e5 := hz vs sq3
      rw [e3] at e5
      cases e5
      subst e4 eH es'
      unfold own at ow3
      have f4 : Fits F2 (cup (sgl T (.tup [.int (i : Nat), y])) h3) (cup h1 g) _ := f3.new hT
      have dT : Dis (sgl T (.tup [V.int (i : Nat), y])) h3 := Dis.one (f3.no hT).2.1
      refine ⟨cup F2 (sgl T (.tup [.int (i : Nat), y])), .l, ?_, f4.freeze dT⟩
      unfold own
      have dF : Dis F2 (sgl T (.tup [V.int (i : Nat), y])) := f4.fh.mono .refl .l
      exact .tup (.of (Sub.r dF _ _ one_same)) (.cons (.int _) (.cons (ow3.mono (x2.trans .l)) .nil)))
end
end
end Tsa

/-! M13: enumerate over a tuple; a tuple turned round. -/
namespace Tsa
open PySem PySem.Spec PyProof.Rows L2
abbrev enObj (n : Addr) : Obj := { cls := .type "enumerate", data := .fields #[.none, .bool false, .ref n, rawInt 0, .none, .none] }
theorem meets_en {v : Value} {o : Obj} {Z : Heap → Prop} (B : Begins v o Z) :
    Meets (Builtin.«enumerate.__new__» ⟨[.type "enumerate", v], []⟩) (fun _ R s => Z s.heap ∧ R (.ok (.ret (.ref (s.heap.push o).objs.size))) { s with heap := (s.heap.push o).push (enObj s.heap.objs.size) }) :=
  .of_wp fun prog w A R s z => by
    obtain ⟨hp, gl, dd, tk, ou⟩ := s
    obtain ⟨z1, z2⟩ := z
    have hsub := sub_enumerate
    have walk : ∀ {A' : Around} {E : Value → Shared → Prop} {Q : Value → Shared → Prop}, Q (.ref hp.objs.size) ⟨hp.push o, gl, dd, tk, ou⟩ → wpAny (model prog w) A' (pyIter v) Q E ⟨hp, gl, dd, tk, ou⟩ :=
      fun y => B.iter prog w _ _ ⟨hp, gl, dd, tk, ou⟩ _ z1 y
    wp_walk using walk
    refine wpAny_stack_any fun st => wpAny_pure ?_
    split
    · rename_i c _ _ _ _ _
      cases (c == Value.type "enumerate") <;> (wp_walk using walk; exact ⟨_, rfl, z2⟩)
    · wp_walk using walk
      exact ⟨_, rfl, z2⟩
theorem call_en {prog : Program} {w : World} {A : Around} {E : Value → Shared → Prop} {s : Shared} {v : Value} {o : Obj} {Z : Heap → Prop} {Q : Value → Shared → Prop} (B : Begins v o Z) (z : Z s.heap)
    (q : ∀ h', IsEnum h' (s.heap.objs.size + 1) s.heap.objs.size 0 .none → h'.get? s.heap.objs.size = some o → (∀ b u, s.heap.get? b = some u → h'.get? b = some u) → Q (.ref (s.heap.objs.size + 1)) { s with heap := h' }) :
    wpAny (model prog w) A (call (.type "enumerate") [v]) Q E s := by
  refine callType_new F.called_enumerate (by decide) (F.typeCall_enumerate_1 _) (F.newCall_enumerate_1 _) (fun ob => F.args_object_init_2 ob _) F.entry_enumerate_new (meets_en B) ⟨z, ?_⟩
  have sz : (s.heap.push o).objs.size = s.heap.objs.size + 1 := Heap.size_push ..
  show _ ∧ _
  rw [sz]
  have en : IsEnum ((s.heap.push o).push (enObj s.heap.objs.size)) (s.heap.objs.size + 1) s.heap.objs.size 0 .none := by
    have y := Heap.get?_push_size (s.heap.push o) (o := enObj s.heap.objs.size) rfl
    rw [sz] at y
    exact y
  exact ⟨⟨_, en, rfl⟩, q _ en (Heap.get?_push_of_some _ (Heap.get?_push_size _ B.free)) fun b u y => Heap.get?_push_of_some _ (Heap.get?_push_of_some _ y)⟩
/-- the tuple at a, each item in a new pair -/
def Itet (K : PySem.W.Frag) (a : Addr) : It where
  go i H := ∃ (xs : List V) (x : V), SqT K H a xs ∧ xs[i]? = some x
  yld i H v H' := ∃ T x, v = .ref T ∧ H T = none ∧ H' = upd H T (.tup [.int (i : Nat), x]) ∧ ∀ xs, SqT K H a xs → xs[i]? = some x
  stop i H := ∃ xs : List V, SqT K H a xs ∧ xs.length ≤ i
theorem turn_en {P : Program} {w : World} {K : PySem.W.Frag} {elts : List Expr} {kk : Nat} {tpos : Pos} (a e it : Addr) (nei : e ≠ it) (nea : e ≠ a) (nai : a ≠ it) :
    Turn P w K (.Tuple elts kk tpos) (Itet K a) [e, it] e (fun i h => (∃ old, IsEnum h e it ((i : Nat) : Int) old) ∧ h.IsTupleIter it a i) where
  mem := List.mem_cons_self ..
  obj := fun i h ⟨⟨old, he⟩, o, ho, _, hd⟩ b hb => by
    rcases List.mem_cons.mp hb with rfl | hb
    · exact ⟨_, he, fun v z => nomatch z⟩
    · obtain rfl := List.mem_singleton.mp hb
      exact ⟨o, ho, fun v z => by rw [hd] at z; cases z⟩
  keep := fun i h h' ⟨⟨old, he⟩, hi⟩ k => ⟨⟨old, k e (by simp) _ he⟩, hi.at fun o z => k it (by simp) o z⟩
  item := by
    intro X eP ew eK ca i pins s σ H E I hf ⟨⟨old, he⟩, hit⟩ ⟨xs, x, hq, hx⟩
    subst eP ew eK
    obtain ⟨its, rv, tu, hz⟩ := I.tuple hq
    obtain ⟨u, hu, ru⟩ := rv.get hx
    have le : e < s.heap.objs.size := Heap.lt_size he
    have li : it < s.heap.objs.size := by obtain ⟨_, z, _⟩ := hit; exact Heap.lt_size z
    have hlt : i < its.toArray.size := by
      rw [List.size_toArray]
      exact (List.getElem?_eq_some_iff.mp hu).1
    refine wpAny_pyNext_enum_itemD (Draws.tuple (A := X.A.in1) (show X.A.in1.handled = none from I.ok.hd ca) it a nai its.toArray) he ⟨hit, tu⟩ hlt nei (by simp [nei, nea]) fun y h' tk hy ho ⟨hit', tu'⟩ hT hsz hk => ?_
    obtain rfl : y = u := by
      rw [List.getElem?_toArray, hu] at hy
      exact (Option.some.inj hy).symm
    refine ⟨_, rfl, wpAny_letOwnedTupleGo_enum (s := { s with heap := h', toks := tk + 1 }) ho fun h2 he' sb => ?_⟩
    have hT2 : h2.get? s.heap.objs.size = some { cls := .type "tuple", data := .seq #[.int i tk, y] } := (sb.2 _ (Nat.ne_of_gt le)).trans hT
    have new : ObjOk X.prog X.w (upd H s.heap.objs.size (.tup [.int (i : Nat), x])) h2 s.heap.objs.size (.tup [.int (i : Nat), x]) := ⟨by show 2 ≤ sizeLine; decide, [.int i tk, y], .cons ⟨_, rfl⟩ (.cons ru .nil), ⟨_, hT2, rfl, _, rfl⟩⟩
    have I1 : Inv X pins σ (upd H s.heap.objs.size (.tup [.int (i : Nat), x])) { s with heap := h2, toks := tk + 1 } :=
      I.turnedNew (ch := [e, it]) (fun b ob hb z => (sb.2 b (fun c => hb (by simp [c]))).trans (hk b ob (fun c => hb (by simp [c])) (fun c => hb (by simp [c])) z)) hf (Nat.le_refl _) new
    refine ⟨.ref s.heap.objs.size, _, I1, rfl, ⟨_, x, rfl, I.hok.fresh (Nat.le_refl _), rfl, fun ys hy => ?_⟩, ⟨⟨y, ?_⟩, hit'.at fun o z => (sb.2 it (Ne.symm nei)).trans z⟩, fun b hb => ?_⟩
    · obtain ⟨its2, rv2, tu2, _⟩ := I.tuple hy
      obtain ⟨o1, g1, _, n1, d1⟩ := tu
      obtain ⟨o2, g2, _, n2, d2⟩ := tu2
      rw [g1] at g2
      cases g2
      rw [d1] at d2
      injection d2 with d3 _
      have d4 : its = its2 := by simpa using d3
      subst d4
      rw [rv2.inj rv]
      exact hx
    · have e1 : ((i + 1 : Nat) : Int) = (i : Int) + 1 := by omega
      rw [e1]
      exact he'
    · have lb : b < s.heap.objs.size := by
        rcases List.mem_cons.mp hb with rfl | hb
        · exact le
        · obtain rfl := List.mem_singleton.mp hb
          exact li
      rw [upd_ne (Nat.ne_of_lt lb)]
      exact (hf b hb).1
  done := by
    intro X eP ew eK ca i pins s σ H E I hf ⟨⟨old, he⟩, hit⟩ ⟨xs, hq, hx⟩
    subst eP ew eK
    obtain ⟨its, rv, tu, hz⟩ := I.tuple hq
    obtain ⟨f0, f1, f2, f3, f4, f5⟩ := hf it (by simp)
    have hn : its.toArray[i]? = none := by
      rw [List.getElem?_toArray]
      exact List.getElem?_eq_none (by rw [← rv.length]; exact hx)
    have hT : s.TypeIs (.ref e) "enumerate" := ⟨_, he, rfl⟩
    unfold pyNext
    refine wpAny_bind (wpAny_attempt (wpAny_callSpecial?_slot (name := Str.ofString "__next__") hT F.slot_enumerate_next (wpAny_call_entry F.slot_enumerate_next hT F.entry_enumerate_next ?_ (F.args_enumerate_next_1 _))))
    show wpAny _ _ (field (.ref e) 2 >>= _) _ _ _
    refine wpAny_bind (wpAny_field he rfl (x := .ref it) rfl ?_)
    refine wpAny_bind (wpAny_nextOf_tuple_end (I.ok.hd ca) hit tu hn fun h' y eb ⟨o, ho, hc⟩ => ?_)
    refine wpAny_bind (wpAny_isInstance (T := "StopIteration") (b := true) ⟨o, ho, hc⟩ isSubtype_stop ?_)
    exact wpAny_pure ⟨rfl, I.turned (t' := s.toks) (fun b o hb z => eb b o hb z) f0 f1 f3 f4 f5⟩
  self := fun A i s Q E ⟨⟨_, he⟩, _⟩ z => wpAny_pyIter_enum he z
def iEnt (K : PySem.W.Frag) (ta : TA) : TI := fun σ H R => ta σ H fun vs H1 => ∃ a xs, vs = [.ref a] ∧ SqT K H1 a xs ∧ R (Itet K a) H1
theorem pi_ent {X : Cx} {e : Expr} {ta : TA} {p pos tpos : Pos} {elts : List Expr} {kk : Nat} (hg : Gl X "enumerate") (hm : X.mg "enumerate" = none) (ha : PA X [e] ta) (hs : starEach [e] X.env = [(false, eval e X.env)]) :
    PI X (.Tuple elts kk tpos) (.Call (.Name "enumerate" p) [e] [] pos) (iEnt X.K ta) := by
  refine ⟨fun pins s σ H R I z => Call_ (ld_blt I hg hm boot_enumerate (PyProof.Rows.callWith_type1 (thn (ha.run pos pins s σ H _ I z) fun us s1 ⟨vs, H1, I1, r1, a, xs, ev, hq, q⟩ => ?_) hs rfl))⟩
  subst ev
  obtain ⟨u, rfl, ru⟩ := r1.one
  obtain rfl : u = Value.ref a := ru
  obtain ⟨its, rv, tu, hz⟩ := I1.tuple hq
  have la : a < s1.heap.objs.size := tu.lt
  refine call_en (begins_tuple a its.toArray) tu fun h' he hit hk => wpAny_pyIter_enum he ?_
  have I2 : Inv X pins σ H1 { s1 with heap := h' } := I1.kept (t' := s1.toks) hk
  refine ⟨s1.heap.objs.size + 1, [s1.heap.objs.size + 1, s1.heap.objs.size], _, _, H1, rfl, I2, turn_en a (s1.heap.objs.size + 1) s1.heap.objs.size (Nat.succ_ne_self _) (fun c => Nat.lt_irrefl _ (Nat.lt_trans (Nat.lt_succ_self _) (show s1.heap.objs.size + 1 < s1.heap.objs.size from c ▸ la))) (Nat.ne_of_lt la), ⟨⟨.none, he⟩, _, hit, rfl, rfl⟩, fun b hb => ?_, q⟩
  have lb : s1.heap.objs.size ≤ b := by
    rcases List.mem_cons.mp hb with rfl | hb
    · exact Nat.le_add_right _ _
    · obtain rfl := List.mem_singleton.mp hb
      exact Nat.le_refl _
  exact I1.fpOk lb (I1.hok.fresh lb)
section
variable {K : PySem.W.Frag} {X : Cx} {C : XC} {pu pt : Bool} {ω : Type} {Γ : List SD} {e a b tg : Expr} {es : List Expr} {M : Res ω} {pos p pn : Pos} {ta tb : TE} {k : Opd → List SD → Res ω → Prop} {kS : List SD → List SD → Res ω → Prop}
theorem JSrc.enumT {elts : List Expr} {kk : Nat} {tpos : Pos} (hm : X.mg "enumerate" = none) (h : JE X C pu Γ e M fun o Γ' M' => ∃ s ds, o = .own s ∧ SeqOf s true (ds.map .val) ∧ kS ((enumS ds).map .val) Γ' M') (hg : Gl X "enumerate" := by rfl) (hs : starEach [e] X.env = [(false, eval e X.env)] := by rfl) :
    JSrc X C pu Γ (.Tuple elts kk tpos) (.Call (.Name "enumerate" pn) [e] [] pos) M kS :=
  JSrc.of (pi_ent hg hm (pa_cons pe_sem pa_nil (by rw [hs]; rfl)) hs) fun F h0 g H σ R he hf hG hu hx q => semE_sz (h F h0 g H σ _ he hf hG hu hx fun o Γ' M' ⟨s, ds, e1, sq, hk⟩ hm v F' h1 h2 H' x ow he' d hf' hp sz => by
    subst e1
    obtain ⟨f2, dg⟩ := hf'.lent d
    obtain ⟨p, vs, e2, hl, hs, hi⟩ := sq.at ow (hf'.sub .l) hG
    subst e2
    have now : SqT X.K H' p vs := hs H' h2 F' .refl f2
    have len : ((enumS ds).map SD.val).length = vs.length := by rw [hl]; unfold enumS; simp
    refine ⟨p, vs, rfl, now, q _ Γ' M' hk hm F' h1 h2 H' _ x he' f2 dg ⟨?_, ?_, ?_⟩ hp⟩
    · rw [len]; exact sz.2 _ _ now
    · exact fun i F2 h3 H3 x2 f3 hle => ⟨vs, hs H3 h3 F2 x2 f3, by rw [← len]; exact hle⟩
    · intro i s' F2 h3 H3 x2 f3 hs3
      have hd : ∃ d, ds[i]? = some d ∧ s' = .val (.tuple [.int (i : Nat), d]) := by
        unfold enumS at hs3
        rw [List.map_map, List.getElem?_map, List.getElem?_zipIdx] at hs3
        cases q : ds[i]? with
        | none => rw [q] at hs3; cases hs3
        | some d => rw [q] at hs3; cases hs3; exact ⟨d, rfl, by simp⟩
      obtain ⟨dd, ed, es'⟩ := hd
      obtain ⟨y, e3, ow3⟩ := hi i (.val dd) (by rw [List.getElem?_map, ed]; rfl)
      have sq3 : SqT X.K H3 p vs := hs H3 h3 F2 x2 f3
      refine ⟨⟨vs, y, sq3, e3⟩, fun z H4 ⟨T, y', e4, hT, eH, hz⟩ => ?_⟩
      have e5 := hz vs sq3
      rw [e3] at e5
      cases e5
      subst e4 eH es'
      unfold own at ow3
      have f4 : Fits F2 (cup (sgl T (.tup [.int (i : Nat), y])) h3) (cup h1 g) _ := f3.new hT
      have dT : Dis (sgl T (.tup [V.int (i : Nat), y])) h3 := Dis.one (f3.no hT).2.1
      refine ⟨cup F2 (sgl T (.tup [.int (i : Nat), y])), .l, ?_, f4.freeze dT⟩
      unfold own
      have dF : Dis F2 (sgl T (.tup [V.int (i : Nat), y])) := f4.fh.mono .refl .l
      exact .tup (.of (Sub.r dF _ _ one_same)) (.cons (.int _) (.cons (ow3.mono (x2.trans .l)) .nil)))
end
end Tsa

namespace Tsa
open PySem PySem.Spec PyProof.Rows L2
section
variable {prog : Program} {w : World} {A : Around} {E : Value → Shared → Prop} {s : Shared}
end
def tRevT (K : PySem.W.Frag) (te : TE) : TE := fun σ H Q => te σ H fun x H1 => ∃ a xs, x = .ref a ∧ SqT K H1 a xs ∧ ∀ p, H1 p = none → Q (.ref p) (upd H1 p (.tup xs.reverse))
end Tsa

/-! M14: lists that are written. -/
namespace Tsa
open PySem PySem.Spec PyProof.Rows L2
/-- a slot that holds a list of its own -/
inductive LstAt : SD → List SD → (List SD → SD) → Prop
  | lst {l : List SD} : LstAt (.lst l) l .lst
  | pin {v : V} {l : List SD} : LstAt (.pin v (.lst l)) l fun l' => .pin v (.lst l')
section
variable {K : PySem.W.Frag} {X : Cx} {C : XC} {pu pt : Bool} {ω : Type} {Γ : List SD} {e a b tg ie : Expr} {es : List Expr} {M : Res ω} {pos p pn apos : Pos} {ta tb : TE} {k : Opd → List SD → Res ω → Prop} {kl : List SD → Res ω → Prop} {en : ω → EndK}
theorem LstAt.ne {s : SD} {l : List SD} {mk : List SD → SD} (q : LstAt s l mk) : s ≠ .hole := fun z => by subst z; cases q
theorem LstAt.ok {s : SD} {l : List SD} {mk : List SD → SD} (q : LstAt s l mk) {F G h : Hp} {v : V} (ow : own K F G s h v) : ∃ p vs h', v = .ref p ∧ h p = some (.lst vs) ∧ Sub h' h ∧ h' p = none ∧ ownL K F G l h' vs ∧
    ∀ (l' : List SD) (vs' : List V) (k1 : Hp), k1 p = none → ownL K F G l' k1 vs' → own K F G (mk l') (cup (sgl p (.lst vs')) k1) v := by
  cases q with
  | lst =>
    unfold own at ow
    obtain ⟨p, vs, h', e, q1, q2, q3, q4⟩ := ow
    refine ⟨p, vs, h', e, q1, q2, q3, q4, fun l' vs' k1 n w => ?_⟩
    unfold own
    exact ⟨p, vs', k1, e, cup_some one_same, .r (Dis.one n), n, w⟩
  | pin =>
    unfold own at ow
    obtain ⟨eu, ow⟩ := ow
    unfold own at ow
    obtain ⟨p, vs, h', e, q1, q2, q3, q4⟩ := ow
    refine ⟨p, vs, h', e, q1, q2, q3, q4, fun l' vs' k1 n w => ?_⟩
    unfold own
    refine ⟨eu, ?_⟩
    unfold own
    exact ⟨p, vs', k1, e, cup_some one_same, .r (Dis.one n), n, w⟩
/-- a slot's list, and how it is written -/
theorem lst_upd {i : Nat} {s : SD} {l : List SD} {mk : List SD → SD} {F G ha h g H : Hp} {σ : L2.St} (he : EnvR K F G Γ h σ) (hi : Γ[i]? = some s) (la : LstAt s l mk) (dd : Dis ha h) (hf : Fits F (cup ha h) g H) (hG : Sub G g) :
    ∃ p vs h', σ[i]? = some (some (.ref p)) ∧ H p = some (.lst vs) ∧ ownL K F G l h' vs ∧ Sub h' h ∧ Dis ha h' ∧
      ∀ (l' : List SD) (vs' : List V) (hl hx : Hp), ownL K F G l' hl vs' → Sub hl (cup ha h') → Sub hx (cup ha h') → Dis hx hl → ∃ h2, EnvR K F G (Γ.set i (mk l')) h2 σ ∧ Dis hx h2 ∧ Fits F (cup hx h2) g (upd H p (.lst vs')) := by
  obtain ⟨o, k1, k2, eo, s1, s2, d12, w, back⟩ := he.at hi
  obtain ⟨u, eu, wu⟩ := w.val la.ne
  subst eu
  obtain ⟨p, vs, h', e, q1, q2, q3, q4, mk'⟩ := la.ok wu
  subst e
  have ph : h p = some (.lst vs) := s1 _ _ q1
  have nk2 : k2 p = none := d12.no q1
  have nha : ha p = none := dd.symm.no ph
  have s3 : Sub h' h := q2.trans s1
  refine ⟨p, vs, h', eo, hf.hH _ _ (Sub.r dd _ _ ph), q4, s3, dd.mono .refl s3, fun l' vs' hl hx w' sl sx dx => ?_⟩
  have nc : cup ha h' p = none := by rw [cup_none nha]; exact q3
  have nl : hl p = none := sl.no nc
  have nx : hx p = none := sx.no nc
  have dk : Dis (cup ha h') k2 := Dis.cup (dd.mono .refl s2) (d12.mono q2 .refl)
  have dl2 : Dis hl k2 := dk.mono sl .refl
  have dx2 : Dis hx k2 := dk.mono sx .refl
  have es : σ.set i (some (.ref p)) = σ := by
    obtain ⟨hi', e'⟩ := List.getElem?_eq_some_iff.mp eo
    rw [← e']; exact List.set_getElem_self hi'
  have E2 := back F (mk l') (some (.ref p)) (cup (sgl p (.lst vs')) hl) (cup (cup (sgl p (.lst vs')) hl) k2) .refl (hf.G hG) (.of (mk' l' vs' hl nl w')) (Dis.cup (Dis.one nk2) dl2) .l (.r (Dis.cup (Dis.one nk2) dl2))
  rw [es] at E2
  have dxh : Dis hx (cup (cup (sgl p (.lst vs')) hl) k2) := (Dis.cup (Dis.cup (Dis.one nx) dx.symm) dx2.symm).symm
  have sub0 : Sub (cup ha h') (cup ha h) := Sub.cup2 .refl s3 dd
  have f1 : Fits F (cup (sgl p (.lst vs)) (cup (cup hx hl) k2)) g H := hf.sub (Sub.cup ((Sub.one ph).trans (.r dd)) (Sub.cup (Sub.cup (sx.trans sub0) (sl.trans sub0)) (s2.trans (.r dd))))
  have n1 : cup (cup hx hl) k2 p = none := by rw [cup_none (by rw [cup_none nx]; exact nl)]; exact nk2
  have f2 : Fits F (cup (sgl p (.lst vs')) (cup (cup hx hl) k2)) g (upd H p (.lst vs')) := f1.upd n1
  have dp : Dis (sgl p (HO.lst vs')) (cup (cup hx hl) k2) := Dis.one n1
  have dxl : Dis (cup hx hl) k2 := Dis.cup dx2 dl2
  exact ⟨_, E2, dxh, f2.sub (Sub.cup ((Sub.l.trans .l).trans (.r dp)) (Sub.cup (Sub.cup .l (((Sub.r dx).trans .l).trans (.r dp))) ((Sub.r dxl).trans (.r dp))))⟩
theorem tyV_lst {H : Hp} {p : Addr} {vs : List V} (h : H p = some (.lst vs)) : tyV K "list" (.ref p) H := .inl ⟨rfl, vs, .of h⟩
def Bm1K (X : Cx) (C : XC) (i : Nat) (r : V → List V → Hp → VK → Prop) (o : Opd) (Γ1 : List SD) (M1 : Res ω) (k : Opd → List SD → Res ω → Prop) : Prop :=
  ∀ (p : Addr) (v : V) (F h1 h2 g H : Hp) (σ : L2.St) (Q : VK), OpdOk X.K F C.G h1 h2 σ o v → EnvR X.K F C.G Γ1 h2 σ → Dis h1 h2 → Fits F (cup h1 h2) g H → Sub C.G g → Sz X.K H → M1 ≠ .un → σ[i]? = some (some (.ref p)) → Kt X.K C false Γ1 M1 k F h2 g σ Q → r (.ref p) [v] H Q
/-- x.m(e), x a slot's list -/
theorem JE.bm1 {T id : String} {m : Str} {r : V → List V → Hp → VK → Prop} {i : Nat} {s : SD} {l : List SD} {mk : List SD → SD} {x : Str} (slot : Slot "list" m id) (hty : typeOf (.builtin id) = pure (.type "method_descriptor")) (hm : MtR X id r) (hΓ : Γ[i]? = some s) (la : LstAt s l mk)
    (h : JE X C false Γ e M fun o Γ1 M1 => Bm1K X C i r o Γ1 M1 k)
    (hN : X.N[i]? = some x := by rfl) (hv : Vis X.env.scope x := by first | exact Or.inl rfl | exact Or.inr (Or.inl rfl) | exact Or.inr (Or.inr rfl)) (hd : (x == ("__debug__" : Str)) = false := by decide) (hcd : (x == ("__classdict__" : Str)) = false := by decide)
    (hbase : attributeBase (.Name x p) m X.env (eval (.Name x p) X.env) = eval (.Name x p) X.env := by rfl)
    (hfew : ((backTo pos (starEach (e :: []) X.env)).all (fun x => !x.1) && (backToKw pos (keywordEach [] X.env)).all (fun x => x.1.isSome) && decide ((e :: []).length + ([] : List Keyword).length + (if ([] : List Keyword).isEmpty then 0 else 1) < 30)) = true := by rfl)
    (hline : (apos.endLine == pos.line) = true := by rfl) (hs : starEach (e :: []) X.env = (false, eval e X.env) :: starEach [] X.env := by rfl) (hpl : (backTo pos (starEach [] X.env)).any (·.1) = false := by rfl) :
    JE X C false Γ (.Call (.Attribute (.Name x p) m apos) [e] [] pos) M k :=
  JE.of (pe_bm PySem.F.plainAttrs_list slot hty hm (pe_var hN hv hd hcd) pa_sem hbase hfew hline hs hpl) fun F h0 g H σ Q he hf hG hu hx hq => by
    obtain ⟨p, vs, h', eo, hH, _⟩ := lst_upd (ha := Tsa.emp) he hΓ la .emp hf.emp hG
    refine ⟨.ref p, eo, tyV_lst hH, semA_sz (JA.one (pu := false) (ka := fun os Γ1 M1 => ∃ o, os = [o] ∧ Bm1K X C i r o Γ1 M1 k) (h.mono fun o Γ1 M1 hk => ⟨o, rfl, hk⟩) hs F h0 g H σ _ he hf hG hu hx fun os Γ1 M1 ⟨o, eos, hk⟩ hm us F' h1 h2 H' x ow he' d hf' hp sz => ?_)⟩
    subst eos
    subst hm
    obtain ⟨v, ha, ev, sa, w⟩ := ow.one
    subst ev
    exact hk p v F' ha h2 g H' σ Q w he' (d.mono sa .refl) (hf'.sub (Sub.cup2 sa .refl d)) hG sz hu eo fun o Γ' M' hk hm v F2 k1 k2 H2 x2 a2 a3 a4 a5 a6 => hq o Γ' M' hk hm v F2 k1 k2 H2 (x.trans x2) a2 a3 a4 a5 fun z => nomatch z
end
end Tsa

/-! M15: chained tests, stores into lists, joined lists. -/
namespace Tsa
open PySem PySem.Spec PyProof.Rows L2
section
variable {K : PySem.W.Frag} {X : Cx} {C : XC} {pu pt : Bool} {ω : Type} {Γ : List SD} {e a b c tg ie : Expr} {es : List Expr} {M : Res ω} {pos p pn apos : Pos} {ta tb tc : TE} {k : Opd → List SD → Res ω → Prop} {kl : List SD → Res ω → Prop} {en : ω → EndK} {st : Stmt} {t : TS}
/-- a list's things turned round -/
theorem ownL_rev {F G : Hp} : ∀ {l : List SD} {h : Hp} {vs : List V}, ownL K F G l h vs → ownL K F G l.reverse h vs.reverse
  | [], h, vs, q => by
    unfold ownL at q
    subst q
    show ownL K F G [] h []
    unfold ownL
    rfl
  | s :: l, h, vs, q => by
    unfold ownL at q
    obtain ⟨v, vr, h1, h2, e, s1, s2, d, w, q⟩ := q
    subst e
    rw [List.reverse_cons, List.reverse_cons]
    exact ownL_mono .refl .refl _ (Sub.cup s2 s1) (ownL_app (ownL_rev q) w d.symm)
theorem ownL_put {F G : Hp} : ∀ {l : List SD} {h h1 : Hp} {vs : List V} {n : Nat} {s : SD} {v : V}, ownL K F G l h vs → own K F G s h1 v → Dis h h1 → ownL K F G (l.set n s) (cup h1 h) (vs.set n v)
  | [], h, h1, vs, n, s, v, q, w, d => by
    unfold ownL at q
    subst q
    show ownL K F G [] _ []
    unfold ownL
    rfl
  | t :: l, h, h1, vs, n, s, v, q, w, d => by
    unfold ownL at q
    obtain ⟨u, ur, k1, k2, e, s1, s2, dk, wu, q⟩ := q
    subst e
    cases n with
    | zero =>
      show ownL K F G (s :: l) _ (v :: ur)
      unfold ownL
      exact ⟨v, ur, h1, k2, rfl, .l, s2.trans (.r d.symm), (d.mono s2 .refl).symm, w, q⟩
    | succ n =>
      show ownL K F G (t :: l.set n s) _ (u :: ur.set n v)
      unfold ownL
      exact ⟨u, _, k1, cup h1 k2, rfl, s1.trans (.r d.symm), Sub.cup2 .refl s2 d.symm, (Dis.cup (d.mono s1 .refl).symm dk.symm).symm, wu, ownL_put q w (d.mono s2 .refl)⟩
/-- what is not walked needs no proof -/
theorem JST.un (h : M = .un) : JST K C Γ t M kl en := fun F h0 g H σ D he hf hG hu => absurd h hu
theorem chain_tot {r r' : R2} {f g : Int → Int → Bool} {i j l : Int} (hr : ∀ (i j : Int) (H : Hp) (Q : VK), Q (.bl (f i j)) H → r (.int i) (.int j) H Q) (hr' : ∀ (i j : Int) (H : Hp) (Q : VK), Q (.bl (g i j)) H → r' (.int i) (.int j) H Q)
    (ha : JVt X C Γ a (.own (.val (.int i)))) (hb : JVt X C Γ b (.own (.val (.int j)))) (hc : JVt X C Γ c (.own (.val (.int l)))) : JT X.K C true Γ (tChain r r' (semE X a) (semE X b) (semE X c)) (Res.ok ()) fun o Γ' _ => o = .own (.val (.bool (f i j && g j l))) ∧ Γ' = Γ := by
  intro F h0 g0 H σ Q he hf hG hu hx hq
  refine ha F h0 g0 H σ _ he hf hG hu hx fun oa Γ1 M1 ⟨e1, e2⟩ hm va F1 k1 h1 H1 x1 w1 he1 d1 hf1 p1 => ?_
  subst e1 e2
  obtain rfl := w1.intV
  have f1 := hf1.un d1
  refine hb F1 h1 g0 H1 σ _ he1 f1 hG hu (hx.mono x1) fun ob Γ2 M2 ⟨e1, e2⟩ hm vb F2 k2 h2 H2 x2 w2 he2 d2 hf2 p2 => ?_
  subst e1 e2
  obtain rfl := w2.intV
  have f2 := hf2.un d2
  refine hr _ _ _ _ ⟨f i j, rfl, ?_⟩
  cases q : f i j with
  | false =>
    rw [if_neg Bool.false_ne_true]
    exact hq (.own (.val (.bool false))) _ (.ok ()) ⟨by rw [q]; rfl, rfl⟩ rfl (.bl false) F2 emp h2 H2 (x1.trans x2) (by unfold OpdOk own; exact .bl _) he2 .emp f2.emp fun _ => ⟨(p1 rfl).1.trans (p2 rfl).1, rfl⟩
  | true =>
    rw [if_pos rfl]
    refine hc F2 h2 g0 H2 σ _ he2 f2 hG hu (hx.mono (x1.trans x2)) fun oc Γ3 M3 ⟨e1, e2⟩ hm vc F3 k3 h3 H3 x3 w3 he3 d3 hf3 p3 => ?_
    subst e1 e2
    obtain rfl := w3.intV
    exact hr' _ _ _ _ (hq (.own (.val (.bool (g j l)))) _ (.ok ()) ⟨by rw [q]; rfl, rfl⟩ rfl (.bl _) F3 emp h3 H3 ((x1.trans x2).trans x3) (by unfold OpdOk own; exact .bl _) he3 .emp (hf3.un d3).emp fun _ => ⟨((p1 rfl).1.trans (p2 rfl).1).trans (p3 rfl).1, rfl⟩)
/-- the order tests of numbers -/
inductive Ord : CmpOp → (Int → Int → Bool) → Prop
  | lt : Ord .Lt fun i j => decide (i < j)
  | le : Ord .LtE fun i j => decide (i ≤ j)
  | gt : Ord .Gt fun i j => decide (j < i)
  | ge : Ord .GtE fun i j => decide (j ≤ i)
theorem Ord.op {op : CmpOp} {f : Int → Int → Bool} (o : Ord op f) : OpR X (compareOp op) (rI0 fun i j => .bl (f i j)) := by
  cases o with
  | lt => exact op_lt
  | le => exact op_le
  | gt => exact op_gt
  | ge => exact op_ge
theorem JVt.chain {op op' : CmpOp} {f g : Int → Int → Bool} {i j l : Int} (o : Ord op f) (o' : Ord op' g) (ha : JVt X C Γ a (.own (.val (.int i)))) (hb : JVt X C Γ b (.own (.val (.int j)))) (hc : JVt X C Γ c (.own (.val (.int l)))) (hm : lastMarks [op, op'] [b, c] = false := by with_unfolding_all rfl) :
    JVt X C Γ (.Compare a [op, op'] [b, c] pos) (.own (.val (.bool (f i j && g j l)))) :=
  JE.of (pe_chain o.op o'.op pe_sem pe_sem pe_sem hm) (chain_tot (fun i j H Q q => ⟨i, j, rfl, rfl, q⟩) (fun i j H Q q => ⟨i, j, rfl, rfl, q⟩) ha hb hc)
/-! ### stores that write the heap -/
def JG2 (X : Cx) (C : XC) (Γ : List SD) (tg : Expr) (s : SD) (M : Res ω) (k : List SD → Res ω → Prop) : Prop :=
  ∀ (F h1 h g H : Hp) (σ : L2.St) (v : V) (Q : L2.St → Hp → Prop), EnvR X.K F C.G Γ h σ → own X.K F C.G s h1 v → Dis h1 h → Fits F (cup h1 h) g H → Sub C.G g → M ≠ .un → XOk X.K C F g M →
    (∀ Γ' M', k Γ' M' → M' = M → ∀ (F' h' H' : Hp) (σ' : L2.St), Sub F F' → EnvR X.K F' C.G Γ' h' σ' → Fits F' h' g H' → Q σ' H') → semG X tg v σ H Q
def JGs2 (X : Cx) (C : XC) (Γ : List SD) (ts : List Expr) (ss : List SD) (M : Res ω) (k : List SD → Res ω → Prop) : Prop :=
  ∀ (F h1 h g H : Hp) (σ : L2.St) (vs : List V) (Q : L2.St → Hp → Prop), EnvR X.K F C.G Γ h σ → ownL X.K F C.G ss h1 vs → Dis h1 h → Fits F (cup h1 h) g H → Sub C.G g → M ≠ .un → XOk X.K C F g M →
    (∀ Γ' M', k Γ' M' → M' = M → ∀ (F' h' H' : Hp) (σ' : L2.St), Sub F F' → EnvR X.K F' C.G Γ' h' σ' → Fits F' h' g H' → Q σ' H') → semGs X ts vs σ H Q
theorem JG2.name {i : Nat} {x : Str} {s : SD} (hk : kl (Γ.set i s) M) (hN : X.N.Nodup) (hi : X.N[i]? = some x := by rfl) (hx : Loc X.env.scope x := by first | exact Or.inl rfl | exact Or.inr rfl)
    (hf : X.fn x = true ∨ X.env.scope.names.lookup x = some .local := by first | exact .inl rfl | exact .inr rfl | assumption) (hl : i < Γ.length := by exact Nat.le_of_ble_eq_true rfl) : JG2 X C Γ (.Name x pos) s M kl :=
  fun F h1 h g H σ v Q he ow d hf' hG hu hxo hq pins s' u I r => (pg_name hN hi hx hf).run pins s' σ H v u Q I r (hq _ M hk rfl F _ H _ .refl (he.put hl ow d (hf'.G hG)) hf')
/-- xs[i] = .. -/
theorem JG2.ix {i : Nat} {x : Str} {s s1 : SD} {l : List SD} {mk : List SD → SD} (hΓ : Γ[i]? = some s1) (la : LstAt s1 l mk) (h : ∃ j, JVt X C Γ ie (.own (.val (.int j))) ∧ ∃ n M2, (M ≠ .un → M = M2 ∧ ixN l.length j = some n) ∧ kl (Γ.set i (mk (l.set n s))) M2)
    (hN : X.N[i]? = some x := by rfl) (hv : Vis X.env.scope x := by first | exact Or.inl rfl | exact Or.inr (Or.inl rfl) | exact Or.inr (Or.inr rfl)) (hd : (x == ("__debug__" : Str)) = false := by decide) (hcd : (x == ("__classdict__" : Str)) = false := by decide)
    (ha : ∀ v, assign (.Subscript (.Name x p) ie pos) X.env v = (do
      let ov ← holding [v] (eval (.Name x p) X.env)
      let iv ← holding [v, ov] (eval ie X.env)
      standAt pos
      holding [v, ov, iv] (setItem ov iv v)
      release [v, ov, iv] []) := by intro _; rfl) : JG2 X C Γ (.Subscript (.Name x p) ie pos) s M kl :=
  fun F h1 h0 g H σ v Q he ow d hf hG hu hxo hq pins s' u I r => by
    obtain ⟨j, hj, n, M2, hM, hk⟩ := h
    obtain ⟨eM, hn⟩ := hM hu
    subst eM
    obtain ⟨q, vs, h', eo, hH, wl, sh, dh, _⟩ := lst_upd he hΓ la d hf hG
    refine (pg_sub (pe_var hN hv hd hcd) pe_sem set_list ha).run pins s' σ H v u Q I r ⟨.ref q, eo, ?_⟩
    have dhg : Dis h1 g := hf.hg.mono .l .refl
    refine hj F h0 (cup h1 g) H σ _ he (hf.out d) (hG.trans (.r dhg)) (by intro z; cases z) (fun e z => nomatch z) fun o Γ1 M1 ⟨e1, e2⟩ hm va F1 k1 h2 H1 x1 w1 he1 d1 hf1 p1 => ?_
    subst e1 e2
    obtain rfl := w1.intV
    have ff := ((hf1.un d1).inn dhg)
    have dd := (hf1.un d1).dis
    have ow1 : own X.K F1 C.G s h1 v := own_mono x1 (cup_mono_l x1 (ff.G hG)) s .refl ow
    obtain ⟨q2, vs2, h2', eo2, hH2, wl2, sh2, dh2, upd2⟩ := lst_upd he1 hΓ la dd ff hG
    rw [eo] at eo2
    cases eo2
    have len := ownL_len wl2
    obtain ⟨h3, E3, d3, f3⟩ := upd2 (l.set n s) (vs2.set n v) (cup h1 h2') emp (ownL_put wl2 ow1 dh2.symm) .refl .emp .emp
    exact ⟨q, vs2, j, n, rfl, rfl, hH2, by rw [len]; exact hn, hq _ M hk rfl F1 h3 _ σ x1 E3 (f3.sub (.r .emp))⟩
theorem JGs2.nil (hk : kl Γ M) : JGs2 X C Γ [] [] M kl := fun F h1 h g H σ vs Q he ow d hf' hG hu hx hq pins s' us I r => by
  unfold ownL at ow
  exact pgs_nil.run pins s' σ H vs us Q I r ⟨ow, hq _ M hk rfl F h H σ .refl he (hf'.un d)⟩
theorem JGs2.cons {s : SD} {ss : List SD} (h : JG2 X C Γ e s M fun Γ' M' => JGs2 X C Γ' es ss M' kl)
    (hs : (assignEach (e :: es) X.env).map (·.2) = assign e X.env :: (assignEach es X.env).map (·.2) := by rfl) : JGs2 X C Γ (e :: es) (s :: ss) M kl := fun F h1 h2 g H σ vs Q he ow d hf' hG hu hx hq pins s' us I r => by
  unfold ownL at ow
  obtain ⟨v, vr, k1, k2, e1, s1, s2, d12, ow1, ow2⟩ := ow
  refine (pgs_cons pg_sem pgs_sem hs).run pins s' σ H vs us Q I r ⟨v, vr, e1, ?_⟩
  have dk2 : Dis k2 (cup k1 h2) := (Dis.cup d12 (d.mono s2 .refl).symm).symm
  have f1 : Fits F (cup k2 (cup k1 h2)) g H := hf'.sub (Sub.cup (s2.trans .l) (Sub.cup (s1.trans .l) (.r d)))
  have dkg : Dis k2 g := f1.hg.mono .l .refl
  refine h F k1 h2 (cup k2 g) H σ v _ he ow1 (d.mono s1 .refl) (f1.out dk2) (hG.trans (.r dkg)) hu (fun e hm c od F' hx' h' H' σ' y ex en dd ff => hx e hm c od F' hx' h' H' σ' y ex en dd ((ff.inn dkg).sub (.r ff.dis))) fun Γ' M' hk' hm F' h' H' σ' x he' hf2 => ?_
  subst hm
  have f3 := hf2.inn dkg
  exact hk' F' k2 h' g H' σ' vr Q he' (ownL_mono x (cup_mono_l x (f3.G hG)) ss .refl ow2) hf2.dis f3 hG hu (hx.mono x) fun Γ2 M2 hk2 hm2 F3 h3 H3 σ3 x3 he3 hf3 => hq Γ2 M2 hk2 hm2 F3 h3 H3 σ3 (x.trans x3) he3 hf3
theorem JG2.tup {n : Nat} {ss : List SD} (hc : X.calm = true) (h : JGs2 X C Γ es ss M kl) (hn : (assignEach es X.env).length = ss.length := by rfl) (hst : (assignEach es X.env).findIdx? (·.1) = none := by rfl) : JG2 X C Γ (.Tuple es n pos) (.tup ss) M kl := fun F h1 h2 g H σ v Q he ow d hf' hG hu hx hq pins s' u I r => by
  unfold own at ow
  obtain ⟨q, vs, k1, e1, q1, s1, q2, ow⟩ := ow
  have hl : vs.length = ss.length := ownL_len ow
  refine (pg_tup hc pgs_sem hn hst).run pins s' σ H v u Q I r ⟨q, vs, e1, .inl (.inl (hf'.hH _ _ (cup_some q1))), hl, ?_⟩
  exact h F k1 h2 g H σ vs Q he ow (d.mono s1 .refl) (hf'.sub (Sub.cup (s1.trans .l) (.r d))) hG hu hx hq
/-- target = value, the target's store may write a list -/
theorem JS.asg2 (h : JE X C false Γ e M fun o Γ' M' => ∃ s, o = .own s ∧ JG2 X C Γ' tg s M' fun Γ2 M2 => kl Γ2 M2) (hs : swapsWithSole [tg] e pos.line X.env = pure false := by rfl) (hw : swappedStores [tg] e X.env = pure none := by rfl)
    (h1 : (assignEach [tg] X.env).map (·.2) = [assign tg X.env] := by rfl) : JS X C Γ (.Assign [tg] e pos) M kl en :=
  JS.of (ps_asg pe_sem pg_sem hs hw h1) fun F h0 g H σ D he hf hG hu hx q hn => h F h0 g H σ _ he hf hG hu hx fun o Γ' M' ⟨s, e1, hg⟩ hm v F' k1 k2 H' x ow he' d hf' _ => by
    subst e1
    subst hm
    exact hg F' k1 k2 g H' σ v _ he' ow d hf' hG hu (hx.mono x) fun Γ2 M2 hk2 hm2 F2 h2 H2 σ2 x2 he2 hf2 => q Γ2 M2 hk2 hm2 F2 h2 σ2 H2 (x.trans x2) he2 hf2
end
end Tsa

/-! M16: least and greatest of a sequence of numbers; joined and repeated lists. -/
namespace Tsa
open PySem PySem.Spec PyProof.Rows L2 PySem.W
def leastI (n : Int) (ns : List Int) : Int := ns.foldl min n
def mostI (n : Int) (ns : List Int) : Int := ns.foldl max n
theorem alike_nums (ns : List Int) : AlikeAll (ns.map .int) := by
  refine ⟨fun x hx y hy => ?_, fun x hx => ?_⟩
  · obtain ⟨i, _, rfl⟩ := List.mem_map.mp hx
    obtain ⟨j, _, rfl⟩ := List.mem_map.mp hy
    rfl
  · obtain ⟨i, _, rfl⟩ := List.mem_map.mp hx
    intro z
    cases z
theorem depth_ints : ∀ ns : List Int, PyData.depthAll (ns.map .int) = 0
  | [] => rfl
  | n :: ns => by
    show max (PyData.depth (.int n)) (PyData.depthAll (ns.map .int)) = 0
    rw [depth_ints ns]
    rfl
theorem dp_ints {K : PySem.W.Frag} {H : Hp} : ∀ ns : List Int, DpAll K H (ns.map V.int) (ns.map .int)
  | [] => .nil
  | n :: ns => .cons (.int n) (dp_ints ns)
def rLeast (K : PySem.W.Frag) (f : Int → List Int → Int) : List V → Hp → VK → Prop := fun xs H Q => ∃ (p : Addr) (n : Int) (ns : List Int), xs = [.ref p] ∧ (SqL K H p ((n :: ns).map V.int) ∨ SqT K H p ((n :: ns).map V.int)) ∧ Q (.int (f n ns)) H
section
variable {X : Cx}
theorem call_least (hc : X.calm = true) (hu : X.A.units + 64 < cLine) : CallR X (.builtin "min") (rLeast X.K leastI) := by
  intro pins s σ H xs us Q I r ⟨p, n, ns, ex, hs, hq⟩
  subst ex
  obtain ⟨u, rfl, ru⟩ := r.one
  obtain rfl : u = Value.ref p := ru
  have hd : X.A.units + 1 + PyData.depthAll ((n :: ns).map .int) < cLine := by rw [depth_ints]; omega
  rcases hs with hs | hs
  · obtain ⟨its, rv, pl, hz⟩ := I.list hs
    obtain ⟨as, ra⟩ := Dp.readsAll I _ _ _ (dp_ints (n :: ns)) rv
    refine min_list_data (x := .int n) (xs := ns.map .int) (I.ok.hd hc) pl.isList (by simpa using ra) (alike_nums (n :: ns)) hd fun i v h' tk bs hv rd hk => ?_
    rw [PySem.W.minD_ints] at rd
    cases rd
    exact ⟨.int _, H, I.kept hk, ⟨_, rfl⟩, hq⟩
  · obtain ⟨its, rv, tu, hz⟩ := I.tuple hs
    obtain ⟨as, ra⟩ := Dp.readsAll I _ _ _ (dp_ints (n :: ns)) rv
    refine min_tuple_data (x := .int n) (xs := ns.map .int) (I.ok.hd hc) tu (by simpa using ra) (alike_nums (n :: ns)) hd fun i v h' tk bs hv rd hk => ?_
    rw [PySem.W.minD_ints] at rd
    cases rd
    exact ⟨.int _, H, I.kept hk, ⟨_, rfl⟩, hq⟩
theorem call_most (hc : X.calm = true) (hu : X.A.units + 64 < cLine) : CallR X (.builtin "max") (rLeast X.K mostI) := by
  intro pins s σ H xs us Q I r ⟨p, n, ns, ex, hs, hq⟩
  subst ex
  obtain ⟨u, rfl, ru⟩ := r.one
  obtain rfl : u = Value.ref p := ru
  have hd : X.A.units + 1 + PyData.depthAll ((n :: ns).map .int) < cLine := by rw [depth_ints]; omega
  rcases hs with hs | hs
  · obtain ⟨its, rv, pl, hz⟩ := I.list hs
    obtain ⟨as, ra⟩ := Dp.readsAll I _ _ _ (dp_ints (n :: ns)) rv
    refine max_list_data (x := .int n) (xs := ns.map .int) (I.ok.hd hc) pl.isList (by simpa using ra) (alike_nums (n :: ns)) hd fun i v h' tk bs hv rd hk => ?_
    rw [PySem.W.maxD_ints] at rd
    cases rd
    exact ⟨.int _, H, I.kept hk, ⟨_, rfl⟩, hq⟩
  · obtain ⟨its, rv, tu, hz⟩ := I.tuple hs
    obtain ⟨as, ra⟩ := Dp.readsAll I _ _ _ (dp_ints (n :: ns)) rv
    refine max_tuple_data (x := .int n) (xs := ns.map .int) (I.ok.hd hc) tu (by simpa using ra) (alike_nums (n :: ns)) hd fun i v h' tk bs hv rd hk => ?_
    rw [PySem.W.maxD_ints] at rd
    cases rd
    exact ⟨.int _, H, I.kept hk, ⟨_, rfl⟩, hq⟩
end
section
variable {K : PySem.W.Frag} {X : Cx} {C : XC} {pu pt : Bool} {ω : Type} {Γ : List SD} {e a b c tg ie : Expr} {es : List Expr} {M : Res ω} {pos p pn apos : Pos} {ta tb tc : TE} {k : Opd → List SD → Res ω → Prop} {kl : List SD → Res ω → Prop} {en : ω → EndK} {st : Stmt} {t : TS}
/-- numbers, locked or only read -/
inductive IntsS : List SD → List Int → Prop
  | val {ns : List Int} : IntsS (ns.map fun i => .val (.int i)) ns
  | rd {ns : List Int} : IntsS (ns.map fun i => .rd (.int i)) ns
  | vals {ns : List Int} : IntsS ((ns.map .int).map .val) ns
  | rds {ns : List Int} : IntsS ((ns.map .int).map .rd) ns
theorem ints_at {F G : Hp} {g : Int → SD} (hg : ∀ i v, own K F G (g i) emp v → v = .int i) : ∀ {ns : List Int} {vs : List V}, vs.length = (ns.map g).length → (∀ (i : Nat) (s : SD), (ns.map g)[i]? = some s → ∃ x, vs[i]? = some x ∧ own K F G s emp x) → vs = ns.map V.int
  | [], vs, l, _ => List.length_eq_zero_iff.mp l
  | n :: ns, [], l, _ => by cases l
  | n :: ns, v :: vs, l, it => by
    obtain ⟨x, e, w⟩ := it 0 _ rfl
    cases e
    rw [List.map_cons, ← ints_at hg (vs := vs) (by simpa using l) fun i s hs => it (i + 1) s hs, hg _ _ w]
theorem IntsS.ok {F G : Hp} {ys : List SD} {ns : List Int} {vs : List V} (q : IntsS ys ns) (l : vs.length = ys.length) (it : ∀ (i : Nat) (s : SD), ys[i]? = some s → ∃ x, vs[i]? = some x ∧ own K F G s emp x) : vs = ns.map V.int := by
  cases q with
  | val => exact ints_at (fun i v w => by unfold own at w; exact w.intV) l it
  | rd => exact ints_at (fun i v w => by unfold own at w; exact w.intV) l it
  | vals =>
    rw [List.map_map] at l it
    exact ints_at (g := SD.val ∘ PyData.int) (fun i v w => by show v = _; have w : own K F G (.val (.int i)) emp v := w; unfold own at w; exact w.intV) l it
  | rds =>
    rw [List.map_map] at l it
    exact ints_at (g := SD.rd ∘ PyData.int) (fun i v w => by show v = _; have w : own K F G (.rd (.int i)) emp v := w; unfold own at w; exact w.intV) l it
theorem JE.leastC {id : String} {x : Str} {f : Int → List Int → Int} (hc : CallR X (.builtin id) (rLeast X.K f)) (hv : bootBuiltins x = some (.builtin id)) (hm : X.mg x = none) (h : JE X C pu Γ e M fun o Γ1 M1 => ∃ t ys n ns, SeqV Γ1 o t ys ∧ IntsS ys (n :: ns) ∧ k (.own (.val (.int (f n ns)))) Γ1 M1) (hg : Gl X x) (hn : x ≠ "__name__") (hdb : (x == ("__debug__" : Str)) = false) (hs : starEach [e] X.env = (false, eval e X.env) :: starEach [] X.env) : JE X C pu Γ (.Call (.Name x pn) [e] [] pos) M k :=
  JE.bi hc hm (JA.one (h.mono fun o Γ1 M1 ⟨t, ys, n, ns, sv, is, hk⟩ vs F h1 h2 g H σ Q ow he d hf hG sz hu hq => by
    obtain ⟨v, ha, e1, s1, w⟩ := ow.one
    obtain ⟨q, ws, e2, l, z, it⟩ := sv.ok w he (d.mono s1 .refl) (hf.sub (Sub.cup2 s1 .refl d)) hG
    have ew := is.ok l it
    subst e1 e2 ew
    exact ⟨q, n, ns, rfl, by cases t with | true => exact .inr z | false => exact .inl z, hq.scal hk he d hf (.int _)⟩) hs) hv hg hn hdb hs
theorem JE.least {j : Nat} (hr : RoomG j X.A) (hc : X.calm = true) (hm : X.mg "min" = none) (h : JE X C pu Γ e M fun o Γ1 M1 => ∃ t ys n ns, SeqV Γ1 o t ys ∧ IntsS ys (n :: ns) ∧ k (.own (.val (.int (leastI n ns)))) Γ1 M1) (hg : Gl X "min" := by rfl) (hs : starEach [e] X.env = (false, eval e X.env) :: starEach [] X.env := by rfl) : JE X C pu Γ (.Call (.Name "min" pn) [e] [] pos) M k :=
  JE.leastC (call_least hc hr.lines64) rfl hm h hg (by decide) (by decide) hs
theorem JE.most {j : Nat} (hr : RoomG j X.A) (hc : X.calm = true) (hm : X.mg "max" = none) (h : JE X C pu Γ e M fun o Γ1 M1 => ∃ t ys n ns, SeqV Γ1 o t ys ∧ IntsS ys (n :: ns) ∧ k (.own (.val (.int (mostI n ns)))) Γ1 M1) (hg : Gl X "max" := by rfl) (hs : starEach [e] X.env = (false, eval e X.env) :: starEach [] X.env := by rfl) : JE X C pu Γ (.Call (.Name "max" pn) [e] [] pos) M k :=
  JE.leastC (call_most hc hr.lines64) rfl hm h hg (by decide) (by decide) hs
/-- a list of its own, its things locked -/
inductive TrkV (Γ : List SD) : Opd → List PyData → Prop
  | own {ds : List PyData} : TrkV Γ (.own (.lst (ds.map .val))) ds
  | at {i : Nat} {ds : List PyData} (h : Γ[i]? = some (.lst (ds.map .val))) : TrkV Γ (.at i) ds
end
end Tsa

/-! M17: data that is only read. -/
namespace Tsa
open PySem PySem.Spec PyProof.Rows L2
/-- plain data needs no frame -/
def rdN (d : PyData) : SD := if isScal d = true then .val d else .rd d
section
variable {K : PySem.W.Frag} {X : Cx} {C : XC} {pu pt : Bool} {ω : Type} {Γ : List SD} {e a b tg : Expr} {es : List Expr} {M : Res ω} {pos p pn : Pos} {ta tb : TE} {k : Opd → List SD → Res ω → Prop} {kS : List SD → List SD → Res ω → Prop}
theorem own_rdN {F G h : Hp} {v : V} {d : PyData} (w : Dt K (cup F G) v d) : own K F G (rdN d) h v := by
  unfold rdN
  split
  · unfold own
    exact w.scal (by assumption)
  · unfold own
    exact w
theorem ownL_rdN {F G : Hp} : ∀ {ds : List PyData} {vs : List V} {h : Hp}, DtL K (cup F G) vs ds → ownL K F G (ds.map rdN) h vs
  | _, _, h, .nil => by
    show ownL K F G [] h []
    unfold ownL
    rfl
  | _, _, h, .cons q l => by
    rw [List.map_cons]
    unfold ownL
    exact ⟨_, _, emp, h, rfl, .emp, .refl, .emp, own_rdN q, ownL_rdN l⟩
variable {ws : Nat → Prop}
theorem JG.tupR {n : Nat} {ds : List PyData} {kg : List SD → Prop} (hc : X.calm = true) (h : JGs X C ws Γ es (ds.map rdN) kg) (hn : (assignEach es X.env).length = ds.length := by rfl) (hst : (assignEach es X.env).findIdx? (·.1) = none := by rfl) :
    JG X C ws Γ (.Tuple es n pos) (.rd (.tuple ds)) kg := fun F h1 h2 g H σ v Q he ow d hf' hG hq pins s' u I r => by
  unfold own at ow
  obtain ⟨q, vs, e1, q1, q2⟩ := ow.tupV
  have sb : Sub (cup F C.G) H := Sub.cup hf'.fH (hG.trans hf'.gH)
  refine (pg_tup hc pgs_sem hn hst).run pins s' σ H v u Q I r ⟨q, vs, e1, SqT.mono sb q1, q2.len, ?_⟩
  exact h F emp h2 g H σ vs Q he (ownL_rdN q2) .emp (hf'.un d).emp hG hq
theorem JSrc.enumR {elts : List Expr} {kk : Nat} {tpos : Pos} (hm : X.mg "enumerate" = none) (h : JE X C pu Γ e M fun o Γ' M' => ∃ s ds, o = .own s ∧ SeqOf s false (ds.map .rd) ∧ kS ((enumS ds).map .rd) Γ' M') (hg : Gl X "enumerate" := by rfl) (hs : starEach [e] X.env = [(false, eval e X.env)] := by rfl) :
    JSrc X C pu Γ (.Tuple elts kk tpos) (.Call (.Name "enumerate" pn) [e] [] pos) M kS :=
  JSrc.of (pi_enum hg hm (pa_cons pe_sem pa_nil (by rw [hs]; rfl)) hs) fun F h0 g H σ R he hf hG hu hx q => semE_sz (h F h0 g H σ _ he hf hG hu hx fun o Γ' M' ⟨s, ds, e1, sq, hk⟩ hm v F' h1 h2 H' x ow he' d hf' hp sz => by
    subst e1
    obtain ⟨f2, dg⟩ := hf'.lent d
    obtain ⟨p, vs, e2, hl, hs, hi⟩ := sq.at ow (hf'.sub .l) hG
    subst e2
    have now : SqL X.K H' p vs := hs H' h2 F' .refl f2
    have len : ((enumS ds).map SD.rd).length = vs.length := by rw [hl]; unfold enumS; simp
    refine ⟨p, vs, rfl, now, q _ Γ' M' hk hm F' h1 h2 H' _ x he' f2 dg ⟨?_, ?_, ?_⟩ hp⟩
    · rw [len]; exact sz.1 _ _ now
    · exact fun i F2 h3 H3 x2 f3 hle => ⟨vs, hs H3 h3 F2 x2 f3, by rw [← len]; exact hle⟩
    · intro i s' F2 h3 H3 x2 f3 hs3
      have hd : ∃ d, ds[i]? = some d ∧ s' = .rd (.tuple [.int (i : Nat), d]) := by
        unfold enumS at hs3
        rw [List.map_map, List.getElem?_map, List.getElem?_zipIdx] at hs3
        cases q : ds[i]? with
        | none => rw [q] at hs3; cases hs3
        | some d => rw [q] at hs3; cases hs3; exact ⟨d, rfl, by simp⟩
      obtain ⟨dd, ed, es'⟩ := hd
      obtain ⟨y, e3, ow3⟩ := hi i (.rd dd) (by rw [List.getElem?_map, ed]; rfl)
      have sq3 : SqL X.K H3 p vs := hs H3 h3 F2 x2 f3
      refine ⟨⟨vs, y, sq3, e3⟩, fun z H4 ⟨T, y', e4, hT, eH, hz⟩ => ?_⟩
      have e5 := hz vs sq3
      rw [e3] at e5
      cases e5
      subst e4 eH es'
      unfold own at ow3
      have f4 : Fits F2 (cup (sgl T (.tup [.int (i : Nat), y])) h3) (cup h1 g) _ := f3.new hT
      have dT : Dis (sgl T (.tup [V.int (i : Nat), y])) h3 := Dis.one (f3.no hT).2.1
      refine ⟨cup F2 (sgl T (.tup [.int (i : Nat), y])), .l, ?_, f4.freeze dT⟩
      unfold own
      have dF : Dis F2 (sgl T (.tup [V.int (i : Nat), y])) := f4.fh.mono .refl .l
      have fg : Dis (cup F2 (sgl T (.tup [V.int (i : Nat), y]))) C.G := (f4.freeze dT).fg.mono .refl (hG.trans (.r dg))
      exact .tup (.of (Sub.l _ _ (Sub.r dF _ _ one_same))) (.cons (.int _) (.cons (ow3.mono (cup_mono_l (x2.trans .l) fg)) .nil)))
end
end Tsa

/-! M18: more of lists. -/
namespace Tsa
open PySem PySem.Spec PyProof.Rows L2
section
variable {K : PySem.W.Frag} {X : Cx} {C : XC} {pu pt : Bool} {ω : Type} {Γ : List SD} {e a b tg ie : Expr} {es : List Expr} {M : Res ω} {pos p pn apos : Pos} {k : Opd → List SD → Res ω → Prop}
def BmK (X : Cx) (C : XC) (i : Nat) (r : V → List V → Hp → VK → Prop) (os : List Opd) (Γ1 : List SD) (M1 : Res ω) (k : Opd → List SD → Res ω → Prop) : Prop :=
  ∀ (p : Addr) (vs : List V) (F h1 h2 g H : Hp) (σ : L2.St) (Q : VK), OpdsOk X.K F C.G os h1 h2 σ vs → EnvR X.K F C.G Γ1 h2 σ → Dis h1 h2 → Fits F (cup h1 h2) g H → Sub C.G g → Sz X.K H → M1 ≠ .un → σ[i]? = some (some (.ref p)) → Kt X.K C false Γ1 M1 k F h2 g σ Q → r (.ref p) vs H Q
/-- x.m(e, ..), x a slot's list -/
theorem JE.bmN {T id : String} {m : Str} {r : V → List V → Hp → VK → Prop} {i : Nat} {s : SD} {l : List SD} {mk : List SD → SD} {x : Str} (slot : Slot "list" m id) (hty : typeOf (.builtin id) = pure (.type "method_descriptor")) (hm : MtR X id r) (hΓ : Γ[i]? = some s) (la : LstAt s l mk)
    (h : JA X C false Γ (e :: es) M fun os Γ1 M1 => BmK X C i r os Γ1 M1 k)
    (hN : X.N[i]? = some x) (hv : Vis X.env.scope x) (hd : (x == ("__debug__" : Str)) = false) (hcd : (x == ("__classdict__" : Str)) = false)
    (hbase : attributeBase (.Name x p) m X.env (eval (.Name x p) X.env) = eval (.Name x p) X.env)
    (hfew : ((backTo pos (starEach (e :: es) X.env)).all (fun x => !x.1) && (backToKw pos (keywordEach [] X.env)).all (fun x => x.1.isSome) && decide ((e :: es).length + ([] : List Keyword).length + (if ([] : List Keyword).isEmpty then 0 else 1) < 30)) = true)
    (hline : (apos.endLine == pos.line) = true) (hs : starEach (e :: es) X.env = (false, eval e X.env) :: starEach es X.env) (hpl : (backTo pos (starEach es X.env)).any (·.1) = false) :
    JE X C false Γ (.Call (.Attribute (.Name x p) m apos) (e :: es) [] pos) M k :=
  JE.of (pe_bm PySem.F.plainAttrs_list slot hty hm (pe_var hN hv hd hcd) pa_sem hbase hfew hline hs hpl) fun F h0 g H σ Q he hf hG hu hx hq => by
    obtain ⟨p, vs, h', eo, hH, _⟩ := lst_upd (ha := Tsa.emp) he hΓ la .emp hf.emp hG
    refine ⟨.ref p, eo, tyV_lst hH, semA_sz (h F h0 g H σ _ he hf hG hu hx fun os Γ1 M1 hk hm us F' h1 h2 H' x ow he' d hf' hp sz => ?_)⟩
    subst hm
    exact hk p us F' h1 h2 g H' σ Q ow he' d hf' hG sz hu eo fun o Γ' M' hk hm v F2 k1 k2 H2 x2 a2 a3 a4 a5 a6 => hq o Γ' M' hk hm v F2 k1 k2 H2 (x.trans x2) a2 a3 a4 a5 fun z => nomatch z
theorem ownL_mid {F G : Hp} : ∀ {l : List SD} {h h1 : Hp} {vs : List V} {s : SD} {v : V} (n : Nat), ownL K F G l h vs → own K F G s h1 v → Dis h h1 → ownL K F G (l.take n ++ [s] ++ l.drop n) (cup h1 h) (vs.take n ++ [v] ++ vs.drop n)
  | l, h, h1, vs, s, v, 0, q, w, d => by
    show ownL K F G (s :: l) _ (v :: vs)
    unfold ownL
    exact ⟨v, vs, h1, h, rfl, .l, .r d.symm, d.symm, w, q⟩
  | [], h, h1, vs, s, v, n + 1, q, w, d => by
    unfold ownL at q
    subst q
    show ownL K F G [s] _ [v]
    unfold ownL ownL
    exact ⟨v, [], h1, emp, rfl, .l, .emp, Dis.emp.symm, w, rfl⟩
  | t :: l, h, h1, vs, s, v, n + 1, q, w, d => by
    unfold ownL at q
    obtain ⟨u, ur, k1, k2, e, s1, s2, dk, wu, q⟩ := q
    subst e
    show ownL K F G (t :: (l.take n ++ [s] ++ l.drop n)) _ (u :: (ur.take n ++ [v] ++ ur.drop n))
    unfold ownL
    exact ⟨u, _, k1, cup h1 k2, rfl, s1.trans (.r d.symm), Sub.cup2 .refl s2 d.symm, (Dis.cup (d.mono s1 .refl).symm dk.symm).symm, wu, ownL_mid n q w (d.mono s2 .refl)⟩
/-- x.insert(i, e) -/
theorem JE.insert {i : Nat} {s : SD} {l : List SD} {mk : List SD → SD} {x : Str} (hΓ : Γ[i]? = some s) (la : LstAt s l mk)
    (h : JI X C false Γ a M fun j Γ1 M1 => JE X C false Γ1 b M1 fun o Γ2 M2 => ∃ s1 l1 mk1 s2 M3, o = .own s2 ∧ Γ2[i]? = some s1 ∧ LstAt s1 l1 mk1 ∧ (M2 ≠ .un → M2 = M3 ∧ (0 ≤ j ∧ j < 2 ^ 62 ∧ l1.length < 16000000)) ∧ k (.own (.val .none)) (Γ2.set i (mk1 (l1.take j.toNat ++ [s2] ++ l1.drop j.toNat))) M3)
    (hN : X.N[i]? = some x := by rfl) (hv : Vis X.env.scope x := by first | exact Or.inl rfl | exact Or.inr (Or.inl rfl) | exact Or.inr (Or.inr rfl)) (hd : (x == ("__debug__" : Str)) = false := by decide) (hcd : (x == ("__classdict__" : Str)) = false := by decide)
    (hbase : attributeBase (.Name x p) "insert" X.env (eval (.Name x p) X.env) = eval (.Name x p) X.env := by rfl)
    (hfew : ((backTo pos (starEach (a :: [b]) X.env)).all (fun x => !x.1) && (backToKw pos (keywordEach [] X.env)).all (fun x => x.1.isSome) && decide ((a :: [b]).length + ([] : List Keyword).length + (if ([] : List Keyword).isEmpty then 0 else 1) < 30)) = true := by rfl)
    (hline : (apos.endLine == pos.line) = true := by rfl) (hs : starEach (a :: [b]) X.env = (false, eval a X.env) :: starEach [b] X.env := by rfl) (hs2 : starEach (b :: []) X.env = (false, eval b X.env) :: starEach [] X.env := by rfl) (hpl : (backTo pos (starEach [b] X.env)).any (·.1) = false := by rfl) :
    JE X C false Γ (.Call (.Attribute (.Name x p) "insert" apos) [a, b] [] pos) M k :=
  JE.bmN (T := "list") PySem.F.slot_list_insert PySem.F.type_list_insert mt_insert hΓ la (JA.cons (pt := false) (h.mono fun o Γ1 M1 ⟨j, e1, h2⟩ => ⟨.inl ⟨_, e1⟩, fun z => z, JA.one (h2.mono fun o' Γ2 M2 ⟨s1, l1, mk1, s2, M3, e2, hi, la1, hM, hk⟩ p' vs F h1 h2 g H σ Q ow he d hf hG sz hu eσ hq => by
    subst e1 e2
    obtain ⟨eM, c0, c1, hl⟩ := hM hu
    subst eM
    obtain ⟨v1, v2, ha, hb, ev, t1, t2, d12, w1, w2⟩ := ow.two
    obtain rfl := w1.intV
    obtain ⟨q, us, h', e3, hH, wl, sh, dh, put⟩ := lst_upd he hi la1 (d.mono t2 .refl) (hf.sub (Sub.cup2 t2 .refl d)) hG
    rw [eσ] at e3
    cases e3
    have len := ownL_len wl
    obtain ⟨h3, E3, d3, f3⟩ := put (l1.take j.toNat ++ [s2] ++ l1.drop j.toNat) (us.take j.toNat ++ [v2] ++ us.drop j.toNat) (cup hb h') emp (ownL_mid j.toNat wl w2 dh.symm) .refl .emp .emp
    exact ⟨p', us, j, v2, rfl, ev, hH, by rw [len]; exact Nat.lt_of_lt_of_le hl (by decide), c0, by omega, hq _ _ M2 hk rfl .non F emp h3 _ .refl (by unfold OpdOk own; exact .non) E3 .emp f3 fun z => nomatch z⟩) hs2⟩) hs) hN hv hd hcd hbase hfew hline hs hpl
end
end Tsa

/-! M19: sum, any, all; membership; slices. -/
namespace Tsa
open PySem PySem.Spec PyProof.Rows L2
section
variable {K : PySem.W.Frag} {X : Cx} {C : XC} {pu pt : Bool} {ω : Type} {Γ : List SD} {e a b tg ie : Expr} {es : List Expr} {M : Res ω} {pos p pn apos : Pos} {k : Opd → List SD → Res ω → Prop}
theorem bools_at {F G : Hp} : ∀ {bs : List Bool} {vs : List V}, vs.length = ((bs.map PyData.bool).map SD.val).length → (∀ (i : Nat) (s : SD), ((bs.map PyData.bool).map SD.val)[i]? = some s → ∃ x, vs[i]? = some x ∧ own K F G s emp x) → vs = bs.map V.bl
  | [], vs, l, _ => List.length_eq_zero_iff.mp l
  | n :: ns, [], l, _ => by cases l
  | n :: ns, v :: vs, l, it => by
    obtain ⟨x, e, w⟩ := it 0 _ rfl
    cases e
    unfold own at w
    rw [List.map_cons, ← bools_at (vs := vs) (by simpa using l) fun i s hs => it (i + 1) s hs, w.blV]
theorem JE.all (hc : X.calm = true) (hm : X.mg "all" = none) (h : JE X C pu Γ e M fun o Γ1 M1 => ∃ bs : List Bool, SeqV Γ1 o false ((bs.map .bool).map .val) ∧ k (.own (.val (.bool (bs.all id)))) Γ1 M1) (hg : Gl X "all" := by rfl) (hs : starEach [e] X.env = (false, eval e X.env) :: starEach [] X.env := by rfl) : JE X C pu Γ (.Call (.Name "all" pn) [e] [] pos) M k :=
  JE.bi (cr_all hc) hm (JA.one (h.mono fun o Γ1 M1 ⟨bs, sv, hk⟩ vs F h1 h2 g H σ Q ow he d hf hG sz hu hq => by
    obtain ⟨v, ha, e1, s1, w⟩ := ow.one
    obtain ⟨q, ws, e2, l, z, it⟩ := sv.ok w he (d.mono s1 .refl) (hf.sub (Sub.cup2 s1 .refl d)) hG
    have ew := bools_at l it
    subst e1 e2 ew
    exact ⟨q, bs, rfl, z, hq.scal hk he d hf (.bl _)⟩) hs) rfl hg (hs := hs)
end
end Tsa

/-! M20: slices. -/
namespace Tsa
open PySem PySem.Spec PyProof.Rows L2
def cutG {α : Type} (ys : List α) (lo hi : Option Int) : List α := (ys.drop (HT.sIx ys.length 0 lo)).take (HT.sIx ys.length ys.length hi - HT.sIx ys.length 0 lo)
theorem cut_map {α β : Type} {f : α → β} {xs : List α} {lo hi : Option Int} : cutG (xs.map f) lo hi = (cutG xs lo hi).map f := by
  unfold cutG
  rw [List.length_map, List.map_take, List.map_drop]
/-- a slice's part: left out, or a plain number -/
inductive PartV (X : Cx) (C : XC) (Γ : List SD) : Option Expr → Option Int → Prop
  | no : PartV X C Γ none none
  | at {e : Expr} {i : Int} (h : JVt X C Γ e (.own (.val (.int i)))) : PartV X C Γ (some e) (some i)
section
variable {K : PySem.W.Frag} {X : Cx} {C : XC} {pu pt : Bool} {ω : Type} {Γ : List SD} {e a b tg ie : Expr} {lo hi : Option Expr} {M : Res ω} {pos p2 : Pos} {k : Opd → List SD → Res ω → Prop}
def partT (X : Cx) : Option Expr → TO
  | none => tNoPart
  | some e => tPart (semE X e)
theorem po_part : ∀ {o : Option Expr}, PO X o (partT X o)
  | none => po_none
  | some _ => po_some pe_sem
theorem PartV.run {o : Option Expr} {i : Option Int} (q : PartV X C Γ o i) {F h g H : Hp} {σ : L2.St} {R : Option Int → Hp → Prop} (he : EnvR X.K F C.G Γ h σ) (hf : Fits F h g H) (hG : Sub C.G g)
    (hR : ∀ (F' h' H' : Hp), Sub F F' → EnvR X.K F' C.G Γ h' σ → Fits F' h' g H' → Sub h h' → R i H') : partT X o σ H R := by
  cases q with
  | no => exact hR F h H .refl he hf .refl
  | «at» q =>
    refine q F h g H σ _ he hf hG (by intro z; cases z) (fun e z => nomatch z) fun o Γ1 M1 ⟨e1, e2⟩ hm v F1 h1 h2 H1 x w he1 d hf1 hp => ?_
    subst e1 e2
    exact ⟨_, w.intV, hR F1 h2 H1 x he1 (hf1.un d) (hp rfl).1⟩
theorem cut_last {F G : Hp} {ys : List SD} {vs : List V} {i j : Option Int} (l : vs.length = ys.length) (it : ∀ (n : Nat) (s : SD), ys[n]? = some s → ∃ x, vs[n]? = some x ∧ own K F G s emp x) {h : Hp} : ownL K F G (cutG ys i j) h (cutV vs i j) := by
  have e : cutV vs i j = cutG vs i j := rfl
  rw [e]
  refine ownL_last (by unfold cutG; rw [l, List.length_take, List.length_take, List.length_drop, List.length_drop, l]) fun n s hs => ?_
  unfold cutG at hs ⊢
  rw [l]
  rw [List.getElem?_take] at hs ⊢
  split at hs
  · rename_i c
    rw [if_pos c]
    rw [List.getElem?_drop] at hs ⊢
    exact it _ _ hs
  · cases hs
/-- xs[i:j] of a list -/
theorem JE.sliceL (h : JE X C pu Γ a M fun oa Γ1 M1 => ((∃ s, oa = .own s) ∨ (∃ i, oa = .at i)) ∧ ∃ ys i j, SeqV Γ1 oa false ys ∧ PartV X C Γ1 lo i ∧ PartV X C Γ1 hi j ∧ k (.own (.lst (cutG ys i j))) Γ1 M1) : JE X C pu Γ (.Subscript a (.Slice lo hi none p2) pos) M k :=
  JE.of (pe_slice sl_list pe_sem po_part po_part) fun F h0 g H σ Q he hf hG hu hx hq => h F h0 g H σ _ he hf hG hu hx fun oa Γ1 M1 ⟨ho, ys, i, j, sv, p1, p2, hk⟩ hm v F1 h1 h2 H1 x ow he1 d hf1 hp => by
    subst hm
    have dg : Dis h1 g := hf1.hg.mono .l .refl
    have G1 : Sub C.G (cup h1 g) := hG.trans (.r dg)
    refine p1.run he1 (hf1.out d) G1 fun F2 h3 H2 x2 he2 hf2 b2 => p2.run he2 hf2 G1 fun F3 h4 H3 x3 he3 hf3 b3 => ?_
    have f4 := hf3.inn dg
    have dd := hf3.dis
    have fg := f4.G hG
    have ow3 : OpdOk X.K F3 C.G h1 h4 σ oa v := ow.mono (x2.trans x3) fg (by
      exact (Dis.cup fg.symm (f4.fh.mono .refl (.r dd)).symm).symm) ((f4.hg.mono (.r dd) hG).symm) (by
        rcases ho with z | z
        · exact .inl z
        · exact .inr (.inl z))
    obtain ⟨p, vs, e, l, z, it⟩ := sv.ok ow3 he3 dd f4 hG
    refine ⟨p, vs, e, z, fun q hn => ?_⟩
    have n := f4.no hn
    have n1 : h1 q = none := Sub.l.no n.2.1
    refine Kt.new (Γ := Γ1) (F := F3) (fun o Γ' M' hk hm v F2' k1 k2 H2' y a2 a3 a4 a5 a6 => hq o Γ' M' hk hm v F2' k1 k2 H2' (x.trans ((x2.trans x3).trans y)) a2 a3 a4 a5 fun z => ⟨((hp z).1.trans (b2.trans b3)).trans (a6 z).1, (a6 z).2.trans (hp z).2⟩) hk he3 dd f4 hn ?_
    unfold own
    exact ⟨q, _, h1, rfl, cup_some one_same, .r (Dis.one n1), n1, cut_last l it⟩
theorem cut_whole {α : Type} {ys : List α} {i j : Option Int} (h : HT.sIx ys.length 0 i = 0 ∧ HT.sIx ys.length ys.length j = ys.length) : cutG ys i j = ys := by
  unfold cutG
  rw [h.1, h.2, List.drop_zero, Nat.sub_zero, List.take_length]
theorem DtL.cut {S : Hp} {vs : List V} {ds : List PyData} {i j : Option Int} (h : DtL K S vs ds) : DtL K S (cutV vs i j) (cutG ds i j) := by
  have e : cutV vs i j = cutG vs i j := rfl
  rw [e]
  unfold cutG
  rw [h.len]
  exact (h.drop _).take _
/-- t[i:j] of a locked tuple -/
theorem JE.sliceT (h : JE X C pu Γ a M fun oa Γ1 M1 => ∃ ds i j, oa = .own (.val (.tuple ds)) ∧ PartV X C Γ1 lo i ∧ PartV X C Γ1 hi j ∧ k (.own (.val (.tuple (cutG ds i j)))) Γ1 M1) : JE X C pu Γ (.Subscript a (.Slice lo hi none p2) pos) M k :=
  JE.of (pe_slice sl_tupA pe_sem po_part po_part) fun F h0 g H σ Q he hf hG hu hx hq => h F h0 g H σ _ he hf hG hu hx fun oa Γ1 M1 ⟨ds, i, j, e1, p1, p2, hk⟩ hm v F1 h1 h2 H1 x ow he1 d hf1 hp => by
    subst hm e1
    refine p1.run he1 (hf1.un d) hG fun F2 h3 H2 x2 he2 hf2 b2 => p2.run he2 hf2 hG fun F3 h4 H3 x3 he3 hf3 b3 => ?_
    unfold OpdOk own at ow
    have ow3 := ow.mono (x2.trans x3)
    obtain ⟨p, vs, e, z, dl⟩ := ow3.tupV
    subst e
    have len := dl.len
    have bk : pu = true → Sub h0 h4 ∧ Γ1 = Γ := fun z => ⟨((hp z).1.trans (b2.trans b3)), (hp z).2⟩
    refine ⟨p, vs, rfl, SqT.mono hf3.fH z, fun wh => ?_, fun _ q hn => ?_⟩
    · rw [len] at wh
      rw [cut_whole wh] at hk
      exact hq _ _ M1 hk rfl _ F3 emp h4 H3 (x.trans (x2.trans x3)) ow3 he3 .emp hf3.emp bk
    · have n := hf3.no hn
      have f4 := hf3.new (o := .tup (cutV vs i j)) hn
      have dq : Dis (sgl q (HO.tup (cutV vs i j))) h4 := Dis.one n.2.1
      have f5 := f4.freeze dq
      have dF : Dis F3 (sgl q (HO.tup (cutV vs i j))) := f4.fh.mono .refl .l
      refine hq _ _ M1 hk rfl (.ref q) _ emp h4 _ ((x.trans (x2.trans x3)).trans .l) ?_ (he3.mono .l (f5.G hG) .refl) .emp f5.emp bk
      unfold OpdOk own
      exact .tup (.of (Sub.r dF _ _ one_same)) ((DtL.cut dl).mono .l)
/-- x in xs, x not in xs: data in a list of data -/
theorem InIn.core {r : R2} {f : PyData → List PyData → Bool} (hr : ∀ (x y : V) (H : Hp) (Q : VK) (d : PyData) (es : List PyData), Dp X.K H x d → Dp X.K H y (.list es) → SeqAt.shaped d = true → SeqAt.shaped (.list es) = true → Q (.bl (f d es)) H → r x y H Q)
    (h : EqIn X C pu Γ a b M fun d e Γ2 M3 => ∃ es, e = .list es ∧ k (.own (.val (.bool (f d es)))) Γ2 M3) : JT X.K C pu Γ (tOp r (semE X a) (semE X b)) M k := by
  refine JT.two2 (pt := pu) (Z := fun oa ob Γ2 M2 => ∃ d e M3, SeeO Γ2 oa d ∧ SeeO Γ2 ob e ∧ (M2 ≠ .un → M2 = M3 ∧ (SeqAt.shaped d = true ∧ SeqAt.shaped e = true)) ∧ ∃ es, e = .list es ∧ k (.own (.val (.bool (f d es)))) Γ2 M3) (JT.mono h fun oa Γ1 M1 ⟨h1, h2⟩ => ⟨by
    rcases h1 with h1 | h1
    · exact .inl h1
    · exact .inr (.inl h1), fun z => z, h2⟩) ?_
  intro oa ob Γ2 ⟨d, e, M3, sa, sb, hM, es, ee, hk⟩ F h1 h0 h2 g H σ va vb Q ow he dd hf hG hp hu hx hq
  obtain ⟨eM, c1, c2⟩ := hM hu
  subst eM ee
  obtain ⟨w1, w2⟩ := see_two sa sb ow he dd hf hG
  exact hr va vb H Q d es (w1.dp (.inl c1)) (w2.dp (.inl c2)) c1 c2 (hq.val .refl hk (.bl _) he (hf.un dd) hp)
theorem RoomG.lines65 {j : Nat} (r : RoomG j X.A) : X.A.units + 65 < cLine := by have := r.room.un; omega
theorem Cmp.inL (hu : X.A.units + 65 < cLine) (h : EqIn X C pu Γ a b M fun d e Γ2 M3 => ∃ es, e = .list es ∧ k (.own (.val (.bool (es.any fun z => PyData.eqv z d)))) Γ2 M3) (hm : behindInMarks .In b = false := by rfl) : Cmp X C pu Γ .In a b M k :=
  ⟨hm, _, op_inD hu, InIn.core (f := fun d es => es.any fun z => PyData.eqv z d) (fun x y H Q d es p1 p2 c1 c2 q => ⟨d, es, p1, p2, c1, c2, q⟩) h⟩
end
end Tsa

/-! M21: sorted numbers. -/
namespace Tsa
open PySem PySem.Spec PyProof.Rows L2
def sortI (ns : List Int) : List Int := ns.mergeSort fun a b => decide (a ≤ b)
section
variable {K : PySem.W.Frag} {X : Cx} {C : XC} {pu : Bool} {ω : Type} {Γ : List SD} {e : Expr} {M : Res ω} {pos pn : Pos} {k : Opd → List SD → Res ω → Prop}
end
end Tsa

/-! M22: membership in a tuple. -/
namespace Tsa
open PySem PySem.Spec PyProof.Rows L2
def rInW (K : PySem.W.Frag) : R2 := fun x y H Q => ∃ d es, Dp K H x d ∧ Dp K H y (.tuple es) ∧ SeqAt.shaped d = true ∧ SeqAt.shaped (.tuple es) = true ∧ Q (.bl (es.any fun z => PyData.eqv z d)) H
theorem op_inW {X : Cx} (hu : X.A.units + 65 < cLine) : OpR X (compareOp .In) (rInW X.K) := fun pins s σ H x y v u Q I rx ry ⟨d, es, p1, p2, c1, c2, q⟩ => by
  obtain ⟨as, t1⟩ := Dp.reads I d x v p1 rx
  obtain ⟨bs, t2⟩ := Dp.reads I (.tuple es) y u p2 ry
  exact SeqAt.in_tuple_reads t2 t1 (SeqAt.canLay_of_shaped c2) (SeqAt.canLay_of_shaped c1) (room_in_shaped c1 hu) ⟨.bl _, H, I, rfl, q⟩
def rOutW (K : PySem.W.Frag) : R2 := fun x y H Q => ∃ d es, Dp K H x d ∧ Dp K H y (.tuple es) ∧ SeqAt.shaped d = true ∧ SeqAt.shaped (.tuple es) = true ∧ Q (.bl (!es.any fun z => PyData.eqv z d)) H
section
variable {X : Cx} {C : XC} {pu : Bool} {ω : Type} {Γ : List SD} {a b : Expr} {M : Res ω} {k : Opd → List SD → Res ω → Prop}
theorem InW.core {r : R2} {f : PyData → List PyData → Bool} (hr : ∀ (x y : V) (H : Hp) (Q : VK) (d : PyData) (es : List PyData), Dp X.K H x d → Dp X.K H y (.tuple es) → SeqAt.shaped d = true → SeqAt.shaped (.tuple es) = true → Q (.bl (f d es)) H → r x y H Q)
    (h : EqIn X C pu Γ a b M fun d e Γ2 M3 => ∃ es, e = .tuple es ∧ k (.own (.val (.bool (f d es)))) Γ2 M3) : JT X.K C pu Γ (tOp r (semE X a) (semE X b)) M k := by
  refine JT.two2 (pt := pu) (Z := fun oa ob Γ2 M2 => ∃ d e M3, SeeO Γ2 oa d ∧ SeeO Γ2 ob e ∧ (M2 ≠ .un → M2 = M3 ∧ (SeqAt.shaped d = true ∧ SeqAt.shaped e = true)) ∧ ∃ es, e = .tuple es ∧ k (.own (.val (.bool (f d es)))) Γ2 M3) (JT.mono h fun oa Γ1 M1 ⟨h1, h2⟩ => ⟨by
    rcases h1 with h1 | h1
    · exact .inl h1
    · exact .inr (.inl h1), fun z => z, h2⟩) ?_
  intro oa ob Γ2 ⟨d, e, M3, sa, sb, hM, es, ee, hk⟩ F h1 h0 h2 g H σ va vb Q ow he dd hf hG hp hu hx hq
  obtain ⟨eM, c1, c2⟩ := hM hu
  subst eM ee
  obtain ⟨w1, w2⟩ := see_two sa sb ow he dd hf hG
  exact hr va vb H Q d es (w1.dp (.inl c1)) (w2.dp (.inl c2)) c1 c2 (hq.val .refl hk (.bl _) he (hf.un dd) hp)
theorem Cmp.inW (hu : X.A.units + 65 < cLine) (h : EqIn X C pu Γ a b M fun d e Γ2 M3 => ∃ es, e = .tuple es ∧ k (.own (.val (.bool (es.any fun z => PyData.eqv z d)))) Γ2 M3) (hm : behindInMarks .In b = false := by rfl) : Cmp X C pu Γ .In a b M k :=
  ⟨hm, _, op_inW hu, InW.core (f := fun d es => es.any fun z => PyData.eqv z d) (fun x y H Q d es p1 p2 c1 c2 q => ⟨d, es, p1, p2, c1, c2, q⟩) h⟩
end
end Tsa

/-! M23: xs.pop(i). -/
namespace Tsa
open PySem PySem.Spec PyProof.Rows L2
def popR {α : Type} (xs : List α) (j : Int) : Res (α × List α) := match ixN xs.length j with
  | some n => (match xs[n]? with
    | some x => .ok (x, xs.eraseIdx n)
    | none => .un)
  | none => .un
theorem popR_ok {α : Type} {xs : List α} {j : Int} (h : popR xs j ≠ .un) : ∃ n x, ixN xs.length j = some n ∧ xs[n]? = some x ∧ popR xs j = .ok (x, xs.eraseIdx n) := by
  unfold popR at h ⊢
  cases e : ixN xs.length j with
  | none => rw [e] at h; exact absurd rfl h
  | some n =>
    rw [e] at h
    cases e2 : xs[n]? with
    | none => simp only [e2] at h; exact absurd rfl h
    | some x => exact ⟨n, x, rfl, e2, by simp only [e2]⟩
section
variable {K : PySem.W.Frag} {X : Cx} {C : XC} {ω : Type} {Γ : List SD} {a : Expr} {M : Res ω} {pos p apos : Pos} {k : Opd → List SD → Res ω → Prop}
theorem erase_map {α β : Type} {f : α → β} : ∀ (xs : List α) (n : Nat), (xs.map f).eraseIdx n = (xs.eraseIdx n).map f
  | [], _ => rfl
  | _ :: _, 0 => rfl
  | x :: xs, n + 1 => by
    show f x :: (xs.map f).eraseIdx n = f x :: (xs.eraseIdx n).map f
    rw [erase_map xs n]
theorem ownL_out {F G : Hp} : ∀ {l : List SD} {h : Hp} {vs : List V} {n : Nat} {s : SD}, ownL K F G l h vs → l[n]? = some s → ∃ v h1 h2, vs[n]? = some v ∧ Sub h1 h ∧ Sub h2 h ∧ Dis h1 h2 ∧ own K F G s h1 v ∧ ownL K F G (l.eraseIdx n) h2 (vs.eraseIdx n)
  | t :: l, h, vs, 0, s, q, e => by
    unfold ownL at q
    obtain ⟨u, ur, k1, k2, ev, s1, s2, dk, wu, q⟩ := q
    cases e
    subst ev
    exact ⟨u, k1, k2, rfl, s1, s2, dk, wu, q⟩
  | t :: l, h, vs, n + 1, s, q, e => by
    unfold ownL at q
    obtain ⟨u, ur, k1, k2, ev, s1, s2, dk, wu, q⟩ := q
    subst ev
    obtain ⟨v, h1, h2, e2, t1, t2, d, w, q2⟩ := ownL_out (n := n) q e
    refine ⟨v, h1, cup k1 h2, e2, t1.trans s2, Sub.cup s1 (t2.trans s2), (Dis.cup (dk.mono .refl t1) d.symm).symm, w, ?_⟩
    show ownL K F G (t :: l.eraseIdx n) _ (u :: ur.eraseIdx n)
    unfold ownL
    exact ⟨u, _, k1, h2, rfl, .l, .r (dk.mono .refl t2), dk.mono .refl t2, wu, q2⟩
theorem JE.popAt {α : Type} {f : α → SD} {i : Nat} {s : SD} {l : List SD} {mk : List SD → SD} {x : Str} (hΓ : Γ[i]? = some s) (la : LstAt s l mk)
    (h : JI X C false Γ a M fun j Γ1 M1 => ∃ s1 mk1 xs kM, Γ1[i]? = some s1 ∧ LstAt s1 (xs.map f) mk1 ∧ M1 = (popR xs j).bind kM ∧ ∀ r, popR xs j = .ok r → k (.own (f r.1)) (Γ1.set i (mk1 (r.2.map f))) (kM r))
    (hN : X.N[i]? = some x := by rfl) (hv : Vis X.env.scope x := by first | exact Or.inl rfl | exact Or.inr (Or.inl rfl) | exact Or.inr (Or.inr rfl)) (hd : (x == ("__debug__" : Str)) = false := by decide) (hcd : (x == ("__classdict__" : Str)) = false := by decide)
    (hbase : attributeBase (.Name x p) "pop" X.env (eval (.Name x p) X.env) = eval (.Name x p) X.env := by rfl)
    (hfew : ((backTo pos (starEach (a :: []) X.env)).all (fun x => !x.1) && (backToKw pos (keywordEach [] X.env)).all (fun x => x.1.isSome) && decide ((a :: []).length + ([] : List Keyword).length + (if ([] : List Keyword).isEmpty then 0 else 1) < 30)) = true := by rfl)
    (hline : (apos.endLine == pos.line) = true := by rfl) (hs : starEach (a :: []) X.env = (false, eval a X.env) :: starEach [] X.env := by rfl) (hpl : (backTo pos (starEach [] X.env)).any (·.1) = false := by rfl) :
    JE X C false Γ (.Call (.Attribute (.Name x p) "pop" apos) [a] [] pos) M k :=
  JE.bm1 (T := "list") PySem.F.slot_list_pop PySem.F.type_list_pop mt_popAt hΓ la (h.mono fun o Γ1 M1 ⟨j, eo, s1, mk1, xs, kM, hi, la1, hM, hk⟩ p' v F h1 h2 g H σ Q ow he d hf hG sz hu eσ hq => by
    subst eo
    obtain rfl := ow.intV
    have hp : popR xs j ≠ .un := fun z => hu (by rw [hM, z]; rfl)
    obtain ⟨n, y, e1, e2, e3⟩ := popR_ok hp
    obtain ⟨q, vs, h', eo, hH, wl, sh, dh, put⟩ := lst_upd he hi la1 d hf hG
    rw [eσ] at eo
    cases eo
    have len := ownL_len wl
    rw [List.length_map] at len
    obtain ⟨z1, z2, z3, z4⟩ := ixN_seq e1
    have big := sz.1 _ _ (SqL.of hH)
    obtain ⟨w, k1, k2, ew, t1, t2, dk, wo, wl2⟩ := ownL_out (n := n) (s := f y) wl (by rw [List.getElem?_map, e2]; rfl)
    obtain ⟨h3, E3, d3, f3⟩ := put ((xs.map f).eraseIdx n) (vs.eraseIdx n) k2 k1 wl2 (t2.trans (.r dh)) (t1.trans (.r dh)) dk
    have em : (xs.map f).eraseIdx n = (xs.eraseIdx n).map f := erase_map xs n
    rw [em] at E3
    refine ⟨p', vs, j, n, w, rfl, rfl, hH, by omega, by omega, by rw [len]; exact z1, ew, ?_⟩
    exact hq _ _ (kM (y, xs.eraseIdx n)) (hk _ e3) (by rw [hM, e3]; rfl) w F k1 h3 _ .refl wo E3 d3 f3 fun z => nomatch z) hN hv hd hcd hbase hfew hline hs hpl
end
end Tsa

/-! M24: list(range(n)). -/
namespace Tsa
open PySem PySem.Spec PyProof.Rows L2
theorem rg_ints (i j : Int) : rgV i j = (rangeL i j).map V.int := by
  unfold rgV rangeL
  rw [List.map_map]
  rfl
theorem rg_ok {i j : Int} (h : rngOk i j) : RgOk i j := ⟨h.1.1, h.1.2, h.2.1.1, h.2.1.2, by have := h.2.2; omega⟩
section
variable {K : PySem.W.Frag} {X : Cx} {C : XC} {pu : Bool} {ω : Type} {Γ : List SD} {a : Expr} {M : Res ω} {pos p pn q2 : Pos} {k : Opd → List SD → Res ω → Prop}
theorem JE.listRg (hc : X.calm = true) (hm : X.mg "list" = none) (hmr : X.mg "range" = none) (h : JI X C pu Γ a M fun j Γ1 M1 => ∃ M2, (M1 ≠ .un → M1 = M2 ∧ rngOk 0 j) ∧ k (.own (.lst ((rangeL 0 j).map fun i => .val (.int i)))) Γ1 M2) (hg : Gl X "list" := by rfl) (hgr : Gl X "range" := by rfl)
    (hs : starEach [.Call (.Name "range" p) [a] [] q2] X.env = (false, eval (.Call (.Name "range" p) [a] [] q2) X.env) :: starEach [] X.env := by rfl) (hsr : starEach [a] X.env = (false, eval a X.env) :: starEach [] X.env := by rfl) : JE X C pu Γ (.Call (.Name "list" pn) [.Call (.Name "range" p) [a] [] q2] [] pos) M k :=
  JE.of (pe_listRg hc hg hm (prg_1 hgr hmr pe_sem hsr) hs) fun F h0 g H σ Q he hf hG hu hx hq => h F h0 g H σ _ he hf hG hu hx fun o Γ1 M1 ⟨j, e, M2, hM, hk⟩ hm v F' h1 h2 H' x ow he' d hf' hp => by
    subst e
    subst hm
    obtain ⟨eM, ok⟩ := hM hu
    subst eM
    refine ⟨j, ow.intV, rg_ok ok, fun r hn => ?_⟩
    have n := hf'.no hn
    have n1 : h1 r = none := Sub.l.no n.2.1
    refine Kt.new (Γ := Γ1) (F := F') (fun o Γ' M' hk hm v F2 k1 k2 H2 x2 a2 a3 a4 a5 a6 => hq o Γ' M' hk hm v F2 k1 k2 H2 (x.trans x2) a2 a3 a4 a5 fun z => ⟨(hp z).1.trans (a6 z).1, (a6 z).2.trans (hp z).2⟩) hk he' d hf' hn ?_
    unfold own
    refine ⟨r, _, h1, rfl, cup_some one_same, .r (Dis.one n1), n1, ?_⟩
    rw [rg_ints]
    have z : DtL X.K F' ((rangeL 0 j).map V.int) ((rangeL 0 j).map .int) := .ofInts
    have z2 := ownL_of (G := C.G) (h := h1) z
    rw [List.map_map] at z2
    exact z2
end
end Tsa

/-! M25: xs.count(i) of numbers. -/
namespace Tsa
open PySem PySem.Spec PyProof.Rows L2
section
variable {K : PySem.W.Frag} {X : Cx} {C : XC} {pu : Bool} {ω : Type} {Γ : List SD} {a o : Expr} {M : Res ω} {pos apos : Pos} {k : Opd → List SD → Res ω → Prop}
end
end Tsa

/-! N0: typed data, likeness of it, joined lists. -/
namespace Tsa
open PySem PySem.Spec PyProof.Rows L2

/-! ### encodings -/
structure EncOk {α : Type} [DecidableEq α] (e : α → PyData) (n : Nat) : Prop where
  lay : ∀ x, (e x).canLay0 = true
  dep : ∀ x, (e x).depth ≤ n
  eqv : ∀ x y, PyData.eqv (e x) (e y) = decide (x = y)
theorem EncOk.shaped {α : Type} [DecidableEq α] {e : α → PyData} {n : Nat} (h : EncOk e n) (hn : n ≤ 64) (x : α) : SeqAt.shaped (e x) = true := by
  unfold SeqAt.shaped
  rw [h.lay, decide_eq_true (Nat.le_trans (h.dep x) hn)]; rfl
theorem eokI : EncOk PyData.int 0 := ⟨fun _ => rfl, fun _ => Nat.le_refl _, fun x y => by
  show (x == y) = _
  rw [Bool.eq_iff_iff]; simp⟩
/-- None, or a thing -/
def encO {α : Type} (e : α → PyData) : Option α → PyData
  | none => .none
  | some x => e x
section
variable {α β γ δ : Type} [DecidableEq α] [DecidableEq β] [DecidableEq γ] [DecidableEq δ] {e : α → PyData} {f : β → PyData} {g : γ → PyData} {g4 : δ → PyData} {n m l j : Nat}
theorem eokAll (h : EncOk e n) : ∀ xs : List α, PyData.canLayAll0 (xs.map e) = true ∧ PyData.depthAll (xs.map e) ≤ n
  | [] => ⟨rfl, Nat.zero_le _⟩
  | x :: xs => by
    obtain ⟨h1, h2⟩ := eokAll h xs
    refine ⟨?_, ?_⟩
    · show (PyData.canLay0 (e x) && PyData.canLayAll0 (xs.map e)) = true
      rw [h.lay, h1]; rfl
    · show max (PyData.depth (e x)) (PyData.depthAll (xs.map e)) ≤ n
      exact Nat.max_le.mpr ⟨h.dep x, h2⟩
theorem eqvAll_map (h : EncOk e n) : ∀ xs ys : List α, PyData.eqvAll (xs.map e) (ys.map e) = decide (xs = ys)
  | [], [] => rfl
  | [], _ :: _ => by simp [PyData.eqvAll]
  | _ :: _, [] => by simp [PyData.eqvAll]
  | x :: xs, y :: ys => by
    show (PyData.eqv (e x) (e y) && PyData.eqvAll (xs.map e) (ys.map e)) = _
    rw [h.eqv, eqvAll_map h xs ys, Bool.eq_iff_iff]; simp
theorem eokL (h : EncOk e n) : EncOk (fun xs : List α => .list (xs.map e)) (n + 1) := by
  refine ⟨fun xs => (eokAll h xs).1, fun xs => Nat.succ_le_succ (eokAll h xs).2, fun xs ys => eqvAll_map h xs ys⟩
theorem eokW (h : EncOk e n) : EncOk (fun xs : List α => .tuple (xs.map e)) (n + 1) := by
  refine ⟨fun xs => (eokAll h xs).1, fun xs => Nat.succ_le_succ (eokAll h xs).2, fun xs ys => eqvAll_map h xs ys⟩
theorem any_mem (h : EncOk e n) (x : α) : ∀ xs : List α, ((xs.map e).any fun z => PyData.eqv z (e x)) = decide (x ∈ xs)
  | [] => by simp
  | y :: ys => by
    rw [List.map_cons, List.any_cons, any_mem h x ys, h.eqv, Bool.eq_iff_iff]
    simp only [Bool.or_eq_true, decide_eq_true_eq, List.mem_cons]
    exact ⟨fun z => z.imp_left Eq.symm, fun z => z.imp_left Eq.symm⟩
end

section
variable {K : PySem.W.Frag} {X : Cx} {C : XC} {pu pt : Bool} {ω α : Type} {Γ : List SD} {a b : Expr} {es : List Expr} {M : Res ω} {pos p pn : Pos} {k : Opd → List SD → Res ω → Prop}
theorem JE.neg (h : JI X C pu Γ a M fun i Γ1 M1 => k (.own (.val (.int (-i)))) Γ1 M1) : JE X C pu Γ (.UnaryOp .USub a pos) M k :=
  JE.of (pe_un un_neg pe_sem) fun F h0 g H σ Q he hf hG hu hx hq => h F h0 g H σ _ he hf hG hu hx fun o Γ' M' ⟨i, e1, hk⟩ hm v F' h1 h2 H' a1 a2 a3 a4 a5 a6 => by
    subst e1
    unfold OpdOk own at a2
    exact ⟨i, a2.intV, hq _ Γ' M' hk hm _ F' emp h2 H' a1 (by unfold OpdOk own; exact .int _) a3 .emp (a5.un a4).emp a6⟩
theorem op_eqI : OpR X (compareOp .Eq) (rI0 fun i j => .bl (decide (i = j))) := fun pins s σ H x y v u Q I rx ry ⟨i, j, e1, e2, q⟩ => by
  subst e1 e2
  exact op_eq pins s σ H _ _ v u Q I rx ry ⟨rfl, by
    rw [dec_int, show (i == j) = decide (i = j) by rw [Bool.eq_iff_iff]; simp]; exact q⟩
theorem op_neI : OpR X (compareOp .NotEq) (rI0 fun i j => .bl (!decide (i = j))) := fun pins s σ H x y v u Q I rx ry ⟨i, j, e1, e2, q⟩ => by
  subst e1 e2
  exact op_ne pins s σ H _ _ v u Q I rx ry ⟨rfl, by
    rw [dec_int, show (i == j) = decide (i = j) by rw [Bool.eq_iff_iff]; simp]; exact q⟩
theorem Cmp.eqI (h : JI X C pu Γ a M fun i Γ1 M1 => JI X C pu Γ1 b M1 fun j Γ2 M2 => k (.own (.val (.bool (decide (i = j))))) Γ2 M2) : Cmp X C pu Γ .Eq a b M k := Cmp.int op_eqI (nomark _) h
theorem Cmp.neI (h : JI X C pu Γ a M fun i Γ1 M1 => JI X C pu Γ1 b M1 fun j Γ2 M2 => k (.own (.val (.bool (!decide (i = j))))) Γ2 M2) : Cmp X C pu Γ .NotEq a b M k := Cmp.int op_neI (nomark _) h
/-- data of one encoding, alike -/
def EqT [DecidableEq α] (e : α → PyData) (X : Cx) (C : XC) (pu : Bool) {ω : Type} (Γ : List SD) (a b : Expr) (M : Res ω) (k : α → α → List SD → Res ω → Prop) : Prop :=
  JE X C pu Γ a M fun oa Γ1 M1 => ((∃ s, oa = .own s) ∨ (∃ i, oa = .at i)) ∧ JE X C pu Γ1 b M1 fun ob Γ2 M2 => ∃ x y, SeeO Γ2 oa (e x) ∧ SeeO Γ2 ob (e y) ∧ k x y Γ2 M2
theorem EqT.eqIn [DecidableEq α] {e : α → PyData} {n : Nat} (he : EncOk e n) (hn : n ≤ 64) {k : α → α → List SD → Res ω → Prop} {k' : PyData → PyData → List SD → Res ω → Prop} (h : EqT e X C pu Γ a b M k) (hk : ∀ x y Γ M, k x y Γ M → k' (e x) (e y) Γ M) : EqIn X C pu Γ a b M k' :=
  h.mono fun oa Γ1 M1 ⟨ho, h2⟩ => ⟨ho, h2.mono fun ob Γ2 M2 ⟨x, y, s1, s2, z⟩ => ⟨e x, e y, M2, s1, s2, fun _ => ⟨rfl, he.shaped hn x, he.shaped hn y⟩, hk _ _ _ _ z⟩⟩
theorem Cmp.eqT [DecidableEq α] {e : α → PyData} {n j : Nat} (he : EncOk e n) (hn : n ≤ 64) (hr : RoomG j X.A) (h : EqT e X C pu Γ a b M fun x y Γ2 M2 => k (.own (.val (.bool (decide (x = y))))) Γ2 M2) : Cmp X C pu Γ .Eq a b M k :=
  Cmp.eq hr.lines64 (h.eqIn he hn fun x y Γ M z => by rw [he.eqv]; exact z)
theorem Cmp.neT [DecidableEq α] {e : α → PyData} {n j : Nat} (he : EncOk e n) (hn : n ≤ 64) (hr : RoomG j X.A) (h : EqT e X C pu Γ a b M fun x y Γ2 M2 => k (.own (.val (.bool (!decide (x = y))))) Γ2 M2) : Cmp X C pu Γ .NotEq a b M k :=
  Cmp.ne hr.lines64 (h.eqIn he hn fun x y Γ M z => by rw [he.eqv]; exact z)
/-- texts -/
theorem Cmp.eqS {j : Nat} (hr : RoomG j X.A) (h : JE X C pu Γ a M fun oa Γ1 M1 => ∃ x, oa = .own (.val (.str x)) ∧ JE X C pu Γ1 b M1 fun ob Γ2 M2 => ∃ y, ob = .own (.val (.str y)) ∧ k (.own (.val (.bool (decide (x = y))))) Γ2 M2) : Cmp X C pu Γ .Eq a b M k :=
  ⟨nomark _, _, op_eq, JT.two (Z := fun sa ob Γ2 M2 => ∃ x y, sa = .val (.str x) ∧ ob = .own (.val (.str y)) ∧ k (.own (.val (.bool (decide (x = y))))) Γ2 M2) (h.mono fun oa Γ1 M1 ⟨x, e1, h2⟩ => ⟨_, e1, h2.mono fun ob Γ2 M2 ⟨y, e2, z⟩ => ⟨x, y, rfl, e2, z⟩⟩) (by
    rintro sa ob Γ2 ⟨x, y, rfl, rfl, hk⟩ F ha hb h0 h2 g H σ va vb Q w1 w2 he d1 d2 d3 hf hG hp hu hx hq
    unfold own at w1
    unfold OpdOk own at w2
    obtain rfl := w1.strV
    obtain rfl := w2.strV
    refine ⟨rfl, ?_⟩
    have ed : decide (V.str x = V.str y) = decide (x = y) := by rw [Bool.eq_iff_iff]; simp
    rw [ed]
    exact hq _ Γ2 M hk rfl _ F emp h2 H .refl (by unfold OpdOk own; exact .bl _) he .emp ((hf.sub ((Sub.r d3).trans (.r (Dis.cup d1.symm d2.symm).symm))).emp) hp)⟩
end
end Tsa

/-! N1: typed sequences; slots locked; two names at once; names for values. -/
namespace Tsa
open PySem PySem.Spec PyProof.Rows L2
section
variable {Γ : List SD} {α : Type} {xs : List α} {e : α → PyData} {i : Nat} {v : V}
theorem mm {f : PyData → SD} : (xs.map e).map f = xs.map fun x => f (e x) := by rw [List.map_map]; rfl
theorem soL : SeqOf (.val (.list (xs.map e))) false (xs.map fun x => .val (e x)) := by rw [← mm]; exact .lst
theorem soW : SeqOf (.val (.tuple (xs.map e))) true (xs.map fun x => .val (e x)) := by rw [← mm]; exact .tup
theorem soRL : SeqOf (.rd (.list (xs.map e))) false (xs.map fun x => .rd (e x)) := by rw [← mm]; exact .rlst
theorem soM : SeqOf (.lst (xs.map fun x => .val (e x))) false (xs.map fun x => .val (e x)) := by rw [← mm]; exact .mine
theorem soSL (c : ∀ x, isScal (e x) = true) : SeqOf (.rd (.list (xs.map e))) false (xs.map fun x => .val (e x)) := by
  rw [← mm]
  exact .rscL fun d hd => by
    obtain ⟨x, _, rfl⟩ := List.mem_map.mp hd
    exact c x
end
section
variable {K : PySem.W.Frag} {X : Cx} {C : XC} {pu pt : Bool} {ω β α : Type} {Γ : List SD} {a b e : Expr} {es : List Expr} {sts : List Stmt} {M : Res ω} {pos p pn : Pos} {t : TS} {te : TE} {k : Opd → List SD → Res ω → Prop} {kl : List SD → Res ω → Prop} {en : ω → EndK}
/-- a slot's thing is locked -/
theorem frz_env {F G h g H : Hp} {σ : L2.St} {i : Nat} {s : SD} {d : PyData} (he : EnvR K F G Γ h σ) (hf : Fits F h g H) (hG : Sub G g) (hi : Γ[i]? = some s) (fz : Fz s d) : ∃ F' h', Sub F F' ∧ Sub h' h ∧ EnvR K F' G (Γ.set i (.val d)) h' σ ∧ Fits F' h' g H := by
  obtain ⟨o, h1, h2, eo, s1, s2, d12, ow, put⟩ := he.at hi
  have ne : s ≠ .hole := by intro z; subst z; cases fz
  obtain ⟨v, e1, ow'⟩ := ow.val ne
  subst e1
  have f1 : Fits F (cup h1 h2) g H := hf.sub (Sub.cup s1 s2)
  have f2 := f1.freeze d12
  refine ⟨cup F h1, h2, .l, s2, ?_, f2⟩
  have w : Dt K (cup F h1) v d := fz.ok .l (.r (f1.fh.mono .refl .l)) ow'
  have z := put (cup F h1) (.val d) (some v) emp h2 .l (f2.fg.mono .refl hG) ⟨v, rfl, by unfold own; exact w⟩ .emp .emp .refl
  have es : σ.set i (some v) = σ := by
    apply List.ext_getElem?
    intro j
    by_cases c : i = j
    · subst c
      rw [List.getElem?_set_self (List.getElem?_eq_some_iff.mp eo).1, eo]
    · rw [List.getElem?_set_ne c]
  rw [es] at z
  exact z
theorem JST.frz {i : Nat} {s : SD} {d : PyData} (hi : Γ[i]? = some s) (fz : Fz s d) (h : JST K C (Γ.set i (.val d)) t M kl en) : JST K C Γ t M kl en := fun F h0 g H σ D he hf hG hu hx q hn => by
  obtain ⟨F', h', x, sh, he', hf'⟩ := frz_env he hf hG hi fz
  exact h F' h' g H σ D he' hf' hG hu (hx.mono x) (fun Γ' M' z hm F2 h2 σ2 H2 x2 => q Γ' M' z hm F2 h2 σ2 H2 (x.trans x2)) fun w hw => (hn w hw).mono x
theorem JL.frz {i : Nat} {s : SD} {d : PyData} (hi : Γ[i]? = some s) (fz : Fz s d) (h : JL X C (Γ.set i (.val d)) sts M kl en) : JL X C Γ sts M kl en := JST.frz hi fz h
/-- a value is given a name in the mirror -/
def bindv {α β : Type} (a : α) (f : α → Res β) : Res β := f a
theorem nex_bindv {α β : Type} {a : α} {f : α → Res β} (h : ∀ x e, f x ≠ .ex e) : ∀ e, bindv a f ≠ .ex e := h a
theorem JL.letv {α : Type} {Γf : α → List SD} {kM : α → Res ω} (x : α) (h : ∀ x, JL X C (Γf x) sts (kM x) kl en) : JL X C (Γf x) sts (bindv x kM) kl en := h x
/-- a, b = e1, e2: two names -/
theorem JS.par {i j : Nat} {x y : Str} {px py pt' : Pos} {kt k2 pt2} (hc : X.calm = true) (hN : X.N.Nodup)
    (h : JE X C false Γ a M fun oa Γ1 M1 => ∃ s1, oa = .own s1 ∧ JE X C false Γ1 b M1 fun ob Γ2 M2 => ∃ s2, ob = .own s2 ∧ i < Γ2.length ∧ j < Γ2.length ∧ kl ((Γ2.set i s1).set j s2) M2)
    (hi : X.N[i]? = some x := by rfl) (hj : X.N[j]? = some y := by rfl) (hij : i ≠ j := by decide)
    (hx : X.env.scope.names.lookup x = some .local := by rfl) (hy : X.env.scope.names.lookup y = some .local := by rfl)
    (hw : swappedStores [.Tuple [.Name x px, .Name y py] kt pt'] (.Tuple [a, b] k2 pt2) X.env = pure (some [x, y]) := by rfl)
    (hs : swapsWithSole [.Tuple [.Name x px, .Name y py] kt pt'] (.Tuple [a, b] k2 pt2) pos.line X.env = pure false := by rfl)
    (hs1 : starEach (a :: [b]) X.env = (false, eval a X.env) :: starEach [b] X.env := by rfl) (hs2 : starEach (b :: []) X.env = (false, eval b X.env) :: starEach [] X.env := by rfl) :
    JS X C Γ (.Assign [.Tuple [.Name x px, .Name y py] kt pt'] (.Tuple [a, b] k2 pt2) pos) M kl en :=
  JS.of (ps_par hc hN hi hj hij hx hy pa_sem hw hs) fun F h0 g H σ D he hf hG hu hx' q hn => by
    have A : JA X C false Γ (a :: [b]) M fun os Γ2 M2 => ∃ s1 s2, os = [.own s1, .own s2] ∧ i < Γ2.length ∧ j < Γ2.length ∧ kl ((Γ2.set i s1).set j s2) M2 :=
      JA.cons (pt := false) (h.mono fun oa Γ1 M1 ⟨s1, e1, h2⟩ => ⟨.inl ⟨_, e1⟩, fun z => z, JA.one (h2.mono fun ob Γ2 M2 ⟨s2, e2, l1, l2, z⟩ => ⟨s1, s2, by rw [e1, e2], l1, l2, z⟩) hs2⟩) hs1
    refine A F h0 g H σ _ he hf hG hu hx' fun os Γ2 M2 ⟨s1, s2, eo, l1, l2, hk⟩ hm vs F' h1 h2 H' x' ow he' d hf' hp => ?_
    subst eo hm
    obtain ⟨v, w, ha, hb, ev, sa, sb, dab, wa, wb⟩ := ow.two
    subst ev
    unfold OpdOk at wa wb
    have fg := hf'.G hG
    have E1 := EnvR.put he' l1 wa (d.mono sa .refl) (fg)
    have dh : Dis hb (cup ha h2) := (Dis.cup dab (d.mono sb .refl).symm).symm
    have E2 := EnvR.put E1 (by rw [List.length_set]; exact l2) wb dh fg
    refine ⟨v, w, rfl, q _ M2 hk rfl F' _ _ H' x' E2 (hf'.sub (Sub.cup (sb.trans .l) (Sub.cup (sa.trans .l) (.r d))))⟩
end
end Tsa

/-! N2: typed lists: written, joined, cut; comprehensions without effects. -/
namespace Tsa
open PySem PySem.Spec PyProof.Rows L2
section
variable {K : PySem.W.Frag} {X : Cx} {C : XC} {pu pt : Bool} {ω α : Type} {Γ : List SD} {e a b c tg iter elt : Expr} {es : List Expr} {M : Res ω} {pos p pn p2 apos : Pos} {k : Opd → List SD → Res ω → Prop}
theorem JE.insertT {f : α → SD} {i : Nat} {s : SD} {l : List SD} {mk : List SD → SD} {x : Str} (hΓ : Γ[i]? = some s) (la : LstAt s l mk)
    (h : JI X C false Γ a M fun j Γ1 M1 => JE X C false Γ1 b M1 fun o Γ2 M2 => ∃ (s1 : SD) (mk1 : List SD → SD) (xs : List α) (y : α) (M3 : Res ω), o = .own (f y) ∧ Γ2[i]? = some s1 ∧ LstAt s1 (xs.map f) mk1 ∧ (M2 ≠ .un → M2 = M3 ∧ (0 ≤ j ∧ j < 2 ^ 62 ∧ xs.length < 16000000)) ∧ k (.own (.val .none)) (Γ2.set i (mk1 ((xs.take j.toNat ++ [y] ++ xs.drop j.toNat).map f))) M3)
    (hN : X.N[i]? = some x := by rfl) (hv : Vis X.env.scope x := by first | exact Or.inl rfl | exact Or.inr (Or.inl rfl) | exact Or.inr (Or.inr rfl)) (hd : (x == ("__debug__" : Str)) = false := by decide) (hcd : (x == ("__classdict__" : Str)) = false := by decide)
    (hbase : attributeBase (.Name x p) "insert" X.env (eval (.Name x p) X.env) = eval (.Name x p) X.env := by rfl)
    (hfew : ((backTo pos (starEach (a :: [b]) X.env)).all (fun x => !x.1) && (backToKw pos (keywordEach [] X.env)).all (fun x => x.1.isSome) && decide ((a :: [b]).length + ([] : List Keyword).length + (if ([] : List Keyword).isEmpty then 0 else 1) < 30)) = true := by rfl)
    (hline : (apos.endLine == pos.line) = true := by rfl) (hs : starEach (a :: [b]) X.env = (false, eval a X.env) :: starEach [b] X.env := by rfl) (hs2 : starEach (b :: []) X.env = (false, eval b X.env) :: starEach [] X.env := by rfl) (hpl : (backTo pos (starEach [b] X.env)).any (·.1) = false := by rfl) :
    JE X C false Γ (.Call (.Attribute (.Name x p) "insert" apos) [a, b] [] pos) M k :=
  JE.insert hΓ la (h.mono fun o Γ1 M1 ⟨j, e1, h2⟩ => ⟨j, e1, h2.mono fun o' Γ2 M2 ⟨s1, mk1, xs, y, M3, e2, hi, la1, hM, hk⟩ => ⟨s1, _, mk1, f y, M3, e2, hi, la1, fun z => by rw [List.length_map]; exact hM z, by rw [List.map_append, List.map_append, List.map_take, List.map_drop] at hk; exact hk⟩⟩) hN hv hd hcd hbase hfew hline hs hs2 hpl
/-! ### xs + ys -/
def rCatL (K : PySem.W.Frag) : R2 := fun x y H Q => ∃ l b xs zs, x = .ref l ∧ y = .ref b ∧ SqL K H l xs ∧ SqL K H b zs ∧ xs.length + zs.length ≤ sizeLine ∧ ∀ p, H p = none → Q (.ref p) (upd H p (.lst (xs ++ zs)))
theorem op_catL : OpR X (binaryOp .Add) (rCatL X.K) := by
  intro pins s σ H x y v u Q I rx ry h
  obtain ⟨l, b, xs, zs, rfl, rfl, hH, hB, hz, q⟩ := h
  cases rx
  cases ry
  obtain ⟨its, r, pl, _⟩ := I.list hH
  obtain ⟨its2, r2, pl2, _⟩ := I.list hB
  obtain ⟨⟨cls, dd, data, sl⟩, ho, hc, n, hd⟩ := pl.isList
  obtain ⟨⟨cls2, dd2, data2, sl2⟩, ho2, hc2, n2, hd2⟩ := pl2.isList
  simp only at hc hd hc2 hd2
  subst hc hd hc2 hd2
  have e : its.toArray ++ its2.toArray = (its ++ its2).toArray := by simp
  have l1 := r.length
  have l2 := r2.length
  refine concat_meets ⟨_, ho, rfl⟩ ⟨_, ho2, rfl⟩ noFill_list_add seq_list_add PySem.F.slot_list_add PySem.F.entry_list_add (PySem.F.args_list_add_2 _ _) (list_addW l b its.toArray its2.toArray n n2 dd dd2 sl sl2 (by rw [List.size_toArray, List.size_toArray]; omega)) ⟨ho, ho2, ?_⟩
  rw [e]
  exact ⟨.ref _, _, I.lnew (t' := s.toks) (r.append r2) (by rw [List.length_append]; omega), rfl, q _ I.fresh⟩
theorem items_last {f : α → SD} {F G : Hp} {xs : List α} {vs : List V} (l : vs.length = (xs.map f).length) (it : ∀ (i : Nat) (s : SD), (xs.map f)[i]? = some s → ∃ x, vs[i]? = some x ∧ own K F G s emp x) {h : Hp} : ownL K F G (xs.map f) h vs := ownL_last l it
theorem ownL_app2 {F G : Hp} : ∀ {as bs : List SD} {h1 h2 h : Hp} {vs us : List V}, ownL K F G as h1 vs → ownL K F G bs h2 us → Dis h1 h2 → Sub h1 h → Sub h2 h → ownL K F G (as ++ bs) h (vs ++ us)
  | [], _, _, _, _, _, _, a, b, _, _, s2 => by
    unfold ownL at a
    subst a
    exact ownL_mono .refl .refl _ s2 b
  | s :: as, bs, h1, h2, h, vs, us, a, b, d, s1, s2 => by
    unfold ownL at a
    obtain ⟨v, vr, k1, k2, e, t1, t2, dk, w, a⟩ := a
    subst e
    show ownL K F G (s :: (as ++ bs)) h (v :: (vr ++ us))
    unfold ownL
    exact ⟨v, _, k1, cup k2 h2, rfl, t1.trans s1, Sub.cup (t2.trans s1) s2, (Dis.cup dk.symm ((d.mono t1 .refl).symm)).symm, w, ownL_app2 a b (d.mono t2 .refl) .l (.r (d.mono t2 .refl))⟩
/-- two lists of lasting items, joined -/
theorem JE.catT {f : α → SD} (h : JE X C pu Γ a M fun oa Γ1 M1 => ((∃ s, oa = .own s) ∨ (∃ i, oa = .at i)) ∧ JE X C pu Γ1 b M1 fun ob Γ2 M2 => ∃ (xs ys : List α) (M3 : Res ω), SeqV Γ2 oa false (xs.map f) ∧ SeqV Γ2 ob false (ys.map f) ∧ (M2 ≠ .un → M2 = M3 ∧ xs.length + ys.length ≤ 16000000) ∧ k (.own (.lst ((xs ++ ys).map f))) Γ2 M3) :
    JE X C pu Γ (.BinOp a .Add b pos) M k :=
  JE.of (pe_op op_catL pe_sem pe_sem) (JT.two2 (pt := pu) (Z := fun oa ob Γ2 M2 => ∃ (xs ys : List α) (M3 : Res ω), SeqV Γ2 oa false (xs.map f) ∧ SeqV Γ2 ob false (ys.map f) ∧ (M2 ≠ .un → M2 = M3 ∧ xs.length + ys.length ≤ 16000000) ∧ k (.own (.lst ((xs ++ ys).map f))) Γ2 M3) (h.mono fun oa Γ1 M1 ⟨h1, h2⟩ => ⟨h1.imp id .inl, fun z => z, h2⟩) (by
    rintro oa ob Γ2 ⟨xs, ys, M3, sa, sb, hM, hk⟩ F h1 h0 h2 g H σ va vb Q ow he d hf hG hp hu hx hq
    obtain ⟨eM, hz⟩ := hM hu
    subst eM
    obtain ⟨v1, v2, ha, hb, ev, t1, t2, d12, w1, w2⟩ := ow.two
    cases ev
    obtain ⟨pa, us, ea, la, za, ia⟩ := sa.ok w1 he (d.mono t1 .refl) (hf.sub (Sub.cup2 t1 .refl d)) hG
    obtain ⟨pb, ws, eb, lb, zb, ib⟩ := sb.ok w2 he (d.mono t2 .refl) (hf.sub (Sub.cup2 t2 .refl d)) hG
    have n1 : us.length = xs.length := by rw [la, List.length_map]
    have n2 : ws.length = ys.length := by rw [lb, List.length_map]
    refine ⟨pa, pb, us, ws, ea, eb, za, zb, by rw [sizeLine_eq]; omega, fun q hn => ?_⟩
    have nn := hf.no hn
    have m1 : h1 q = none := Sub.l.no nn.2.1
    have W : ownL X.K F C.G ((xs ++ ys).map f) emp (us ++ ws) := by
      rw [List.map_append]
      exact ownL_app2 (h1 := emp) (h2 := emp) (items_last la ia) (items_last lb ib) .emp .emp .emp
    exact Kt.new (Γ := Γ2) (F := F) (fun o Γ' M' hk hm v F2 k1 k2 H2 x2 a2 a3 a4 a5 a6 => hq o Γ' M' hk hm v F2 k1 k2 H2 x2 a2 a3 a4 a5 fun z => ⟨(hp z).1.trans (a6 z).1, (a6 z).2.trans (hp z).2⟩) hk he d hf hn (by
      unfold own
      exact ⟨q, _, emp, rfl, cup_some one_same, .emp, rfl, W⟩)))
/-- xs[i:j] of a list of lasting items -/
theorem JE.sliceLT {f : α → SD} {lo hi : Option Expr} (h : JE X C pu Γ a M fun oa Γ1 M1 => ((∃ s, oa = .own s) ∨ (∃ i, oa = .at i)) ∧ ∃ (xs : List α) (i j : Option Int), SeqV Γ1 oa false (xs.map f) ∧ PartV X C Γ1 lo i ∧ PartV X C Γ1 hi j ∧ k (.own (.lst ((cutG xs i j).map f))) Γ1 M1) :
    JE X C pu Γ (.Subscript a (.Slice lo hi none p2) pos) M k :=
  JE.sliceL (h.mono fun oa Γ1 M1 ⟨ho, xs, i, j, sv, p1, p2, hk⟩ => ⟨ho, _, i, j, sv, p1, p2, by rw [cut_map]; exact hk⟩)
/-- t[i:j] of a locked tuple of one kind -/
theorem JE.sliceWT {e : α → PyData} {lo hi : Option Expr} (h : JE X C pu Γ a M fun oa Γ1 M1 => ∃ (xs : List α) (i j : Option Int), oa = .own (.val (.tuple (xs.map e))) ∧ PartV X C Γ1 lo i ∧ PartV X C Γ1 hi j ∧ k (.own (.val (.tuple ((cutG xs i j).map e)))) Γ1 M1) :
    JE X C pu Γ (.Subscript a (.Slice lo hi none p2) pos) M k :=
  JE.sliceT (h.mono fun oa Γ1 M1 ⟨xs, i, j, ho, p1, p2, hk⟩ => ⟨_, i, j, ho, p1, p2, by rw [cut_map]; exact hk⟩)
/-! ### comprehensions without effects -/
theorem compL_pure {α β : Type} {g : α → β} {f : α → Unit → Res (Option β × Unit)} : ∀ l : List α, (∀ x, f x () = .ok (some (g x), ())) → compL f l () = .ok (l.map g, ())
  | [], _ => rfl
  | x :: l, h => by
    rw [compL_cons, h x]
    show (compL f l ()).bind (fun q => Res.ok (consO (some (g x)) q.1, q.2)) = _
    rw [compL_pure l h]; rfl
theorem compL_filt {α β : Type} {q : α → Bool} {g : α → β} {f : α → Unit → Res (Option β × Unit)} : ∀ l : List α, (∀ x, f x () = cond (q x) (.ok (some (g x), ())) (.ok (none, ()))) → compL f l () = .ok ((l.filter q).map g, ())
  | [], _ => rfl
  | x :: l, h => by
    rw [compL_cons, h x]
    cases e : q x with
    | true =>
      show (compL f l ()).bind (fun r => Res.ok (consO (some (g x)) r.1, r.2)) = _
      rw [compL_filt l h, List.filter_cons_of_pos e]; rfl
    | false =>
      show (compL f l ()).bind (fun r => Res.ok (consO none r.1, r.2)) = _
      rw [compL_filt l h, List.filter_cons_of_neg (by rw [e]; exact Bool.false_ne_true)]; rfl
/-- [elt for tg in iter] -/
theorem JT.compP {scope : Scope} {own' : List (Str × Nat)} {β : Type} {sd : α → SD} {g : α → β} {se : β → SD} 
    (h : JSrc X C pu Γ tg iter M fun ys Γ1 M1 => ∃ (xs : List α), ys = xs.map sd ∧ PersL Γ1 Γ1 (own'.map (·.2)) ∧
      (∀ x, ∃ Γ2, Le (wipeG Γ2 (own'.map (·.2))) (wipeG Γ1 (own'.map (·.2))) ∧
        (Blk X scope fun X' => JG X' C (fun j => j ∈ own'.map (·.2)) (wipeG Γ1 (own'.map (·.2))) tg (sd x) fun Γ' => Γ' = Γ2) ∧
        Blk X scope fun X' => JVt X' (noE C) Γ2 elt (.own (se (g x)))) ∧
      k (.own (.lst ((xs.map g).map se))) Γ1 M1)
: JT X.K C pu Γ (lcTE X scope own' tg iter [] elt) M k :=
  JT.comp (fun F h0 g' H σ R he hf hG hu hx q => h F h0 g' H σ R he hf hG hu hx fun ys Γ1 M1 ⟨xs, e1, pl, hb, hk⟩ => q ys Γ1 M1 ⟨α, β, Unit, xs, sd, fun x _ => .ok (some (g x), ()), (), fun _ => Γ1, se, fun _ => M1, e1, by rw [compL_pure (g := g) xs fun _ => rfl]; rfl, Le.refl, fun _ => ⟨rfl, fun _ => rfl⟩, fun _ => pl, fun x t => by
      obtain ⟨Γ2, l2, jg, je⟩ := hb x
      exact ⟨Γ2, l2, jg, fun s H Ca cl fp => JE.tot (je s H Ca cl fp) ⟨g x, (), rfl, rfl, l2⟩⟩, fun r hr => by
      rw [compL_pure (g := g) xs fun _ => rfl] at hr
      cases hr
      exact hk⟩) (.inl rfl)
/-- [elt for tg in iter if c] -/
theorem JT.compF {scope : Scope} {own' : List (Str × Nat)} {β : Type} {sd : α → SD} {q : α → Bool} {g : α → β} {se : β → SD} 
    (h : JSrc X C pu Γ tg iter M fun ys Γ1 M1 => ∃ (xs : List α), ys = xs.map sd ∧ PersL Γ1 Γ1 (own'.map (·.2)) ∧
      (∀ x, ∃ Γ2, Le (wipeG Γ2 (own'.map (·.2))) (wipeG Γ1 (own'.map (·.2))) ∧
        (Blk X scope fun X' => JG X' C (fun j => j ∈ own'.map (·.2)) (wipeG Γ1 (own'.map (·.2))) tg (sd x) fun Γ' => Γ' = Γ2) ∧
        (Blk X scope fun X' => JCt X' (noE C) Γ2 c (q x)) ∧
        Blk X scope fun X' => JVt X' (noE C) Γ2 elt (.own (se (g x)))) ∧
      k (.own (.lst (((xs.filter q).map g).map se))) Γ1 M1)
: JT X.K C pu Γ (lcTE X scope own' tg iter [c] elt) M k :=
  JT.comp (fun F h0 g' H σ R he hf hG hu hx qq => h F h0 g' H σ R he hf hG hu hx fun ys Γ1 M1 ⟨xs, e1, pl, hb, hk⟩ => qq ys Γ1 M1 ⟨α, β, Unit, xs, sd, fun x _ => cond (q x) (.ok (some (g x), ())) (.ok (none, ())), (), fun _ => Γ1, se, fun _ => M1, e1, by rw [compL_filt (q := q) (g := g) xs fun _ => rfl]; rfl, Le.refl, fun _ => ⟨rfl, fun _ => rfl⟩, fun _ => pl, fun x t => by
      obtain ⟨Γ2, l2, jg, jc, je⟩ := hb x
      exact ⟨Γ2, l2, jg, .ok (q x, ()), fun _ => .ok (some (g x), ()), fun _ => Γ2, rfl, fun _ => l2, fun s H Ca cl fp => JC.tot (jc s H Ca cl fp) ⟨(), rfl, rfl⟩, fun _ s H Ca cl fp => JE.tot (je s H Ca cl fp) ⟨g x, (), rfl, rfl, l2⟩⟩, fun r hr => by
      rw [compL_filt (q := q) (g := g) xs fun _ => rfl] at hr
      cases hr
      exact hk⟩) (.inr ⟨_, rfl⟩)
/-- a value by a test, both ways plain -/
theorem JVt.ifx {o : Opd} {cb : Bool} (hc : JCt X C Γ c cb) (h1 : cb = true → JVt X C Γ a o) (h2 : cb = false → JVt X C Γ b o) : JVt X C Γ (.IfExp c a b pos) o :=
  JE.ifx (JC.tot hc ⟨Res.ok (), Res.ok (), by cases cb <;> rfl, h1, h2⟩)
theorem JVt.ifT {e : α → PyData} {x y : α} {cb : Bool} (hc : JCt X C Γ c cb) (h1 : JVt X C Γ a (.own (.val (e x)))) (h2 : JVt X C Γ b (.own (.val (e y)))) : JVt X C Γ (.IfExp c a b pos) (.own (.val (e (cond cb x y)))) :=
  JVt.ifx hc (fun z => by subst z; exact h1) (fun z => by subst z; exact h2)
end
end Tsa

/-! N3: sorted data. -/
namespace Tsa
open PySem PySem.Spec PyProof.Rows L2
/-- the sorted list, by the order of data -/
def sortD {β : Type} (enc : β → PyData) (xs : List β) : List β := xs.mergeSort (PySem.W.dataLe false enc)
section
variable {β : Type}
theorem eachV {ps : List (V × β)} : ∀ {its : List Value}, Vals (ps.map (·.1)) its → PySem.W.EachIs (fun u (b : V × β) => RelV b.1 u) its ps := by
  induction ps with
  | nil =>
    intro its r
    cases r
    exact .nil
  | cons p ps ih =>
    intro its r
    cases r with
    | cons h t => exact .cons h (ih t)
theorem valsE : ∀ {ps : List (V × β)} {its : List Value}, PySem.W.EachIs (fun u (b : V × β) => RelV b.1 u) its ps → Vals (ps.map (·.1)) its
  | _, _, .nil => .nil
  | _, _, .cons h t => .cons h (valsE t)
/-- what data may be sorted -/
structure SrtOk (enc : β → PyData) : Prop where
  alike : ∀ b b', PySem.W.alike (enc b) (enc b') = true
  kind : ∀ bs : List β, PySem.W.Sortable (bs.map enc)
  dep : ∀ b, (enc b).depth ≤ 60
variable {X : Cx} {enc : β → PyData}
def rSortD (K : PySem.W.Frag) (enc : β → PyData) : List V → Hp → VK → Prop := fun xs H Q => ∃ (p : Addr) (ps : List (V × β)), xs = [.ref p] ∧ SqL K H p (ps.map (·.1)) ∧ DpAll K H (ps.map (·.1)) (ps.map fun q => enc q.2) ∧
  ∀ r, H r = none → Q (.ref r) (upd H r (.lst ((sortD (fun q : V × β => enc q.2) ps).map (·.1))))
theorem cr_sortedD (so : SrtOk enc) (hu : X.A.units + 66 < cLine) : CallR X (.builtin "sorted") (rSortD X.K enc) := by
  intro pins s σ H xs us Q I r ⟨p, ps, ex, hs, hd, q⟩
  subst ex
  obtain ⟨its, rv, hl, hz⟩ := I.list hs
  rw [Vals.ref1 r]
  obtain ⟨as, ra⟩ := Dp.readsAll I _ _ _ hd rv
  rw [List.length_map] at hz
  have er := PySem.W.readsAll_each (fun q : V × β => enc q.2) (h := s.heap) ra
  refine PySem.W.sorted_data (enc := fun q : V × β => enc q.2) (R := fun u (b : V × β) => RelV b.1 u) hl.isList (eachV rv) er (PySem.W.AllAlike.of fun b b' => so.alike b.2 b'.2) ?_ hz (fun b _ => ?_) fun out ho eo => ?_
  · have z := so.kind (ps.map (·.2))
    rw [List.map_map] at z
    exact z
  · have := so.dep b.2
    omega
  obtain ⟨ep, he'⟩ := PyProof.Rows.sortedAll_at s.heap its out.toArray
  have hlen : ((sortD (fun q : V × β => enc q.2) ps).map (·.1)).length ≤ sizeLine := by
    unfold sortD
    rw [List.length_map, List.length_mergeSort]
    exact hz
  exact ⟨.ref _, upd H (s.heap.objs.size + 1) (.lst ((sortD (fun q : V × β => enc q.2) ps).map (·.1))), I.laid (t' := s.toks) (fun _ _ => PyProof.Rows.sortedAll_old) (Nat.le_succ _) ⟨hlen, out, ep, valsE eo, he'⟩, rfl, q _ (I.hok.fresh (Nat.le_succ _))⟩
end
/-- owned things, in another order -/
theorem ownL_perm {K : PySem.W.Frag} {F G : Hp} {β : Type} {f : β → SD} {ps qs : List (V × β)} (p : ps.Perm qs) : ∀ {h : Hp}, ownL K F G (ps.map fun q => f q.2) h (ps.map (·.1)) → ownL K F G (qs.map fun q => f q.2) h (qs.map (·.1)) := by
  induction p with
  | nil => exact fun q => q
  | cons x _ ih =>
    intro h q
    simp only [List.map_cons] at q ⊢
    unfold ownL at q ⊢
    obtain ⟨v, vr, h1, h2, e, s1, s2, d, w, q⟩ := q
    injection e with e1 e2
    subst e1 e2
    exact ⟨_, _, h1, h2, rfl, s1, s2, d, w, ih q⟩
  | swap x y l =>
    intro h q
    simp only [List.map_cons] at q ⊢
    unfold ownL at q ⊢
    obtain ⟨v, vr, h1, h2, e, s1, s2, d, w, q⟩ := q
    injection e with e1 e2
    subst e1 e2
    unfold ownL at q ⊢
    obtain ⟨v, vr, k1, k2, e, t1, t2, d2, w2, q⟩ := q
    injection e with e1 e2
    subst e1 e2
    refine ⟨_, _, k1, cup h1 k2, rfl, t1.trans s2, Sub.cup s1 (t2.trans s2), (Dis.cup (d.mono .refl t1) d2.symm).symm, w2, _, _, h1, k2, rfl, .l, .r (d.mono .refl t2), d.mono .refl t2, w, q⟩
  | trans _ _ i1 i2 => exact fun q => i2 (i1 q)
theorem dt_dpAll {K : PySem.W.Frag} {S : Hp} {ds : List PyData} {vs : List V} (c : PyData.canLayAll0 ds = true) (d : DtL K S vs ds) : DpAll K S vs ds := d.dp c
theorem sortD_map {α β : Type} {enc : β → PyData} {g : α → β} (xs : List α) : (sortD (fun a => enc (g a)) xs).map g = sortD enc (xs.map g) := by
  unfold sortD
  exact List.map_mergeSort (fun a _ b _ => rfl)
section
variable {K : PySem.W.Frag} {X : Cx} {C : XC} {pu : Bool} {ω α : Type} {Γ : List SD} {a : Expr} {M : Res ω} {pos p pn : Pos} {k : Opd → List SD → Res ω → Prop}
theorem RoomG.lines66 {j : Nat} (r : RoomG j X.A) : X.A.units + 66 < cLine := by have := r.room.un; omega
theorem zip_fst {α β : Type} : ∀ {vs : List α} {xs : List β}, vs.length = xs.length → (vs.zip xs).map (·.1) = vs ∧ (vs.zip xs).map (·.2) = xs
  | [], [], _ => ⟨rfl, rfl⟩
  | v :: vs, x :: xs, h => by
    obtain ⟨a, b⟩ := zip_fst (vs := vs) (xs := xs) (by simpa using h)
    exact ⟨by rw [List.zip_cons_cons, List.map_cons, a], by rw [List.zip_cons_cons, List.map_cons, b]⟩
  | [], _ :: _, h => nomatch h
  | _ :: _, [], h => nomatch h
theorem own_dtL {F G : Hp} {e : α → PyData} : ∀ {xs : List α} {vs : List V}, vs.length = (xs.map fun x => SD.val (e x)).length → (∀ (i : Nat) (s : SD), (xs.map fun x => SD.val (e x))[i]? = some s → ∃ x, vs[i]? = some x ∧ own K F G s emp x) → DtL K F vs (xs.map e)
  | [], [], _, _ => .nil
  | [], _ :: _, h, _ => nomatch h
  | _ :: _, [], h, _ => nomatch h
  | x :: xs, v :: vs, h, it => by
    obtain ⟨y, e1, w⟩ := it 0 _ rfl
    cases e1
    unfold own at w
    exact .cons w (own_dtL (by simpa using h) fun i s hs => it (i + 1) s hs)
/-- sorted(xs): locked data in a list -/
theorem JE.sortedT [DecidableEq α] {e : α → PyData} {n j : Nat} (eo : EncOk e n) (so : SrtOk e) (hr : RoomG j X.A) (hm : X.mg "sorted" = none) (h : JE X C pu Γ a M fun o Γ1 M1 => ∃ xs, SeqV Γ1 o false (xs.map fun x => .val (e x)) ∧ k (.own (.lst ((sortD e xs).map fun x => .val (e x)))) Γ1 M1)
    (hg : Gl X "sorted" := by rfl) (hs : starEach [a] X.env = (false, eval a X.env) :: starEach [] X.env := by rfl) : JE X C pu Γ (.Call (.Name "sorted" pn) [a] [] pos) M k :=
  JE.bi (cr_sortedD so hr.lines66) hm (JA.one (h.mono fun o Γ1 M1 ⟨xs, sv, hk⟩ vs F h1 h2 g H σ Q ow he d hf hG sz hu hq => by
    obtain ⟨v, ha, e1, s1, w⟩ := ow.one
    obtain ⟨q, ws, e2, l, z, it⟩ := sv.ok w he (d.mono s1 .refl) (hf.sub (Sub.cup2 s1 .refl d)) hG
    subst e1 e2
    have D := own_dtL l it
    have len : ws.length = xs.length := by rw [l, List.length_map]
    obtain ⟨z1, z2⟩ := zip_fst len
    have z3 : (ws.zip xs).map (fun q => e q.2) = xs.map e := by
      rw [show (fun q : V × α => e q.2) = e ∘ (fun q => q.2) from rfl, ← List.map_map, z2]
    refine ⟨q, ws.zip xs, rfl, by rw [z1]; exact z, ?_, fun r hn => ?_⟩
    · rw [z1, z3]
      exact dt_dpAll (eokAll eo xs).1 (D.mono hf.fH)
    have nn := hf.no hn
    have n1 : h1 r = none := Sub.l.no nn.2.1
    refine hq.new hk he d hf hn ?_
    unfold own
    refine ⟨r, _, h1, rfl, cup_some one_same, .r (Dis.one n1), n1, ?_⟩
    have W : ownL X.K F C.G ((ws.zip xs).map fun q => SD.val (e q.2)) h1 ((ws.zip xs).map (·.1)) := by
      rw [z1, show (fun q : V × α => SD.val (e q.2)) = SD.val ∘ (fun q => e q.2) from rfl, ← List.map_map, z3]
      exact ownL_of D
    have W2 := ownL_perm (f := fun x => SD.val (e x)) (List.mergeSort_perm (ws.zip xs) (PySem.W.dataLe false fun q => e q.2)).symm W
    rw [show (fun q : V × α => SD.val (e q.2)) = (fun x => SD.val (e x)) ∘ (fun q => q.2) from rfl, ← List.map_map] at W2
    have es : (sortD (fun q : V × α => e q.2) (ws.zip xs)).map (fun q => q.2) = sortD e xs := by
      rw [sortD_map (g := fun q : V × α => q.2) (enc := e), z2]
    unfold sortD at es
    rw [es] at W2
    exact W2) hs) rfl hg (hs := hs)
end
end Tsa

/-! N5: dicts. -/
namespace Tsa
open PySem PySem.Spec PyProof.Rows L2
/-! ### tables -/
section
variable {κ β γ : Type} [DecidableEq κ]
def aGet (m : List (κ × β)) (k : κ) : Option β := (m.find? fun p => decide (p.1 = k)).map (·.2)
def aHas (m : List (κ × β)) (k : κ) : Bool := (aGet m k).isSome
def aPut : List (κ × β) → κ → β → List (κ × β)
  | [], k, v => [(k, v)]
  | p :: r, k, v => if p.1 = k then (p.1, v) :: r else p :: aPut r k v
def aDrop (m : List (κ × β)) (k : κ) : List (κ × β) := m.filter fun p => decide (p.1 ≠ k)
def dGetR (m : List (κ × β)) (k : κ) : Res β := match aGet m k with
  | some v => .ok v
  | none => .un
theorem aGet_pos {p : κ × β} {r : List (κ × β)} {k : κ} (e : p.1 = k) : aGet (p :: r) k = some p.2 := by simp [aGet, List.find?_cons, e]
theorem aGet_neg {p : κ × β} {r : List (κ × β)} {k : κ} (e : ¬ p.1 = k) : aGet (p :: r) k = aGet r k := by simp [aGet, List.find?_cons, e]
end
/-- how keys stand for things -/
structure KeyE {κ : Type} (kk : κ → Key) (kd : κ → PyData) : Prop where
  inj : ∀ a b, kk a = kk b → a = b
  dat : ∀ a, kd a = kD (kk a)
theorem keI : KeyE (κ := Int) Sum.inl PyData.int := ⟨fun a b e => Sum.inl.inj e, fun _ => rfl⟩
theorem kD_inj : ∀ {a b : Key}, kD a = kD b → a = b
  | .inl i, .inl j, e => by cases e; rfl
  | .inr i, .inr j, e => by cases e; rfl
  | .inl _, .inr _, e => nomatch e
  | .inr _, .inl _, e => nomatch e
theorem kV_of {K : PySem.W.Frag} {S : Hp} : ∀ {k : Key} {v : V}, Dt K S v (kD k) → v = kV k
  | .inl i, _, h => h.intV
  | .inr x, _, h => h.strV
section
variable {K : PySem.W.Frag} {κ β : Type} [DecidableEq κ] {kk : κ → Key} {kd : κ → PyData} {e : β → PyData} {f : β → SD} {F G h S : Hp}
/-- a table behind pairs -/
theorem dk_get (ke : KeyE kk kd) (k : κ) : ∀ {m : List (κ × β)} {kvs : List (Key × V)}, kvs.map (·.1) = m.map (fun p => kk p.1) → DtL K S (kvs.map (·.2)) (m.map fun p => e p.2) →
    (aGet m k = none → valV kvs (kk k) = none) ∧ ∀ y, aGet m k = some y → ∃ v, valV kvs (kk k) = some v ∧ Dt K S v (e y)
  | [], [], _, _ => ⟨fun _ => rfl, fun y z => nomatch z⟩
  | [], _ :: _, h, _ => nomatch h
  | _ :: _, [], h, _ => nomatch h
  | p :: m, q :: kvs, h1, h2 => by
    rw [List.map_cons, List.map_cons] at h1
    injection h1 with e1 e2
    rw [List.map_cons, List.map_cons] at h2
    cases h2 with
    | cons w h2 =>
      obtain ⟨i1, i2⟩ := dk_get ke k e2 h2
      by_cases c : p.1 = k
      · have c' : q.1 = kk k := by rw [e1, c]
        rw [aGet_pos c, valV_pos c']
        exact ⟨(fun z => nomatch z), fun y z => by cases z; exact ⟨_, rfl, w⟩⟩
      · have c' : ¬ q.1 = kk k := fun z => c (ke.inj _ _ (e1.symm.trans z))
        rw [aGet_neg c, valV_neg c']
        exact ⟨i1, i2⟩
theorem kd_keys (ke : KeyE kk kd) : ∀ {m : List (κ × β)} {kvs : List (Key × V)} {ds : List PyData}, kvs.length = ds.length → (kvs.map fun q => kD q.1).zip ds = m.map (fun p => (kd p.1, e p.2)) → kvs.map (·.1) = m.map (fun p => kk p.1) ∧ ds = m.map fun p => e p.2
  | [], [], [], _, _ => ⟨rfl, rfl⟩
  | [], _ :: _, _ :: _, _, h => nomatch h
  | _ :: _, [], [], _, h => nomatch h
  | _, [], _ :: _, l, _ => nomatch l
  | _, _ :: _, [], l, _ => nomatch l
  | p :: m, q :: kvs, d :: ds, l, h => by
    rw [List.map_cons, List.zip_cons_cons, List.map_cons] at h
    injection h with e1 e2
    injection e1 with e3 e4
    obtain ⟨i1, i2⟩ := kd_keys ke (by simpa using l) e2
    rw [ke.dat] at e3
    exact ⟨by rw [List.map_cons, List.map_cons, i1, kD_inj e3], by rw [List.map_cons, e4, ← i2]⟩
theorem Dt.dctV (ke : KeyE kk kd) {m : List (κ × β)} {v : V} (h : Dt K S v (.dict (m.map fun p => (kd p.1, e p.2)))) : ∃ p kvs, v = .ref p ∧ Rd S p (.dK kvs) ∧ kvs.map (·.1) = m.map (fun p => kk p.1) ∧ DtL K S (kvs.map (·.2)) (m.map fun p => e p.2) := by
  generalize hd : PyData.dict (m.map fun p => (kd p.1, e p.2)) = d at h
  cases h with
  | @dct a kvs ds r hl =>
    injection hd with hd
    have len := hl.len
    rw [List.length_map] at len
    obtain ⟨e1, e2⟩ := kd_keys ke len hd.symm
    subst e2
    exact ⟨a, kvs, rfl, r, e1, hl⟩
  | _ => cases hd
theorem ownK_vals {α : Type} {kk : α → Key} {g : α → PyData} : ∀ {m : List α} {h : Hp} {kvs : List (Key × V)}, ownK K F G (m.map fun x => (kk x, SD.val (g x))) h kvs → kvs.map (·.1) = m.map kk ∧ DtL K F (kvs.map (·.2)) (m.map g)
  | [], h, vs, q => by
    simp only [List.map_nil] at q ⊢
    unfold ownK at q
    subst q
    exact ⟨rfl, .nil⟩
  | x :: xs, h, vs, q => by
    simp only [List.map_cons] at q ⊢
    unfold ownK at q
    obtain ⟨v, vr, h1, h2, e, s1, s2, d, w, q⟩ := q
    subst e
    unfold Tsa.own at w
    obtain ⟨e1, e2⟩ := ownK_vals q
    exact ⟨by rw [List.map_cons, e1], .cons w e2⟩
/-- a table, its values lasting -/
inductive DicS (kk : κ → Key) (kd : κ → PyData) (e : β → PyData) : SD → List (κ × β) → Prop
  | val {m : List (κ × β)} : DicS kk kd e (.val (.dict (m.map fun p => (kd p.1, e p.2)))) m
  | mine {m : List (κ × β)} : DicS kk kd e (.dct (m.map fun p => (kk p.1, .val (e p.2)))) m
  | pin {v : V} {s : SD} {m : List (κ × β)} : DicS kk kd e s m → DicS kk kd e (.pin v s) m
  | lk {d : Addr} {od : Obj} {u : HO} {m : List (κ × β)} : DicS kk kd e (.lk d od u (.dct (m.map fun p => (kk p.1, .val (e p.2))))) m
  | lkv {d : Addr} {od : Obj} {u : HO} {m : List (κ × β)} : DicS kk kd e (.lk d od u (.val (.dict (m.map fun p => (kd p.1, e p.2))))) m
theorem DicS.ne {s : SD} {m : List (κ × β)} (q : DicS kk kd e s m) : s ≠ .hole := fun z => by subst z; cases q
theorem DicS.ok (ke : KeyE kk kd) {s : SD} {m : List (κ × β)} (q : DicS kk kd e s m) {g H : Hp} {v : V} (ow : own K F G s h v) (hF : Sub F H) (hh : Sub h H) (hGH : Sub G H) : ∃ p kvs, v = .ref p ∧ Rd H p (.dK kvs) ∧ kvs.map (·.1) = m.map (fun p => kk p.1) ∧ DtL K F (kvs.map (·.2)) (m.map fun p => e p.2) := by
  induction q with
  | val =>
    unfold Tsa.own at ow
    obtain ⟨p, kvs, e0, r, e1, e2⟩ := ow.dctV ke
    exact ⟨p, kvs, e0, Rd.mono hF r, e1, e2⟩
  | mine =>
    unfold Tsa.own at ow
    obtain ⟨p, kvs, h', e0, q1, q2, q3, q4⟩ := ow
    obtain ⟨e1, e2⟩ := ownK_vals (kk := fun p : κ × β => kk p.1) (g := fun p => e p.2) q4
    exact ⟨p, kvs, e0, .inl (hh _ _ q1), e1, e2⟩
  | pin _ ih =>
    unfold Tsa.own at ow
    exact ih ow.2
  | lk =>
    unfold Tsa.own at ow
    obtain ⟨e0, q1, q2⟩ := ow
    unfold Tsa.own at q2
    obtain ⟨p', kvs, h', e1, r1, r2, r3, r4⟩ := q2
    rw [e0] at e1
    cases e1
    rw [one_same] at r1
    cases r1
    obtain ⟨i1, i2⟩ := ownK_vals (kk := fun p : κ × β => kk p.1) (g := fun p => e p.2) r4
    exact ⟨_, kvs, e0, .inr ⟨_, (Sub.cup hF hGH) _ _ q1⟩, i1, i2⟩
  | lkv =>
    unfold Tsa.own at ow
    obtain ⟨_, _, q2⟩ := ow
    unfold Tsa.own at q2
    obtain ⟨p, kvs, e0, r, e1, e2⟩ := q2.dctV ke
    exact ⟨p, kvs, e0, Rd.mono hF r, e1, e2⟩
/-- .. behind an operand -/
inductive DicV (kk : κ → Key) (kd : κ → PyData) (e : β → PyData) (Γ : List SD) : Opd → List (κ × β) → Prop
  | own {s : SD} {m : List (κ × β)} (q : DicS kk kd e s m) : DicV kk kd e Γ (.own s) m
  | at {i : Nat} {s : SD} {m : List (κ × β)} (hi : Γ[i]? = some s) (q : DicS kk kd e s m) : DicV kk kd e Γ (.at i) m
  | fl {i : Nat} {x : Str} {s0 s : SD} {m : List (κ × β)} (hi : Γ[i]? = some s0) (hf : FldS s0 x s) (q : DicS kk kd e s m) : DicV kk kd e Γ (.fl i x) m
  | brw {s : SD} {m : List (κ × β)} (q : DicS kk kd e s m) : DicV kk kd e Γ (.brw s) m
theorem DicV.ok (ke : KeyE kk kd) {Γ : List SD} {o : Opd} {m : List (κ × β)} (q : DicV kk kd e Γ o m) {h1 h2 g H : Hp} {σ : L2.St} {v : V} (ow : OpdOk K F G h1 h2 σ o v) (he : EnvR K F G Γ h2 σ) (d : Dis h1 h2) (hf : Fits F (cup h1 h2) g H) (hG : Sub G g) :
    ∃ p kvs, v = .ref p ∧ Rd H p (.dK kvs) ∧ kvs.map (·.1) = m.map (fun p => kk p.1) ∧ DtL K F (kvs.map (·.2)) (m.map fun p => e p.2) := by
  cases q with
  | own q => exact q.ok (g := g) ke ow hf.fH (Sub.l.trans hf.hH) (hG.trans hf.gH)
  | «at» hi q =>
    obtain ⟨o, k1, k2, eo, s1, s2, d12, w, _⟩ := he.at hi
    obtain ⟨u, eu, wu⟩ := w.val q.ne
    have ow' : σ[_]? = some (some v) := ow
    rw [eo, eu] at ow'
    cases ow'
    exact q.ok (g := g) ke wu hf.fH ((s1.trans (.r d)).trans hf.hH) (hG.trans hf.gH)
  | fl hi hx q =>
    obtain ⟨h3, s3, w3⟩ := hx.at hi he ow
    exact q.ok (g := g) ke w3 hf.fH ((s3.trans (.r d)).trans hf.hH) (hG.trans hf.gH)
  | brw q =>
    obtain ⟨h3, s3, w3⟩ := ow
    exact q.ok (g := g) ke w3 hf.fH ((s3.trans (.r d)).trans hf.hH) (hG.trans hf.gH)
end
section
variable {K : PySem.W.Frag} {κ β : Type} [DecidableEq κ] {kk : κ → Key} {kd : κ → PyData} {e : β → PyData} {X : Cx} {C : XC} {pu pt : Bool} {ω : Type} {Γ : List SD} {a b c : Expr} {M : Res ω} {pos p apos : Pos} {k : Opd → List SD → Res ω → Prop}
theorem RoomG.lines1 {j : Nat} (r : RoomG j X.A) : X.A.units + 1 < cLine := by have := r.room.un; omega
/-- the operands of d[k], k in d: a table and a key -/
def DKIn (kk : κ → Key) (kd : κ → PyData) (e : β → PyData) (X : Cx) (C : XC) (pu pt : Bool) {ω : Type} (Γ : List SD) (a b : Expr) (M : Res ω) (k : List (κ × β) → κ → List SD → Res ω → Prop) : Prop :=
  JE X C pu Γ a M fun oa Γ1 M1 => ((∃ s, oa = .own s) ∨ (∃ i, oa = .at i) ∨ pt = true) ∧ (pu = true → pt = true) ∧ JE X C pt Γ1 b M1 fun ob Γ2 M2 => ∃ m k0, ob = .own (.val (kd k0)) ∧ DicV kk kd e Γ2 oa m ∧ k m k0 Γ2 M2
/-- d[k] -/
theorem JE.dget {j : Nat} (ke : KeyE kk kd) (hr : RoomG j X.A) (h : DKIn kk kd e X C pu pt Γ a b M fun m k0 Γ2 M2 => ∃ kM, M2 = (dGetR m k0).bind kM ∧ ∀ y, dGetR m k0 = .ok y → k (.own (.val (e y))) Γ2 (kM y)) (hs : NoSl b := by exact fun _ _ => rfl) : JE X C pu Γ (.Subscript a b pos) M k :=
  JE.of (pe_dget hr.lines1 pe_sem pe_sem hs) (JT.two2 (pt := pt) (r := fun x y H Q => ∃ a v, x = .ref a ∧ DGet H a y (some v) ∧ Q v H) (Z := fun oa ob Γ2 M2 => ∃ m k0, ob = .own (.val (kd k0)) ∧ DicV kk kd e Γ2 oa m ∧ ∃ kM, M2 = (dGetR m k0).bind kM ∧ ∀ y, dGetR m k0 = .ok y → k (.own (.val (e y))) Γ2 (kM y)) h (by
    rintro oa ob Γ2 ⟨m, k0, rfl, dv, kM, eM, hk⟩ F h1 h0 h2 g H σ va vb Q ow he d hf hG hp hu hx hq
    obtain ⟨v1, v2, ha, hb, ev, t1, t2, d12, w1, w2⟩ := ow.two
    cases ev
    obtain ⟨q, kvs, e1, r, e2, e3⟩ := dv.ok ke w1 he (d.mono t1 .refl) (hf.sub (Sub.cup2 t1 .refl d)) hG
    unfold OpdOk own at w2
    rw [ke.dat] at w2
    have ek := kV_of w2
    obtain ⟨i1, i2⟩ := dk_get ke k0 e2 e3
    cases hc : aGet m k0 with
    | none =>
      refine absurd ?_ hu
      rw [eM]; unfold dGetR; rw [hc]; rfl
    | some y =>
      have hy : dGetR m k0 = .ok y := by unfold dGetR; rw [hc]
      obtain ⟨v, ev, wv⟩ := i2 y hc
      exact ⟨q, v, e1, .inl ⟨kvs, _, r, ek, ev.symm⟩, hq _ _ (kM y) (hk y hy) (by rw [eM, hy]; rfl) v F emp h2 H .refl (by unfold OpdOk own; exact wv) he .emp ((hf.sub (.r d)).emp) hp⟩))
def rDIn : R2 := fun y x H Q => ∃ a o, x = .ref a ∧ DGet H a y o ∧ Q (.bl o.isSome) H
def rDNotIn : R2 := fun y x H Q => ∃ a o, x = .ref a ∧ DGet H a y o ∧ Q (.bl (!o.isSome)) H
/-- a key, then a table -/
def KDIn (kk : κ → Key) (kd : κ → PyData) (e : β → PyData) (X : Cx) (C : XC) (pu : Bool) {ω : Type} (Γ : List SD) (a b : Expr) (M : Res ω) (k : List (κ × β) → κ → List SD → Res ω → Prop) : Prop :=
  JE X C pu Γ a M fun oa Γ1 M1 => ∃ k0, oa = .own (.val (kd k0)) ∧ JE X C pu Γ1 b M1 fun ob Γ2 M2 => ∃ m, DicV kk kd e Γ2 ob m ∧ k m k0 Γ2 M2
end
end Tsa

/-! N6: dicts that are written. -/
namespace Tsa
open PySem PySem.Spec PyProof.Rows L2
/-- a slot that holds a dict of its own -/
inductive DctAt : SD → List (Key × SD) → (List (Key × SD) → SD) → Prop
  | dct {l : List (Key × SD)} : DctAt (.dct l) l .dct
  | pin {v : V} {l : List (Key × SD)} : DctAt (.pin v (.dct l)) l fun l' => .pin v (.dct l')
section
variable {K : PySem.W.Frag} {F G : Hp} {Γ : List SD}
theorem DctAt.ne {s : SD} {l : List (Key × SD)} {mk : List (Key × SD) → SD} (q : DctAt s l mk) : s ≠ .hole := fun z => by subst z; cases q
theorem DctAt.ok {s : SD} {l : List (Key × SD)} {mk : List (Key × SD) → SD} (q : DctAt s l mk) {F G h : Hp} {v : V} (ow : own K F G s h v) : ∃ p kvs h', v = .ref p ∧ h p = some (.dK kvs) ∧ Sub h' h ∧ h' p = none ∧ ownK K F G l h' kvs ∧ ∀ (F' : Hp) (l' : List (Key × SD)) (kvs' : List (Key × V)) (k1 : Hp), k1 p = none → ownK K F' G l' k1 kvs' → own K F' G (mk l') (cup (sgl p (.dK kvs')) k1) v := by
  cases q with
  | dct =>
    unfold own at ow
    obtain ⟨p, vs, h', e, q1, q2, q3, q4⟩ := ow
    refine ⟨p, vs, h', e, q1, q2, q3, q4, fun F' l' vs' k1 n w => ?_⟩
    unfold own
    exact ⟨p, vs', k1, e, cup_some one_same, .r (Dis.one n), n, w⟩
  | pin =>
    unfold own at ow
    obtain ⟨e0, ow⟩ := ow
    unfold own at ow
    obtain ⟨p, vs, h', e, q1, q2, q3, q4⟩ := ow
    refine ⟨p, vs, h', e, q1, q2, q3, q4, fun F' l' vs' k1 n w => ?_⟩
    unfold own
    refine ⟨e0, ?_⟩
    unfold own
    exact ⟨p, vs', k1, e, cup_some one_same, .r (Dis.one n), n, w⟩
/-- a slot's dict, and how it is written -/
theorem dct_upd {i : Nat} {s : SD} {l : List (Key × SD)} {mk : List (Key × SD) → SD} {F G ha h g H : Hp} {σ : L2.St} (he : EnvR K F G Γ h σ) (hi : Γ[i]? = some s) (la : DctAt s l mk) (dd : Dis ha h) (hf : Fits F (cup ha h) g H) (hG : Sub G g) :
    ∃ p vs h', σ[i]? = some (some (.ref p)) ∧ H p = some (.dK vs) ∧ ownK K F G l h' vs ∧ Sub h' h ∧ Dis ha h' ∧ h' p = none ∧ h p = some (.dK vs) ∧
      ∀ (H' : Hp) (l' : List (Key × SD)) (vs' : List (Key × V)) (hl hx : Hp), ownK K F G l' hl vs' → hl p = none → Dis hx hl → hx p = none → (∀ k2, Sub k2 h → Dis h' k2 → k2 p = none → Dis hl k2 ∧ Dis hx k2 ∧ Fits F (cup hx (cup (cup (sgl p (.dK vs')) hl) k2)) g H') → ∃ h2, EnvR K F G (Γ.set i (mk l')) h2 σ ∧ Dis hx h2 ∧ Fits F (cup hx h2) g H' := by
  obtain ⟨o, k1, k2, eo, s1, s2, d12, w, back⟩ := he.at hi
  obtain ⟨u, eu, wu⟩ := w.val la.ne
  subst eu
  obtain ⟨p, vs, h', e, q1, q2, q3, q4, mk'⟩ := la.ok wu
  subst e
  have ph : h p = some (.dK vs) := s1 _ _ q1
  have nk2 : k2 p = none := d12.no q1
  have nha : ha p = none := dd.symm.no ph
  have s3 : Sub h' h := q2.trans s1
  refine ⟨p, vs, h', eo, hf.hH _ _ (Sub.r dd _ _ ph), q4, s3, dd.mono .refl s3, q3, ph, fun H' l' vs' hl hx w' nl dx nx hk => ?_⟩
  obtain ⟨dl2, dx2, fit⟩ := hk k2 s2 (d12.mono q2 .refl) nk2
  have es : σ.set i (some (.ref p)) = σ := by
    obtain ⟨hi', e'⟩ := List.getElem?_eq_some_iff.mp eo
    rw [← e']; exact List.set_getElem_self hi'
  have E2 := back F (mk l') (some (.ref p)) (cup (sgl p (.dK vs')) hl) (cup (cup (sgl p (.dK vs')) hl) k2) .refl (hf.G hG) (.of (mk' F l' vs' hl nl w')) (Dis.cup (Dis.one nk2) dl2) .l (.r (Dis.cup (Dis.one nk2) dl2))
  rw [es] at E2
  have dxh : Dis hx (cup (cup (sgl p (.dK vs')) hl) k2) := (Dis.cup (Dis.cup (Dis.one nx) dx.symm) dx2.symm).symm
  exact ⟨_, E2, dxh, fit⟩
end
section
variable {K : PySem.W.Frag} {κ β : Type} [DecidableEq κ] {kk : κ → Key} {kd : κ → PyData} {f : β → SD} {F G : Hp}
theorem ownK_len {l : List (Key × SD)} : ∀ {h : Hp} {kvs : List (Key × V)}, ownK K F G l h kvs → kvs.length = l.length := by
  induction l with
  | nil => intro h kvs q; unfold ownK at q; subst q; rfl
  | cons p l ih =>
    intro h kvs q
    obtain ⟨n, s⟩ := p
    unfold ownK at q
    obtain ⟨v, vr, h1, h2, e, s1, s2, d, w, q⟩ := q
    subst e
    rw [List.length_cons, List.length_cons, ih q]
theorem putK_pos {q : Key × V} {r : List (Key × V)} {k : Key} {v : V} (c : q.1 = k) (nd : k ∉ r.map (·.1)) : putK (q :: r) k v = (q.1, v) :: r := by
  unfold putK
  rw [if_pos (by rw [List.any_cons, decide_eq_true c]; rfl), List.map_cons, if_pos c]
  have e : (r.map fun kv => if kv.1 = k then (kv.1, v) else kv) = r := by
    refine (List.map_congr_left fun q hq => ?_).trans (List.map_id _)
    have : ¬ q.1 = k := fun z => nd (by rw [← z]; exact List.mem_map.mpr ⟨q, hq, rfl⟩)
    rw [if_neg this]; rfl
  rw [e]
theorem putK_neg {q : Key × V} {r : List (Key × V)} {k : Key} {v : V} (c : ¬ q.1 = k) : putK (q :: r) k v = q :: putK r k v := by
  unfold putK
  rw [List.any_cons, decide_eq_false c, Bool.false_or, List.map_cons, if_neg c]
  split <;> rfl
/-- an entry is stored -/
theorem ownK_put (ke : KeyE kk kd) {k : κ} {y : β} {v : V} {h1 : Hp} (w : own K F G (f y) h1 v) : ∀ {m : List (κ × β)} {h : Hp} {kvs : List (Key × V)}, (kvs.map (·.1)).Nodup → ownK K F G (m.map fun p => (kk p.1, f p.2)) h kvs → Dis h h1 →
    ownK K F G ((aPut m k y).map fun p => (kk p.1, f p.2)) (cup h h1) (putK kvs (kk k) v)
  | [], h, kvs, _, q, d => by
    simp only [List.map_nil] at q
    unfold ownK at q
    subst q
    show ownK K F G [(kk k, f y)] _ [(kk k, v)]
    unfold ownK
    exact ⟨v, [], h1, emp, rfl, .r d, .emp, Dis.emp.symm, w, by unfold ownK; rfl⟩
  | p :: m, h, kvs, nd, q, d => by
    rw [List.map_cons] at q
    unfold ownK at q
    obtain ⟨u, ur, k1, k2, e, s1, s2, dk, wu, q⟩ := q
    subst e
    rw [List.map_cons, List.nodup_cons] at nd
    unfold aPut
    by_cases c : p.1 = k
    · rw [if_pos c, List.map_cons, putK_pos (by rw [c]) (by rw [← c]; exact nd.1)]
      unfold ownK
      exact ⟨v, ur, h1, k2, rfl, .r d, s2.trans .l, (d.mono s2 .refl).symm, w, q⟩
    · have c' : ¬ kk p.1 = kk k := fun z => c (ke.inj _ _ z)
      rw [if_neg c, List.map_cons, putK_neg c']
      unfold ownK
      exact ⟨u, _, k1, cup k2 h1, rfl, s1.trans .l, Sub.cup (s2.trans .l) (.r d), (Dis.cup dk.symm (d.mono s1 .refl).symm).symm, wu, ownK_put ke w nd.2 q (d.mono s2 .refl)⟩
end
/-- no key twice -/
def NdH (H : Hp) : Prop := ∀ a kvs, H a = some (.dK kvs) → (kvs.map (·.1)).Nodup
theorem nd_of {X : Cx} {pins : List (Addr × Obj)} {σ : L2.St} {H : Hp} {s : Shared} (I : Inv X pins σ H s) : NdH H := fun a kvs h => by
  obtain ⟨_, _, vs, r, d⟩ := dk_of I.hok h
  obtain ⟨o, es, ep, _, _, _, _, _, nd⟩ := d
  rw [KV.keys r]
  exact nd
theorem semE_nd {X : Cx} {e : Expr} {σ : L2.St} {H : Hp} {Q : VK} (h : semE X e σ H fun v H' => NdH H' → Q v H') : semE X e σ H Q := by
  unfold semE at h ⊢
  exact fun pins s I => wpAny_mono (h pins s I) (fun u s' ⟨v, H', I', r, q⟩ => ⟨v, H', I', r, q (nd_of I')⟩) fun _ _ z => z
section
variable {κ β : Type} [DecidableEq κ] {kk : κ → Key} {kd : κ → PyData} {f : β → SD} {X : Cx} {C : XC} {pu : Bool} {ω : Type} {Γ : List SD} {a b c : Expr} {M : Res ω} {pos pos' p : Pos} {k : Opd → List SD → Res ω → Prop} {kl : List SD → Res ω → Prop} {en : ω → EndK}
/-- {} -/
theorem JE.dnew (hk : k (.own (.dct [])) Γ M) : JE X C pu Γ (.Dict [] [] pos) M k :=
  JE.of pe_dnewK fun F h0 g H σ Q he hf hG hu hx hq q hn => by
    have nn := hf.no hn
    refine hq _ Γ M hk rfl (.ref q) F (cup (sgl q (.dK [])) emp) h0 _ .refl ?_ he (Dis.cup (Dis.one nn.2.1) .emp) ?_ fun _ => ⟨.refl, rfl⟩
    · unfold OpdOk own
      exact ⟨q, [], emp, rfl, cup_some one_same, .emp, rfl, by unfold ownK; rfl⟩
    · exact (hf.new hn).sub (Sub.cup (Sub.cup .l .emp) (.r (Dis.one nn.2.1)))
/-- d[k] = v -/
theorem JS.dput {i j : Nat} {s : SD} {l : List (Key × SD)} {mk : List (Key × SD) → SD} {x : Str} (ke : KeyE kk kd) (hr : RoomG j X.A)
    (h : JE X C false Γ c M fun oc Γ1 M1 => ∃ y s0 l0 mk0, oc = .own (f y) ∧ Γ1[i]? = some s0 ∧ DctAt s0 l0 mk0 ∧ JE X C false Γ1 b M1 fun ob Γ2 M2 => ∃ k0 s1 m mk1 M3, ob = .own (.val (kd k0)) ∧ Γ2[i]? = some s1 ∧ DctAt s1 (m.map fun p => (kk p.1, f p.2)) mk1 ∧ (M2 ≠ .un → M2 = M3 ∧ m.length < 16000000) ∧ kl (Γ2.set i (mk1 ((aPut m k0 y).map fun p => (kk p.1, f p.2)))) M3)
    (hN : X.N[i]? = some x := by rfl) (hv : Vis X.env.scope x := by first | exact Or.inl rfl | exact Or.inr (Or.inl rfl) | exact Or.inr (Or.inr rfl)) (hd : (x == ("__debug__" : Str)) = false := by decide) (hcd : (x == ("__classdict__" : Str)) = false := by decide)
    (hs : swapsWith c (some (.Subscript (.Name x p) b pos')) pos.line X.env = pure false := by rfl) : JS X C Γ (.Assign [.Subscript (.Name x p) b pos'] c pos) M kl en :=
  JS.of (ps_dput hr.lines1 (pe_var hN hv hd hcd) pe_sem pe_sem hs) fun F h0 g H σ D he hf hG hu hx q hn => by
    refine h F h0 g H σ _ he hf hG hu hx fun oc Γ1 M1 ⟨y, s0, l0, mk0, e1, hi0, la0, h2⟩ hm v F1 h1 hz H1 x1 ow1 he1 d1 hf1 _ => ?_
    subst e1 hm
    unfold OpdOk at ow1
    obtain ⟨p0, kv0, _, eo0, _⟩ := dct_upd he1 hi0 la0 d1 hf1 hG
    have dg : Dis h1 g := hf1.hg.mono .l .refl
    refine ⟨.ref p0, eo0, semE_nd (h2 F1 hz (cup h1 g) H1 σ _ he1 (hf1.out d1) (hG.trans (.r dg)) hu ?_ fun ob Γ2 M2 ⟨k0, s1, m, mk1, M3, e2, hi, la, hM, hk⟩ hm2 w F2 hb h3 H2 x2 ow2 he2 d2 hf2 _ nd => ?_)⟩
    · intro e he' cc od F' hx' h' H' σ' sF xo er dd ff
      have ff2 := ff.inn dg
      refine hx e he' cc od F' hx' h' H' σ' (x1.trans sF) xo er dd (ff2.sub (.r ff.dis))
    subst e2 hm2
    obtain ⟨eM, hl⟩ := hM hu
    subst eM
    unfold OpdOk own at ow2
    rw [ke.dat] at ow2
    have ek := kV_of ow2
    have hf3 := hf2.un d2
    have dh13 : Dis h1 h3 := hf3.dis
    have hf4 := hf3.inn dg
    have fg := hf4.G hG
    have ow1' : own X.K F2 C.G (f y) h1 v := own_mono x2 (cup_mono_l x2 fg) _ .refl ow1
    obtain ⟨p, kvs, h', eo, hH, wl, sh, dh, np, h3p, put⟩ := dct_upd (ha := h1) he2 hi la dh13 hf4 hG
    rw [eo0] at eo
    cases eo
    have len := ownK_len wl
    rw [List.length_map] at len
    have n1 : h1 p0 = none := dh13.symm.no h3p
    obtain ⟨h5, E5, d5, f5⟩ := put (upd H2 p0 (.dK (putK kvs (kk k0) v))) ((aPut m k0 y).map fun p => (kk p.1, f p.2)) (putK kvs (kk k0) v) (cup h' h1) emp (ownK_put ke ow1' (nd p0 kvs hH) wl dh.symm) (by rw [cup_none np]; exact n1) .emp rfl (fun k2 sk dk nk => by
      have d12 : Dis h1 k2 := dh13.mono .refl sk
      have dc : Dis (cup h' h1) k2 := Dis.cup dk d12
      refine ⟨dc, .emp, ?_⟩
      have f0 : Fits F2 (cup (sgl p0 (.dK kvs)) (cup (cup h' h1) k2)) g H2 := hf4.sub (Sub.cup ((Sub.one h3p).trans (.r dh13)) (Sub.cup (Sub.cup (sh.trans (.r dh13)) .l) (sk.trans (.r dh13))))
      have n0 : cup (cup h' h1) k2 p0 = none := by rw [cup_none (by rw [cup_none np]; exact n1)]; exact nk
      have f1 := f0.upd (u := .dK (putK kvs (kk k0) v)) n0
      rw [← cup_assoc] at f1
      exact f1.emp)
    exact ⟨p0, _, rfl, .inl ⟨kvs, _, hH, ek, by rw [len]; exact Nat.lt_of_lt_of_le hl (by decide), rfl⟩, q _ M2 hk rfl F2 h5 σ _ (x1.trans x2) E5 (f5.un d5)⟩
end
end Tsa

/-! N7: d.setdefault(k, []).append(e). -/
namespace Tsa
open PySem PySem.Spec PyProof.Rows L2
section
variable {K : PySem.W.Frag} {Γ : List SD}
end
section
variable {κ α : Type} [DecidableEq κ] {kk : κ → Key} {kd : κ → PyData} {g' : α → SD} {X : Cx} {C : XC} {ω : Type} {Γ : List SD} {a b c : Expr} {M : Res ω} {pos pl ps pa p q1 : Pos} {k : Opd → List SD → Res ω → Prop}
abbrev lstS {α : Type} (g : α → SD) (l : List α) : SD := .lst (l.map g)
end
end Tsa

/-! N8: sorted(d.values()). -/
namespace Tsa
open PySem PySem.Spec PyProof.Rows L2
section
variable {X : Cx} {β : Type} {enc : β → PyData} {o : Expr} {p pos apos mpos : Pos} {td : TE}
def tSortVals (K : PySem.W.Frag) (enc : β → PyData) (td : TE) : TE := fun σ H Q => td σ H fun x H1 => ∃ (a : Addr) (kvs : List (Key × V)) (ps : List (V × β)), x = .ref a ∧ Rd H1 a (.dK kvs) ∧ kvs.map (·.2) = ps.map (·.1) ∧ DpAll K H1 (ps.map (·.1)) (ps.map fun q => enc q.2) ∧
  ∀ r, H1 r = none → Q (.ref r) (upd H1 r (.lst ((sortD (fun q : V × β => enc q.2) ps).map (·.1))))
end
section
variable {κ β : Type} {kk : κ → Key} {f : β → SD} {enc : β → PyData} {X : Cx} {C : XC} {ω : Type} {Γ : List SD} {M : Res ω} {pos p q1 apos mpos : Pos} {k : Opd → List SD → Res ω → Prop}
end
theorem srtI : SrtOk PyData.int := ⟨fun _ _ => rfl, fun _ => PySem.W.Sortable.others fun _ => ⟨(fun z => nomatch z), fun _ z => nomatch z⟩, fun _ => Nat.zero_le _⟩
theorem alikeAll_map {β : Type} {e : β → PyData} (h : ∀ b b', PySem.W.alike (e b) (e b') = true) : ∀ xs ys : List β, PySem.W.alikeAll (xs.map e) (ys.map e) = true
  | [], _ => by simp [PySem.W.alikeAll]
  | _ :: _, [] => by simp [PySem.W.alikeAll]
  | x :: xs, y :: ys => by
    show (PySem.W.alike (e x) (e y) && PySem.W.alikeAll (xs.map e) (ys.map e)) = true
    rw [h, alikeAll_map h xs ys]; rfl
theorem srtL {β : Type} [DecidableEq β] {e : β → PyData} {n : Nat} (eo : EncOk e n) (hn : n ≤ 50) (so : ∀ b b', PySem.W.alike (e b) (e b') = true) : SrtOk (fun xs : List β => .list (xs.map e)) :=
  ⟨fun xs ys => by show PySem.W.alikeAll (xs.map e) (ys.map e) = true; exact alikeAll_map so xs ys, fun _ => PySem.W.Sortable.others fun _ => ⟨(fun z => nomatch z), fun _ z => nomatch z⟩, fun xs => Nat.le_trans ((eokL eo).dep xs) (by omega)⟩
end Tsa

/-! E0: a law's end, over FnG. -/
namespace Tsa
open PySem PySem.Spec PyProof.Rows L2
theorem roomG_caller {k : Nat} (h : Room k callerA) : RoomG k callerA := ⟨h, rfl⟩
/-- from a heap of names in which the script alone may stand -/
theorem law_at {P : Program} {w : World} {K : PySem.W.Frag} {mg mb : Str → Option Value} {k : Nat} {fa a : Addr} {fd : FuncData} {x : Str} {sp : Sp} {s₁ : Shared} {vs : List Value} {H : Hp}
    (inK : K.In s₁.heap) (top : s₁.heap.Ns mainGlobals mg) (blt : s₁.heap.Ns builtinsNs mb) (same : ∀ x : Str, x ≠ "__name__" → mb x = bootBuiltins x) (free : s₁.heap.NoLimit) (noG : s₁.gens = #[])
    (obj : s₁.heap.get? a = some { cls := .type "list", data := .seq vs.toArray }) (room : RoomG k callerA) (fn : ∀ base : Heap, K.In base → base.Ns mainGlobals mg → FnG P w K mg base k fa fd [x] sp)
    (bind : ∀ (s : Shared) (u : Value), BindsTo s fd ⟨[u], []⟩ [(x, u)]) (goal : sp [.ref a] H (fun v _ => v = .bl true) fun _ _ _ => False) (only : Only H) (hok : HOk P w H s₁.heap) (sole : ∀ b, H b ≠ none → b = a) (apart : H a ≠ none → K.lookup a = none) :
    codeAny (model P w) callerA (.call (.ref fa) ⟨[.ref a], []⟩) (fun r s' => r = .ok (.ret (.bool true)) ∧ OldK s₁.heap s'.heap ∧ s'.os = s₁.os ∧ AllBare s'.gens) s₁ := by
  have unH : ∀ {b : Addr} {o : Obj}, s₁.heap.get? b = some o → (b = a → False) → H b = none := fun {b o} e n => Classical.byContradiction fun z => n (sole b z)
  have keepD : ∀ {b : Addr} {o : Obj} {es : Array DictEntry} {ep : Nat}, s₁.heap.get? b = some o → o.data = .dict es ep → (hidT s₁.heap H).get? b = some o := fun {b o es ep} e dd =>
    hidT_get e (unH e fun z => by
      rw [z, obj] at e
      cases e
      exact nomatch dd)
  have keepN : ∀ {b : Addr} {m : Str → Option Value}, s₁.heap.Ns b m → (hidT s₁.heap H).Ns b m := fun {b m} ⟨o, es, ep, e, dd, r⟩ => ⟨o, es, ep, keepD e dd, dd, r⟩
  have inH : K.In (hidT s₁.heap H) := fun b o e => hidT_get (inK b o e) (Classical.byContradiction fun z => by
    have eb := sole b z
    rw [eb] at z e
    rw [apart z] at e
    cases e)
  obtain ⟨mc, f1, f2⟩ := free
  have md : Mod K mg (hidT s₁.heap H) := ⟨inH, keepN top, ⟨mb, keepN blt, same⟩, ⟨mc, keepN f1, f2⟩⟩
  have env : Env0 P w K mg (hidT s₁.heap H) callerA [] s₁ H := ⟨rfl, md, fun b o e => of_hidT e, Nat.le_of_eq (hidT_size _ _), trivial, (fun b z => absurd (show b ∈ ([] : List Addr) from z) List.not_mem_nil), hok, .of_eq noG⟩
  refine codeAny_mono ((fn _ inH (keepN top)).run callerA [] s₁ H ⟨[.ref a], []⟩ [.ref a] [.ref a] _ _ room env (bind s₁ (.ref a)) (.cons rfl .nil) goal) fun r s' z => ?_
  match r, z with
  | .error e, z =>
    obtain ⟨_, _, _, _, _, _, _, _, _, _, _, _, z⟩ := z
    exact z.elim
  | .ok .next, z => exact False.elim z
  | .ok .brk, z => exact False.elim z
  | .ok .cont, z => exact False.elim z
  | .ok (.ret u), ⟨v, H2, ios, bare, un, hok2, rel, ev⟩ =>
    have ev : v = .bl true := ev
    subst ev
    obtain rfl : u = Value.bool true := rel
    refine ⟨rfl, OldK.of_keep fun b o e => ?_, ios, bare⟩
    rcases only b with n | ⟨ob, xs, n⟩
    · exact un.keep b o e n (fun z => absurd (show b ∈ ([] : List Addr) from z) List.not_mem_nil) (by simp)
    · obtain ⟨e1, _⟩ := hok b _ n
      obtain ⟨e2, _⟩ := hok2 b _ (un.frzs b ob _ n)
      exact e2.trans (e1.symm.trans e)
/-- the law's mirror says True to every script -/
theorem walkG {l : PySem.W.OpenLaw} {n k : Nat} {q : Program} {loose : List Str} {XP : (Str → Option Value) → Heap → Prop} {YP : World → Heap → Prop} {d : DefRec} {x : Str}
    (most : l.most = some n) (few : n ≤ sizeLine) (plain : d.params.defaults = []) (room : Room k callerA)
    (F : ∀ (w : World) (mg : Str → Option Value) (fa : Addr) (h : Heap), YP w h → h.Ns mainGlobals mg → mg d.name = some (.ref fa) → ∃ (K : PySem.W.Frag) (fd : FuncData), K.In h ∧ (∀ (s : Shared) (u : Value), BindsTo s fd ⟨[u], []⟩ [(x, u)]) ∧
      ∃ (mir : List Int → Res Bool) (out : List Int → Bool → List SD) (xout : List Int → List SD), (∀ ns, ns.length ≤ n → mir ns = .ok true) ∧
        ∀ base : Heap, K.In base → base.Ns mainGlobals mg → FnG l.prog w K mg base k fa fd [x] (SpM K (fun ns => [.val (.list (ns.map .int))]) mir (fun _ b => .val (.bool b)) out xout)) :
    PySem.W.WalkO q loose XP YP l.row.toRowW d [] (fun f vs => PySem.call f vs) := by
  refine Att.attach_call most plain fun w s₀ s₁ mg mb fa o pm cd doc a vs ns G Y ho hd hcd hmg obj nums small noG => ?_
  obtain ⟨K, fd, inK, bind, mir, out, xout, says, fn⟩ := F w mg fa _ Y G.T.g hmg
  have rv := vals_ints nums
  have short : ns.length ≤ sizeLine := Nat.le_trans small few
  have goal : ∀ H : Hp, SqL K H a (ns.map V.int) → SpM K (fun ns : List Int => [.val (.list (ns.map .int))]) mir (fun _ b => .val (.bool b)) out xout [.ref a] H (fun v _ => v = .bl true) fun _ _ _ => False := fun H hs => by
    have ok := says ns small
    refine ⟨ns, H, emp, emp, ?_, ⟨.refl, .emp, .emp, Dis.emp.symm, Dis.emp.symm, .emp⟩, (by rw [ok]; intro z; cases z), fun r e v F' h1 h2 H' _ w _ _ _ => ?_, fun e z => by rw [ok] at z; cases z⟩
    · unfold ownL ownL
      exact ⟨_, _, emp, emp, rfl, .emp, .emp, .emp, by unfold own; exact .lst hs .ofInts, rfl⟩
    · rw [ok] at e
      cases e
      unfold own at w
      exact w.blV
  cases inn : K.lookup a with
  | some u =>
    have e := inK a u inn
    rw [obj] at e
    cases e
    exact law_at (H := fun _ => none) inK G.T.g G.T.b G.T.builtins G.T.nolimit noG obj (roomG_caller room) fn bind (goal _ (.inr ⟨_, vs.toArray, _, inn, rfl, rfl, rfl, by rw [List.size_toArray, nums.length]; exact short, by simpa using rv⟩)) (fun _ => .inl rfl) (fun b u z => by cases (show (none : Option HO) = some u from z)) (fun b z => absurd rfl z) fun z => absurd rfl z
  | none =>
    have one : ∀ b, b = a ∨ b ≠ a := fun b => Classical.em _
    refine law_at (H := sgl a (.frz { cls := .type "list", data := .seq vs.toArray } (.lst (ns.map V.int)))) inK G.T.g G.T.b G.T.builtins G.T.nolimit noG obj (roomG_caller room) fn bind (goal _ (.inl (.inr ⟨_, one_same⟩))) (fun b => ?_) (fun b u z => ?_) (fun b z => ?_) fun _ => inn
    · rcases one b with e | e
      · subst e
        exact .inr ⟨_, _, one_same⟩
      · exact .inl (one_none e)
    · obtain ⟨rfl, rfl⟩ := one_some z
      exact ⟨obj, by rw [List.length_map]; exact short, vs, _, rv, obj⟩
    · exact Classical.byContradiction fun e => z (one_none e)
end Tsa

/-! N9: for generated texts. -/
namespace Tsa
open PySem PySem.Spec PyProof.Rows L2
/-! ### no exceptions -/
theorem nex_ok {α : Type} {a : α} : ∀ e, Res.ok a ≠ .ex e := fun _ z => nomatch z
theorem nex_un {α : Type} : ∀ e, (Res.un : Res α) ≠ .ex e := fun _ z => nomatch z
theorem nex_bind {α β : Type} {m : Res α} {f : α → Res β} (h : ∀ e, m ≠ .ex e) (hf : ∀ a e, f a ≠ .ex e) : ∀ e, m.bind f ≠ .ex e := fun e z => by
  cases m with
  | ok a => exact hf a e z
  | ex e' => exact h e' rfl
  | un => cases z
theorem nex_cond {α : Type} {b : Bool} {m m' : Res α} (h : ∀ e, m ≠ .ex e) (h' : ∀ e, m' ≠ .ex e) : ∀ e, cond b m m' ≠ .ex e := by cases b <;> assumption
theorem nex_gd {ω : Type} {c : Prop} [Decidable c] {m : Res ω} (h : ∀ e, m ≠ .ex e) : ∀ e, gd c m ≠ .ex e := by
  unfold gd
  split
  · exact h
  · exact nex_un
theorem idx_nex {α : Type} {xs : List α} {i : Int} : ∀ e, idx xs i ≠ .ex e := fun e z => by unfold idx at z; split at z <;> cases z
theorem forS_nex {α τ : Type} {f : α → τ → Res τ} (h : ∀ x t e, f x t ≠ .ex e) : ∀ (xs : List α) (t : τ) (e : Exn), forS f xs t ≠ .ex e
  | [], t, e => fun z => nomatch z
  | x :: xs, t, e => nex_bind (h x t) (fun t' => forS_nex h xs t') e
theorem nex_nex {α : Type} {m : Res α} : ∀ e, m.nex ≠ .ex e := fun e z => by cases m <;> cases z
theorem compL_nex {α β τ : Type} {f : α → τ → Res (Option β × τ)} : ∀ (xs : List α) (t : τ) (e : Exn), compL f xs t ≠ .ex e
  | [], t, e => fun z => nomatch z
  | x :: xs, t, e => nex_bind nex_nex (fun t' => nex_bind (compL_nex xs _) fun r => nex_ok) e
theorem forL_nex {α τ ω : Type} {f : α → τ → Res (Lp τ ω)} (h : ∀ x t e, f x t ≠ .ex e) : ∀ (xs : List α) (t : τ) (e : Exn), forL f xs t ≠ .ex e
  | [], t, e => fun z => nomatch z
  | x :: xs, t, e => nex_bind (h x t) (fun t' => by cases t' with
    | nx t => exact forL_nex h xs t
    | bk t => exact nex_ok
    | rt w => exact nex_ok) e
theorem nex_orW {β ω : Type} {kM : β → Res ω} (h : ∀ b e, kM b ≠ .ex e) : ∀ a e, orW kM a ≠ .ex e
  | .inl b => h b
  | .inr w => nex_ok
theorem popR_nex {α : Type} {xs : List α} {j : Int} : ∀ e, popR xs j ≠ .ex e := fun e z => by
  unfold popR at z
  split at z
  · split at z <;> cases z
  · cases z
theorem ft {p : Prop} (h : false = true) : p := nomatch h
/-- the fuel of whiles -/
def fuel : Nat := 100000000
/-- a slot's pot -/
def potS (p : Int × Int) : SD := .lst [.val (.int p.1), .val (.int p.2)]
theorem nr_pot {p : Int × Int} : NR (potS p) := .lst (.cons .val (.cons .val .nil))
theorem pot_ne {p : Int × Int} : potS p ≠ .hole := fun z => nomatch z
section
variable {K : PySem.W.Frag} {X : Cx} {C : XC} {pu pt : Bool} {ω α : Type} {Γ : List SD} {a b e c : Expr} {es : List Expr} {sts : List Stmt} {M : Res ω} {pos p pn apos : Pos} {k : Opd → List SD → Res ω → Prop} {kb : Bool → List SD → Res ω → Prop}
/-- a def under its name -/
def Has (X : Cx) {ι ω : Type} (x : Str) (lv : Nat) (args : ι → List SD) (mir : ι → Res ω) (ret : ι → ω → SD) (out : ι → ω → List SD) (xout : ι → List SD) : Prop := ∃ f, X.mg x = some (.ref f) ∧ Callee X lv f args mir ret out xout []
abbrev FnP (K : PySem.W.Frag) (x : Str) (st : Stmt) (f : Addr) (fd : FuncData) : Prop := FunD K x x (defArgs st) (defBody st) (defScope st) [] [] f fd
theorem has_of {X : Cx} {ι ω : Type} {x : Str} {st : Stmt} {lv : Nat} {ps : List Str} {args : ι → List SD} {mir : ι → Res ω} {ret : ι → ω → SD} {out : ι → ω → List SD} {xout : ι → List SD} (h : ∃ f fd, X.mg x = some (.ref f) ∧ FnP X.K x st f fd)
    (g : ∀ f fd, FnP X.K x st f fd → FnG X.prog X.w X.K X.mg X.base lv f fd ps (SpM X.K args mir ret out xout)) (b : ∀ f fd, FnP X.K x st f fd → Binds X.K fd ps []) (nr : ∀ i r, NR (ret i r)) (no : ∀ i r, NRL (out i r)) (nx : ∀ i, NRL (xout i)) (nex : ∀ i e, mir i = .ex e → NRF e.flds) : Has X x lv args mir ret out xout := by
  obtain ⟨f, fd, e, F⟩ := h
  exact ⟨f, e, ⟨fd, ps, [], [], g f fd F, b f fd F, .nil, fun _ _ => by unfold ownL; rfl⟩, F.kp, nr, no, nx, nex⟩
theorem JE.callN {ω ω' ι : Type} {Γ : List SD} {M : Res ω} {k : Opd → List SD → Res ω → Prop} {x : Str} {lv : Nat} {args : ι → List SD} {mir : ι → Res ω'} {ret : ι → ω' → SD} {out : ι → ω' → List SD} {xout : ι → List SD}
    (c : Has X x lv args mir ret out xout) (hr : RoomG lv X.A) (hx : PassesW X C.E) (h : JA X C pu Γ (e :: es) M (Args C args mir ret out xout [] pu k)) (hg : Gl X x := by rfl) (hdb : (x == ("__debug__" : Str)) = false := by decide)
    (he : starEach (e :: es) X.env = (false, eval e X.env) :: starEach es X.env := by rfl) (hpl : (backTo pos (starEach es X.env)).any (·.1) = false := by rfl) : JE X C pu Γ (.Call (.Name x p) (e :: es) [] pos) M k := by
  obtain ⟨f, e1, c⟩ := c
  exact JE.call c hr e1 hx h hg hdb he hpl
/-- arguments that are told whole: nothing is lent out, nothing comes back -/
theorem Args.plain {C : XC} {ω ω' ι : Type} {args : ι → List SD} {mir : ι → Res ω'} {ret : ι → ω' → SD} {out : ι → ω' → List SD} {xout : ι → List SD} {pu : Bool} {k : Opd → List SD → Res ω → Prop} {os : List Opd} {Γ : List SD} {M : Res ω}
    (i : ι) (kM : ω' → Res ω) (m : List Bool) (r : Resv Γ os (args i) m) (hs : slots m os = []) (hsel : sel m (args i) = []) (hM : M = (mir i).bind kM) (hx : ∀ e, mir i = .ex e → Le Γ C.Γx) (hk : ∀ r, mir i = .ok r → k (.own (ret i r)) Γ (kM r)) : Args C args mir ret out xout [] pu k os Γ M :=
  ⟨i, args i, m, Γ, [], kM, by rw [hs, hsel]; exact .nil, r, (List.append_nil _).symm, hM, fun e z => by rw [hs]; exact hx e z, fun _ => ⟨rfl, hs⟩, fun r z => by rw [hs]; exact hk r z⟩
/-- a compound test, in a run of its own -/
theorem JC.all {m : Res Bool} {kM : Bool → Res ω} {Γ' : List SD} (hM : M = m.bind kM) (h : JC X C pu Γ e m fun b Γ1 M1 => M1 = .ok b ∧ Γ1 = Γ') (hk : ∀ b, m = .ok b → kb b Γ' (kM b)) : JC X C pu Γ e M kb := by
  subst hM
  exact JB2.run (τ := id) (Δ := fun _ => Γ') (h.mono fun b Γ1 M1 ⟨e1, e2⟩ => ⟨b, e1, rfl, e2⟩) fun x z => hk x z
/-- a value by a run of its own -/
theorem JE.runV {β : Type} {m : Res β} {kM : β → Res ω} {f : β → SD} {Δ : β → List SD} (hM : M = m.bind kM) (h : JE X C pu Γ e m fun o Γ1 M1 => ∃ x, M1 = .ok x ∧ o = .own (f x) ∧ Γ1 = Δ x) (hk : ∀ x, m = .ok x → k (.own (f x)) (Δ x) (kM x)) : JE X C pu Γ e M k := by
  subst hM
  exact JT.run (τ := fun x => .own (f x)) (Δ := Δ) h hk
theorem divP {i j : Int} (c : divOk j) : CDivP i j := by
  refine ⟨c.1, ?_⟩
  have h : j.natAbs.log2 < 5000 := PySem.Flt.log2_lt_of (by decide) (by have := c.1; have := c.2; omega)
  have e : ¬ ((if (j == 0) = true then 0 else j.natAbs.log2 / 30 + 1) > 300) := by split <;> omega
  show (decide ((if (j == 0) = true then 0 else j.natAbs.log2 / 30 + 1) > 300) && _) = false
  rw [decide_eq_false e, Bool.false_and]
theorem gdD {ω : Type} {i j : Int} {m : Res ω} {Z : Res ω → Prop} (h : Z m) : ∃ M3, (gd (divOk j) m ≠ .un → gd (divOk j) m = M3 ∧ CDivP i j) ∧ Z M3 := ⟨m, fun z => ⟨(gd_ok z).1, divP (gd_ok z).2⟩, h⟩
theorem JE.min2 (hc : X.calm = true) (hm : X.mg "min" = none) (h : JI X C pu Γ a M fun i Γ1 M1 => JI X C pu Γ1 b M1 fun j Γ2 M2 => k (.own (.val (.int (min i j)))) Γ2 M2) (hg : Gl X "min" := by rfl) (hs : starEach (a :: [b]) X.env = (false, eval a X.env) :: starEach [b] X.env := by rfl)
    (hs2 : starEach (b :: []) X.env = (false, eval b X.env) :: starEach [] X.env := by rfl) (hpl : (backTo pos (starEach [b] X.env)).any (·.1) = false := by rfl) : JE X C pu Γ (.Call (.Name "min" pn) [a, b] [] pos) M k :=
  JE.bi (call_min2 hc) hm (JA.ints (h.mono fun o Γ1 M1 ⟨i, e, h2⟩ => ⟨i, e, h2.mono fun o' Γ2 M2 ⟨j, e2, hk⟩ => ⟨j, e2, fun vs F h1 h2 g H σ Q ow he d hf hG sz hu hq => by
    obtain ⟨v, v', ha, hb, ev, s1, s2, dd, w1, w2⟩ := ow.two
    obtain rfl := w1.intV
    obtain rfl := w2.intV
    refine ⟨i, j, ev, ?_⟩
    have em : (if j < i then j else i) = min i j := by split <;> omega
    rw [em]
    exact hq.scal hk he d hf (.int _)⟩⟩) hs hs2) rfl hg (hs := hs) (hpl := hpl)
/-- min, max of a pair of numbers -/
theorem pairVI {x y : Int} : SeqV Γ (.own (.val (.tuple [.int x, .int y]))) true (([x, y].map PyData.int).map .val) := .own .tup
theorem JE.leastP {j : Nat} {x y : Int} (hr : RoomG j X.A) (hc : X.calm = true) (hm : X.mg "min" = none) (h : JE X C pu Γ e M fun o Γ1 M1 => o = .own (.val (.tuple [.int x, .int y])) ∧ k (.own (.val (.int (min x y)))) Γ1 M1) (hg : Gl X "min" := by rfl) (hs : starEach [e] X.env = (false, eval e X.env) :: starEach [] X.env := by rfl) : JE X C pu Γ (.Call (.Name "min" pn) [e] [] pos) M k :=
  JE.least hr hc hm (h.mono fun o Γ1 M1 ⟨e1, hk⟩ => ⟨true, _, x, [y], by rw [e1]; exact pairVI, .vals, hk⟩) hg hs
theorem JE.mostP {j : Nat} {x y : Int} (hr : RoomG j X.A) (hc : X.calm = true) (hm : X.mg "max" = none) (h : JE X C pu Γ e M fun o Γ1 M1 => o = .own (.val (.tuple [.int x, .int y])) ∧ k (.own (.val (.int (max x y)))) Γ1 M1) (hg : Gl X "max" := by rfl) (hs : starEach [e] X.env = (false, eval e X.env) :: starEach [] X.env := by rfl) : JE X C pu Γ (.Call (.Name "max" pn) [e] [] pos) M k :=
  JE.most hr hc hm (h.mono fun o Γ1 M1 ⟨e1, hk⟩ => ⟨true, _, x, [y], by rw [e1]; exact pairVI, .vals, hk⟩) hg hs
/-- x in xs, x not in xs: typed -/
def InT [DecidableEq α] (e : α → PyData) (X : Cx) (C : XC) (pu : Bool) {ω : Type} (Γ : List SD) (a b : Expr) (M : Res ω) (k : α → List α → List SD → Res ω → Prop) : Prop :=
  JE X C pu Γ a M fun oa Γ1 M1 => ((∃ s, oa = .own s) ∨ (∃ i, oa = .at i)) ∧ JE X C pu Γ1 b M1 fun ob Γ2 M2 => ∃ x xs, SeeO Γ2 oa (e x) ∧ SeeO Γ2 ob (.list (xs.map e)) ∧ k x xs Γ2 M2
theorem InT.eqIn [DecidableEq α] {e : α → PyData} {n : Nat} (he : EncOk e n) (hn : n ≤ 60) {k : α → List α → List SD → Res ω → Prop} {f : Bool → Bool} {k0 : Opd → List SD → Res ω → Prop} (h : InT e X C pu Γ a b M k) (hk : ∀ x xs Γ M, k x xs Γ M → k0 (.own (.val (.bool (f (decide (x ∈ xs)))))) Γ M) :
    EqIn X C pu Γ a b M fun d e Γ2 M3 => ∃ es, e = .list es ∧ k0 (.own (.val (.bool (f (es.any fun z => PyData.eqv z d))))) Γ2 M3 :=
  h.mono fun oa Γ1 M1 ⟨ho, h2⟩ => ⟨ho, h2.mono fun ob Γ2 M2 ⟨x, xs, s1, s2, z⟩ => ⟨e x, .list (xs.map e), M2, s1, s2, fun _ => ⟨rfl, he.shaped (by omega) x, (eokL he).shaped (by omega) xs⟩, xs.map e, rfl, by rw [any_mem he]; exact hk _ _ _ _ z⟩⟩
theorem Cmp.inT [DecidableEq α] {e : α → PyData} {n j : Nat} (he : EncOk e n) (hn : n ≤ 60) (hr : RoomG j X.A) (h : InT e X C pu Γ a b M fun x xs Γ2 M2 => k (.own (.val (.bool (decide (x ∈ xs))))) Γ2 M2) (hm : behindInMarks .In b = false := by rfl) : Cmp X C pu Γ .In a b M k :=
  Cmp.inL hr.lines65 (h.eqIn (f := id) he hn fun x xs Γ M z => z) hm
theorem Cmp.neS {j : Nat} (hr : RoomG j X.A) (h : JE X C pu Γ a M fun oa Γ1 M1 => ∃ x, oa = .own (.val (.str x)) ∧ JE X C pu Γ1 b M1 fun ob Γ2 M2 => ∃ y, ob = .own (.val (.str y)) ∧ k (.own (.val (.bool (!decide (x = y))))) Γ2 M2) : Cmp X C pu Γ .NotEq a b M k :=
  ⟨nomark _, _, op_ne, JT.two (Z := fun sa ob Γ2 M2 => ∃ x y, sa = .val (.str x) ∧ ob = .own (.val (.str y)) ∧ k (.own (.val (.bool (!decide (x = y))))) Γ2 M2) (h.mono fun oa Γ1 M1 ⟨x, e1, h2⟩ => ⟨_, e1, h2.mono fun ob Γ2 M2 ⟨y, e2, z⟩ => ⟨x, y, rfl, e2, z⟩⟩) (by
    rintro sa ob Γ2 ⟨x, y, rfl, rfl, hk⟩ F ha hb h0 h2 g H σ va vb Q w1 w2 he d1 d2 d3 hf hG hp hu hx hq
    unfold own at w1
    unfold OpdOk own at w2
    obtain rfl := w1.strV
    obtain rfl := w2.strV
    refine ⟨rfl, ?_⟩
    have ed : decide (V.str x = V.str y) = decide (x = y) := by rw [Bool.eq_iff_iff]; simp
    rw [ed]
    exact hq _ Γ2 M hk rfl _ F emp h2 H .refl (by unfold OpdOk own; exact .bl _) he .emp ((hf.sub ((Sub.r d3).trans (.r (Dis.cup d1.symm d2.symm).symm))).emp) hp)⟩
/-- x is None -/
def isNone : PyData → Bool
  | .none => true
  | _ => false
end
end Tsa

/-! N10: more typed rules. -/
namespace Tsa
open PySem PySem.Spec PyProof.Rows L2
section
variable {K : PySem.W.Frag} {X : Cx} {C : XC} {pu pt : Bool} {ω α β : Type} {Γ : List SD} {a b e c tg iter elt : Expr} {es : List Expr} {M : Res ω} {pos p pn apos : Pos} {k : Opd → List SD → Res ω → Prop} {kS : List SD → List SD → Res ω → Prop}
theorem mmB {bs : List Bool} : (bs.map fun x => SD.val (.bool x)) = (bs.map PyData.bool).map SD.val := by rw [List.map_map]; rfl
theorem JE.allT (hc : X.calm = true) (hm : X.mg "all" = none) (h : JE X C pu Γ e M fun o Γ1 M1 => ∃ bs : List Bool, SeqV Γ1 o false (bs.map fun x => .val (.bool x)) ∧ k (.own (.val (.bool (bs.all id)))) Γ1 M1) (hg : Gl X "all" := by rfl) (hs : starEach [e] X.env = (false, eval e X.env) :: starEach [] X.env := by rfl) : JE X C pu Γ (.Call (.Name "all" pn) [e] [] pos) M k :=
  JE.all hc hm (h.mono fun o Γ1 M1 ⟨bs, sv, hk⟩ => ⟨bs, by rw [← mmB]; exact sv, hk⟩) hg hs
/-- enumerate over locked items -/
theorem enum_map {xs : List α} {e : α → PyData} : (enumS (xs.map e)).map SD.val = xs.zipIdx.map fun q => SD.val (.tuple [.int (q.2 : Nat), e q.1]) := by
  unfold enumS
  rw [List.zipIdx_map]
  simp [Function.comp_def]
theorem JSrc.enL {elts : List Expr} {kk : Nat} {tpos : Pos} {f : α → PyData} (hm : X.mg "enumerate" = none) (h : JE X C pu Γ e M fun o Γ' M' => ∃ (s : SD) (xs : List α), o = .own s ∧ SeqOf s false (xs.map fun x => .val (f x)) ∧ kS (xs.zipIdx.map fun q => .val (.tuple [.int (q.2 : Nat), f q.1])) Γ' M') (hg : Gl X "enumerate" := by rfl) (hs : starEach [e] X.env = [(false, eval e X.env)] := by rfl) :
    JSrc X C pu Γ (.Tuple elts kk tpos) (.Call (.Name "enumerate" p) [e] [] pos) M kS :=
  JSrc.enum hm (h.mono fun o Γ1 M1 ⟨s, xs, e1, sq, hk⟩ => ⟨s, xs.map f, e1, by rw [mm]; exact sq, by rw [enum_map]; exact hk⟩) hg hs
theorem JSrc.enW {elts : List Expr} {kk : Nat} {tpos : Pos} {f : α → PyData} (hm : X.mg "enumerate" = none) (h : JE X C pu Γ e M fun o Γ' M' => ∃ (s : SD) (xs : List α), o = .own s ∧ SeqOf s true (xs.map fun x => .val (f x)) ∧ kS (xs.zipIdx.map fun q => .val (.tuple [.int (q.2 : Nat), f q.1])) Γ' M') (hg : Gl X "enumerate" := by rfl) (hs : starEach [e] X.env = [(false, eval e X.env)] := by rfl) :
    JSrc X C pu Γ (.Tuple elts kk tpos) (.Call (.Name "enumerate" p) [e] [] pos) M kS :=
  JSrc.enumT hm (h.mono fun o Γ1 M1 ⟨s, xs, e1, sq, hk⟩ => ⟨s, xs.map f, e1, by rw [mm]; exact sq, by rw [enum_map]; exact hk⟩) hg hs
/-- xs[::-1] of a list of lasting items -/
theorem JE.revLT {f : α → SD} {j : Nat} {p1 p2 p3 : Pos} (h : JE X C pu Γ a M fun oa Γ1 M1 => ((∃ s, oa = .own s) ∨ (∃ i, oa = .at i)) ∧ ∃ xs : List α, SeqV Γ1 oa false (xs.map f) ∧ k (.own (.lst (xs.reverse.map f))) Γ1 M1) :
    JE X C pu Γ (.Subscript a (.Slice none none (some (.UnaryOp .USub (.Constant (.int 1) j p1) p2)) p3) pos) M k :=
  JE.of (pe_revL pe_sem) fun F h0 g H σ Q he hf hG hu hx hq => h F h0 g H σ _ he hf hG hu hx fun oa Γ1 M1 ⟨ho, xs, sv, hk⟩ hm v F1 h1 h2 H1 x ow he1 d hf1 hp => by
    subst hm
    obtain ⟨p0, us, e0, l0, z0, it0⟩ := sv.ok ow he1 d hf1 hG
    refine ⟨p0, us, e0, z0, fun q hn => ?_⟩
    have n1 : h1 q = none := Sub.l.no (hf1.no hn).2.1
    have W : ownL X.K F1 C.G (xs.map f) emp us := items_last l0 it0
    have W2 := ownL_rev W
    rw [← List.map_reverse] at W2
    refine Kt.new (Γ := Γ1) (F := F1) (fun o Γ' M' hk hm v F2 k1 k2 H2 x2 a2 a3 a4 a5 a6 => hq o Γ' M' hk hm v F2 k1 k2 H2 (x.trans x2) a2 a3 a4 a5 fun z => ⟨(hp z).1.trans (a6 z).1, (a6 z).2.trans (hp z).2⟩) hk he1 d hf1 hn ?_
    unfold own
    exact ⟨q, _, emp, rfl, cup_some one_same, .emp, rfl, W2⟩
/-- comprehensions that keep the items as they are -/
theorem JT.compPI {scope : Scope} {own' : List (Str × Nat)} {sd se : α → SD}
    (h : JSrc X C pu Γ tg iter M fun ys Γ1 M1 => ∃ (xs : List α), ys = xs.map sd ∧ PersL Γ1 Γ1 (own'.map (·.2)) ∧
      (∀ x, ∃ Γ2, Le (wipeG Γ2 (own'.map (·.2))) (wipeG Γ1 (own'.map (·.2))) ∧
        (Blk X scope fun X' => JG X' C (fun j => j ∈ own'.map (·.2)) (wipeG Γ1 (own'.map (·.2))) tg (sd x) fun Γ' => Γ' = Γ2) ∧
        Blk X scope fun X' => JVt X' (noE C) Γ2 elt (.own (se x))) ∧
      k (.own (.lst (xs.map se))) Γ1 M1) : JT X.K C pu Γ (lcTE X scope own' tg iter [] elt) M k :=
  JT.compP (g := id) (fun F h0 g' H σ R he hf hG hu hx q => h F h0 g' H σ R he hf hG hu hx fun ys Γ1 M1 ⟨xs, e1, pl, hb, hk⟩ => q ys Γ1 M1 ⟨xs, e1, pl, hb, by rw [List.map_id]; exact hk⟩)
theorem JT.compFI {scope : Scope} {own' : List (Str × Nat)} {sd se : α → SD} {q : α → Bool}
    (h : JSrc X C pu Γ tg iter M fun ys Γ1 M1 => ∃ (xs : List α), ys = xs.map sd ∧ PersL Γ1 Γ1 (own'.map (·.2)) ∧
      (∀ x, ∃ Γ2, Le (wipeG Γ2 (own'.map (·.2))) (wipeG Γ1 (own'.map (·.2))) ∧
        (Blk X scope fun X' => JG X' C (fun j => j ∈ own'.map (·.2)) (wipeG Γ1 (own'.map (·.2))) tg (sd x) fun Γ' => Γ' = Γ2) ∧
        (Blk X scope fun X' => JCt X' (noE C) Γ2 c (q x)) ∧
        Blk X scope fun X' => JVt X' (noE C) Γ2 elt (.own (se x))) ∧
      k (.own (.lst ((xs.filter q).map se))) Γ1 M1) : JT X.K C pu Γ (lcTE X scope own' tg iter [c] elt) M k :=
  JT.compF (g := id) (fun F h0 g' H σ R he hf hG hu hx qq => h F h0 g' H σ R he hf hG hu hx fun ys Γ1 M1 ⟨xs, e1, pl, hb, hk⟩ => qq ys Γ1 M1 ⟨xs, e1, pl, hb, by rw [List.map_id]; exact hk⟩)
/-! ### x[i].append(e), a list of lists -/
def appAt {γ : Type} (xs : List (List γ)) (i : Int) (y : γ) : Res (List (List γ)) := match ixN xs.length i with
  | some n => gd ((xs.getD n []).length < 16000000) (.ok (xs.set n (xs.getD n [] ++ [y])))
  | none => .un
theorem appAt_nex {γ : Type} {xs : List (List γ)} {i : Int} {y : γ} : ∀ e, appAt xs i y ≠ .ex e := fun e z => by
  unfold appAt at z
  split at z
  · exact nex_gd nex_ok e z
  · cases z
end
end Tsa

/-! N11: x[i].append(e) on a list of own lists. -/
namespace Tsa
open PySem PySem.Spec PyProof.Rows L2
/-- an item is looked at, and changed where it lies -/
theorem ownL_at {K : PySem.W.Frag} {F G : Hp} : ∀ {l : List SD} {h : Hp} {vs : List V} {n : Nat} {s : SD}, ownL K F G l h vs → l[n]? = some s → ∃ v h1 h2, vs[n]? = some v ∧ Sub h1 h ∧ Sub h2 h ∧ Dis h1 h2 ∧ own K F G s h1 v ∧
    ∀ (F' : Hp) (s' : SD) (h1' : Hp), Sub F F' → Dis F' G → own K F' G s' h1' v → Dis h1' h2 → ownL K F' G (l.set n s') (cup h1' h2) vs
  | t :: l, h, vs, 0, s, q, e => by
    unfold ownL at q
    obtain ⟨u, ur, k1, k2, ev, s1, s2, dk, wu, q⟩ := q
    cases e
    subst ev
    refine ⟨u, k1, k2, rfl, s1, s2, dk, wu, fun F' s' h1' x d w' d' => ?_⟩
    show ownL K F' G (s' :: l) _ (u :: ur)
    unfold ownL
    exact ⟨u, ur, h1', k2, rfl, .l, .r d', d', w', ownL_mono x (cup_mono_l x d) _ .refl q⟩
  | t :: l, h, vs, n + 1, s, q, e => by
    unfold ownL at q
    obtain ⟨u, ur, k1, k2, ev, s1, s2, dk, wu, q⟩ := q
    subst ev
    obtain ⟨v, h1, h2, e2, t1, t2, d12, w, back⟩ := ownL_at (n := n) q e
    refine ⟨v, h1, cup k1 h2, e2, t1.trans s2, Sub.cup s1 (t2.trans s2), (Dis.cup (dk.mono .refl t1) d12.symm).symm, w, fun F' s' h1' x d w' d' => ?_⟩
    have dk2 : Dis k1 h2 := dk.mono .refl t2
    have a1 : Dis h1' k1 := d'.mono .refl .l
    have a2 : Dis h1' h2 := d'.mono .refl (.r dk2)
    show ownL K F' G (t :: l.set n s') _ (u :: ur)
    unfold ownL
    exact ⟨u, ur, k1, cup h1' h2, rfl, Sub.l.trans (.r d'), Sub.cup .l ((Sub.r dk2).trans (.r d')), (Dis.cup a1 dk2.symm).symm, own_mono x (cup_mono_l x d) _ .refl wu, back F' s' h1' x d w' a2⟩
section
variable {γ : Type} {g' : γ → SD} {X : Cx} {C : XC} {ω : Type} {Γ : List SD} {b c : Expr} {M : Res ω} {pos ps pa p : Pos} {k : Opd → List SD → Res ω → Prop}
end
end Tsa
namespace Tsa
open PySem PySem.Spec PyProof.Rows L2
theorem passN {X : Cx} : PassesW X (fun _ _ _ _ => False) := fun _ _ _ _ _ _ _ h => by
  obtain ⟨_, _, _, _, _, _, _, _, _, _, _, _, h⟩ := h
  exact h.elim
end Tsa
namespace Tsa
open PySem PySem.Spec PyProof.Rows L2
section
variable {K : PySem.W.Frag} {X : Cx} {C : XC} {pu pt : Bool} {ω : Type} {Γ : List SD} {e a b : Expr} {es : List Expr} {M : Res ω} {pos p : Pos} {k : Opd → List SD → Res ω → Prop}
theorem JE.ixE {α : Type} {f : α → SD} {t : Bool} (h : JE X C pu Γ a M fun oa Γ1 M1 => ((∃ s, oa = .own s) ∨ (∃ i, oa = .at i)) ∧ JI X C pu Γ1 b M1 fun i Γ2 M2 => ∃ (xs : List α) (kM : α → Res ω), SeqV Γ2 oa t (xs.map f) ∧ M2 = (idx xs i).bind kM ∧ ∀ x, idx xs i = .ok x → k (.own (f x)) Γ2 (kM x)) (hs : PlainIx b := by exact fun _ _ => rfl) :
    JE X C pu Γ (.Subscript a b pos) M k := by
  refine JE.of (pe_ix (ix_any t) pe_sem pe_sem hs) (JT.two2 (pt := pu) (Z := fun oa ob Γ2 M2 => ∃ i, ob = .own (.val (.int i)) ∧ ∃ (xs : List α) (kM : α → Res ω), SeqV Γ2 oa t (xs.map f) ∧ M2 = (idx xs i).bind kM ∧ ∀ x, idx xs i = .ok x → k (.own (f x)) Γ2 (kM x)) (h.mono fun oa Γ1 M1 ⟨h1, h2⟩ => ⟨by
    rcases h1 with h1 | h1
    · exact .inl h1
    · exact .inr (.inl h1), fun z => z, h2⟩) ?_)
  intro oa ob Γ2 ⟨i, e2, xs, kM, sv, eM, hk⟩ F h1 h0 h2 g H σ va vb Q ow he d hf hG hp hu hx hq
  subst e2
  obtain ⟨va', vr, ha, hb, ev, s1, s2, dd, w1, v2, vr2, hb1, hb2, ev2, s3, s4, dd2, w2, e3⟩ := ow
  cases ev
  cases ev2
  unfold OpdOk own at w2
  obtain rfl := w2.intV
  have d1 : Dis ha h2 := d.mono s1 .refl
  obtain ⟨p, vs, e, l, z, it⟩ := sv.ok w1 he d1 (hf.sub (Sub.cup2 s1 .refl d)) hG
  subst e
  cases hx' : atI xs i with
  | none =>
    refine absurd ?_ hu
    rw [eM]; unfold idx; rw [hx']; rfl
  | some x =>
    have hidx : idx xs i = .ok x := by unfold idx; rw [hx']
    have ha' : atI (xs.map f) i = some (f x) := by rw [atI_map, hx']; rfl
    obtain ⟨j, ej, ey⟩ := atI_len (xs := vs) l ha'
    obtain ⟨y, ey2, wy⟩ := it j _ ey
    have hy : atI vs i = some y := by unfold atI; rw [ej]; exact ey2
    have fin : Q y H := hq _ _ (kM x) (hk x hidx) (by rw [eM, hidx]; rfl) y F emp h2 H .refl wy he .emp ((hf.sub (.r d)).emp) hp
    cases t with
    | true => exact ⟨p, vs, i, y, rfl, rfl, z, hy, fin⟩
    | false => exact ⟨p, vs, i, y, rfl, rfl, z, hy, fin⟩
end
end Tsa

set_option exponentiation.threshold 6000
/-! N12: the plain side: runs that end well, data that may be shown, sorted lists, pots. -/
namespace Tsa
open PySem PySem.Spec PyProof.Rows L2
/-! ### runs that end well -/
def Fine {α : Type} (m : Res α) (P : α → Prop) : Prop := ∃ r, m = .ok r ∧ P r
section
variable {α β γ τ ω : Type}
theorem Fine.ok {x : α} {P : α → Prop} (h : P x) : Fine (.ok x) P := ⟨x, rfl, h⟩
theorem Fine.mono {m : Res α} {P Q : α → Prop} (h : Fine m P) (q : ∀ r, P r → Q r) : Fine m Q := let ⟨r, e, p⟩ := h; ⟨r, e, q r p⟩
theorem Fine.bind {m : Res α} {f : α → Res β} {P : α → Prop} {Q : β → Prop} (h : Fine m P) (q : ∀ r, P r → Fine (f r) Q) : Fine (m.bind f) Q := by
  obtain ⟨r, e, p⟩ := h
  rw [e]
  exact q r p
theorem gd_t {ω : Type} {c : Prop} [Decidable c] {m : Res ω} (h : c) : gd c m = m := if_pos h
theorem Fine.gd {c : Prop} [Decidable c] {m : Res α} {P : α → Prop} (h : c) (q : Fine m P) : Fine (gd c m) P := by rw [gd_t h]; exact q
theorem Fine.cond {b : Bool} {m n : Res α} {P : α → Prop} (h1 : b = true → Fine m P) (h2 : b = false → Fine n P) : Fine (cond b m n) P := by
  cases b with
  | true => exact h1 rfl
  | false => exact h2 rfl
theorem Fine.bindv {x : β} {f : β → Res α} {P : α → Prop} (h : Fine (f x) P) : Fine (bindv x f) P := h
theorem Fine.run {m : Res α} {x : α} (h : Fine m (fun r => r = x)) : m = .ok x := by
  obtain ⟨r, e, rfl⟩ := h
  exact e
theorem idx_at {l : List α} {i : Int} (h0 : 0 ≤ i) (h1 : i.toNat < l.length) : idx l i = .ok l[i.toNat] := by
  have e : ixN l.length i = some i.toNat := by
    unfold ixN
    rw [if_pos h0, if_pos (by omega)]
  unfold idx atI
  rw [e]
  show (match l[i.toNat]? with | some x => Res.ok x | none => .un) = _
  rw [List.getElem?_eq_getElem h1]
theorem Fine.idx {l : List α} {i : Int} (h0 : 0 ≤ i) (h1 : i < (l.length : Nat)) : Fine (idx l i) (fun x => ∃ h : i.toNat < l.length, x = l[i.toNat]) :=
  ⟨_, idx_at h0 (by omega), by omega, rfl⟩
theorem Fine.idxM {l : List α} {i : Int} (h0 : 0 ≤ i) (h1 : i < (l.length : Nat)) : Fine (Tsa.idx l i) (fun x => x ∈ l) :=
  (Fine.idx h0 h1).mono fun _ ⟨_, e⟩ => e ▸ List.getElem_mem _
/-- with what is still to come -/
theorem Fine.forSn {f : α → τ → Res τ} (I : List α → τ → Prop) : ∀ {xs : List α} {t : τ}, I xs t → (∀ x r t, I (x :: r) t → (∀ y ∈ x :: r, y ∈ xs) → Fine (f x t) (I r)) → Fine (Tsa.forS f xs t) (I [])
  | [], t, h, _ => ⟨t, rfl, h⟩
  | x :: xs, t, h, q => (q x xs t h fun _ z => z).bind fun t' h' => Fine.forSn I h' fun y r t i s => q y r t i fun z hz => List.mem_cons_of_mem _ (s z hz)
theorem Fine.forL {f : α → τ → Res (Lp τ ω)} (I : τ → Prop) : ∀ {xs : List α} {t : τ}, I t → (∀ x ∈ xs, ∀ t, I t → Fine (f x t) fun r => ∃ t', r = .nx t' ∧ I t') → Fine (Tsa.forL f xs t) fun r => ∃ t', r = .inl t' ∧ I t'
  | [], t, h, _ => ⟨_, rfl, t, rfl, h⟩
  | x :: xs, t, h, q => by
    refine (q x (List.mem_cons_self ..) t h).bind fun r h' => ?_
    obtain ⟨t', rfl, i⟩ := h'
    exact Fine.forL I i fun y hy => q y (List.mem_cons_of_mem _ hy)
theorem Fine.nex {m : Res α} {P : α → Prop} (h : Fine m P) : Fine m.nex P := by
  obtain ⟨r, e, p⟩ := h
  rw [e]
  exact ⟨r, rfl, p⟩
/-- a comprehension; Q of what is made from each -/
theorem Fine.compL {f : α → τ → Res (Option β × τ)} (I : τ → Prop) (Q : α → Option β → Prop) : ∀ {xs : List α} {t : τ}, I t → (∀ x ∈ xs, ∀ t, I t → Fine (f x t) fun r => Q x r.1 ∧ I r.2) → Fine (Tsa.compL f xs t) fun r => (∃ os : List (Option β), os.length = xs.length ∧ (∀ p ∈ xs.zip os, Q p.1 p.2) ∧ r.1 = os.filterMap id) ∧ I r.2
  | [], t, h, _ => ⟨_, rfl, ⟨[], rfl, (fun _ z => nomatch z), rfl⟩, h⟩
  | x :: xs, t, h, q => by
    rw [compL_cons]
    refine (q x (List.mem_cons_self ..) t h).nex.bind fun r h' => ?_
    refine (Fine.compL I Q h'.2 fun y hy => q y (List.mem_cons_of_mem _ hy)).bind fun r2 h2 => ?_
    obtain ⟨⟨os, e1, e2, e3⟩, i⟩ := h2
    refine Fine.ok ⟨⟨r.1 :: os, by simp [e1], fun p hp => ?_, ?_⟩, i⟩
    · rcases List.mem_cons.mp hp with rfl | hp
      · exact h'.1
      · exact e2 p hp
    · show consO r.1 r2.1 = _
      rw [e3]
      cases r.1 <;> rfl
/-- each made thing is from a walked thing -/
theorem Fine.compM {f : α → τ → Res (Option β × τ)} (I : τ → Prop) (Q : α → β → Prop) {xs : List α} {t : τ} (h : I t) (q : ∀ x ∈ xs, ∀ t, I t → Fine (f x t) fun r => (∀ y, r.1 = some y → Q x y) ∧ I r.2) : Fine (Tsa.compL f xs t) fun r => r.1.length ≤ xs.length ∧ (∀ y ∈ r.1, ∃ x ∈ xs, Q x y) ∧ I r.2 := by
  refine (Fine.compL I (fun x o => ∀ y, o = some y → Q x y) h q).mono fun r hr => ?_
  obtain ⟨⟨os, e1, e2, e3⟩, i⟩ := hr
  refine ⟨?_, fun y hy => ?_, i⟩
  · rw [e3, ← e1]
    exact List.length_filterMap_le ..
  · rw [e3] at hy
    obtain ⟨o, ho, e⟩ := List.mem_filterMap.mp hy
    obtain ⟨n, hn, en⟩ := List.mem_iff_getElem.mp ho
    have hx : n < xs.length := by omega
    refine ⟨xs[n], List.getElem_mem hx, e2 (xs[n], os[n]) (List.mem_iff_getElem.mpr ⟨n, by simp; omega, by simp⟩) y ?_⟩
    show os[n] = some y
    rw [en]
    exact e
end
theorem mem_rangeL {lo hi i : Int} : i ∈ rangeL lo hi ↔ lo ≤ i ∧ i < hi := by
  unfold rangeL
  constructor
  · intro h
    obtain ⟨n, hn, rfl⟩ := List.mem_map.mp h
    have := List.mem_range.mp hn
    omega
  · intro h
    exact List.mem_map.mpr ⟨(i - lo).toNat, List.mem_range.mpr (by omega), by omega⟩
theorem len_rangeL {lo hi : Int} : (rangeL lo hi).length = (hi - lo).toNat := by unfold rangeL; simp
theorem rangeL_lt (lo hi : Int) : (rangeL lo hi).Pairwise (· < ·) := by
  unfold rangeL
  rw [List.pairwise_map]
  refine List.pairwise_lt_range.imp fun h => ?_
  omega
theorem rng_ok {hi : Int} (h : hi ≤ 16777216) (h0 : -16777216 ≤ hi) : rngOk 0 hi := ⟨⟨by decide, by decide⟩, ⟨by omega, by omega⟩, by omega⟩
theorem rng_ok2 {lo hi : Int} (h : hi ≤ 8388608) (h0 : -8388608 ≤ hi) (l : lo ≤ 8388608) (l0 : -8388608 ≤ lo) : rngOk lo hi := ⟨⟨by omega, by omega⟩, ⟨by omega, by omega⟩, by omega⟩
/-! ### data that may be shown -/
structure Sm (D W : Nat) (d : PyData) : Prop where
  lay : d.canLay0 = true
  dep : d.depth ≤ D
  wt : d.weight ≤ W
  short : d.intsShort 13 = true
  shw : d.showable = true
structure SmL (D W : Nat) (ds : List PyData) : Prop where
  lay : PyData.canLayAll0 ds = true
  dep : PyData.depthAll ds ≤ D
  wt : PyData.weightAll ds ≤ W
  short : PyData.intsShortAll 13 ds = true
  shw : PyData.showableAll ds = true
/-! ### sorted lists -/
section
variable {β : Type} {enc : β → PyData}
structure SrtLaw (enc : β → PyData) : Prop where
  trans : ∀ a b c, PySem.W.dataLe false enc a b = true → PySem.W.dataLe false enc b c = true → PySem.W.dataLe false enc a c = true
  total : ∀ a b, (PySem.W.dataLe false enc a b || PySem.W.dataLe false enc b a) = true
  anti : ∀ a b, PySem.W.dataLe false enc a b = true → PySem.W.dataLe false enc b a = true → a = b
theorem sortD_perm (xs : List β) : (sortD enc xs).Perm xs := List.mergeSort_perm ..
theorem sortD_mem {xs : List β} {x : β} : x ∈ sortD enc xs ↔ x ∈ xs := (sortD_perm xs).mem_iff
theorem sortD_is (l : SrtLaw enc) {xs ys : List β} (h : xs.Perm ys) (s : ys.Pairwise fun a b => PySem.W.dataLe false enc a b = true) : sortD enc xs = ys :=
  List.Perm.eq_of_pairwise (le := fun a b => PySem.W.dataLe false enc a b = true) (fun a b _ _ => l.anti a b) (List.pairwise_mergeSort l.trans l.total xs) s ((sortD_perm xs).trans h)
end
theorem le_int {a b : Int} : PySem.W.dataLe false PyData.int a b = true ↔ a ≤ b := by
  have := congrFun (congrFun (PySem.W.dataLe_int (fun i : Int => i)) a) b
  rw [show PySem.W.dataLe false PyData.int a b = PySem.W.dataLe false (fun b => PyData.int b) a b from rfl, this]
  exact decide_eq_true_iff
theorem lawI : SrtLaw PyData.int := ⟨fun a b c h1 h2 => le_int.mpr (Int.le_trans (le_int.mp h1) (le_int.mp h2)), fun a b => by
  rw [Bool.or_eq_true, le_int, le_int]; omega, fun a b h1 h2 => Int.le_antisymm (le_int.mp h1) (le_int.mp h2)⟩
/-! ### pots -/
def PotOk (p : Int × Int) : Prop := 0 ≤ p.1 ∧ 0 ≤ p.2 ∧ p.2 < 1099511627776
theorem pot_take {p : Int × Int} {n : Int} (g : PotOk p) (h0 : 0 < n) (hb : n < 1099511627776) : Fine (cond (decide (0 < p.1)) (Tsa.gd (divOk n) (.ok (p.1 % n, (p.1 / n, p.2))))
    (Tsa.gd (mulOk p.2 39373) (Tsa.gd (mulOk ((p.2 * 39373 + 7919) % 2147483629) ((p.2 * 39373 + 7919) % 2147483629)) (Tsa.gd (0 < n)
      (.ok (((p.2 * 39373 + 7919) % 2147483629) * ((p.2 * 39373 + 7919) % 2147483629) % 2147483563 / 11 % n, (p.1, (p.2 * 39373 + 7919) % 2147483629))))))) fun r => 0 ≤ r.1 ∧ r.1 < n ∧ PotOk r.2 := by
  obtain ⟨g1, g2, g3⟩ := g
  refine Fine.cond (fun c => Fine.gd ⟨h0, Int.lt_trans hb (by decide)⟩ (Fine.ok ⟨Int.emod_nonneg _ (by omega), Int.emod_lt_of_pos _ h0, Int.ediv_nonneg g1 (by omega), g2, g3⟩)) fun c => ?_
  have y0 : 0 ≤ (p.2 * 39373 + 7919) % 2147483629 := by omega
  have y1 : (p.2 * 39373 + 7919) % 2147483629 < 2147483629 := by omega
  have m1 : mulOk p.2 39373 := .inl (.inr (by decide))
  generalize (p.2 * 39373 + 7919) % 2147483629 = y at *
  have m2 : mulOk y y := .inl (.inl (by omega))
  exact Fine.gd m1 (Fine.gd m2 (Fine.gd h0 (Fine.ok ⟨Int.emod_nonneg _ (by omega), Int.emod_lt_of_pos _ h0, g1, y0, by show y < _; omega⟩)))
theorem nth_fine {ns : List Int} {k : Int} (h0 : 0 ≤ k) : Fine (cond (decide (k < (ns.length : Nat))) ((Tsa.idx ns k).bind fun x => .ok x) (.ok 0)) fun _ => True :=
  Fine.cond (fun c => (Fine.idx h0 (of_decide_eq_true c)).bind fun r _ => Fine.ok trivial) fun _ => Fine.ok trivial
theorem pot_new {c : Int} {k : Int} {m : Res Int} {ab : Int → Int} (ha : ∀ i, 0 ≤ ab i) (h0 : 0 ≤ k) (h1 : k < 1000) (hm : Fine m fun _ => True) : Fine (m.bind fun c => Tsa.gd (mulOk 101 k) (.ok (max 0 (ab c - 10 ^ (18 : Int).toNat), ab c % 2147483563 + 101 * k + 1))) PotOk :=
  hm.bind fun c _ => Fine.gd (.inl (.inl (by decide))) (Fine.ok ⟨by omega, by show 0 ≤ ab c % 2147483563 + 101 * k + 1; omega, by show ab c % 2147483563 + 101 * k + 1 < _; omega⟩)
end Tsa
namespace Tsa
open PySem PySem.Spec PyProof.Rows L2
/-! ### tables, plainly -/
section
variable {κ β : Type} [DecidableEq κ]
theorem aPut_mem {m : List (κ × β)} {k l : κ} {v w : β} : (m.map (·.1)).Nodup → ((l, w) ∈ aPut m k v ↔ (l = k ∧ w = v) ∨ (l ≠ k ∧ (l, w) ∈ m)) := by
  induction m with
  | nil => intro _; simp [aPut]
  | cons p r ih =>
    intro nd
    obtain ⟨a, b⟩ := p
    simp only [List.map_cons, List.nodup_cons] at nd
    unfold aPut
    split
    · rename_i e
      have e : a = k := e
      subst e
      have n : ∀ w, (a, w) ∉ r := fun w z => nd.1 (List.mem_map.mpr ⟨_, z, rfl⟩)
      simp only [List.mem_cons, Prod.mk.injEq]
      constructor
      · rintro (⟨rfl, rfl⟩ | z)
        · exact .inl ⟨rfl, rfl⟩
        · exact .inr ⟨fun z' => n _ (z' ▸ z), .inr z⟩
      · rintro (⟨rfl, rfl⟩ | ⟨h, ⟨rfl, rfl⟩ | z⟩)
        · exact .inl ⟨rfl, rfl⟩
        · exact absurd rfl h
        · exact .inr z
    · rename_i e
      have e : ¬ a = k := e
      simp only [List.mem_cons, ih nd.2, Prod.mk.injEq]
      constructor
      · rintro (⟨rfl, rfl⟩ | z | ⟨h, z⟩)
        · exact .inr ⟨e, .inl ⟨rfl, rfl⟩⟩
        · exact .inl z
        · exact .inr ⟨h, .inr z⟩
      · rintro (z | ⟨h, z | z⟩)
        · exact .inr (.inl z)
        · exact .inl z
        · exact .inr (.inr ⟨h, z⟩)
theorem aPut_keys {m : List (κ × β)} {k : κ} {v : β} : (aPut m k v).map (·.1) = if k ∈ m.map (·.1) then m.map (·.1) else m.map (·.1) ++ [k] := by
  induction m with
  | nil => simp [aPut]
  | cons p r ih =>
    unfold aPut
    by_cases e : p.1 = k
    · simp [e]
    · rw [if_neg e]
      simp only [List.map_cons, ih, List.mem_cons]
      have e' : ¬ k = p.1 := fun z => e z.symm
      by_cases h : k ∈ r.map (·.1)
      · simp [h]
      · simp [h, e']
theorem aPut_len {m : List (κ × β)} {k : κ} {v : β} : (aPut m k v).length ≤ m.length + 1 := by
  have := congrArg List.length (aPut_keys (m := m) (k := k) (v := v))
  rw [List.length_map] at this
  rw [this]
  split <;> simp
end
theorem cutG_mem {α : Type} {ys : List α} {lo hi : Option Int} {x : α} (h : x ∈ cutG ys lo hi) : x ∈ ys := by
  unfold cutG at h
  exact List.mem_of_mem_drop (List.mem_of_mem_take h)
theorem cutG_len {α : Type} {ys : List α} {lo hi : Option Int} : (cutG ys lo hi).length ≤ ys.length := by
  unfold cutG
  rw [List.length_take, List.length_drop]
  omega
end Tsa

/-! N13: kinds of things, in a tuple, count. -/
namespace Tsa
open PySem PySem.Spec PyProof.Rows L2
def isIntD : PyData → Bool
  | .int _ => true
  | .bool _ => true
  | _ => false
def isBoolD : PyData → Bool
  | .bool _ => true
  | _ => false
def isTupD : PyData → Bool
  | .tuple _ => true
  | _ => false
def isLstD : PyData → Bool
  | .list _ => true
  | _ => false
def isStrD : PyData → Bool
  | .str _ => true
  | _ => false
def isDctD : PyData → Bool
  | .dict _ => true
  | _ => false
theorem isi_int {K : PySem.W.Frag} (d : PyData) : PySem.W.kitOne K (.type (tyD d)) (.type "int") = some (isIntD d) := by
  cases d <;> kernel_rfl
theorem isi_bool {K : PySem.W.Frag} (d : PyData) : PySem.W.kitOne K (.type (tyD d)) (.type "bool") = some (isBoolD d) := by
  cases d <;> kernel_rfl
theorem isi_tuple {K : PySem.W.Frag} (d : PyData) : PySem.W.kitOne K (.type (tyD d)) (.type "tuple") = some (isTupD d) := by
  cases d <;> kernel_rfl
theorem isi_list {K : PySem.W.Frag} (d : PyData) : PySem.W.kitOne K (.type (tyD d)) (.type "list") = some (isLstD d) := by
  cases d <;> kernel_rfl
section
variable {K : PySem.W.Frag} {X : Cx} {C : XC} {pu : Bool} {ω α : Type} {Γ : List SD} {a b o : Expr} {M : Res ω} {pos apos : Pos} {k : Opd → List SD → Res ω → Prop}
/-- x in xs, xs a tuple: typed -/
def InTW [DecidableEq α] (e : α → PyData) (X : Cx) (C : XC) (pu : Bool) {ω : Type} (Γ : List SD) (a b : Expr) (M : Res ω) (k : α → List α → List SD → Res ω → Prop) : Prop :=
  JE X C pu Γ a M fun oa Γ1 M1 => ((∃ s, oa = .own s) ∨ (∃ i, oa = .at i)) ∧ JE X C pu Γ1 b M1 fun ob Γ2 M2 => ∃ x xs, SeeO Γ2 oa (e x) ∧ SeeO Γ2 ob (.tuple (xs.map e)) ∧ k x xs Γ2 M2
theorem InTW.eqIn [DecidableEq α] {e : α → PyData} {n : Nat} (he : EncOk e n) (hn : n ≤ 60) {k : α → List α → List SD → Res ω → Prop} {f : Bool → Bool} {k0 : Opd → List SD → Res ω → Prop} (h : InTW e X C pu Γ a b M k) (hk : ∀ x xs Γ M, k x xs Γ M → k0 (.own (.val (.bool (f (decide (x ∈ xs)))))) Γ M) :
    EqIn X C pu Γ a b M fun d e Γ2 M3 => ∃ es, e = .tuple es ∧ k0 (.own (.val (.bool (f (es.any fun z => PyData.eqv z d))))) Γ2 M3 :=
  h.mono fun oa Γ1 M1 ⟨ho, h2⟩ => ⟨ho, h2.mono fun ob Γ2 M2 ⟨x, xs, s1, s2, z⟩ => ⟨e x, .tuple (xs.map e), M2, s1, s2, fun _ => ⟨rfl, he.shaped (by omega) x, (eokW he).shaped (by omega) xs⟩, xs.map e, rfl, by rw [any_mem he]; exact hk _ _ _ _ z⟩⟩
theorem Cmp.inTW [DecidableEq α] {e : α → PyData} {n j : Nat} (he : EncOk e n) (hn : n ≤ 60) (hr : RoomG j X.A) (h : InTW e X C pu Γ a b M fun x xs Γ2 M2 => k (.own (.val (.bool (decide (x ∈ xs))))) Γ2 M2) (hm : behindInMarks .In b = false := by rfl) : Cmp X C pu Γ .In a b M k :=
  Cmp.inW hr.lines65 (h.eqIn (f := id) he hn fun x xs Γ M z => z) hm
/-- an item of a tuple, its place told -/
theorem JE.ixT {i : Int} {j} {p' : Pos} (h : JE X C pu Γ a M fun oa Γ1 M1 => ((∃ s, oa = .own s) ∨ (∃ i, oa = .at i)) ∧ ∃ ys s, SeqV Γ1 oa true ys ∧ atI ys i = some s ∧ k (.own s) Γ1 M1) : JE X C pu Γ (.Subscript a (.Constant (.int i) j p') pos) M k := by
  refine JE.of (pe_ix (ix_any true) pe_sem pe_int (fun _ _ => rfl)) fun F h0 g H σ Q he hf hG hu hx hq => h F h0 g H σ _ he hf hG hu hx fun oa Γ1 M1 ⟨_, ys, s, sv, hs, hk⟩ hm v F' h1 h2 H' x ow he' d hf' hp => ?_
  obtain ⟨p, vs, e, l, z, it⟩ := sv.ok ow he' d hf' hG
  subst e
  obtain ⟨j', ej, ey⟩ := atI_len (xs := vs) l hs
  obtain ⟨y, ey2, wy⟩ := it j' _ ey
  have hy : atI vs i = some y := by unfold atI; rw [ej]; exact ey2
  have fin : Q y H' := hq _ _ M1 hk hm y F' emp h2 H' x wy he' .emp ((hf'.un d).emp) hp
  exact ⟨p, vs, i, y, rfl, rfl, z, hy, fin⟩
/-! ### an own thing is lent for one expression -/
inductive Kp : List SD → Prop
  | nil : Kp []
  | nr {s : SD} {r : List SD} (h : NR s) (t : Kp r) : Kp (s :: r)
  | rd {d : PyData} {r : List SD} (t : Kp r) : Kp (.rd d :: r)
  | rt {l r : List SD} (t : Kp r) : Kp (.rt l :: r)
theorem set_self {α : Type} : ∀ {l : List α} {i : Nat} {x : α}, l[i]? = some x → l.set i x = l
  | [], _, _, h => rfl
  | y :: l, 0, x, h => by
    simp at h
    rw [h]; rfl
  | y :: l, i + 1, x, h => by
    show y :: l.set i x = y :: l
    rw [set_self (by simpa using h)]
/-! ### a slot that may be filled late -/
def optS {β : Type} (f : β → SD) : Option β → SD
  | none => .hole
  | some x => f x
def optR {β : Type} (o : Option β) (k : β → Res ω) : Res ω := match o with
  | none => .un
  | some x => k x
theorem nex_optR {β : Type} {o : Option β} {k : β → Res ω} (h : ∀ x e, k x ≠ .ex e) : ∀ e, optR o k ≠ .ex e := fun e z => by
  cases o with
  | none => cases z
  | some x => exact h x e z
end
end Tsa

/-! N14: things that may be None, pairs out of lists, d.get(k, []), len(set(..)). -/
namespace Tsa
open PySem PySem.Spec PyProof.Rows L2
/-- None, or an own thing -/
def optV {β : Type} (f : β → SD) : Option β → SD
  | none => .val .none
  | some x => f x
def optC {β ω : Type} (o : Option β) (m : Res ω) (k : β → Res ω) : Res ω := match o with
  | none => m
  | some x => k x
def two {α : Type} : List α → Option (α × α)
  | [a, b] => some (a, b)
  | _ => none
section
variable {K : PySem.W.Frag} {X : Cx} {C : XC} {pu : Bool} {ω α β : Type} {Γ : List SD} {a b o : Expr} {M : Res ω} {pos apos p p2 q : Pos} {k : Opd → List SD → Res ω → Prop}
end
end Tsa

/-! N18: fields of objects: read, indexed, set, written in. -/
namespace Tsa
open PySem PySem.Spec PyProof.Rows L2
/-- a field set, or a new one behind -/
def putS (f : Str) (s : SD) : List (Str × SD) → List (Str × SD)
  | [] => [(f, s)]
  | (n, t) :: r => if n = f then (n, s) :: r else (n, t) :: putS f s r
/-- an object in a slot, and how it is rebuilt -/
inductive ObjM : SD → Addr → List (Str × SD) → (List (Str × SD) → SD) → Prop
  | obj {Ca : Addr} {l : List (Str × SD)} : ObjM (.obj Ca l) Ca l (.obj Ca)
  | pin {v : V} {Ca : Addr} {l : List (Str × SD)} : ObjM (.pin v (.obj Ca l)) Ca l fun l' => .pin v (.obj Ca l')
section
variable {K : PySem.W.Frag} {F G : Hp} {Γ : List SD} {f : Str}
theorem beq_ne {f n : Str} (c : (f == n) = false) : ¬ n = f := fun z => by rw [z, beq_self_eq_true] at c; cases c
theorem beq_yes {f n : Str} (c : (f == n) = true) : n = f := (eq_of_beq c).symm
/-- a field is looked at, and changed where it lies -/
theorem ownF_at {s : SD} : ∀ {l : List (Str × SD)} {h : Hp} {fs : List (Str × V)}, ownF K F G l h fs → l.lookup f = some s → ∃ v h1 h2, fs.lookup f = some v ∧ Sub h1 h ∧ Sub h2 h ∧ Dis h1 h2 ∧ own K F G s h1 v ∧
    ∀ (F' : Hp) (s' : SD) (v' : V) (h1' : Hp), Sub F F' → Dis F' G → own K F' G s' h1' v' → Dis h1' h2 → ownF K F' G (putS f s' l) (cup h1' h2) (putF f v' fs) ∧ (v' = v → putF f v' fs = fs)
  | [], _, _, _, e => nomatch e
  | (n, t) :: r, h, fs, q, e => by
    unfold ownF at q
    obtain ⟨u, ur, k1, k2, eu, s1, s2, dk, wu, q⟩ := q
    subst eu
    rw [List.lookup_cons] at e
    cases c : f == n with
    | true =>
      rw [c] at e
      cases e
      have en := beq_yes c
      refine ⟨u, k1, k2, by rw [List.lookup_cons, c], s1, s2, dk, wu, fun F' s' v' h1' xf xd w' d' => ⟨?_, fun ev => ?_⟩⟩
      · unfold putS putF
        rw [if_pos en, if_pos en]
        unfold ownF
        exact ⟨v', ur, h1', k2, rfl, .l, .r d', d', w', ownF_mono xf (cup_mono_l xf xd) _ .refl q⟩
      · subst ev
        unfold putF
        rw [if_pos en]
    | false =>
      rw [c] at e
      have en := beq_ne c
      obtain ⟨v, h1, h2, e1, t1, t2, d12, w, back⟩ := ownF_at q e
      refine ⟨v, h1, cup k1 h2, by rw [List.lookup_cons, c]; exact e1, t1.trans s2, Sub.cup s1 (t2.trans s2), (Dis.cup (dk.mono .refl t1) d12.symm).symm, w, fun F' s' v' h1' xf xd w' d' => ?_⟩
      have dk2 : Dis k1 h2 := dk.mono .refl t2
      have a1 : Dis h1' k1 := d'.mono .refl .l
      have a2 : Dis h1' h2 := d'.mono .refl (.r dk2)
      obtain ⟨b1, b2⟩ := back F' s' v' h1' xf xd w' a2
      refine ⟨?_, fun ev => ?_⟩
      · unfold putS putF
        rw [if_neg en, if_neg en]
        unfold ownF
        exact ⟨u, _, k1, cup h1' h2, rfl, (Sub.l).trans (.r d'), Sub.cup .l ((Sub.r dk2).trans (.r d')), (Dis.cup a1 dk2.symm).symm, own_mono xf (cup_mono_l xf xd) _ .refl wu, b1⟩
      · unfold putF
        rw [if_neg en, b2 ev]
/-- many turns -/
def fuelL : Nat := 2 ^ 400
/-- what a class's object must have to be asked for a field -/
structure HasF (K : PySem.W.Frag) (Ca : Addr) (f : Str) : Prop where
  cls : Cls K Ca
  no : NoAttr K Ca f
end
section
variable {X : Cx} {C : XC} {pu : Bool} {ω : Type} {Γ : List SD} {a b e ie : Expr} {M : Res ω} {pos p pa p2 : Pos} {f : Str} {k : Opd → List SD → Res ω → Prop} {kl : List SD → Res ω → Prop} {en : ω → EndK}
/-- an entry changed, or nothing that is walked -/
def setR {α : Type} (xs : List α) (i : Int) (y : α) : Res (List α) := match ixN xs.length i with
  | some n => .ok (xs.set n y)
  | none => .un
theorem setR_nex {α : Type} {xs : List α} {i : Int} {y : α} : ∀ e, setR xs i y ≠ .ex e := fun e z => by
  unfold setR at z
  cases h : ixN xs.length i <;> rw [h] at z <;> cases z
theorem setR_ok {α : Type} {xs : List α} {i : Int} {y : α} (h : setR xs i y ≠ .un) : ∃ n, ixN xs.length i = some n ∧ setR xs i y = .ok (xs.set n y) := by
  unfold setR at h ⊢
  cases e : ixN xs.length i with
  | none => rw [e] at h; exact absurd rfl h
  | some n => exact ⟨n, rfl, rfl⟩
theorem map_set' {α β : Type} (f : α → β) (y : α) : ∀ (xs : List α) (n : Nat), (xs.set n y).map f = (xs.map f).set n (f y)
  | [], _ => rfl
  | _ :: _, 0 => rfl
  | x :: xs, n + 1 => by
    show f x :: (xs.set n y).map f = f x :: (xs.map f).set n (f y)
    rw [map_set' f y xs n]
/-- xs[i] = .., xs its own -/
theorem JG2.ixT {α : Type} {xs : List α} {g : α → SD} {y : α} {kM : List α → Res ω} {i : Nat} {x : Str} {s1 : SD} {mk : List SD → SD} {j : Int} (hΓ : Γ[i]? = some s1) (la : LstAt s1 (xs.map g) mk) (hj : JVt X C Γ ie (.own (.val (.int j))))
    (eM : M = (setR xs j y).bind kM) (hk : ∀ r, setR xs j y = .ok r → kl (Γ.set i (mk (r.map g))) (kM r))
    (hN : X.N[i]? = some x := by rfl) (hv : Vis X.env.scope x := by first | exact Or.inl rfl | exact Or.inr (Or.inl rfl) | exact Or.inr (Or.inr rfl)) (hd : (x == ("__debug__" : Str)) = false := by decide) (hcd : (x == ("__classdict__" : Str)) = false := by decide)
    (ha : ∀ v, assign (.Subscript (.Name x p) ie pos) X.env v = (do
      let ov ← holding [v] (eval (.Name x p) X.env)
      let iv ← holding [v, ov] (eval ie X.env)
      standAt pos
      holding [v, ov, iv] (setItem ov iv v)
      release [v, ov, iv] []) := by intro _; rfl) : JG2 X C Γ (.Subscript (.Name x p) ie pos) (g y) M kl := by
  by_cases hu : setR xs j y = .un
  · intro F h1 h0 g0 H σ v Q he ow d hf hG hun
    rw [eM, hu] at hun
    exact absurd rfl hun
  · obtain ⟨n, e1, e2⟩ := setR_ok hu
    refine JG2.ix hΓ la ⟨j, hj, n, kM (xs.set n y), fun _ => ⟨by rw [eM, e2]; rfl, by rw [List.length_map]; exact e1⟩, ?_⟩ hN hv hd hcd ha
    rw [← map_set']
    exact hk _ e2
/-! ### methods, classes -/
abbrev FnM (K : PySem.W.Frag) (x q : Str) (st : Stmt) (f : Addr) (fd : FuncData) : Prop := FunD K x q (defArgs st) (defBody st) (defScope st) [] [] f fd
/-- a class's method -/
def HasM (X : Cx) {ι ω : Type} (Ca : Addr) (m : Str) (lv : Nat) (args : ι → List SD) (mir : ι → Res ω) (ret : ι → ω → SD) (out : ι → ω → List SD) (xout : ι → List SD) : Prop := ∃ f, Cls X.K Ca ∧ Meth X.K Ca m f ∧ Callee X lv f args mir ret out xout []
/-- a class's maker -/
def HasK (X : Cx) {ι ω : Type} (x : Str) (Ca : Addr) (lv : Nat) (args : ι → List SD) (mir : ι → Res ω) (ret : ι → ω → SD) (out : ι → ω → List SD) (xout : ι → List SD) : Prop := X.mg x = some (.ref Ca) ∧ ∃ f, Mk X.K Ca f ∧ Callee X lv f args mir ret out xout []
end
end Tsa

/-! G1: graphs, plainly: ties, reach, labels, the tree of a search. -/
namespace Tsa
open PySem PySem.Spec PyProof.Rows L2
theorem nodup_len {α : Type} [DecidableEq α] : ∀ {l L : List α}, l.Nodup → (∀ x ∈ l, x ∈ L) → l.length ≤ L.length
  | [], _, _, _ => Nat.zero_le _
  | x :: l, L, h, s => by
    obtain ⟨h1, h2⟩ := List.nodup_cons.mp h
    have hx := s x (List.mem_cons_self ..)
    have := nodup_len (L := L.erase x) h2 fun y hy => (List.mem_erase_of_ne (fun z : y = x => h1 (by rw [← z]; exact hy))).mpr (s y (List.mem_cons_of_mem _ hy))
    rw [List.length_erase_of_mem hx] at this
    have := List.length_pos_of_mem hx
    rw [List.length_cons]
    omega
section
variable {κ β : Type} [DecidableEq κ]
theorem aGet_put {k u : κ} {v : β} : ∀ {m : List (κ × β)}, aGet (aPut m k v) u = if k = u then some v else aGet m u
  | [] => by
    unfold aPut
    by_cases c : k = u
    · rw [if_pos c, aGet_pos (p := (k, v)) c]
    · rw [if_neg c, aGet_neg (p := (k, v)) c]
  | p :: r => by
    unfold aPut
    by_cases e : p.1 = k
    · rw [if_pos e]
      by_cases c : k = u
      · rw [if_pos c, aGet_pos (p := (p.1, v)) (e.trans c)]
      · rw [if_neg c, aGet_neg (p := (p.1, v)) (fun z => c (e.symm.trans z)), aGet_neg (p := p) (fun z => c (e.symm.trans z))]
    · rw [if_neg e]
      by_cases c : p.1 = u
      · have : ¬ k = u := fun z => e (c.trans z.symm)
        rw [aGet_pos c, if_neg this, aGet_pos c]
      · rw [aGet_neg c, aGet_neg c, aGet_put]
end
/-! ### ties and reach -/
def Edge (ts : List (Int × Int)) (k u v : Int) : Prop := ∃ p, ts[k.toNat]? = some p ∧ ((p.1 = u ∧ p.2 = v) ∨ (p.2 = u ∧ p.1 = v))
inductive Reach (ts : List (Int × Int)) (ns : List Int) (x : Int) : Int → Prop
  | refl : Reach ts ns x x
  | step {k u v : Int} : Reach ts ns x u → k ∈ ns → Edge ts k u v → Reach ts ns x v
section
variable {ts : List (Int × Int)} {ns ms : List Int} {x y z k p q : Int}
end
/-! ### labels -/
def relab (la lb : Int) (L : List Int) : List Int := L.map fun x => cond (decide (x = lb)) la x
/-- two places have one label where they are reached from each other -/
def LabOk (ts : List (Int × Int)) (ns L : List Int) : Prop := ∀ x y : Int, 0 ≤ x → x.toNat < L.length → 0 ≤ y → y.toNat < L.length → (L[x.toNat]? = L[y.toNat]? ↔ Reach ts ns x y)
end Tsa

/-! G2: the tree of a search, ways back. -/
namespace Tsa
open PySem PySem.Spec PyProof.Rows L2
abbrev TreeL := List (Int × Option (Int × Int))
inductive Tr (ts : List (Int × Int)) (ns : List Int) (n a : Int) : TreeL → Prop
  | root : 0 ≤ a → a < n → Tr ts ns n a [(a, none)]
  | add {l : TreeL} {u v k : Int} : Tr ts ns n a l → u ∈ l.map (·.1) → v ∉ l.map (·.1) → k ∈ ns → Edge ts k u v → 0 ≤ v → v < n → Tr ts ns n a (l ++ [(v, some (k, u))])
/-- back to the root -/
inductive Wk (ts : List (Int × Int)) (ns : List Int) (l : TreeL) (a : Int) : Int → List Int → List Int → Prop
  | stop : Wk ts ns l a a [] []
  | go {v k u : Int} {P R : List Int} : v ≠ a → aGet l v = some (some (k, u)) → k ∈ ns → Edge ts k u v → Wk ts ns l a u P R → Wk ts ns l a v (k :: P) (u :: R)
/-- along ties; what is left on the way -/
inductive Fol (ts : List (Int × Int)) : Int → List Int → Int → List Int → Prop
  | nil {x : Int} : Fol ts x [] x []
  | cons {k x y z : Int} {P Vs : List Int} : Edge ts k x z → Fol ts z P y Vs → Fol ts x (k :: P) y (x :: Vs)
section
variable {ts : List (Int × Int)} {ns : List Int} {n a v : Int} {l : TreeL}
theorem Tr.range (h : Tr ts ns n a l) : ∀ x ∈ l.map (·.1), 0 ≤ x ∧ x < n := by
  induction h with
  | root h0 h1 =>
    intro x hx
    obtain rfl := List.mem_singleton.mp (show x ∈ [a] from hx)
    exact ⟨h0, h1⟩
  | add _ _ _ _ _ v0 v1 ih =>
    intro x hx
    rw [List.map_append] at hx
    rcases List.mem_append.mp hx with hx | hx
    · exact ih x hx
    · obtain rfl := List.mem_singleton.mp hx
      exact ⟨v0, v1⟩
theorem Tr.nodup (h : Tr ts ns n a l) : (l.map (·.1)).Nodup := by
  induction h with
  | root => exact List.nodup_cons.mpr ⟨List.not_mem_nil, List.nodup_nil⟩
  | add _ _ hv _ _ _ _ ih =>
    rw [List.map_append, List.nodup_append]
    refine ⟨ih, List.nodup_cons.mpr ⟨List.not_mem_nil, List.nodup_nil⟩, fun x hx y hy e => ?_⟩
    obtain rfl := List.mem_singleton.mp (show y ∈ [_] from hy)
    exact hv (e ▸ hx)
theorem Tr.len (h : Tr ts ns n a l) : l.length ≤ n.toNat := by
  have := nodup_len (L := rangeL 0 n) h.nodup fun x hx => mem_rangeL.mpr (h.range x hx)
  rw [List.length_map, len_rangeL] at this
  omega
end
/-! ### the steps from a place -/
def stepOne (u k : Int) : Option (Int × Int) → List (Int × Int)
  | some p => (if p.1 = u then [(k, p.2)] else []) ++ (if p.2 = u then [(k, p.1)] else [])
  | none => []
def stepL (ts : List (Int × Int)) (ns : List Int) (u : Int) : List (Int × Int) := ns.flatMap fun k => stepOne u k ts[k.toNat]?
end Tsa

/-! N15: sorted(set(xs)), whole numbers in a list. -/
namespace Tsa
open PySem PySem.Spec PyProof.Rows L2
/-- a set as it is made -/
abbrev newSet (w : World) : Obj := { cls := .type "set", dict := none, data := .set #[] 0 (.fresh 0 0 (!w.params.followText "set-order")) }
section
variable {P : Program} {w : World} {A : Around} {E : Value → Shared → Prop} {s : Shared}
theorem set_of_list {p : Addr} {us : Array Value} (ns : List Int) {Q : Value → Shared → Prop} (nh : A.handled = none) (ls : s.heap.IsList p us) (iu : IntsAre us.toList ns) (few : ns.length + 1 < scanBound)
    (q : ∀ (g : Heap) (tk c : Nat), SetR w g s.heap.objs.size (fun j => decide (j ∈ ns)) c → c ≤ ns.length → (∀ b o, s.heap.get? b = some o → g.get? b = some o) → Q (.ref s.heap.objs.size) { s with heap := g, toks := tk }) :
    wpAny (model P w) A (call (.type "set") [.ref p]) Q E s := by
  have zu : us.size = ns.length := by
    have z := iu.length
    rwa [Array.length_toList] at z
  obtain ⟨_, _, x1⟩ := F.called_set.mro
  have x2 := F.called_set.made
  have x3 := F.called_set.sub
  refine wpAny_call (codeAny_of_tree ?_)
  show wpAny _ _ (callAny (.type "set") _) _ _ _
  refine wpAny_pure ⟨Code.quiet_builtin _ (by decide +kernel), codeAny_builtin F.entry_type_call ?_⟩
  rw [Around.under_plain (weight_type_call_type "set" [.ref p] []) rfl]
  have x4 := F.called_set.notType
  have x5 := F.called_set.canCreate
  have x6 := F.typeCall_set_1 (.ref p)
  repeat (any_goals (first | assumption | wp_step))
  refine codeAny_mono (code_set_led1 (.ref p) (E := E) (Q₁ := fun ob t => ob = .ref s.heap.objs.size ∧ t = { s with heap := s.heap.push (newSet w) }) ⟨rfl, rfl⟩) fun r1 t1 y1 => ?_
  match r1, y1 with
  | .error _, y1 => exact y1
  | .ok (.ret ob), y1 =>
    obtain ⟨rfl, rfl⟩ := y1
    have g1 : (s.heap.push (newSet w)).get? s.heap.objs.size = some (newSet w) := Heap.get?_push_size _ rfl
    have ty1 : Shared.TypeIs { s with heap := s.heap.push (newSet w) } (.ref s.heap.objs.size) "set" := ⟨_, g1, rfl⟩
    have x7 := F.called_set.init.lookup
    have x8 := F.called_set.init.bind (.ref s.heap.objs.size)
    repeat (any_goals (first | assumption | wp_step))
    refine codeAny_mono (codeAny_call_builtin (R := wants (fun rr t => rr = .none ∧ ∃ g tk c, t = { s with heap := g, toks := tk } ∧ SetR w g s.heap.objs.size (fun j => decide (j ∈ ns)) c ∧ c ≤ ns.length ∧ ∀ b o, s.heap.get? b = some o → g.get? b = some o) E) F.called_set.init.plain F.entry_set_init (check_set_init_1 ty1 ?_)) fun r2 t2 y2 => ?_
    · obtain ⟨⟨oc, od, oda, osl⟩, g2, c2, nl, d2⟩ := ls
      simp only at c2 d2
      subst c2 d2
      have g3 : (s.heap.push (newSet w)).get? p = some { cls := .type "list", dict := od, data := .seq us nl, slots := osl } := Heap.get?_push_of_some _ g2
      have x9 := F.sub_list_set
      have x10 := F.sub_list_frozenset
      have x11 : (Value.type "list" == Value.type "dict") = false := by decide
      have ls1 : (s.heap.push (newSet w)).IsList p us := ⟨_, g3, rfl, nl, rfl⟩
      unfold Builtin.«set.__init__» noKeywords Builtin.Frozenset.updateFrom
      generalize eI : pyIter = PI
      wp_walk
      subst eI
      refine wpAny_pyIter_list ls1 (wpAny_bind (wpAny_runValue ?_))
      have lp : p < s.heap.objs.size := Heap.lt_size g2
      have nh3 : A.in1.in1.in1.handled = none := by simp [nh]
      have sz1 : (s.heap.push (newSet w)).objs.size = s.heap.objs.size + 1 := Heap.size_push ..
      have np : p ≠ (s.heap.push (newSet w)).objs.size := by rw [sz1]; exact Nat.ne_of_lt (Nat.lt_succ_of_lt lp)
      have out : s.heap.objs.size ∉ [(s.heap.push (newSet w)).objs.size, p] := by
        rw [sz1, List.mem_cons, List.mem_singleton, not_or]
        exact ⟨Nat.ne_of_lt (Nat.lt_succ_self _), Nat.ne_of_gt lp⟩
      have item : ∀ (i : Nat) (v : Value), us[i]? = some v → ∃ k t, ns[i]? = some k ∧ v = .int k t := fun i v ev => by
        have li : i < ns.length := by rw [← zu]; exact (Array.getElem?_eq_some_iff.mp ev).1
        obtain ⟨t, e⟩ := iu.int_at i v (by rw [Array.getElem?_toList]; exact ev)
        refine ⟨ns[i], t, List.getElem?_eq_getElem li, ?_⟩
        rw [e, List.getD_eq_getElem?_getD, List.getElem?_eq_getElem li]
        rfl
      refine set_update_ints ((Walks.list nh3 _ p np us).toS) s.heap.objs.size out ns zu few item (us.size - 0) 0 _ (by omega) (Nat.zero_le _) ⟨⟨_, Heap.get?_push_size _ rfl, rfl, rfl⟩, (ls1.push _)⟩ ⟨0, Nat.le_refl 0, setR_new_at (Heap.get?_push_of_some _ g1)⟩ ?_
      intro t c3 mv le3 R3
      obtain ⟨g4, g5, d4, tk4, o4⟩ := t
      obtain rfl : g5 = s.gens := mv.gens
      obtain rfl : d4 = s.drawn := mv.drawn
      obtain rfl : o4 = s.os := mv.os
      show wpAny _ _ _ _ _ _
      refine wpAny_pure ?_
      show wpAny _ _ (ret Value.none) _ _ _
      refine wpAny_pure ⟨rfl, g4, tk4, c3, rfl, R3, by omega, fun b o eb => ?_⟩
      have lb := Heap.lt_size eb
      refine mv.heap b o ?_ (Heap.get?_push_of_some _ (Heap.get?_push_of_some _ eb))
      rw [List.mem_cons, List.mem_singleton, sz1, not_or]
      exact ⟨Nat.ne_of_lt lb, Nat.ne_of_lt (Nat.lt_succ_of_lt lb)⟩
    · match r2, y2 with
      | .error _, y2 => exact y2
      | .ok (.ret _), y2 =>
        obtain ⟨rfl, g, tk, c, rfl, R, le, k⟩ := y2
        repeat (any_goals (first | assumption | wp_step))
        exact q _ _ _ R le k
end
end Tsa

/-! N16: sorted(set(xs)), xs * k. -/
namespace Tsa
open PySem PySem.Spec PyProof.Rows L2
/-- sorted(set(xs)) of whole numbers: rising, each once -/
def tSortSet (K : PySem.W.Frag) (ta : TE) : TE := fun σ H Q => ta σ H fun x H1 => ∃ (l : Addr) (ns : List Int), x = .ref l ∧ SqL K H1 l (ns.map V.int) ∧ ns.length < 64 ∧
  ∀ (out : List Int) (p : Addr), out.Pairwise (· < ·) → (∀ k, k ∈ out ↔ k ∈ ns) → H1 p = none → Q (.ref p) (upd H1 p (.lst (out.map V.int)))
theorem pe_sortSet {X : Cx} {a : Expr} {ta : TE} {p p2 q pos : Pos} (hg : Gl X "sorted") (hm : X.mg "sorted" = none) (hg2 : Gl X "set") (hm2 : X.mg "set" = none) (ha : PE X a ta) (hc : X.calm = true)
    (na : starEach [a] X.env = (false, eval a X.env) :: starEach [] X.env := by rfl) : PE X (.Call (.Name "sorted" p) [.Call (.Name "set" p2) [a] [] q] [] pos) (tSortSet X.K ta) := by
  refine ⟨fun pins s σ H Q I h => ?_⟩
  refine Call_ (ld_blt I hg hm boot_sorted ?_)
  refine PyProof.Rows.callWith_builtin1 (PyProof.Rows.args_cons ?_ rfl) rfl rfl
  refine Call_ (ld_blt I hg2 hm2 boot_set ?_)
  refine PyProof.Rows.callWith_type1 (PyProof.Rows.args_cons (thn (ha.run pins s σ H _ I h) fun v s1 ⟨x, H1, I1, r1, q1⟩ => PyProof.Rows.args_nil ?_) na) na rfl
  obtain ⟨l, ns, rfl, sq, few, q1⟩ := q1
  cases r1
  obtain ⟨its, r, pl, hz⟩ := I1.list sq
  refine set_of_list ns (I1.ok.hd hc) pl.isList (by simpa using RZ.intsAre_vals r) (by unfold scanBound; omega) fun g tk c R le k => ?_
  refine PyProof.Rows.args_nil ?_
  have I2 : Inv X pins σ H1 { s1 with heap := g, toks := tk } := I1.kept k
  have R : SetR X.w ({ s1 with heap := g, toks := tk } : Shared).heap s1.heap.objs.size (fun j => decide (j ∈ ns)) c := R
  generalize ({ s1 with heap := g, toks := tk } : Shared) = s2 at *
  refine sorted_set R (I2.ok.hd hc) (by omega) fun s' p0 out n0 ms k2 eg eo hp hgp hi hs hmem hl => ?_
  have ln : (ms.map V.int).length ≤ sizeLine := by rw [List.length_map, hl, sizeLine_eq]; omega
  have hn : H1 p0 = none := I2.hok.fresh hp
  have J : Inv X pins σ (upd H1 p0 (.lst (ms.map V.int))) { s2 with heap := s'.heap, gens := s'.gens, drawn := s'.drawn, toks := s'.toks } :=
    I2.call (ch := []) (Un.laid k2 hp hn) (I2.hok.laid k2 hp ⟨ln, out.toList, n0, vals_of_ints hi, hgp⟩) (by rw [eg]; exact I2.bare) (fun _ z => nomatch z)
  have es : s' = { s2 with heap := s'.heap, gens := s'.gens, drawn := s'.drawn, toks := s'.toks } := by
    cases s'
    cases s2
    cases eo
    rfl
  rw [es]
  exact ⟨.ref p0, _, J, rfl, q1 ms p0 hs (fun k => (hmem k).trans decide_eq_true_iff) hn⟩
/-- each once -/
def once : List Int → List Int
  | [] => []
  | x :: xs => if x ∈ xs then once xs else x :: once xs
theorem mem_once {x : Int} : ∀ {xs : List Int}, x ∈ once xs ↔ x ∈ xs
  | [] => Iff.rfl
  | y :: ys => by
    unfold once
    split
    · rename_i h
      rw [mem_once, List.mem_cons]
      exact ⟨.inr, fun z => z.elim (fun e => e ▸ h) id⟩
    · rw [List.mem_cons, List.mem_cons, mem_once]
theorem once_nodup : ∀ xs : List Int, (once xs).Nodup
  | [] => List.nodup_nil
  | y :: ys => by
    unfold once
    split
    · exact once_nodup ys
    · rename_i h
      exact List.nodup_cons.mpr ⟨fun z => h (mem_once.mp z), once_nodup ys⟩
/-- what sorted(set(..)) gives -/
def sortSet (ns : List Int) : List Int := sortD PyData.int (once ns)
theorem sortSet_is {ns out : List Int} (h : out.Pairwise (· < ·)) (m : ∀ k, k ∈ out ↔ k ∈ ns) : sortSet ns = out := by
  refine sortD_is lawI ((List.perm_ext_iff_of_nodup (once_nodup ns) (h.imp fun z => by omega)).mpr fun k => mem_once.trans (m k).symm) (h.imp fun z => le_int.mpr (by omega))
section
variable {K : PySem.W.Frag} {X : Cx} {C : XC} {pu : Bool} {ω : Type} {Γ : List SD} {a b o : Expr} {M : Res ω} {pos apos p p2 q : Pos} {k : Opd → List SD → Res ω → Prop}
theorem ints_ownL {F G h : Hp} : ∀ ns : List Int, ownL K F G (ns.map fun i => .val (.int i)) h (ns.map V.int)
  | [] => by show ownL K F G [] h []; unfold ownL; rfl
  | i :: ns => by
    show ownL K F G (.val (.int i) :: ns.map fun i => .val (.int i)) h (V.int i :: ns.map V.int)
    unfold ownL
    exact ⟨_, _, emp, h, rfl, .emp, .refl, .emp, by unfold own; exact .int i, ints_ownL ns⟩
theorem JE.sortedSet (hm : X.mg "sorted" = none) (hm2 : X.mg "set" = none) (hc : X.calm = true) (h : JE X C pu Γ a M fun o Γ1 M1 => ∃ (ns : List Int) (M2 : Res ω), SeqV Γ1 o false (ns.map fun i => .val (.int i)) ∧ (M1 ≠ .un → M1 = M2 ∧ ns.length < 64) ∧ k (.own (.lst ((sortSet ns).map fun i => .val (.int i)))) Γ1 M2)
    (hg : Gl X "sorted" := by rfl) (hg2 : Gl X "set" := by rfl) (na : starEach [a] X.env = (false, eval a X.env) :: starEach [] X.env := by rfl) : JE X C pu Γ (.Call (.Name "sorted" p) [.Call (.Name "set" p2) [a] [] q] [] pos) M k :=
  JE.of (pe_sortSet hg hm hg2 hm2 pe_sem hc na) fun F h0 g H σ Q he hf hG hu hx hq => h F h0 g H σ _ he hf hG hu hx fun oa Γ1 M1 ⟨ns, M2, sv, hM, hk⟩ hm v F1 h1 h2 H1 x ow he1 d hf1 hp => by
    subst hm
    obtain ⟨eM, few⟩ := hM hu
    subst eM
    obtain ⟨p0, vs, e, l, z, it⟩ := sv.ok ow he1 d hf1 hG
    have es := IntsS.val.ok l it
    subst es
    subst e
    refine ⟨p0, ns, rfl, z, few, fun out r hs hmem hn => ?_⟩
    have eo := sortSet_is hs hmem
    subst eo
    have f0 := hf1.un d
    have nn := f0.no hn
    refine hq _ _ M1 hk rfl (.ref r) F1 (cup (sgl r (.lst ((sortSet ns).map V.int))) emp) h2 _ x ?_ he1 (Dis.cup (Dis.one nn.2.1) .emp) ?_ hp
    · unfold OpdOk own
      exact ⟨r, _, emp, rfl, cup_some (by unfold sgl; simp), .emp, rfl, ints_ownL _⟩
    · exact (f0.new hn).sub (Sub.cup (Sub.cup .l .emp) (.r (Dis.one nn.2.1)))
end
end Tsa

/-! N17: xs * k. -/
namespace Tsa
open PySem PySem.Spec PyProof.Rows L2
section
variable {K : PySem.W.Frag} {X : Cx} {C : XC} {pu : Bool} {ω α : Type} {Γ : List SD} {a b o : Expr} {M : Res ω} {pos : Pos} {k : Opd → List SD → Res ω → Prop}
def repD (n : Nat) (xs : List α) : List α := (List.replicate n xs).flatten
theorem dtl_app {S : Hp} : ∀ {us vs : List V} {ds es : List PyData}, DtL K S us ds → DtL K S vs es → DtL K S (us ++ vs) (ds ++ es)
  | _, _, _, _, .nil, q => q
  | _, _, _, _, .cons h t, q => .cons h (dtl_app t q)
theorem dtl_rep {S : Hp} {us : List V} {ds : List PyData} (h : DtL K S us ds) : ∀ n : Nat, DtL K S (repD n us) (repD n ds)
  | 0 => .nil
  | n + 1 => by
    unfold repD
    rw [List.replicate_succ, List.replicate_succ, List.flatten_cons, List.flatten_cons]
    exact dtl_app h (dtl_rep h n)
theorem JE.repL {e : α → PyData} (h : JE X C pu Γ a M fun oa Γ1 M1 => ∃ s1, oa = .own s1 ∧ JE X C pu Γ1 b M1 fun ob Γ2 M2 => ∃ (xs : List α) (n : Int), s1 = .lst (xs.map fun x => .val (e x)) ∧ ob = .own (.val (.int n)) ∧ (0 ≤ n ∧ n ≤ 100 ∧ xs.length ≤ 1000) ∧ k (.own (.lst ((repD n.toNat xs).map fun x => .val (e x)))) Γ2 M2) : JE X C pu Γ (.BinOp a .Mult b pos) M k :=
  JE.of (pe_op op_rep pe_sem pe_sem) (JT.two (Z := fun sa ob Γ2 M2 => ∃ (xs : List α) (n : Int), sa = .lst (xs.map fun x => .val (e x)) ∧ ob = .own (.val (.int n)) ∧ (0 ≤ n ∧ n ≤ 100 ∧ xs.length ≤ 1000) ∧ k (.own (.lst ((repD n.toNat xs).map fun x => .val (e x)))) Γ2 M2) h (by
    rintro sa ob Γ2 ⟨xs, n, rfl, rfl, ⟨n0, n1, lx⟩, hk⟩ F ha hb h0 h2 g H σ va vb Q w1 w2 he d1 d2 d3 hf hG hp hu hx hq
    unfold own at w1
    unfold OpdOk own at w2
    obtain ⟨p, vs, h', ep, hH, sb, hn0, ol⟩ := w1
    subst ep
    have ei : vb = .int n := w2.intV
    have em : (xs.map fun x => SD.val (e x)) = (xs.map e).map .val := by rw [List.map_map]; rfl
    rw [em] at ol
    have dl := ownL_vals ol
    have lv : vs.length = xs.length := by rw [dl.len, List.length_map]
    have Hp : H p = some (.lst vs) := hf.hH _ _ (cup_some hH)
    have lr : ∀ (m : Nat), (repD m vs).length = m * vs.length := fun m => by
      unfold repD
      rw [List.length_flatten, List.map_replicate, List.sum_replicate_nat]
    refine ⟨p, n, vs, rfl, ei, Hp, by omega, by omega, ?_, fun q hn => ?_⟩
    · have z : vs.length * n.toNat ≤ 1000 * 100 := Nat.mul_le_mul (by omega) (by omega)
      exact Nat.le_trans z (by decide)
    have f2 : Fits F h2 g H := hf.sub ((Sub.r d3).trans (.r (Dis.cup d1.symm d2.symm).symm))
    have nn := f2.no hn
    refine hq _ Γ2 M hk rfl (.ref q) F (cup (sgl q (.lst (repD n.toNat vs))) emp) h2 _ .refl ?_ he (Dis.cup (Dis.one nn.2.1) .emp) ?_ hp
    · unfold OpdOk own
      refine ⟨q, repD n.toNat vs, emp, rfl, cup_some (by unfold sgl; simp), .emp, rfl, ?_⟩
      have e2 : ((repD n.toNat xs).map fun x => SD.val (e x)) = (repD n.toNat (xs.map e)).map .val := by
        unfold repD
        rw [List.map_flatten, List.map_flatten, List.map_replicate, List.map_replicate, ← em]
      rw [e2]
      exact ownL_of (dtl_rep dl n.toNat)
    · exact (f2.new hn).sub (Sub.cup (Sub.cup .l .emp) (.r (Dis.one nn.2.1)))))
end
end Tsa

/-! N19: calls of methods and makers; isinstance of two; the least of a list; guards ahead. -/
namespace Tsa
open PySem PySem.Spec PyProof.Rows L2
/-- head and tail, or nothing that is walked -/
def unc {α : Type} (xs : List α) : Res (α × List α) := match xs with
  | [] => .un
  | x :: r => .ok (x, r)
theorem any2 {K : PySem.W.Frag} {t c1 c2 : Value} {a b : Bool} (h1 : PySem.W.kitOne K t c1 = some a) (h2 : PySem.W.kitOne K t c2 = some b) : PySem.W.kitAny K t [c1, c2] = some (a || b) := by
  unfold PySem.W.kitAny
  rw [h1]
  cases a with
  | true => rfl
  | false =>
    show PySem.W.kitAny K t [c2] = some b
    unfold PySem.W.kitAny
    rw [h2]
    cases b <;> rfl
section
variable {X : Cx} {C : XC} {pu : Bool} {ω ω' ι : Type} {Γ : List SD} {a b e : Expr} {es : List Expr} {M : Res ω} {pos p apos pn ptt : Pos} {k : Opd → List SD → Res ω → Prop} {m x : Str} {Ca : Addr} {lv : Nat}
  {args : ι → List SD} {mir : ι → Res ω'} {ret : ι → ω' → SD} {out : ι → ω' → List SD} {xout : ι → List SD}
/-- isinstance(x, (T1, T2)), both built in -/
theorem JE.isi2 {x1 x2 : Str} {T1 T2 : String} {nt} {q1 q2 : Pos} (hm : X.mg "isinstance" = none) (hm1 : X.mg x1 = none) (hm2 : X.mg x2 = none) (h : JE X C pu Γ e M fun o Γ1 M1 => ((∃ s, o = .own s) ∨ (∃ i, o = .at i) ∨ pu = true) ∧ ∃ d r, SeeO Γ1 o d ∧ PySem.W.kitAny X.K (.type (tyD d)) [.type T1, .type T2] = some r ∧ k (.own (.val (.bool r))) Γ1 M1)
    (hv1 : bootBuiltins x1 = some (.type T1) := by rfl) (hgT1 : Gl X x1 := by rfl) (hn1 : x1 ≠ "__name__" := by decide) (hd1 : (x1 == ("__debug__" : Str)) = false := by decide)
    (hv2 : bootBuiltins x2 = some (.type T2) := by rfl) (hgT2 : Gl X x2 := by rfl) (hn2 : x2 ≠ "__name__" := by decide) (hd2 : (x2 == ("__debug__" : Str)) = false := by decide)
    (hg : Gl X "isinstance" := by rfl) (hs : starEach (e :: [.Tuple [.Name x1 q1, .Name x2 q2] nt p]) X.env = (false, eval e X.env) :: starEach [.Tuple [.Name x1 q1, .Name x2 q2] nt p] X.env := by rfl)
    (hs2 : starEach (.Tuple [.Name x1 q1, .Name x2 q2] nt p :: []) X.env = (false, eval (.Tuple [.Name x1 q1, .Name x2 q2] nt p) X.env) :: starEach [] X.env := by rfl)
    (hs3 : starEach [.Name x1 q1, .Name x2 q2] X.env = (false, eval (.Name x1 q1) X.env) :: starEach [.Name x2 q2] X.env := by rfl) (hs4 : starEach [.Name x2 q2] X.env = (false, eval (.Name x2 q2) X.env) :: starEach [] X.env := by rfl)
    (hpl : (backTo pos (starEach [.Tuple [.Name x1 q1, .Name x2 q2] nt p] X.env)).any (·.1) = false := by rfl) : JE X C pu Γ (.Call (.Name "isinstance" pn) [e, .Tuple [.Name x1 q1, .Name x2 q2] nt p] [] pos) M k :=
  JE.bi call_isiT hm (JA.cons (pt := pu) (h.mono fun o Γ1 M1 ⟨ho, d, r, se, hr, hk⟩ => ⟨ho, fun z => z, JA.one (JE.tupD (JA.cons (pt := pu) (JE.tyN (T := T1) hm1 ⟨.inl ⟨_, rfl⟩, fun z => z, JA.one (JE.tyN (T := T2) hm2 (⟨[_, _], rfl, Nat.le_of_ble_eq_true rfl, (fun vs F h1 h2 g H σ Q ow he dd hf hG sz hu hq => by
    obtain ⟨v, v', ha, hb, ev, s1, s2, d12, w1, w2⟩ := ow.two
    have w := se.ok w1 s1 he dd hf hG
    unfold OpdOk own at w2
    obtain ⟨q, us, h', e1, e2, e3, e4, e5⟩ := w2
    unfold ownL at e5
    obtain ⟨u1, ur, k1, k2, f1, f2, f3, f4, f5, f6⟩ := e5
    unfold ownL at f6
    obtain ⟨u2, ur2, k3, k4, g1, g2, g3, g4, g5, g6⟩ := f6
    unfold ownL at g6
    unfold own at f5 g5
    have eu : us = [.ty T1, .ty T2] := by rw [f1, g1, g6, f5.1, g5.1]
    have hH : H q = some (.tup [.ty T1, .ty T2]) := by rw [← eu]; exact hf.hH _ _ (Sub.l _ _ (s2 _ _ e2))
    exact ⟨v, q, _, _, [.type T1, .type T2], r, by rw [ev, e1], hH, .cons (.ty T1) (.cons (.ty T2) .nil), w.tyX, hr, hq.scal hk he dd hf (.bl _)⟩)⟩) hv2 hgT2 hn2 hd2) hs4⟩ hv1 hgT1 hn1 hd1) hs3)) hs2⟩) hs) rfl hg (hs := hs) (hpl := hpl)
end
end Tsa

/-! N20: a list in a tuple is written. -/
namespace Tsa
open PySem PySem.Spec PyProof.Rows L2
section
variable {X : Cx} {C : XC} {ω : Type} {Γ : List SD} {M : Res ω} {pos p : Pos} {k : Opd → List SD → Res ω → Prop}
end
end Tsa

/-! N21: an index read ahead. -/
namespace Tsa
open PySem PySem.Spec PyProof.Rows L2
section
variable {X : Cx} {C : XC} {pu : Bool} {ω : Type} {Γ : List SD} {a b : Expr} {M : Res ω} {pos : Pos} {k : Opd → List SD → Res ω → Prop}
end
end Tsa

/-! N22: one of two things; zip; a list in a tuple handed to a def. -/
namespace Tsa
open PySem PySem.Spec PyProof.Rows L2
/-! ### one of two things -/
def sumS {α β : Type} (f : α → SD) (g : β → SD) : α ⊕ β → SD
  | .inl a => f a
  | .inr b => g b
def encS {α β : Type} (f : α → PyData) (g : β → PyData) : α ⊕ β → PyData
  | .inl a => f a
  | .inr b => g b
def sumC {α β ω : Type} (x : α ⊕ β) (m : α → Res ω) (k : β → Res ω) : Res ω := match x with
  | .inl a => m a
  | .inr b => k b
section
variable {α β : Type} {f : α → SD} {g : β → SD}
end
/-- the left one, or nothing that is walked; the right one -/
def getL {α β : Type} (x : α ⊕ β) : Option α := match x with
  | .inl a => some a
  | .inr _ => none
def getR {α β : Type} (x : α ⊕ β) : Option β := match x with
  | .inl _ => none
  | .inr b => some b
section
variable {X : Cx} {C : XC} {pu : Bool} {ω α β : Type} {Γ : List SD} {e a b : Expr} {M : Res ω} {pos p pn : Pos} {k : Opd → List SD → Res ω → Prop}
/-! ### zip -/
theorem Fits.gs {F h g g' H : Hp} (x : Fits F h g H) (s : Sub g' g) : Fits F h g' H := ⟨x.fH, x.hH, s.trans x.gH, x.fh, x.fg.mono .refl s, x.hg.mono .refl s⟩
/-- data, kept or read -/
inductive VR : SD → PyData → Prop
  | val {d : PyData} : VR (.val d) d
  | rd {d : PyData} : VR (.rd d) d
end
end Tsa

/-! N23: a list in a tuple: anything put behind it; handed to a def that changes it. -/
namespace Tsa
open PySem PySem.Spec PyProof.Rows L2
section
variable {X : Cx} {C : XC} {ω : Type} {Γ : List SD} {M : Res ω} {pos p : Pos} {k : Opd → List SD → Res ω → Prop}
end
end Tsa

/-! N24: an item of an own tuple; what is forgotten of it. -/
namespace Tsa
open PySem PySem.Spec PyProof.Rows L2
section
variable {X : Cx} {C : XC} {pu : Bool} {ω : Type} {Γ : List SD} {M : Res ω} {pos p : Pos} {k : Opd → List SD → Res ω → Prop}
end
end Tsa

/-! N25: lending for a reading of any form. -/
namespace Tsa
open PySem PySem.Spec PyProof.Rows L2
section
variable {X : Cx} {C : XC} {ω : Type} {Γ : List SD} {M : Res ω} {k : Opd → List SD → Res ω → Prop}
end
end Tsa

/-! N26: either of two, both gone through. -/
namespace Tsa
open PySem PySem.Spec PyProof.Rows L2
section
variable {X : Cx} {C : XC} {pu : Bool} {ω α β : Type} {Γ : List SD} {e : Expr} {M : Res ω} {k : Opd → List SD → Res ω → Prop}
end
end Tsa

/-! N27: zip of two lists whose things stay. -/
namespace Tsa
open PySem PySem.Spec PyProof.Rows L2
section
variable {X : Cx} {C : XC} {pu : Bool} {ω α β : Type} {Γ : List SD} {e a b : Expr} {M : Res ω} {pos p pn : Pos} {k : Opd → List SD → Res ω → Prop}
theorem JSrc.zipV {elts : List Expr} {kk : Nat} {tpos : Pos} {e1 : α → PyData} {e2 : β → PyData} {kS : List SD → List SD → Res ω → Prop} (hm : X.mg "zip" = none) 
    (h : JA X C pu Γ [a, b] M fun os Γ' M' => ∃ (s1 s2 : SD) (xs : List α) (ys : List β), os = [.own s1, .own s2] ∧ SeqOf s1 false (xs.map fun x => .val (e1 x)) ∧ SeqOf s2 false (ys.map fun x => .val (e2 x)) ∧ kS ((xs.zip ys).map fun q => .val (.tuple [e1 q.1, e2 q.2])) Γ' M') (hg : Gl X "zip" := by rfl)
    (hs : starEach [a, b] X.env = (false, eval a X.env) :: starEach [b] X.env := by rfl) (hpl : (backTo pos (starEach [b] X.env)).any (·.1) = false := by rfl) :
    JSrc X C pu Γ (.Tuple elts kk tpos) (.Call (.Name "zip" pn) [a, b] [] pos) M kS :=
  JSrc.of (pi_zip hg hm pa_sem hs hpl) fun F h0 g H σ R he hf hG hu hx q => semA_sz (h F h0 g H σ _ he hf hG hu hx fun os Γ' M' ⟨s1, s2, xs, ys, eos, sq1, sq2, hk⟩ hm v F' h1 h2 H' x ow he' d hf' hp sz => by
    subst eos
    obtain ⟨va, vr, ha, hb, ev, sa, sb, dab, wa, ow2⟩ := ow
    obtain ⟨vb, sb2, eb, sbb, wb⟩ := ow2.one
    subst eb
    obtain ⟨f2', dg⟩ := hf'.lent d
    obtain ⟨p, vs, ea, hl, hsa, hia⟩ := sq1.at wa (hf'.sub (sa.trans .l)) hG
    obtain ⟨r, us, eb2, hl2, hsb, hib⟩ := sq2.at wb (hf'.sub ((sbb.trans sb).trans .l)) hG
    subst ea eb2
    have ga : Sub (cup ha g) (cup h1 g) := Sub.cup2 sa .refl dg
    have gb : Sub (cup sb2 g) (cup h1 g) := Sub.cup2 (sbb.trans sb) .refl dg
    have nowa : SqL X.K H' p vs := hsa H' h2 F' .refl (f2'.gs ga)
    have nowb : SqL X.K H' r us := hsb H' h2 F' .refl (f2'.gs gb)
    rw [List.length_map] at hl hl2
    have len : ((xs.zip ys).map fun q => SD.val (.tuple [e1 q.1, e2 q.2])).length = min vs.length us.length := by rw [List.length_map, List.length_zip, hl, hl2]
    refine ⟨p, r, vs, us, ev, nowa, nowb, q _ Γ' M' hk hm F' h1 h2 H' _ x he' f2' dg ⟨?_, ?_, ?_⟩ hp⟩
    · rw [len]
      exact Nat.le_trans (Nat.min_le_left ..) (sz.1 _ _ nowa)
    · refine fun i F2 h3 H3 x2 f3 hle => ⟨vs, us, hsa H3 h3 F2 x2 (f3.gs ga), hsb H3 h3 F2 x2 (f3.gs gb), ?_⟩
      rw [len] at hle
      omega
    · intro i s' F2 h3 H3 x2 f3 hs3
      rw [List.getElem?_map] at hs3
      obtain ⟨⟨qx, qy⟩, eq, es'⟩ : ∃ q, (xs.zip ys)[i]? = some q ∧ s' = .val (.tuple [e1 q.1, e2 q.2]) := by
        cases h : (xs.zip ys)[i]? with
        | none => rw [h] at hs3; cases hs3
        | some q => rw [h] at hs3; cases hs3; exact ⟨q, rfl, rfl⟩
      obtain ⟨ex, ey⟩ := List.getElem?_zip_eq_some.mp eq
      obtain ⟨y1, e3, o3⟩ := hia i (.val (e1 qx)) (by rw [List.getElem?_map, ex]; rfl)
      obtain ⟨y2, e4, o4⟩ := hib i (.val (e2 qy)) (by rw [List.getElem?_map, ey]; rfl)
      have sq3 : SqL X.K H3 p vs := hsa H3 h3 F2 x2 (f3.gs ga)
      have sq4 : SqL X.K H3 r us := hsb H3 h3 F2 x2 (f3.gs gb)
      refine ⟨⟨vs, us, y1, y2, sq3, sq4, e3, e4⟩, fun z H4 ⟨T, y1', y2', e5, hT, eH, hz1, hz2⟩ => ?_⟩
      have e6 := hz1 vs sq3
      have e7 := hz2 us sq4
      rw [e3] at e6
      rw [e4] at e7
      cases e6
      cases e7
      subst e5 eH es'
      have f4 : Fits F2 (cup (sgl T (.tup [y1, y2])) h3) (cup h1 g) _ := f3.new hT
      have dT : Dis (sgl T (.tup [y1, y2])) h3 := Dis.one (f3.no hT).2.1
      refine ⟨cup F2 (sgl T (.tup [y1, y2])), .l, ?_, f4.freeze dT⟩
      unfold own
      have dF : Dis F2 (sgl T (.tup [y1, y2])) := f4.fh.mono .refl .l
      have rd : ∀ {d : PyData} {y : V}, own X.K F' C.G (.val d) emp y → Dt X.K F' y d := fun w => by
        unfold own at w; exact w
      exact .tup (.of (Sub.r dF _ _ one_same)) (.cons ((rd o3).mono (x2.trans .l)) (.cons ((rd o4).mono (x2.trans .l)) .nil)))
end
end Tsa

/-! N28: raise, try .. except X as e, isinstance of the caught one. -/
namespace Tsa
open PySem PySem.Spec PyProof.Rows L2
/-! ### raise -/
/-- an own exception class, without an own __init__ -/
structure ExcK (K : PySem.W.Frag) (x : Str) : Prop where
  xc : PySem.W.excIn K (He.ga K x) He.veBase "ValueError.__new__" = true
  kp : PySem.W.keepIn K (.ref (He.ga K x)) = true
  sb : PySem.W.subIn K (.ref (He.ga K x)) (.type "BaseException") = some true
  ty : PySem.W.typeIn K (.ref (He.ga K x)) = some (.type "type")
section
variable {X : Cx} {C : XC} {pu : Bool} {ω : Type} {Γ : List SD} {M : Res ω} {k : List SD → Res ω → Prop} {en : ω → EndK}
end
/-! ### try -/
/-- what the body gives, or what the suite makes of an exception -/
def tryR {β ω : Type} (Mb : Res β) (Ms : Exn → Res ω) (kM : β → Res ω) : Res ω := match Mb with
  | .ok b => kM b
  | .ex e => Ms e
  | .un => .un
/-- the caught one, what is its own -/
def excS (a : Addr) (od : Option Addr) (l : List (Str × SD)) : SD := .pin (.ref a) (match od with
  | none => .hole
  | some d => .atv (.ref d) (.xds l))
/-- the context of a suite: the exception is in hand -/
structure SuiteCx (X : Cx) (a : Addr) (c : Value) (od : Option Addr) : Prop where
  pin : ∃ oe, (a, oe) ∈ X.pn ∧ L2N.Zn c od oe ∧ ∃ vs, oe.data = .fields vs
  hd : X.A.handled = some (.ref a)
section
variable {X : Cx} {C : XC} {pu : Bool} {ω β : Type} {Γ Γx : List SD} {M : Res ω} {k : List SD → Res ω → Prop} {en : ω → EndK} {i : Nat} {n x cn : Str} {body suite : List Stmt} {b₀ : Stmt} {np pos pos' : Pos} {Mb : Res β} {Ms : Exn → Res ω} {kM : β → Res ω}
end
end Tsa

/-! N29: in a suite: isinstance of the caught one; defs called there. -/
namespace Tsa
open PySem PySem.Spec PyProof.Rows L2
/-! ### isinstance(e, X), e the caught one -/
/-- isinstance of an instance at a whose dict is at od -/
def rIsX (K : PySem.W.Frag) (D a : Addr) (od : Option Addr) : List V → Hp → VK → Prop := fun xs H Q => ∃ (c : V) (cv : Value) (b : Bool), xs = [.ref a, c] ∧ (∀ u, RelV c u → u = cv) ∧ PySem.W.kitOne K (.ref D) cv = some b ∧ (∀ d, od = some d → ∃ fs, H d = some (.xd fs)) ∧ Q (.bl b) H
/-- what a slot with the caught one is -/
inductive ExcAt : SD → Addr → Option Addr → Prop
  | caught {a : Addr} {od : Option Addr} {l : List (Str × SD)} : ExcAt (excS a od l) a od
  | given {a : Addr} {od : Option Addr} {l : List (Str × SD)} : ExcAt (.pin (.ref a) (excS a od l)) a od
section
variable {K : PySem.W.Frag} {X : Cx} {C : XC} {pu : Bool} {ω : Type} {Γ : List SD} {e : Expr} {M : Res ω} {pos p pn : Pos} {k : Opd → List SD → Res ω → Prop}
end
end Tsa

/-! N30: where an exception is handled: comprehensions over ranges; defs called there. -/
namespace L2
open PySem PySem.Spec PyProof.Rows
section
variable {X : Cx}
end
end L2
namespace Tsa
open PySem PySem.Spec PyProof.Rows L2
section
variable {K : PySem.W.Frag} {X : Cx} {C : XC} {pu : Bool} {ω : Type} {Γ : List SD} {e a b c tg iter elt : Expr} {M : Res ω} {pos : Pos} {k : Opd → List SD → Res ω → Prop}
/-- as JSrc, by what is walked -/
def JSrcW (wi : TI) (X : Cx) (C : XC) (pu : Bool) {ω : Type} (Γ : List SD) (M : Res ω) (kS : List SD → List SD → Res ω → Prop) : Prop :=
  ∀ (F h g H : Hp) (σ : L2.St) (R : It → Hp → Prop), EnvR X.K F C.G Γ h σ → Fits F h g H → Sub C.G g → M ≠ .un → XOk X.K C F g M →
    (∀ ys Γ' M', kS ys Γ' M' → M' = M → ∀ (F' hl h2 H' : Hp) (J : It), Sub F F' → EnvR X.K F' C.G Γ' h2 σ → Fits F' h2 (cup hl g) H' → Dis hl g → SrcGood X.K C.G F' (cup hl g) J ys → (pu = true → Sub h h2 ∧ Γ' = Γ) → R J H') → wi σ H R
abbrev lcTW (wi : TI) (X : Cx) (scope : Scope) (own' : List (Str × Nat)) (tg : Expr) (ifs : List Expr) (elt : Expr) : TE := tLc wi (fun v σ H Q => Blk X scope fun X' => semG X' tg v σ H Q) (semIfs X scope ifs) (fun σ H Q => Blk X scope fun X' => semE X' elt σ H Q) (own'.map (·.2))
end
end Tsa

/-! N31: defs that are called with the caught exception, in its suite. -/
namespace Tsa
open PySem PySem.Spec PyProof.Rows L2
structure FnGH (P : Program) (w : World) (K : PySem.W.Frag) (mg : Str → Option Value) (base : Heap) (k : Nat) (f : Addr) (fd : FuncData) (ps : List Str) (sp : Addr → Value → Option Addr → Sp) : Prop where
  len : ∀ a c od vs H Q E, sp a c od vs H Q E → vs.length = ps.length
  run : ∀ (A : Around) (outer : List Env) (s : Shared) (H : Hp) (args : PySem.Args) (us : List Value) (vs : List V) (Q : VK) (E : XK) (p : Addr × Obj) (c : Value) (od : Option Addr), L2H.RoomH k A → L2H.Hot1 A p → L2H.PinOk outer H s p → L2N.Zn c od p.2 → (∃ vs, p.2.data = .fields vs) → Env0 P w K mg base A outer s H →
    BindsTo s fd args (ps.zip us) → Vals vs us → sp p.1 c od vs H Q E → codeAny (model P w) A (.call (.ref f) args) (CR (L2N.CX P w) outer P w H s Q E) s
/-- e's class and fields say what comes -/
def SpMH {ω : Type} (K : PySem.W.Frag) (mir : Exn → Res ω) (ret : ω → SD) : Addr → Value → Option Addr → Sp := fun a c od vs H Q E =>
  vs = [.ref a] ∧ ∃ (e : Exn) (F h g : Hp), c = .ref (He.ga K e.cls) ∧ NRF e.flds ∧ own K F g (excS a od e.flds) h (.ref a) ∧ Fits F h g H ∧ mir e ≠ .un ∧ (∀ x, mir e ≠ .ex x) ∧
    ∀ r, mir e = .ok r → ∀ (v : V) (F' h1 h2 H' : Hp), Sub F F' → own K F' emp (ret r) h1 v → own K F' emp (excS a od e.flds) h2 (.ref a) → Dis h1 h2 → Fits F' (cup h1 h2) g H' → Q v H'
/-- the context of such a def's body -/
structure BodyH (X : Cx) (k : Nat) (a : Addr) (c : Value) (od : Option Addr) : Prop where
  room : L2H.RoomH k X.A
  hot : L2H.HotC X
  hd : X.A.handled = some (.ref a)
  own : PassesOwn (model X.prog X.w) X.A X.env X.xe
  pin : ∃ oe, (a, oe) ∈ X.pn ∧ L2N.Zn c od oe ∧ ∃ vs, oe.data = .fields vs
section
variable {P : Program} {w : World} {K : PySem.W.Frag} {mg : Str → Option Value} {base : Heap} {x qual : Str} {params : Arguments} {body : List Stmt} {scope : Scope} {dvs : List V} {kws : List (Str × V)} {f : Addr} {fd : FuncData} {N ps : List Str} {k : Nat}
end
/-! ### the call -/
/-- a def by its name, called with the caught one -/
def HasH (X : Cx) {ω : Type} (x : Str) (lv : Nat) (mir : Exn → Res ω) (ret : ω → SD) : Prop := ∃ f fd p0, X.mg x = some (.ref f) ∧ PySem.W.keepIn X.K (.ref f) = true ∧ FnGH X.prog X.w X.K X.mg X.base lv f fd [p0] (SpMH X.K mir ret) ∧ Binds X.K fd [p0] []
section
variable {X : Cx} {C : XC} {pu : Bool} {ω ω' : Type} {Γ : List SD} {M : Res ω} {pos p q : Pos} {k : Opd → List SD → Res ω → Prop} {mir : Exn → Res ω'} {ret : ω' → SD}
end
end Tsa

/-! N32: xs[i].remove(y), xs.index(y), of ints. -/
namespace L2
open PySem PySem.Spec PyProof.Rows
section
variable {X : Cx}
def rRemoveI : V → List V → Hp → VK → Prop := fun x vs H Q => ∃ (l : Addr) (ns : List Int) (k : Int), x = .ref l ∧ vs = [.int k] ∧ H l = some (.lst (ns.map V.int)) ∧ k ∈ ns ∧ Q .non (upd H l (.lst ((ns.erase k).map V.int)))
end
end L2
namespace Tsa
open PySem PySem.Spec PyProof.Rows L2
section
variable {K : PySem.W.Frag} {F G : Hp}
end
/-- y taken out of the list at j -/
def remAt (xs : List (List Int)) (j y : Int) : Res (List (List Int)) := match ixN xs.length j with
  | none => .un
  | some n => if y ∈ xs.getD n [] then .ok (xs.set n ((xs.getD n []).erase y)) else .un
/-- where y stands first -/
def indexR (ns : List Int) (y : Int) : Res Int := if y ∈ ns then .ok (ns.idxOf y : Nat) else .un
section
variable {X : Cx} {C : XC} {pu : Bool} {ω : Type} {Γ : List SD} {b c e : Expr} {M : Res ω} {pos ps pa p : Pos} {k : Opd → List SD → Res ω → Prop}
end
end Tsa

/-! N33: xs.index(y), xs locked. -/
namespace Tsa
open PySem PySem.Spec PyProof.Rows L2
section
variable {X : Cx} {C : XC} {pu : Bool} {ω : Type} {Γ : List SD} {b c e : Expr} {M : Res ω} {pos ps pa p : Pos} {k : Opd → List SD → Res ω → Prop}
end
end Tsa

/-! N34: list(range(a, b)). -/
namespace Tsa
open PySem PySem.Spec PyProof.Rows L2
section
variable {K : PySem.W.Frag} {X : Cx} {C : XC} {pu : Bool} {ω : Type} {Γ : List SD} {a b : Expr} {M : Res ω} {pos p pn q2 : Pos} {k : Opd → List SD → Res ω → Prop}
end
end Tsa

/-! N35: a slot lent while something of one's own is made. -/
namespace Tsa
open PySem PySem.Spec PyProof.Rows L2
section
variable {X : Cx} {C : XC} {ω : Type} {Γ : List SD} {M : Res ω} {k : Opd → List SD → Res ω → Prop}
end
end Tsa

/-! N36: the rest by the two answers of a test. -/
namespace Tsa
open PySem PySem.Spec PyProof.Rows L2
section
variable {X : Cx} {C : XC} {ω : Type} {Γ : List SD} {k : List SD → Res ω → Prop} {en : ω → EndK}
end
end Tsa

/-! N37: len(set(xs)) of whole numbers, alike or not. -/
namespace Tsa
open PySem PySem.Spec PyProof.Rows L2
def tLenSetO (K : PySem.W.Frag) (ta : TE) : TE := fun σ H Q => ta σ H fun x H1 => ∃ (l : Addr) (ns : List Int), x = V.ref l ∧ SqL K H1 l (ns.map V.int) ∧ ns.length < 64 ∧ Q (.int (once ns).length) H1
section
variable {K : PySem.W.Frag} {X : Cx} {C : XC} {pu : Bool} {ω : Type} {Γ : List SD} {a b o : Expr} {M : Res ω} {pos apos p p2 q : Pos} {k : Opd → List SD → Res ω → Prop}
end
end Tsa

/-! N38: max(xs, default=d), min(xs, default=d). -/
namespace Tsa
open PySem PySem.Spec PyProof.Rows L2 PySem.W
def mostOr (d : Int) : List Int → Int
  | [] => d
  | n :: ns => mostI n ns
def leastOr (d : Int) : List Int → Int
  | [] => d
  | n :: ns => leastI n ns
def rDef (K : PySem.W.Frag) (f : Int → List Int → Int) : List V → List V → Hp → VK → Prop := fun xs zs H Q => ∃ p ns d, xs = [.ref p] ∧ SqL K H p (ns.map V.int) ∧ zs = [.int d] ∧ Q (.int (f d ns)) H
section
variable {X : Cx}
end
section
variable {K : PySem.W.Frag} {X : Cx} {C : XC} {pu : Bool} {ω : Type} {Γ : List SD} {a b o : Expr} {M : Res ω} {pos apos p p2 q kp : Pos} {k : Opd → List SD → Res ω → Prop}
end
end Tsa

/-! N39: a slot lent while a call makes something of one's own. -/
namespace Tsa
open PySem PySem.Spec PyProof.Rows L2
end Tsa

/-! N40: dicts with None among their keys, as the walk sees them. -/
namespace Tsa
open PySem PySem.Spec PyProof.Rows L2
def nkV : Option Key → V
  | none => .non
  | some k => kV k
/-- a dict with such keys -/
def ndO (P : Program) (w : World) (a : Addr) (kvs : List (Option Key × V)) : HO := .ext fun h => kvs.length ≤ sizeLine ∧ (a == sysModules) = false ∧ ∃ vs, KV kvs vs ∧ h.DictOf (noneKind P w) a vs
section
variable {P : Program} {w : World} {H H' : Hp} {h h' : Heap} {a : Addr} {kvs : List (Option Key × V)}
end
section
variable {X : Cx} {pins : List (Addr × Obj)} {σ : L2.St} {H : Hp} {s : Shared} {a : Addr} {kvs : List (Option Key × V)} {k : Option Key} {v : V} {u r : Value} {A : Around} {E : Value → Shared → Prop}
end
/-- d[y] -/
def tNGet (X : Cx) (td ty : TE) : TE := fun σ H Q => td σ H fun x H1 => ty σ H1 fun y H2 => ∃ a kvs k v, x = .ref a ∧ Rd H2 a (ndO X.prog X.w a kvs) ∧ y = nkV k ∧ valV kvs k = some v ∧ Q v H2
/-- d[y] = v -/
def sNPut (X : Cx) (td ty tv : TE) : TS := fun D σ H => tv σ H fun v H1 => td σ H1 fun x H2 => ty σ H2 fun y H3 => ∃ a kvs k, x = .ref a ∧ H3 a = some (ndO X.prog X.w a kvs) ∧ y = nkV k ∧ kvs.length < sizeLine ∧ D.nx σ (upd H3 a (ndO X.prog X.w a (putK kvs k v)))
/-- {k: v} -/
def tNDisp (X : Cx) (tk tv : TE) : TE := fun σ H Q => ∀ p, H p = none → tk σ (upd H p (ndO X.prog X.w p [])) fun x H1 => tv σ H1 fun y H2 => H2 p = some (ndO X.prog X.w p []) ∧ ∃ k, x = nkV k ∧ Q (.ref p) (upd H2 p (ndO X.prog X.w p [(k, y)]))
def rNIn (X : Cx) : R2 := fun y x H Q => ∃ a kvs k, x = .ref a ∧ Rd H a (ndO X.prog X.w a kvs) ∧ y = nkV k ∧ Q (.bl (valV kvs k).isSome) H
def rNNotIn (X : Cx) : R2 := fun y x H Q => ∃ a kvs k, x = .ref a ∧ Rd H a (ndO X.prog X.w a kvs) ∧ y = nkV k ∧ Q (.bl (!(valV kvs k).isSome)) H
section
variable {X : Cx} {o i e value : Expr} {pos pos' tpos : Pos} {td ty tv tk : TE}
end
/-! ### its keys walked, while it is locked -/
section
variable {X : Cx} {pins : List (Addr × Obj)} {σ : L2.St} {H : Hp} {s : Shared} {d : Addr} {o : Obj}
end
def Itn (P : Program) (w : World) (d : Addr) (o : Obj) (kvs : List (Option Key × V)) : It :=
  ⟨fun i H => H d = some (.frz o (ndO P w d kvs)) ∧ i < kvs.length, fun i H x H' => H' = H ∧ ∃ k v, kvs[i]? = some (k, v) ∧ x = nkV k, fun i H => H d = some (.frz o (ndO P w d kvs)) ∧ kvs.length ≤ i⟩
def iKeysN (P : Program) (w : World) (td : TE) : TI := fun σ H R => td σ H fun x H1 => ∃ d o kvs, x = .ref d ∧ H1 d = some (.frz o (ndO P w d kvs)) ∧ R (Itn P w d o kvs) H1
end Tsa

/-! N41: a dict is locked for one expression, its keys are walked; dicts with None among their keys. -/
namespace Tsa
open PySem PySem.Spec PyProof.Rows L2
/-- a thing that leans on nothing of its own but its one object -/
def Flat (s : SD) : Prop := s ≠ .hole ∧ ∀ (K : PySem.W.Frag) (F G h : Hp) (v : V), own K F G s h v → ∃ p u, v = .ref p ∧ h p = some u ∧ Mut (some u) ∧ own K F G s (sgl p u) v
/-! ### None or an int, as a key and as a value -/
def oV : Option Int → V
  | none => .non
  | some i => .int i
def oK : Option Int → Option Key := Option.map Sum.inl
/-- a dict with such keys and values, owned -/
abbrev ndS (P : Program) (w : World) (m : List (Option Int × Option Int)) : SD := .raw fun a => ndO P w a (m.map fun p => (oK p.1, oV p.2))
section
variable {K : PySem.W.Frag} {X : Cx} {C : XC} {pu pt : Bool} {ω α β τ : Type} {Γ : List SD} {e a b c tg : Expr} {M : Res ω} {pos p p2 apos : Pos} {k : Opd → List SD → Res ω → Prop} {kl : List SD → Res ω → Prop} {en : ω → EndK} {kS : List SD → List SD → Res ω → Prop}
end
end Tsa

/-! N42: the keys of a locked dict; a field's dict is written; dicts with None among their keys: made, looked at, written. -/
namespace Tsa
open PySem PySem.Spec PyProof.Rows L2
section
variable {K : PySem.W.Frag} {κ β : Type} [DecidableEq κ] {kk : κ → Key} {kd : κ → PyData} {f : β → SD} {X : Cx} {C : XC} {pu : Bool} {ω : Type} {Γ : List SD} {a b c e tg : Expr} {M : Res ω} {pos pos' p p2 : Pos} {k : Opd → List SD → Res ω → Prop} {kl : List SD → Res ω → Prop} {en : ω → EndK} {kS : List SD → List SD → Res ω → Prop}
/-- a slot with such a dict, and how it is rebuilt -/
inductive NdAt (X : Cx) : SD → List (Option Int × Option Int) → (List (Option Int × Option Int) → SD) → Prop
  | raw {m : List (Option Int × Option Int)} : NdAt X (ndS X.prog X.w m) m (ndS X.prog X.w)
  | pin {v : V} {m : List (Option Int × Option Int)} : NdAt X (.pin v (ndS X.prog X.w m)) m fun m' => .pin v (ndS X.prog X.w m')
end
end Tsa

/-! N43: xs.extend(ys); what may be None: .. if x is None else x. -/
namespace Tsa
open PySem PySem.Spec PyProof.Rows L2
theorem extW (l b : Addr) (us ws : Array Value) (n m : Nat) (sl : Array (Option Value))
    (hc0 : ¬(!us.isEmpty && Builtin.List.listTooLong (us.size + ws.size)) = true) (hc1 : us.size ≤ sizeLine) (hs2 : us.size + ws.size ≤ sizeLine + 1) :
    Meets (Builtin.«list.extend» ⟨[.ref l, .ref b], []⟩) (fun _ R s => s.heap.get? l = some { cls := .type "list", dict := none, data := .seq us n, slots := #[] } ∧
      s.heap.get? b = some { cls := .type "list", dict := none, data := .seq ws m, slots := sl } ∧
      R (.ok (.ret Value.none)) { s with heap := s.heap.update l (Obj.mapSeq fun x => x ++ ws), toks := s.toks }) :=
  .of_wp fun prog w A R s h => by
    obtain ⟨hp, g, d, tk, os⟩ := s
    obtain ⟨hl, hb, h⟩ := h
    have f1 := AutoSeq1.idx_int
    have f2 := AutoSeq1.sub_tuple_tuple
    have f3 := AutoSeq1.sub_list_list
    have f4 := AutoSeq1.sub_tuple_list
    have f5 := AutoSeq1.sub_list_tuple
    have hz' : (us ++ ws).size ≤ sizeLine + 1 := by rw [Array.size_append]; exact hs2
    wp_walk using (wpAny_updateSeq hl rfl (hz := hc1) (_hz' := hz')), wpAny_loadPart' hl, wpAny_loadPart' hb
    exact ⟨_, rfl, h⟩
def rExtG (K : PySem.W.Frag) : V → List V → Hp → VK → Prop := fun x vs H Q => ∃ l b xs zs, x = .ref l ∧ vs = [.ref b] ∧ H l = some (.lst xs) ∧ SqL K H b zs ∧ xs.length + zs.length ≤ sizeLine ∧ Q .non (upd H l (.lst (xs ++ zs)))
theorem mt_extG {X : Cx} : MtM X "list.extend" (rExtG X.K) := by
  intro pins s σ H x vs v us Q I rx rv ⟨l, b, xs, zs, ex, evs, hH, hB, hz, q⟩
  subst ex evs
  cases rx
  obtain ⟨u, rfl, ru⟩ := rv.one
  cases ru
  obtain ⟨z, its, n, r, hl, e⟩ := I.lstM hH
  obtain ⟨its2, r2, ⟨⟨cls, dd, data, sl⟩, n2, e2, hc, hd, hdt⟩, _⟩ := I.list hB
  simp only at hc hd hdt
  subst hc hd hdt
  have l2 := r2.length
  have hsz : its.toArray.size + its2.toArray.size ≤ sizeLine := by rw [List.size_toArray, List.size_toArray]; omega
  have nt : ¬ (!its.toArray.isEmpty && Builtin.List.listTooLong (its.toArray.size + its2.toArray.size)) = true := by
    rw [notLongL hsz, Bool.and_false]
    exact Bool.false_ne_true
  refine call_meets PySem.F.slot_list_extend ⟨_, e, rfl⟩ PySem.F.entry_list_extend (PySem.F.args_list_extend_2 _ _) (extW l b its.toArray its2.toArray n n2 sl nt (by rw [List.size_toArray]; omega) (by omega)) ⟨e, e2, ?_⟩
  refine ⟨.non, _, I.lset (its' := its ++ its2) hH e (by simp) (r.append r2) (by rw [List.length_append]; omega), rfl, q⟩
section
variable {K : PySem.W.Frag} {X : Cx} {C : XC} {pu pt : Bool} {ω α β τ : Type} {Γ : List SD} {e a b c tg : Expr} {M : Res ω} {pos p p2 apos : Pos} {k : Opd → List SD → Res ω → Prop}
/-- x.extend(e), e a list of lasting items -/
theorem JE.extendT {f : α → SD} {i : Nat} {s : SD} {l : List SD} {mk : List SD → SD} {x : Str} (hΓ : Γ[i]? = some s) (la : LstAt s l mk)
    (h : JE X C false Γ e M fun o Γ1 M1 => ∃ (s1 : SD) (mk1 : List SD → SD) (xs ys : List α) (M2 : Res ω), SeqV Γ1 o false (ys.map f) ∧ Γ1[i]? = some s1 ∧ LstAt s1 (xs.map f) mk1 ∧ (M1 ≠ .un → M1 = M2 ∧ xs.length + ys.length ≤ 16000000) ∧ k (.own (.val .none)) (Γ1.set i (mk1 ((xs ++ ys).map f))) M2)
    (hN : X.N[i]? = some x := by rfl) (hv : Vis X.env.scope x := by first | exact Or.inl rfl | exact Or.inr (Or.inl rfl) | exact Or.inr (Or.inr rfl)) (hd : (x == ("__debug__" : Str)) = false := by decide) (hcd : (x == ("__classdict__" : Str)) = false := by decide)
    (hbase : attributeBase (.Name x p) "extend" X.env (eval (.Name x p) X.env) = eval (.Name x p) X.env := by rfl)
    (hfew : ((backTo pos (starEach (e :: []) X.env)).all (fun x => !x.1) && (backToKw pos (keywordEach [] X.env)).all (fun x => x.1.isSome) && decide ((e :: []).length + ([] : List Keyword).length + (if ([] : List Keyword).isEmpty then 0 else 1) < 30)) = true := by rfl)
    (hline : (apos.endLine == pos.line) = true := by rfl) (hs : starEach (e :: []) X.env = (false, eval e X.env) :: starEach [] X.env := by rfl) (hpl : (backTo pos (starEach [] X.env)).any (·.1) = false := by rfl) :
    JE X C false Γ (.Call (.Attribute (.Name x p) "extend" apos) [e] [] pos) M k :=
  JE.bm1 (T := "list") PySem.F.slot_list_extend PySem.F.type_list_extend mt_extG hΓ la (h.mono fun o Γ1 M1 ⟨s1, mk1, xs, ys, M2, sv, hi, la1, hM, hk⟩ => fun p v F h1 h2 g H σ Q ow he d hf hG sz hu eσ hq => by
    obtain ⟨eM, hl⟩ := hM hu
    subst eM
    obtain ⟨pb, ws, eb, lb, zb, ib⟩ := sv.ok ow he d hf hG
    obtain ⟨q, vs, h', e2, hH, wl, sh, dh, upd'⟩ := lst_upd he hi la1 d hf hG
    rw [eσ] at e2
    cases e2
    have len := ownL_len wl
    rw [List.length_map] at len lb
    have W : ownL X.K F C.G ((xs ++ ys).map f) h' (vs ++ ws) := by
      rw [List.map_append]
      exact ownL_app2 wl (items_last (h := emp) (by rw [lb, List.length_map]) ib) Dis.emp.symm .refl .emp
    obtain ⟨h3, E3, d3, f3⟩ := upd' ((xs ++ ys).map f) (vs ++ ws) h' emp W (.r dh) .emp .emp
    exact ⟨p, pb, vs, ws, rfl, by rw [eb], hH, zb, by rw [len, lb, sizeLine_eq]; omega, hq _ _ M1 hk rfl .non F emp h3 _ .refl (by unfold OpdOk own; exact .non) E3 .emp f3 fun z => nomatch z⟩) hN hv hd hcd hbase hfew hline hs hpl
end
end Tsa

/-! N44: a part of one's own tuple is taken out of it; tuple * int. -/
namespace Tsa
open PySem PySem.Spec PyProof.Rows L2
section
variable {K : PySem.W.Frag} {X : Cx} {C : XC} {pu pt : Bool} {ω α β τ : Type} {Γ : List SD} {a b e : Expr} {M : Res ω} {pos p p2 apos : Pos} {k : Opd → List SD → Res ω → Prop}
end
end Tsa

/-! N45: a def by another name. -/
namespace Tsa
open PySem PySem.Spec PyProof.Rows L2
section
variable {K : PySem.W.Frag} {X : Cx} {C : XC} {pu : Bool} {ω : Type} {Γ : List SD} {a : Expr} {M : Res ω} {pos p q kp : Pos} {k : Opd → List SD → Res ω → Prop}
end
end Tsa

/-! N46: x[i].append(e), the index worked out with effects. -/
namespace Tsa
open PySem PySem.Spec PyProof.Rows L2
section
variable {γ : Type} {g' : γ → SD} {X : Cx} {C : XC} {ω : Type} {Γ : List SD} {b c : Expr} {M : Res ω} {pos ps pa p : Pos} {k : Opd → List SD → Res ω → Prop}
end
end Tsa

/-! N47: what is one of two is read as the one. -/
namespace Tsa
open PySem PySem.Spec PyProof.Rows L2
def lefR {α β ω : Type} (o : α ⊕ β) (k : α → Res ω) : Res ω := match o with
  | .inl x => k x
  | .inr _ => .un
def ritR {α β ω : Type} (o : α ⊕ β) (k : β → Res ω) : Res ω := match o with
  | .inl _ => .un
  | .inr x => k x
section
variable {α β : Type} {X : Cx} {C : XC} {pu : Bool} {ω : Type} {Γ : List SD} {M : Res ω} {k : Opd → List SD → Res ω → Prop}
end
end Tsa

/-! N48: a[:e], the end worked out with effects. -/
namespace Tsa
open PySem PySem.Spec PyProof.Rows L2
/-- membership, the items' equality as the layer takes it -/
def inB {α : Type} [DecidableEq α] (x : α) (xs : List α) : Bool := decide (x ∈ xs)
section
variable {X : Cx} {C : XC} {ω : Type} {Γ : List SD} {a e : Expr} {M : Res ω} {pos p2 : Pos} {k : Opd → List SD → Res ω → Prop}
end
end Tsa

/-! N49: an own list of own things is walked, its things taken out. -/
namespace Tsa
open PySem PySem.Spec PyProof.Rows L2
section
variable {X : Cx} {C : XC} {ω : Type} {Γ : List SD} {tg : Expr} {M : Res ω} {pos p : Pos} {k : List SD → Res ω → Prop} {en : ω → EndK}
end
section
variable {X : Cx} {C : XC} {pu : Bool} {ω α : Type} {Γ : List SD} {a b : Expr} {M : Res ω} {pos p pn : Pos} {k : Opd → List SD → Res ω → Prop}
end
section
variable {X : Cx} {C : XC} {pu : Bool} {ω α : Type} {Γ : List SD} {e : Expr} {M : Res ω} {pos p : Pos} {kS : List SD → List SD → Res ω → Prop}
theorem enum_mapR {xs : List α} {e : α → PyData} : (enumS (xs.map e)).map SD.rd = xs.zipIdx.map fun q => SD.rd (.tuple [.int (q.2 : Nat), e q.1]) := by
  unfold enumS
  rw [List.zipIdx_map]
  simp [Function.comp_def]
theorem JSrc.enLR {elts : List Expr} {kk : Nat} {tpos : Pos} {f : α → PyData} (hm : X.mg "enumerate" = none) (h : JE X C pu Γ e M fun o Γ' M' => ∃ (s : SD) (xs : List α), o = .own s ∧ SeqOf s false (xs.map fun x => .rd (f x)) ∧ kS (xs.zipIdx.map fun q => .rd (.tuple [.int (q.2 : Nat), f q.1])) Γ' M') (hg : Gl X "enumerate" := by rfl) (hs : starEach [e] X.env = [(false, eval e X.env)] := by rfl) :
    JSrc X C pu Γ (.Tuple elts kk tpos) (.Call (.Name "enumerate" p) [e] [] pos) M kS :=
  JSrc.enumR hm (h.mono fun o Γ1 M1 ⟨s, xs, e1, sq, hk⟩ => ⟨s, xs.map f, e1, by rw [List.map_map]; exact sq, by rw [enum_mapR]; exact hk⟩) hg hs
end
end Tsa

/-! N50: exceptions without fields: which class is which, the facts of the program's classes, calls in a suite. -/
namespace Tsa
open PySem PySem.Spec PyProof.Rows L2 He
/-- what is told of the module, and one test more -/
abbrev AlX_ : Type := AlD × Bool
def obsXG (n : Nat) (fa : List Fa) (fn : List DefD) (ex : PySem.W.Frag → Bool) (g : Addr → Option Obj) : AlX_ := (obsD fa fn (frG g (sysModules :: asD g n)), ex (frG g (sysModules :: asD g n)))
def hookXF (n : Nat) (fa : List Fa) (fn : List DefD) (ex : PySem.W.Frag → Bool) : PySem.W.Hook where
  α := AlX_
  obs := fun s => obsXG n fa fn ex s.heap.get?
  val := fun _ => (valD fn, true)
  says := fun _ h => ∃ K : PySem.W.Frag, K.In h ∧ (SaysD fa fn K ∧ ex K = true)
  of := fun _ _ e => ⟨_, frG_in, congrArg (fun z : AlX_ => z.1) e, congrArg (fun z : AlX_ => z.2) e⟩
  keeps := fun _ _ _ ⟨K, hK, c⟩ k => ⟨K, PySem.W.Frag.In.keeps hK k, c⟩
theorem obsXG_eq {n : Nat} {fa : List Fa} {fn : List DefD} {ex : PySem.W.Frag → Bool} {g : Addr → Option Obj} {s : Shared} (h : ∀ a, g a = s.heap.get? a) : obsXG n fa fn ex g = (hookXF n fa fn ex).obs s := by
  have e : g = s.heap.get? := funext h
  rw [e] <;> rfl
end Tsa
namespace Tsa
open PySem PySem.Spec PyProof.Rows L2
/-! ### the program's classes -/
mutual
/-- what leans on nothing, looked at -/
def nrB : SD → Bool
  | .val _ => true
  | .lst l => nrBL l
  | _ => false
def nrBL : List SD → Bool
  | [] => true
  | s :: r => nrB s && nrBL r
end
def nrBF : List (Str × SD) → Bool
  | [] => true
  | (_, s) :: r => nrB s && nrBF r
/-- an exception of one of these classes; its fields lean on nothing -/
def xok (cs : List Str) (e : Exn) : Prop := e.cls ∈ cs ∧ nrBF e.flds = true
instance {cs : List Str} {e : Exn} : Decidable (xok cs e) := decidable_of_iff (e.cls ∈ cs ∧ nrBF e.flds = true) Iff.rfl
/-- whether it is one of class x -/
@[irreducible] def isXc (c x : Str) : Bool := c == x || x == "TreeError"
def excCB (K : PySem.W.Frag) (D : Addr) : Bool :=
  decide (PySem.W.findIn K (.ref D) "__getattribute__" = some (some (.builtin "BaseException.__getattribute__"))) &&
  (decide (PySem.W.findIn K (.ref D) "__getattr__" = some none) &&
  (decide (PySem.W.subIn K (.ref D) (.type "BaseException") = some true) &&
  (PySem.W.hasDictIn K D &&
  (decide (PySem.W.findIn K (.ref D) "__class__" = some (some (.builtin "object.__class__"))) &&
  (decide (PySem.W.specialIn K (.builtin "object.__class__") "__get__" = some (some (.builtin "getset_descriptor.__get__"))) &&
  (decide (PySem.W.takesIn K (.builtin "object.__class__") = some true) &&
  decide (PySem.W.mroIn K D (.type "object") = some true)))))))
theorem excCB_ok {K : PySem.W.Frag} {D : Addr} (h : excCB K D = true) : ExcC K D := by
  unfold excCB at h
  simp only [Bool.and_eq_true, decide_eq_true_eq] at h
  obtain ⟨a, b, c, d, e, f, g, i⟩ := h
  exact ⟨a, b, c, d, e, f, g, i⟩
/-- where the modules are told no list stands -/
def modB (K : PySem.W.Frag) : Bool := match K.lookup sysModules with
  | some o => (match o.cls with
    | .type c => !decide (c = "list")
    | _ => true)
  | none => false
def NoMod (K : PySem.W.Frag) : Prop := ∃ o, K.lookup sysModules = some o ∧ o.cls ≠ .type "list"
theorem modB_ok {K : PySem.W.Frag} (h : modB K = true) : NoMod K := by
  unfold modB at h
  cases e : K.lookup sysModules with
  | none => rw [e] at h; cases h
  | some o =>
    rw [e] at h
    refine ⟨o, e, fun z => ?_⟩
    dsimp only at h
    rw [z] at h
    cases h
def xfB (cs ns : List Str) (K : PySem.W.Frag) : Bool := modB K && cs.all fun c => excCB K (He.ga K c) &&
  (decide (PySem.W.kitOne K (.ref (He.ga K c)) (.type "ValueError") = some true) &&
  (decide (PySem.W.exmOne K (.ref (He.ga K c)) (.ref (He.ga K "TreeError")) = some true) &&
  ns.all fun x => decide (PySem.W.kitOne K (.ref (He.ga K c)) (.ref (He.ga K x)) = some (isXc c x))))
structure XF (K : PySem.W.Frag) (cs ns : List Str) : Prop where
  md : NoMod K
  c : ∀ c ∈ cs, ExcC K (He.ga K c)
  v : ∀ c ∈ cs, PySem.W.kitOne K (.ref (He.ga K c)) (.type "ValueError") = some true
  t : ∀ c ∈ cs, PySem.W.exmOne K (.ref (He.ga K c)) (.ref (He.ga K "TreeError")) = some true
  k : ∀ c ∈ cs, ∀ x ∈ ns, PySem.W.kitOne K (.ref (He.ga K c)) (.ref (He.ga K x)) = some (isXc c x)
theorem xfB_ok {K : PySem.W.Frag} {cs ns : List Str} (h : xfB cs ns K = true) : XF K cs ns := by
  unfold xfB at h
  rw [Bool.and_eq_true, List.all_eq_true] at h
  obtain ⟨hm, h⟩ := h
  have h2 : ∀ c ∈ cs, ExcC K (He.ga K c) ∧ PySem.W.kitOne K (.ref (He.ga K c)) (.type "ValueError") = some true ∧ PySem.W.exmOne K (.ref (He.ga K c)) (.ref (He.ga K "TreeError")) = some true ∧ ∀ x ∈ ns, PySem.W.kitOne K (.ref (He.ga K c)) (.ref (He.ga K x)) = some (isXc c x) := fun c hc => by
    have z := h c hc
    simp only [Bool.and_eq_true, decide_eq_true_eq, List.all_eq_true] at z
    exact ⟨excCB_ok z.1, z.2.1, z.2.2.1, z.2.2.2⟩
  exact ⟨modB_ok hm, fun c hc => (h2 c hc).1, fun c hc => (h2 c hc).2.1, fun c hc => (h2 c hc).2.2.1, fun c hc => (h2 c hc).2.2.2⟩
/-! ### what may be raised -/
section
variable {cs : List Str} {ω β : Type}
abbrev RX (cs : List Str) (m : Res ω) : Prop := ∀ e, m = .ex e → xok cs e
end
/-! ### walks -/
section
variable {X : Cx} {C : XC} {pu : Bool} {ω : Type} {Γ : List SD} {M : Res ω} {k : List SD → Res ω → Prop} {en : ω → EndK} {sts : List Stmt}
/-- what is not walked wants nothing -/
theorem JL.ne (h : M ≠ .un → JL X C Γ sts M k en) : JL X C Γ sts M k en := fun F h0 g H σ D he hf hG hu => h hu F h0 g H σ D he hf hG hu
theorem JE.ne {e : Expr} {k : Opd → List SD → Res ω → Prop} (h : M ≠ .un → JE X C pu Γ e M k) : JE X C pu Γ e M k := fun F h0 g H σ Q he hf hG hu => h hu F h0 g H σ Q he hf hG hu
end
end Tsa

/-! N51: data of any kind: read as a number, as a list or tuple. -/
namespace Tsa
open PySem PySem.Spec PyProof.Rows L2
abbrev eX : PyData → PyData := fun x => x
theorem mapX (l : List PyData) : l.map eX = l := by
  induction l with
  | nil => rfl
  | cons x r ih => rw [List.map_cons, ih]
def xint : PyData → Res Int
  | .int n => .ok n
  | _ => .un
def xseq : PyData → Res (List PyData)
  | .list l => .ok l
  | .tuple l => .ok l
  | _ => .un
def xints : List PyData → Option (List Int)
  | [] => some []
  | .int n :: r => (xints r).map (n :: ·)
  | _ :: _ => none
def xsplit {ω : Type} (d : PyData) (f g : List PyData → Res ω) : Res ω := match d with
  | .list l => f l
  | .tuple l => g l
  | _ => .un
def xsplitI {ω : Type} (d : PyData) (f g : List Int → Res ω) : Res ω := match d with
  | .list l => (match xints l with
    | some ns => f ns
    | none => .un)
  | .tuple l => (match xints l with
    | some ns => g ns
    | none => .un)
  | _ => .un
theorem xints_eq : ∀ {l : List PyData} {ns : List Int}, xints l = some ns → l = ns.map .int
  | [], ns, h => by cases h; rfl
  | d :: r, ns, h => by
    cases d with
    | int n =>
      have h : (xints r).map (n :: ·) = some ns := h
      cases q : xints r with
      | none => rw [q] at h; cases h
      | some ms =>
        rw [q] at h
        cases h
        rw [xints_eq q]; rfl
    | _ => cases h
theorem xints_map : ∀ (ns : List Int), xints (ns.map .int) = some ns
  | [] => rfl
  | n :: r => by
    show (xints (r.map .int)).map (n :: ·) = _
    rw [xints_map r]; rfl
theorem xint_nex {d : PyData} : ∀ e, xint d ≠ .ex e := fun e z => by cases d <;> cases z
theorem xseq_nex {d : PyData} : ∀ e, xseq d ≠ .ex e := fun e z => by cases d <;> cases z
theorem nex_xsplit {ω : Type} {d : PyData} {f g : List PyData → Res ω} (hf : ∀ l e, f l ≠ .ex e) (hg : ∀ l e, g l ≠ .ex e) : ∀ e, xsplit d f g ≠ .ex e := fun e z => by
  cases d with
  | list l => exact hf l e z
  | tuple l => exact hg l e z
  | _ => cases z
theorem nex_xsplitI {ω : Type} {d : PyData} {f g : List Int → Res ω} (hf : ∀ l e, f l ≠ .ex e) (hg : ∀ l e, g l ≠ .ex e) : ∀ e, xsplitI d f g ≠ .ex e := fun e z => by
  cases d with
  | list l =>
    unfold xsplitI at z
    dsimp only at z
    split at z
    · exact hf _ e z
    · cases z
  | tuple l =>
    unfold xsplitI at z
    dsimp only at z
    split at z
    · exact hg _ e z
    · cases z
  | _ => cases z
section
variable {X : Cx} {C : XC} {pu : Bool} {ω : Type} {Γ : List SD} {M : Res ω} {k : Opd → List SD → Res ω → Prop} {e : Expr} {pos pn : Pos}
theorem JE.neK (h : JE X C pu Γ e M fun o Γ1 M1 => M1 ≠ .un → k o Γ1 M1) : JE X C pu Γ e M k := fun F h0 g H σ Q he hf hG hu hx hq =>
  h F h0 g H σ Q he hf hG hu hx fun o Γ1 M1 hk hm => hq o Γ1 M1 (hk (by rw [hm]; exact hu)) hm
theorem JE.lenX (hm : X.mg "len" = none) (h : JE X C pu Γ e M fun o Γ1 M1 => ∃ d kM, o = .own (.val d) ∧ M1 = (xseq d).bind kM ∧ ∀ ds : List PyData, k (.own (.val (.int (ds.length : Nat)))) Γ1 (kM ds)) (hg : Gl X "len" := by rfl) (hs : starEach [e] X.env = (false, eval e X.env) :: starEach [] X.env := by rfl) : JE X C pu Γ (.Call (.Name "len" pn) [e] [] pos) M k :=
  JE.len hm (JE.neK (h.mono fun o Γ1 M1 ⟨d, kM, e1, e2, hk⟩ hu => by
    subst e1 e2
    cases d with
    | list l =>
      have z : LenV Γ1 (.own (.val (.list l))) l.length := by
        have q := soL (e := eX) (xs := l)
        rw [mapX] at q
        exact .seq (.own q) (by rw [List.length_map])
      exact ⟨l.length, z, hk l⟩
    | tuple l =>
      have z : LenV Γ1 (.own (.val (.tuple l))) l.length := by
        have q := soW (e := eX) (xs := l)
        rw [mapX] at q
        exact .seq (.own q) (by rw [List.length_map])
      exact ⟨l.length, z, hk l⟩
    | _ => exact absurd rfl hu)) hg hs
end
section
variable {X : Cx} {C : XC} {ω : Type} {k : List SD → Res ω → Prop} {en : ω → EndK} {sts : List Stmt} {Γf : PyData → List SD} {d : PyData}
theorem JL.xsplit {f g : List PyData → Res ω} (hf : ∀ l : List PyData, JL X C (Γf (.list (l.map eX))) sts (f l) k en) (hg : ∀ l : List PyData, JL X C (Γf (.tuple (l.map eX))) sts (g l) k en) : JL X C (Γf d) sts (xsplit d f g) k en := JL.ne fun hu => by
  cases d with
  | list l => have z := hf l; rw [mapX] at z; exact z
  | tuple l => have z := hg l; rw [mapX] at z; exact z
  | _ => exact absurd rfl hu
theorem JL.xsplitI {f g : List Int → Res ω} (hf : ∀ l : List Int, JL X C (Γf (.list (l.map .int))) sts (f l) k en) (hg : ∀ l : List Int, JL X C (Γf (.tuple (l.map .int))) sts (g l) k en) : JL X C (Γf d) sts (xsplitI d f g) k en := JL.ne fun hu => by
  cases d with
  | list l =>
    cases q : xints l with
    | none =>
      refine absurd ?_ hu
      show (match xints l with | some ns => f ns | none => .un) = _
      rw [q]
    | some ns =>
      have z : Tsa.xsplitI (.list l) f g = f ns := by
        show (match xints l with | some ns => f ns | none => .un) = _
        rw [q]
      rw [z, xints_eq q]
      exact hf ns
  | tuple l =>
    cases q : xints l with
    | none =>
      refine absurd ?_ hu
      show (match xints l with | some ns => g ns | none => .un) = _
      rw [q]
    | some ns =>
      have z : Tsa.xsplitI (.tuple l) f g = g ns := by
        show (match xints l with | some ns => g ns | none => .un) = _
        rw [q]
      rw [z, xints_eq q]
      exact hg ns
  | _ => exact absurd rfl hu
end
end Tsa

/-! N52: tuples joined, dict of pairs, own lists read as lists of anything, what is dropped. -/
namespace Tsa
open PySem PySem.Spec PyProof.Rows L2
theorem Fz.dct0 : Fz (.dct []) (.dict []) := Fz.dct (m := ([] : List Unit)) (kk := fun _ => .inl 0) (f := fun _ => .val .none) (g := fun _ => .none) fun _ => .val
section
variable {X : Cx} {C : XC} {pu : Bool} {ω : Type} {Γ : List SD} {M : Res ω} {k : Opd → List SD → Res ω → Prop} {e a b : Expr} {pos pn : Pos}
/-- the same thing, told otherwise -/
theorem JE.same (h : JE X C pu Γ e M fun o Γ1 M1 => ∃ o', o = o' ∧ k o' Γ1 M1) : JE X C pu Γ e M k := h.mono fun o Γ1 M1 ⟨o', e1, hk⟩ => by rw [e1]; exact hk
theorem lstX {α : Type} {f : α → PyData} {xs : List α} : SD.lst (xs.map fun x => .val (f x)) = .lst ((xs.map f).map fun x => .val (eX x)) := by
  rw [List.map_map]; rfl
end
end Tsa

/-! N53: repr of data of any kind. -/
namespace Tsa
open PySem PySem.Spec PyProof.Rows L2
section
variable {X : Cx} {pins : List (Addr × Obj)} {σ : L2.St} {H : Hp} {s : Shared}
theorem SqL.notMod {a : Addr} {xs : List V} (nm : NoMod X.K) (I : Inv X pins σ H s) (h : SqL X.K H a xs) : sysModules ≠ a := by
  intro e
  subst e
  obtain ⟨o, ho, hc'⟩ := nm
  rcases h with h | ⟨o2, its, n, hk, hc, _⟩
  · have q := (I.bs sysModules o (I.mod.kin _ _ ho)).2
    rcases h with h | ⟨_, h⟩ <;> (rw [q] at h; cases h)
  · rw [ho] at hk
    cases hk
    exact hc' hc
theorem keysRead {P : Program} {w : World} {h : Heap} : ∀ {es : List DictEntry} {vs : List (Key × Value)}, Pairs (mixKind P w) es vs → ReadsAll h (es.map (·.key)) (vs.map fun q => kD q.1) []
  | _, _, .nil => .nil
  | _, _, .cons (e := e) (kv := kv) hk hv hp => by
    have r : Reads h e.key (kD kv.1) [] := by
      rcases keyIs_shape (show keyIs kv.1 e.key = true from hk) with ⟨i, t, e1, e2⟩ | ⟨x, t, e1, e2⟩
      · rw [e1, e2]; exact .int i t
      · rw [e1, e2]; exact .str x t
    exact ReadsAll.cons r (keysRead hp)
theorem pairsVals {P : Program} {w : World} : ∀ {es : List DictEntry} {vs : List (Key × Value)}, Pairs (mixKind P w) es vs → es.map (·.val) = vs.map (·.2)
  | _, _, .nil => rfl
  | _, _, .cons hk hv hp => by rw [List.map_cons, List.map_cons, hv, pairsVals hp]
theorem kv_keys : ∀ {kvs : List (Key × V)} {vs : List (Key × Value)}, KV kvs vs → (vs.map fun q => kD q.1) = kvs.map fun q => kD q.1
  | _, _, .nil => rfl
  | _, _, .cons r h => by rw [List.map_cons, List.map_cons, r.1, kv_keys h]
theorem kv_vals : ∀ {kvs : List (Key × V)} {vs : List (Key × Value)}, KV kvs vs → Vals (kvs.map (·.2)) (vs.map (·.2))
  | _, _, .nil => .nil
  | _, _, .cons r h => .cons r.2 (kv_vals h)
mutual
theorem Dt.readsN (nm : NoMod X.K) (I : Inv X pins σ H s) : ∀ {d : PyData} {v : V}, Dt X.K H v d → ∀ {u : Value}, RelV v u → ∃ as, Reads s.heap u d as ∧ sysModules ∉ as
  | _, _, .non, _, r => by
    cases r
    exact ⟨_, Reads.none, List.not_mem_nil⟩
  | _, _, .bl b, _, r => by
    cases r
    exact ⟨_, Reads.bool b, List.not_mem_nil⟩
  | _, _, .int i, _, r => by
    obtain ⟨t, rfl⟩ := r
    exact ⟨_, Reads.int i t, List.not_mem_nil⟩
  | _, _, .str x, _, r => by
    obtain ⟨t, rfl⟩ := r
    exact ⟨_, Reads.str x t, List.not_mem_nil⟩
  | _, _, .lst hs ha, _, r => by
    cases r
    obtain ⟨its, rv, ⟨o, n, ho, hc, _, hd⟩, _⟩ := I.list hs
    obtain ⟨as, hr, hn⟩ := DtL.readsN nm I ha rv
    refine ⟨_, Reads.list ho hc hd hr, fun z => ?_⟩
    rcases List.mem_cons.mp z with z | z
    · exact SqL.notMod nm I hs z
    · exact hn z
  | _, _, .tup hs ha, _, r => by
    cases r
    obtain ⟨its, rv, ⟨o, ho, hc, n, hd⟩, _⟩ := I.tuple hs
    obtain ⟨as, hr, hn⟩ := DtL.readsN nm I ha rv
    exact ⟨_, Reads.tuple ho hc hd hr, hn⟩
  | _, _, .dct (kvs := kvs) (ds := ds) h1 h2, _, r => by
    cases r
    obtain ⟨z, hd, vs, rel, dd⟩ := dk_rd I.hok h1
    obtain ⟨as, hr, hn⟩ := DtL.readsN nm I h2 (kv_vals rel)
    obtain ⟨o, es, ep, ho, hx, hdat, hk, hp, _⟩ := dd
    have l := DtL.len h2
    rw [List.length_map] at l
    have e1 : (((kvs.map fun q => kD q.1).zip ds).map (·.1)) = vs.map fun q => kD q.1 := by
      rw [kv_keys rel, List.map_fst_zip (by rw [List.length_map]; omega)]
    have e2 : (((kvs.map fun q => kD q.1).zip ds).map (·.2)) = ds := List.map_snd_zip (by rw [List.length_map]; omega)
    refine ⟨_, Reads.dict ho hx.1 hdat (by rw [e1]; exact keysRead hp) (by rw [e2, pairsVals hp]; exact hr), fun z => ?_⟩
    rcases List.mem_cons.mp z with z | z
    · rw [← z] at hd
      cases hd
    · exact hn (by simpa using z)
theorem DtL.readsN (nm : NoMod X.K) (I : Inv X pins σ H s) : ∀ {vs : List V} {ds : List PyData}, DtL X.K H vs ds → ∀ {us : List Value}, Vals vs us → ∃ as, ReadsAll s.heap us ds as ∧ sysModules ∉ as
  | _, _, .nil, _, r => by
    cases r
    exact ⟨_, ReadsAll.nil, List.not_mem_nil⟩
  | _, _, .cons h1 h2, _, r => by
    cases r with
    | cons r1 r2 =>
      obtain ⟨as, q1, n1⟩ := Dt.readsN nm I h1 r1
      obtain ⟨bs, q2, n2⟩ := DtL.readsN nm I h2 r2
      exact ⟨_, ReadsAll.cons q1 q2, fun z => (List.mem_append.mp z).elim n1 n2⟩
end
end
/-- what may be shown, of any kind -/
def showX (d : PyData) : Bool := d.showable && decide (d.depth ≤ 40) && decide (d.shown.length ≤ sizeLine)
section
variable {X : Cx}
theorem call_reprX (nm : NoMod X.K) (hg : X.A.guards = some []) (hu : X.A.units + 100 < cLine) : CallR X (.builtin "repr") (fun xs H Q => ∃ x d, xs = [x] ∧ Dt X.K H x d ∧ showX d = true ∧ Q (.str d.shown) H) := by
  intro pins s σ H xs us Q I r h
  obtain ⟨x, d, rfl, hd, hs, hq⟩ := h
  obtain ⟨u, rfl, ru⟩ := r.one
  obtain ⟨as, rd, hn⟩ := Dt.readsN nm I hd ru
  simp only [showX, Bool.and_eq_true, decide_eq_true_eq] at hs
  obtain ⟨⟨s2, s1⟩, s3⟩ := hs
  have ref : ∀ {q : Addr} {as : List Addr} {d : PyData}, Reads s.heap (.ref q) d as → sysModules ∉ as → d.showable = true → d.depth ≤ 40 → d.shown.length ≤ sizeLine → Q (.str d.shown) H → wpAny (model X.prog X.w) X.A (call (.builtin "repr") [.ref q]) (EP X pins σ Q) X.xe s := fun {q as d} rd hn s2 s1 s3 hq =>
    repr_of_reads' rd s2 (fun _ => hn) hg (by omega) (fun _ _ z => z) (fun h' u tk hk => ⟨.str d.shown, H, I.kept hk, ⟨u, rfl⟩, hq⟩) s3
  cases hd with
  | non =>
    cases ru
    exact PySem.P.repr_of_none ⟨.str "None", H, I.tok _, ⟨_, rfl⟩, hq⟩
  | bl b =>
    cases ru
    exact PySem.P.repr_of_bool ⟨.str (if b then "True" else "False"), H, I.tok _, ⟨_, rfl⟩, hq⟩
  | int i =>
    obtain ⟨t, rfl⟩ := ru
    exact PySem.P.repr_of_int (of_decide_eq_true s2) ⟨.str (toString i), H, I.tok _, ⟨_, rfl⟩, hq⟩
  | str z =>
    obtain ⟨t, rfl⟩ := ru
    exact PySem.P.repr_of_str ⟨.str (reprText z), H, I.tok _, ⟨_, rfl⟩, hq⟩ s3
  | lst _ _ =>
    cases ru
    exact ref rd hn s2 s1 s3 hq
  | tup _ _ =>
    cases ru
    exact ref rd hn s2 s1 s3 hq
  | dct _ _ =>
    cases ru
    exact ref rd hn s2 s1 s3 hq
end
section
variable {X : Cx} {C : XC} {pu : Bool} {ω : Type} {Γ : List SD} {M : Res ω} {k : Opd → List SD → Res ω → Prop} {e : Expr} {pos pn : Pos}
theorem JE.reprX {j : Nat} (nm : NoMod X.K) (hr : RoomG j X.A) (hm : X.mg "repr" = none) (h : JE X C pu Γ e M fun o Γ1 M1 => ∃ d M2, SeeO Γ1 o d ∧ (M1 ≠ .un → M1 = M2 ∧ showX d = true) ∧ k (.own (.val (.str d.shown))) Γ1 M2) (hg : Gl X "repr" := by rfl) (hs : starEach [e] X.env = (false, eval e X.env) :: starEach [] X.env := by rfl) : JE X C pu Γ (.Call (.Name "repr" pn) [e] [] pos) M k :=
  JE.bi (call_reprX nm hr.gd hr.lines) hm (JA.one (h.mono fun o Γ1 M1 ⟨d, M2, se, hM, hk⟩ vs F h1 h2 g H σ Q ow he dd hf hG sz hu hq => by
    obtain ⟨eM, c⟩ := hM hu
    subst eM
    obtain ⟨v, ha, e1, s1, w⟩ := ow.one
    exact ⟨v, d, e1, se.ok w s1 he dd hf hG, c, hq.scal hk he dd hf (.str _)⟩) hs) rfl hg (hs := hs)
end
end Tsa

/-! N54: zip of two lists where an exception is handled. -/
namespace HotX
open PySem PySem.Spec PyProof.Rows
section
variable {prog : Program} {w : World} {A : Around} {E : Value → Shared → Prop} {s : Shared}
end
end HotX
namespace L2
open PySem PySem.Spec PyProof.Rows
end L2
namespace Tsa
open PySem PySem.Spec PyProof.Rows L2
section
variable {X : Cx} {C : XC} {pu : Bool} {ω α β : Type} {Γ : List SD} {a b tg iter elt : Expr} {M : Res ω} {pos p pn : Pos} {k : Opd → List SD → Res ω → Prop}
end
end Tsa

/-! N55: where an exception is handled: comprehensions whose inside knows of it (tuples taken apart there). -/
namespace L2
open PySem PySem.Spec PyProof.Rows
section
variable {X : Cx}
end
end L2
namespace HotX
open PySem PySem.Spec PyProof.Rows
section
variable {prog : Program} {w : World} {A : Around} {E : Value → Shared → Prop} {s : Shared}
end
end HotX
namespace L2
open PySem PySem.Spec PyProof.Rows
end L2
namespace Tsa
open PySem PySem.Spec PyProof.Rows L2
section
variable {K : PySem.W.Frag} {X : Cx} {C : XC} {pu : Bool} {ω : Type} {Γ : List SD} {e a b c tg iter elt : Expr} {M : Res ω} {pos : Pos} {k : Opd → List SD → Res ω → Prop} {ws : Nat → Prop}
abbrev BlkH (X : Cx) (scope : Scope) (P : Cx → Prop) : Prop := ∀ (s : Shared) (H : Hp) (Ca : Addr) (cl : List (Str × Addr)) (fp : List Addr) (q : Addr × Obj), L2H.Hot1 X.A q → P ((X.blk s H scope (compEnvC scope cl Ca X.env) fp).tr [q] (fun _ _ => False))
def TurnOkH (X : Cx) (scope : Scope) (C : XC) (pu : Bool) {β τ : Type} (vs : List Nat) (Γi : τ → List SD) (Γ : List SD) (ifs : List Expr) (elt : Expr) (t : τ) (m : Res (Option β × τ)) (k : Opd → List SD → Res (Option β × τ) → Prop) : Prop :=
  match ifs with
  | [] => BlkH X scope fun X' => JE X' (noE C) pu Γ elt m k
  | [c] => ∃ (m1 : Res (Bool × τ)) (mt : τ → Res (Option β × τ)) (Γb : τ → List SD), m = m1.bind (fun r => cond r.1 (mt r.2) (.ok (none, r.2))) ∧ (∀ t', Le (wipeG (Γb t') vs) (wipeG (Γi t') vs)) ∧ (BlkH X scope fun X' => JC X' (noE C) pu Γ c m1 fun b Γ' M' => ∃ t', M' = .ok (b, t') ∧ Γ' = Γb t') ∧ ∀ t', BlkH X scope fun X' => JE X' (noE C) pu (Γb t') elt (mt t') k
  | _ => False
def semIfsH (X : Cx) (scope : Scope) : List Expr → TT
  | [c] => fun σ H Q => BlkH X scope fun X' => semT X' c σ H Q
  | _ => tYes
abbrev lcTT (wi : TI) (X : Cx) (scope : Scope) (own' : List (Str × Nat)) (tg : Expr) (ifs : List Expr) (elt : Expr) : TE := tLc wi (fun v σ H Q => BlkH X scope fun X' => semG X' tg v σ H Q) (semIfsH X scope ifs) (fun σ H Q => BlkH X scope fun X' => semE X' elt σ H Q) (own'.map (·.2))
end
end Tsa

/-! N56: exceptions of classes with an own __init__: what it keeps, raise. -/
namespace Tsa
open PySem PySem.Spec PyProof.Rows L2
/-! ### the classes -/
def oexB (K : PySem.W.Frag) (x : Str) : Bool :=
  (match K.lookup (He.ga K x) with
  | some ⟨.type "type", _, .cls cd, sl⟩ => (match cd.mro, sl.toList with
    | .ref C' :: bm, [_, _, _, _, some (.builtin n), _] => C' == He.ga K x && (n == "ValueError.__new__" && (!cd.hasDel && (cd.hasDict && PySem.HandSPX.refsVE bm)))
    | _, _ => false)
  | _ => false) &&
  (He.eqO (PySem.W.findIn K (.ref (He.ga K x)) "__setattr__") (some (some (.builtin "object.__setattr__"))) &&
  (decide (PySem.W.subIn K (.ref (He.ga K x)) (.type "BaseException") = some true) &&
  (decide (PySem.W.typeIn K (.ref (He.ga K x)) = some (.type "type")) &&
  (PySem.W.keepIn K (.ref (He.ga K x)) &&
  (He.eqO (PySem.W.findIn K (.ref (He.ga K x)) "__init__") (some (some (.ref (He.ma K (He.ga K x) "__init__")))) &&
  decide (PySem.W.typeIn K (.ref (He.ma K (He.ga K x) "__init__")) = some (.type "function")))))))
structure OexK (K : PySem.W.Frag) (x : Str) : Prop where
  o : OexC K (He.ga K x)
  ini : PySem.W.findIn K (.ref (He.ga K x)) "__init__" = some (some (.ref (He.ma K (He.ga K x) "__init__")))
  fn : PySem.W.typeIn K (.ref (He.ma K (He.ga K x) "__init__")) = some (.type "function")
/-- the class they stand under -/
structure BaseK (K : PySem.W.Frag) (D : Addr) : Prop where
  rd : PySem.W.readsIn K D (.type "type") = true
  ga : PySem.W.specialIn K (.ref D) "__getattribute__" = some (some (.builtin "type.__getattribute__"))
  at_ : PySem.W.findCls K (.ref D) (.type "type") "__init__" = some (.val (.builtin "ValueError.__init__"))
def baseB (K : PySem.W.Frag) (D : Addr) : Bool :=
  PySem.W.readsIn K D (.type "type") && (He.eqO (PySem.W.specialIn K (.ref D) "__getattribute__") (some (some (.builtin "type.__getattribute__"))) &&
  (match PySem.W.findCls K (.ref D) (.type "type") "__init__" with
  | some (.val (.builtin n)) => n == "ValueError.__init__"
  | _ => false))
section
variable {X : Cx} {e : Expr} {es : List Expr} {ta : TA} {p1 p2 pos : Pos}
end
section
variable {X : Cx} {C : XC} {pu : Bool} {ω : Type} {Γ : List SD} {M : Res ω} {k : Opd → List SD → Res ω → Prop} {kl : List SD → Res ω → Prop} {en : ω → EndK} {pos p1 p2 p3 p4 : Pos} {e : Expr}
/-- an exception of the class at C that is being made -/
abbrev exN (C : Addr) : SD := .raw fun e => L2.exo e C none
end
end Tsa

/-! N57: raise C(e), C with an own __init__. -/
namespace Tsa
open PySem PySem.Spec PyProof.Rows L2
section
variable {X : Cx}
/-- C(e, ..), its own __init__ keeping sp -/
abbrev tMkG (C : Addr) (sp : Sp) (ta : TA) : L2.St → Hp → XK → Prop := fun σ H Q => ta σ H fun vs H1 => vs.length ≤ 1000 ∧ ∀ a, H1 a = none → sp (.ref a :: vs) (upd H1 a (L2.exo a C none))
  (fun v H2 => v = .non ∧ ∃ (d : Addr) (fs : List (Str × V)), H2 a = some (L2.exo a C (some d)) ∧ H2 d = some (exd d fs) ∧ Q (.ref C) (some d) (upd (del H2 a) d (.xd fs))) (fun _ _ _ => False)
variable {x : Str} {e : Expr} {es : List Expr} {ta : TA} {p pos : Pos} {C fI : Addr} {k : Nat} {fd : FuncData} {ps : List Str} {sp : Sp}
end
/-- a class of exceptions that keeps one thing, made of one thing -/
def HasI (X : Cx) {ι ω : Type} (cn : Str) (lv : Nat) (dat : ι → SD) (mir : ι → Res ω) (fl : ι → ω → List (Str × SD)) : Prop :=
  X.mg cn = some (.ref (He.ga X.K cn)) ∧ OexK X.K cn ∧ (∃ (fd : FuncData) (ps : List Str), FnG X.prog X.w X.K X.mg X.base lv (He.ma X.K (He.ga X.K cn) "__init__") fd ps (SpM X.K (fun i => [exN (He.ga X.K cn), dat i]) mir (fun _ _ => .val .none) (fun i r => [.exo (He.ga X.K cn) (fl i r), .hole]) (fun _ => [.hole, .hole])) ∧ Binds X.K fd ps []) ∧
    (∀ i r, NRF (fl i r)) ∧ ∀ i e, mir i ≠ .ex e
section
variable {X : Cx} {C : XC} {ω ω' ι : Type} {Γ : List SD} {M : Res ω} {k : List SD → Res ω → Prop} {en : ω → EndK} {e : Expr} {cn : Str} {lv : Nat} {dat : ι → SD} {mir : ι → Res ω'} {fl : ι → ω' → List (Str × SD)} {p p3 pos : Pos}
end
end Tsa

/-! N58: what the caught one keeps. -/
namespace Tsa
open PySem PySem.Spec PyProof.Rows L2
/-- the tests of the module, with classes that keep something -/
def xfB2 (cs ns os : List Str) (K : PySem.W.Frag) : Bool := xfB cs ns K && (os.all (fun c => oexB K c) && baseB K (He.ga K "TreeError"))
/-! ### what a field holds, read back -/
def decI : SD → Option Int
  | .val (.int i) => some i
  | _ => none
def decL {α : Type} (dec : SD → Option α) : List SD → Option (List α)
  | [] => some []
  | s :: r => match dec s, decL dec r with
    | some x, some xs => some (x :: xs)
    | _, _ => none
def decLI : SD → Option (List Int)
  | .lst l => decL decI l
  | _ => none
def decLLI : SD → Option (List (List Int))
  | .lst l => decL decLI l
  | _ => none
def optU {α : Type} : Option α → Res α
  | some x => .ok x
  | none => .un
def fldS (f : Str) : List (Str × SD) → Option SD
  | [(g, s)] => if g = f then some s else none
  | _ => none
/-- the field f of an exception of class c -/
def fldR {α : Type} (dec : SD → Option α) (c : Str) (e : Exn) (f : Str) : Res α := if e.cls = c then optU ((fldS f e.flds).bind dec) else .un
section
variable {X : Cx} {C : XC} {pu : Bool} {ω : Type} {Γ : List SD} {M : Res ω} {k : Opd → List SD → Res ω → Prop} {pos p : Pos}
end
end Tsa

/-! N59: raise C(e), C() of plain classes; a part of an own tuple that is a value. -/
namespace Tsa
open PySem PySem.Spec PyProof.Rows L2
section
variable {X : Cx} {C : XC} {pu : Bool} {ω : Type} {Γ : List SD} {M : Res ω} {k : Opd → List SD → Res ω → Prop} {kl : List SD → Res ω → Prop} {en : ω → EndK} {e : Expr} {pos p p3 : Pos} {cn : Str}
end
end Tsa

/-! N60: x.f[i] op= e, whole numbers. -/
namespace Tsa
open PySem PySem.Spec PyProof.Rows L2
def augR (xs : List Int) (i : Int) (g : Int → Int → Int) (y : Int) : Res (List Int) := match ixN xs.length i with
  | some n => (match xs[n]? with
    | some a => .ok (xs.set n (g a y))
    | none => .un)
  | none => .un
section
variable {X : Cx} {C : XC} {ω : Type} {Γ : List SD} {e ie : Expr} {M : Res ω} {pos tpos p p2 : Pos} {f : Str} {kl : List SD → Res ω → Prop} {en : ω → EndK}
end
end Tsa

/-! N61: sorted(d) of a dict whose keys are whole numbers. -/
namespace Tsa
open PySem PySem.Spec PyProof.Rows L2
/-- sorted(d), d's keys whole numbers -/
def rSortDK : List V → Hp → VK → Prop := fun vs H Q => ∃ (a : Addr) (kvs : List (Key × V)) (ns : List Int), vs = [V.ref a] ∧ Rd H a (.dK kvs) ∧ kvs.map (·.1) = ns.map Sum.inl ∧
  ∀ (ns' : List Int) (p : Addr), ns'.Perm ns → ns'.Pairwise (· ≤ ·) → H p = none → Q (.ref p) (upd H p (.lst (ns'.map V.int)))
section
variable {K : PySem.W.Frag} {X : Cx} {C : XC} {pu : Bool} {ω β : Type} {e : β → PyData} {Γ : List SD} {a : Expr} {M : Res ω} {pos pn : Pos} {k : Opd → List SD → Res ω → Prop}
end
end Tsa

/-! N62: zip of two or three lists and tuples, mixed. -/
namespace Tsa
open PySem PySem.Spec PyProof.Rows L2
def ItA (t : Bool) (h : Heap) (it a : Addr) (i : Nat) : Prop := if t then h.IsTupleIter it a i else h.IsListIter it a i
def SqA (t : Bool) (h : Heap) (a : Addr) (its : Array Value) : Prop := if t then h.IsTuple a its else h.IsList a its
def Sq2 (t : Bool) (K : PySem.W.Frag) (H : Hp) (a : Addr) (xs : List V) : Prop := if t then SqT K H a xs else SqL K H a xs
def itO (t : Bool) (a : Addr) : Obj := if t then { cls := .type "tuple_iterator", data := .fields #[.ref a, .int 0 0] } else { cls := .type "list_iterator", data := .fields #[.ref a, .int 0 0] }
theorem ItA.ob {t : Bool} {h : Heap} {it a : Addr} {i : Nat} (q : ItA t h it a i) : ∃ o, h.get? it = some o ∧ ∀ v, o.data ≠ .cell v := by
  cases t with
  | true => obtain ⟨o, e, _, d⟩ := (show h.IsTupleIter it a i from q); exact ⟨o, e, fun v z => by rw [d] at z; cases z⟩
  | false => obtain ⟨o, e, _, d⟩ := (show h.IsListIter it a i from q); exact ⟨o, e, fun v z => by rw [d] at z; cases z⟩
theorem ItA.at {t : Bool} {h h' : Heap} {it a : Addr} {i : Nat} (q : ItA t h it a i) (k : ∀ o, h.get? it = some o → h'.get? it = some o) : ItA t h' it a i := by
  cases t with
  | true => exact Heap.IsTupleIter.at (show h.IsTupleIter it a i from q) k
  | false => exact Heap.IsListIter.at (show h.IsListIter it a i from q) k
theorem SqA.at {t : Bool} {h h' : Heap} {a : Addr} {its : Array Value} (q : SqA t h a its) (k : ∀ o, h.get? a = some o → h'.get? a = some o) : SqA t h' a its := by
  cases t with
  | true => exact Heap.IsTuple.at (show h.IsTuple a its from q) k
  | false => exact Heap.IsList.at (show h.IsList a its from q) k
theorem Sq2.inv {t : Bool} {X : Cx} {pins : List (Addr × Obj)} {σ : L2.St} {H : Hp} {s : Shared} {a : Addr} {xs : List V} (I : Inv X pins σ H s) (q : Sq2 t X.K H a xs) : ∃ its : List Value, Vals xs its ∧ SqA t s.heap a its.toArray := by
  cases t with
  | true => obtain ⟨its, r, p, _⟩ := I.tuple (show SqT X.K H a xs from q); exact ⟨its, r, p⟩
  | false => obtain ⟨its, r, p, _⟩ := I.list (show SqL X.K H a xs from q); exact ⟨its, r, p.isList⟩
theorem SqA.lt {t : Bool} {h : Heap} {a : Addr} {its : Array Value} (q : SqA t h a its) : a < h.objs.size := by
  cases t with
  | true => obtain ⟨o, e, _⟩ := (show h.IsTuple a its from q); exact Heap.lt_size e
  | false => obtain ⟨o, e, _⟩ := (show h.IsList a its from q); exact Heap.lt_size e
theorem itO_at {t : Bool} {h : Heap} {it a : Addr} (e : h.get? it = some (itO t a)) : ItA t h it a 0 := by
  cases t with
  | true => exact ⟨_, e, rfl, rfl⟩
  | false => exact ⟨_, e, rfl, rfl⟩
theorem begA {t : Bool} {a : Addr} {its : Array Value} : Begins (.ref a) (itO t a) fun h => SqA t h a its := by
  cases t with
  | true => exact begins_tuple a its
  | false => exact begins_list a its
/-- drawn from the c-th item on -/
theorem drawsA (t : Bool) {prog : Program} {w : World} {A : Around} (hh : A.handled = none) (it l : Addr) (hne : l ≠ it) (its : Array Value) (c : Nat) :
    Draws prog w A it [it, l] (its.size - c) (fun i v => its[c + i]? = some v) (fun i h => ItA t h it l (c + i) ∧ SqA t h l its) where
  live := fun _ _ st => let ⟨o, ho, _⟩ := st.1.ob; ⟨o, ho⟩
  frame := fun _ _ _ st hk => ⟨st.1.at fun o e => hk it (by simp) o e, st.2.at fun o e => hk l (by simp) o e⟩
  item := fun i s Q E hi st hQ => by
    have hi' : c + i < its.size := by omega
    cases t with
    | true => exact wpAny_nextOf_tuple_item (show s.heap.IsTupleIter it l (c + i) from st.1) (show s.heap.IsTuple l its from st.2) (x := its[c + i]) (by simp [hi']) fun h' hit' hs' => hQ _ h' s.toks (by simp [hi']) ⟨hit', SqA.at (t := true) st.2 fun o e => hs'.extBut _ _ hne e⟩ hs'
    | false => exact wpAny_nextOf_list_item (show s.heap.IsListIter it l (c + i) from st.1) (show s.heap.IsList l its from st.2) (x := its[c + i]) (by simp [hi']) fun h' hit' hs' => hQ _ h' s.toks (by simp [hi']) ⟨hit', SqA.at (t := false) st.2 fun o e => hs'.extBut _ _ hne e⟩ hs'
  done := fun s Q E st hE => by
    have hn : its[c + (its.size - c)]? = none := by
      rw [Array.getElem?_eq_none_iff]; omega
    cases t with
    | true => exact wpAny_nextOf_tuple_end hh (show s.heap.IsTupleIter it l _ from st.1) (show s.heap.IsTuple l its from st.2) hn hE
    | false => exact wpAny_nextOf_list_end hh (show s.heap.IsListIter it l _ from st.1) (show s.heap.IsList l its from st.2) hn hE
/-- the items of two things as they stand at each turn, in new pairs -/
def Itz2 (t1 t2 : Bool) (K : PySem.W.Frag) (a b : Addr) : It :=
  ⟨fun i H => ∃ (xs ys : List V) (x y : V), Sq2 t1 K H a xs ∧ Sq2 t2 K H b ys ∧ xs[i]? = some x ∧ ys[i]? = some y,
    fun i H v H' => ∃ T x y, v = .ref T ∧ H T = none ∧ H' = upd H T (.tup [x, y]) ∧ (∀ xs, Sq2 t1 K H a xs → xs[i]? = some x) ∧ ∀ ys, Sq2 t2 K H b ys → ys[i]? = some y,
    fun i H => ∃ xs ys : List V, Sq2 t1 K H a xs ∧ Sq2 t2 K H b ys ∧ (xs.length ≤ i ∨ ys.length ≤ i)⟩
theorem Sq2.inj {t : Bool} {X : Cx} {pins : List (Addr × Obj)} {σ : L2.St} {H : Hp} {s : Shared} {a : Addr} {xs ys : List V} (I : Inv X pins σ H s) (q : Sq2 t X.K H a xs) (r : Sq2 t X.K H a ys) : xs = ys := by
  cases t with
  | true => exact I.tuple_inj q r
  | false => exact I.list_inj q r
theorem turn_zip2 {t1 t2 : Bool} {P : Program} {w : World} {K : PySem.W.Frag} {elts : List Expr} {kk : Nat} {tpos : Pos} {a b z TI TO i1 i2 : Addr} (S : ZipSep2 z TI TO i1 i2 [i1, a] [i2, b]) (n1 : a ≠ i1) (n2 : b ≠ i2) :
    Turn P w K (.Tuple elts kk tpos) (Itz2 t1 t2 K a b) [z, TI, TO, i1, i2] z (fun i h => IsZip h z TI TO .none ∧ IsTupOf2 h TI (.ref i1) (.ref i2) ∧ (∃ x y, IsTupOf2 h TO x y) ∧ ItA t1 h i1 a i ∧ ItA t2 h i2 b i) where
  mem := by simp
  obj := fun i h st c hc => by
    obtain ⟨hz, hTI, ⟨x, y, hTO⟩, h1, h2⟩ := st
    have e' : c = z ∨ c = TI ∨ c = TO ∨ c = i1 ∨ c = i2 := by simpa using hc
    rcases e' with q | q | q | q | q
    · rw [q]; exact ⟨_, hz, fun v q => nomatch q⟩
    · rw [q]; exact ⟨_, hTI, fun v q => nomatch q⟩
    · rw [q]; exact ⟨_, hTO, fun v q => nomatch q⟩
    · rw [q]; exact h1.ob
    · rw [q]; exact h2.ob
  keep := fun i h h' st k => by
    obtain ⟨hz, hTI, ⟨x, y, hTO⟩, h1, h2⟩ := st
    exact ⟨k z (by simp) _ hz, k TI (by simp) _ hTI, ⟨x, y, k TO (by simp) _ hTO⟩, h1.at fun o q => k i1 (by simp) o q, h2.at fun o q => k i2 (by simp) o q⟩
  item := by
    intro X hP hw hK hc i pins s σ H E I hf st hg
    subst hP hw hK
    obtain ⟨hz, hTI, hTO, h1, h2⟩ := st
    obtain ⟨xs, ys, x, y, hqx, hqy, hx, hy⟩ := hg
    obtain ⟨its, rv, p⟩ := hqx.inv I
    obtain ⟨its2, rv2, p2⟩ := hqy.inv I
    obtain ⟨u, hu, ru⟩ := rv.get hx
    obtain ⟨u2, hu2, ru2⟩ := rv2.get hy
    have l1 : i < its.length := (List.getElem?_eq_some_iff.mp hu).1
    have l2 : i < its2.length := (List.getElem?_eq_some_iff.mp hu2).1
    have hh : X.A.in1.handled = none := I.ok.hd hc
    have W := WalksT.zipD2 (prog := X.prog) (w := X.w) (A := X.A) S (drawsA t1 hh i1 a n1 its.toArray i) (drawsA t2 hh i2 b n2 its2.toArray i)
    refine W.item 0 s _ _ (by simp; omega) ⟨hz, hTI, hTO, ⟨h1, p⟩, ⟨h2, p2⟩⟩ fun T vals h' tk hPt hT hTup hMid hk => ?_
    obtain ⟨y1, y2, q1, q2, ev⟩ := hPt
    subst ev
    have q1' : y1 = u := by simpa [hu] using q1.symm
    have q2' : y2 = u2 := by simpa [hu2] using q2.symm
    subst q1' q2'
    refine ⟨_, rfl, W.go elts kk tpos 0 T _ _ _ hMid fun h'' hSt hk2 => ?_⟩
    have hap := W.apart _ _ _ hMid
    have hT2 : h''.IsTuple T #[y1, y2] := hTup.at fun o e => hk2 _ _ hap e
    have new : ObjOk X.prog X.w (upd H T (.tup [x, y])) h'' T (.tup [x, y]) := ⟨by show 2 ≤ sizeLine; decide, [y1, y2], .cons ru (.cons ru2 .nil), hT2⟩
    have I1 : Inv X pins σ (upd H T (.tup [x, y])) { s with heap := h'', toks := tk } :=
      I.turnedNew (t' := tk) (ch := [z, TI, TO, i1, i2]) (fun c o hb q => by
        have hb' : c ∉ [z, TO, i1, i2] := fun m => hb (by simp at m ⊢; rcases m with m | m | m | m <;> simp [m])
        exact hk2 c o hb' (hk c o hb' q)) hf hT new
    refine ⟨.ref T, _, I1, rfl, ⟨_, x, y, rfl, I.hok.fresh hT, rfl, fun l hl => by rw [hl.inj I hqx]; exact hx, fun l hl => by rw [hl.inj I hqy]; exact hy⟩, ⟨hSt.1, hSt.2.1, hSt.2.2.1, hSt.2.2.2.1.1, hSt.2.2.2.2.1⟩, fun c hcm => ?_⟩
    have hlt : c < s.heap.objs.size := by
      have e' : c = z ∨ c = TI ∨ c = TO ∨ c = i1 ∨ c = i2 := by simpa using hcm
      obtain ⟨_, _, hTO⟩ := hTO
      rcases e' with q | q | q | q | q
      · rw [q]; exact Heap.lt_size hz
      · rw [q]; exact Heap.lt_size hTI
      · rw [q]; exact Heap.lt_size hTO
      · rw [q]; obtain ⟨_, e1, _⟩ := h1.ob; exact Heap.lt_size e1
      · rw [q]; obtain ⟨_, e2, _⟩ := h2.ob; exact Heap.lt_size e2
    rw [upd_ne (Nat.ne_of_lt (Nat.lt_of_lt_of_le hlt hT))]
    exact (hf c hcm).1
  done := by
    intro X hP hw hK hc i pins s σ H E I hf st hg
    subst hP hw hK
    obtain ⟨hz, hTI, hTO, h1, h2⟩ := st
    obtain ⟨xs, ys, hqx, hqy, hend⟩ := hg
    obtain ⟨its, rv, p⟩ := hqx.inv I
    obtain ⟨its2, rv2, p2⟩ := hqy.inv I
    have l1 := rv.length
    have l2 := rv2.length
    have hh : X.A.in1.handled = none := I.ok.hd hc
    have W := WalksT.zipD2 (prog := X.prog) (w := X.w) (A := X.A) S (drawsA t1 hh i1 a n1 its.toArray i) (drawsA t2 hh i2 b n2 its2.toArray i)
    have e0 : min (its.toArray.size - i) (its2.toArray.size - i) = 0 := by simp; omega
    refine W.done s _ _ (by rw [e0]; exact ⟨hz, hTI, hTO, ⟨h1, p⟩, ⟨h2, p2⟩⟩) fun h' tk hk => ⟨rfl, ?_⟩
    exact I.turnedL (t' := tk) (ch := [z, TI, TO, i1, i2]) (fun c o hb q => hk c o (fun m => hb (by simp at m ⊢; rcases m with m | m | m | m <;> simp [m])) q) hf
  self := fun A i s Q E st h => wpAny_pyIter_zip st.1 h
def iZip2 (t1 t2 : Bool) (K : PySem.W.Frag) (ta : TA) : TI := fun σ H R => ta σ H fun vs H1 => ∃ a b xs ys, vs = [.ref a, .ref b] ∧ Sq2 t1 K H1 a xs ∧ Sq2 t2 K H1 b ys ∧ R (Itz2 t1 t2 K a b) H1
theorem pi_zip2 {t1 t2 : Bool} {X : Cx} {e e2 : Expr} {ta : TA} {p pos tpos : Pos} {elts : List Expr} {kk : Nat} (hg : Gl X "zip") (hm : X.mg "zip" = none) (ha : PA X [e, e2] ta)
    (hs : starEach [e, e2] X.env = (false, eval e X.env) :: starEach [e2] X.env := by rfl) (hpl : (backTo pos (starEach [e2] X.env)).any (·.1) = false := by rfl) :
    PI X (.Tuple elts kk tpos) (.Call (.Name "zip" p) [e, e2] [] pos) (iZip2 t1 t2 X.K ta) := by
  refine ⟨fun pins s σ H R I h => ?_⟩
  refine Call_ (ld_blt I hg hm PyProof.Rows.boot_zip (PyProof.Rows.callWith_type1 (thn (ha.run pos pins s σ H _ I h) fun us s1 ⟨vs, H1, I1, r1, q1⟩ => ?_) hs hpl))
  obtain ⟨a, b, xs, ys, ex, hqx, hqy, q⟩ := q1
  subst ex
  cases r1 with
  | cons r rr =>
    cases rr with
    | cons r' rr =>
      cases rr
      cases r
      cases r'
      have fresh5 : ∀ c, c ∈ [s1.heap.objs.size + 4, s1.heap.objs.size + 2, s1.heap.objs.size + 3, s1.heap.objs.size, s1.heap.objs.size + 1] → FpOk X pins H1 c := fun c hcm => by
        have e' : c = s1.heap.objs.size + 4 ∨ c = s1.heap.objs.size + 2 ∨ c = s1.heap.objs.size + 3 ∨ c = s1.heap.objs.size ∨ c = s1.heap.objs.size + 1 := by simpa using hcm
        have hle : s1.heap.objs.size ≤ c := by
          rcases e' with z | z | z | z | z
          · rw [z]; exact Nat.le_add_right _ _
          · rw [z]; exact Nat.le_add_right _ _
          · rw [z]; exact Nat.le_add_right _ _
          · rw [z]; exact Nat.le_refl _
          · rw [z]; exact Nat.le_add_right _ _
        exact I1.fpOk hle (I1.hok.fresh hle)
      obtain ⟨its, rv, p1⟩ := hqx.inv I1
      obtain ⟨its2, rv2, p2⟩ := hqy.inv I1
      refine zip_begins2 (begA (t := t1) (its := its.toArray)) (begA (t := t2) (its := its2.toArray)) p1 p2 fun h' hz hTI hTO g1 g2 hsz hk => wpAny_pyIter_zip hz ?_
      have I2 : Inv X pins σ H1 { s1 with heap := h' } := I1.kept (t' := s1.toks) hk
      have la := p1.lt
      have lb := p2.lt
      exact ⟨s1.heap.objs.size + 4, [s1.heap.objs.size + 4, s1.heap.objs.size + 2, s1.heap.objs.size + 3, s1.heap.objs.size, s1.heap.objs.size + 1], _, _, H1, rfl, I2,
        turn_zip2 (zip_sep2 (fp1 := [a]) (fp2 := [b]) (fun c hc => by rw [List.mem_singleton.mp hc]; exact la) (fun c hc => by rw [List.mem_singleton.mp hc]; exact lb)) (Nat.ne_of_lt la) (Nat.ne_of_lt (Nat.lt_succ_of_lt lb)), ⟨hz, hTI, ⟨_, _, hTO⟩, itO_at g1, itO_at g2⟩, fresh5, q⟩
section
variable {X : Cx} {C : XC} {pu : Bool} {ω α β : Type} {Γ : List SD} {e a b : Expr} {M : Res ω} {pos p pn : Pos} {k : Opd → List SD → Res ω → Prop}
/-- zip of two things whose items stay, lists or tuples -/
theorem JSrc.zipW {t1 t2 : Bool} {elts : List Expr} {kk : Nat} {tpos : Pos} {e1 : α → PyData} {e2 : β → PyData} {kS : List SD → List SD → Res ω → Prop} (hm : X.mg "zip" = none) 
    (h : JA X C pu Γ [a, b] M fun os Γ' M' => ∃ (s1 s2 : SD) (xs : List α) (ys : List β), os = [.own s1, .own s2] ∧ SeqOf s1 t1 (xs.map fun x => .val (e1 x)) ∧ SeqOf s2 t2 (ys.map fun x => .val (e2 x)) ∧ kS ((xs.zip ys).map fun q => .val (.tuple [e1 q.1, e2 q.2])) Γ' M') (hg : Gl X "zip" := by rfl)
    (hs : starEach [a, b] X.env = (false, eval a X.env) :: starEach [b] X.env := by rfl) (hpl : (backTo pos (starEach [b] X.env)).any (·.1) = false := by rfl) :
    JSrc X C pu Γ (.Tuple elts kk tpos) (.Call (.Name "zip" pn) [a, b] [] pos) M kS :=
  JSrc.of (pi_zip2 (t1 := t1) (t2 := t2) hg hm pa_sem hs hpl) fun F h0 g H σ R he hf hG hu hx q => semA_sz (h F h0 g H σ _ he hf hG hu hx fun os Γ' M' ⟨s1, s2, xs, ys, eos, sq1, sq2, hk⟩ hm v F' h1 h2 H' x ow he' d hf' hp sz => by
    subst eos
    obtain ⟨va, vr, ha, hb, ev, sa, sb, dab, wa, ow2⟩ := ow
    obtain ⟨vb, sb2, eb, sbb, wb⟩ := ow2.one
    subst eb
    obtain ⟨f2', dg⟩ := hf'.lent d
    obtain ⟨p, vs, ea, hl, hsa, hia⟩ := sq1.at wa (hf'.sub (sa.trans .l)) hG
    obtain ⟨r, us, eb2, hl2, hsb, hib⟩ := sq2.at wb (hf'.sub ((sbb.trans sb).trans .l)) hG
    subst ea eb2
    have ga : Sub (cup ha g) (cup h1 g) := Sub.cup2 sa .refl dg
    have gb : Sub (cup sb2 g) (cup h1 g) := Sub.cup2 (sbb.trans sb) .refl dg
    have nowa : Sq2 t1 X.K H' p vs := hsa H' h2 F' .refl (f2'.gs ga)
    have nowb : Sq2 t2 X.K H' r us := hsb H' h2 F' .refl (f2'.gs gb)
    rw [List.length_map] at hl hl2
    have len : ((xs.zip ys).map fun q => SD.val (.tuple [e1 q.1, e2 q.2])).length = min vs.length us.length := by rw [List.length_map, List.length_zip, hl, hl2]
    refine ⟨p, r, vs, us, ev, nowa, nowb, q _ Γ' M' hk hm F' h1 h2 H' _ x he' f2' dg ⟨?_, ?_, ?_⟩ hp⟩
    · rw [len]
      refine Nat.le_trans (Nat.min_le_left ..) ?_
      cases t1 with
      | true => exact sz.2 _ _ nowa
      | false => exact sz.1 _ _ nowa
    · refine fun i F2 h3 H3 x2 f3 hle => ⟨vs, us, hsa H3 h3 F2 x2 (f3.gs ga), hsb H3 h3 F2 x2 (f3.gs gb), ?_⟩
      rw [len] at hle
      omega
    · intro i s' F2 h3 H3 x2 f3 hs3
      rw [List.getElem?_map] at hs3
      obtain ⟨⟨qx, qy⟩, eq, es'⟩ : ∃ q, (xs.zip ys)[i]? = some q ∧ s' = .val (.tuple [e1 q.1, e2 q.2]) := by
        cases h : (xs.zip ys)[i]? with
        | none => rw [h] at hs3; cases hs3
        | some q => rw [h] at hs3; cases hs3; exact ⟨q, rfl, rfl⟩
      obtain ⟨ex, ey⟩ := List.getElem?_zip_eq_some.mp eq
      obtain ⟨y1, e3, o3⟩ := hia i (.val (e1 qx)) (by rw [List.getElem?_map, ex]; rfl)
      obtain ⟨y2, e4, o4⟩ := hib i (.val (e2 qy)) (by rw [List.getElem?_map, ey]; rfl)
      have sq3 : Sq2 t1 X.K H3 p vs := hsa H3 h3 F2 x2 (f3.gs ga)
      have sq4 : Sq2 t2 X.K H3 r us := hsb H3 h3 F2 x2 (f3.gs gb)
      refine ⟨⟨vs, us, y1, y2, sq3, sq4, e3, e4⟩, fun z H4 ⟨T, y1', y2', e5, hT, eH, hz1, hz2⟩ => ?_⟩
      have e6 := hz1 vs sq3
      have e7 := hz2 us sq4
      rw [e3] at e6
      rw [e4] at e7
      cases e6
      cases e7
      subst e5 eH es'
      have f4 : Fits F2 (cup (sgl T (.tup [y1, y2])) h3) (cup h1 g) _ := f3.new hT
      have dT : Dis (sgl T (.tup [y1, y2])) h3 := Dis.one (f3.no hT).2.1
      refine ⟨cup F2 (sgl T (.tup [y1, y2])), .l, ?_, f4.freeze dT⟩
      unfold own
      have dF : Dis F2 (sgl T (.tup [y1, y2])) := f4.fh.mono .refl .l
      have rd : ∀ {d : PyData} {y : V}, own X.K F' C.G (.val d) emp y → Dt X.K F' y d := fun w => by
        unfold own at w; exact w
      exact .tup (.of (Sub.r dF _ _ one_same)) (.cons ((rd o3).mono (x2.trans .l)) (.cons ((rd o4).mono (x2.trans .l)) .nil)))
end
end Tsa

/-! N63: zip of three lists and tuples. -/
namespace Tsa
open PySem PySem.Spec PyProof.Rows L2
/-- the items of three things as they stand at each turn, in new triples -/
def Itz3 (t1 t2 t3 : Bool) (K : PySem.W.Frag) (a b c : Addr) : It :=
  ⟨fun i H => ∃ (xs ys zs : List V) (x y z : V), Sq2 t1 K H a xs ∧ Sq2 t2 K H b ys ∧ Sq2 t3 K H c zs ∧ xs[i]? = some x ∧ ys[i]? = some y ∧ zs[i]? = some z,
    fun i H v H' => ∃ T x y z, v = .ref T ∧ H T = none ∧ H' = upd H T (.tup [x, y, z]) ∧ (∀ xs, Sq2 t1 K H a xs → xs[i]? = some x) ∧ (∀ ys, Sq2 t2 K H b ys → ys[i]? = some y) ∧ ∀ zs, Sq2 t3 K H c zs → zs[i]? = some z,
    fun i H => ∃ xs ys zs : List V, Sq2 t1 K H a xs ∧ Sq2 t2 K H b ys ∧ Sq2 t3 K H c zs ∧ (xs.length ≤ i ∨ ys.length ≤ i ∨ zs.length ≤ i)⟩
def iZip3 (t1 t2 t3 : Bool) (K : PySem.W.Frag) (ta : TA) : TI := fun σ H R => ta σ H fun vs H1 => ∃ a b c xs ys zs, vs = [.ref a, .ref b, .ref c] ∧ Sq2 t1 K H1 a xs ∧ Sq2 t2 K H1 b ys ∧ Sq2 t3 K H1 c zs ∧ R (Itz3 t1 t2 t3 K a b c) H1
/-- three lists side by side -/
def zip3 {α β γ : Type} (xs : List α) (ys : List β) (zs : List γ) : List (α × β × γ) := xs.zip (ys.zip zs)
section
variable {X : Cx} {C : XC} {pu : Bool} {ω α β γ : Type} {Γ : List SD} {e a b c : Expr} {M : Res ω} {pos p pn : Pos} {k : Opd → List SD → Res ω → Prop}
end
end Tsa

/-! N64: a part of a slot's own tuple is taken out. -/
namespace Tsa
open PySem PySem.Spec PyProof.Rows L2
section
variable {X : Cx} {C : XC} {ω : Type} {Γ : List SD} {M : Res ω} {pos p : Pos} {k : Opd → List SD → Res ω → Prop}
end
end Tsa

/-! N65: d.setdefault(k, []).append(e), the key reckoned with what it changes. -/
namespace Tsa
open PySem PySem.Spec PyProof.Rows L2
section
variable {κ α : Type} [DecidableEq κ] {kk : κ → Key} {kd : κ → PyData} {g' : α → SD} {X : Cx} {C : XC} {ω : Type} {Γ : List SD} {a b c : Expr} {M : Res ω} {pos pl ps pa p q1 : Pos} {k : Opd → List SD → Res ω → Prop}
end
end Tsa

/-! N66: y = [.. for k in d ..], d one's own dict, locked for it. -/
namespace Tsa
open PySem PySem.Spec PyProof.Rows L2
section
variable {K : PySem.W.Frag} {X : Cx} {C : XC} {ω α β τ : Type} {Γ : List SD} {e a b c tg iter elt : Expr} {M : Res ω} {pos p p2 apos : Pos}
end
end Tsa

/-! N67: an item of one of two own tuples is read. -/
namespace Tsa
open PySem PySem.Spec PyProof.Rows L2
section
variable {X : Cx} {C : XC} {pu : Bool} {ω α β τ : Type} {Γ : List SD} {M : Res ω} {pos p : Pos} {k : Opd → List SD → Res ω → Prop}
end
end Tsa

/-! N68: things by the ways that lead to them from the slots; lists made of such things; a call that changes them and sets them back. -/
namespace Tsa
open PySem PySem.Spec PyProof.Rows L2
def VPh (H : Hp) : V → List Nat → V → Prop
  | v, [], w => v = w
  | v, n :: r, w => ∃ p vs u, v = .ref p ∧ (H p = some (.lst vs) ∨ H p = some (.tup vs)) ∧ vs[n]? = some u ∧ VPh H u r w
def VP (H : Hp) (σ : L2.St) : List Nat → V → Prop
  | [], _ => False
  | i :: r, w => ∃ v, σ[i]? = some (some v) ∧ VPh H v r w
section
variable {H H' : Hp} {σ : L2.St}
end
/-- neither way goes on from the other -/
def incB : List Nat → List Nat → Bool
  | [], _ => false
  | _, [] => false
  | a :: r, b :: s => if a = b then incB r s else true
inductive Pt : SD → List Nat → SD → Prop
  | here {s : SD} : Pt s [] s
  | lst {l : List SD} {n : Nat} {s t : SD} {r : List Nat} : l[n]? = some s → Pt s r t → Pt (.lst l) (n :: r) t
  | tup {l : List SD} {n : Nat} {s t : SD} {r : List Nat} : l[n]? = some s → Pt s r t → Pt (.tup l) (n :: r) t
section
variable {K : PySem.W.Frag} {F G : Hp}
/-- a way from the slots -/
def PtE (Γ : List SD) (q : List Nat) (t : SD) : Prop := ∃ i r s, q = i :: r ∧ Γ[i]? = some s ∧ s ≠ .hole ∧ Pt s r t
variable {Γ : List SD} {h : Hp} {σ : L2.St}
end
/-! ### what an expression gives of such things -/
inductive LV (H : Hp) (σ : L2.St) : List (List Nat) → List V → Prop
  | nil : LV H σ [] []
  | cons {q : List Nat} {qs : List (List Nat)} {v : V} {vs : List V} : VP H σ q v → LV H σ qs vs → LV H σ (q :: qs) (v :: vs)
theorem LV.len {H : Hp} {σ : L2.St} {qs : List (List Nat)} {vs : List V} (h : LV H σ qs vs) : vs.length = qs.length := by
  induction h with
  | nil => rfl
  | cons a _ ih => rw [List.length_cons, List.length_cons, ih]
/-- one thing, or all things of a list -/
inductive Grp where
  | cell (q : List Nat) (xs : List Int)
  | kids (q : List Nat) (xss : List (List Int))
abbrev lstI (xs : List Int) : SD := .lst (xs.map fun x => .val (.int x))
def Grp.pre : Grp → List Nat
  | .cell q _ => q
  | .kids q _ => q
def Grp.exp : Grp → List (List Nat × List Int)
  | .cell q xs => [(q, xs)]
  | .kids q xss => xss.zipIdx.map fun t => (q ++ [t.2], t.1)
def Grp.cnt : Grp → List (List Int)
  | .cell _ xs => [xs]
  | .kids _ xss => xss
def Grp.Ok (Γ : List SD) : Grp → Prop
  | .cell q xs => PtE Γ q (lstI xs)
  | .kids q xss => PtE Γ q (.lst (xss.map lstI))
def pathsG (gs : List Grp) : List (List Nat) := (gs.flatMap Grp.exp).map (·.1)
/-- things found -/
def ACell (X : Cx) (C : XC) (Γ : List SD) (e : Expr) (q : List Nat) : Prop :=
  ∀ (F h g H Hn : Hp) (σ : L2.St) (Q : VK), EnvR X.K F C.G Γ h σ → Fits F h g H → Sub C.G g → Sub H Hn → (∀ v, VP Hn σ q v → Q v Hn) → semE X e σ Hn Q
/-- a list of things found -/
def AVal (X : Cx) (C : XC) (Γ : List SD) (e : Expr) (gs : List Grp) : Prop :=
  ∀ (F h g H Hn : Hp) (σ : L2.St) (Q : VK), EnvR X.K F C.G Γ h σ → Fits F h g H → Sub C.G g → Sub H Hn →
    (∀ (p : Addr) (vs : List V) (Hm : Hp), Sub Hn Hm → Hm p = some (.lst vs) → LV Hm σ (pathsG gs) vs → Q (.ref p) Hm) → semE X e σ Hn Q
section
variable {X : Cx} {C : XC} {Γ : List SD} {a b e : Expr} {pos p p1 p2 pn : Pos}
theorem at_nat {us : List V} {n : Nat} {v : V} (h : us[n]? = some v) : atI us (n : Nat) = some v := by
  have l := (List.getElem?_eq_some_iff.mp h).1
  unfold atI ixN
  rw [if_pos (by omega), if_pos (by omega)]
  exact h
/-- a written list -/
inductive Cells (X : Cx) (C : XC) (Γ : List SD) : List Expr → List (List Nat × List Int) → Prop
  | nil : Cells X C Γ [] []
  | cons {e : Expr} {es : List Expr} {q : List Nat} {xs : List Int} {qs : List (List Nat × List Int)} : ACell X C Γ e q → Cells X C Γ es qs → starEach (e :: es) X.env = (false, eval e X.env) :: starEach es X.env → Cells X C Γ (e :: es) ((q, xs) :: qs)
end
end Tsa

/-! N69: one of two such lists; the call. -/
namespace Tsa
open PySem PySem.Spec PyProof.Rows L2
def AAny (X : Cx) (C : XC) (Γ : List SD) (e : Expr) : Prop :=
  ∀ (F h g H Hn : Hp) (σ : L2.St) (Q : VK), EnvR X.K F C.G Γ h σ → Fits F h g H → Sub C.G g → Sub H Hn → (∀ v Hm, Sub Hn Hm → Q v Hm) → semE X e σ Hn Q
section
variable {X : Cx} {C : XC} {Γ : List SD} {a b e c : Expr} {pos p p1 p2 pn : Pos}
end
/-! ### all of them lie apart -/
def incAll : List (List Nat) → Bool
  | [] => true
  | a :: r => r.all (incB a) && incAll r
abbrev Cel := List Nat × List Int
/-! ### the cells -/
/-- few and short -/
def apOk (xss : List (List Int)) : Bool := decide (xss.length ≤ 1000) && xss.all fun x => decide (x.length ≤ 1000)
/-- all is set back -/
def SpAp : Sp := fun vs H Q E => ∃ (p : Addr) (L : List (Addr × List Int)), vs = [.ref p] ∧ H p = some (.lst (L.map fun q => V.ref q.1)) ∧ (L.map (·.1)).Nodup ∧ (∀ q ∈ L, H q.1 = some (.lst (q.2.map V.int))) ∧ p ∉ L.map (·.1) ∧ apOk (L.map (·.2)) = true ∧ ∀ H', Sub H H' → Q (.bl true) H'
abbrev rowsS (x : List (V × List Int)) : SD := .lst (x.map fun q => .pin q.1 (lstI q.2))
def resH (H : Hp) (A : List Addr) : Hp := fun a => if a ∈ A then H a else none
/-- such a def under its name -/
def HasA (X : Cx) (x : Str) (lv : Nat) : Prop := ∃ f, X.mg x = some (.ref f) ∧ PySem.W.keepIn X.K (.ref f) = true ∧ ∃ (fd : FuncData) (ps : List Str), FnG X.prog X.w X.K X.mg X.base lv f fd ps SpAp ∧ Binds X.K fd ps []
end Tsa

/-! N70: a list of things is walked, each thing put back where it was; the def that looks whether rows lie apart. -/
namespace Tsa
open PySem PySem.Spec PyProof.Rows L2
section
variable {X : Cx} {C : XC} {ω : Type} {Γ : List SD} {tg : Expr} {M : Res ω} {pos p : Pos} {k : List SD → Res ω → Prop} {en : ω → EndK}
end
/-! ### a thing between its list and a name -/
section
variable {K : PySem.W.Frag} {F G h : Hp} {σ : L2.St} {v0 u : V} {L : List SD} {n : Nat} {s c d : SD}
end
abbrev rowS (q : V × List Int) : SD := .pin q.1 (lstI q.2)
theorem JT.nil {C : XC} {pu : Bool} {ω : Type} {K : PySem.W.Frag} {Γ : List SD} {t : TE} {M : Res ω} {k : Opd → List SD → Res ω → Prop} (hM : M = .un) : JT K C pu Γ t M k := fun F h g H σ Q he hf hG hu => absurd hM hu
/-! ### what the def makes of it -/
def lensR (x : List (V × List Int)) : Res (List Int) := .ok ((x.map (·.2)).map fun y => (y.length : Int))
def apF (x : List (V × List Int)) (t : (V × List Int) × Nat) (_ : Unit) : Res (Lp Unit Bool) :=
  (lensR (x.set t.2 t.1)).bind fun v => gd (t.1.2.length < 16000000) (((lensR (x.set t.2 (t.1.1, t.1.2 ++ [0]))).bind fun v_2 => .ok (!decide (v_2.sum = v.sum + 1))).bind fun c => cond c .un (.ok (.nx ())))
def mApart (x : List (V × List Int)) : Res Bool := (forL (apF x) x.zipIdx ()).bind (orW fun _ => .ok true)
end Tsa

/-! N71: things of slots that are not looked at any more are spoilt. -/
namespace Tsa
open PySem PySem.Spec PyProof.Rows L2
inductive Spl : List SD → List SD → List SD → Prop
  | nil : Spl [] [] []
  | l {s : SD} {Γ A B : List SD} : Spl Γ A B → Spl (s :: Γ) (s :: A) (.hole :: B)
  | r {s : SD} {Γ A B : List SD} : Spl Γ A B → Spl (s :: Γ) (.hole :: A) (s :: B)
section
variable {K : PySem.W.Frag} {F G : Hp}
/-- values of the slots that hold something are the same -/
def SameB (B : List SD) (σ τ : L2.St) : Prop := τ.length = σ.length ∧ ∀ (j : Nat) (s : SD), B[j]? = some s → s ≠ .hole → τ[j]? = σ[j]?
end
/-- the values of slots, with nothing of what lies there -/
def pinsOf : (Nat → V) → List SD → List SD
  | _, [] => []
  | vs, s :: r => (match s with
    | .hole => .hole
    | _ => .pin (vs 0) .hole) :: pinsOf (fun n => vs (n + 1)) r
def valsOf (τ : L2.St) (n : Nat) : V := match τ[n]? with
  | some (some v) => v
  | _ => .non
section
variable {K : PySem.W.Frag} {F G : Hp}
end
theorem Spl.a {Γ A B : List SD} (q : Spl Γ A B) : ∀ {σ τ : L2.St}, SameB Γ σ τ → SameB A σ τ := fun {σ τ} s => ⟨s.1, fun j t e n => by
  refine s.2 j t ?_ n
  clear s
  induction q generalizing j with
  | nil => exact e
  | l _ ih => cases j with
    | zero => exact e
    | succ j => exact ih j e
  | r _ ih => cases j with
    | zero => have e : some SD.hole = some t := e; cases e; exact absurd rfl n
    | succ j => exact ih j e⟩
theorem Spl.b {Γ A B : List SD} (q : Spl Γ A B) : ∀ {σ τ : L2.St}, SameB Γ σ τ → SameB B σ τ := fun {σ τ} s => ⟨s.1, fun j t e n => by
  refine s.2 j t ?_ n
  clear s
  induction q generalizing j with
  | nil => exact e
  | l _ ih => cases j with
    | zero => have e : some SD.hole = some t := e; cases e; exact absurd rfl n
    | succ j => exact ih j e
  | r _ ih => cases j with
    | zero => exact e
    | succ j => exact ih j e⟩
/-- only what lists hold has changed, and only there -/
def Spd (hD H Hn : Hp) : Prop := ∀ a o, H a = some o → (hD a = none → Hn a = some o) ∧ ((∃ vs, o = .lst vs) → ∃ us, Hn a = some (.lst us)) ∧ ((∀ vs, o ≠ .lst vs) → Hn a = some o)
/-- statements behind which some slots are not looked at: A those, B the others -/
def JLT (X : Cx) (C : XC) {ω : Type} (A B : List SD) (sts : List Stmt) (M : Res ω) (k : List SD → Res ω → Prop) (en : ω → EndK) : Prop :=
  ∀ (F hD h g H Hn : Hp) (σ τ : L2.St) (D : Ends), EnvR X.K F C.G A hD σ → EnvR X.K F C.G B h σ → Dis hD h → Fits F (cup hD h) g H → Sub C.G g → Spd hD H Hn → SameB A σ τ → SameB B σ τ → M ≠ .un → XOk X.K C F g M →
    (∀ (Γ' : List SD) (M' : Res ω), k Γ' M' → M' = M → ∀ (F' h' : Hp) (σ' : L2.St) (H' : Hp), Sub F F' → EnvR X.K F' C.G Γ' h' σ' → Fits F' h' g H' → D.nx σ' H') →
    (∀ w, M = .ok w → EndOk X.K C F g D (en w)) → semL X sts D τ Hn
section
variable {X : Cx} {C : XC} {ω : Type} {Γ A B : List SD} {st : Stmt} {rest sts : List Stmt} {M : Res ω} {pos p p1 p2 : Pos} {k : List SD → Res ω → Prop} {en : ω → EndK}
end
end Tsa

/-! N72: all but the first of a tuple's lists are cleared. -/
namespace Tsa
open PySem PySem.Spec PyProof.Rows L2
section
variable {X : Cx} {C : XC} {ω : Type} {A B : List SD} {rest : List Stmt} {M : Res ω} {pos : Pos} {k : List SD → Res ω → Prop} {en : ω → EndK}
end
end Tsa

/-! N73: xs[::-1] of a locked tuple. -/
namespace Tsa
open PySem PySem.Spec PyProof.Rows L2
section
variable {X : Cx} {C : XC} {pu : Bool} {ω : Type} {Γ : List SD} {a : Expr} {M : Res ω} {pos : Pos} {k : Opd → List SD → Res ω → Prop}
end
end Tsa

/-! N74: two locked tuples of alike things, joined. -/
namespace Tsa
open PySem PySem.Spec PyProof.Rows L2
section
variable {X : Cx} {C : XC} {pu : Bool} {ω : Type} {Γ : List SD} {a b : Expr} {M : Res ω} {pos : Pos} {k : Opd → List SD → Res ω → Prop}
end
end Tsa

/-! N75: all lists of a told tuple are spoilt, and the lists in them. -/
namespace Tsa
open PySem PySem.Spec PyProof.Rows L2
/-- a list of numbers, or of lists of numbers -/
def K01 (s : SD) : Prop := (∃ xs : List Int, s = lstI xs ∧ xs.length ≤ 1000) ∨ ∃ xss : List (List Int), s = .lst (xss.map lstI) ∧ xss.length ≤ 1000 ∧ ∀ xs ∈ xss, xs.length ≤ 1000
/-- such a list at a -/
def SpI (h : Hp) (a : Addr) (vs : List V) : Prop := h a = some (.lst vs) ∧ vs.length ≤ 1000 ∧ ∀ v ∈ vs, (∃ i, v = .int i) ∨ ∃ c ws, v = .ref c ∧ h c = some (.lst ws) ∧ ws.length ≤ 1000 ∧ c ≠ a
/-- how long the lists within are by now -/
def KB (L : List (Addr × List V)) (H : Hp) (m : Nat) : Prop := ∀ q ∈ L, ∀ c, V.ref c ∈ q.2 → ∃ us, H c = some (.lst us) ∧ us.length ≤ 1000 + m
section
variable {X : Cx} {C : XC} {ω : Type} {Γ A B : List SD} {rest : List Stmt} {M : Res ω} {pos : Pos} {k : List SD → Res ω → Prop} {en : ω → EndK}
end
end Tsa

/-! N76: [x] + a list, of which nothing is kept. -/
namespace Tsa
open PySem PySem.Spec PyProof.Rows L2
section
variable {X : Cx} {C : XC} {Γ : List SD} {e b : Expr} {pos p1 : Pos}
end
end Tsa

/-! N77: a locked tuple many times, none and once too. -/
namespace Tsa
open PySem PySem.Spec PyProof.Rows L2
/-- xs * k, k from 0 on -/
def rRepA (K : PySem.W.Frag) : R2 := fun x y H Q => ∃ l k xs, x = .ref l ∧ y = .int k ∧ SqT K H l xs ∧ xs ≠ [] ∧ 0 ≤ k ∧ k ≤ 1000 ∧ xs.length ≤ 1000 ∧ (k = 1 → Q (.ref l) H) ∧ (k ≠ 1 → ∀ p, H p = none → Q (.ref p) (upd H p (.tup (List.replicate k.toNat xs).flatten)))
section
variable {X : Cx}
variable {C : XC} {pu : Bool} {ω : Type} {Γ : List SD} {a b : Expr} {M : Res ω} {pos : Pos} {k : Opd → List SD → Res ω → Prop}
end
end Tsa

/-! N78: what may be None is no hole. -/
namespace Tsa
open PySem PySem.Spec PyProof.Rows L2
end Tsa

/-! N79: (x or []) of a thing that may be None, in a list of things. -/
namespace Tsa
open PySem PySem.Spec PyProof.Rows L2
section
variable {X : Cx} {C : XC} {Γ : List SD} {e b : Expr} {pos : Pos}
end
end Tsa

/-! N80: d.setdefault(k, v) of an own dict with locked values, as a value. -/
namespace Tsa
open PySem PySem.Spec PyProof.Rows L2
section
variable {κ β : Type} [DecidableEq κ]
/-- m, and y at k if k is not there -/
def aSd (m : List (κ × β)) (k : κ) (y : β) : List (κ × β) := match aGet m k with
  | some _ => m
  | none => aPut m k y
end
section
variable {κ β : Type} [DecidableEq κ] {kk : κ → Key} {kd : κ → PyData} {f' : β → PyData} {X : Cx} {C : XC} {pu : Bool} {ω : Type} {Γ : List SD} {b c : Expr} {M : Res ω} {ps p q1 : Pos} {k : Opd → List SD → Res ω → Prop}
end
end Tsa

/-! N81: x[n].append(c) of an own tuple that is not looked at any more. -/
namespace Tsa
open PySem PySem.Spec PyProof.Rows L2
section
variable {X : Cx} {C : XC} {ω : Type} {Γ A B : List SD} {rest : List Stmt} {M : Res ω} {pos p p1 p2 p4 : Pos} {k : List SD → Res ω → Prop} {en : ω → EndK}
end
end Tsa

/-! N82: x[n] + x[m] of an own tuple, what lies in both lists moved; x[n].append(e) of an own tuple. -/
namespace Tsa
open PySem PySem.Spec PyProof.Rows L2
section
variable {K : PySem.W.Frag} {F G : Hp}
abbrev holes (l : List SD) : SD := .lst (l.map fun _ => .hole)
end
section
variable {X : Cx} {C : XC} {ω : Type} {Γ : List SD} {c : Expr} {M M3 : Res ω} {pos p1 p2 p3 q1 q2 q3 pa : Pos} {k : Opd → List SD → Res ω → Prop}
end
end Tsa

/-! N83: x[n] + [x[m]] * int(c) of an own tuple, what lies there moved. -/
namespace Tsa
open PySem PySem.Spec PyProof.Rows L2
section
variable {K : PySem.W.Frag} {F G : Hp}
end
section
variable {X : Cx} {C : XC} {ω : Type} {Γ : List SD} {c : Expr} {M M3 : Res ω} {pos p1 p2 p3 q1 q2 q3 pl pm : Pos} {k : Opd → List SD → Res ω → Prop}
end
end Tsa

/-! N84: enumerate where an exception is handled; isinstance of one of several classes there. -/
namespace HotX
open PySem PySem.Spec PyProof.Rows
section
variable {prog : Program} {w : World} {A : Around} {E : Value → Shared → Prop} {s : Shared}
end
end HotX
namespace L2
open PySem PySem.Spec PyProof.Rows
end L2
namespace Tsa
open PySem PySem.Spec PyProof.Rows L2
section
variable {X : Cx} {C : XC} {pu : Bool} {ω α : Type} {Γ : List SD} {e tg iter elt : Expr} {M : Res ω} {pos p pn : Pos}
end
section
variable {X : Cx} {C : XC} {pu : Bool} {ω : Type} {Γ : List SD} {M : Res ω} {k : Opd → List SD → Res ω → Prop} {pos p : Pos}
end
end Tsa
namespace Tsa
open PySem PySem.Spec PyProof.Rows L2 He
/-- as obsXG, with the statics -/
def obsXS (n : Nat) (fa : List Fa) (fn : List DefD) (ex : PySem.W.Frag → Bool) (g : Addr → Option Obj) : AlX_ := (obsD fa fn (frG g (cStatics :: sysModules :: asD g n)), ex (frG g (cStatics :: sysModules :: asD g n)))
def hookXS (n : Nat) (fa : List Fa) (fn : List DefD) (ex : PySem.W.Frag → Bool) : PySem.W.Hook where
  α := AlX_
  obs := fun s => obsXS n fa fn ex s.heap.get?
  val := fun _ => (valD fn, true)
  says := fun _ h => ∃ K : PySem.W.Frag, K.In h ∧ (SaysD fa fn K ∧ ex K = true)
  of := fun _ _ e => ⟨_, frG_in, congrArg (fun z : AlX_ => z.1) e, congrArg (fun z : AlX_ => z.2) e⟩
  keeps := fun _ _ _ ⟨K, hK, c⟩ k => ⟨K, PySem.W.Frag.In.keeps hK k, c⟩
end Tsa

/-! N85: isinstance of one of many classes, the caught one. -/
namespace Tsa
open PySem PySem.Spec PyProof.Rows L2
/-- names of own classes -/
inductive ClsN (X : Cx) : List Expr → List Addr → Prop
  | nil : ClsN X [] []
  | cons {x : Str} {q : Pos} {a : Addr} {es : List Expr} {as : List Addr} (hm : X.mg x = some (.ref a)) (t : ClsN X es as) (hg : Gl X x := by rfl) (hd : (x == ("__debug__" : Str)) = false := by decide)
    (hs : starEach (.Name x q :: es) X.env = (false, eval (.Name x q) X.env) :: starEach es X.env := by rfl) : ClsN X (.Name x q :: es) (a :: as)
def tRefs : List Addr → TA
  | [] => tNil
  | a :: r => tCons (tC (.ref a)) (tRefs r)
def anyXc (c : Str) (xs : List Str) : Bool := xs.any fun x => isXc c x
/-- isinstance of an instance at a, many classes -/
def rIsXs (K : PySem.W.Frag) (D a : Addr) (od : Option Addr) : List V → Hp → VK → Prop := fun xs H Q => ∃ (q : Addr) (as : List Addr) (b : Bool), xs = [.ref a, .ref q] ∧ H q = some (.tup (as.map V.ref)) ∧ PySem.W.kitAny K (.ref D) (as.map Value.ref) = some b ∧ (∀ d, od = some d → ∃ fs, H d = some (.xd fs)) ∧ Q (.bl b) H
section
variable {K : PySem.W.Frag} {X : Cx} {C : XC} {pu : Bool} {ω : Type} {Γ : List SD} {e : Expr} {M : Res ω} {pos p pn : Pos} {k : Opd → List SD → Res ω → Prop}
end
end Tsa

/-! N86: a comprehension over an own list of own things, its things taken out. -/
namespace Tsa
open PySem PySem.Spec PyProof.Rows L2
inductive HolL (Γ : List SD) : List Nat → Prop
  | nil : HolL Γ []
  | cons {i : Nat} {vs : List Nat} (h : Γ[i]? = some .hole) (t : HolL Γ vs) : HolL Γ (i :: vs)
section
variable {X : Cx} {C : XC} {ω : Type} {Γ : List SD} {tg elt : Expr} {M : Res ω} {pos p : Pos} {k : Opd → List SD → Res ω → Prop}
end
end Tsa

/-! N87: one of a slot's own list is taken out, the rest is not looked at again. -/
namespace Tsa
open PySem PySem.Spec PyProof.Rows L2
section
variable {X : Cx} {C : XC} {ω : Type} {Γ : List SD} {M : Res ω} {pos p : Pos} {k : Opd → List SD → Res ω → Prop}
end
section
variable {X : Cx} {C : XC} {pu : Bool} {ω α : Type} {Γ : List SD} {a b : Expr} {M : Res ω} {k : Opd → List SD → Res ω → Prop}
end
end Tsa

/-! N88: a, b, c, d = a locked list of four. -/
namespace Tsa
open PySem PySem.Spec PyProof.Rows L2
def four {α : Type} : List α → Option (α × α × α × α)
  | [a, b, c, d] => some (a, b, c, d)
  | _ => none
section
variable {X : Cx} {C : XC} {pu : Bool} {ω α : Type} {Γ : List SD} {e : Expr} {M : Res ω} {k : Opd → List SD → Res ω → Prop}
theorem JE.xrefV {Γf : PyData → List SD} {d : PyData} {kM : Int → Res ω} (h : ∀ n, JE X C pu (Γf (.int n)) e (kM n) fun o Γ1 M1 => Γ1 = Γf (.int n) ∧ k o (Γf d) M1) : JE X C pu (Γf d) e ((Tsa.xint d).bind kM) k := by
  cases d with
  | int n => exact (h n).mono fun o Γ1 M1 ⟨e1, e2⟩ => by rw [e1]; exact e2
  | _ => exact fun F h0 g H σ Q he hf hG hu => absurd rfl hu
end
end Tsa

/-! N89: x[n] of data of any kind; a loop in which may be raised. -/
namespace Tsa
open PySem PySem.Spec PyProof.Rows L2
def xat : PyData → Nat → Res PyData
  | .list l, n => idx l (n : Nat)
  | .tuple l, n => idx l (n : Nat)
  | _, _ => .un
section
variable {X : Cx} {C : XC} {pu : Bool} {ω : Type} {Γ : List SD} {k : Opd → List SD → Res ω → Prop} {pos p : Pos}
theorem JE.ixX {d : PyData} {kM : PyData → Res ω} {p1 p2 : Pos} {j0} {i n : Nat} {x : Str} (hΓ : Γ[i]? = some (.val d)) (hk : ∀ y, k (.own (.val y)) Γ (kM y))
    (hN : X.N[i]? = some x := by rfl) (hv : Vis X.env.scope x := by first | exact Or.inl rfl | exact Or.inr (Or.inl rfl) | exact Or.inr (Or.inr rfl)) (hd : (x == ("__debug__" : Str)) = false := by decide) (hcd : (x == ("__classdict__" : Str)) = false := by decide) :
    JE X C pu Γ (.Subscript (.Name x p1) (.Constant (.int (n : Nat)) j0 p2) pos) ((Tsa.xat d n).bind kM) k := by
  have go : ∀ (t : Bool) (l : List PyData), SeqOf (.val d) t (l.map .val) → Tsa.xat d n = Tsa.idx l (n : Nat) → JE X C pu Γ (.Subscript (.Name x p1) (.Constant (.int (n : Nat)) j0 p2) pos) ((Tsa.xat d n).bind kM) k := fun t l so e => by
    cases q : Tsa.idx l (n : Nat) with
    | ok y =>
      rw [e, q]
      have ha : atI (l.map SD.val) (n : Nat) = some (.val y) := by
        rw [atI_map]
        unfold Tsa.idx at q
        split at q
        · rename_i z hz
          cases q
          rw [hz]; rfl
        · cases q
      exact JE.ixC (t := t) (JE.var hΓ ⟨.inl ⟨_, rfl⟩, .own so, ha, hk y⟩ hN hv hd hcd)
    | ex e' => exact absurd q (idx_nex _)
    | un =>
      rw [e, q]
      exact JE.ne fun z => absurd rfl z
  cases d with
  | list l => exact go false l .lst rfl
  | tuple l => exact go true l .tup rfl
  | _ => exact JE.ne fun z => absurd rfl z
end
section
variable {cs : List Str} {α τ ω : Type}
end
end Tsa

/-! N90: enumerate over a list that lies in a pinned slot and stays there. -/
namespace Tsa
open PySem PySem.Spec PyProof.Rows L2
section
variable {X : Cx} {C : XC} {ω : Type} {Γ : List SD} {tg : Expr} {M : Res ω} {pos p pn pc : Pos} {k : List SD → Res ω → Prop} {en : ω → EndK}
end
end Tsa

/-! N91: a list of a caught one's field is told anew, then emptied; one class alone is caught. -/
namespace Tsa
open PySem PySem.Spec PyProof.Rows L2
section
variable {X : Cx} {C : XC} {pu : Bool} {ω : Type} {Γ : List SD} {k : Opd → List SD → Res ω → Prop} {pos p pn pa : Pos}
end
/-! ### one class alone is caught -/
def onlyX {α : Type} (c : Str) (m : Res α) : Res α := match m with
  | .ex e => if e.cls = c then .ex e else .un
  | m => m
end Tsa
namespace Tsa
open PySem PySem.Spec PyProof.Rows L2
section
variable {X : Cx} {C : XC} {ω : Type} {Γ : List SD} {sts : List Stmt} {M : Res ω} {k : List SD → Res ω → Prop} {en : ω → EndK}
end
/-- which are caught by which -/
def xfB3 (cs ns os ts : List Str) (K : PySem.W.Frag) : Bool := xfB2 cs ns os K && ts.all fun x => cs.all fun c => decide (PySem.W.exmOne K (.ref (He.ga K c)) (.ref (He.ga K x)) = some (isXc c x))
def XT (K : PySem.W.Frag) (cs ts : List Str) : Prop := ∀ c ∈ cs, ∀ x ∈ ts, PySem.W.exmOne K (.ref (He.ga K c)) (.ref (He.ga K x)) = some (isXc c x)
end Tsa

/-! N92: a, b, c = e1, e2, e3: three names. -/
namespace Tsa
open PySem PySem.Spec PyProof.Rows L2
section
variable {X : Cx} {C : XC} {ω : Type} {Γ : List SD} {a b c : Expr} {M : Res ω} {pos : Pos} {kl : List SD → Res ω → Prop} {en : ω → EndK}
end
end Tsa

/-! N93: xs.count(y), xs.index(y), the things plain values. -/
namespace Tsa
open PySem PySem.Spec PyProof.Rows L2
section
variable {X : Cx}
def rCntF (K : PySem.W.Frag) : V → List V → Hp → VK → Prop := fun x xs H Q => ∃ (p : Addr) (ys : List V) (y : V), x = V.ref p ∧ xs = [y] ∧ SqL K H p ys ∧ flatV y = true ∧ ys.all flatV = true ∧ Q (.int (ys.countP fun z => eqV z y : Nat)) H
end
/-- plain values, by what they are as data -/
structure Flt {α : Type} [DecidableEq α] (e : α → PyData) where
  f : α → V
  dt : ∀ {K : PySem.W.Frag} {S : Hp} {v : V} {a : α}, Dt K S v (e a) → v = f a
  fl : ∀ a, flatV (f a) = true
  eq : ∀ a b, eqV (f a) (f b) = decide (a = b)
def fltI : Flt PyData.int := ⟨V.int, fun h => h.intV, fun _ => rfl, fun a b => by
  show (a == b) = _
  by_cases h : a = b
  · subst h; simp
  · rw [decide_eq_false h]; simpa using h⟩
def fltB : Flt PyData.bool := ⟨V.bl, fun h => h.blV, fun _ => rfl, fun a b => by cases a <;> cases b <;> rfl⟩
def fltS : Flt PyData.str := ⟨V.str, fun h => h.strV, fun _ => rfl, fun a b => by
  show (a == b) = _
  by_cases h : a = b
  · subst h; simp
  · rw [decide_eq_false h]; simpa using h⟩
def indexG {α : Type} [DecidableEq α] (xs : List α) (y : α) : Res Int := if y ∈ xs then .ok (xs.idxOf y : Nat) else .un
section
variable {X : Cx} {C : XC} {pu : Bool} {ω α : Type} [DecidableEq α] {en : α → PyData} {Γ : List SD} {a o : Expr} {M : Res ω} {pos apos : Pos} {k : Opd → List SD → Res ω → Prop}
end
end Tsa

/-! N94: d.get(k). -/
namespace Tsa
open PySem PySem.Spec PyProof.Rows L2
section
variable {X : Cx} {C : XC} {pu : Bool} {ω β : Type} {Γ : List SD} {o b : Expr} {M : Res ω} {pos apos : Pos} {k : Opd → List SD → Res ω → Prop}
end
end Tsa
namespace Tsa
open PySem PySem.Spec PyProof.Rows L2
section
variable {X : Cx} {C : XC} {pu : Bool} {ω ω' : Type} {Γ : List SD} {e : Expr} {M : Res ω} {pos p q : Pos} {k : Opd → List SD → Res ω → Prop} {mir : Exn → Res ω'} {ret : ω' → SD}
end
end Tsa

/-! N95: x.f.pop(k), dict(x.f), things lent side by side in a tuple. -/
namespace Tsa
open PySem PySem.Spec PyProof.Rows L2
def dPopR {κ β : Type} [DecidableEq κ] (m : List (κ × β)) (k : κ) : Res (β × List (κ × β)) := match aGet m k with
  | some v => .ok (v, aDrop m k)
  | none => .un
section
variable {K : PySem.W.Frag} {F G : Hp} {κ β : Type} [DecidableEq κ] {kk : κ → Key} {kd : κ → PyData} {f : β → SD} {e : β → PyData}
end
section
variable {X : Cx} {C : XC} {pu : Bool} {ω : Type} {Γ : List SD} {e o b tg : Expr} {M : Res ω} {pos p p2 apos : Pos} {pn : Pos} {k : Opd → List SD → Res ω → Prop} {kS : List SD → List SD → Res ω → Prop}
end
end Tsa

/-! N96: defs that are called with the caught exception and read its fields (as N31, where the fields' place is known). -/
namespace Tsa
open PySem PySem.Spec PyProof.Rows L2
/-- e's class and fields say what comes -/
def SpMF {ω : Type} (K : PySem.W.Frag) (mir : Exn → Res ω) (ret : ω → SD) : Addr → Value → Option Addr → Sp := fun a c od vs H Q E =>
  vs = [.ref a] ∧ ∃ (e : Exn) (F h g : Hp), c = .ref (He.ga K e.cls) ∧ NRF e.flds ∧ (e.flds = [] ∨ ∃ d, od = some d) ∧ own K F g (excS a od e.flds) h (.ref a) ∧ Fits F h g H ∧ mir e ≠ .un ∧ (∀ x, mir e ≠ .ex x) ∧
    ∀ r, mir e = .ok r → ∀ (v : V) (F' h1 h2 H' : Hp), Sub F F' → own K F' emp (ret r) h1 v → own K F' emp (excS a od e.flds) h2 (.ref a) → Dis h1 h2 → Fits F' (cup h1 h2) g H' → Q v H'
section
variable {P : Program} {w : World} {K : PySem.W.Frag} {mg : Str → Option Value} {base : Heap} {x qual : Str} {params : Arguments} {body : List Stmt} {scope : Scope} {dvs : List V} {kws : List (Str × V)} {f : Addr} {fd : FuncData} {N ps : List Str} {k : Nat}
end
/-! ### the call -/
/-- a def by its name, called with the caught one -/
def HasF_ (X : Cx) {ω : Type} (x : Str) (lv : Nat) (mir : Exn → Res ω) (ret : ω → SD) : Prop := ∃ f fd p0, X.mg x = some (.ref f) ∧ PySem.W.keepIn X.K (.ref f) = true ∧ FnGH X.prog X.w X.K X.mg X.base lv f fd [p0] (SpMF X.K mir ret) ∧ Binds X.K fd [p0] []
section
variable {X : Cx} {C : XC} {pu : Bool} {ω ω' : Type} {Γ : List SD} {M : Res ω} {pos p q : Pos} {k : Opd → List SD → Res ω → Prop} {mir : Exn → Res ω'} {ret : ω' → SD}
end
section
variable {X : Cx} {C : XC} {pu : Bool} {ω : Type} {Γ : List SD} {pos p : Pos} {k : Opd → List SD → Res ω → Prop}
end
end Tsa

/-! N97: data of any kind read as a pair; a slot told otherwise. -/
namespace Tsa
open PySem PySem.Spec PyProof.Rows L2
def xpair : PyData → Res (Int × Int)
  | .tuple [.int a, .int b] => .ok (a, b)
  | _ => .un
section
variable {X : Cx} {C : XC} {ω : Type} {k : List SD → Res ω → Prop} {en : ω → EndK} {sts : List Stmt} {Γf : PyData → List SD} {d : PyData} {M : Res ω}
theorem JL.told {Γ Γ' : List SD} (e : Γ = Γ') (h : JL X C Γ' sts M k en) : JL X C Γ sts M k en := by rw [e]; exact h
end
end Tsa

/-! N98: a locked list many times; a locked tuple many times, whatever is in it. -/
namespace Tsa
open PySem PySem.Spec PyProof.Rows L2
def rRepS (K : PySem.W.Frag) : R2 := fun x y H Q => ∃ l k xs, x = .ref l ∧ y = .int k ∧ SqL K H l xs ∧ 0 ≤ k ∧ k ≤ 1000 ∧ xs.length ≤ 1000 ∧
  ∀ p, H p = none → Q (.ref p) (upd H p (.lst (List.replicate k.toNat xs).flatten))
/-- xs * k, whatever is in it -/
def rRepZ (K : PySem.W.Frag) : R2 := fun x y H Q => ∃ l k xs, x = .ref l ∧ y = .int k ∧ SqT K H l xs ∧ 0 ≤ k ∧ k ≤ 1000 ∧ xs.length ≤ 1000 ∧ ((k = 1 ∨ xs = []) → Q (.ref l) H) ∧ (k ≠ 1 → ∀ p, H p = none → Q (.ref p) (upd H p (.tup (List.replicate k.toNat xs).flatten)))
section
variable {X : Cx}
variable {C : XC} {pu : Bool} {ω : Type} {Γ : List SD} {a b : Expr} {M : Res ω} {pos : Pos} {k : Opd → List SD → Res ω → Prop}
end
end Tsa

/-! N99: for y in x[0] + x: y.append(-c), x a list of a list of lists of numbers and of lists of numbers: spoilt for good. -/
namespace Tsa
open PySem PySem.Spec PyProof.Rows L2
/-- which lists have grown -/
def KC (S : List V) (H : Hp) (m : Nat) : Prop := ∀ v ∈ S, ∃ c us, v = .ref c ∧ H c = some (.lst us) ∧ us.length ≤ 1000 + m
section
variable {X : Cx} {C : XC} {ω : Type} {Γ A B : List SD} {rest : List Stmt} {M : Res ω} {pos : Pos} {k : List SD → Res ω → Prop} {en : ω → EndK}
end
end Tsa
namespace Tsa
end Tsa

/-! N100: d.update(e), e a dict just made. -/
namespace Tsa
open PySem PySem.Spec PyProof.Rows L2
section
variable {X : Cx} {pins : List (Addr × Obj)} {σ : L2.St} {H : Hp} {s : Shared} {a b : Addr} {kvs more : List (Key × V)} {A : Around} {E : Value → Shared → Prop}
end
def tDUpd (td ty : TE) : TE := fun σ H Q => td σ H fun x H1 => ∃ a, x = .ref a ∧ IsD H1 a ∧ ty σ H1 fun y H2 => ∃ b kvs more, y = .ref b ∧ H2 a = some (.dK kvs) ∧ Rd H2 b (.dK more) ∧ a ≠ b ∧ kvs.length + more.length ≤ sizeLine ∧ Q .non (upd H2 a (.dK (mergeK kvs more)))
def aMerge {κ β : Type} [DecidableEq κ] (m m2 : List (κ × β)) : List (κ × β) := m2.foldl (fun acc p => aPut acc p.1 p.2) m
section
variable {K : PySem.W.Frag} {F G : Hp} {κ β : Type} [DecidableEq κ] {kk : κ → Key} {kd : κ → PyData} {e : β → PyData}
end
section
variable {X : Cx} {C : XC} {ω : Type} {Γ : List SD} {b : Expr} {M : Res ω} {pos p apos : Pos} {k : Opd → List SD → Res ω → Prop}
end
end Tsa

/-! N101: a dict that was handed is walked; x.pop(k) of a slot's dict. -/
namespace Tsa
open PySem PySem.Spec PyProof.Rows L2
section
variable {K : PySem.W.Frag} {X : Cx} {C : XC} {pu pt : Bool} {ω α β τ : Type} {Γ : List SD} {e a b c tg : Expr} {M : Res ω} {pos p p2 apos : Pos} {k : Opd → List SD → Res ω → Prop} {kl : List SD → Res ω → Prop} {en : ω → EndK} {kS : List SD → List SD → Res ω → Prop}
end
section
variable {X : Cx} {C : XC} {ω : Type} {Γ : List SD} {b : Expr} {M : Res ω} {pos p apos : Pos} {k : Opd → List SD → Res ω → Prop}
end
end Tsa

/-! N102: dict(ps) of pairs that are read. -/
namespace Tsa
open PySem PySem.Spec PyProof.Rows L2
section
variable {X : Cx} {C : XC} {pu : Bool} {ω : Type} {Γ : List SD} {e : Expr} {M : Res ω} {pos pn : Pos} {k : Opd → List SD → Res ω → Prop}
end
end Tsa

/-! N103: for over a list that lies in a slot and stays there. -/
namespace Tsa
open PySem PySem.Spec PyProof.Rows L2
section
variable {X : Cx} {C : XC} {ω : Type} {Γ : List SD} {sts : List Stmt} {M : Res ω} {k : List SD → Res ω → Prop} {en : ω → EndK}
end
section
variable {X : Cx} {C : XC} {ω : Type} {Γ : List SD} {tg : Expr} {M : Res ω} {pos p pn pc : Pos} {k : List SD → Res ω → Prop} {en : ω → EndK}
end
end Tsa

/-! N104: a != b of two dicts of numbers that are equal. -/
namespace Tsa
open PySem PySem.Spec PyProof.Rows L2
/-- a != b, two equal dicts of numbers -/
def rNeDS : R2 := fun x y H Q => ∃ a b ks, x = .ref a ∧ y = .ref b ∧ H a = some (.dK ks) ∧ H b = some (.dK ks) ∧ (∀ p ∈ ks, valV ks p.1 = some p.2 ∧ ∃ i, p.2 = V.int i) ∧ Q (.bl false) H
section
variable {X : Cx} {C : XC} {pu : Bool} {ω : Type} {Γ : List SD} {M : Res ω} {p q : Pos} {k : Opd → List SD → Res ω → Prop}
end
end Tsa

namespace Tsa
open PySem PySem.Spec PySem.W PySem.Calls PyProof PyProof.Rows L2
/-! ### how many parts an own tuple has that lies in a slot -/
section
variable {X : Cx} {C : XC} {ω : Type} {pu : Bool} {Γ : List SD} {M : Res ω} {k : Opd → List SD → Res ω → Prop}
end
end Tsa

/-! N106: places: things by the ways to them (items, fields), looked at and changed where they lie; calls that are handed such things. -/
namespace Tsa
open PySem PySem.Spec PyProof.Rows L2
inductive Pth where
  | var (i : Nat)
  | ix (p : Pth) (n : Nat)
  | it (p : Pth) (n : Nat)
  | fl (p : Pth) (Ca : Addr) (f : Str)
def PV (H : Hp) (σ : L2.St) : Pth → V → Prop
  | .var i, w => σ[i]? = some (some w)
  | .ix p n, w => ∃ a vs, PV H σ p (.ref a) ∧ H a = some (.lst vs) ∧ vs[n]? = some w
  | .it p n, w => ∃ a vs, PV H σ p (.ref a) ∧ H a = some (.tup vs) ∧ vs[n]? = some w
  | .fl p Ca f, w => ∃ a dx fs, PV H σ p (.ref a) ∧ H a = some (.ins Ca dx fs) ∧ fs.lookup f = some w
section
variable {H H' : Hp} {σ : L2.St}
theorem PV.mono (x : Sub H H') : ∀ {q : Pth} {w : V}, PV H σ q w → PV H' σ q w
  | .var _, _, h => h
  | .ix _ _, _, ⟨a, vs, h1, h2, h3⟩ => ⟨a, vs, PV.mono x h1, x _ _ h2, h3⟩
  | .it _ _, _, ⟨a, vs, h1, h2, h3⟩ => ⟨a, vs, PV.mono x h1, x _ _ h2, h3⟩
  | .fl _ _ _, _, ⟨a, dx, fs, h1, h2, h3⟩ => ⟨a, dx, fs, PV.mono x h1, x _ _ h2, h3⟩
theorem PV.fn : ∀ {q : Pth} {w w' : V}, PV H σ q w → PV H σ q w' → w = w'
  | .var _, w, w', a, b => by
    have a : σ[_]? = some (some w) := a
    have b : σ[_]? = some (some w') := b
    rw [a] at b
    exact Option.some.inj (Option.some.inj b)
  | .ix _ _, _, _, ⟨a, vs, a1, a2, a3⟩, ⟨a', vs', b1, b2, b3⟩ => by
    cases PV.fn a1 b1
    rw [a2] at b2
    cases b2
    rw [a3] at b3
    exact Option.some.inj b3
  | .it _ _, _, _, ⟨a, vs, a1, a2, a3⟩, ⟨a', vs', b1, b2, b3⟩ => by
    cases PV.fn a1 b1
    rw [a2] at b2
    cases b2
    rw [a3] at b3
    exact Option.some.inj b3
  | .fl _ _ _, _, _, ⟨a, dx, fs, a1, a2, a3⟩, ⟨a', dx', fs', b1, b2, b3⟩ => by
    cases PV.fn a1 b1
    rw [a2] at b2
    cases b2
    rw [a3] at b3
    exact Option.some.inj b3
end
inductive Pl (Γ : List SD) : Pth → SD → (SD → List SD) → Prop
  | var {i : Nat} {s : SD} : Γ[i]? = some s → s ≠ .hole → Pl Γ (.var i) s (fun t => Γ.set i t)
  | pin {q : Pth} {v : V} {s : SD} {put : SD → List SD} : Pl Γ q (.pin v s) put → Pl Γ q s (fun t => put (.pin v t))
  | lst {q : Pth} {L : List SD} {n : Nat} {s : SD} {put : SD → List SD} : Pl Γ q (.lst L) put → L[n]? = some s → Pl Γ (.ix q n) s (fun t => put (.lst (L.set n t)))
  | tup {q : Pth} {L : List SD} {n : Nat} {s : SD} {put : SD → List SD} : Pl Γ q (.tup L) put → L[n]? = some s → Pl Γ (.it q n) s (fun t => put (.tup (L.set n t)))
  | fld {q : Pth} {Ca : Addr} {l : List (Str × SD)} {f : Str} {s : SD} {put : SD → List SD} : Pl Γ q (.obj Ca l) put → l.lookup f = some s → Pl Γ (.fl q Ca f) s (fun t => put (.obj Ca (putS f t l)))
theorem Pl.len {Γ : List SD} {q : Pth} {s : SD} {put : SD → List SD} (p : Pl Γ q s put) : ∀ t, (put t).length = Γ.length := by
  induction p with
  | var _ _ => intro t; rw [List.length_set]
  | pin _ ih => intro t; exact ih _
  | lst _ _ ih => intro t; exact ih _
  | tup _ _ ih => intro t; exact ih _
  | fld _ _ ih => intro t; exact ih _
section
variable {K : PySem.W.Frag} {F G : Hp} {Γ : List SD}
theorem Pl.ok {q : Pth} {s : SD} {put : SD → List SD} (p : Pl Γ q s put) (dd : Dis F G) : ∀ {h : Hp} {σ : L2.St}, EnvR K F G Γ h σ → ∃ v h1 h2, PV h σ q v ∧ Sub h1 h ∧ Sub h2 h ∧ Dis h1 h2 ∧ own K F G s h1 v ∧
    ∀ (F' : Hp) (s' : SD) (h1' h' : Hp), Sub F F' → Dis F' G → own K F' G s' h1' v → Dis h1' h2 → Sub h1' h' → Sub h2 h' → EnvR K F' G (put s') h' σ := by
  induction p with
  | var hi ne =>
    intro h σ he
    obtain ⟨o, h1, h2, e, s1, s2, d12, w, back⟩ := he.at hi
    obtain ⟨v, ev, wv⟩ := w.val ne
    subst ev
    refine ⟨v, h1, h2, e, s1, s2, d12, wv, fun F' s' h1' h' xf xd w' d' z1 z2 => ?_⟩
    have z := back F' s' (some v) h1' h' xf xd (.of w') d' z1 z2
    have es : ∀ {i : Nat}, σ[i]? = some (some v) → σ.set i (some v) = σ := fun {i} eo => by
      obtain ⟨hi', e'⟩ := List.getElem?_eq_some_iff.mp eo
      rw [← e']; exact List.set_getElem_self hi'
    rw [es e] at z
    exact z
  | pin _ ih =>
    intro h σ he
    obtain ⟨v, h1, h2, pv, s1, s2, d12, w, back⟩ := ih he
    unfold own at w
    refine ⟨v, h1, h2, pv, s1, s2, d12, w.2, fun F' s' h1' h' xf xd w' d' z1 z2 => back F' _ h1' h' xf xd ?_ d' z1 z2⟩
    unfold own
    exact ⟨w.1, w'⟩
  | @lst q L n s put _ e ih =>
    intro h σ he
    obtain ⟨u, k1, k2, pv, s1, s2, d12, wu, back⟩ := ih he
    unfold own at wu
    obtain ⟨p, vs, h', e0, q1, q2, q3, ol⟩ := wu
    subst e0
    obtain ⟨v, b1, b2, ev, t1, t2, d3, wv, put'⟩ := ownL_at ol e
    have nb1 : b1 p = none := t1.no q3
    have nb2 : b2 p = none := t2.no q3
    have nk2 : k2 p = none := d12.no q1
    have dA : Dis (sgl p (HO.lst vs)) (cup b2 k2) := Dis.one (by rw [cup_none nb2]; exact nk2)
    have dB : Dis b2 k2 := d12.mono (t2.trans q2) .refl
    have dC : Dis b1 k2 := d12.mono (t1.trans q2) .refl
    refine ⟨v, b1, cup (sgl p (.lst vs)) (cup b2 k2), ⟨p, vs, pv, s1 _ _ q1, ev⟩, (t1.trans q2).trans s1, Sub.cup ((Sub.one q1).trans s1) (Sub.cup ((t2.trans q2).trans s1) s2), (Dis.cup (Dis.one nb1) (Dis.cup d3.symm dC.symm)).symm, wv, fun F' s' h1' h2' xf xd w' d' z1 z2 => ?_⟩
    have dk1 : Dis h1' (cup b2 k2) := d'.mono .refl (.r dA)
    have nk : h1' p = none := d'.symm.no (cup_some one_same)
    have dkb : Dis h1' b2 := dk1.mono .refl .l
    have dkc : Dis h1' k2 := dk1.mono .refl (.r dB)
    have p1 := put' F' s' h1' xf xd w' dkb
    have nn : cup h1' b2 p = none := by rw [cup_none nk]; exact nb2
    have W : own K F' G (.lst (L.set n s')) (cup (sgl p (.lst vs)) (cup h1' b2)) (.ref p) := by
      unfold own
      exact ⟨p, vs, cup h1' b2, rfl, cup_some one_same, .r (Dis.one nn), nn, p1⟩
    exact back F' _ _ h2' xf xd W (Dis.cup (Dis.one nk2) (Dis.cup dkc dB)) (Sub.cup (Sub.l.trans z2) (Sub.cup z1 ((Sub.l.trans (.r dA)).trans z2))) (((Sub.r dB).trans (.r dA)).trans z2)
  | @tup q L n s put _ e ih =>
    intro h σ he
    obtain ⟨u, k1, k2, pv, s1, s2, d12, wu, back⟩ := ih he
    unfold own at wu
    obtain ⟨p, vs, h', e0, q1, q2, q3, ol⟩ := wu
    subst e0
    obtain ⟨v, b1, b2, ev, t1, t2, d3, wv, put'⟩ := ownL_at ol e
    have nb1 : b1 p = none := t1.no q3
    have nb2 : b2 p = none := t2.no q3
    have nk2 : k2 p = none := d12.no q1
    have dA : Dis (sgl p (HO.tup vs)) (cup b2 k2) := Dis.one (by rw [cup_none nb2]; exact nk2)
    have dB : Dis b2 k2 := d12.mono (t2.trans q2) .refl
    have dC : Dis b1 k2 := d12.mono (t1.trans q2) .refl
    refine ⟨v, b1, cup (sgl p (.tup vs)) (cup b2 k2), ⟨p, vs, pv, s1 _ _ q1, ev⟩, (t1.trans q2).trans s1, Sub.cup ((Sub.one q1).trans s1) (Sub.cup ((t2.trans q2).trans s1) s2), (Dis.cup (Dis.one nb1) (Dis.cup d3.symm dC.symm)).symm, wv, fun F' s' h1' h2' xf xd w' d' z1 z2 => ?_⟩
    have dk1 : Dis h1' (cup b2 k2) := d'.mono .refl (.r dA)
    have nk : h1' p = none := d'.symm.no (cup_some one_same)
    have dkb : Dis h1' b2 := dk1.mono .refl .l
    have dkc : Dis h1' k2 := dk1.mono .refl (.r dB)
    have p1 := put' F' s' h1' xf xd w' dkb
    have nn : cup h1' b2 p = none := by rw [cup_none nk]; exact nb2
    have W : own K F' G (.tup (L.set n s')) (cup (sgl p (.tup vs)) (cup h1' b2)) (.ref p) := by
      unfold own
      exact ⟨p, vs, cup h1' b2, rfl, cup_some one_same, .r (Dis.one nn), nn, p1⟩
    exact back F' _ _ h2' xf xd W (Dis.cup (Dis.one nk2) (Dis.cup dkc dB)) (Sub.cup (Sub.l.trans z2) (Sub.cup z1 ((Sub.l.trans (.r dA)).trans z2))) (((Sub.r dB).trans (.r dA)).trans z2)
  | @fld q Ca l f s put _ e ih =>
    intro h σ he
    obtain ⟨u, k1, k2, pv, s1, s2, d12, wu, back⟩ := ih he
    unfold own at wu
    obtain ⟨p, dx, fs, h', e0, q1, q2, q3, ol⟩ := wu
    subst e0
    obtain ⟨v, b1, b2, ev, t1, t2, d3, wv, put'⟩ := ownF_at ol e
    have nb1 : b1 p = none := t1.no q3
    have nb2 : b2 p = none := t2.no q3
    have nk2 : k2 p = none := d12.no q1
    have dA : Dis (sgl p (HO.ins Ca dx fs)) (cup b2 k2) := Dis.one (by rw [cup_none nb2]; exact nk2)
    have dB : Dis b2 k2 := d12.mono (t2.trans q2) .refl
    have dC : Dis b1 k2 := d12.mono (t1.trans q2) .refl
    refine ⟨v, b1, cup (sgl p (.ins Ca dx fs)) (cup b2 k2), ⟨p, dx, fs, pv, s1 _ _ q1, ev⟩, (t1.trans q2).trans s1, Sub.cup ((Sub.one q1).trans s1) (Sub.cup ((t2.trans q2).trans s1) s2), (Dis.cup (Dis.one nb1) (Dis.cup d3.symm dC.symm)).symm, wv, fun F' s' h1' h2' xf xd w' d' z1 z2 => ?_⟩
    have dk1 : Dis h1' (cup b2 k2) := d'.mono .refl (.r dA)
    have nk : h1' p = none := d'.symm.no (cup_some one_same)
    have dkb : Dis h1' b2 := dk1.mono .refl .l
    have dkc : Dis h1' k2 := dk1.mono .refl (.r dB)
    obtain ⟨p1, p2⟩ := put' F' s' v h1' xf xd w' dkb
    rw [p2 rfl] at p1
    have nn : cup h1' b2 p = none := by rw [cup_none nk]; exact nb2
    have W : own K F' G (.obj Ca (putS f s' l)) (cup (sgl p (.ins Ca dx fs)) (cup h1' b2)) (.ref p) := by
      unfold own
      exact ⟨p, dx, fs, cup h1' b2, rfl, cup_some one_same, .r (Dis.one nn), nn, p1⟩
    exact back F' _ _ h2' xf xd W (Dis.cup (Dis.one nk2) (Dis.cup dkc dB)) (Sub.cup (Sub.l.trans z2) (Sub.cup z1 ((Sub.l.trans (.r dA)).trans z2))) (((Sub.r dB).trans (.r dA)).trans z2)
end
/-- an expression that tells such a way -/
inductive PlE (X : Cx) (Γ : List SD) : Expr → Pth → Prop
  | name {i : Nat} {x : Str} {p : Pos} (hN : X.N[i]? = some x := by rfl) (hv : Vis X.env.scope x := by first | exact Or.inl rfl | exact Or.inr (Or.inl rfl) | exact Or.inr (Or.inr rfl)) (hd : (x == ("__debug__" : Str)) = false := by decide) (hcd : (x == ("__classdict__" : Str)) = false := by decide) : PlE X Γ (.Name x p) (.var i)
  | ix {e : Expr} {q : Pth} (n : Nat) {j : _} {p1 p2 : Pos} (h : PlE X Γ e q) : PlE X Γ (.Subscript e (.Constant (.int (n : Nat)) j p1) p2) (.ix q n)
  | it {e : Expr} {q : Pth} (n : Nat) {j : _} {p1 p2 : Pos} (h : PlE X Γ e q) : PlE X Γ (.Subscript e (.Constant (.int (n : Nat)) j p1) p2) (.it q n)
  | ixV {e : Expr} {q : Pth} {i : Nat} {z : Int} {x : Str} {p1 p2 : Pos} (h : PlE X Γ e q) (hΓ : Γ[i]? = some (.val (.int z))) (hz : 0 ≤ z) (hN : X.N[i]? = some x := by rfl) (hv : Vis X.env.scope x := by first | exact Or.inl rfl | exact Or.inr (Or.inl rfl) | exact Or.inr (Or.inr rfl)) (hd : (x == ("__debug__" : Str)) = false := by decide) (hcd : (x == ("__classdict__" : Str)) = false := by decide) : PlE X Γ (.Subscript e (.Name x p1) p2) (.ix q z.toNat)
  | fl {e : Expr} {q : Pth} {Ca : Addr} {f : Str} {p2 : Pos} (h : PlE X Γ e q) (hF : HasF X.K Ca f) (hb : attributeBase e f X.env (eval e X.env) = eval e X.env := by rfl) : PlE X Γ (.Attribute e f p2) (.fl q Ca f)
theorem PlE.ok {X : Cx} {Γ : List SD} {e : Expr} {q : Pth} (p : PlE X Γ e q) {F G h H : Hp} {σ : L2.St} (he : EnvR X.K F G Γ h σ) (x : Sub h H) : ∀ {v : V} {Q : VK}, PV h σ q v → Q v H → semE X e σ H Q := by
  induction p with
  | name hN hv hd hcd => exact fun {v Q} pv hq => semE_of (pe_var hN hv hd hcd) ⟨v, pv, hq⟩
  | ix n _ ih =>
    rintro v Q ⟨a, vs, pv, hH, e⟩ hq
    exact semE_of (pe_ix ix_list pe_sem pe_int (fun _ _ => rfl)) (ih pv ⟨a, vs, (n : Nat), v, rfl, rfl, .of (x _ _ hH), at_nat e, hq⟩)
  | it n _ ih =>
    rintro v Q ⟨a, vs, pv, hH, e⟩ hq
    exact semE_of (pe_ix ix_tup pe_sem pe_int (fun _ _ => rfl)) (ih pv ⟨a, vs, (n : Nat), v, rfl, rfl, .inl (.inl (x _ _ hH)), at_nat e, hq⟩)
  | @ixV e q i z y p1 p2 _ hΓ hz hN hv hd hcd ih =>
    rintro v Q ⟨a, vs, pv, hH, e⟩ hq
    obtain ⟨o, k1, k2, eo, s1, s2, d12, w, _⟩ := he.at hΓ
    obtain ⟨u, rfl, wu⟩ := w.val (fun z => nomatch z)
    unfold own at wu
    obtain rfl := wu.intV
    refine semE_of (pe_ix ix_list pe_sem (pe_var hN hv hd hcd) (fun _ _ => rfl)) (ih pv ⟨.int z, eo, a, vs, z, v, rfl, rfl, .of (x _ _ hH), ?_, hq⟩)
    have := at_nat e
    rw [Int.toNat_of_nonneg hz] at this
    exact this
  | fl _ hF hb ih =>
    rintro v Q ⟨a, dx, fs, pv, hH, e⟩ hq
    exact semE_of (pe_fld pe_sem hb) (ih pv ⟨a, _, dx, fs, v, rfl, x _ _ hH, hF.cls, hF.no, e, hq⟩)
section
variable {X : Cx} {C : XC} {pu : Bool} {ω : Type} {Γ : List SD} {b e : Expr} {M : Res ω} {pos apos : Pos} {k : Opd → List SD → Res ω → Prop} {q : Pth} {put : SD → List SD}
/-- a thing where it lies, its place told from now on -/
theorem JE.plPin {s : SD} (pe : PlE X Γ e q) (pl : Pl Γ q s put) (hk : ∀ v, k (.own (.pin v .hole)) (put (.pin v s)) M) : JE X C false Γ e M k := fun F h g H σ Q he hf hG hu hx hq => by
  obtain ⟨v, h1, h2, pv, s1, s2, d12, w, back⟩ := pl.ok (hf.G hG) he
  refine pe.ok he hf.hH pv (hq (.own (.pin v .hole)) (put (.pin v s)) M (hk v) rfl v F emp h H .refl ?_ (back F (.pin v s) h1 h .refl (hf.G hG) ?_ d12 s1 s2) .emp hf.emp fun z => nomatch z)
  · unfold OpdOk own
    exact ⟨rfl, by unfold own; trivial⟩
  · unfold own
    exact ⟨rfl, w⟩
/-- a place's list, and how it is written -/
theorem pl_upd {s : SD} {l : List SD} {F G ha h g H : Hp} {σ : L2.St} {K : PySem.W.Frag} (pl : Pl Γ q s put) (sl0 : ∀ {h : Hp} {v : V}, own K F G s h v → own K F G (.lst l) h v) (he : EnvR K F G Γ h σ) (dd : Dis ha h) (hf : Fits F (cup ha h) g H) (hG : Sub G g) :
    ∃ p vs h', PV h σ q (.ref p) ∧ H p = some (.lst vs) ∧ ownL K F G l h' vs ∧ Sub h' h ∧ Dis ha h' ∧
      ∀ (l' : List SD) (vs' : List V) (hl hx : Hp), ownL K F G l' hl vs' → Sub hl (cup ha h') → Sub hx (cup ha h') → Dis hx hl → ∃ h2, EnvR K F G (put (.lst l')) h2 σ ∧ Dis hx h2 ∧ Fits F (cup hx h2) g (upd H p (.lst vs')) := by
  obtain ⟨u, k1, k2, pv, s1, s2, d12, wu, back⟩ := pl.ok (hf.G hG) he
  have wu := sl0 wu
  unfold own at wu
  obtain ⟨p, vs, h', e, q1, q2, q3, q4⟩ := wu
  subst e
  have ph : h p = some (.lst vs) := s1 _ _ q1
  have nk2 : k2 p = none := d12.no q1
  have nha : ha p = none := dd.symm.no ph
  have s3 : Sub h' h := q2.trans s1
  refine ⟨p, vs, h', pv, hf.hH _ _ (Sub.r dd _ _ ph), q4, s3, dd.mono .refl s3, fun l' vs' hl hx w' sl sx dx => ?_⟩
  have nc : cup ha h' p = none := by rw [cup_none nha]; exact q3
  have nl : hl p = none := sl.no nc
  have nx : hx p = none := sx.no nc
  have dk : Dis (cup ha h') k2 := Dis.cup (dd.mono .refl s2) (d12.mono q2 .refl)
  have dl2 : Dis hl k2 := dk.mono sl .refl
  have dx2 : Dis hx k2 := dk.mono sx .refl
  have W : own K F G (.lst l') (cup (sgl p (.lst vs')) hl) (.ref p) := by
    unfold own
    exact ⟨p, vs', hl, rfl, cup_some one_same, .r (Dis.one nl), nl, w'⟩
  have E2 := back F (.lst l') (cup (sgl p (.lst vs')) hl) (cup (cup (sgl p (.lst vs')) hl) k2) .refl (hf.G hG) W (Dis.cup (Dis.one nk2) dl2) .l (.r (Dis.cup (Dis.one nk2) dl2))
  have dxh : Dis hx (cup (cup (sgl p (.lst vs')) hl) k2) := (Dis.cup (Dis.cup (Dis.one nx) dx.symm) dx2.symm).symm
  have sub0 : Sub (cup ha h') (cup ha h) := Sub.cup2 .refl s3 dd
  have f1 : Fits F (cup (sgl p (.lst vs)) (cup (cup hx hl) k2)) g H := hf.sub (Sub.cup ((Sub.one ph).trans (.r dd)) (Sub.cup (Sub.cup (sx.trans sub0) (sl.trans sub0)) (s2.trans (.r dd))))
  have n1 : cup (cup hx hl) k2 p = none := by rw [cup_none (by rw [cup_none nx]; exact nl)]; exact nk2
  have f2 : Fits F (cup (sgl p (.lst vs')) (cup (cup hx hl) k2)) g (upd H p (.lst vs')) := f1.upd n1
  have dp : Dis (sgl p (HO.lst vs')) (cup (cup hx hl) k2) := Dis.one n1
  have dxl : Dis (cup hx hl) k2 := Dis.cup dx2 dl2
  exact ⟨_, E2, dxh, f2.sub (Sub.cup ((Sub.l.trans .l).trans (.r dp)) (Sub.cup (Sub.cup .l (((Sub.r dx).trans .l).trans (.r dp))) ((Sub.r dxl).trans (.r dp))))⟩
/-- b.append(e), b a place -/
theorem JE.appendP {α : Type} {f : α → SD} {l : List SD} (pe : PlE X Γ b q) (pl : Pl Γ q (.lst l) put)
    (h : ∀ v, JE X C false (put (.pin v (.lst l))) e M fun o Γ1 M1 => ∃ (xs : List α) (y : α) (put1 : SD → List SD) (M2 : Res ω), o = .own (f y) ∧ Pl Γ1 q (.pin v (.lst (xs.map f))) put1 ∧ (M1 ≠ .un → M1 = M2 ∧ xs.length < 16000000) ∧ k (.own (.val .none)) (put1 (.lst ((xs ++ [y]).map f))) M2)
    (hbase : attributeBase b "append" X.env (eval b X.env) = eval b X.env := by rfl)
    (hfew : ((backTo pos (starEach (e :: []) X.env)).all (fun x => !x.1) && (backToKw pos (keywordEach [] X.env)).all (fun x => x.1.isSome) && decide ((e :: []).length + ([] : List Keyword).length + (if ([] : List Keyword).isEmpty then 0 else 1) < 30)) = true := by rfl)
    (hline : (apos.endLine == pos.line) = true := by rfl) (hs : starEach (e :: []) X.env = (false, eval e X.env) :: starEach [] X.env := by rfl) (hpl : (backTo pos (starEach [] X.env)).any (·.1) = false := by rfl) :
    JE X C false Γ (.Call (.Attribute b "append" apos) [e] [] pos) M k :=
  JE.of (pe_bm (T := "list") PySem.F.plainAttrs_list PySem.F.slot_list_append PySem.F.type_list_append mt_append pe_sem pa_sem hbase hfew hline hs hpl) fun F h0 g H σ Q he hf hG hu hx hq => by
    obtain ⟨v, k1, k2, pv, s1, s2, d12, w, back⟩ := pl.ok (hf.G hG) he
    have w0 := w
    unfold own at w
    obtain ⟨p, vs, h', e0, q1, q2, q3, ol⟩ := w
    subst e0
    have wp : own X.K F C.G (.pin (.ref p) (.lst l)) k1 (.ref p) := by
      unfold own
      exact ⟨rfl, w0⟩
    have he2 := back F (.pin (.ref p) (.lst l)) k1 h0 .refl (hf.G hG) wp d12 s1 s2
    refine pe.ok he hf.hH pv ⟨tyV_lst (hf.hH _ _ (s1 _ _ q1)), JA.one (pu := false) (ka := fun os Γ1 M1 => ∃ o, os = [o] ∧ ∃ (xs : List α) (y : α) (put1 : SD → List SD) (M2 : Res ω), o = .own (f y) ∧ Pl Γ1 q (.pin (.ref p) (.lst (xs.map f))) put1 ∧ (M1 ≠ .un → M1 = M2 ∧ xs.length < 16000000) ∧ k (.own (.val .none)) (put1 (.lst ((xs ++ [y]).map f))) M2) ((h (.ref p)).mono fun o Γ1 M1 hk => ⟨o, rfl, hk⟩) hs F h0 g H σ _ he2 hf hG hu hx fun os Γ1 M1 ⟨o, eos, xs, y, put1, M2, eo, pl1, hM, hk⟩ hm us F' h1 h2 H' x ow he' d hf' hp => ?_⟩
    subst eos eo hm
    obtain ⟨eM, hl⟩ := hM hu
    subst eM
    obtain ⟨u, ha, eu, sa, wu⟩ := ow.one
    subst eu
    unfold OpdOk at wu
    have hf2 : Fits F' (cup ha h2) g H' := hf'.sub (Sub.cup2 sa .refl d)
    have da : Dis ha h2 := d.mono sa .refl
    obtain ⟨v', c1, c2, pv1, t1, t2, d3, w1, _⟩ := pl1.ok (hf'.G hG) he'
    unfold own at w1
    obtain ⟨ev, _⟩ := w1
    subst ev
    obtain ⟨p', vs', h'', pv2, hH, wl, sh, dh, upd'⟩ := pl_upd (l := xs.map f) pl1 (fun w => by unfold own at w; exact w.2) he' da hf2 hG
    cases pv1.fn pv2
    have len := ownL_len wl
    rw [List.length_map] at len
    have eap : (xs ++ [y]).map f = xs.map f ++ [f y] := by rw [List.map_append]; rfl
    obtain ⟨h3, E3, d3', f3⟩ := upd' ((xs ++ [y]).map f) (vs' ++ [u]) (cup h'' ha) emp (by rw [eap]; exact ownL_app wl wu dh.symm) (Sub.cup (.r dh) .l) .emp .emp
    exact ⟨p, vs', u, rfl, rfl, hH, by rw [len]; exact Nat.lt_of_lt_of_le hl (by decide), hq _ _ M1 hk rfl .non F' emp h3 _ x (by unfold OpdOk own; exact .non) E3 .emp f3 fun z => nomatch z⟩
/-- the same place, where another thing lies there -/
theorem look_putS {f : Str} {t : SD} : ∀ {l : List (Str × SD)} {s : SD}, l.lookup f = some s → (putS f t l).lookup f = some t
  | [], _, h => nomatch h
  | (n, u) :: r, s, h => by
    rw [List.lookup_cons] at h
    unfold putS
    cases c : f == n with
    | true => rw [if_pos (beq_yes c), List.lookup_cons, c]
    | false =>
      rw [c] at h
      rw [if_neg (beq_ne c), List.lookup_cons, c]
      exact look_putS h
theorem putS_again {f : Str} {t u : SD} : ∀ {l : List (Str × SD)} {s : SD}, l.lookup f = some s → putS f u (putS f t l) = putS f u l
  | [], _, h => nomatch h
  | (n, w) :: r, s, h => by
    rw [List.lookup_cons] at h
    cases c : f == n with
    | true =>
      have e := beq_yes c
      have e1 : ∀ (x y : SD) (r : List (Str × SD)), putS f x ((n, y) :: r) = (n, x) :: r := fun x y r => by
        show (if n = f then (n, x) :: r else (n, y) :: putS f x r) = _
        rw [if_pos e]
      rw [e1, e1, e1]
    | false =>
      rw [c] at h
      have e := beq_ne c
      show putS f u (putS f t ((n, w) :: r)) = putS f u ((n, w) :: r)
      have e1 : ∀ (x : SD) (r : List (Str × SD)), putS f x ((n, w) :: r) = (n, w) :: putS f x r := fun x r => by
        show (if n = f then (n, x) :: r else (n, w) :: putS f x r) = _
        rw [if_neg e]
      rw [e1, e1, e1, putS_again h]
theorem Pl.re {s : SD} (p : Pl Γ q s put) : ∀ t, t ≠ .hole → ∃ put', Pl (put t) q t put' ∧ ∀ u, put' u = put u := by
  induction p with
  | @var i s hi ne =>
    intro t ht
    exact ⟨_, .var (by rw [List.getElem?_set_self (List.getElem?_eq_some_iff.mp hi).1]) ht, fun u => by rw [List.set_set]⟩
  | @pin q v s put _ ih =>
    intro t ht
    obtain ⟨put', h1, h2⟩ := ih (.pin v t) (fun z => nomatch z)
    exact ⟨_, .pin h1, fun u => h2 _⟩
  | @lst q L n s put _ e ih =>
    intro t ht
    obtain ⟨put', h1, h2⟩ := ih (.lst (L.set n t)) (fun z => nomatch z)
    exact ⟨_, .lst h1 (by rw [List.getElem?_set_self (List.getElem?_eq_some_iff.mp e).1]), fun u => by rw [h2, List.set_set]⟩
  | @tup q L n s put _ e ih =>
    intro t ht
    obtain ⟨put', h1, h2⟩ := ih (.tup (L.set n t)) (fun z => nomatch z)
    exact ⟨_, .tup h1 (by rw [List.getElem?_set_self (List.getElem?_eq_some_iff.mp e).1]), fun u => by rw [h2, List.set_set]⟩
  | @fld q Ca l f s put _ e ih =>
    intro t ht
    obtain ⟨put', h1, h2⟩ := ih (.obj Ca (putS f t l)) (fun z => nomatch z)
    exact ⟨_, .fld h1 (look_putS e), fun u => by rw [h2, putS_again e]⟩
/-- b.append(e), what e tells is pure -/
theorem JE.appendPV {α : Type} {f : α → SD} {xs : List α} {y : α} {M2 : Res ω} (pe : PlE X Γ b q) (pl : Pl Γ q (.lst (xs.map f)) put) (hc : ∀ t, JVt X C (put t) e (.own (f y))) (hM : M ≠ .un → M = M2 ∧ xs.length < 16000000) (hk : k (.own (.val .none)) (put (.lst ((xs ++ [y]).map f))) M2)
    (hbase : attributeBase b "append" X.env (eval b X.env) = eval b X.env := by rfl)
    (hfew : ((backTo pos (starEach (e :: []) X.env)).all (fun x => !x.1) && (backToKw pos (keywordEach [] X.env)).all (fun x => x.1.isSome) && decide ((e :: []).length + ([] : List Keyword).length + (if ([] : List Keyword).isEmpty then 0 else 1) < 30)) = true := by rfl)
    (hline : (apos.endLine == pos.line) = true := by rfl) (hs : starEach (e :: []) X.env = (false, eval e X.env) :: starEach [] X.env := by rfl) (hpl : (backTo pos (starEach [] X.env)).any (·.1) = false := by rfl) :
    JE X C false Γ (.Call (.Attribute b "append" apos) [e] [] pos) M k :=
  JE.appendP pe pl (fun v => JE.tot (hc _) (by
    obtain ⟨put', h1, h2⟩ := pl.re (.pin v (.lst (xs.map f))) (fun z => nomatch z)
    exact ⟨xs, y, put', M2, rfl, h1, hM, by rw [h2]; exact hk⟩)) hbase hfew hline hs hpl
/-- b.clear() -/
theorem JE.clearP {l : List SD} (pe : PlE X Γ b q) (pl : Pl Γ q (.lst l) put) (hk : k (.own (.val .none)) (put (.lst [])) M)
    (hbase : attributeBase b "clear" X.env (eval b X.env) = eval b X.env := by rfl) (hline : (apos.endLine == pos.line) = true := by rfl) : JE X C false Γ (.Call (.Attribute b "clear" apos) [] [] pos) M k :=
  JE.of (pe_bm0 PySem.F.plainAttrs_list PySem.F.slot_list_clear PySem.F.type_list_clear mt_clear pe_sem hbase hline) fun F h0 g H σ Q he hf hG hu hx hq => by
    obtain ⟨p, vs, h', pv, hH, wl, sh, dh, upd'⟩ := pl_upd (ha := Tsa.emp) pl (fun w => w) he .emp hf.emp hG
    obtain ⟨h3, E3, d3, f3⟩ := upd' [] [] emp emp (by unfold ownL; rfl) .emp .emp .emp
    exact pe.ok he hf.hH pv ⟨tyV_lst hH, p, vs, rfl, rfl, hH, hq _ _ M hk rfl .non F emp h3 _ .refl (by unfold OpdOk own; exact .non) E3 .emp f3 fun z => nomatch z⟩
/-- the last thing taken off, where there is one -/
def unsn {α : Type} (xs : List α) : Res (α × List α) := match xs.getLast? with
  | some y => .ok (y, xs.dropLast)
  | none => .un
end
end Tsa

/-! N107: for y in x: y.append(-c), x a list of a list of lists of numbers and of lists of numbers: spoilt for good. -/
namespace Tsa
open PySem PySem.Spec PyProof.Rows L2
section
variable {X : Cx} {C : XC} {ω : Type} {Γ A B : List SD} {rest : List Stmt} {M : Res ω} {pos : Pos} {k : List SD → Res ω → Prop} {en : ω → EndK}
end
end Tsa

/-! N108: calls without arguments. -/
namespace Tsa
open PySem PySem.Spec PyProof.Rows L2
end Tsa

/-! N109: what lies at a place is borrowed; calls that are handed places; x[n] op= e; x.reverse(); defs with defaults. -/
namespace Tsa
open PySem PySem.Spec PyProof.Rows L2
section
variable {X : Cx} {C : XC} {pu : Bool} {ω : Type} {Γ : List SD} {b e : Expr} {M : Res ω} {pos apos : Pos} {k : Opd → List SD → Res ω → Prop} {q : Pth} {put : SD → List SD}
/-- b.reverse() -/
theorem JE.revP {α : Type} {f : α → SD} {xs : List α} (pe : PlE X Γ b q) (pl : Pl Γ q (.lst (xs.map f)) put) (hk : k (.own (.val .none)) (put (.lst (xs.reverse.map f))) M)
    (hbase : attributeBase b "reverse" X.env (eval b X.env) = eval b X.env := by rfl) (hline : (apos.endLine == pos.line) = true := by rfl) : JE X C false Γ (.Call (.Attribute b "reverse" apos) [] [] pos) M k :=
  JE.of (pe_bm0 PySem.F.plainAttrs_list PySem.F.slot_list_reverse PySem.F.type_list_reverse mt_reverse pe_sem hbase hline) fun F h0 g H σ Q he hf hG hu hx hq => by
    obtain ⟨p, vs, h', pv, hH, wl, sh, dh, upd'⟩ := pl_upd (ha := Tsa.emp) pl (fun w => w) he .emp hf.emp hG
    have rv : ∀ {l : List SD} {h : Hp} {vs : List V}, ownL X.K F C.G l h vs → ownL X.K F C.G l.reverse h vs.reverse := by
      intro l
      induction l with
      | nil => intro h vs w; unfold ownL at w; subst w; show ownL X.K F C.G [] h []; unfold ownL; rfl
      | cons s l ih =>
        intro h vs w
        unfold ownL at w
        obtain ⟨v, vr, k1, k2, e, t1, t2, d, wv, w⟩ := w
        subst e
        rw [List.reverse_cons, List.reverse_cons]
        exact ownL_mono .refl .refl _ (Sub.cup t2 t1) (ownL_app (ih w) wv d.symm)
    have w2 := rv wl
    rw [← List.map_reverse] at w2
    obtain ⟨h3, E3, d3, f3⟩ := upd' (xs.reverse.map f) vs.reverse h' emp w2 (.r .emp) .emp .emp
    exact pe.ok he hf.hH pv ⟨tyV_lst hH, p, vs, rfl, rfl, hH, hq _ _ M hk rfl .non F emp h3 _ .refl (by unfold OpdOk own; exact .non) E3 .emp f3 fun z => nomatch z⟩
end
/-! ### calls that are handed places -/
def Opd.sv : Opd → Bool
  | .own _ => true
  | .at _ => true
  | _ => false
inductive ArgsP {ω ω' ι : Type} (args : ι → List SD) (mir : ι → Res ω') (ret : ι → ω' → SD) (out : ι → ω' → List SD) (xout : ι → List SD) : XC → (Opd → List SD → Res ω → Prop) → List Opd → List SD → Res ω → Prop
  | base {C : XC} {k : Opd → List SD → Res ω → Prop} {os : List Opd} {Γ1 : List SD} {M1 : Res ω} : Args C args mir ret out xout [] false k os Γ1 M1 → ArgsP args mir ret out xout C k os Γ1 M1
  | step {C : XC} {k : Opd → List SD → Res ω → Prop} {os : List Opd} {Γ1 : List SD} {M1 : Res ω} {j : Nat} {q : Pth} {v : V} {s : SD} {put : SD → List SD} : os[j]? = some (.own (.pin v .hole)) → os.all Opd.sv = true → Pl Γ1 q (.pin v s) put →
      ArgsP args mir ret out xout (moreX C) (fun o Γ2 M2 => ∃ Γ3 s' put2, (∃ t, o = .own t) ∧ Γ2 = Γ3 ++ [.pin v s'] ∧ Pl Γ3 q (.pin v .hole) put2 ∧ k o (put2 s') M2) (os.set j (.at Γ1.length)) (put (.pin v .hole) ++ [.pin v s]) M1 → ArgsP args mir ret out xout C k os Γ1 M1
theorem opds_more {K : PySem.W.Frag} {F G h2 h2' : Hp} {σ : L2.St} {u : Option V} : ∀ {os : List Opd} {h1 : Hp} {vs : List V}, os.all Opd.sv = true → OpdsOk K F G os h1 h2 σ vs → OpdsOk K F G os h1 h2' (σ ++ [u]) vs
  | [], _, _, _, q => q
  | o :: os, h1, vs, a, ⟨v, vr, ha, hb, e, s1, s2, dd, w, q⟩ => by
    rw [List.all_cons, Bool.and_eq_true] at a
    refine ⟨v, vr, ha, hb, e, s1, s2, dd, ?_, opds_more a.2 q⟩
    cases o with
    | own s => exact w
    | «at» j =>
      have w' : σ[j]? = some (some v) := w
      show (σ ++ [u])[j]? = _
      rw [List.getElem?_append_left (List.getElem?_eq_some_iff.mp w').1]
      exact w'
    | bor d => exact absurd a.1 (by intro z; cases z)
    | fl i f => exact absurd a.1 (by intro z; cases z)
    | brw s => exact absurd a.1 (by intro z; cases z)
theorem opds_pin {K : PySem.W.Frag} {F G h2 : Hp} {σ : L2.St} {v : V} {n : Nat} (hn : σ[n]? = some (some v)) : ∀ {os : List Opd} {j : Nat} {h1 : Hp} {vs : List V}, os[j]? = some (.own (.pin v .hole)) → OpdsOk K F G os h1 h2 σ vs → OpdsOk K F G (os.set j (.at n)) h1 h2 σ vs
  | [], _, _, _, e, _ => by cases e
  | o :: os, 0, h1, vs, e, ⟨u, vr, ha, hb, e2, s1, s2, dd, w, q⟩ => by
    cases e
    refine ⟨u, vr, ha, hb, e2, s1, s2, dd, ?_, q⟩
    unfold OpdOk own at w
    rw [w.1]
    exact hn
  | o :: os, j + 1, h1, vs, e, ⟨u, vr, ha, hb, e2, s1, s2, dd, w, q⟩ => ⟨u, vr, ha, hb, e2, s1, s2, dd, w, opds_pin hn (j := j) e q⟩
theorem argsP_sp {X : Cx} {ω ω' ι : Type} {args : ι → List SD} {mir : ι → Res ω'} {ret : ι → ω' → SD} {out : ι → ω' → List SD} {xout : ι → List SD} {C : XC} {k : Opd → List SD → Res ω → Prop} {os : List Opd} {Γ1 : List SD} {M1 : Res ω} (A : ArgsP args mir ret out xout C k os Γ1 M1)
    (nr : ∀ i r, NR (ret i r)) (no : ∀ i r, NRL (out i r)) (nx : ∀ i, NRL (xout i)) (nex : ∀ i e, mir i = .ex e → NRF e.flds) : ∀ {F1 h1 h2 g H1 : Hp} {σ : L2.St} {vs : List V} {Q : VK}, OpdsOk X.K F1 C.G os h1 h2 σ vs → EnvR X.K F1 C.G Γ1 h2 σ → Dis h1 h2 → Fits F1 (cup h1 h2) g H1 → Sub C.G g → M1 ≠ .un → XOk X.K C F1 g M1 →
    (∀ (o : Opd) (Γ' : List SD) (M' : Res ω), k o Γ' M' → M' = M1 → ∀ (v : V) (F' k1 k2 H' : Hp), Sub F1 F' → OpdOk X.K F' C.G k1 k2 σ o v → EnvR X.K F' C.G Γ' k2 σ → Dis k1 k2 → Fits F' (cup k1 k2) g H' → Q v H') → SpM X.K args mir ret out xout vs H1 Q (fun c d H' => C.E c d σ H') := by
  induction A with
  | base A =>
    intro F1 h1 h2 g H1 σ vs Q ow he d hf hG hu hx hq
    have z := args_sp (dvs := []) A (fun _ _ => by unfold ownL; rfl) nr no nx nex ow he d hf hG hu hx fun o Γ' M' hk hm v F' k1 k2 H' x a b c e _ => hq o Γ' M' hk hm v F' k1 k2 H' x a b c e
    rw [List.append_nil] at z
    exact z
  | @step C k os Γ1 M1 j q v s put ej sv pl A ih =>
    intro F1 h1 h2 g H1 σ vs Q ow he d hf hG hu hx hq
    have fg : Dis F1 C.G := hf.fg.mono .refl hG
    obtain ⟨u, c1, c2, pv, s1, s2, d12, w, back⟩ := pl.ok fg he
    unfold own at w
    obtain ⟨eu, w⟩ := w
    subst eu
    have he1 : EnvR X.K F1 C.G (put (.pin u .hole)) c2 σ := back F1 (.pin u .hole) emp c2 .refl fg (by unfold own; exact ⟨rfl, by unfold own; trivial⟩) .emp .emp .refl
    have hlen : σ.length = Γ1.length := he.len
    have wp : own X.K F1 C.G (.pin u s) c1 u := by unfold own; exact ⟨rfl, w⟩
    have he2 : EnvR X.K F1 C.G (put (.pin u .hole) ++ [.pin u s]) (cup c2 c1) (σ ++ [some u]) := he1.more (.of wp) d12.symm
    have sn : (σ ++ [some u])[Γ1.length]? = some (some u) := by rw [← hlen, List.getElem?_append_right (Nat.le_refl _), Nat.sub_self]; rfl
    have ow2 := opds_pin (G := C.G) (h2 := cup c2 c1) sn ej (opds_more (u := some u) (h2' := cup c2 c1) sv ow)
    have sub12 : Sub (cup c2 c1) h2 := Sub.cup s2 s1
    have cast : ∀ {sp : XK → Prop}, sp (fun c d H' => (moreX C).E c d (σ ++ [some u]) H') → sp (fun c d H' => C.E c d σ H') := fun {sp} z => by
      have e : (fun (c : Value) (d : Option Addr) (H' : Hp) => (moreX C).E c d (σ ++ [some u]) H') = fun c d H' => C.E c d σ H' := by
        funext c d H'
        show C.E c d (σ ++ [some u]).dropLast H' = _
        rw [List.dropLast_concat]
      rw [e] at z
      exact z
    refine cast (sp := fun E => SpM X.K args mir ret out xout vs _ _ E) ?_
    refine ih ow2 he2 (d.mono .refl sub12) (hf.sub (Sub.cup2 .refl sub12 d)) hG hu (fun e hee c od F' hx' h' H' σ' s en ev dd ff => ?_) fun o Γ' M' ⟨Γ3, s', put2, ⟨t, et⟩, eΓ, pl2, hk⟩ hm v' F' k1 k2 H' x2 ow3 he3 d3 hf3 => ?_
    · have ev : EnvR X.K F' C.G (C.Γx ++ [.hole]) h' σ' := ev
      obtain ⟨σ1, o1, e1⟩ : ∃ σ1 o1, σ' = σ1 ++ [o1] := by
        have hl := ev.len
        rw [List.length_append, List.length_singleton] at hl
        have hne : σ' ≠ [] := fun z => by rw [z] at hl; simp at hl
        exact ⟨σ'.dropLast, σ'.getLast hne, (List.dropLast_concat_getLast hne).symm⟩
      subst e1
      obtain ⟨m1, m2, t1, t2, dm, _, ev2⟩ := ev.last (s := .hole) (by simp)
      rw [List.dropLast_concat] at ev2
      show C.E c od (σ1 ++ [o1]).dropLast H'
      rw [List.dropLast_concat]
      exact hx e hee c od F' hx' m2 H' σ1 s en ev2 (dd.mono .refl t2) (ff.sub (Sub.cup2 .refl t2 dd))
    · subst et eΓ
      obtain ⟨m1, m2, t1, t2, dm, wm, ev2⟩ := he3.last (s := .pin u s') (by simp)
      rw [List.dropLast_concat] at ev2
      obtain ⟨x, ex, wx⟩ := wm.val (fun z => nomatch z)
      cases ex
      unfold own at wx
      have fg' : Dis F' C.G := hf3.fg.mono .refl hG
      obtain ⟨y, b1, b2, pv2, r1, r2, d13, wy, back2⟩ := pl2.ok fg' ev2
      unfold own at wy
      obtain ⟨ey, _⟩ := wy
      subst ey
      have E := back2 F' s' m1 (cup m1 m2) .refl fg' wx.2 (dm.mono .refl r2) .l (r2.trans (.r dm))
      have sm : Sub (cup m1 m2) k2 := Sub.cup t1 t2
      exact hq _ _ M' hk hm v' F' k1 (cup m1 m2) H' x2 (by show OpdOk X.K F' C.G k1 _ σ (.own t) v'; exact ow3) E (d3.mono .refl sm) (hf3.sub (Sub.cup2 .refl sm d3))
section
variable {X : Cx} {C : XC} {pu : Bool} {ω ω' ι : Type} {Γ : List SD} {b e : Expr} {es : List Expr} {M : Res ω} {pos p apos : Pos} {k : Opd → List SD → Res ω → Prop} {x m : Str} {lv : Nat} {args : ι → List SD} {mir : ι → Res ω'} {ret : ι → ω' → SD} {out : ι → ω' → List SD} {xout : ι → List SD} {Ca : Addr}
theorem JE.callP (c : Has X x lv args mir ret out xout) (hr : RoomG lv X.A) (hx : PassesW X C.E) (h : JA X C false Γ (e :: es) M (ArgsP args mir ret out xout C k)) (hg : Gl X x := by rfl) (hdb : (x == ("__debug__" : Str)) = false := by decide)
    (he : starEach (e :: es) X.env = (false, eval e X.env) :: starEach es X.env := by rfl) (hpl : (backTo pos (starEach es X.env)).any (·.1) = false := by rfl) : JE X C false Γ (.Call (.Name x p) (e :: es) [] pos) M k := by
  obtain ⟨f, e1, c⟩ := c
  obtain ⟨fd, ps, dvs, ds, Fn, hb, hd, hdl⟩ := c.ex
  have ed : dvs = [] := by
    have z := hdl emp emp
    unfold ownL at z
    exact z
  subst ed
  refine JE.of (pe_callG Fn hr hg e1 c.keep hb hd hx pa_sem hdb he hpl) fun F h0 g H σ Q hen hf hG hu hxo hq => ?_
  refine h F h0 g H σ _ hen hf hG hu hxo fun os Γ1 M1 A hm vs F1 h1 h2 H1 x1 ow1 he1 d1 hf1 hp1 => ?_
  subst hm
  show SpM X.K args mir ret out xout (vs ++ []) _ _ _
  rw [List.append_nil]
  exact argsP_sp A c.nr c.no c.nx c.nex ow1 he1 d1 hf1 hG hu (hxo.mono x1) fun o Γ' M' hk hm v F' k1 k2 H' a1 a2 a3 a4 a5 => hq o Γ' M' hk hm v F' k1 k2 H' (x1.trans a1) a2 a3 a4 a5 fun z => nomatch z
end
/-! ### defs with defaults -/
abbrev FnMd (K : PySem.W.Frag) (x q : Str) (st : Stmt) (dvs : List V) (f : Addr) (fd : FuncData) : Prop := FunD K x q (defArgs st) (defBody st) (defScope st) dvs [] f fd
def HasMD (X : Cx) {ι ω : Type} (Ca : Addr) (m : Str) (lv : Nat) (args : ι → List SD) (mir : ι → Res ω) (ret : ι → ω → SD) (out : ι → ω → List SD) (xout : ι → List SD) (dl : List SD) : Prop := ∃ f, Cls X.K Ca ∧ Meth X.K Ca m f ∧ Callee X lv f args mir ret out xout dl
def HasKD (X : Cx) {ι ω : Type} (x : Str) (Ca : Addr) (lv : Nat) (args : ι → List SD) (mir : ι → Res ω) (ret : ι → ω → SD) (out : ι → ω → List SD) (xout : ι → List SD) (dl : List SD) : Prop := X.mg x = some (.ref Ca) ∧ ∃ f, Mk X.K Ca f ∧ Callee X lv f args mir ret out xout dl
section
variable {X : Cx} {C : XC} {pu : Bool} {ω ω' ι : Type} {Γ : List SD} {e : Expr} {es : List Expr} {M : Res ω} {pos p apos : Pos} {k : Opd → List SD → Res ω → Prop} {x m : Str} {lv : Nat} {args : ι → List SD} {mir : ι → Res ω'} {ret : ι → ω' → SD} {out : ι → ω' → List SD} {xout : ι → List SD} {Ca : Addr} {dl : List SD}
end
end Tsa
namespace Tsa
open PySem PySem.Spec PyProof.Rows L2
end Tsa

/-! N110: b.append(e) at a place, e pure; slots told otherwise. -/
namespace Tsa
open PySem PySem.Spec PyProof.Rows L2
section
variable {X : Cx} {C : XC} {pu : Bool} {ω : Type} {Γ : List SD} {b e : Expr} {M : Res ω} {pos apos : Pos} {k : Opd → List SD → Res ω → Prop} {q : Pth} {put : SD → List SD}
theorem JE.appendPW {α : Type} {f : α → SD} {xs : List α} {y : α} {M2 : Res ω} (pe : PlE X Γ b q) (pl : Pl Γ q (.lst (xs.map f)) put) (hc : JVt X C Γ e (.own (f y))) (hM : M ≠ .un → M = M2 ∧ xs.length < 16000000) (hk : k (.own (.val .none)) (put (.lst ((xs ++ [y]).map f))) M2)
    (hbase : attributeBase b "append" X.env (eval b X.env) = eval b X.env := by rfl)
    (hfew : ((backTo pos (starEach (e :: []) X.env)).all (fun x => !x.1) && (backToKw pos (keywordEach [] X.env)).all (fun x => x.1.isSome) && decide ((e :: []).length + ([] : List Keyword).length + (if ([] : List Keyword).isEmpty then 0 else 1) < 30)) = true := by rfl)
    (hline : (apos.endLine == pos.line) = true := by rfl) (hs : starEach (e :: []) X.env = (false, eval e X.env) :: starEach [] X.env := by rfl) (hpl : (backTo pos (starEach [] X.env)).any (·.1) = false := by rfl) :
    JE X C false Γ (.Call (.Attribute b "append" apos) [e] [] pos) M k :=
  JE.of (pe_bm (T := "list") PySem.F.plainAttrs_list PySem.F.slot_list_append PySem.F.type_list_append mt_append pe_sem pa_sem hbase hfew hline hs hpl) fun F h0 g H σ Q he hf hG hu hx hq => by
    obtain ⟨eM, hl⟩ := hM hu
    subst eM
    obtain ⟨v, k1, k2, pv, s1, s2, d12, w, back⟩ := pl.ok (hf.G hG) he
    unfold own at w
    obtain ⟨p, vs, h', e0, q1, q2, q3, ol⟩ := w
    subst e0
    refine pe.ok he hf.hH pv ⟨tyV_lst (hf.hH _ _ (s1 _ _ q1)), JA.one (pu := true) (ka := fun os Γ1 _ => os = [.own (f y)] ∧ Γ1 = Γ) (hc.mono fun o Γ1 M1 ⟨e1, e2⟩ => ⟨by rw [e1], e2⟩) hs F h0 g H σ _ he hf hG (fun z => nomatch z) (fun e z => nomatch z) fun os Γ1 M1 ⟨eos, eΓ⟩ _ us F' h1 h2 H' x ow he' d hf' hp => ?_⟩
    subst eos eΓ
    obtain ⟨u, ha, eu, sa, wu⟩ := ow.one
    subst eu
    unfold OpdOk at wu
    have hf2 : Fits F' (cup ha h2) g H' := hf'.sub (Sub.cup2 sa .refl d)
    have da : Dis ha h2 := d.mono sa .refl
    obtain ⟨p', vs', h'', pv2, hH, wl, sh, dh, upd'⟩ := pl_upd (l := xs.map f) pl (fun w => w) he' da hf2 hG
    cases (pv.mono (hp rfl).1).fn pv2
    have len := ownL_len wl
    rw [List.length_map] at len
    have eap : (xs ++ [y]).map f = xs.map f ++ [f y] := by rw [List.map_append]; rfl
    obtain ⟨h3, E3, d3', f3⟩ := upd' ((xs ++ [y]).map f) (vs' ++ [u]) (cup h'' ha) emp (by rw [eap]; exact ownL_app wl wu dh.symm) (Sub.cup (.r dh) .l) .emp .emp
    exact ⟨p, vs', u, rfl, rfl, hH, by rw [len]; exact Nat.lt_of_lt_of_le hl (by decide), hq _ _ M hk rfl .non F' emp h3 _ x (by unfold OpdOk own; exact .non) E3 .emp f3 fun z => nomatch z⟩
end
end Tsa

/-! N111: len of a dict that is borrowed. -/
namespace Tsa
open PySem PySem.Spec PyProof.Rows L2
end Tsa

/-! N112: what is borrowed against what is pure: ==, !=. -/
namespace Tsa
open PySem PySem.Spec PyProof.Rows L2
section
variable {α : Type} {X : Cx} {C : XC} {pu : Bool} {ω : Type} {Γ : List SD} {a b : Expr} {M : Res ω} {k : Opd → List SD → Res ω → Prop}
end
end Tsa
namespace Tsa
instance instDeed : DecidableEq (Int × Option (Int × Int × Int) × Option (Int × Int × Int)) := @instDecidableEqProd Int _ _ (@instDecidableEqProd _ _ (inferInstanceAs (DecidableEq (Option (Int × Int × Int)))) (inferInstanceAs (DecidableEq (Option (Int × Int × Int)))))
end Tsa

/-! N113: repr, str of a whole number. -/
namespace Tsa
open PySem PySem.Spec PyProof.Rows L2
def intOk (i : Int) : Bool := decide (i.natAbs < 2 ^ 1900)
section
variable {X : Cx} {C : XC} {pu : Bool} {ω : Type} {Γ : List SD} {M : Res ω} {k : Opd → List SD → Res ω → Prop} {e : Expr} {pos pn : Pos}
end
end Tsa

/-! N114: try .. except X: without a name. -/
namespace Tsa
open PySem PySem.Spec PyProof.Rows L2
section
variable {X : Cx} {C : XC} {pu : Bool} {ω β : Type} {Γ Γx : List SD} {M : Res ω} {k : List SD → Res ω → Prop} {en : ω → EndK} {x cn : Str} {body suite : List Stmt} {b₀ : Stmt} {np pos pos' : Pos} {Mb : Res β} {Ms : Exn → Res ω} {kM : β → Res ω}
end
end Tsa

/-! N115: a dict at a place is walked: it is locked for one expression. -/
namespace Tsa
open PySem PySem.Spec PyProof.Rows L2
theorem putS_self {f : Str} {s : SD} : ∀ {l : List (Str × SD)}, l.lookup f = some s → putS f s l = l
  | [], h => nomatch h
  | (g, t) :: l, h => by
    rw [List.lookup_cons] at h
    by_cases c : f = g
    · subst c
      rw [beq_self_eq_true] at h
      obtain rfl := Option.some.inj h
      simp [putS]
    · have cb : (f == g) = false := beq_eq_false_iff_ne.mpr c
      rw [cb] at h
      have ih := putS_self (l := l) h
      have c' : ¬ g = f := fun z => c z.symm
      simp [putS, c, c', cb, ih]
section
variable {K : PySem.W.Frag} {X : Cx} {C : XC} {pu : Bool} {ω α β τ : Type} {Γ : List SD} {e b tg : Expr} {M : Res ω} {q : Pth} {put : SD → List SD} {k : Opd → List SD → Res ω → Prop} {kS : List SD → List SD → Res ω → Prop}
end
section
variable {K : PySem.W.Frag} {X : Cx} {C : XC} {ω α β τ : Type} {Γ : List SD} {e a b c tg iter elt : Expr} {M : Res ω} {pos p p2 apos : Pos}
end
section
variable {κ β : Type} [DecidableEq κ] {kk : κ → Key} {kd : κ → PyData} {f : β → SD} {X : Cx} {C : XC} {pu : Bool} {ω : Type} {Γ : List SD} {e tg : Expr} {M : Res ω} {q : Pth} {put : SD → List SD} {kS : List SD → List SD → Res ω → Prop}
end
end Tsa

/-! N116: d.get(k, n); list(d), d a dict that is read. -/
namespace Tsa
open PySem PySem.Spec PyProof.Rows L2
section
variable {X : Cx} {C : XC} {pu : Bool} {ω β : Type} {Γ : List SD} {o b e : Expr} {M : Res ω} {pos apos pn : Pos} {k : Opd → List SD → Res ω → Prop}
end
end Tsa

/-! N117: a number of three is told apart; a list that takes a slot's own thing last. -/
namespace Tsa
open PySem PySem.Spec PyProof.Rows L2
section
variable {X : Cx} {C : XC} {pu : Bool} {ω : Type} {Γ : List SD} {e a : Expr} {es : List Expr} {sts : List Stmt} {M M0 M1 M2 : Res ω} {pos : Pos} {k : Opd → List SD → Res ω → Prop} {kl : List SD → Res ω → Prop} {en : ω → EndK}
/-- one of three -/
def lit3 {ω : Type} (z : Int) (M0 M1 M2 : Res ω) : Res ω := cond (decide (z = 0)) M0 (cond (decide (z = 1)) M1 (cond (decide (z = 2)) M2 .un))
end
end Tsa

/-! N118: a dict that is data is walked: it is locked for one expression. -/
namespace Tsa
open PySem PySem.Spec PyProof.Rows L2
section
variable {K : PySem.W.Frag} {S S1 : Hp}
end
/-- the data alone -/
inductive Vls : List SD → List SD → Prop
  | nil : Vls [] []
  | v {d : PyData} {r q : List SD} (h : Vls r q) : Vls (.val d :: r) (.val d :: q)
  | o {s : SD} {r q : List SD} (h : Vls r q) : Vls (s :: r) (.hole :: q)
section
variable {X : Cx} {C : XC} {ω τ : Type} {Γ Γv : List SD} {e : Expr} {M : Res ω} {k : Opd → List SD → Res ω → Prop}
end
section
variable {κ β : Type} [DecidableEq κ] {kk : κ → Key} {kd : κ → PyData} {ev : β → PyData} {X : Cx} {C : XC} {pu : Bool} {ω : Type} {Γ : List SD} {tg : Expr} {M : Res ω} {p : Pos} {kS : List SD → List SD → Res ω → Prop}
end
end Tsa

/-! N119: a list of three things that lies at a place: its items are pinned, and walked as what they are. -/
namespace Tsa
open PySem PySem.Spec PyProof.Rows L2
section
variable {X : Cx} {C : XC} {pu : Bool} {ω : Type} {Γ : List SD} {e tg : Expr} {sts : List Stmt} {M : Res ω} {q : Pth} {put : SD → List SD} {s0 s1 s2 : SD} {kl : List SD → Res ω → Prop} {en : ω → EndK} {kS : List SD → List SD → Res ω → Prop}
end
end Tsa

/-! N120: a tuple to be read whose items are told one by one. -/
namespace Tsa
open PySem PySem.Spec PyProof.Rows L2
section
variable {X : Cx} {C : XC} {pu : Bool} {ω : Type} {Γ : List SD} {es : List Expr} {M : Res ω} {pos : Pos} {k : Opd → List SD → Res ω → Prop} {ws : Nat → Prop}
end
end Tsa

/-! N121: a list of own things is walked by a comprehension: its cell is lent out, each item moves to the walker's name for its turn. -/
namespace Tsa
open PySem PySem.Spec PyProof.Rows L2
/-- what stays told when the frame shrinks again -/
inductive KpC : List SD → List SD → Prop
  | nil : KpC [] []
  | nr {s0 s : SD} {r0 r : List SD} (h : NR s) (t : KpC r0 r) : KpC (s0 :: r0) (s :: r)
  | rd {d : PyData} {r0 r : List SD} (t : KpC r0 r) : KpC (.rd d :: r0) (.rd d :: r)
  | rt {l r0 r : List SD} (t : KpC r0 r) : KpC (.rt l :: r0) (.rt l :: r)
section
variable {X : Cx} {C : XC} {pu : Bool} {ω : Type} {Γ : List SD} {e tg : Expr} {t : TE} {M : Res ω} {pos p : Pos} {k : Opd → List SD → Res ω → Prop} {kS : List SD → List SD → Res ω → Prop}
end
section
variable {X : Cx} {C : XC} {pu : Bool} {ω α : Type} {Γ : List SD} {e : Expr} {M : Res ω} {k : Opd → List SD → Res ω → Prop}
def three {α : Type} : List α → Option (α × α × α)
  | [a, b, c] => some (a, b, c)
  | _ => none
end
end Tsa

/-! N122: data of any kind, each way told; a list of anything read as numbers; xs != []. -/
namespace Tsa
open PySem PySem.Spec PyProof.Rows L2
/-- a list, a tuple, anything -/
def x3 {ω : Type} (d : PyData) (A B : List PyData → Res ω) (C : Res ω) : Res ω := match d with
  | .list l => A l
  | .tuple l => B l
  | _ => C
theorem nex_x3 {ω : Type} {d : PyData} {A B : List PyData → Res ω} {C : Res ω} (hA : ∀ l e, A l ≠ .ex e) (hB : ∀ l e, B l ≠ .ex e) (hC : ∀ e, C ≠ .ex e) : ∀ e, x3 d A B C ≠ .ex e := fun e z => by
  cases d with
  | list l => exact hA l e z
  | tuple l => exact hB l e z
  | _ => exact hC e z
section
variable {X : Cx} {C : XC} {pu : Bool} {ω : Type} {e : Expr} {sts : List Stmt} {Γf : PyData → List SD} {d : PyData} {k : Opd → List SD → Res ω → Prop} {kb : Bool → List SD → Res ω → Prop} {kl : List SD → Res ω → Prop} {en : ω → EndK}
theorem JL.x3 {A B : List PyData → Res ω} {M : Res ω} (hA : ∀ l : List PyData, JL X C (Γf (.list (l.map eX))) sts (A l) kl en) (hB : ∀ l : List PyData, JL X C (Γf (.tuple (l.map eX))) sts (B l) kl en) (hC : JL X C (Γf d) sts M kl en) : JL X C (Γf d) sts (Tsa.x3 d A B M) kl en := by
  cases d with
  | list l => have z := hA l; rw [mapX] at z; exact z
  | tuple l => have z := hB l; rw [mapX] at z; exact z
  | _ => exact hC
theorem JL.xils {mk : List PyData → PyData} {l : List PyData} {kM : List Int → Res ω} (h : ∀ ns : List Int, JL X C (Γf (mk (ns.map .int))) sts (kM ns) kl en) : JL X C (Γf (mk (l.map eX))) sts (optR (xints l) kM) kl en := by
  cases q : xints l with
  | none => exact JL.ne fun z => absurd rfl z
  | some ns =>
    have z := h ns
    rw [← xints_eq q] at z
    rw [mapX]
    exact z
theorem JE.xils {mk : List PyData → PyData} {l : List PyData} {kM : List Int → Res ω} (h : ∀ ns : List Int, JE X C pu (Γf (mk (ns.map .int))) e (kM ns) fun o Γ1 M1 => Γ1 = Γf (mk (ns.map .int)) ∧ k o (Γf (mk (l.map eX))) M1) : JE X C pu (Γf (mk (l.map eX))) e (optR (xints l) kM) k := by
  cases q : xints l with
  | none => exact JE.ne fun z => absurd rfl z
  | some ns =>
    have z := h ns
    rw [← xints_eq q, mapX] at z
    rw [mapX]
    exact z.mono fun o Γ1 M1 ⟨e1, e2⟩ => by rw [e1]; exact e2
theorem JC.ne {M : Res ω} {Γ : List SD} (h : M ≠ .un → JC X C pu Γ e M kb) : JC X C pu Γ e M kb := fun F h0 g H σ Q he hf hG hu => h hu F h0 g H σ Q he hf hG hu
theorem JC.xils {mk : List PyData → PyData} {l : List PyData} {kM : List Int → Res ω} (h : ∀ ns : List Int, JC X C pu (Γf (mk (ns.map .int))) e (kM ns) fun b Γ1 M1 => Γ1 = Γf (mk (ns.map .int)) ∧ kb b (Γf (mk (l.map eX))) M1) : JC X C pu (Γf (mk (l.map eX))) e (optR (xints l) kM) kb := by
  cases q : xints l with
  | none => exact JC.ne fun z => absurd rfl z
  | some ns =>
    have z := h ns
    rw [← xints_eq q, mapX] at z
    rw [mapX]
    intro F h0 g H σ Q he hf hG hu hx hq
    refine z F h0 g H σ Q he hf hG hu hx fun b Γ1 M1 ⟨e1, e2⟩ hm F' h2 H' a1 a2 a3 a4 => ?_
    subst e1
    exact hq b _ M1 e2 hm F' h2 H' a1 a2 a3 a4
/-- an own list of anything in a slot, as numbers -/
theorem JL.xilsO {l : List PyData} {i : Nat} {Γ : List SD} {kM : List Int → Res ω} (hi : Γ[i]? = some (.lst (l.map fun x => .val (eX x)))) (h : ∀ ns : List Int, JL X C (Γ.set i (.lst (ns.map fun n => .val (.int n)))) sts (kM ns) kl en) : JL X C Γ sts (optR (xints l) kM) kl en := by
  cases q : xints l with
  | none => exact JL.ne fun z => absurd rfl z
  | some ns =>
    have z := h ns
    have e := xints_eq q
    subst e
    rw [List.map_map] at hi
    have hi : Γ[i]? = some (.lst (ns.map fun n => .val (.int n))) := hi
    rw [set_self hi] at z
    exact z
/-- .. just made -/
theorem JE.xilO {Γ : List SD} {M : Res ω} (h : JE X C pu Γ e M fun o Γ1 M1 => ∃ (l : List PyData) (kM : List Int → Res ω), o = .own (.lst (l.map fun x => .val (eX x))) ∧ M1 = optR (xints l) kM ∧ ∀ ns : List Int, k (.own (.lst (ns.map fun n => .val (.int n)))) Γ1 (kM ns)) : JE X C pu Γ e M k :=
  JE.neK (h.mono fun o Γ1 M1 ⟨l, kM, e1, e2, hk⟩ hu => by
    subst e1 e2
    cases q : xints l with
    | none => exact absurd (by rw [q]; rfl) hu
    | some ns =>
      have e := xints_eq q
      subst e
      rw [List.map_map]
      exact hk ns)
end
/-! ### xs != [] -/
def rNeNil : R2 := fun x y H Q => ∃ a b us, x = .ref a ∧ y = .ref b ∧ H a = some (.lst us) ∧ H b = some (.lst []) ∧ Q (.bl (!us.isEmpty)) H
theorem op_neNil {X : Cx} (hu : X.A.units + 64 < cLine) : OpR X (compareOp .NotEq) rNeNil := by
  intro pins s σ H x y v u Q I rx ry h
  obtain ⟨a, b, us, rfl, rfl, ha, hb, q⟩ := h
  cases (show v = Value.ref a from rx)
  cases (show u = Value.ref b from ry)
  obtain ⟨vs, r1, p1, _⟩ := I.list (SqL.of ha)
  obtain ⟨ws, r2, p2, _⟩ := I.list (SqL.of hb)
  have l1 := r1.length
  have l2 := r2.length
  have w0 : ws = [] := List.eq_nil_of_length_eq_zero (by rw [← l2]; rfl)
  subst w0
  cases us with
  | nil =>
    have v0 : vs = [] := List.eq_nil_of_length_eq_zero (by rw [← l1]; rfl)
    subst v0
    have z := SeqAt.RcNeAt.lists (A := X.A) (e := fun _ => true) p1.isList p2.isList rfl (by omega) (fun j h1 h2 => absurd h1 (Nat.not_lt_zero _)) X.prog X.w
    exact z _ _ ⟨.bl false, H, I, rfl, q⟩
  | cons x xs =>
    have z := SeqAt.RcNeAt.lists_lengths (A := X.A) p1.isList p2.isList (by
      rw [List.size_toArray, List.size_toArray, ← l1]
      simp) (by omega) X.prog X.w
    exact z _ _ ⟨.bl true, H, I, rfl, q⟩
section
variable {X : Cx} {C : XC} {pu : Bool} {ω α : Type} {Γ : List SD} {a b : Expr} {M : Res ω} {k : Opd → List SD → Res ω → Prop}
theorem Cmp.neNil {f : α → SD} (hu : X.A.units + 64 < cLine) (h : JE X C pu Γ a M fun oa Γ1 M1 => ∃ sa, oa = .own sa ∧ JE X C pu Γ1 b M1 fun ob Γ2 M2 => ∃ xs : List α, sa = .lst (xs.map f) ∧ ob = .own (.lst []) ∧ k (.own (.val (.bool (!xs.isEmpty)))) Γ2 M2) : Cmp X C pu Γ .NotEq a b M k :=
  ⟨nomark _, _, op_neNil hu, JT.two (Z := fun sa ob Γ2 M2 => ∃ xs : List α, sa = .lst (xs.map f) ∧ ob = .own (.lst []) ∧ k (.own (.val (.bool (!xs.isEmpty)))) Γ2 M2) h (by
    rintro sa ob Γ2 ⟨xs, rfl, rfl, hk⟩ F ha hb h0 h2 g H σ va vb Q w1 w2 he d1 d2 d3 hf hG hp hun hx hq
    unfold own at w1
    unfold OpdOk own at w2
    obtain ⟨p1, us, h', rfl, q1, _, _, r1⟩ := w1
    obtain ⟨p2, ws, h'', rfl, q2, _, _, r2⟩ := w2
    unfold ownL at r2
    subst r2
    have dd : Dis ha (cup hb h2) := (Dis.cup d1.symm d2.symm).symm
    have l1 := ownL_len r1
    rw [List.length_map] at l1
    have e : us.isEmpty = xs.isEmpty := by
      cases us <;> cases xs <;> simp_all
    refine ⟨p1, p2, us, rfl, rfl, hf.hH _ _ (cup_some q1), hf.hH _ _ (Sub.r dd _ _ (cup_some q2)), ?_⟩
    rw [e]
    exact hq _ Γ2 _ hk rfl (.bl _) F emp h2 H .refl (by unfold OpdOk own; exact .bl _) he .emp (hf.sub ((Sub.r d3).trans (.r dd))).emp hp)⟩
end
end Tsa

/-! N123: xs.extend(ys), ys a tuple; sorted(set(ys)). -/
namespace Tsa
open PySem PySem.Spec PyProof.Rows L2
theorem extWT (l b : Addr) (us ws : Array Value) (n m : Nat) (dd : Option Addr) (sl : Array (Option Value))
    (hc0 : ¬(!us.isEmpty && Builtin.List.listTooLong (us.size + ws.size)) = true) (hc1 : us.size ≤ sizeLine) (hs2 : us.size + ws.size ≤ sizeLine + 1) :
    Meets (Builtin.«list.extend» ⟨[.ref l, .ref b], []⟩) (fun _ R s => s.heap.get? l = some { cls := .type "list", dict := none, data := .seq us n, slots := #[] } ∧
      s.heap.get? b = some { cls := .type "tuple", dict := dd, data := .seq ws m, slots := sl } ∧
      R (.ok (.ret Value.none)) { s with heap := s.heap.update l (Obj.mapSeq fun x => x ++ ws), toks := s.toks }) :=
  .of_wp fun prog w A R s h => by
    obtain ⟨hp, g, d, tk, os⟩ := s
    obtain ⟨hl, hb, h⟩ := h
    have f1 := AutoSeq1.idx_int
    have f2 := AutoSeq1.sub_tuple_tuple
    have f3 := AutoSeq1.sub_list_list
    have f4 := AutoSeq1.sub_tuple_list
    have f5 := AutoSeq1.sub_list_tuple
    have hz' : (us ++ ws).size ≤ sizeLine + 1 := by rw [Array.size_append]; exact hs2
    wp_walk using (wpAny_updateSeq hl rfl (hz := hc1) (_hz' := hz')), wpAny_loadPart' hl, wpAny_loadPart' hb
    exact ⟨_, rfl, h⟩
def rExtGT (K : PySem.W.Frag) : V → List V → Hp → VK → Prop := fun x vs H Q => ∃ l b xs zs, x = .ref l ∧ vs = [.ref b] ∧ H l = some (.lst xs) ∧ SqT K H b zs ∧ xs.length + zs.length ≤ sizeLine ∧ Q .non (upd H l (.lst (xs ++ zs)))
theorem mt_extGT {X : Cx} : MtM X "list.extend" (rExtGT X.K) := by
  intro pins s σ H x vs v us Q I rx rv ⟨l, b, xs, zs, ex, evs, hH, hB, hz, q⟩
  subst ex evs
  cases rx
  obtain ⟨u, rfl, ru⟩ := rv.one
  cases ru
  obtain ⟨z, its, n, r, hl, e⟩ := I.lstM hH
  obtain ⟨its2, r2, ⟨⟨cls, dd, data, sl⟩, e2, hc, n2, hdt⟩, _⟩ := I.tuple hB
  simp only at hc hdt
  subst hc hdt
  have l2 := r2.length
  have hsz : its.toArray.size + its2.toArray.size ≤ sizeLine := by rw [List.size_toArray, List.size_toArray]; omega
  have nt : ¬ (!its.toArray.isEmpty && Builtin.List.listTooLong (its.toArray.size + its2.toArray.size)) = true := by
    rw [notLongL hsz, Bool.and_false]
    exact Bool.false_ne_true
  refine call_meets PySem.F.slot_list_extend ⟨_, e, rfl⟩ PySem.F.entry_list_extend (PySem.F.args_list_extend_2 _ _) (extWT l b its.toArray its2.toArray n n2 dd sl nt (by rw [List.size_toArray]; omega) (by omega)) ⟨e, e2, ?_⟩
  refine ⟨.non, _, I.lset (its' := its ++ its2) hH e (by simp) (r.append r2) (by rw [List.length_append]; omega), rfl, q⟩
section
variable {K : PySem.W.Frag} {X : Cx} {C : XC} {pu pt : Bool} {ω α β τ : Type} {Γ : List SD} {e a b c tg : Expr} {M : Res ω} {pos p p2 apos : Pos} {k : Opd → List SD → Res ω → Prop}
/-- x.extend(e), e a tuple of lasting items -/
theorem JE.extendW {f : α → SD} {i : Nat} {s : SD} {l : List SD} {mk : List SD → SD} {x : Str} (hΓ : Γ[i]? = some s) (la : LstAt s l mk)
    (h : JE X C false Γ e M fun o Γ1 M1 => ∃ (s1 : SD) (mk1 : List SD → SD) (xs ys : List α) (M2 : Res ω), SeqV Γ1 o true (ys.map f) ∧ Γ1[i]? = some s1 ∧ LstAt s1 (xs.map f) mk1 ∧ (M1 ≠ .un → M1 = M2 ∧ xs.length + ys.length ≤ 16000000) ∧ k (.own (.val .none)) (Γ1.set i (mk1 ((xs ++ ys).map f))) M2)
    (hN : X.N[i]? = some x := by rfl) (hv : Vis X.env.scope x := by first | exact Or.inl rfl | exact Or.inr (Or.inl rfl) | exact Or.inr (Or.inr rfl)) (hd : (x == ("__debug__" : Str)) = false := by decide) (hcd : (x == ("__classdict__" : Str)) = false := by decide)
    (hbase : attributeBase (.Name x p) "extend" X.env (eval (.Name x p) X.env) = eval (.Name x p) X.env := by rfl)
    (hfew : ((backTo pos (starEach (e :: []) X.env)).all (fun x => !x.1) && (backToKw pos (keywordEach [] X.env)).all (fun x => x.1.isSome) && decide ((e :: []).length + ([] : List Keyword).length + (if ([] : List Keyword).isEmpty then 0 else 1) < 30)) = true := by rfl)
    (hline : (apos.endLine == pos.line) = true := by rfl) (hs : starEach (e :: []) X.env = (false, eval e X.env) :: starEach [] X.env := by rfl) (hpl : (backTo pos (starEach [] X.env)).any (·.1) = false := by rfl) :
    JE X C false Γ (.Call (.Attribute (.Name x p) "extend" apos) [e] [] pos) M k :=
  JE.bm1 (T := "list") PySem.F.slot_list_extend PySem.F.type_list_extend mt_extGT hΓ la (h.mono fun o Γ1 M1 ⟨s1, mk1, xs, ys, M2, sv, hi, la1, hM, hk⟩ => fun p v F h1 h2 g H σ Q ow he d hf hG sz hu eσ hq => by
    obtain ⟨eM, hl⟩ := hM hu
    subst eM
    obtain ⟨pb, ws, eb, lb, zb, ib⟩ := sv.ok ow he d hf hG
    obtain ⟨q, vs, h', e2, hH, wl, sh, dh, upd'⟩ := lst_upd he hi la1 d hf hG
    rw [eσ] at e2
    cases e2
    have len := ownL_len wl
    rw [List.length_map] at len lb
    have W : ownL X.K F C.G ((xs ++ ys).map f) h' (vs ++ ws) := by
      rw [List.map_append]
      exact ownL_app2 wl (items_last (h := emp) (by rw [lb, List.length_map]) ib) Dis.emp.symm .refl .emp
    obtain ⟨h3, E3, d3, f3⟩ := upd' ((xs ++ ys).map f) (vs ++ ws) h' emp W (.r dh) .emp .emp
    exact ⟨p, pb, vs, ws, rfl, by rw [eb], hH, zb, by rw [len, lb, sizeLine_eq]; omega, hq _ _ M1 hk rfl .non F emp h3 _ .refl (by unfold OpdOk own; exact .non) E3 .emp f3 fun z => nomatch z⟩) hN hv hd hcd hbase hfew hline hs hpl
end
/-- sorted(set(xs)) of whole numbers: rising, each once -/
def tSortSetW (K : PySem.W.Frag) (ta : TE) : TE := fun σ H Q => ta σ H fun x H1 => ∃ (l : Addr) (ns : List Int), x = .ref l ∧ SqT K H1 l (ns.map V.int) ∧ ns.length < 64 ∧
  ∀ (out : List Int) (p : Addr), out.Pairwise (· < ·) → (∀ k, k ∈ out ↔ k ∈ ns) → H1 p = none → Q (.ref p) (upd H1 p (.lst (out.map V.int)))
theorem pe_sortSetW {X : Cx} {a : Expr} {ta : TE} {p p2 q pos : Pos} (hg : Gl X "sorted") (hm : X.mg "sorted" = none) (hg2 : Gl X "set") (hm2 : X.mg "set" = none) (ha : PE X a ta) (hc : X.calm = true)
    (na : starEach [a] X.env = (false, eval a X.env) :: starEach [] X.env := by rfl) : PE X (.Call (.Name "sorted" p) [.Call (.Name "set" p2) [a] [] q] [] pos) (tSortSetW X.K ta) := by
  refine ⟨fun pins s σ H Q I h => ?_⟩
  refine Call_ (ld_blt I hg hm boot_sorted ?_)
  refine PyProof.Rows.callWith_builtin1 (PyProof.Rows.args_cons ?_ rfl) rfl rfl
  refine Call_ (ld_blt I hg2 hm2 boot_set ?_)
  refine PyProof.Rows.callWith_type1 (PyProof.Rows.args_cons (thn (ha.run pins s σ H _ I h) fun v s1 ⟨x, H1, I1, r1, q1⟩ => PyProof.Rows.args_nil ?_) na) na rfl
  obtain ⟨l, ns, rfl, sq, few, q1⟩ := q1
  cases r1
  obtain ⟨its, r, pl, hz⟩ := I1.tuple sq
  refine call_set_tupI ns (I1.ok.hd hc) pl (by simpa using RZ.intsAre_vals r) (by unfold scanBound; omega) fun g tk c R le k => ?_
  refine PyProof.Rows.args_nil ?_
  have I2 : Inv X pins σ H1 { s1 with heap := g, toks := tk } := I1.kept k
  have R : SetR X.w ({ s1 with heap := g, toks := tk } : Shared).heap s1.heap.objs.size (fun j => decide (j ∈ ns)) c := R
  generalize ({ s1 with heap := g, toks := tk } : Shared) = s2 at *
  refine sorted_set R (I2.ok.hd hc) (by omega) fun s' p0 out n0 ms k2 eg eo hp hgp hi hs hmem hl => ?_
  have ln : (ms.map V.int).length ≤ sizeLine := by rw [List.length_map, hl, sizeLine_eq]; omega
  have hn : H1 p0 = none := I2.hok.fresh hp
  have J : Inv X pins σ (upd H1 p0 (.lst (ms.map V.int))) { s2 with heap := s'.heap, gens := s'.gens, drawn := s'.drawn, toks := s'.toks } :=
    I2.call (ch := []) (Un.laid k2 hp hn) (I2.hok.laid k2 hp ⟨ln, out.toList, n0, vals_of_ints hi, hgp⟩) (by rw [eg]; exact I2.bare) (fun _ z => nomatch z)
  have es : s' = { s2 with heap := s'.heap, gens := s'.gens, drawn := s'.drawn, toks := s'.toks } := by
    cases s'
    cases s2
    cases eo
    rfl
  rw [es]
  exact ⟨.ref p0, _, J, rfl, q1 ms p0 hs (fun k => (hmem k).trans decide_eq_true_iff) hn⟩
section
variable {K : PySem.W.Frag} {X : Cx} {C : XC} {pu : Bool} {ω : Type} {Γ : List SD} {a b o : Expr} {M : Res ω} {pos apos p p2 q : Pos} {k : Opd → List SD → Res ω → Prop}
theorem JE.sortedSetW (hm : X.mg "sorted" = none) (hm2 : X.mg "set" = none) (hc : X.calm = true) (h : JE X C pu Γ a M fun o Γ1 M1 => ∃ (ns : List Int) (M2 : Res ω), SeqV Γ1 o true (ns.map fun i => .val (.int i)) ∧ (M1 ≠ .un → M1 = M2 ∧ ns.length < 64) ∧ k (.own (.lst ((sortSet ns).map fun i => .val (.int i)))) Γ1 M2)
    (hg : Gl X "sorted" := by rfl) (hg2 : Gl X "set" := by rfl) (na : starEach [a] X.env = (false, eval a X.env) :: starEach [] X.env := by rfl) : JE X C pu Γ (.Call (.Name "sorted" p) [.Call (.Name "set" p2) [a] [] q] [] pos) M k :=
  JE.of (pe_sortSetW hg hm hg2 hm2 pe_sem hc na) fun F h0 g H σ Q he hf hG hu hx hq => h F h0 g H σ _ he hf hG hu hx fun oa Γ1 M1 ⟨ns, M2, sv, hM, hk⟩ hm v F1 h1 h2 H1 x ow he1 d hf1 hp => by
    subst hm
    obtain ⟨eM, few⟩ := hM hu
    subst eM
    obtain ⟨p0, vs, e, l, z, it⟩ := sv.ok ow he1 d hf1 hG
    have es := IntsS.val.ok l it
    subst es
    subst e
    refine ⟨p0, ns, rfl, z, few, fun out r hs hmem hn => ?_⟩
    have eo := sortSet_is hs hmem
    subst eo
    have f0 := hf1.un d
    have nn := f0.no hn
    refine hq _ _ M1 hk rfl (.ref r) F1 (cup (sgl r (.lst ((sortSet ns).map V.int))) emp) h2 _ x ?_ he1 (Dis.cup (Dis.one nn.2.1) .emp) ?_ hp
    · unfold OpdOk own
      exact ⟨r, _, emp, rfl, cup_some (by unfold sgl; simp), .emp, rfl, ints_ownL _⟩
    · exact (f0.new hn).sub (Sub.cup (Sub.cup .l .emp) (.r (Dis.one nn.2.1)))
end
section
variable {α β : Type} [DecidableEq α] [DecidableEq β] {e : α → PyData} {f : β → PyData} {n m : Nat}
theorem eokU2 (h1 : EncOk e n) (h2 : EncOk f m) : EncOk (fun p : α × β => .list [e p.1, f p.2]) (max n m + 1) := by
  refine ⟨fun p => ?_, fun p => ?_, fun p q => ?_⟩
  · show ((e p.1).canLay0 && ((f p.2).canLay0 && true)) = true
    rw [h1.lay, h2.lay]; rfl
  · show max (e p.1).depth (max (f p.2).depth 0) + 1 ≤ _
    have := h1.dep p.1; have := h2.dep p.2; omega
  · show (PyData.eqv (e p.1) (e q.1) && (PyData.eqv (f p.2) (f q.2) && true)) = _
    rw [h1.eqv, h2.eqv]; obtain ⟨a1, a2⟩ := p; obtain ⟨b1, b2⟩ := q; rw [Bool.eq_iff_iff]; simp only [Bool.and_eq_true, decide_eq_true_eq, Prod.mk.injEq, and_true]
end
section
variable {X : Cx} {C : XC} {pu : Bool} {ω : Type} {Γ : List SD} {b e : Expr} {M : Res ω} {pos apos : Pos} {k : Opd → List SD → Res ω → Prop} {q : Pth} {put : SD → List SD}
theorem JE.appAtC {γ : Type} {g' : γ → SD} {xss : List (List γ)} {nn : Nat} {y : γ} {j0 : _} {p1 p2 : Pos} {kM : List (List γ) → Res ω} (pe : PlE X Γ b q) (pl : Pl Γ q (.lst (xss.map (lstS g'))) put) (hc : ∀ t, JVt X C (put t) e (.own (g' y))) (hM : M = ((Tsa.appAt xss (nn : Nat) y).bind kM))
    (hk : ∀ r, k (.own (.val .none)) (put (.lst (r.map (lstS g')))) (kM r))
    (hbase : attributeBase (.Subscript b (.Constant (.int (nn : Nat)) j0 p1) p2) "append" X.env (eval (.Subscript b (.Constant (.int (nn : Nat)) j0 p1) p2) X.env) = eval (.Subscript b (.Constant (.int (nn : Nat)) j0 p1) p2) X.env := by rfl)
    (hfew : ((backTo pos (starEach (e :: []) X.env)).all (fun x => !x.1) && (backToKw pos (keywordEach [] X.env)).all (fun x => x.1.isSome) && decide ((e :: []).length + ([] : List Keyword).length + (if ([] : List Keyword).isEmpty then 0 else 1) < 30)) = true := by rfl)
    (hline : (apos.endLine == pos.line) = true := by rfl) (hs : starEach (e :: []) X.env = (false, eval e X.env) :: starEach [] X.env := by rfl) (hpl : (backTo pos (starEach [] X.env)).any (·.1) = false := by rfl) :
    JE X C false Γ (.Call (.Attribute (.Subscript b (.Constant (.int (nn : Nat)) j0 p1) p2) "append" apos) [e] [] pos) M k := by
  subst hM
  obtain ⟨z, ez, hz⟩ : ∃ z : Int, z = (nn : Nat) ∧ 0 ≤ z := ⟨_, rfl, by omega⟩
  rw [show Tsa.appAt xss ((nn : Nat) : Int) y = Tsa.appAt xss z y from by rw [ez]]
  cases hn : ixN xss.length z with
  | none => exact JT.nil (by unfold Tsa.appAt; rw [hn]; rfl)
  | some n =>
    obtain ⟨z1, z2, z3, z4⟩ := ixN_seq hn
    have nlt : n < xss.length := z2
    have en : z.toNat = n := by
      unfold ixN at hn
      rw [if_pos hz] at hn
      by_cases c : z < xss.length
      · rw [if_pos c] at hn; exact Option.some.inj hn
      · rw [if_neg c] at hn; cases hn
    have e2 : nn = n := by omega
    have eg : xss.getD n [] = xss[n] := by rw [List.getD_eq_getElem?_getD, List.getElem?_eq_getElem nlt]; rfl
    have ea : Tsa.appAt xss z y = gd (xss[n].length < 16000000) (.ok (xss.set n (xss[n] ++ [y]))) := by unfold Tsa.appAt; rw [hn]; dsimp only; rw [eg]
    have hget : (xss.map (lstS g'))[nn]? = some (.lst (xss[n].map g')) := by rw [e2, List.getElem?_map, List.getElem?_eq_getElem nlt]; rfl
    refine JE.appendPV (f := g') (xs := xss[n]) (y := y) (M2 := kM (xss.set n (xss[n] ++ [y]))) (.ix nn pe) (.lst pl hget) (fun t => hc _) (fun hu => ?_) ?_ hbase hfew hline hs hpl
    · have hu2 : gd (xss[n].length < 16000000) (Res.ok (xss.set n (xss[n] ++ [y]))) ≠ .un := fun w => hu (by rw [ea, w]; rfl)
      obtain ⟨g1, g2⟩ := gd_ok hu2
      exact ⟨by rw [ea, g1]; rfl, g2⟩
    · have := hk (xss.set n (xss[n] ++ [y]))
      rw [List.map_set] at this
      rw [e2]
      exact this
end
end Tsa

namespace HD
open PySem PySem.Spec PyProof.Rows L2 Tsa
/-! -/
def top (i : Nat) : Stmt := PySem.Challenge.pw_treesapart_k16_partings.main.body.getD i (.Pass ⟨0, 0, 0, 0⟩)
abbrev s_is_whole : Stmt := top 1
abbrev s_is_place : Stmt := top 2
abbrev s_is_row : Stmt := top 4
abbrev s_are_rising : Stmt := top 5
abbrev s_is_part : Stmt := top 6
abbrev s_is_parting : Stmt := top 7
abbrev s_between : Stmt := top 8
abbrev s_inside : Stmt := top 9
abbrev s_nth : Stmt := top 11
abbrev s_pot : Stmt := top 12
abbrev s_take : Stmt := top 13
abbrev s_grown : Stmt := top 14
abbrev s_web : Stmt := top 15
abbrev s_l_is_whole : Stmt := top 16
abbrev s_parting : Stmt := top 17
abbrev s_l_is_parting : Stmt := top 18
abbrev s_other_part : Stmt := top 19
abbrev s_other : Stmt := top 20
abbrev s_judged : Stmt := top 21
abbrev s_part_of : Stmt := top 22
abbrev s_due : Stmt := top 23
abbrev s_ties_right : Stmt := top 24
abbrev s_law : Stmt := top 25
def XC : List Str := []
def XN : List Str := []
/-- the module, by its names -/
structure Md (K : PySem.W.Frag) (mg : Str → Option Value) : Prop where
  isinstance : mg "isinstance" = none
  int : mg "int" = none
  bool : mg "bool" = none
  tuple : mg "tuple" = none
  len : mg "len" = none
  min : mg "min" = none
  max : mg "max" = none
  enumerate : mg "enumerate" = none
  repr : mg "repr" = none
  list : mg "list" = none
  range : mg "range" = none
  divmod : mg "divmod" = none
  abs : mg "abs" = none
  all : mg "all" = none
  sorted : mg "sorted" = none
  zip : mg "zip" = none
  set : mg "set" = none
  f_is_whole : ∃ f fd, mg "is_whole" = some (.ref f) ∧ FnP K "is_whole" s_is_whole f fd
  f_is_place : ∃ f fd, mg "is_place" = some (.ref f) ∧ FnP K "is_place" s_is_place f fd
  f_is_row : ∃ f fd, mg "is_row" = some (.ref f) ∧ FnP K "is_row" s_is_row f fd
  f_are_rising : ∃ f fd, mg "are_rising" = some (.ref f) ∧ FnP K "are_rising" s_are_rising f fd
  f_is_part : ∃ f fd, mg "is_part" = some (.ref f) ∧ FnP K "is_part" s_is_part f fd
  f_is_parting : ∃ f fd, mg "is_parting" = some (.ref f) ∧ FnP K "is_parting" s_is_parting f fd
  f_between : ∃ f fd, mg "between" = some (.ref f) ∧ FnP K "between" s_between f fd
  f_inside : ∃ f fd, mg "inside" = some (.ref f) ∧ FnP K "inside" s_inside f fd
  f_nth : ∃ f fd, mg "_law_nth" = some (.ref f) ∧ FnP K "_law_nth" s_nth f fd
  f_pot : ∃ f fd, mg "_law_pot" = some (.ref f) ∧ FnP K "_law_pot" s_pot f fd
  f_take : ∃ f fd, mg "_law_take" = some (.ref f) ∧ FnP K "_law_take" s_take f fd
  f_grown : ∃ f fd, mg "_law_grown" = some (.ref f) ∧ FnP K "_law_grown" s_grown f fd
  f_web : ∃ f fd, mg "_law_web" = some (.ref f) ∧ FnP K "_law_web" s_web f fd
  f_l_is_whole : ∃ f fd, mg "_law_is_whole" = some (.ref f) ∧ FnP K "_law_is_whole" s_l_is_whole f fd
  f_parting : ∃ f fd, mg "_law_parting" = some (.ref f) ∧ FnP K "_law_parting" s_parting f fd
  f_l_is_parting : ∃ f fd, mg "_law_is_parting" = some (.ref f) ∧ FnP K "_law_is_parting" s_l_is_parting f fd
  f_other_part : ∃ f fd, mg "_law_other_part" = some (.ref f) ∧ FnP K "_law_other_part" s_other_part f fd
  f_other : ∃ f fd, mg "_law_other" = some (.ref f) ∧ FnP K "_law_other" s_other f fd
  f_judged : ∃ f fd, mg "_law_judged" = some (.ref f) ∧ FnP K "_law_judged" s_judged f fd
  f_part_of : ∃ f fd, mg "_law_part_of" = some (.ref f) ∧ FnP K "_law_part_of" s_part_of f fd
  f_due : ∃ f fd, mg "_law_due" = some (.ref f) ∧ FnP K "_law_due" s_due f fd
  f_ties_right : ∃ f fd, mg "_law_ties_right" = some (.ref f) ∧ FnP K "_law_ties_right" s_ties_right f fd
  xf : XF K XC XN
end HD

namespace HD
open PySem PySem.Spec PyProof.Rows L2 Tsa
/-! -/
def d_is_whole : He.DefD := ⟨("is_whole", none), "is_whole", "is_whole", defArgs s_is_whole, defBody s_is_whole, defScope s_is_whole, [], []⟩
def d_is_place : He.DefD := ⟨("is_place", none), "is_place", "is_place", defArgs s_is_place, defBody s_is_place, defScope s_is_place, [], []⟩
def d_is_row : He.DefD := ⟨("is_row", none), "is_row", "is_row", defArgs s_is_row, defBody s_is_row, defScope s_is_row, [], []⟩
def d_are_rising : He.DefD := ⟨("are_rising", none), "are_rising", "are_rising", defArgs s_are_rising, defBody s_are_rising, defScope s_are_rising, [], []⟩
def d_is_part : He.DefD := ⟨("is_part", none), "is_part", "is_part", defArgs s_is_part, defBody s_is_part, defScope s_is_part, [], []⟩
def d_is_parting : He.DefD := ⟨("is_parting", none), "is_parting", "is_parting", defArgs s_is_parting, defBody s_is_parting, defScope s_is_parting, [], []⟩
def d_between : He.DefD := ⟨("between", none), "between", "between", defArgs s_between, defBody s_between, defScope s_between, [], []⟩
def d_inside : He.DefD := ⟨("inside", none), "inside", "inside", defArgs s_inside, defBody s_inside, defScope s_inside, [], []⟩
def d_nth : He.DefD := ⟨("_law_nth", none), "_law_nth", "_law_nth", defArgs s_nth, defBody s_nth, defScope s_nth, [], []⟩
def d_pot : He.DefD := ⟨("_law_pot", none), "_law_pot", "_law_pot", defArgs s_pot, defBody s_pot, defScope s_pot, [], []⟩
def d_take : He.DefD := ⟨("_law_take", none), "_law_take", "_law_take", defArgs s_take, defBody s_take, defScope s_take, [], []⟩
def d_grown : He.DefD := ⟨("_law_grown", none), "_law_grown", "_law_grown", defArgs s_grown, defBody s_grown, defScope s_grown, [], []⟩
def d_web : He.DefD := ⟨("_law_web", none), "_law_web", "_law_web", defArgs s_web, defBody s_web, defScope s_web, [], []⟩
def d_l_is_whole : He.DefD := ⟨("_law_is_whole", none), "_law_is_whole", "_law_is_whole", defArgs s_l_is_whole, defBody s_l_is_whole, defScope s_l_is_whole, [], []⟩
def d_parting : He.DefD := ⟨("_law_parting", none), "_law_parting", "_law_parting", defArgs s_parting, defBody s_parting, defScope s_parting, [], []⟩
def d_l_is_parting : He.DefD := ⟨("_law_is_parting", none), "_law_is_parting", "_law_is_parting", defArgs s_l_is_parting, defBody s_l_is_parting, defScope s_l_is_parting, [], []⟩
def d_other_part : He.DefD := ⟨("_law_other_part", none), "_law_other_part", "_law_other_part", defArgs s_other_part, defBody s_other_part, defScope s_other_part, [], []⟩
def d_other : He.DefD := ⟨("_law_other", none), "_law_other", "_law_other", defArgs s_other, defBody s_other, defScope s_other, [], []⟩
def d_judged : He.DefD := ⟨("_law_judged", none), "_law_judged", "_law_judged", defArgs s_judged, defBody s_judged, defScope s_judged, [], []⟩
def d_part_of : He.DefD := ⟨("_law_part_of", none), "_law_part_of", "_law_part_of", defArgs s_part_of, defBody s_part_of, defScope s_part_of, [], []⟩
def d_due : He.DefD := ⟨("_law_due", none), "_law_due", "_law_due", defArgs s_due, defBody s_due, defScope s_due, [], []⟩
def d_ties_right : He.DefD := ⟨("_law_ties_right", none), "_law_ties_right", "_law_ties_right", defArgs s_ties_right, defBody s_ties_right, defScope s_ties_right, [], []⟩
def d_law : He.DefD := ⟨("law", none), "law", "law", defArgs s_law, defBody s_law, defScope s_law, [], []⟩
def names : List PySem.Str := [("is_whole" : PySem.Str), ("is_place" : PySem.Str), ("is_row" : PySem.Str), ("are_rising" : PySem.Str), ("is_part" : PySem.Str), ("is_parting" : PySem.Str), ("between" : PySem.Str), ("inside" : PySem.Str), ("_law_nth" : PySem.Str), ("_law_pot" : PySem.Str), ("_law_take" : PySem.Str), ("_law_grown" : PySem.Str), ("_law_web" : PySem.Str), ("_law_is_whole" : PySem.Str), ("_law_parting" : PySem.Str), ("_law_is_parting" : PySem.Str), ("_law_other_part" : PySem.Str), ("_law_other" : PySem.Str), ("_law_judged" : PySem.Str), ("_law_part_of" : PySem.Str), ("_law_due" : PySem.Str), ("_law_ties_right" : PySem.Str)]
def fn : List He.DefD := [d_is_whole, d_is_place, d_is_row, d_are_rising, d_is_part, d_is_parting, d_between, d_inside, d_nth, d_pot, d_take, d_grown, d_web, d_l_is_whole, d_parting, d_l_is_parting, d_other_part, d_other, d_judged, d_part_of, d_due, d_ties_right, d_law]
def fa : List He.Fa := [.glo "is_whole", .glo "is_place", .glo "is_row", .glo "are_rising", .glo "is_part", .glo "is_parting", .glo "between", .glo "inside", .glo "_law_nth", .glo "_law_pot", .glo "_law_take", .glo "_law_grown", .glo "_law_web", .glo "_law_is_whole", .glo "_law_parting", .glo "_law_is_parting", .glo "_law_other_part", .glo "_law_other", .glo "_law_judged", .glo "_law_part_of", .glo "_law_due", .glo "_law_ties_right", .glo "law", .free "isinstance", .free "int", .free "bool", .free "tuple", .free "len", .free "min", .free "max", .free "enumerate", .free "repr", .free "list", .free "range", .free "divmod", .free "abs", .free "all", .free "sorted", .free "zip", .free "set", ]
abbrev R : PySem.W.OpenRow := PySem.W.OpenLaw.row PySem.Challenge.rw_treesapart_k16_partings
abbrev hk : PySem.W.Hook := Tsa.hookXF 5 fa fn (xfB XC XN)
def ob (s : PySem.W.SharedT) : Tsa.AlX_ := Tsa.obsXG 5 fa fn (xfB XC XN) (HandSHeadRun.getT s)
theorem ob_eq (s : PySem.W.SharedT) : ob s = hk.obs s.abs := Tsa.obsXG_eq (HandSHeadRun.getT_eq s)
theorem run (w : World) : HandSHeadRun.RunEq R (PySem.W.view R.prog [25]) hk ob 6000 names w := by
  intro os
  kernel_rfl

end HD

namespace HD
open PySem PySem.Spec PyProof.Rows L2 Tsa
/-! -/
abbrev eLI : List Int → PyData := fun xs => .list (xs.map PyData.int)
abbrev eWI : List Int → PyData := fun xs => .tuple (xs.map PyData.int)
abbrev eLX : List PyData → PyData := fun xs => .list (xs.map eX)
abbrev eWX : List PyData → PyData := fun xs => .tuple (xs.map eX)
def m_is_whole (thing : PyData) : Res Bool := .ok ((isIntD thing) && (!(isBoolD thing)))
theorem m_is_whole_nex (thing : PyData) : ∀ e, m_is_whole thing ≠ .ex e := nex_ok
theorem sc_is_whole : FnScope ["thing"] ["thing"] (defScope s_is_whole) := ⟨rfl, rfl, rfl, by decide +kernel, rfl, by decide +kernel, by decide +kernel⟩
section
variable {P : Program} {w : World} {K : PySem.W.Frag} {mg : Str → Option Value} {base : Heap} {f : Addr} {fd : FuncData}
theorem g_is_whole (F : FnP K "is_whole" s_is_whole f fd) (m : Md K mg) : FnG P w K mg base 1 f fd ["thing"] (SpM K (fun a : PyData => [.val (eX a)]) (fun a => m_is_whole a) (fun _ r => .val (PyData.bool r)) (fun _ r => [.hole]) (fun _ => [.hole])) := by
  refine fnG_of (n := 0) F sc_is_whole (fun _ => rfl) rfl (fun _ _ => .val) (fun _ _ => (.cons .hole .nil)) (fun _ => (.cons .hole .nil)) (fun a e h => absurd h (m_is_whole_nex _ e)) fun cdv A outer s H vs E G thing hvs B => ?_
  match vs, hvs with
  | [_], _ => ?_
  refine ⟨[.val (eX thing)], [.hole], fun r => [.hole], (.keep .nil), fun _ => (.hole .nil), (.hole .nil), ?_⟩
  show JL _ _ [.val (eX thing)] _ _ _ _
  exact JL.cons (JS.ret (JE.tot (JVt.and (JE.isi m.isinstance m.int (JE.var (i := 0) rfl ⟨.inl ⟨_, rfl⟩, _, _, (.own .val), isi_int _, ⟨rfl, rfl⟩⟩)) fun _ => (JE.one (JVt.not (JE.isi m.isinstance m.bool (JE.var (i := 0) rfl ⟨.inl ⟨_, rfl⟩, _, _, (.own .val), isi_bool _, ⟨rfl, rfl⟩⟩))))) ⟨((isIntD thing) && (!(isBoolD thing))), _, _, rfl, rfl, rfl, (by exact (.drop .nil))⟩))
end
theorem h_is_whole {X : Cx} (m : Md X.K X.mg) : Has X "is_whole" 1 (fun a : PyData => [.val (eX a)]) (fun a => m_is_whole a) (fun _ r => .val (PyData.bool r)) (fun _ r => [.hole]) (fun _ => [.hole]) :=
  has_of (ps := ["thing"]) m.f_is_whole (fun f fd F => g_is_whole F m) (fun f fd F => F.bindsN fun _ _ _ _ _ _ us hl => match us, hl with | [_], _ => rfl) (fun _ _ => .val) (fun _ _ => (.cons .hole .nil)) (fun _ => (.cons .hole .nil)) (fun a e h => absurd h (m_is_whole_nex _ e))
def m_is_place (places : Int) (thing : PyData) : Res Bool := ((m_is_whole thing).bind fun r => cond r ((xint thing).bind fun n => .ok (decide (0 ≤ n) && decide (n < places))) (.ok false)).bind fun c => .ok c
theorem m_is_place_nex (places : Int) (thing : PyData) : ∀ e, m_is_place places thing ≠ .ex e := nex_bind (nex_bind (m_is_whole_nex _) fun _ => nex_cond (nex_bind xint_nex fun _ => nex_ok) (nex_ok)) fun _ => nex_ok
theorem sc_is_place : FnScope ["places", "thing"] ["places", "thing"] (defScope s_is_place) := ⟨rfl, rfl, rfl, by decide +kernel, rfl, by decide +kernel, by decide +kernel⟩
section
variable {P : Program} {w : World} {K : PySem.W.Frag} {mg : Str → Option Value} {base : Heap} {f : Addr} {fd : FuncData}
theorem g_is_place (F : FnP K "is_place" s_is_place f fd) (m : Md K mg) : FnG P w K mg base 2 f fd ["places", "thing"] (SpM K (fun a : Int × PyData => [.val (PyData.int a.1), .val (eX a.2)]) (fun a => m_is_place a.1 a.2) (fun _ r => .val (PyData.bool r)) (fun _ r => [.hole, .hole]) (fun _ => [.hole, .hole])) := by
  refine fnG_of (n := 0) F sc_is_place (fun _ => rfl) rfl (fun _ _ => .val) (fun _ _ => (.cons .hole (.cons .hole .nil))) (fun _ => (.cons .hole (.cons .hole .nil))) (fun a e h => absurd h (m_is_place_nex _ _ e)) fun cdv A outer s H vs E G a hvs B => ?_
  obtain ⟨places, thing⟩ := a
  match vs, hvs with
  | [_, _], _ => ?_
  refine ⟨[.val (PyData.int places), .val (eX thing)], [.hole, .hole], fun r => [.hole, .hole], (.keep (.keep .nil)), fun _ => (.hole (.hole .nil)), (.hole (.hole .nil)), ?_⟩
  show JL _ _ [.val (PyData.int places), .val (eX thing)] _ _ _ _
  exact JL.cons (JS.ret (JE.runV (m := (m_is_whole thing).bind fun r => cond r ((xint thing).bind fun n => .ok (decide (0 ≤ n) && decide (n < places))) (.ok false)) (f := fun b => .val (.bool b)) (Δ := fun _ => [.val (PyData.int places), .val (eX thing)]) rfl (JE.and (JE.callN (h_is_whole m) (B.room.mono (by decide)) B.pass (JA.one (JE.var (i := 1) rfl (Args.plain thing _ [false] (.own .nil) rfl rfl rfl (fun e z => absurd z (m_is_whole_nex _ e)) fun r _ => ⟨_, rfl, _, _, rfl, fun _ => JE.one (JE.xrefV (Γf := fun y => [.val (PyData.int places), .val (eX y)]) fun n => JE.tot (JVt.chain .le .lt (JE.int ⟨rfl, rfl⟩) (JE.var (i := 1) rfl ⟨rfl, rfl⟩) (JE.var (i := 0) rfl ⟨rfl, rfl⟩)) ⟨rfl, ⟨_, rfl, rfl, rfl⟩⟩), fun _ => ⟨_, rfl, rfl, rfl⟩⟩))))) fun c _ => ⟨c, _, _, rfl, rfl, rfl, (by exact (.drop (.drop .nil)))⟩))
end
theorem h_is_place {X : Cx} (m : Md X.K X.mg) : Has X "is_place" 2 (fun a : Int × PyData => [.val (PyData.int a.1), .val (eX a.2)]) (fun a => m_is_place a.1 a.2) (fun _ r => .val (PyData.bool r)) (fun _ r => [.hole, .hole]) (fun _ => [.hole, .hole]) :=
  has_of (ps := ["places", "thing"]) m.f_is_place (fun f fd F => g_is_place F m) (fun f fd F => F.bindsN fun _ _ _ _ _ _ us hl => match us, hl with | [_, _], _ => rfl) (fun _ _ => .val) (fun _ _ => (.cons .hole (.cons .hole .nil))) (fun _ => (.cons .hole (.cons .hole .nil))) (fun a e h => absurd h (m_is_place_nex _ _ e))
def m_is_row (thing : PyData) : Res Bool := .ok (isLstD thing || isTupD thing)
theorem m_is_row_nex (thing : PyData) : ∀ e, m_is_row thing ≠ .ex e := nex_ok
theorem sc_is_row : FnScope ["thing"] ["thing"] (defScope s_is_row) := ⟨rfl, rfl, rfl, by decide +kernel, rfl, by decide +kernel, by decide +kernel⟩
section
variable {P : Program} {w : World} {K : PySem.W.Frag} {mg : Str → Option Value} {base : Heap} {f : Addr} {fd : FuncData}
theorem g_is_row (F : FnP K "is_row" s_is_row f fd) (m : Md K mg) : FnG P w K mg base 1 f fd ["thing"] (SpM K (fun a : PyData => [.val (eX a)]) (fun a => m_is_row a) (fun _ r => .val (PyData.bool r)) (fun _ r => [.hole]) (fun _ => [.hole])) := by
  refine fnG_of (n := 0) F sc_is_row (fun _ => rfl) rfl (fun _ _ => .val) (fun _ _ => (.cons .hole .nil)) (fun _ => (.cons .hole .nil)) (fun a e h => absurd h (m_is_row_nex _ e)) fun cdv A outer s H vs E G thing hvs B => ?_
  match vs, hvs with
  | [_], _ => ?_
  refine ⟨[.val (eX thing)], [.hole], fun r => [.hole], (.keep .nil), fun _ => (.hole .nil), (.hole .nil), ?_⟩
  show JL _ _ [.val (eX thing)] _ _ _ _
  exact JL.cons (JS.ret (JE.isi2 m.isinstance m.list m.tuple (JE.var (i := 0) rfl ⟨.inl ⟨_, rfl⟩, _, _, (.own .val), any2 (isi_list _) (isi_tuple _), ⟨(isLstD thing || isTupD thing), _, _, rfl, rfl, rfl, by exact (.drop .nil)⟩⟩)))
end
theorem h_is_row {X : Cx} (m : Md X.K X.mg) : Has X "is_row" 1 (fun a : PyData => [.val (eX a)]) (fun a => m_is_row a) (fun _ r => .val (PyData.bool r)) (fun _ r => [.hole]) (fun _ => [.hole]) :=
  has_of (ps := ["thing"]) m.f_is_row (fun f fd F => g_is_row F m) (fun f fd F => F.bindsN fun _ _ _ _ _ _ us hl => match us, hl with | [_], _ => rfl) (fun _ _ => .val) (fun _ _ => (.cons .hole .nil)) (fun _ => (.cons .hole .nil)) (fun a e h => absurd h (m_is_row_nex _ e))
def m_are_rising (row : List Int) : Res Bool := .ok (((row.zip (cutG row (some 1) none)).map fun x => decide (x.1 < x.2)).all id)
theorem m_are_rising_nex (row : List Int) : ∀ e, m_are_rising row ≠ .ex e := nex_ok
theorem sc_are_rising : FnScope ["row", "one", "other"] ["row"] (defScope s_are_rising) := ⟨rfl, rfl, rfl, by decide +kernel, rfl, by decide +kernel, by decide +kernel⟩
section
variable {P : Program} {w : World} {K : PySem.W.Frag} {mg : Str → Option Value} {base : Heap} {f : Addr} {fd : FuncData}
theorem g_are_rising (F : FnP K "are_rising" s_are_rising f fd) (m : Md K mg) : FnG P w K mg base 1 f fd ["row"] (SpM K (fun a : List Int => [.rd (eLI a)]) (fun a => m_are_rising a) (fun _ r => .val (PyData.bool r)) (fun _ r => [.hole]) (fun _ => [.hole])) := by
  refine fnG_of (n := 2) F sc_are_rising (fun _ => rfl) rfl (fun _ _ => .val) (fun _ _ => (.cons .hole .nil)) (fun _ => (.cons .hole .nil)) (fun a e h => absurd h (m_are_rising_nex _ e)) fun cdv A outer s H vs E G row hvs B => ?_
  match vs, hvs with
  | [_], _ => ?_
  refine ⟨[.rd (eLI row)], [.hole, .hole, .hole], fun r => [.hole, .hole, .hole], (.keep .nil), fun _ => (.hole .nil), (.hole .nil), ?_⟩
  show JL _ _ [.rd (eLI row), .hole, .hole] _ _ _ _
  exact JL.cons (JS.ret (JE.allT B.calm m.all (JE.ofLc (own' := [("one", 1), ("other", 2)]) B.calm sc_are_rising.nd (blkOk_by (by kernel_rfl)) (JT.compP (sd := fun q => .val (.tuple [PyData.int q.1, PyData.int q.2])) (g := fun x => decide (x.1 < x.2)) (se := fun y => .val (PyData.bool y)) (JSrc.zipV (e1 := PyData.int) (e2 := PyData.int) m.zip (JA.cons (pt := false) (JE.varR (i := 0) rfl ⟨.inl ⟨_, rfl⟩, fun z => z, JA.one (JE.sliceLT (f := fun x => .val (PyData.int x)) (JE.varR (i := 0) rfl ⟨.inl ⟨_, rfl⟩, _, _, _, (.own (soSL (xs := row) (e := PyData.int) fun _ => rfl)), (.at (JE.int ⟨rfl, rfl⟩)), .no, ⟨_, _, row, (cutG row (some 1) none), rfl, (soSL (xs := row) (e := PyData.int) fun _ => rfl), (soM (xs := (cutG row (some 1) none)) (e := PyData.int)), ⟨(row.zip (cutG row (some 1) none)), rfl, (.hole rfl (.hole rfl .nil)), fun x => ⟨[.rd (eLI row), .val (PyData.int x.1), .val (PyData.int x.2)], Le.refl, fun s H Ca cl fp => JG.tupV B.calm (JGs.cons (JG.name (i := 1) (JGs.cons (JG.name (i := 2) (JGs.nil rfl) sc_are_rising.nd)) sc_are_rising.nd)), fun s H Ca cl fp => JE.tot (JE.cmp (Cmp.lt (JE.var (i := 1) rfl ⟨_, rfl, JE.var (i := 2) rfl ⟨_, rfl, ⟨rfl, rfl⟩⟩⟩))) ⟨rfl, rfl⟩⟩, ⟨_, (.own (soM (xs := ((row.zip (cutG row (some 1) none)).map fun x => decide (x.1 < x.2))) (e := PyData.bool))), ⟨(((row.zip (cutG row (some 1) none)).map fun x => decide (x.1 < x.2)).all id), _, _, rfl, rfl, rfl, by exact (.drop (.drop (.drop .nil)))⟩⟩⟩⟩⟩))⟩)))))))
end
theorem h_are_rising {X : Cx} (m : Md X.K X.mg) : Has X "are_rising" 1 (fun a : List Int => [.rd (eLI a)]) (fun a => m_are_rising a) (fun _ r => .val (PyData.bool r)) (fun _ r => [.hole]) (fun _ => [.hole]) :=
  has_of (ps := ["row"]) m.f_are_rising (fun f fd F => g_are_rising F m) (fun f fd F => F.bindsN fun _ _ _ _ _ _ us hl => match us, hl with | [_], _ => rfl) (fun _ _ => .val) (fun _ _ => (.cons .hole .nil)) (fun _ => (.cons .hole .nil)) (fun a e h => absurd h (m_are_rising_nex _ e))
def m_are_rising_2 (row : List Int) : Res Bool := .ok (((row.zip (cutG row (some 1) none)).map fun x => decide (x.1 < x.2)).all id)
theorem m_are_rising_2_nex (row : List Int) : ∀ e, m_are_rising_2 row ≠ .ex e := nex_ok
theorem sc_are_rising_2 : FnScope ["row", "one", "other"] ["row"] (defScope s_are_rising) := ⟨rfl, rfl, rfl, by decide +kernel, rfl, by decide +kernel, by decide +kernel⟩
section
variable {P : Program} {w : World} {K : PySem.W.Frag} {mg : Str → Option Value} {base : Heap} {f : Addr} {fd : FuncData}
theorem g_are_rising_2 (F : FnP K "are_rising" s_are_rising f fd) (m : Md K mg) : FnG P w K mg base 1 f fd ["row"] (SpM K (fun a : List Int => [.val (eWI a)]) (fun a => m_are_rising_2 a) (fun _ r => .val (PyData.bool r)) (fun _ r => [.hole]) (fun _ => [.hole])) := by
  refine fnG_of (n := 2) F sc_are_rising_2 (fun _ => rfl) rfl (fun _ _ => .val) (fun _ _ => (.cons .hole .nil)) (fun _ => (.cons .hole .nil)) (fun a e h => absurd h (m_are_rising_2_nex _ e)) fun cdv A outer s H vs E G row hvs B => ?_
  match vs, hvs with
  | [_], _ => ?_
  refine ⟨[.val (eWI row)], [.hole, .hole, .hole], fun r => [.hole, .hole, .hole], (.keep .nil), fun _ => (.hole .nil), (.hole .nil), ?_⟩
  show JL _ _ [.val (eWI row), .hole, .hole] _ _ _ _
  exact JL.cons (JS.ret (JE.allT B.calm m.all (JE.ofLc (own' := [("one", 1), ("other", 2)]) B.calm sc_are_rising_2.nd (blkOk_by (by kernel_rfl)) (JT.compP (sd := fun q => .val (.tuple [PyData.int q.1, PyData.int q.2])) (g := fun x => decide (x.1 < x.2)) (se := fun y => .val (PyData.bool y)) (JSrc.zipW (t1 := true) (t2 := true) (e1 := PyData.int) (e2 := PyData.int) m.zip (JA.cons (pt := false) (JE.var (i := 0) rfl ⟨.inl ⟨_, rfl⟩, fun z => z, JA.one (JE.sliceWT (e := PyData.int) (JE.var (i := 0) rfl ⟨_, _, _, rfl, (.at (JE.int ⟨rfl, rfl⟩)), .no, ⟨_, _, row, (cutG row (some 1) none), rfl, (soW (xs := row) (e := PyData.int)), (soW (xs := (cutG row (some 1) none)) (e := PyData.int)), ⟨(row.zip (cutG row (some 1) none)), rfl, (.hole rfl (.hole rfl .nil)), fun x => ⟨[.val (eWI row), .val (PyData.int x.1), .val (PyData.int x.2)], Le.refl, fun s H Ca cl fp => JG.tupV B.calm (JGs.cons (JG.name (i := 1) (JGs.cons (JG.name (i := 2) (JGs.nil rfl) sc_are_rising_2.nd)) sc_are_rising_2.nd)), fun s H Ca cl fp => JE.tot (JE.cmp (Cmp.lt (JE.var (i := 1) rfl ⟨_, rfl, JE.var (i := 2) rfl ⟨_, rfl, ⟨rfl, rfl⟩⟩⟩))) ⟨rfl, rfl⟩⟩, ⟨_, (.own (soM (xs := ((row.zip (cutG row (some 1) none)).map fun x => decide (x.1 < x.2))) (e := PyData.bool))), ⟨(((row.zip (cutG row (some 1) none)).map fun x => decide (x.1 < x.2)).all id), _, _, rfl, rfl, rfl, by exact (.drop (.drop (.drop .nil)))⟩⟩⟩⟩⟩))⟩)))))))
end
theorem h_are_rising_2 {X : Cx} (m : Md X.K X.mg) : Has X "are_rising" 1 (fun a : List Int => [.val (eWI a)]) (fun a => m_are_rising_2 a) (fun _ r => .val (PyData.bool r)) (fun _ r => [.hole]) (fun _ => [.hole]) :=
  has_of (ps := ["row"]) m.f_are_rising (fun f fd F => g_are_rising_2 F m) (fun f fd F => F.bindsN fun _ _ _ _ _ _ us hl => match us, hl with | [_], _ => rfl) (fun _ _ => .val) (fun _ _ => (.cons .hole .nil)) (fun _ => (.cons .hole .nil)) (fun a e h => absurd h (m_are_rising_2_nex _ e))
def c_is_part_112 (places : Int) (x : PyData) : Res (Option Bool × Unit) := (m_is_place places x).bind fun r_2 => .ok (some r_2, ())
def c_is_part_224 (places : Int) (x_2 : PyData) : Res (Option Bool × Unit) := (m_is_place places x_2).bind fun r_5 => .ok (some r_5, ())
def m_is_part (places : Int) (thing : PyData) : Res Bool := ((m_is_row thing).bind fun r => cond (!r) (.ok true) ((xseq thing).bind fun xs => .ok (decide ((xs.length : Int) = 0)))).bind fun c => cond c (.ok false) (xsplit thing (fun thing_2 => ((compL (fun x' _ => c_is_part_112 places x') thing_2 ()).bind fun r_3 => cond (r_3.1.all id) (optR (xints thing_2) fun thing_3 => (m_are_rising thing_3).bind fun r_4 => .ok r_4) (.ok false)).bind fun c_2 => .ok c_2) (fun thing_4 => ((compL (fun x' _ => c_is_part_224 places x') thing_4 ()).bind fun r_6 => cond (r_6.1.all id) (optR (xints thing_4) fun thing_5 => (m_are_rising_2 thing_5).bind fun r_7 => .ok r_7) (.ok false)).bind fun c_3 => .ok c_3))
theorem m_is_part_nex (places : Int) (thing : PyData) : ∀ e, m_is_part places thing ≠ .ex e := nex_bind (nex_bind (m_is_row_nex _) fun _ => nex_cond (nex_ok) (nex_bind xseq_nex fun _ => nex_ok)) fun _ => nex_cond (nex_ok) (nex_xsplit (fun _ => nex_bind (nex_bind (compL_nex _ _) fun _ => nex_cond (nex_optR fun _ => nex_bind (m_are_rising_nex _) fun _ => nex_ok) (nex_ok)) fun _ => nex_ok) (fun _ => nex_bind (nex_bind (compL_nex _ _) fun _ => nex_cond (nex_optR fun _ => nex_bind (m_are_rising_2_nex _) fun _ => nex_ok) (nex_ok)) fun _ => nex_ok))
theorem sc_is_part : FnScope ["places", "thing", "one"] ["places", "thing"] (defScope s_is_part) := ⟨rfl, rfl, rfl, by decide +kernel, rfl, by decide +kernel, by decide +kernel⟩
section
variable {P : Program} {w : World} {K : PySem.W.Frag} {mg : Str → Option Value} {base : Heap} {f : Addr} {fd : FuncData}
theorem g_is_part (F : FnP K "is_part" s_is_part f fd) (m : Md K mg) : FnG P w K mg base 3 f fd ["places", "thing"] (SpM K (fun a : Int × PyData => [.val (PyData.int a.1), .val (eX a.2)]) (fun a => m_is_part a.1 a.2) (fun _ r => .val (PyData.bool r)) (fun _ r => [.hole, .hole]) (fun _ => [.hole, .hole])) := by
  refine fnG_of (n := 1) F sc_is_part (fun _ => rfl) rfl (fun _ _ => .val) (fun _ _ => (.cons .hole (.cons .hole .nil))) (fun _ => (.cons .hole (.cons .hole .nil))) (fun a e h => absurd h (m_is_part_nex _ _ e)) fun cdv A outer s H vs E G a hvs B => ?_
  obtain ⟨places, thing⟩ := a
  match vs, hvs with
  | [_, _], _ => ?_
  refine ⟨[.val (PyData.int places), .val (eX thing)], [.hole, .hole, .hole], fun r => [.hole, .hole, .hole], (.keep (.keep .nil)), fun _ => (.hole (.hole .nil)), (.hole (.hole .nil)), ?_⟩
  show JL _ _ [.val (PyData.int places), .val (eX thing), .hole] _ _ _ _
  refine JL.cons (JS.ite (JC.all (m := (m_is_row thing).bind fun r => cond (!r) (.ok true) ((xseq thing).bind fun xs => .ok (decide ((xs.length : Int) = 0)))) (by first | with_reducible rfl | rfl) (JC.bop (JW.or (JC.not (JC.val (JE.callN (h_is_row m) (B.room.mono (by decide)) B.pass (JA.one (JE.var (i := 1) rfl (Args.plain thing _ [false] (.own .nil) rfl rfl rfl (fun e z => absurd z (m_is_row_nex _ e)) fun r _ => ⟨_, rfl, ⟨_, _, rfl, fun _ => ⟨rfl, rfl⟩, fun _ => JW.or1 (JC.cmp (Cmp.eqI (JE.lenX m.len (JE.var (i := 1) rfl ⟨thing, _, rfl, rfl, fun xs => ⟨_, rfl, JE.int ⟨_, rfl, ⟨_, rfl, ⟨rfl, rfl⟩⟩⟩⟩⟩))))⟩⟩)))))))) fun c _ => ⟨_, _, rfl, fun _ => ?h1, fun _ => ?h2⟩))
  case h1 =>
    exact JL.cons (JS.ret (JE.bl ⟨false, _, _, rfl, rfl, rfl, (by exact (.drop (.drop (.drop .nil))))⟩))
  case h2 =>
    refine JL.nil ?_
    show JL _ _ [.val (PyData.int places), .val (eX thing), .hole] _ _ _ _
    refine JL.xsplit (Γf := fun y => [.val (PyData.int places), .val (eX y), .hole]) (fun thing_2 => ?h3) (fun thing_4 => ?h4)
    case h3 =>
      show JL _ _ [.val (PyData.int places), .val (eLX thing_2), .hole] _ _ _ _
      exact JL.cons (JS.ret (JE.runV (m := (compL (fun x' _ => c_is_part_112 places x') thing_2 ()).bind fun r_3 => cond (r_3.1.all id) (optR (xints thing_2) fun thing_3 => (m_are_rising thing_3).bind fun r_4 => .ok r_4) (.ok false)) (f := fun b => .val (.bool b)) (Δ := fun _ => [.val (PyData.int places), .val (eLX thing_2), .hole]) rfl (JE.and (JE.allT B.calm m.all (JE.ofLc (own' := [("one", 2)]) B.calm sc_is_part.nd (blkOk_by (by kernel_rfl)) (JT.comp (JSrc.lst (JE.var (i := 1) rfl ⟨_, _, rfl, (soL (xs := thing_2) (e := eX)), ⟨PyData, Bool, Unit, thing_2, fun x => .val (eX x), fun x' _ => c_is_part_112 places x', (), fun _ => [.val (PyData.int places), .val (eLX thing_2), .hole], fun y => .val (PyData.bool y), _, rfl, rfl, Le.refl, ft, fun _ => (.hole rfl .nil), fun x _ => ⟨[.val (PyData.int places), .val (eLX thing_2), .val (eX x)], Le.refl, fun s H Ca cl fp => JG.name (i := 2) rfl sc_is_part.nd, fun s H Ca cl fp => JE.callN (h_is_place m) (B.room.mono (by decide)) passN (JA.cons (pt := false) (JE.var (i := 0) rfl ⟨.inl ⟨_, rfl⟩, fun z => z, JA.one (JE.var (i := 2) rfl (Args.plain (places, x) _ [false, false] (.own (.own .nil)) rfl rfl rfl (fun e z => absurd z (m_is_place_nex _ _ e)) fun r_2 _ => ⟨r_2, (), rfl, rfl, Le.refl⟩))⟩))⟩, fun r_3 _ => ⟨_, (.own (soM (xs := r_3.1) (e := PyData.bool))), ⟨_, rfl, _, _, rfl, fun _ => JE.one (JE.xils (Γf := fun y => [.val (PyData.int places), .val (eX y), .hole]) (mk := .list) fun thing_3 => JE.callN (h_are_rising m) (B.room.mono (by decide)) B.pass (JA.one (JE.var (i := 1) rfl (Args.plain thing_3 _ [false] (.ownR .val .nil) rfl rfl rfl (fun e z => absurd z (m_are_rising_nex _ e)) fun r_4 _ => ⟨rfl, ⟨_, rfl, rfl, rfl⟩⟩)))), fun _ => ⟨_, rfl, rfl, rfl⟩⟩⟩⟩⟩)))))) fun c_2 _ => ⟨c_2, _, _, rfl, rfl, rfl, (by exact (.drop (.drop (.drop .nil))))⟩))
    case h4 =>
      show JL _ _ [.val (PyData.int places), .val (eWX thing_4), .hole] _ _ _ _
      exact JL.cons (JS.ret (JE.runV (m := (compL (fun x' _ => c_is_part_224 places x') thing_4 ()).bind fun r_6 => cond (r_6.1.all id) (optR (xints thing_4) fun thing_5 => (m_are_rising_2 thing_5).bind fun r_7 => .ok r_7) (.ok false)) (f := fun b => .val (.bool b)) (Δ := fun _ => [.val (PyData.int places), .val (eWX thing_4), .hole]) rfl (JE.and (JE.allT B.calm m.all (JE.ofLc (own' := [("one", 2)]) B.calm sc_is_part.nd (blkOk_by (by kernel_rfl)) (JT.comp (JSrc.tup (JE.var (i := 1) rfl ⟨_, _, rfl, (soW (xs := thing_4) (e := eX)), ⟨PyData, Bool, Unit, thing_4, fun x => .val (eX x), fun x' _ => c_is_part_224 places x', (), fun _ => [.val (PyData.int places), .val (eWX thing_4), .hole], fun y => .val (PyData.bool y), _, rfl, rfl, Le.refl, ft, fun _ => (.hole rfl .nil), fun x_2 _ => ⟨[.val (PyData.int places), .val (eWX thing_4), .val (eX x_2)], Le.refl, fun s H Ca cl fp => JG.name (i := 2) rfl sc_is_part.nd, fun s H Ca cl fp => JE.callN (h_is_place m) (B.room.mono (by decide)) passN (JA.cons (pt := false) (JE.var (i := 0) rfl ⟨.inl ⟨_, rfl⟩, fun z => z, JA.one (JE.var (i := 2) rfl (Args.plain (places, x_2) _ [false, false] (.own (.own .nil)) rfl rfl rfl (fun e z => absurd z (m_is_place_nex _ _ e)) fun r_5 _ => ⟨r_5, (), rfl, rfl, Le.refl⟩))⟩))⟩, fun r_6 _ => ⟨_, (.own (soM (xs := r_6.1) (e := PyData.bool))), ⟨_, rfl, _, _, rfl, fun _ => JE.one (JE.xils (Γf := fun y => [.val (PyData.int places), .val (eX y), .hole]) (mk := .tuple) fun thing_5 => JE.callN (h_are_rising_2 m) (B.room.mono (by decide)) B.pass (JA.one (JE.var (i := 1) rfl (Args.plain thing_5 _ [false] (.own .nil) rfl rfl rfl (fun e z => absurd z (m_are_rising_2_nex _ e)) fun r_7 _ => ⟨rfl, ⟨_, rfl, rfl, rfl⟩⟩)))), fun _ => ⟨_, rfl, rfl, rfl⟩⟩⟩⟩⟩)))))) fun c_3 _ => ⟨c_3, _, _, rfl, rfl, rfl, (by exact (.drop (.drop (.drop .nil))))⟩))
end
theorem h_is_part {X : Cx} (m : Md X.K X.mg) : Has X "is_part" 3 (fun a : Int × PyData => [.val (PyData.int a.1), .val (eX a.2)]) (fun a => m_is_part a.1 a.2) (fun _ r => .val (PyData.bool r)) (fun _ r => [.hole, .hole]) (fun _ => [.hole, .hole]) :=
  has_of (ps := ["places", "thing"]) m.f_is_part (fun f fd F => g_is_part F m) (fun f fd F => F.bindsN fun _ _ _ _ _ _ us hl => match us, hl with | [_, _], _ => rfl) (fun _ _ => .val) (fun _ _ => (.cons .hole (.cons .hole .nil))) (fun _ => (.cons .hole (.cons .hole .nil))) (fun a e h => absurd h (m_is_part_nex _ _ e))
end HD

namespace HD
open PySem PySem.Spec PyProof.Rows L2 Tsa
/-! -/
abbrev eT2II : Int × Int → PyData := fun p => .tuple [PyData.int p.1, PyData.int p.2]
abbrev eWT2II : List (Int × Int) → PyData := fun xs => .tuple (xs.map eT2II)
abbrev eT2IWT2II : Int × (List (Int × Int)) → PyData := fun p => .tuple [PyData.int p.1, eWT2II p.2]
abbrev svI : Int → SD := fun x => .val (PyData.int x)
abbrev slvI : List Int → SD := fun xs => .lst (xs.map svI)
abbrev eLLI : List (List Int) → PyData := fun xs => .list (xs.map eLI)
abbrev sdIvI : List (Int × Int) → SD := fun m => .dct (m.map fun p => (Sum.inl p.1, svI p.2))
abbrev svT2II : Int × Int → SD := fun x => .val (eT2II x)
abbrev slvT2II : List (Int × Int) → SD := fun xs => .lst (xs.map svT2II)
def c_is_parting_12 (web : Int × (List (Int × Int))) (x : PyData) : Res (Option Bool × Unit) := (m_is_part web.1 x).bind fun r_2 => .ok (some r_2, ())
def c_is_parting_40 (x_2 : PyData) : Res (Option PyData × Unit) := (xat x_2 0).bind fun y => .ok (some y, ())
def f_is_parting_41 (x_3 : PyData) (found_2 : List Int) : Res (List Int) := xsplitI x_3 (fun part => gd (found_2.length + part.length ≤ 16000000) (bindv (found_2 ++ part) fun found_3 => .ok found_3)) (fun part_2 => gd (found_2.length + part_2.length ≤ 16000000) (bindv (found_2 ++ part_2) fun found_4 => .ok found_4))
def c_is_parting_53 (web : Int × (List (Int × Int))) (x_4 : PyData) : Res (Option Bool × Unit) := (m_is_part web.1 x_4).bind fun r_7 => .ok (some r_7, ())
def c_is_parting_81 (x_5 : PyData) : Res (Option PyData × Unit) := (xat x_5 0).bind fun y_2 => .ok (some y_2, ())
def f_is_parting_82 (x_6 : PyData) (found_7 : List Int) : Res (List Int) := xsplitI x_6 (fun part_3 => gd (found_7.length + part_3.length ≤ 16000000) (bindv (found_7 ++ part_3) fun found_8 => .ok found_8)) (fun part_4 => gd (found_7.length + part_4.length ≤ 16000000) (bindv (found_7 ++ part_4) fun found_9 => .ok found_9))
def m_is_parting (web : Int × (List (Int × Int))) (thing : PyData) : Res Bool := x3 thing (fun thing_2 => ((m_is_row (eLX thing_2)).bind fun r => cond (!r) (.ok true) ((compL (fun x' _ => c_is_parting_12 web x') thing_2 ()).bind fun r_3 => .ok (!(r_3.1.all id)))).bind fun c => cond c (.ok false) (((compL (fun x' _ => c_is_parting_40 x') thing_2 ()).bind fun r_4 => optR (xints r_4.1) fun ns => (m_are_rising ns).bind fun r_5 => .ok (!r_5)).bind fun c_2 => cond c_2 (.ok false) (bindv ([] : List Int) fun found => (forS (fun x' t_3 => f_is_parting_41 x' t_3) thing_2 found).bind fun found_5 => gd (rngOk 0 web.1) (.ok (decide ((sortD PyData.int found_5) = (rangeL 0 web.1))))))) (fun thing_3 => ((m_is_row (eWX thing_3)).bind fun r_6 => cond (!r_6) (.ok true) ((compL (fun x' _ => c_is_parting_53 web x') thing_3 ()).bind fun r_8 => .ok (!(r_8.1.all id)))).bind fun c_3 => cond c_3 (.ok false) (((compL (fun x' _ => c_is_parting_81 x') thing_3 ()).bind fun r_9 => optR (xints r_9.1) fun ns_2 => (m_are_rising ns_2).bind fun r_10 => .ok (!r_10)).bind fun c_4 => cond c_4 (.ok false) (bindv ([] : List Int) fun found_6 => (forS (fun x' t_7 => f_is_parting_82 x' t_7) thing_3 found_6).bind fun found_10 => gd (rngOk 0 web.1) (.ok (decide ((sortD PyData.int found_10) = (rangeL 0 web.1))))))) (((m_is_row thing).bind fun r_11 => cond (!r_11) (.ok true) (.un)).bind fun c_5 => cond c_5 (.ok false) (.un))
theorem m_is_parting_nex (web : Int × (List (Int × Int))) (thing : PyData) : ∀ e, m_is_parting web thing ≠ .ex e := nex_x3 (fun _ => nex_bind (nex_bind (m_is_row_nex _) fun _ => nex_cond (nex_ok) (nex_bind (compL_nex _ _) fun _ => nex_ok)) fun _ => nex_cond (nex_ok) (nex_bind (nex_bind (compL_nex _ _) fun _ => nex_optR fun _ => nex_bind (m_are_rising_nex _) fun _ => nex_ok) fun _ => nex_cond (nex_ok) (nex_bindv fun _ => nex_bind (forS_nex (fun _ _ => nex_xsplitI (fun _ => nex_gd (nex_bindv fun _ => nex_ok)) (fun _ => nex_gd (nex_bindv fun _ => nex_ok))) _ _) fun _ => nex_gd (nex_ok)))) (fun _ => nex_bind (nex_bind (m_is_row_nex _) fun _ => nex_cond (nex_ok) (nex_bind (compL_nex _ _) fun _ => nex_ok)) fun _ => nex_cond (nex_ok) (nex_bind (nex_bind (compL_nex _ _) fun _ => nex_optR fun _ => nex_bind (m_are_rising_nex _) fun _ => nex_ok) fun _ => nex_cond (nex_ok) (nex_bindv fun _ => nex_bind (forS_nex (fun _ _ => nex_xsplitI (fun _ => nex_gd (nex_bindv fun _ => nex_ok)) (fun _ => nex_gd (nex_bindv fun _ => nex_ok))) _ _) fun _ => nex_gd (nex_ok)))) (nex_bind (nex_bind (m_is_row_nex _) fun _ => nex_cond (nex_ok) (nex_un)) fun _ => nex_cond (nex_ok) (nex_un))
theorem sc_is_parting : FnScope ["web", "thing", "places", "ties", "part", "found"] ["web", "thing"] (defScope s_is_parting) := ⟨rfl, rfl, rfl, by decide +kernel, rfl, by decide +kernel, by decide +kernel⟩
section
variable {P : Program} {w : World} {K : PySem.W.Frag} {mg : Str → Option Value} {base : Heap} {f : Addr} {fd : FuncData}
theorem g_is_parting (F : FnP K "is_parting" s_is_parting f fd) (m : Md K mg) : FnG P w K mg base 4 f fd ["web", "thing"] (SpM K (fun a : (Int × (List (Int × Int))) × PyData => [.val (eT2IWT2II a.1), .val (eX a.2)]) (fun a => m_is_parting a.1 a.2) (fun _ r => .val (PyData.bool r)) (fun _ r => [.hole, .hole]) (fun _ => [.hole, .hole])) := by
  refine fnG_of (n := 4) F sc_is_parting (fun _ => rfl) rfl (fun _ _ => .val) (fun _ _ => (.cons .hole (.cons .hole .nil))) (fun _ => (.cons .hole (.cons .hole .nil))) (fun a e h => absurd h (m_is_parting_nex _ _ e)) fun cdv A outer s H vs E G a hvs B => ?_
  obtain ⟨web, thing⟩ := a
  match vs, hvs with
  | [_, _], _ => ?_
  refine ⟨[.val (eT2IWT2II web), .val (eX thing)], [.hole, .hole, .hole, .hole, .hole, .hole], fun r => [.hole, .hole, .hole, .hole, .hole, .hole], (.keep (.keep .nil)), fun _ => (.hole (.hole .nil)), (.hole (.hole .nil)), ?_⟩
  show JL _ _ [.val (eT2IWT2II web), .val (eX thing), .hole, .hole, .hole, .hole] _ _ _ _
  refine JL.cons (JS.asg (JE.var (i := 0) rfl ⟨_, rfl, JG.tupV B.calm (JGs.cons (JG.name (i := 2) (JGs.cons (JG.name (i := 3) (JGs.nil ?h1) sc_is_parting.nd)) sc_is_parting.nd))⟩))
  show JL _ _ [.val (eT2IWT2II web), .val (eX thing), .val (PyData.int web.1), .val (eWT2II web.2), .hole, .hole] _ _ _ _
  refine JL.x3 (Γf := fun y => [.val (eT2IWT2II web), .val (eX y), .val (PyData.int web.1), .val (eWT2II web.2), .hole, .hole]) (fun thing_2 => ?h2) (fun thing_3 => ?h14) ?h26
  case h2 =>
    show JL _ _ [.val (eT2IWT2II web), .val (eLX thing_2), .val (PyData.int web.1), .val (eWT2II web.2), .hole, .hole] _ _ _ _
    refine JL.cons (JS.ite (JC.all (m := (m_is_row (eLX thing_2)).bind fun r => cond (!r) (.ok true) ((compL (fun x' _ => c_is_parting_12 web x') thing_2 ()).bind fun r_3 => .ok (!(r_3.1.all id)))) (by first | with_reducible rfl | rfl) (JC.bop (JW.or (JC.not (JC.val (JE.callN (h_is_row m) (B.room.mono (by decide)) B.pass (JA.one (JE.var (i := 1) rfl (Args.plain (eLX thing_2) _ [false] (.own .nil) rfl rfl rfl (fun e z => absurd z (m_is_row_nex _ e)) fun r _ => ⟨_, rfl, ⟨_, _, rfl, fun _ => ⟨rfl, rfl⟩, fun _ => JW.or1 (JC.not (JC.val (JE.allT B.calm m.all (JE.ofLc (own' := [("part", 4)]) B.calm sc_is_parting.nd (blkOk_by (by kernel_rfl)) (JT.comp (JSrc.lst (JE.var (i := 1) rfl ⟨_, _, rfl, (soL (xs := thing_2) (e := eX)), ⟨PyData, Bool, Unit, thing_2, fun x => .val (eX x), fun x' _ => c_is_parting_12 web x', (), fun _ => [.val (eT2IWT2II web), .val (eLX thing_2), .val (PyData.int web.1), .val (eWT2II web.2), .hole, .hole], fun y => .val (PyData.bool y), _, rfl, rfl, Le.refl, ft, fun _ => (.hole rfl .nil), fun x _ => ⟨[.val (eT2IWT2II web), .val (eLX thing_2), .val (PyData.int web.1), .val (eWT2II web.2), .val (eX x), .hole], Le.refl, fun s H Ca cl fp => JG.name (i := 4) rfl sc_is_parting.nd, fun s H Ca cl fp => JE.callN (h_is_part m) (B.room.mono (by decide)) passN (JA.cons (pt := false) (JE.var (i := 2) rfl ⟨.inl ⟨_, rfl⟩, fun z => z, JA.one (JE.var (i := 4) rfl (Args.plain (web.1, x) _ [false, false] (.own (.own .nil)) rfl rfl rfl (fun e z => absurd z (m_is_part_nex _ _ e)) fun r_2 _ => ⟨r_2, (), rfl, rfl, Le.refl⟩))⟩))⟩, fun r_3 _ => ⟨_, (.own (soM (xs := r_3.1) (e := PyData.bool))), ⟨_, rfl, ⟨rfl, rfl⟩⟩⟩⟩⟩)))))))⟩⟩)))))))) fun c _ => ⟨_, _, rfl, fun _ => ?h3, fun _ => ?h4⟩))
    case h3 =>
      exact JL.cons (JS.ret (JE.bl ⟨false, _, _, rfl, rfl, rfl, (by exact (.drop (.drop (.drop (.drop (.drop (.drop .nil)))))))⟩))
    case h4 =>
      refine JL.nil ?_
      show JL _ _ [.val (eT2IWT2II web), .val (eLX thing_2), .val (PyData.int web.1), .val (eWT2II web.2), .hole, .hole] _ _ _ _
      refine JL.cons (JS.ite (JC.all (m := (compL (fun x' _ => c_is_parting_40 x') thing_2 ()).bind fun r_4 => optR (xints r_4.1) fun ns => (m_are_rising ns).bind fun r_5 => .ok (!r_5)) (by first | with_reducible rfl | rfl) (JC.not (JC.val (JE.callN (h_are_rising m) (B.room.mono (by decide)) B.pass (JA.one (JE.xilO (JE.ofLc (own' := [("part", 4)]) B.calm sc_is_parting.nd (blkOk_by (by kernel_rfl)) (JT.comp (JSrc.lst (JE.var (i := 1) rfl ⟨_, _, rfl, (soL (xs := thing_2) (e := eX)), ⟨PyData, PyData, Unit, thing_2, fun x => .val (eX x), fun x' _ => c_is_parting_40 x', (), fun _ => [.val (eT2IWT2II web), .val (eLX thing_2), .val (PyData.int web.1), .val (eWT2II web.2), .hole, .hole], fun y => .val (eX y), _, rfl, rfl, Le.refl, ft, fun _ => (.hole rfl .nil), fun x_2 _ => ⟨[.val (eT2IWT2II web), .val (eLX thing_2), .val (PyData.int web.1), .val (eWT2II web.2), .val (eX x_2), .hole], Le.refl, fun s H Ca cl fp => JG.name (i := 4) rfl sc_is_parting.nd, fun s H Ca cl fp => JE.ixX (i := 4) (n := 0) rfl fun y => ⟨y, (), rfl, rfl, Le.refl⟩⟩, fun r_4 _ => ⟨r_4.1, _, rfl, rfl, fun ns => Args.plain ns _ [false] (.ownR (.lst (.map fun _ => .val)) .nil) rfl rfl rfl (fun e z => absurd z (m_are_rising_nex _ e)) fun r_5 _ => ⟨_, rfl, ⟨rfl, rfl⟩⟩⟩⟩⟩))))))))) fun c_2 _ => ⟨_, _, rfl, fun _ => ?h5, fun _ => ?h6⟩))
      case h5 =>
        exact JL.cons (JS.ret (JE.bl ⟨false, _, _, rfl, rfl, rfl, (by exact (.drop (.drop (.drop (.drop (.drop (.drop .nil)))))))⟩))
      case h6 =>
        refine JL.nil ?_
        show JL _ _ [.val (eT2IWT2II web), .val (eLX thing_2), .val (PyData.int web.1), .val (eWT2II web.2), .hole, .hole] _ _ _ _
        refine JL.cons (JS.set (i := 5) sc_is_parting.nd (JE.lstD (JA.nil ⟨[], rfl, Nat.le_of_ble_eq_true rfl, ⟨_, rfl, Nat.le_of_ble_eq_true rfl, ?h7⟩⟩)))
        refine JL.letv (Γf := fun found => [.val (eT2IWT2II web), .val (eLX thing_2), .val (PyData.int web.1), .val (eWT2II web.2), .hole, slvI found]) ([] : List Int) fun found => ?_
        show JL _ _ [.val (eT2IWT2II web), .val (eLX thing_2), .val (PyData.int web.1), .val (eWT2II web.2), .hole, slvI found] _ _ _ _
        refine JL.cons (JS.forS B.own B.calm (JSrc.lst (JE.var (i := 1) rfl ⟨_, _, rfl, (soL (xs := thing_2) (e := eX)), ⟨PyData, List Int, thing_2, fun x => .val (eX x), fun x' t_3 => f_is_parting_41 x' t_3, found, fun found_2 => [.val (eT2IWT2II web), .val (eLX thing_2), .val (PyData.int web.1), .val (eWT2II web.2), .hole, slvI found_2], _, rfl, rfl, (.same (.same (.same (.same (.drop (.same .nil)))))), fun x_3 found_2 => ?h8, fun found_5 => ?h9⟩⟩)))
        case h8 =>
          refine JG.name (i := 4) ?_ sc_is_parting.nd
          show JL _ _ [.val (eT2IWT2II web), .val (eLX thing_2), .val (PyData.int web.1), .val (eWT2II web.2), .val (eX x_3), slvI found_2] _ _ _ _
          refine JL.xsplitI (Γf := fun y => [.val (eT2IWT2II web), .val (eLX thing_2), .val (PyData.int web.1), .val (eWT2II web.2), .val (eX y), slvI found_2]) (fun part => ?h10) (fun part_2 => ?h12)
          case h10 =>
            show JL _ _ [.val (eT2IWT2II web), .val (eLX thing_2), .val (PyData.int web.1), .val (eWT2II web.2), .val (eLI part), slvI found_2] _ _ _ _
            refine JL.cons (JS.expr (JE.extendT (f := fun x => .val (PyData.int x)) (i := 5) rfl .lst (JE.var (i := 4) rfl ⟨_, _, found_2, part, _, (.own (soL (xs := part) (e := PyData.int))), rfl, .lst, gd_ok, ?h11⟩)))
            refine JL.letv (Γf := fun found_3 => [.val (eT2IWT2II web), .val (eLX thing_2), .val (PyData.int web.1), .val (eWT2II web.2), .val (eLI part), slvI found_3]) (found_2 ++ part) fun found_3 => ?_
            exact JL.nil ⟨found_3, rfl, (.same (.same (.same (.same (.drop (.same .nil))))))⟩
          case h12 =>
            show JL _ _ [.val (eT2IWT2II web), .val (eLX thing_2), .val (PyData.int web.1), .val (eWT2II web.2), .val (eWI part_2), slvI found_2] _ _ _ _
            refine JL.cons (JS.expr (JE.extendW (f := fun x => .val (PyData.int x)) (i := 5) rfl .lst (JE.var (i := 4) rfl ⟨_, _, found_2, part_2, _, (.own (soW (xs := part_2) (e := PyData.int))), rfl, .lst, gd_ok, ?h13⟩)))
            refine JL.letv (Γf := fun found_4 => [.val (eT2IWT2II web), .val (eLX thing_2), .val (PyData.int web.1), .val (eWT2II web.2), .val (eWI part_2), slvI found_4]) (found_2 ++ part_2) fun found_4 => ?_
            exact JL.nil ⟨found_4, rfl, (.same (.same (.same (.same (.drop (.same .nil))))))⟩
        case h9 =>
          show JL _ _ [.val (eT2IWT2II web), .val (eLX thing_2), .val (PyData.int web.1), .val (eWT2II web.2), .hole, slvI found_5] _ _ _ _
          exact JL.cons (JS.ret (JE.cmp (Cmp.eqT (e := eLI) (eokL eokI) (by decide) B.room (JE.sortedT (e := PyData.int) eokI srtI B.room m.sorted (JE.slot (i := 5) rfl ⟨_, (.at (i := 5) rfl (soM (xs := found_5) (e := PyData.int))), ⟨.inl ⟨_, rfl⟩, JE.listRg B.calm m.list m.range (JE.var (i := 2) rfl ⟨_, rfl, gdI ⟨(sortD PyData.int found_5), (rangeL 0 web.1), (.own (.lst (.map fun _ => .val))), (.own (.lst (.map fun _ => .val))), ⟨decide ((sortD PyData.int found_5) = (rangeL 0 web.1)), _, _, rfl, rfl, rfl, (by exact (.drop (.drop (.drop (.drop (.drop (.drop .nil)))))))⟩⟩⟩)⟩⟩)))))
  case h14 =>
    show JL _ _ [.val (eT2IWT2II web), .val (eWX thing_3), .val (PyData.int web.1), .val (eWT2II web.2), .hole, .hole] _ _ _ _
    refine JL.cons (JS.ite (JC.all (m := (m_is_row (eWX thing_3)).bind fun r_6 => cond (!r_6) (.ok true) ((compL (fun x' _ => c_is_parting_53 web x') thing_3 ()).bind fun r_8 => .ok (!(r_8.1.all id)))) (by first | with_reducible rfl | rfl) (JC.bop (JW.or (JC.not (JC.val (JE.callN (h_is_row m) (B.room.mono (by decide)) B.pass (JA.one (JE.var (i := 1) rfl (Args.plain (eWX thing_3) _ [false] (.own .nil) rfl rfl rfl (fun e z => absurd z (m_is_row_nex _ e)) fun r_6 _ => ⟨_, rfl, ⟨_, _, rfl, fun _ => ⟨rfl, rfl⟩, fun _ => JW.or1 (JC.not (JC.val (JE.allT B.calm m.all (JE.ofLc (own' := [("part", 4)]) B.calm sc_is_parting.nd (blkOk_by (by kernel_rfl)) (JT.comp (JSrc.tup (JE.var (i := 1) rfl ⟨_, _, rfl, (soW (xs := thing_3) (e := eX)), ⟨PyData, Bool, Unit, thing_3, fun x => .val (eX x), fun x' _ => c_is_parting_53 web x', (), fun _ => [.val (eT2IWT2II web), .val (eWX thing_3), .val (PyData.int web.1), .val (eWT2II web.2), .hole, .hole], fun y => .val (PyData.bool y), _, rfl, rfl, Le.refl, ft, fun _ => (.hole rfl .nil), fun x_4 _ => ⟨[.val (eT2IWT2II web), .val (eWX thing_3), .val (PyData.int web.1), .val (eWT2II web.2), .val (eX x_4), .hole], Le.refl, fun s H Ca cl fp => JG.name (i := 4) rfl sc_is_parting.nd, fun s H Ca cl fp => JE.callN (h_is_part m) (B.room.mono (by decide)) passN (JA.cons (pt := false) (JE.var (i := 2) rfl ⟨.inl ⟨_, rfl⟩, fun z => z, JA.one (JE.var (i := 4) rfl (Args.plain (web.1, x_4) _ [false, false] (.own (.own .nil)) rfl rfl rfl (fun e z => absurd z (m_is_part_nex _ _ e)) fun r_7 _ => ⟨r_7, (), rfl, rfl, Le.refl⟩))⟩))⟩, fun r_8 _ => ⟨_, (.own (soM (xs := r_8.1) (e := PyData.bool))), ⟨_, rfl, ⟨rfl, rfl⟩⟩⟩⟩⟩)))))))⟩⟩)))))))) fun c_3 _ => ⟨_, _, rfl, fun _ => ?h15, fun _ => ?h16⟩))
    case h15 =>
      exact JL.cons (JS.ret (JE.bl ⟨false, _, _, rfl, rfl, rfl, (by exact (.drop (.drop (.drop (.drop (.drop (.drop .nil)))))))⟩))
    case h16 =>
      refine JL.nil ?_
      show JL _ _ [.val (eT2IWT2II web), .val (eWX thing_3), .val (PyData.int web.1), .val (eWT2II web.2), .hole, .hole] _ _ _ _
      refine JL.cons (JS.ite (JC.all (m := (compL (fun x' _ => c_is_parting_81 x') thing_3 ()).bind fun r_9 => optR (xints r_9.1) fun ns_2 => (m_are_rising ns_2).bind fun r_10 => .ok (!r_10)) (by first | with_reducible rfl | rfl) (JC.not (JC.val (JE.callN (h_are_rising m) (B.room.mono (by decide)) B.pass (JA.one (JE.xilO (JE.ofLc (own' := [("part", 4)]) B.calm sc_is_parting.nd (blkOk_by (by kernel_rfl)) (JT.comp (JSrc.tup (JE.var (i := 1) rfl ⟨_, _, rfl, (soW (xs := thing_3) (e := eX)), ⟨PyData, PyData, Unit, thing_3, fun x => .val (eX x), fun x' _ => c_is_parting_81 x', (), fun _ => [.val (eT2IWT2II web), .val (eWX thing_3), .val (PyData.int web.1), .val (eWT2II web.2), .hole, .hole], fun y => .val (eX y), _, rfl, rfl, Le.refl, ft, fun _ => (.hole rfl .nil), fun x_5 _ => ⟨[.val (eT2IWT2II web), .val (eWX thing_3), .val (PyData.int web.1), .val (eWT2II web.2), .val (eX x_5), .hole], Le.refl, fun s H Ca cl fp => JG.name (i := 4) rfl sc_is_parting.nd, fun s H Ca cl fp => JE.ixX (i := 4) (n := 0) rfl fun y_2 => ⟨y_2, (), rfl, rfl, Le.refl⟩⟩, fun r_9 _ => ⟨r_9.1, _, rfl, rfl, fun ns_2 => Args.plain ns_2 _ [false] (.ownR (.lst (.map fun _ => .val)) .nil) rfl rfl rfl (fun e z => absurd z (m_are_rising_nex _ e)) fun r_10 _ => ⟨_, rfl, ⟨rfl, rfl⟩⟩⟩⟩⟩))))))))) fun c_4 _ => ⟨_, _, rfl, fun _ => ?h17, fun _ => ?h18⟩))
      case h17 =>
        exact JL.cons (JS.ret (JE.bl ⟨false, _, _, rfl, rfl, rfl, (by exact (.drop (.drop (.drop (.drop (.drop (.drop .nil)))))))⟩))
      case h18 =>
        refine JL.nil ?_
        show JL _ _ [.val (eT2IWT2II web), .val (eWX thing_3), .val (PyData.int web.1), .val (eWT2II web.2), .hole, .hole] _ _ _ _
        refine JL.cons (JS.set (i := 5) sc_is_parting.nd (JE.lstD (JA.nil ⟨[], rfl, Nat.le_of_ble_eq_true rfl, ⟨_, rfl, Nat.le_of_ble_eq_true rfl, ?h19⟩⟩)))
        refine JL.letv (Γf := fun found_6 => [.val (eT2IWT2II web), .val (eWX thing_3), .val (PyData.int web.1), .val (eWT2II web.2), .hole, slvI found_6]) ([] : List Int) fun found_6 => ?_
        show JL _ _ [.val (eT2IWT2II web), .val (eWX thing_3), .val (PyData.int web.1), .val (eWT2II web.2), .hole, slvI found_6] _ _ _ _
        refine JL.cons (JS.forS B.own B.calm (JSrc.tup (JE.var (i := 1) rfl ⟨_, _, rfl, (soW (xs := thing_3) (e := eX)), ⟨PyData, List Int, thing_3, fun x => .val (eX x), fun x' t_7 => f_is_parting_82 x' t_7, found_6, fun found_7 => [.val (eT2IWT2II web), .val (eWX thing_3), .val (PyData.int web.1), .val (eWT2II web.2), .hole, slvI found_7], _, rfl, rfl, (.same (.same (.same (.same (.drop (.same .nil)))))), fun x_6 found_7 => ?h20, fun found_10 => ?h21⟩⟩)))
        case h20 =>
          refine JG.name (i := 4) ?_ sc_is_parting.nd
          show JL _ _ [.val (eT2IWT2II web), .val (eWX thing_3), .val (PyData.int web.1), .val (eWT2II web.2), .val (eX x_6), slvI found_7] _ _ _ _
          refine JL.xsplitI (Γf := fun y => [.val (eT2IWT2II web), .val (eWX thing_3), .val (PyData.int web.1), .val (eWT2II web.2), .val (eX y), slvI found_7]) (fun part_3 => ?h22) (fun part_4 => ?h24)
          case h22 =>
            show JL _ _ [.val (eT2IWT2II web), .val (eWX thing_3), .val (PyData.int web.1), .val (eWT2II web.2), .val (eLI part_3), slvI found_7] _ _ _ _
            refine JL.cons (JS.expr (JE.extendT (f := fun x => .val (PyData.int x)) (i := 5) rfl .lst (JE.var (i := 4) rfl ⟨_, _, found_7, part_3, _, (.own (soL (xs := part_3) (e := PyData.int))), rfl, .lst, gd_ok, ?h23⟩)))
            refine JL.letv (Γf := fun found_8 => [.val (eT2IWT2II web), .val (eWX thing_3), .val (PyData.int web.1), .val (eWT2II web.2), .val (eLI part_3), slvI found_8]) (found_7 ++ part_3) fun found_8 => ?_
            exact JL.nil ⟨found_8, rfl, (.same (.same (.same (.same (.drop (.same .nil))))))⟩
          case h24 =>
            show JL _ _ [.val (eT2IWT2II web), .val (eWX thing_3), .val (PyData.int web.1), .val (eWT2II web.2), .val (eWI part_4), slvI found_7] _ _ _ _
            refine JL.cons (JS.expr (JE.extendW (f := fun x => .val (PyData.int x)) (i := 5) rfl .lst (JE.var (i := 4) rfl ⟨_, _, found_7, part_4, _, (.own (soW (xs := part_4) (e := PyData.int))), rfl, .lst, gd_ok, ?h25⟩)))
            refine JL.letv (Γf := fun found_9 => [.val (eT2IWT2II web), .val (eWX thing_3), .val (PyData.int web.1), .val (eWT2II web.2), .val (eWI part_4), slvI found_9]) (found_7 ++ part_4) fun found_9 => ?_
            exact JL.nil ⟨found_9, rfl, (.same (.same (.same (.same (.drop (.same .nil))))))⟩
        case h21 =>
          show JL _ _ [.val (eT2IWT2II web), .val (eWX thing_3), .val (PyData.int web.1), .val (eWT2II web.2), .hole, slvI found_10] _ _ _ _
          exact JL.cons (JS.ret (JE.cmp (Cmp.eqT (e := eLI) (eokL eokI) (by decide) B.room (JE.sortedT (e := PyData.int) eokI srtI B.room m.sorted (JE.slot (i := 5) rfl ⟨_, (.at (i := 5) rfl (soM (xs := found_10) (e := PyData.int))), ⟨.inl ⟨_, rfl⟩, JE.listRg B.calm m.list m.range (JE.var (i := 2) rfl ⟨_, rfl, gdI ⟨(sortD PyData.int found_10), (rangeL 0 web.1), (.own (.lst (.map fun _ => .val))), (.own (.lst (.map fun _ => .val))), ⟨decide ((sortD PyData.int found_10) = (rangeL 0 web.1)), _, _, rfl, rfl, rfl, (by exact (.drop (.drop (.drop (.drop (.drop (.drop .nil)))))))⟩⟩⟩)⟩⟩)))))
  case h26 =>
    show JL _ _ [.val (eT2IWT2II web), .val (eX thing), .val (PyData.int web.1), .val (eWT2II web.2), .hole, .hole] _ _ _ _
    refine JL.cons (JS.ite (JC.all (m := (m_is_row thing).bind fun r_11 => cond (!r_11) (.ok true) (.un)) (by first | with_reducible rfl | rfl) (JC.bop (JW.or (JC.not (JC.val (JE.callN (h_is_row m) (B.room.mono (by decide)) B.pass (JA.one (JE.var (i := 1) rfl (Args.plain thing _ [false] (.own .nil) rfl rfl rfl (fun e z => absurd z (m_is_row_nex _ e)) fun r_11 _ => ⟨_, rfl, ⟨_, _, rfl, fun _ => ⟨rfl, rfl⟩, fun _ => JW.or1 (JC.not (JC.val (JE.ne fun z => absurd rfl z)))⟩⟩)))))))) fun c_5 _ => ⟨_, _, rfl, fun _ => ?h27, fun _ => ?h28⟩))
    case h27 =>
      exact JL.cons (JS.ret (JE.bl ⟨false, _, _, rfl, rfl, rfl, (by exact (.drop (.drop (.drop (.drop (.drop (.drop .nil)))))))⟩))
    case h28 =>
      refine JL.nil ?_
      show JL _ _ [.val (eT2IWT2II web), .val (eX thing), .val (PyData.int web.1), .val (eWT2II web.2), .hole, .hole] _ _ _ _
      exact JL.ne fun z => absurd rfl z
end
theorem h_is_parting {X : Cx} (m : Md X.K X.mg) : Has X "is_parting" 4 (fun a : (Int × (List (Int × Int))) × PyData => [.val (eT2IWT2II a.1), .val (eX a.2)]) (fun a => m_is_parting a.1 a.2) (fun _ r => .val (PyData.bool r)) (fun _ r => [.hole, .hole]) (fun _ => [.hole, .hole]) :=
  has_of (ps := ["web", "thing"]) m.f_is_parting (fun f fd F => g_is_parting F m) (fun f fd F => F.bindsN fun _ _ _ _ _ _ us hl => match us, hl with | [_, _], _ => rfl) (fun _ _ => .val) (fun _ _ => (.cons .hole (.cons .hole .nil))) (fun _ => (.cons .hole (.cons .hole .nil))) (fun a e h => absurd h (m_is_parting_nex _ _ e))
def f_between_1 (x : List Int × Nat) (x_2 : Int) (part_of_3 : List (Int × Int)) : Res (List (Int × Int)) := gd (part_of_3.length < 16000000) (bindv (aPut part_of_3 x_2 (x.2 : Int)) fun part_of_4 => .ok part_of_4)
def f_between_2 (x : List Int × Nat) (part_of_2 : List (Int × Int)) : Res (List (Int × Int)) := (forS (fun x' t => f_between_1 x x' t) x.1 part_of_2).bind fun part_of_5 => .ok part_of_5
def c_between_4 (part_of_6 : List (Int × Int)) (x_3 : (Int × Int) × Nat) : Res (Option Int × Unit) := ((dGetR part_of_6 x_3.1.1).bind fun y => (dGetR part_of_6 x_3.1.2).bind fun y_2 => .ok (!decide (y = y_2), ()) : Res (Bool × Unit)).bind fun r' => cond r'.1 ((fun _ => .ok (some (x_3.2 : Int), ())) r'.2) (.ok (none, r'.2))
def m_between (web : Int × (List (Int × Int))) (parting : List (List Int)) : Res (List Int) := bindv ([] : List (Int × Int)) fun part_of => (forS (fun x' t_3 => f_between_2 x' t_3) (parting.zipIdx) part_of).bind fun part_of_6 => (compL (fun x' _ => c_between_4 part_of_6 x') (web.2.zipIdx) ()).bind fun r => .ok r.1
theorem m_between_nex (web : Int × (List (Int × Int))) (parting : List (List Int)) : ∀ e, m_between web parting ≠ .ex e := nex_bindv fun _ => nex_bind (forS_nex (fun _ _ => nex_bind (forS_nex (fun _ _ => nex_gd (nex_bindv fun _ => nex_ok)) _ _) fun _ => nex_ok) _ _) fun _ => nex_bind (compL_nex _ _) fun _ => nex_ok
theorem sc_between : FnScope ["web", "parting", "part_of", "k", "part", "place", "number", "a", "b"] ["web", "parting"] (defScope s_between) := ⟨rfl, rfl, rfl, by decide +kernel, rfl, by decide +kernel, by decide +kernel⟩
section
variable {P : Program} {w : World} {K : PySem.W.Frag} {mg : Str → Option Value} {base : Heap} {f : Addr} {fd : FuncData}
theorem g_between (F : FnP K "between" s_between f fd) (m : Md K mg) : FnG P w K mg base 1 f fd ["web", "parting"] (SpM K (fun a : (Int × (List (Int × Int))) × List (List Int) => [.val (eT2IWT2II a.1), .rd (eLLI a.2)]) (fun a => m_between a.1 a.2) (fun _ r => slvI r) (fun _ r => [.hole, .hole]) (fun _ => [.hole, .hole])) := by
  refine fnG_of (n := 7) F sc_between (fun _ => rfl) rfl (fun _ _ => (.lst (.map fun _ => .val))) (fun _ _ => (.cons .hole (.cons .hole .nil))) (fun _ => (.cons .hole (.cons .hole .nil))) (fun a e h => absurd h (m_between_nex _ _ e)) fun cdv A outer s H vs E G a hvs B => ?_
  obtain ⟨web, parting⟩ := a
  match vs, hvs with
  | [_, _], _ => ?_
  refine ⟨[.val (eT2IWT2II web), .rd (eLLI parting)], [.hole, .hole, .hole, .hole, .hole, .hole, .hole, .hole, .hole], fun r => [.hole, .hole, .hole, .hole, .hole, .hole, .hole, .hole, .hole], (.keep (.keep .nil)), fun _ => (.hole (.hole .nil)), (.hole (.hole .nil)), ?_⟩
  show JL _ _ [.val (eT2IWT2II web), .rd (eLLI parting), .hole, .hole, .hole, .hole, .hole, .hole, .hole] _ _ _ _
  refine JL.cons (JS.set (i := 2) sc_between.nd (JE.dnew ⟨_, rfl, Nat.le_of_ble_eq_true rfl, ?h1⟩))
  refine JL.letv (Γf := fun part_of => [.val (eT2IWT2II web), .rd (eLLI parting), sdIvI part_of, .hole, .hole, .hole, .hole, .hole, .hole]) ([] : List (Int × Int)) fun part_of => ?_
  show JL _ _ [.val (eT2IWT2II web), .rd (eLLI parting), sdIvI part_of, .hole, .hole, .hole, .hole, .hole, .hole] _ _ _ _
  refine JL.cons (JS.forS B.own B.calm (JSrc.enLR m.enumerate (JE.varR (i := 1) rfl ⟨_, parting, rfl, (soRL (xs := parting) (e := eLI)), ⟨List Int × Nat, List (Int × Int), (parting.zipIdx), fun q => .rd (.tuple [.int (q.2 : Nat), eLI q.1]), fun x' t_3 => f_between_2 x' t_3, part_of, fun part_of_2 => [.val (eT2IWT2II web), .rd (eLLI parting), sdIvI part_of_2, .hole, .hole, .hole, .hole, .hole, .hole], _, rfl, rfl, (.same (.same (.same (.drop (.drop (.drop (.drop (.drop (.drop .nil))))))))), fun x part_of_2 => ?h2, fun part_of_6 => ?h3⟩⟩)))
  case h2 =>
    refine JG.tupR B.calm (JGs.cons (JG.name (i := 3) (JGs.cons (JG.name (i := 4) (JGs.nil ?_) sc_between.nd)) sc_between.nd))
    show JL _ _ [.val (eT2IWT2II web), .rd (eLLI parting), sdIvI part_of_2, .val (PyData.int (x.2 : Int)), .rd (eLI x.1), .hole, .hole, .hole, .hole] _ _ _ _
    refine JL.cons (JS.forS B.own B.calm (JSrc.lst (JE.varR (i := 4) rfl ⟨_, _, rfl, (soSL (xs := x.1) (e := PyData.int) fun _ => rfl), ⟨Int, List (Int × Int), x.1, fun x => .val (PyData.int x), fun x' t => f_between_1 x x' t, part_of_2, fun part_of_3 => [.val (eT2IWT2II web), .rd (eLLI parting), sdIvI part_of_3, .val (PyData.int (x.2 : Int)), .rd (eLI x.1), .hole, .hole, .hole, .hole], _, rfl, rfl, (.same (.same (.same (.same (.same (.drop (.drop (.drop (.drop .nil))))))))), fun x_2 part_of_3 => ?h4, fun part_of_5 => ?h5⟩⟩)))
    case h4 =>
      refine JG.name (i := 5) ?_ sc_between.nd
      show JL _ _ [.val (eT2IWT2II web), .rd (eLLI parting), sdIvI part_of_3, .val (PyData.int (x.2 : Int)), .rd (eLI x.1), .val (PyData.int x_2), .hole, .hole, .hole] _ _ _ _
      refine JL.cons (JS.dput (s := .hole) (l := []) (mk := fun _ => .hole) (i := 2) (kk := Sum.inl) (kd := PyData.int) (f := svI) keI B.room (JE.var (i := 3) rfl ⟨(x.2 : Int), _, _, _, rfl, rfl, .dct, JE.var (i := 5) rfl ⟨x_2, _, part_of_3, _, _, rfl, rfl, .dct, gd_ok, ?h7⟩⟩))
      refine JL.letv (Γf := fun part_of_4 => [.val (eT2IWT2II web), .rd (eLLI parting), sdIvI part_of_4, .val (PyData.int (x.2 : Int)), .rd (eLI x.1), .val (PyData.int x_2), .hole, .hole, .hole]) (aPut part_of_3 x_2 (x.2 : Int)) fun part_of_4 => ?_
      exact JL.nil ⟨part_of_4, rfl, (.same (.same (.same (.same (.same (.drop (.drop (.drop (.drop .nil)))))))))⟩
    case h5 =>
      exact JL.nil ⟨part_of_5, rfl, (.same (.same (.same (.drop (.drop (.drop (.drop (.drop (.drop .nil)))))))))⟩
  case h3 =>
    show JL _ _ [.val (eT2IWT2II web), .rd (eLLI parting), sdIvI part_of_6, .hole, .hole, .hole, .hole, .hole, .hole] _ _ _ _
    exact JL.cons (JS.ret (JE.ofLc (own' := [("number", 6), ("a", 7), ("b", 8)]) B.calm sc_between.nd (blkOk_by (by kernel_rfl)) (JT.comp (JSrc.enW m.enumerate (JE.ixT (JE.var (i := 0) rfl ⟨.inl ⟨_, rfl⟩, _, _, .own (.tup (ds := [PyData.int web.1, eWT2II web.2])), rfl, ⟨_, web.2, rfl, (soW (xs := web.2) (e := eT2II)), ⟨(Int × Int) × Nat, Int, Unit, (web.2.zipIdx), fun q => .val (.tuple [.int (q.2 : Nat), eT2II q.1]), fun x' _ => c_between_4 part_of_6 x', (), fun _ => [.val (eT2IWT2II web), .rd (eLLI parting), sdIvI part_of_6, .hole, .hole, .hole, .hole, .hole, .hole], fun y => .val (PyData.int y), _, rfl, rfl, Le.refl, ft, fun _ => (.hole rfl (.hole rfl (.hole rfl .nil))), fun x_3 _ => ⟨[.val (eT2IWT2II web), .rd (eLLI parting), sdIvI part_of_6, .hole, .hole, .hole, .val (PyData.int (x_3.2 : Int)), .val (PyData.int x_3.1.1), .val (PyData.int x_3.1.2)], Le.refl, fun s H Ca cl fp => JG.tupV B.calm (JGs.cons (JG.name (i := 6) (JGs.cons (JG.tupV B.calm (JGs.cons (JG.name (i := 7) (JGs.cons (JG.name (i := 8) (JGs.nil (JGs.nil rfl)) sc_between.nd)) sc_between.nd)))) sc_between.nd)), _, _, fun _ => [.val (eT2IWT2II web), .rd (eLLI parting), sdIvI part_of_6, .hole, .hole, .hole, .val (PyData.int (x_3.2 : Int)), .val (PyData.int x_3.1.1), .val (PyData.int x_3.1.2)], rfl, fun _ => Le.refl, fun s H Ca cl fp => JC.cmp (Cmp.neI (JE.dget (pt := false) (kd := PyData.int) (e := PyData.int) keI B.room (JE.slot (i := 2) rfl ⟨.inr (.inl ⟨_, rfl⟩), fun z => z, JE.var (i := 7) rfl ⟨_, x_3.1.1, rfl, .at (i := 2) rfl .mine, _, rfl, fun y _ => ⟨_, rfl, JE.dget (pt := false) (kd := PyData.int) (e := PyData.int) keI B.room (JE.slot (i := 2) rfl ⟨.inr (.inl ⟨_, rfl⟩), fun z => z, JE.var (i := 8) rfl ⟨_, x_3.1.2, rfl, .at (i := 2) rfl .mine, _, rfl, fun y_2 _ => ⟨_, rfl, ⟨_, rfl, ⟨(), rfl, rfl⟩⟩⟩⟩⟩)⟩⟩⟩))), fun _ => fun s H Ca cl fp => JE.var (i := 6) rfl ⟨(x_3.2 : Int), (), rfl, rfl, Le.refl⟩⟩, fun r _ => ⟨r.1, _, _, rfl, rfl, rfl, (by exact (.drop (.drop (.drop (.drop (.drop (.drop (.drop (.drop (.drop .nil))))))))))⟩⟩⟩⟩))))))
end
theorem h_between {X : Cx} (m : Md X.K X.mg) : Has X "between" 1 (fun a : (Int × (List (Int × Int))) × List (List Int) => [.val (eT2IWT2II a.1), .rd (eLLI a.2)]) (fun a => m_between a.1 a.2) (fun _ r => slvI r) (fun _ r => [.hole, .hole]) (fun _ => [.hole, .hole]) :=
  has_of (ps := ["web", "parting"]) m.f_between (fun f fd F => g_between F m) (fun f fd F => F.bindsN fun _ _ _ _ _ _ us hl => match us, hl with | [_, _], _ => rfl) (fun _ _ => (.lst (.map fun _ => .val))) (fun _ _ => (.cons .hole (.cons .hole .nil))) (fun _ => (.cons .hole (.cons .hole .nil))) (fun a e h => absurd h (m_between_nex _ _ e))
def f_between_2_1 (x : PyData × Nat) (x_2 : Int) (part_of_3 : List (Int × Int)) : Res (List (Int × Int)) := gd (part_of_3.length < 16000000) (bindv (aPut part_of_3 x_2 (x.2 : Int)) fun part_of_4 => .ok part_of_4)
def f_between_2_2 (x : PyData × Nat) (x_3 : Int) (part_of_6 : List (Int × Int)) : Res (List (Int × Int)) := gd (part_of_6.length < 16000000) (bindv (aPut part_of_6 x_3 (x.2 : Int)) fun part_of_7 => .ok part_of_7)
def f_between_2_3 (x : PyData × Nat) (part_of_2 : List (Int × Int)) : Res (List (Int × Int)) := xsplitI x.1 (fun part => (forS (fun x' t => f_between_2_1 x x' t) part part_of_2).bind fun part_of_5 => .ok part_of_5) (fun part_2 => (forS (fun x' t_3 => f_between_2_2 x x' t_3) part_2 part_of_2).bind fun part_of_8 => .ok part_of_8)
def c_between_2_5 (part_of_9 : List (Int × Int)) (x_4 : (Int × Int) × Nat) : Res (Option Int × Unit) := ((dGetR part_of_9 x_4.1.1).bind fun y => (dGetR part_of_9 x_4.1.2).bind fun y_2 => .ok (!decide (y = y_2), ()) : Res (Bool × Unit)).bind fun r' => cond r'.1 ((fun _ => .ok (some (x_4.2 : Int), ())) r'.2) (.ok (none, r'.2))
def f_between_2_6 (x_5 : PyData × Nat) (x_6 : Int) (part_of_12 : List (Int × Int)) : Res (List (Int × Int)) := gd (part_of_12.length < 16000000) (bindv (aPut part_of_12 x_6 (x_5.2 : Int)) fun part_of_13 => .ok part_of_13)
def f_between_2_7 (x_5 : PyData × Nat) (x_7 : Int) (part_of_15 : List (Int × Int)) : Res (List (Int × Int)) := gd (part_of_15.length < 16000000) (bindv (aPut part_of_15 x_7 (x_5.2 : Int)) fun part_of_16 => .ok part_of_16)
def f_between_2_8 (x_5 : PyData × Nat) (part_of_11 : List (Int × Int)) : Res (List (Int × Int)) := xsplitI x_5.1 (fun part_3 => (forS (fun x' t_8 => f_between_2_6 x_5 x' t_8) part_3 part_of_11).bind fun part_of_14 => .ok part_of_14) (fun part_4 => (forS (fun x' t_10 => f_between_2_7 x_5 x' t_10) part_4 part_of_11).bind fun part_of_17 => .ok part_of_17)
def c_between_2_10 (part_of_18 : List (Int × Int)) (x_8 : (Int × Int) × Nat) : Res (Option Int × Unit) := ((dGetR part_of_18 x_8.1.1).bind fun y_3 => (dGetR part_of_18 x_8.1.2).bind fun y_4 => .ok (!decide (y_3 = y_4), ()) : Res (Bool × Unit)).bind fun r' => cond r'.1 ((fun _ => .ok (some (x_8.2 : Int), ())) r'.2) (.ok (none, r'.2))
def m_between_2 (web : Int × (List (Int × Int))) (parting : PyData) : Res (List Int) := xsplit parting (fun parting_2 => bindv ([] : List (Int × Int)) fun part_of => (forS (fun x' t_5 => f_between_2_3 x' t_5) (parting_2.zipIdx) part_of).bind fun part_of_9 => (compL (fun x' _ => c_between_2_5 part_of_9 x') (web.2.zipIdx) ()).bind fun r => .ok r.1) (fun parting_3 => bindv ([] : List (Int × Int)) fun part_of_10 => (forS (fun x' t_12 => f_between_2_8 x' t_12) (parting_3.zipIdx) part_of_10).bind fun part_of_18 => (compL (fun x' _ => c_between_2_10 part_of_18 x') (web.2.zipIdx) ()).bind fun r_2 => .ok r_2.1)
theorem m_between_2_nex (web : Int × (List (Int × Int))) (parting : PyData) : ∀ e, m_between_2 web parting ≠ .ex e := nex_xsplit (fun _ => nex_bindv fun _ => nex_bind (forS_nex (fun _ _ => nex_xsplitI (fun _ => nex_bind (forS_nex (fun _ _ => nex_gd (nex_bindv fun _ => nex_ok)) _ _) fun _ => nex_ok) (fun _ => nex_bind (forS_nex (fun _ _ => nex_gd (nex_bindv fun _ => nex_ok)) _ _) fun _ => nex_ok)) _ _) fun _ => nex_bind (compL_nex _ _) fun _ => nex_ok) (fun _ => nex_bindv fun _ => nex_bind (forS_nex (fun _ _ => nex_xsplitI (fun _ => nex_bind (forS_nex (fun _ _ => nex_gd (nex_bindv fun _ => nex_ok)) _ _) fun _ => nex_ok) (fun _ => nex_bind (forS_nex (fun _ _ => nex_gd (nex_bindv fun _ => nex_ok)) _ _) fun _ => nex_ok)) _ _) fun _ => nex_bind (compL_nex _ _) fun _ => nex_ok)
theorem sc_between_2 : FnScope ["web", "parting", "part_of", "k", "part", "place", "number", "a", "b"] ["web", "parting"] (defScope s_between) := ⟨rfl, rfl, rfl, by decide +kernel, rfl, by decide +kernel, by decide +kernel⟩
section
variable {P : Program} {w : World} {K : PySem.W.Frag} {mg : Str → Option Value} {base : Heap} {f : Addr} {fd : FuncData}
theorem g_between_2 (F : FnP K "between" s_between f fd) (m : Md K mg) : FnG P w K mg base 1 f fd ["web", "parting"] (SpM K (fun a : (Int × (List (Int × Int))) × PyData => [.val (eT2IWT2II a.1), .val (eX a.2)]) (fun a => m_between_2 a.1 a.2) (fun _ r => slvI r) (fun _ r => [.hole, .hole]) (fun _ => [.hole, .hole])) := by
  refine fnG_of (n := 7) F sc_between_2 (fun _ => rfl) rfl (fun _ _ => (.lst (.map fun _ => .val))) (fun _ _ => (.cons .hole (.cons .hole .nil))) (fun _ => (.cons .hole (.cons .hole .nil))) (fun a e h => absurd h (m_between_2_nex _ _ e)) fun cdv A outer s H vs E G a hvs B => ?_
  obtain ⟨web, parting⟩ := a
  match vs, hvs with
  | [_, _], _ => ?_
  refine ⟨[.val (eT2IWT2II web), .val (eX parting)], [.hole, .hole, .hole, .hole, .hole, .hole, .hole, .hole, .hole], fun r => [.hole, .hole, .hole, .hole, .hole, .hole, .hole, .hole, .hole], (.keep (.keep .nil)), fun _ => (.hole (.hole .nil)), (.hole (.hole .nil)), ?_⟩
  show JL _ _ [.val (eT2IWT2II web), .val (eX parting), .hole, .hole, .hole, .hole, .hole, .hole, .hole] _ _ _ _
  refine JL.xsplit (Γf := fun y => [.val (eT2IWT2II web), .val (eX y), .hole, .hole, .hole, .hole, .hole, .hole, .hole]) (fun parting_2 => ?h1) (fun parting_3 => ?h15)
  case h1 =>
    show JL _ _ [.val (eT2IWT2II web), .val (eLX parting_2), .hole, .hole, .hole, .hole, .hole, .hole, .hole] _ _ _ _
    refine JL.cons (JS.set (i := 2) sc_between_2.nd (JE.dnew ⟨_, rfl, Nat.le_of_ble_eq_true rfl, ?h2⟩))
    refine JL.letv (Γf := fun part_of => [.val (eT2IWT2II web), .val (eLX parting_2), sdIvI part_of, .hole, .hole, .hole, .hole, .hole, .hole]) ([] : List (Int × Int)) fun part_of => ?_
    show JL _ _ [.val (eT2IWT2II web), .val (eLX parting_2), sdIvI part_of, .hole, .hole, .hole, .hole, .hole, .hole] _ _ _ _
    refine JL.cons (JS.forS B.own B.calm (JSrc.enL m.enumerate (JE.var (i := 1) rfl ⟨_, parting_2, rfl, (soL (xs := parting_2) (e := eX)), ⟨PyData × Nat, List (Int × Int), (parting_2.zipIdx), fun q => .val (.tuple [.int (q.2 : Nat), eX q.1]), fun x' t_5 => f_between_2_3 x' t_5, part_of, fun part_of_2 => [.val (eT2IWT2II web), .val (eLX parting_2), sdIvI part_of_2, .hole, .hole, .hole, .hole, .hole, .hole], _, rfl, rfl, (.same (.same (.same (.drop (.drop (.drop (.drop (.drop (.drop .nil))))))))), fun x part_of_2 => ?h3, fun part_of_9 => ?h4⟩⟩)))
    case h3 =>
      refine JG.tupV B.calm (JGs.cons (JG.name (i := 3) (JGs.cons (JG.name (i := 4) (JGs.nil ?_) sc_between_2.nd)) sc_between_2.nd))
      show JL _ _ [.val (eT2IWT2II web), .val (eLX parting_2), sdIvI part_of_2, .val (PyData.int (x.2 : Int)), .val (eX x.1), .hole, .hole, .hole, .hole] _ _ _ _
      refine JL.xsplitI (Γf := fun y => [.val (eT2IWT2II web), .val (eLX parting_2), sdIvI part_of_2, .val (PyData.int (x.2 : Int)), .val (eX y), .hole, .hole, .hole, .hole]) (fun part => ?h5) (fun part_2 => ?h10)
      case h5 =>
        show JL _ _ [.val (eT2IWT2II web), .val (eLX parting_2), sdIvI part_of_2, .val (PyData.int (x.2 : Int)), .val (eLI part), .hole, .hole, .hole, .hole] _ _ _ _
        refine JL.cons (JS.forS B.own B.calm (JSrc.lst (JE.var (i := 4) rfl ⟨_, _, rfl, (soL (xs := part) (e := PyData.int)), ⟨Int, List (Int × Int), part, fun x => .val (PyData.int x), fun x' t => f_between_2_1 x x' t, part_of_2, fun part_of_3 => [.val (eT2IWT2II web), .val (eLX parting_2), sdIvI part_of_3, .val (PyData.int (x.2 : Int)), .val (eLI part), .hole, .hole, .hole, .hole], _, rfl, rfl, (.same (.same (.same (.same (.same (.drop (.drop (.drop (.drop .nil))))))))), fun x_2 part_of_3 => ?h6, fun part_of_5 => ?h7⟩⟩)))
        case h6 =>
          refine JG.name (i := 5) ?_ sc_between_2.nd
          show JL _ _ [.val (eT2IWT2II web), .val (eLX parting_2), sdIvI part_of_3, .val (PyData.int (x.2 : Int)), .val (eLI part), .val (PyData.int x_2), .hole, .hole, .hole] _ _ _ _
          refine JL.cons (JS.dput (s := .hole) (l := []) (mk := fun _ => .hole) (i := 2) (kk := Sum.inl) (kd := PyData.int) (f := svI) keI B.room (JE.var (i := 3) rfl ⟨(x.2 : Int), _, _, _, rfl, rfl, .dct, JE.var (i := 5) rfl ⟨x_2, _, part_of_3, _, _, rfl, rfl, .dct, gd_ok, ?h9⟩⟩))
          refine JL.letv (Γf := fun part_of_4 => [.val (eT2IWT2II web), .val (eLX parting_2), sdIvI part_of_4, .val (PyData.int (x.2 : Int)), .val (eLI part), .val (PyData.int x_2), .hole, .hole, .hole]) (aPut part_of_3 x_2 (x.2 : Int)) fun part_of_4 => ?_
          exact JL.nil ⟨part_of_4, rfl, (.same (.same (.same (.same (.same (.drop (.drop (.drop (.drop .nil)))))))))⟩
        case h7 =>
          exact JL.nil ⟨part_of_5, rfl, (.same (.same (.same (.drop (.drop (.drop (.drop (.drop (.drop .nil)))))))))⟩
      case h10 =>
        show JL _ _ [.val (eT2IWT2II web), .val (eLX parting_2), sdIvI part_of_2, .val (PyData.int (x.2 : Int)), .val (eWI part_2), .hole, .hole, .hole, .hole] _ _ _ _
        refine JL.cons (JS.forS B.own B.calm (JSrc.tup (JE.var (i := 4) rfl ⟨_, _, rfl, (soW (xs := part_2) (e := PyData.int)), ⟨Int, List (Int × Int), part_2, fun x => .val (PyData.int x), fun x' t_3 => f_between_2_2 x x' t_3, part_of_2, fun part_of_6 => [.val (eT2IWT2II web), .val (eLX parting_2), sdIvI part_of_6, .val (PyData.int (x.2 : Int)), .val (eWI part_2), .hole, .hole, .hole, .hole], _, rfl, rfl, (.same (.same (.same (.same (.same (.drop (.drop (.drop (.drop .nil))))))))), fun x_3 part_of_6 => ?h11, fun part_of_8 => ?h12⟩⟩)))
        case h11 =>
          refine JG.name (i := 5) ?_ sc_between_2.nd
          show JL _ _ [.val (eT2IWT2II web), .val (eLX parting_2), sdIvI part_of_6, .val (PyData.int (x.2 : Int)), .val (eWI part_2), .val (PyData.int x_3), .hole, .hole, .hole] _ _ _ _
          refine JL.cons (JS.dput (s := .hole) (l := []) (mk := fun _ => .hole) (i := 2) (kk := Sum.inl) (kd := PyData.int) (f := svI) keI B.room (JE.var (i := 3) rfl ⟨(x.2 : Int), _, _, _, rfl, rfl, .dct, JE.var (i := 5) rfl ⟨x_3, _, part_of_6, _, _, rfl, rfl, .dct, gd_ok, ?h14⟩⟩))
          refine JL.letv (Γf := fun part_of_7 => [.val (eT2IWT2II web), .val (eLX parting_2), sdIvI part_of_7, .val (PyData.int (x.2 : Int)), .val (eWI part_2), .val (PyData.int x_3), .hole, .hole, .hole]) (aPut part_of_6 x_3 (x.2 : Int)) fun part_of_7 => ?_
          exact JL.nil ⟨part_of_7, rfl, (.same (.same (.same (.same (.same (.drop (.drop (.drop (.drop .nil)))))))))⟩
        case h12 =>
          exact JL.nil ⟨part_of_8, rfl, (.same (.same (.same (.drop (.drop (.drop (.drop (.drop (.drop .nil)))))))))⟩
    case h4 =>
      show JL _ _ [.val (eT2IWT2II web), .val (eLX parting_2), sdIvI part_of_9, .hole, .hole, .hole, .hole, .hole, .hole] _ _ _ _
      exact JL.cons (JS.ret (JE.ofLc (own' := [("number", 6), ("a", 7), ("b", 8)]) B.calm sc_between_2.nd (blkOk_by (by kernel_rfl)) (JT.comp (JSrc.enW m.enumerate (JE.ixT (JE.var (i := 0) rfl ⟨.inl ⟨_, rfl⟩, _, _, .own (.tup (ds := [PyData.int web.1, eWT2II web.2])), rfl, ⟨_, web.2, rfl, (soW (xs := web.2) (e := eT2II)), ⟨(Int × Int) × Nat, Int, Unit, (web.2.zipIdx), fun q => .val (.tuple [.int (q.2 : Nat), eT2II q.1]), fun x' _ => c_between_2_5 part_of_9 x', (), fun _ => [.val (eT2IWT2II web), .val (eLX parting_2), sdIvI part_of_9, .hole, .hole, .hole, .hole, .hole, .hole], fun y => .val (PyData.int y), _, rfl, rfl, Le.refl, ft, fun _ => (.hole rfl (.hole rfl (.hole rfl .nil))), fun x_4 _ => ⟨[.val (eT2IWT2II web), .val (eLX parting_2), sdIvI part_of_9, .hole, .hole, .hole, .val (PyData.int (x_4.2 : Int)), .val (PyData.int x_4.1.1), .val (PyData.int x_4.1.2)], Le.refl, fun s H Ca cl fp => JG.tupV B.calm (JGs.cons (JG.name (i := 6) (JGs.cons (JG.tupV B.calm (JGs.cons (JG.name (i := 7) (JGs.cons (JG.name (i := 8) (JGs.nil (JGs.nil rfl)) sc_between_2.nd)) sc_between_2.nd)))) sc_between_2.nd)), _, _, fun _ => [.val (eT2IWT2II web), .val (eLX parting_2), sdIvI part_of_9, .hole, .hole, .hole, .val (PyData.int (x_4.2 : Int)), .val (PyData.int x_4.1.1), .val (PyData.int x_4.1.2)], rfl, fun _ => Le.refl, fun s H Ca cl fp => JC.cmp (Cmp.neI (JE.dget (pt := false) (kd := PyData.int) (e := PyData.int) keI B.room (JE.slot (i := 2) rfl ⟨.inr (.inl ⟨_, rfl⟩), fun z => z, JE.var (i := 7) rfl ⟨_, x_4.1.1, rfl, .at (i := 2) rfl .mine, _, rfl, fun y _ => ⟨_, rfl, JE.dget (pt := false) (kd := PyData.int) (e := PyData.int) keI B.room (JE.slot (i := 2) rfl ⟨.inr (.inl ⟨_, rfl⟩), fun z => z, JE.var (i := 8) rfl ⟨_, x_4.1.2, rfl, .at (i := 2) rfl .mine, _, rfl, fun y_2 _ => ⟨_, rfl, ⟨_, rfl, ⟨(), rfl, rfl⟩⟩⟩⟩⟩)⟩⟩⟩))), fun _ => fun s H Ca cl fp => JE.var (i := 6) rfl ⟨(x_4.2 : Int), (), rfl, rfl, Le.refl⟩⟩, fun r _ => ⟨r.1, _, _, rfl, rfl, rfl, (by exact (.drop (.drop (.drop (.drop (.drop (.drop (.drop (.drop (.drop .nil))))))))))⟩⟩⟩⟩))))))
  case h15 =>
    show JL _ _ [.val (eT2IWT2II web), .val (eWX parting_3), .hole, .hole, .hole, .hole, .hole, .hole, .hole] _ _ _ _
    refine JL.cons (JS.set (i := 2) sc_between_2.nd (JE.dnew ⟨_, rfl, Nat.le_of_ble_eq_true rfl, ?h16⟩))
    refine JL.letv (Γf := fun part_of_10 => [.val (eT2IWT2II web), .val (eWX parting_3), sdIvI part_of_10, .hole, .hole, .hole, .hole, .hole, .hole]) ([] : List (Int × Int)) fun part_of_10 => ?_
    show JL _ _ [.val (eT2IWT2II web), .val (eWX parting_3), sdIvI part_of_10, .hole, .hole, .hole, .hole, .hole, .hole] _ _ _ _
    refine JL.cons (JS.forS B.own B.calm (JSrc.enW m.enumerate (JE.var (i := 1) rfl ⟨_, parting_3, rfl, (soW (xs := parting_3) (e := eX)), ⟨PyData × Nat, List (Int × Int), (parting_3.zipIdx), fun q => .val (.tuple [.int (q.2 : Nat), eX q.1]), fun x' t_12 => f_between_2_8 x' t_12, part_of_10, fun part_of_11 => [.val (eT2IWT2II web), .val (eWX parting_3), sdIvI part_of_11, .hole, .hole, .hole, .hole, .hole, .hole], _, rfl, rfl, (.same (.same (.same (.drop (.drop (.drop (.drop (.drop (.drop .nil))))))))), fun x_5 part_of_11 => ?h17, fun part_of_18 => ?h18⟩⟩)))
    case h17 =>
      refine JG.tupV B.calm (JGs.cons (JG.name (i := 3) (JGs.cons (JG.name (i := 4) (JGs.nil ?_) sc_between_2.nd)) sc_between_2.nd))
      show JL _ _ [.val (eT2IWT2II web), .val (eWX parting_3), sdIvI part_of_11, .val (PyData.int (x_5.2 : Int)), .val (eX x_5.1), .hole, .hole, .hole, .hole] _ _ _ _
      refine JL.xsplitI (Γf := fun y => [.val (eT2IWT2II web), .val (eWX parting_3), sdIvI part_of_11, .val (PyData.int (x_5.2 : Int)), .val (eX y), .hole, .hole, .hole, .hole]) (fun part_3 => ?h19) (fun part_4 => ?h24)
      case h19 =>
        show JL _ _ [.val (eT2IWT2II web), .val (eWX parting_3), sdIvI part_of_11, .val (PyData.int (x_5.2 : Int)), .val (eLI part_3), .hole, .hole, .hole, .hole] _ _ _ _
        refine JL.cons (JS.forS B.own B.calm (JSrc.lst (JE.var (i := 4) rfl ⟨_, _, rfl, (soL (xs := part_3) (e := PyData.int)), ⟨Int, List (Int × Int), part_3, fun x => .val (PyData.int x), fun x' t_8 => f_between_2_6 x_5 x' t_8, part_of_11, fun part_of_12 => [.val (eT2IWT2II web), .val (eWX parting_3), sdIvI part_of_12, .val (PyData.int (x_5.2 : Int)), .val (eLI part_3), .hole, .hole, .hole, .hole], _, rfl, rfl, (.same (.same (.same (.same (.same (.drop (.drop (.drop (.drop .nil))))))))), fun x_6 part_of_12 => ?h20, fun part_of_14 => ?h21⟩⟩)))
        case h20 =>
          refine JG.name (i := 5) ?_ sc_between_2.nd
          show JL _ _ [.val (eT2IWT2II web), .val (eWX parting_3), sdIvI part_of_12, .val (PyData.int (x_5.2 : Int)), .val (eLI part_3), .val (PyData.int x_6), .hole, .hole, .hole] _ _ _ _
          refine JL.cons (JS.dput (s := .hole) (l := []) (mk := fun _ => .hole) (i := 2) (kk := Sum.inl) (kd := PyData.int) (f := svI) keI B.room (JE.var (i := 3) rfl ⟨(x_5.2 : Int), _, _, _, rfl, rfl, .dct, JE.var (i := 5) rfl ⟨x_6, _, part_of_12, _, _, rfl, rfl, .dct, gd_ok, ?h23⟩⟩))
          refine JL.letv (Γf := fun part_of_13 => [.val (eT2IWT2II web), .val (eWX parting_3), sdIvI part_of_13, .val (PyData.int (x_5.2 : Int)), .val (eLI part_3), .val (PyData.int x_6), .hole, .hole, .hole]) (aPut part_of_12 x_6 (x_5.2 : Int)) fun part_of_13 => ?_
          exact JL.nil ⟨part_of_13, rfl, (.same (.same (.same (.same (.same (.drop (.drop (.drop (.drop .nil)))))))))⟩
        case h21 =>
          exact JL.nil ⟨part_of_14, rfl, (.same (.same (.same (.drop (.drop (.drop (.drop (.drop (.drop .nil)))))))))⟩
      case h24 =>
        show JL _ _ [.val (eT2IWT2II web), .val (eWX parting_3), sdIvI part_of_11, .val (PyData.int (x_5.2 : Int)), .val (eWI part_4), .hole, .hole, .hole, .hole] _ _ _ _
        refine JL.cons (JS.forS B.own B.calm (JSrc.tup (JE.var (i := 4) rfl ⟨_, _, rfl, (soW (xs := part_4) (e := PyData.int)), ⟨Int, List (Int × Int), part_4, fun x => .val (PyData.int x), fun x' t_10 => f_between_2_7 x_5 x' t_10, part_of_11, fun part_of_15 => [.val (eT2IWT2II web), .val (eWX parting_3), sdIvI part_of_15, .val (PyData.int (x_5.2 : Int)), .val (eWI part_4), .hole, .hole, .hole, .hole], _, rfl, rfl, (.same (.same (.same (.same (.same (.drop (.drop (.drop (.drop .nil))))))))), fun x_7 part_of_15 => ?h25, fun part_of_17 => ?h26⟩⟩)))
        case h25 =>
          refine JG.name (i := 5) ?_ sc_between_2.nd
          show JL _ _ [.val (eT2IWT2II web), .val (eWX parting_3), sdIvI part_of_15, .val (PyData.int (x_5.2 : Int)), .val (eWI part_4), .val (PyData.int x_7), .hole, .hole, .hole] _ _ _ _
          refine JL.cons (JS.dput (s := .hole) (l := []) (mk := fun _ => .hole) (i := 2) (kk := Sum.inl) (kd := PyData.int) (f := svI) keI B.room (JE.var (i := 3) rfl ⟨(x_5.2 : Int), _, _, _, rfl, rfl, .dct, JE.var (i := 5) rfl ⟨x_7, _, part_of_15, _, _, rfl, rfl, .dct, gd_ok, ?h28⟩⟩))
          refine JL.letv (Γf := fun part_of_16 => [.val (eT2IWT2II web), .val (eWX parting_3), sdIvI part_of_16, .val (PyData.int (x_5.2 : Int)), .val (eWI part_4), .val (PyData.int x_7), .hole, .hole, .hole]) (aPut part_of_15 x_7 (x_5.2 : Int)) fun part_of_16 => ?_
          exact JL.nil ⟨part_of_16, rfl, (.same (.same (.same (.same (.same (.drop (.drop (.drop (.drop .nil)))))))))⟩
        case h26 =>
          exact JL.nil ⟨part_of_17, rfl, (.same (.same (.same (.drop (.drop (.drop (.drop (.drop (.drop .nil)))))))))⟩
    case h18 =>
      show JL _ _ [.val (eT2IWT2II web), .val (eWX parting_3), sdIvI part_of_18, .hole, .hole, .hole, .hole, .hole, .hole] _ _ _ _
      exact JL.cons (JS.ret (JE.ofLc (own' := [("number", 6), ("a", 7), ("b", 8)]) B.calm sc_between_2.nd (blkOk_by (by kernel_rfl)) (JT.comp (JSrc.enW m.enumerate (JE.ixT (JE.var (i := 0) rfl ⟨.inl ⟨_, rfl⟩, _, _, .own (.tup (ds := [PyData.int web.1, eWT2II web.2])), rfl, ⟨_, web.2, rfl, (soW (xs := web.2) (e := eT2II)), ⟨(Int × Int) × Nat, Int, Unit, (web.2.zipIdx), fun q => .val (.tuple [.int (q.2 : Nat), eT2II q.1]), fun x' _ => c_between_2_10 part_of_18 x', (), fun _ => [.val (eT2IWT2II web), .val (eWX parting_3), sdIvI part_of_18, .hole, .hole, .hole, .hole, .hole, .hole], fun y => .val (PyData.int y), _, rfl, rfl, Le.refl, ft, fun _ => (.hole rfl (.hole rfl (.hole rfl .nil))), fun x_8 _ => ⟨[.val (eT2IWT2II web), .val (eWX parting_3), sdIvI part_of_18, .hole, .hole, .hole, .val (PyData.int (x_8.2 : Int)), .val (PyData.int x_8.1.1), .val (PyData.int x_8.1.2)], Le.refl, fun s H Ca cl fp => JG.tupV B.calm (JGs.cons (JG.name (i := 6) (JGs.cons (JG.tupV B.calm (JGs.cons (JG.name (i := 7) (JGs.cons (JG.name (i := 8) (JGs.nil (JGs.nil rfl)) sc_between_2.nd)) sc_between_2.nd)))) sc_between_2.nd)), _, _, fun _ => [.val (eT2IWT2II web), .val (eWX parting_3), sdIvI part_of_18, .hole, .hole, .hole, .val (PyData.int (x_8.2 : Int)), .val (PyData.int x_8.1.1), .val (PyData.int x_8.1.2)], rfl, fun _ => Le.refl, fun s H Ca cl fp => JC.cmp (Cmp.neI (JE.dget (pt := false) (kd := PyData.int) (e := PyData.int) keI B.room (JE.slot (i := 2) rfl ⟨.inr (.inl ⟨_, rfl⟩), fun z => z, JE.var (i := 7) rfl ⟨_, x_8.1.1, rfl, .at (i := 2) rfl .mine, _, rfl, fun y_3 _ => ⟨_, rfl, JE.dget (pt := false) (kd := PyData.int) (e := PyData.int) keI B.room (JE.slot (i := 2) rfl ⟨.inr (.inl ⟨_, rfl⟩), fun z => z, JE.var (i := 8) rfl ⟨_, x_8.1.2, rfl, .at (i := 2) rfl .mine, _, rfl, fun y_4 _ => ⟨_, rfl, ⟨_, rfl, ⟨(), rfl, rfl⟩⟩⟩⟩⟩)⟩⟩⟩))), fun _ => fun s H Ca cl fp => JE.var (i := 6) rfl ⟨(x_8.2 : Int), (), rfl, rfl, Le.refl⟩⟩, fun r_2 _ => ⟨r_2.1, _, _, rfl, rfl, rfl, (by exact (.drop (.drop (.drop (.drop (.drop (.drop (.drop (.drop (.drop .nil))))))))))⟩⟩⟩⟩))))))
end
theorem h_between_2 {X : Cx} (m : Md X.K X.mg) : Has X "between" 1 (fun a : (Int × (List (Int × Int))) × PyData => [.val (eT2IWT2II a.1), .val (eX a.2)]) (fun a => m_between_2 a.1 a.2) (fun _ r => slvI r) (fun _ r => [.hole, .hole]) (fun _ => [.hole, .hole]) :=
  has_of (ps := ["web", "parting"]) m.f_between (fun f fd F => g_between_2 F m) (fun f fd F => F.bindsN fun _ _ _ _ _ _ us hl => match us, hl with | [_, _], _ => rfl) (fun _ _ => (.lst (.map fun _ => .val))) (fun _ _ => (.cons .hole (.cons .hole .nil))) (fun _ => (.cons .hole (.cons .hole .nil))) (fun a e h => absurd h (m_between_2_nex _ _ e))
def m_inside (web : Int × (List (Int × Int))) (places : List Int) : Res (List Int) := .ok (((web.2.zipIdx).filter fun x => ((decide (x.1.1 ∈ places)) && (decide (x.1.2 ∈ places)))).map fun (x : (Int × Int) × Nat) => (x.2 : Int))
theorem m_inside_nex (web : Int × (List (Int × Int))) (places : List Int) : ∀ e, m_inside web places ≠ .ex e := nex_ok
theorem sc_inside : FnScope ["web", "places", "number", "a", "b"] ["web", "places"] (defScope s_inside) := ⟨rfl, rfl, rfl, by decide +kernel, rfl, by decide +kernel, by decide +kernel⟩
section
variable {P : Program} {w : World} {K : PySem.W.Frag} {mg : Str → Option Value} {base : Heap} {f : Addr} {fd : FuncData}
theorem g_inside (F : FnP K "inside" s_inside f fd) (m : Md K mg) : FnG P w K mg base 1 f fd ["web", "places"] (SpM K (fun a : (Int × (List (Int × Int))) × List Int => [.val (eT2IWT2II a.1), .rd (eLI a.2)]) (fun a => m_inside a.1 a.2) (fun _ r => slvI r) (fun _ r => [.hole, .hole]) (fun _ => [.hole, .hole])) := by
  refine fnG_of (n := 3) F sc_inside (fun _ => rfl) rfl (fun _ _ => (.lst (.map fun _ => .val))) (fun _ _ => (.cons .hole (.cons .hole .nil))) (fun _ => (.cons .hole (.cons .hole .nil))) (fun a e h => absurd h (m_inside_nex _ _ e)) fun cdv A outer s H vs E G a hvs B => ?_
  obtain ⟨web, places⟩ := a
  match vs, hvs with
  | [_, _], _ => ?_
  refine ⟨[.val (eT2IWT2II web), .rd (eLI places)], [.hole, .hole, .hole, .hole, .hole], fun r => [.hole, .hole, .hole, .hole, .hole], (.keep (.keep .nil)), fun _ => (.hole (.hole .nil)), (.hole (.hole .nil)), ?_⟩
  show JL _ _ [.val (eT2IWT2II web), .rd (eLI places), .hole, .hole, .hole] _ _ _ _
  exact JL.cons (JS.ret (JE.ofLc (own' := [("number", 2), ("a", 3), ("b", 4)]) B.calm sc_inside.nd (blkOk_by (by kernel_rfl)) (JT.compF (sd := fun q => .val (.tuple [.int (q.2 : Nat), eT2II q.1])) (q := fun x => ((decide (x.1.1 ∈ places)) && (decide (x.1.2 ∈ places)))) (g := fun (x : (Int × Int) × Nat) => (x.2 : Int)) (se := fun y => .val (PyData.int y)) (JSrc.enW m.enumerate (JE.ixT (JE.var (i := 0) rfl ⟨.inl ⟨_, rfl⟩, _, _, .own (.tup (ds := [PyData.int web.1, eWT2II web.2])), rfl, ⟨_, web.2, rfl, (soW (xs := web.2) (e := eT2II)), ⟨(web.2.zipIdx), rfl, (.hole rfl (.hole rfl (.hole rfl .nil))), fun x => ⟨[.val (eT2IWT2II web), .rd (eLI places), .val (PyData.int (x.2 : Int)), .val (PyData.int x.1.1), .val (PyData.int x.1.2)], Le.refl, fun s H Ca cl fp => JG.tupV B.calm (JGs.cons (JG.name (i := 2) (JGs.cons (JG.tupV B.calm (JGs.cons (JG.name (i := 3) (JGs.cons (JG.name (i := 4) (JGs.nil (JGs.nil rfl)) sc_inside.nd)) sc_inside.nd)))) sc_inside.nd)), fun s H Ca cl fp => (JCt.bop (JWt.and (JCt.cmp (Cmp.inT (e := PyData.int) eokI (by decide) B.room (JE.var (i := 3) rfl ⟨.inl ⟨_, rfl⟩, JE.varR (i := 1) rfl ⟨x.1.1, places, (.own .val), (.own .rd), ⟨rfl, rfl⟩⟩⟩))) fun _ => (JWt.and1 (JCt.cmp (Cmp.inT (e := PyData.int) eokI (by decide) B.room (JE.var (i := 4) rfl ⟨.inl ⟨_, rfl⟩, JE.varR (i := 1) rfl ⟨x.1.2, places, (.own .val), (.own .rd), ⟨rfl, rfl⟩⟩⟩)))))), fun s H Ca cl fp => JE.var (i := 2) rfl ⟨rfl, rfl⟩⟩, ⟨(((web.2.zipIdx).filter fun x => ((decide (x.1.1 ∈ places)) && (decide (x.1.2 ∈ places)))).map fun (x : (Int × Int) × Nat) => (x.2 : Int)), _, _, rfl, rfl, rfl, (by exact (.drop (.drop (.drop (.drop (.drop .nil))))))⟩⟩⟩⟩))))))
end
theorem h_inside {X : Cx} (m : Md X.K X.mg) : Has X "inside" 1 (fun a : (Int × (List (Int × Int))) × List Int => [.val (eT2IWT2II a.1), .rd (eLI a.2)]) (fun a => m_inside a.1 a.2) (fun _ r => slvI r) (fun _ r => [.hole, .hole]) (fun _ => [.hole, .hole]) :=
  has_of (ps := ["web", "places"]) m.f_inside (fun f fd F => g_inside F m) (fun f fd F => F.bindsN fun _ _ _ _ _ _ us hl => match us, hl with | [_, _], _ => rfl) (fun _ _ => (.lst (.map fun _ => .val))) (fun _ _ => (.cons .hole (.cons .hole .nil))) (fun _ => (.cons .hole (.cons .hole .nil))) (fun a e h => absurd h (m_inside_nex _ _ e))
def m_inside_2 (web : Int × (List (Int × Int))) (places : List Int) : Res (List Int) := .ok (((web.2.zipIdx).filter fun x => ((decide (x.1.1 ∈ places)) && (decide (x.1.2 ∈ places)))).map fun (x : (Int × Int) × Nat) => (x.2 : Int))
theorem m_inside_2_nex (web : Int × (List (Int × Int))) (places : List Int) : ∀ e, m_inside_2 web places ≠ .ex e := nex_ok
theorem sc_inside_2 : FnScope ["web", "places", "number", "a", "b"] ["web", "places"] (defScope s_inside) := ⟨rfl, rfl, rfl, by decide +kernel, rfl, by decide +kernel, by decide +kernel⟩
section
variable {P : Program} {w : World} {K : PySem.W.Frag} {mg : Str → Option Value} {base : Heap} {f : Addr} {fd : FuncData}
theorem g_inside_2 (F : FnP K "inside" s_inside f fd) (m : Md K mg) : FnG P w K mg base 1 f fd ["web", "places"] (SpM K (fun a : (Int × (List (Int × Int))) × List Int => [.val (eT2IWT2II a.1), .rd (eWI a.2)]) (fun a => m_inside_2 a.1 a.2) (fun _ r => slvI r) (fun _ r => [.hole, .hole]) (fun _ => [.hole, .hole])) := by
  refine fnG_of (n := 3) F sc_inside_2 (fun _ => rfl) rfl (fun _ _ => (.lst (.map fun _ => .val))) (fun _ _ => (.cons .hole (.cons .hole .nil))) (fun _ => (.cons .hole (.cons .hole .nil))) (fun a e h => absurd h (m_inside_2_nex _ _ e)) fun cdv A outer s H vs E G a hvs B => ?_
  obtain ⟨web, places⟩ := a
  match vs, hvs with
  | [_, _], _ => ?_
  refine ⟨[.val (eT2IWT2II web), .rd (eWI places)], [.hole, .hole, .hole, .hole, .hole], fun r => [.hole, .hole, .hole, .hole, .hole], (.keep (.keep .nil)), fun _ => (.hole (.hole .nil)), (.hole (.hole .nil)), ?_⟩
  show JL _ _ [.val (eT2IWT2II web), .rd (eWI places), .hole, .hole, .hole] _ _ _ _
  exact JL.cons (JS.ret (JE.ofLc (own' := [("number", 2), ("a", 3), ("b", 4)]) B.calm sc_inside_2.nd (blkOk_by (by kernel_rfl)) (JT.compF (sd := fun q => .val (.tuple [.int (q.2 : Nat), eT2II q.1])) (q := fun x => ((decide (x.1.1 ∈ places)) && (decide (x.1.2 ∈ places)))) (g := fun (x : (Int × Int) × Nat) => (x.2 : Int)) (se := fun y => .val (PyData.int y)) (JSrc.enW m.enumerate (JE.ixT (JE.var (i := 0) rfl ⟨.inl ⟨_, rfl⟩, _, _, .own (.tup (ds := [PyData.int web.1, eWT2II web.2])), rfl, ⟨_, web.2, rfl, (soW (xs := web.2) (e := eT2II)), ⟨(web.2.zipIdx), rfl, (.hole rfl (.hole rfl (.hole rfl .nil))), fun x => ⟨[.val (eT2IWT2II web), .rd (eWI places), .val (PyData.int (x.2 : Int)), .val (PyData.int x.1.1), .val (PyData.int x.1.2)], Le.refl, fun s H Ca cl fp => JG.tupV B.calm (JGs.cons (JG.name (i := 2) (JGs.cons (JG.tupV B.calm (JGs.cons (JG.name (i := 3) (JGs.cons (JG.name (i := 4) (JGs.nil (JGs.nil rfl)) sc_inside_2.nd)) sc_inside_2.nd)))) sc_inside_2.nd)), fun s H Ca cl fp => (JCt.bop (JWt.and (JCt.cmp (Cmp.inTW (e := PyData.int) eokI (by decide) B.room (JE.var (i := 3) rfl ⟨.inl ⟨_, rfl⟩, JE.varR (i := 1) rfl ⟨x.1.1, places, (.own .val), (.own .rd), ⟨rfl, rfl⟩⟩⟩))) fun _ => (JWt.and1 (JCt.cmp (Cmp.inTW (e := PyData.int) eokI (by decide) B.room (JE.var (i := 4) rfl ⟨.inl ⟨_, rfl⟩, JE.varR (i := 1) rfl ⟨x.1.2, places, (.own .val), (.own .rd), ⟨rfl, rfl⟩⟩⟩)))))), fun s H Ca cl fp => JE.var (i := 2) rfl ⟨rfl, rfl⟩⟩, ⟨(((web.2.zipIdx).filter fun x => ((decide (x.1.1 ∈ places)) && (decide (x.1.2 ∈ places)))).map fun (x : (Int × Int) × Nat) => (x.2 : Int)), _, _, rfl, rfl, rfl, (by exact (.drop (.drop (.drop (.drop (.drop .nil))))))⟩⟩⟩⟩))))))
end
theorem h_inside_2 {X : Cx} (m : Md X.K X.mg) : Has X "inside" 1 (fun a : (Int × (List (Int × Int))) × List Int => [.val (eT2IWT2II a.1), .rd (eWI a.2)]) (fun a => m_inside_2 a.1 a.2) (fun _ r => slvI r) (fun _ r => [.hole, .hole]) (fun _ => [.hole, .hole]) :=
  has_of (ps := ["web", "places"]) m.f_inside (fun f fd F => g_inside_2 F m) (fun f fd F => F.bindsN fun _ _ _ _ _ _ us hl => match us, hl with | [_, _], _ => rfl) (fun _ _ => (.lst (.map fun _ => .val))) (fun _ _ => (.cons .hole (.cons .hole .nil))) (fun _ => (.cons .hole (.cons .hole .nil))) (fun a e h => absurd h (m_inside_2_nex _ _ e))
/-! ### nth, pot, take -/
def m_nth (ns : List Int) (k : Int) : Res Int := cond (decide (k < (ns.length : Nat))) ((idx ns k).bind fun x => .ok x) (.ok 0)
theorem m_nth_nex (ns : List Int) (k : Int) : ∀ e, m_nth ns k ≠ .ex e := nex_cond (nex_bind idx_nex fun _ => nex_ok) nex_ok
theorem sc_nth : FnScope ["_law_script", "_law_k"] ["_law_script", "_law_k"] (defScope s_nth) := ⟨rfl, rfl, rfl, by decide +kernel, rfl, by decide +kernel, by decide +kernel⟩
section
variable {P : Program} {w : World} {K : PySem.W.Frag} {mg : Str → Option Value} {base : Heap} {f : Addr} {fd : FuncData}
theorem g_nth (F : FnP K "_law_nth" s_nth f fd) (m : Md K mg) : FnG P w K mg base 1 f fd ["_law_script", "_law_k"] (SpM K (fun a : List Int × Int => [.val (.list (a.1.map .int)), .val (.int a.2)]) (fun a => m_nth a.1 a.2) (fun _ r => .val (.int r)) (fun _ _ => [.hole, .hole]) (fun _ => [.hole, .hole])) := by
  refine fnG_of (n := 0) F sc_nth (fun _ => rfl) rfl (fun _ _ => .val) (fun _ _ => .cons .hole (.cons .hole .nil)) (fun _ => .cons .hole (.cons .hole .nil)) (fun a e h => absurd h (m_nth_nex _ _ e)) fun cdv A outer s H vs E G a hvs B => ?_
  obtain ⟨ns, k⟩ := a
  match vs, hvs with
  | [_, _], _ => ?_
  refine ⟨[.val (.list (ns.map .int)), .val (.int k)], [.val (.list (ns.map .int)), .val (.int k)], fun _ => [.val (.list (ns.map .int)), .val (.int k)], .keep (.keep .nil), fun _ => .hole (.hole .nil), .hole (.hole .nil), ?_⟩
  refine JL.cons (JS.ret (JE.ifx (JC.tot (JCt.cmp (Cmp.lt (JE.var (i := 1) rfl ⟨k, rfl, JE.len m.len (JE.var (i := 0) rfl ⟨ns.length, .seq (.own .lst) (by simp), _, rfl, rfl, rfl⟩)⟩))) ⟨_, _, rfl, fun _ => ?_, fun _ => JE.int ⟨_, _, _, rfl, rfl, rfl, Le.refl⟩⟩)))
  exact JE.ix (xs := ns) (f := fun i => .val (.int i)) (JE.var (i := 0) rfl ⟨.inl ⟨_, rfl⟩, JE.var (i := 1) rfl ⟨k, rfl, _, .own (soL (e := PyData.int)), rfl, fun x _ => ⟨_, _, _, rfl, rfl, rfl, Le.refl⟩⟩⟩)
end
theorem h_nth {X : Cx} (m : Md X.K X.mg) : Has X "_law_nth" 1 (fun a : List Int × Int => [.val (.list (a.1.map .int)), .val (.int a.2)]) (fun a => m_nth a.1 a.2) (fun _ r => .val (.int r)) (fun _ _ => [.hole, .hole]) (fun _ => [.hole, .hole]) :=
  has_of (ps := ["_law_script", "_law_k"]) m.f_nth (fun f fd F => g_nth F m) (fun f fd F => F.bindsN fun _ _ _ _ _ _ us hl => match us, hl with | [_, _], _ => rfl) (fun _ _ => .val) (fun _ _ => .cons .hole (.cons .hole .nil)) (fun _ => .cons .hole (.cons .hole .nil)) (fun a e h => absurd h (m_nth_nex _ _ e))

def absI (i : Int) : Int := if i < 0 then -i else i
def m_pot (ns : List Int) (k : Int) : Res (Int × Int) := (m_nth ns k).bind fun c => gd (mulOk 101 k) (.ok (max 0 (absI c - 10 ^ (18 : Int).toNat), absI c % 2147483563 + 101 * k + 1))
theorem m_pot_nex (ns : List Int) (k : Int) : ∀ e, m_pot ns k ≠ .ex e := nex_bind (m_nth_nex ns k) fun _ => nex_gd nex_ok
theorem sc_pot : FnScope ["_law_script", "_law_k", "_law_cell"] ["_law_script", "_law_k"] (defScope s_pot) := ⟨rfl, rfl, rfl, by decide +kernel, rfl, by decide +kernel, by decide +kernel⟩
section
variable {P : Program} {w : World} {K : PySem.W.Frag} {mg : Str → Option Value} {base : Heap} {f : Addr} {fd : FuncData}
theorem g_pot (F : FnP K "_law_pot" s_pot f fd) (m : Md K mg) : FnG P w K mg base 2 f fd ["_law_script", "_law_k"] (SpM K (fun a : List Int × Int => [.val (.list (a.1.map .int)), .val (.int a.2)]) (fun a => m_pot a.1 a.2) (fun _ r => potS r) (fun _ _ => [.hole, .hole]) (fun _ => [.hole, .hole])) := by
  refine fnG_of (n := 1) F sc_pot (fun _ => rfl) rfl (fun _ _ => nr_pot) (fun _ _ => .cons .hole (.cons .hole .nil)) (fun _ => .cons .hole (.cons .hole .nil)) (fun a e h => absurd h (m_pot_nex _ _ e)) fun cdv A outer s H vs E G a hvs B => ?_
  obtain ⟨ns, k⟩ := a
  match vs, hvs with
  | [_, _], _ => ?_
  refine ⟨[.val (.list (ns.map .int)), .val (.int k)], [.val (.list (ns.map .int)), .val (.int k), .hole], fun _ => [.hole, .hole, .hole], .keep (.keep .nil), fun _ => .hole (.hole .nil), .hole (.hole .nil), ?_⟩
  refine JL.cons (JS.set (i := 2) sc_pot.nd (JE.callN (h_nth m) (B.room.mono (by decide)) B.pass (JA.cons (pt := false) (JE.var (i := 0) rfl ⟨.inl ⟨_, rfl⟩, fun z => z, JA.one (JE.var (i := 1) rfl (Args.plain (ns, k) _ [false, false] (.own (.own .nil)) rfl rfl rfl (fun e z => absurd z (m_nth_nex _ _ e)) fun r _ => ⟨_, rfl, Nat.le_of_ble_eq_true rfl, ?_⟩))⟩))))
  refine JL.cons (JS.ret (JE.lstD (JA.cons (pt := false) (JE.max2 B.calm m.max (JE.int ⟨0, rfl, JE.sub (JE.abs m.abs (JE.var (i := 2) rfl ⟨r, rfl, _, rfl, JE.pow (JE.int ⟨10, rfl, JE.int ⟨18, rfl, prI (by decide) ⟨_, rfl, _, rfl, .inl ⟨_, rfl⟩, fun z => z, ?_⟩⟩⟩)⟩))⟩)))))
  refine JA.one (JE.add (JE.add (JE.mod (JE.abs m.abs (JE.var (i := 2) rfl ⟨r, rfl, _, rfl, JE.int ⟨_, rfl, prI (by decide) ⟨_, rfl, JE.mul (JE.int ⟨101, rfl, JE.var (i := 1) rfl ⟨k, rfl, gdI ⟨_, rfl, _, rfl, JE.int ⟨1, rfl, [_, _], rfl, Nat.le_of_ble_eq_true rfl, _, _, _, rfl, rfl, rfl, .drop (.drop (.drop .nil))⟩⟩⟩⟩)⟩⟩⟩)))))
end
theorem h_pot {X : Cx} (m : Md X.K X.mg) : Has X "_law_pot" 2 (fun a : List Int × Int => [.val (.list (a.1.map .int)), .val (.int a.2)]) (fun a => m_pot a.1 a.2) (fun _ r => potS r) (fun _ _ => [.hole, .hole]) (fun _ => [.hole, .hole]) :=
  has_of (ps := ["_law_script", "_law_k"]) m.f_pot (fun f fd F => g_pot F m) (fun f fd F => F.bindsN fun _ _ _ _ _ _ us hl => match us, hl with | [_, _], _ => rfl) (fun _ _ => nr_pot) (fun _ _ => .cons .hole (.cons .hole .nil)) (fun _ => .cons .hole (.cons .hole .nil)) (fun a e h => absurd h (m_pot_nex _ _ e))

def m_take (p : Int × Int) (n : Int) : Res (Int × (Int × Int)) :=
  cond (decide (0 < p.1)) (gd (divOk n) (.ok (p.1 % n, (p.1 / n, p.2))))
    (gd (mulOk p.2 39373) (gd (mulOk ((p.2 * 39373 + 7919) % 2147483629) ((p.2 * 39373 + 7919) % 2147483629)) (gd (0 < n)
      (.ok (((p.2 * 39373 + 7919) % 2147483629) * ((p.2 * 39373 + 7919) % 2147483629) % 2147483563 / 11 % n, (p.1, (p.2 * 39373 + 7919) % 2147483629))))))
theorem m_take_nex (p : Int × Int) (n : Int) : ∀ e, m_take p n ≠ .ex e := nex_cond (nex_gd nex_ok) (nex_gd (nex_gd (nex_gd nex_ok)))
theorem sc_take : FnScope ["_law_pot_here", "_law_many", "_law_digit"] ["_law_pot_here", "_law_many"] (defScope s_take) := ⟨rfl, rfl, rfl, by decide +kernel, rfl, by decide +kernel, by decide +kernel⟩
section
variable {P : Program} {w : World} {K : PySem.W.Frag} {mg : Str → Option Value} {base : Heap} {f : Addr} {fd : FuncData}
theorem g_take (F : FnP K "_law_take" s_take f fd) (m : Md K mg) : FnG P w K mg base 1 f fd ["_law_pot_here", "_law_many"] (SpM K (fun a : (Int × Int) × Int => [potS a.1, .val (.int a.2)]) (fun a => m_take a.1 a.2) (fun _ r => .val (.int r.1)) (fun _ r => [potS r.2, .hole]) (fun _ => [.hole, .hole])) := by
  refine fnG_of (n := 1) F sc_take (fun _ => rfl) rfl (fun _ _ => .val) (fun _ _ => .cons nr_pot (.cons .hole .nil)) (fun _ => .cons .hole (.cons .hole .nil)) (fun a e h => absurd h (m_take_nex _ _ e)) fun cdv A outer s H vs E G a hvs B => ?_
  match vs, hvs with
  | [v, _], _ => ?_
  refine ⟨[.pin v (potS a.1), .val (.int a.2)], [.hole, .hole, .hole], fun r => [.pin v (potS r.2), .hole, .hole], .pin (.keep .nil), fun _ => .pin (.hole .nil), .hole (.hole .nil), ?_⟩
  refine JL.cons (JS.ite (JC.tot (JCt.cmp (Cmp.gt (JE.ixC (JE.slot (i := 0) rfl ⟨.inr ⟨_, rfl⟩, .pin rfl (.mine (ds := [.int a.1.1, .int a.1.2])), rfl, a.1.1, rfl, JE.int ⟨0, rfl, rfl, rfl⟩⟩)))) ⟨_, _, rfl, fun _ => ?_, fun _ => JL.nil ?_⟩))
  · refine JL.cons (JS.asg2 (JE.divmod m.divmod (JE.ixC (JE.slot (i := 0) rfl ⟨.inr ⟨_, rfl⟩, .pin rfl (.mine (ds := [.int a.1.1, .int a.1.2])), rfl, a.1.1, rfl, JE.var (i := 1) rfl ⟨a.2, rfl, gdD ⟨_, rfl, JG2.tup B.calm (JGs2.cons (JG2.ix (i := 0) rfl .pin ⟨0, JE.int ⟨rfl, rfl⟩, 0, _, fun _ => ⟨rfl, rfl⟩, JGs2.cons (JG2.name (i := 2) (JGs2.nil ?_) sc_take.nd)⟩))⟩⟩⟩))))
    exact JL.cons (JS.ret (JE.var (i := 2) rfl ⟨_, _, _, rfl, rfl, rfl, .same (.drop (.drop .nil))⟩))
  · refine JL.cons (JS.asg2 (JE.mod (JE.add (JE.mul (JE.ixC (JE.slot (i := 0) rfl ⟨.inr ⟨_, rfl⟩, .pin rfl (.mine (ds := [.int a.1.1, .int a.1.2])), rfl, a.1.2, rfl, JE.int ⟨39373, rfl, gdI ⟨_, rfl, JE.int ⟨7919, rfl, _, rfl, JE.int ⟨2147483629, rfl, prI (by decide) ⟨_, rfl, JG2.ix (i := 0) rfl .pin ⟨1, JE.int ⟨rfl, rfl⟩, 1, _, fun _ => ⟨rfl, rfl⟩, ?_⟩⟩⟩⟩⟩⟩⟩))))))
    refine JL.cons (JS.ret (JE.mod (JE.fdiv (JE.mod (JE.mul (JE.ixC (JE.slot (i := 0) rfl ⟨.inr ⟨_, rfl⟩, .pin rfl (.mine (ds := [.int a.1.1, .int ((a.1.2 * 39373 + 7919) % 2147483629)])), rfl, _, rfl, JE.ixC (JE.slot (i := 0) rfl ⟨.inr ⟨_, rfl⟩, .pin rfl (.mine (ds := [.int a.1.1, .int ((a.1.2 * 39373 + 7919) % 2147483629)])), rfl, _, rfl, gdI ⟨_, rfl, JE.int ⟨_, rfl, prI (by decide) ⟨_, rfl, JE.int ⟨11, rfl, prI (by exact ⟨by decide, by decide⟩) ⟨_, rfl, JE.var (i := 1) rfl ⟨a.2, rfl, gdI ⟨_, _, _, rfl, rfl, rfl, .same (.drop (.drop .nil))⟩⟩⟩⟩⟩⟩⟩⟩)⟩)))))))
end
theorem h_take {X : Cx} (m : Md X.K X.mg) : Has X "_law_take" 1 (fun a : (Int × Int) × Int => [potS a.1, .val (.int a.2)]) (fun a => m_take a.1 a.2) (fun _ r => .val (.int r.1)) (fun _ r => [potS r.2, .hole]) (fun _ => [.hole, .hole]) :=
  has_of (ps := ["_law_pot_here", "_law_many"]) m.f_take (fun f fd F => g_take F m) (fun f fd F => F.bindsN fun _ _ _ _ _ _ us hl => match us, hl with | [_, _], _ => rfl) (fun _ _ => .val) (fun _ _ => .cons nr_pot (.cons .hole .nil)) (fun _ => .cons .hole (.cons .hole .nil)) (fun a e h => absurd h (m_take_nex _ _ e))

def c_grown_2 (x : Int) (t : Int × Int) : Res (Option (Int × Int) × (Int × Int)) := (m_take t x).bind fun r => .ok (some (r.1, x), r.2)
def m_grown (pot_here : Int × Int) (places : Int) : Res ((List (Int × Int)) × (Int × Int)) := gd (rngOk 1 places) ((compL (fun x' t_2 => c_grown_2 x' t_2) (rangeL 1 places) pot_here).bind fun r_2 => .ok (r_2.1, r_2.2))
theorem m_grown_nex (pot_here : Int × Int) (places : Int) : ∀ e, m_grown pot_here places ≠ .ex e := nex_gd (nex_bind (compL_nex _ _) fun _ => nex_ok)
theorem sc_grown : FnScope ["_law_pot_here", "_law_places", "_law_place"] ["_law_pot_here", "_law_places"] (defScope s_grown) := ⟨rfl, rfl, rfl, by decide +kernel, rfl, by decide +kernel, by decide +kernel⟩
section
variable {P : Program} {w : World} {K : PySem.W.Frag} {mg : Str → Option Value} {base : Heap} {f : Addr} {fd : FuncData}
theorem g_grown (F : FnP K "_law_grown" s_grown f fd) (m : Md K mg) : FnG P w K mg base 2 f fd ["_law_pot_here", "_law_places"] (SpM K (fun a : (Int × Int) × Int => [potS a.1, .val (PyData.int a.2)]) (fun a => m_grown a.1 a.2) (fun _ r => slvT2II r.1) (fun _ r => [potS r.2, .hole]) (fun _ => [.hole, .hole])) := by
  refine fnG_of (n := 1) F sc_grown (fun _ => rfl) rfl (fun _ _ => (.lst (.map fun _ => .val))) (fun _ _ => (.cons nr_pot (.cons .hole .nil))) (fun _ => (.cons .hole (.cons .hole .nil))) (fun a e h => absurd h (m_grown_nex _ _ e)) fun cdv A outer s H vs E G a hvs B => ?_
  obtain ⟨pot_here, places⟩ := a
  match vs, hvs with
  | [v0, _], _ => ?_
  refine ⟨[.pin v0 (potS pot_here), .val (PyData.int places)], [.hole, .hole, .hole], fun r => [.pin v0 (potS r.2), .hole, .hole], (.pin (.keep .nil)), fun _ => (.pin (.hole .nil)), (.hole (.hole .nil)), ?_⟩
  show JL _ _ [.pin v0 (potS pot_here), .val (PyData.int places), .hole] _ _ _ _
  exact JL.cons (JS.ret (JE.ofLc (own' := [("_law_place", 2)]) B.calm sc_grown.nd (blkOk_by (by kernel_rfl)) (JT.comp (JSrc.rng2 m.range (JE.int ⟨_, rfl, JE.var (i := 1) rfl ⟨_, rfl, gdI ⟨Int, Int × Int, Int × Int, (rangeL 1 places), fun i => .val (.int i), fun x' t_2 => c_grown_2 x' t_2, pot_here, fun t => [.pin v0 (potS t), .val (PyData.int places), .hole], fun y => .val (eT2II y), _, rfl, rfl, Le.refl, ft, fun _ => (.hole rfl .nil), fun x t => ⟨[.pin v0 (potS t), .val (PyData.int places), .val (PyData.int x)], Le.refl, fun s H Ca cl fp => JG.name (i := 2) rfl sc_grown.nd, fun s H Ca cl fp => JT.frz (JE.tupD (JA.cons (pt := false) (JE.callN (h_take m) (B.room.mono (by decide)) passN (JA.cons (pt := false) (JE.slot (i := 0) rfl ⟨.inr (.inl ⟨_, rfl⟩), fun z => z, JA.one (JE.var (i := 2) rfl ⟨(t, x), _, [true, false], _, _, _, (.cons rfl .pin .nil), (.inout (.own .nil)), (List.append_nil _).symm, rfl, fun e z => absurd z (m_take_nex _ _ e), ft, fun r _ => ⟨.inl ⟨_, rfl⟩, fun z => z, JA.one (JE.var (i := 2) rfl ⟨[_, _], rfl, Nat.le_of_ble_eq_true rfl, _, _, rfl, .tup (.cons .val (.cons .val .nil)), ⟨(r.1, x), r.2, rfl, rfl, Le.refl⟩⟩)⟩⟩)⟩)))))⟩, fun r_2 _ => ⟨(r_2.1, r_2.2), _, _, rfl, rfl, rfl, (by exact (.same (.drop (.drop .nil))))⟩⟩⟩⟩)))))
end
theorem h_grown {X : Cx} (m : Md X.K X.mg) : Has X "_law_grown" 2 (fun a : (Int × Int) × Int => [potS a.1, .val (PyData.int a.2)]) (fun a => m_grown a.1 a.2) (fun _ r => slvT2II r.1) (fun _ r => [potS r.2, .hole]) (fun _ => [.hole, .hole]) :=
  has_of (ps := ["_law_pot_here", "_law_places"]) m.f_grown (fun f fd F => g_grown F m) (fun f fd F => F.bindsN fun _ _ _ _ _ _ us hl => match us, hl with | [_, _], _ => rfl) (fun _ _ => (.lst (.map fun _ => .val))) (fun _ _ => (.cons nr_pot (.cons .hole .nil))) (fun _ => (.cons .hole (.cons .hole .nil))) (fun a e h => absurd h (m_grown_nex _ _ e))
end HD

namespace HD
open PySem PySem.Spec PyProof.Rows L2 Tsa
/-! -/
abbrev svLI : List Int → SD := fun x => .val (eLI x)
abbrev slvLI : List (List Int) → SD := fun xs => .lst (xs.map svLI)
abbrev svX : PyData → SD := fun x => .val (eX x)
abbrev slvX : List PyData → SD := fun xs => .lst (xs.map svX)
abbrev eN : Unit → PyData := fun _ => .none
abbrev eLU : List Unit → PyData := fun xs => .list (xs.map eN)
abbrev eWU : List Unit → PyData := fun xs => .tuple (xs.map eN)
abbrev eLLU : List (List Unit) → PyData := fun xs => .list (xs.map eLU)
def f_web_1 (places : Int) (x_4 : Int) (pot_here_2 : Int × Int) (pairs_2 : List (Int × Int)) : Res ((Int × Int) × (List (Int × Int))) := (m_grown pot_here_2 places).bind fun r_4 => gd (pairs_2.length + r_4.1.length ≤ 16000000) (bindv (pairs_2 ++ r_4.1) fun pairs_3 => .ok (r_4.2, pairs_3))
def f_web_2 (places : Int) (x_6 : Int) (pot_here_4 : Int × Int) (pairs_5 : List (Int × Int)) : Res ((Int × Int) × (List (Int × Int))) := (m_take pot_here_4 places).bind fun r_6 => (m_take r_6.2 ((pairs_5.length : Int) + 1)).bind fun r_7 => (m_take r_7.2 (places - 1)).bind fun r_8 => gd (0 < places) (gd (0 ≤ r_7.1 ∧ r_7.1 < 2 ^ 62 ∧ pairs_5.length < 16000000) (bindv (pairs_5.take r_7.1.toNat ++ [(r_6.1, (((r_6.1 + 1) + r_8.1) % places))] ++ pairs_5.drop r_7.1.toNat) fun pairs_6 => .ok (r_8.2, pairs_6)))
def m_web (pot_here : Int × Int) : Res ((Int × (List (Int × Int))) × (Int × Int)) := (m_take pot_here 4).bind fun r => (idx [1, 2, 2, 1] r.1).bind fun x => (idx [9, 2, 8, 9] r.1).bind fun x_2 => (m_take r.2 x_2).bind fun r_2 => bindv (x + r_2.1) fun places => bindv ([] : List (Int × Int)) fun pairs => (m_take r_2.2 3).bind fun r_3 => (idx [0, 0, (1 + r_3.1), 0] r.1).bind fun x_3 => gd (rngOk 0 x_3) ((forS (fun x' t => f_web_1 places x' t.1 t.2) (rangeL 0 x_3) (r_3.2, pairs)).bind fun (pot_here_3, pairs_4) => (idx [31, 31, 5, 9] r.1).bind fun x_5 => (m_take pot_here_3 x_5).bind fun r_5 => gd (mulOk r_5.1 (ofB (decide (1 < places)))) (gd (rngOk 0 (r_5.1 * (ofB (decide (1 < places))))) ((forS (fun x' t_2 => f_web_2 places x' t_2.1 t_2.2) (rangeL 0 (r_5.1 * (ofB (decide (1 < places))))) (r_5.2, pairs_4)).bind fun (pot_here_5, pairs_7) => .ok ((places, ((cutG pairs_7 none (some 30)).map fun x_7 => ((min x_7.1 x_7.2), (max x_7.1 x_7.2)))), pot_here_5))))
theorem m_web_nex (pot_here : Int × Int) : ∀ e, m_web pot_here ≠ .ex e := nex_bind (m_take_nex _ _) fun _ => nex_bind idx_nex fun _ => nex_bind idx_nex fun _ => nex_bind (m_take_nex _ _) fun _ => nex_bindv fun _ => nex_bindv fun _ => nex_bind (m_take_nex _ _) fun _ => nex_bind idx_nex fun _ => nex_gd (nex_bind (forS_nex (fun _ _ => nex_bind (m_grown_nex _ _) fun _ => nex_gd (nex_bindv fun _ => nex_ok)) _ _) fun _ => nex_bind idx_nex fun _ => nex_bind (m_take_nex _ _) fun _ => nex_gd (nex_gd (nex_bind (forS_nex (fun _ _ => nex_bind (m_take_nex _ _) fun _ => nex_bind (m_take_nex _ _) fun _ => nex_bind (m_take_nex _ _) fun _ => nex_gd (nex_gd (nex_bindv fun _ => nex_ok))) _ _) fun _ => nex_ok)))
theorem sc_web : FnScope ["_law_pot_here", "_law_way", "_law_places", "_law_pairs", "_law_tree", "_law_k", "_law_a", "_law_pair"] ["_law_pot_here"] (defScope s_web) := ⟨rfl, rfl, rfl, by decide +kernel, rfl, by decide +kernel, by decide +kernel⟩
section
variable {P : Program} {w : World} {K : PySem.W.Frag} {mg : Str → Option Value} {base : Heap} {f : Addr} {fd : FuncData}
theorem g_web (F : FnP K "_law_web" s_web f fd) (m : Md K mg) : FnG P w K mg base 3 f fd ["_law_pot_here"] (SpM K (fun a : Int × Int => [potS a]) (fun a => m_web a) (fun _ r => .val (eT2IWT2II r.1)) (fun _ r => [potS r.2]) (fun _ => [.hole])) := by
  refine fnG_of (n := 7) F sc_web (fun _ => rfl) rfl (fun _ _ => .val) (fun _ _ => (.cons nr_pot .nil)) (fun _ => (.cons .hole .nil)) (fun a e h => absurd h (m_web_nex _ e)) fun cdv A outer s H vs E G pot_here hvs B => ?_
  match vs, hvs with
  | [v0], _ => ?_
  refine ⟨[.pin v0 (potS pot_here)], [.hole, .hole, .hole, .hole, .hole, .hole, .hole, .hole], fun r => [.pin v0 (potS r.2), .hole, .hole, .hole, .hole, .hole, .hole, .hole], (.pin .nil), fun _ => (.pin .nil), (.hole .nil), ?_⟩
  show JL _ _ [.pin v0 (potS pot_here), .hole, .hole, .hole, .hole, .hole, .hole, .hole] _ _ _ _
  refine JL.cons (JS.set (i := 1) sc_web.nd (JE.callN (h_take m) (B.room.mono (by decide)) B.pass (JA.cons (pt := false) (JE.slot (i := 0) rfl ⟨.inr (.inl ⟨_, rfl⟩), fun z => z, JA.one (JE.int ⟨(pot_here, 4), _, [true, false], _, _, _, (.cons rfl .pin .nil), (.inout (.own .nil)), (List.append_nil _).symm, rfl, fun e z => absurd z (m_take_nex _ _ e), ft, fun r _ => ⟨_, rfl, Nat.le_of_ble_eq_true rfl, ?h1⟩⟩)⟩))))
  show JL _ _ [.pin v0 (potS r.2), .val (PyData.int r.1), .hole, .hole, .hole, .hole, .hole, .hole] _ _ _ _
  refine JL.cons (JS.set (i := 2) sc_web.nd (JE.add (JE.ixE (f := fun x => .val (PyData.int x)) (t := false) (JE.lstD (JA.cons (pt := false) (JE.int ⟨.inl ⟨_, rfl⟩, fun z => z, JA.cons (pt := false) (JE.int ⟨.inl ⟨_, rfl⟩, fun z => z, JA.cons (pt := false) (JE.int ⟨.inl ⟨_, rfl⟩, fun z => z, JA.one (JE.int ⟨[_, _, _, _], rfl, Nat.le_of_ble_eq_true rfl, ⟨.inl ⟨_, rfl⟩, JE.var (i := 1) rfl ⟨_, rfl, _, _, (.own (soM (xs := [1, 2, 2, 1]) (e := PyData.int))), rfl, fun x _ => ⟨_, rfl, JE.callN (h_take m) (B.room.mono (by decide)) B.pass (JA.cons (pt := false) (JE.slot (i := 0) rfl ⟨.inr (.inl ⟨_, rfl⟩), fun z => z, JA.one (JE.ixE (f := fun x => .val (PyData.int x)) (t := false) (JE.lstD (JA.cons (pt := false) (JE.int ⟨.inl ⟨_, rfl⟩, fun z => z, JA.cons (pt := false) (JE.int ⟨.inl ⟨_, rfl⟩, fun z => z, JA.cons (pt := false) (JE.int ⟨.inl ⟨_, rfl⟩, fun z => z, JA.one (JE.int ⟨[_, _, _, _], rfl, Nat.le_of_ble_eq_true rfl, ⟨.inl ⟨_, rfl⟩, JE.var (i := 1) rfl ⟨_, rfl, _, _, (.own (soM (xs := [9, 2, 8, 9]) (e := PyData.int))), rfl, fun x_2 _ => ⟨(r.2, x_2), _, [true, false], _, _, _, (.cons rfl .pin .nil), (.inout (.own .nil)), (List.append_nil _).symm, rfl, fun e z => absurd z (m_take_nex _ _ e), ft, fun r_2 _ => ⟨_, rfl, ⟨_, rfl, Nat.le_of_ble_eq_true rfl, ?h2⟩⟩⟩⟩⟩⟩)⟩)⟩)⟩))))⟩))⟩⟩⟩⟩)⟩)⟩)⟩))))))
  refine JL.letv (Γf := fun places => [.pin v0 (potS r_2.2), .val (PyData.int r.1), .val (PyData.int places), .hole, .hole, .hole, .hole, .hole]) (x + r_2.1) fun places => ?_
  show JL _ _ [.pin v0 (potS r_2.2), .val (PyData.int r.1), .val (PyData.int places), .hole, .hole, .hole, .hole, .hole] _ _ _ _
  refine JL.cons (JS.set (i := 3) sc_web.nd (JE.lstD (JA.nil ⟨[], rfl, Nat.le_of_ble_eq_true rfl, ⟨_, rfl, Nat.le_of_ble_eq_true rfl, ?h3⟩⟩)))
  refine JL.letv (Γf := fun pairs => [.pin v0 (potS r_2.2), .val (PyData.int r.1), .val (PyData.int places), slvT2II pairs, .hole, .hole, .hole, .hole]) ([] : List (Int × Int)) fun pairs => ?_
  show JL _ _ [.pin v0 (potS r_2.2), .val (PyData.int r.1), .val (PyData.int places), slvT2II pairs, .hole, .hole, .hole, .hole] _ _ _ _
  refine JL.cons (JS.forS B.own B.calm (JSrc.rng1 m.range (JE.ixE (f := fun x => .val (PyData.int x)) (t := false) (JE.lstD (JA.cons (pt := false) (JE.int ⟨.inl ⟨_, rfl⟩, fun z => z, JA.cons (pt := false) (JE.int ⟨.inl ⟨_, rfl⟩, fun z => z, JA.cons (pt := false) (JE.add (JE.int ⟨_, rfl, JE.callN (h_take m) (B.room.mono (by decide)) B.pass (JA.cons (pt := false) (JE.slot (i := 0) rfl ⟨.inr (.inl ⟨_, rfl⟩), fun z => z, JA.one (JE.int ⟨(r_2.2, 3), _, [true, false], _, _, _, (.cons rfl .pin .nil), (.inout (.own .nil)), (List.append_nil _).symm, rfl, fun e z => absurd z (m_take_nex _ _ e), ft, fun r_3 _ => ⟨_, rfl, ⟨.inl ⟨_, rfl⟩, fun z => z, JA.one (JE.int ⟨[_, _, _, _], rfl, Nat.le_of_ble_eq_true rfl, ⟨.inl ⟨_, rfl⟩, JE.var (i := 1) rfl ⟨_, rfl, _, _, (.own (soM (xs := [0, 0, (1 + r_3.1), 0]) (e := PyData.int))), rfl, fun x_3 _ => ⟨_, rfl, gdI ⟨Int, (Int × Int) × (List (Int × Int)), (rangeL 0 x_3), fun i => .val (.int i), fun x' t => f_web_1 places x' t.1 t.2, (r_3.2, pairs), fun (pot_here_2, pairs_2) => [.pin v0 (potS pot_here_2), .val (PyData.int r.1), .val (PyData.int places), slvT2II pairs_2, .hole, .hole, .hole, .hole], _, rfl, rfl, (by exact (.same (.same (.same (.same (.drop (.drop (.drop (.drop .nil))))))))), fun x_4 t => ?h4, fun t_4 => ?h5⟩⟩⟩⟩⟩)⟩⟩⟩)⟩))⟩))⟩)⟩))))))
  case h4 =>
    obtain ⟨pot_here_2, pairs_2⟩ := t
    refine JG.name (i := 4) ?_ sc_web.nd
    show JL _ _ [.pin v0 (potS pot_here_2), .val (PyData.int r.1), .val (PyData.int places), slvT2II pairs_2, .val (PyData.int x_4), .hole, .hole, .hole] _ _ _ _
    refine JL.cons (JS.set (i := 3) sc_web.nd (JE.catT (f := fun x => .val (eT2II x)) (JE.slot (i := 3) rfl ⟨.inr ⟨_, rfl⟩, JE.callN (h_grown m) (B.room.mono (by decide)) B.pass (JA.cons (pt := false) (JE.slot (i := 0) rfl ⟨.inr (.inl ⟨_, rfl⟩), fun z => z, JA.one (JE.var (i := 2) rfl ⟨(pot_here_2, places), _, [true, false], _, _, _, (.cons rfl .pin .nil), (.inout (.own .nil)), (List.append_nil _).symm, rfl, fun e z => absurd z (m_grown_nex _ _ e), ft, fun r_4 _ => ⟨_, _, _, (.at (i := 3) rfl (soM (xs := pairs_2) (e := eT2II))), (.own (soM (xs := r_4.1) (e := eT2II))), gd_ok, ⟨_, rfl, Nat.le_of_ble_eq_true rfl, ?h6⟩⟩⟩)⟩))⟩)))
    refine JL.letv (Γf := fun pairs_3 => [.pin v0 (potS r_4.2), .val (PyData.int r.1), .val (PyData.int places), slvT2II pairs_3, .val (PyData.int x_4), .hole, .hole, .hole]) (pairs_2 ++ r_4.1) fun pairs_3 => ?_
    exact JL.nil ⟨(r_4.2, pairs_3), rfl, (.same (.same (.same (.same (.drop (.drop (.drop (.drop .nil))))))))⟩
  case h5 =>
    obtain ⟨pot_here_3, pairs_4⟩ := t_4
    show JL _ _ [.pin v0 (potS pot_here_3), .val (PyData.int r.1), .val (PyData.int places), slvT2II pairs_4, .hole, .hole, .hole, .hole] _ _ _ _
    refine JL.cons (JS.forS B.own B.calm (JSrc.rng1 m.range (JE.mul (JE.callN (h_take m) (B.room.mono (by decide)) B.pass (JA.cons (pt := false) (JE.slot (i := 0) rfl ⟨.inr (.inl ⟨_, rfl⟩), fun z => z, JA.one (JE.ixE (f := fun x => .val (PyData.int x)) (t := false) (JE.lstD (JA.cons (pt := false) (JE.int ⟨.inl ⟨_, rfl⟩, fun z => z, JA.cons (pt := false) (JE.int ⟨.inl ⟨_, rfl⟩, fun z => z, JA.cons (pt := false) (JE.int ⟨.inl ⟨_, rfl⟩, fun z => z, JA.one (JE.int ⟨[_, _, _, _], rfl, Nat.le_of_ble_eq_true rfl, ⟨.inl ⟨_, rfl⟩, JE.var (i := 1) rfl ⟨_, rfl, _, _, (.own (soM (xs := [31, 31, 5, 9]) (e := PyData.int))), rfl, fun x_5 _ => ⟨(pot_here_3, x_5), _, [true, false], _, _, _, (.cons rfl .pin .nil), (.inout (.own .nil)), (List.append_nil _).symm, rfl, fun e z => absurd z (m_take_nex _ _ e), ft, fun r_5 _ => ⟨_, rfl, JE.intB m.int (JE.tot (JE.cmp (Cmp.gt (JE.var (i := 2) rfl ⟨_, rfl, JE.int ⟨_, rfl, ⟨rfl, rfl⟩⟩⟩))) ⟨_, rfl, ⟨_, rfl, gdI ⟨_, rfl, gdI ⟨Int, (Int × Int) × (List (Int × Int)), (rangeL 0 (r_5.1 * (ofB (decide (1 < places))))), fun i => .val (.int i), fun x' t_2 => f_web_2 places x' t_2.1 t_2.2, (r_5.2, pairs_4), fun (pot_here_4, pairs_5) => [.pin v0 (potS pot_here_4), .val (PyData.int r.1), .val (PyData.int places), slvT2II pairs_5, .hole, .hole, .hole, .hole], _, rfl, rfl, (by exact (.same (.same (.same (.same (.drop (.drop (.drop (.drop .nil))))))))), fun x_6 t_2 => ?h7, fun t_3 => ?h8⟩⟩⟩⟩)⟩⟩⟩⟩⟩)⟩)⟩)⟩))))⟩))))))
    case h7 =>
      obtain ⟨pot_here_4, pairs_5⟩ := t_2
      refine JG.name (i := 5) ?_ sc_web.nd
      show JL _ _ [.pin v0 (potS pot_here_4), .val (PyData.int r.1), .val (PyData.int places), slvT2II pairs_5, .hole, .val (PyData.int x_6), .hole, .hole] _ _ _ _
      refine JL.cons (JS.set (i := 6) sc_web.nd (JE.callN (h_take m) (B.room.mono (by decide)) B.pass (JA.cons (pt := false) (JE.slot (i := 0) rfl ⟨.inr (.inl ⟨_, rfl⟩), fun z => z, JA.one (JE.var (i := 2) rfl ⟨(pot_here_4, places), _, [true, false], _, _, _, (.cons rfl .pin .nil), (.inout (.own .nil)), (List.append_nil _).symm, rfl, fun e z => absurd z (m_take_nex _ _ e), ft, fun r_6 _ => ⟨_, rfl, Nat.le_of_ble_eq_true rfl, ?h9⟩⟩)⟩))))
      show JL _ _ [.pin v0 (potS r_6.2), .val (PyData.int r.1), .val (PyData.int places), slvT2II pairs_5, .hole, .val (PyData.int x_6), .val (PyData.int r_6.1), .hole] _ _ _ _
      refine JL.cons (JS.expr (JE.insertT (f := svT2II) (i := 3) rfl .lst (JE.callN (h_take m) (B.room.mono (by decide)) B.pass (JA.cons (pt := false) (JE.slot (i := 0) rfl ⟨.inr (.inl ⟨_, rfl⟩), fun z => z, JA.one (JE.add (JE.len m.len (JE.slot (i := 3) rfl ⟨pairs_5.length, (.seq (.at (i := 3) rfl (soM (xs := pairs_5) (e := eT2II))) (List.length_map _)), ⟨_, rfl, JE.int ⟨_, rfl, ⟨(r_6.2, ((pairs_5.length : Int) + 1)), _, [true, false], _, _, _, (.cons rfl .pin .nil), (.inout (.own .nil)), (List.append_nil _).symm, rfl, fun e z => absurd z (m_take_nex _ _ e), ft, fun r_7 _ => ⟨_, rfl, JT.frz (JE.tupD (JA.cons (pt := false) (JE.var (i := 6) rfl ⟨.inl ⟨_, rfl⟩, fun z => z, JA.one (JE.mod (JE.add (JE.add (JE.var (i := 6) rfl ⟨_, rfl, JE.int ⟨_, rfl, ⟨_, rfl, JE.callN (h_take m) (B.room.mono (by decide)) B.pass (JA.cons (pt := false) (JE.slot (i := 0) rfl ⟨.inr (.inl ⟨_, rfl⟩), fun z => z, JA.one (JE.sub (JE.var (i := 2) rfl ⟨_, rfl, JE.int ⟨_, rfl, ⟨(r_7.2, (places - 1)), _, [true, false], _, _, _, (.cons rfl .pin .nil), (.inout (.own .nil)), (List.append_nil _).symm, rfl, fun e z => absurd z (m_take_nex _ _ e), ft, fun r_8 _ => ⟨_, rfl, ⟨_, rfl, JE.var (i := 2) rfl ⟨_, rfl, gdI ⟨[_, _], rfl, Nat.le_of_ble_eq_true rfl, _, _, rfl, .tup (.cons .val (.cons .val .nil)), ⟨_, _, pairs_5, (r_6.1, (((r_6.1 + 1) + r_8.1) % places)), _, rfl, rfl, .lst, gd_ok, ?h10⟩⟩⟩⟩⟩⟩⟩⟩))⟩))⟩⟩⟩))))⟩)))⟩⟩⟩⟩⟩)))⟩)))))
      refine JL.letv (Γf := fun pairs_6 => [.pin v0 (potS r_8.2), .val (PyData.int r.1), .val (PyData.int places), slvT2II pairs_6, .hole, .val (PyData.int x_6), .val (PyData.int r_6.1), .hole]) (pairs_5.take r_7.1.toNat ++ [(r_6.1, (((r_6.1 + 1) + r_8.1) % places))] ++ pairs_5.drop r_7.1.toNat) fun pairs_6 => ?_
      exact JL.nil ⟨(r_8.2, pairs_6), rfl, (.same (.same (.same (.same (.drop (.drop (.drop (.drop .nil))))))))⟩
    case h8 =>
      obtain ⟨pot_here_5, pairs_7⟩ := t_3
      show JL _ _ [.pin v0 (potS pot_here_5), .val (PyData.int r.1), .val (PyData.int places), slvT2II pairs_7, .hole, .hole, .hole, .hole] _ _ _ _
      exact JL.cons (JS.ret (JT.frz (JE.tupD (JA.cons (pt := false) (JE.var (i := 2) rfl ⟨.inl ⟨_, rfl⟩, fun z => z, JA.one (JT.frz (JE.tupleL m.tuple (JE.ofLc (own' := [("_law_pair", 7)]) B.calm sc_web.nd (blkOk_by (by kernel_rfl)) (JT.compP (sd := fun x => .val (eT2II x)) (g := fun x_7 => ((min x_7.1 x_7.2), (max x_7.1 x_7.2))) (se := fun y => .val (eT2II y)) (JSrc.lst (JE.sliceLT (f := fun x => .val (eT2II x)) (JE.slot (i := 3) rfl ⟨.inr ⟨_, rfl⟩, _, _, _, (.at (i := 3) rfl (soM (xs := pairs_7) (e := eT2II))), .no, (.at (JE.int ⟨rfl, rfl⟩)), ⟨_, _, rfl, (soM (xs := (cutG pairs_7 none (some 30))) (e := eT2II)), ⟨(cutG pairs_7 none (some 30)), rfl, (.hole rfl .nil), fun x_7 => ⟨[.pin v0 (potS pot_here_5), .val (PyData.int r.1), .val (PyData.int places), slvT2II pairs_7, .hole, .hole, .hole, .val (eT2II x_7)], Le.refl, fun s H Ca cl fp => JG.name (i := 7) rfl sc_web.nd, fun s H Ca cl fp => JT.frz (JE.tupD (JA.cons (pt := true) (JE.leastP B.room B.calm m.min (JE.var (i := 7) rfl ⟨rfl, ⟨.inl ⟨_, rfl⟩, fun z => z, JA.one (JE.mostP B.room B.calm m.max (JE.var (i := 7) rfl ⟨rfl, ⟨[_, _], rfl, Nat.le_of_ble_eq_true rfl, _, _, rfl, .tup (.cons .val (.cons .val .nil)), ⟨rfl, rfl⟩⟩⟩))⟩⟩))))⟩, ⟨_, (.own (soM (xs := ((cutG pairs_7 none (some 30)).map fun x_7 => ((min x_7.1 x_7.2), (max x_7.1 x_7.2)))) (e := eT2II))), _, _, rfl, .tup (.map fun _ => .val), ⟨[_, _], rfl, Nat.le_of_ble_eq_true rfl, _, _, rfl, .tup (.cons .val (.cons .val .nil)), ⟨((places, ((cutG pairs_7 none (some 30)).map fun x_7 => ((min x_7.1 x_7.2), (max x_7.1 x_7.2)))), pot_here_5), _, _, rfl, rfl, rfl, by exact (.same (.drop (.drop (.drop (.drop (.drop (.drop (.drop .nil))))))))⟩⟩⟩⟩⟩⟩)))))))⟩)))))
end
theorem h_web {X : Cx} (m : Md X.K X.mg) : Has X "_law_web" 3 (fun a : Int × Int => [potS a]) (fun a => m_web a) (fun _ r => .val (eT2IWT2II r.1)) (fun _ r => [potS r.2]) (fun _ => [.hole]) :=
  has_of (ps := ["_law_pot_here"]) m.f_web (fun f fd F => g_web F m) (fun f fd F => F.bindsN fun _ _ _ _ _ _ us hl => match us, hl with | [_], _ => rfl) (fun _ _ => .val) (fun _ _ => (.cons nr_pot .nil)) (fun _ => (.cons .hole .nil)) (fun a e h => absurd h (m_web_nex _ e))
def m_l_is_whole (thing : PyData) : Res Bool := .ok ((isIntD thing) && (!(isBoolD thing)))
theorem m_l_is_whole_nex (thing : PyData) : ∀ e, m_l_is_whole thing ≠ .ex e := nex_ok
theorem sc_l_is_whole : FnScope ["_law_thing"] ["_law_thing"] (defScope s_l_is_whole) := ⟨rfl, rfl, rfl, by decide +kernel, rfl, by decide +kernel, by decide +kernel⟩
section
variable {P : Program} {w : World} {K : PySem.W.Frag} {mg : Str → Option Value} {base : Heap} {f : Addr} {fd : FuncData}
theorem g_l_is_whole (F : FnP K "_law_is_whole" s_l_is_whole f fd) (m : Md K mg) : FnG P w K mg base 1 f fd ["_law_thing"] (SpM K (fun a : PyData => [.val (eX a)]) (fun a => m_l_is_whole a) (fun _ r => .val (PyData.bool r)) (fun _ r => [.hole]) (fun _ => [.hole])) := by
  refine fnG_of (n := 0) F sc_l_is_whole (fun _ => rfl) rfl (fun _ _ => .val) (fun _ _ => (.cons .hole .nil)) (fun _ => (.cons .hole .nil)) (fun a e h => absurd h (m_l_is_whole_nex _ e)) fun cdv A outer s H vs E G thing hvs B => ?_
  match vs, hvs with
  | [_], _ => ?_
  refine ⟨[.val (eX thing)], [.hole], fun r => [.hole], (.keep .nil), fun _ => (.hole .nil), (.hole .nil), ?_⟩
  show JL _ _ [.val (eX thing)] _ _ _ _
  exact JL.cons (JS.ret (JE.tot (JVt.and (JE.isi m.isinstance m.int (JE.var (i := 0) rfl ⟨.inl ⟨_, rfl⟩, _, _, (.own .val), isi_int _, ⟨rfl, rfl⟩⟩)) fun _ => (JE.one (JVt.not (JE.isi m.isinstance m.bool (JE.var (i := 0) rfl ⟨.inl ⟨_, rfl⟩, _, _, (.own .val), isi_bool _, ⟨rfl, rfl⟩⟩))))) ⟨((isIntD thing) && (!(isBoolD thing))), _, _, rfl, rfl, rfl, (by exact (.drop .nil))⟩))
end
theorem h_l_is_whole {X : Cx} (m : Md X.K X.mg) : Has X "_law_is_whole" 1 (fun a : PyData => [.val (eX a)]) (fun a => m_l_is_whole a) (fun _ r => .val (PyData.bool r)) (fun _ r => [.hole]) (fun _ => [.hole]) :=
  has_of (ps := ["_law_thing"]) m.f_l_is_whole (fun f fd F => g_l_is_whole F m) (fun f fd F => F.bindsN fun _ _ _ _ _ _ us hl => match us, hl with | [_], _ => rfl) (fun _ _ => .val) (fun _ _ => (.cons .hole .nil)) (fun _ => (.cons .hole .nil)) (fun a e h => absurd h (m_l_is_whole_nex _ e))
def c_parting_2 (places : Int) (x : Int) (t : Int × Int) : Res (Option Int × (Int × Int)) := (m_take t places).bind fun r => .ok (some r.1, r.2)
def c_parting_9 (r_2 : List Int × (Int × Int)) (x_2 : Int) (x_3 : Int) : Res (Option Int × Unit) := ((idx r_2.1 x_3).bind fun x_4 => .ok (decide (x_4 = x_2), ()) : Res (Bool × Unit)).bind fun r' => cond r'.1 ((fun _ => .ok (some x_3, ())) r'.2) (.ok (none, r'.2))
def c_parting_10 (places : Int) (r_2 : List Int × (Int × Int)) (x_2 : Int) : Res (Option (List Int) × Unit) := gd (rngOk 0 places) ((compL (fun x' _ => c_parting_9 r_2 x_2 x') (rangeL 0 places) ()).bind fun r_3 => .ok (some r_3.1, ()))
def m_parting (pot_here : Int × Int) (places : Int) : Res (List (List Int) × (Int × Int)) := gd (rngOk 0 places) ((compL (fun x' t_2 => c_parting_2 places x' t_2) (rangeL 0 places) pot_here).bind fun r_2 => gd (rngOk 0 places) ((compL (fun x' _ => c_parting_10 places r_2 x') (rangeL 0 places) ()).bind fun r_4 => .ok ((sortD eLI (r_4.1.filter fun x_5 => !decide (x_5 = ([] : List Int)))), r_2.2)))
theorem m_parting_nex (pot_here : Int × Int) (places : Int) : ∀ e, m_parting pot_here places ≠ .ex e := nex_gd (nex_bind (compL_nex _ _) fun _ => nex_gd (nex_bind (compL_nex _ _) fun _ => nex_ok))
theorem sc_parting : FnScope ["_law_pot_here", "_law_places", "_law_labels", "_law_place", "_law_found", "_law_label", "_law_part"] ["_law_pot_here", "_law_places"] (defScope s_parting) := ⟨rfl, rfl, rfl, by decide +kernel, rfl, by decide +kernel, by decide +kernel⟩
section
variable {P : Program} {w : World} {K : PySem.W.Frag} {mg : Str → Option Value} {base : Heap} {f : Addr} {fd : FuncData}
theorem g_parting (F : FnP K "_law_parting" s_parting f fd) (m : Md K mg) : FnG P w K mg base 2 f fd ["_law_pot_here", "_law_places"] (SpM K (fun a : (Int × Int) × Int => [potS a.1, .val (PyData.int a.2)]) (fun a => m_parting a.1 a.2) (fun _ r => slvLI r.1) (fun _ r => [potS r.2, .hole]) (fun _ => [.hole, .hole])) := by
  refine fnG_of (n := 5) F sc_parting (fun _ => rfl) rfl (fun _ _ => (.lst (.map fun _ => .val))) (fun _ _ => (.cons nr_pot (.cons .hole .nil))) (fun _ => (.cons .hole (.cons .hole .nil))) (fun a e h => absurd h (m_parting_nex _ _ e)) fun cdv A outer s H vs E G a hvs B => ?_
  obtain ⟨pot_here, places⟩ := a
  match vs, hvs with
  | [v0, _], _ => ?_
  refine ⟨[.pin v0 (potS pot_here), .val (PyData.int places)], [.hole, .hole, .hole, .hole, .hole, .hole, .hole], fun r => [.pin v0 (potS r.2), .hole, .hole, .hole, .hole, .hole, .hole], (.pin (.keep .nil)), fun _ => (.pin (.hole .nil)), (.hole (.hole .nil)), ?_⟩
  show JL _ _ [.pin v0 (potS pot_here), .val (PyData.int places), .hole, .hole, .hole, .hole, .hole] _ _ _ _
  refine JL.cons (JS.set (i := 2) sc_parting.nd (JT.frz (JE.ofLc (own' := [("_law_place", 3)]) B.calm sc_parting.nd (blkOk_by (by kernel_rfl)) (JT.comp (JSrc.rng1 m.range (JE.var (i := 1) rfl ⟨_, rfl, gdI ⟨Int, Int, Int × Int, (rangeL 0 places), fun i => .val (.int i), fun x' t_2 => c_parting_2 places x' t_2, pot_here, fun t => [.pin v0 (potS t), .val (PyData.int places), .hole, .hole, .hole, .hole, .hole], fun y => .val (PyData.int y), _, rfl, rfl, Le.refl, ft, fun _ => (.hole rfl .nil), fun x t => ⟨[.pin v0 (potS t), .val (PyData.int places), .hole, .val (PyData.int x), .hole, .hole, .hole], Le.refl, fun s H Ca cl fp => JG.name (i := 3) rfl sc_parting.nd, fun s H Ca cl fp => JE.callN (h_take m) (B.room.mono (by decide)) passN (JA.cons (pt := false) (JE.slot (i := 0) rfl ⟨.inr (.inl ⟨_, rfl⟩), fun z => z, JA.one (JE.var (i := 1) rfl ⟨(t, places), _, [true, false], _, _, _, (.cons rfl .pin .nil), (.inout (.own .nil)), (List.append_nil _).symm, rfl, fun e z => absurd z (m_take_nex _ _ e), ft, fun r _ => ⟨r.1, r.2, rfl, rfl, Le.refl⟩⟩)⟩))⟩, fun r_2 _ => ⟨_, _, rfl, (.lst (.map fun _ => .val)), ⟨_, rfl, Nat.le_of_ble_eq_true rfl, ?h1⟩⟩⟩⟩))))))
  show JL _ _ [.pin v0 (potS r_2.2), .val (PyData.int places), .val (eLI r_2.1), .hole, .hole, .hole, .hole] _ _ _ _
  refine JL.cons (JS.ofLc (i := 4) (own' := [("_law_label", 5)]) B.calm sc_parting.nd (blkOk_by (by kernel_rfl)) (JT.frz (JT.comp (JSrc.rng1 m.range (JE.var (i := 1) rfl ⟨_, rfl, gdI ⟨Int, List Int, Unit, (rangeL 0 places), fun i => .val (.int i), fun x' _ => c_parting_10 places r_2 x', (), fun _ => [.pin v0 (potS r_2.2), .val (PyData.int places), .val (eLI r_2.1), .hole, .hole, .hole, .hole], fun y => slvI y, _, rfl, rfl, Le.refl, ft, fun _ => (.hole rfl .nil), fun x_2 _ => ⟨[.pin v0 (potS r_2.2), .val (PyData.int places), .val (eLI r_2.1), .hole, .hole, .val (PyData.int x_2), .hole], Le.refl, fun s H Ca cl fp => JG.name (i := 5) rfl sc_parting.nd, fun s H Ca cl fp => JE.ofLc (own' := [("_law_place", 3)]) B.calm sc_parting.nd (blkOk_by (by kernel_rfl)) (JT.comp (JSrc.rng1 m.range (JE.var (i := 1) rfl ⟨_, rfl, gdI ⟨Int, Int, Unit, (rangeL 0 places), fun i => .val (.int i), fun x' _ => c_parting_9 r_2 x_2 x', (), fun _ => [.pin v0 (potS r_2.2), .val (PyData.int places), .val (eLI r_2.1), .hole, .hole, .val (PyData.int x_2), .hole], fun y => .val (PyData.int y), _, rfl, rfl, Le.refl, ft, fun _ => (.hole rfl .nil), fun x_3 _ => ⟨[.pin v0 (potS r_2.2), .val (PyData.int places), .val (eLI r_2.1), .val (PyData.int x_3), .hole, .val (PyData.int x_2), .hole], Le.refl, fun s H Ca cl fp => JG.name (i := 3) rfl sc_parting.nd, _, _, fun _ => [.pin v0 (potS r_2.2), .val (PyData.int places), .val (eLI r_2.1), .val (PyData.int x_3), .hole, .val (PyData.int x_2), .hole], rfl, fun _ => Le.refl, fun s H Ca cl fp => JC.cmp (Cmp.eqI (JE.ixE (f := fun x => .val (PyData.int x)) (t := false) (JE.var (i := 2) rfl ⟨.inl ⟨_, rfl⟩, JE.var (i := 3) rfl ⟨_, rfl, _, _, (.own (soL (xs := r_2.1) (e := PyData.int))), rfl, fun x_4 _ => ⟨_, rfl, JE.var (i := 5) rfl ⟨_, rfl, ⟨_, rfl, ⟨(), rfl, rfl⟩⟩⟩⟩⟩⟩))), fun _ => fun s H Ca cl fp => JE.var (i := 3) rfl ⟨x_3, (), rfl, rfl, Le.refl⟩⟩, fun r_3 _ => ⟨r_3.1, (), rfl, rfl, Le.refl⟩⟩⟩)))⟩, fun r_4 _ => ⟨_, _, rfl, (.lst (.map fun _ => (.lst (.map fun _ => .val)))), ⟨_, rfl, Nat.le_of_ble_eq_true rfl, ?h2⟩⟩⟩⟩)))))
  show JL _ _ [.pin v0 (potS r_2.2), .val (PyData.int places), .val (eLI r_2.1), .hole, .val (eLLI r_4.1), .hole, .hole] _ _ _ _
  exact JL.cons (JS.ret (JE.sortedT (e := eLI) (eokL eokI) (srtL eokI (by decide) srtI.alike) B.room m.sorted (JE.ofLc (own' := [("_law_part", 6)]) B.calm sc_parting.nd (blkOk_by (by kernel_rfl)) (JT.compFI (sd := fun x => .val (eLI x)) (q := fun x_5 => !decide (x_5 = ([] : List Int))) (se := fun y => .val (eLI y)) (JSrc.lst (JE.var (i := 4) rfl ⟨_, _, rfl, (soL (xs := r_4.1) (e := eLI)), ⟨r_4.1, rfl, (.hole rfl .nil), fun x_5 => ⟨[.pin v0 (potS r_2.2), .val (PyData.int places), .val (eLI r_2.1), .hole, .val (eLLI r_4.1), .hole, .val (eLI x_5)], Le.refl, fun s H Ca cl fp => JG.name (i := 6) rfl sc_parting.nd, fun s H Ca cl fp => (JCt.cmp (Cmp.neT (e := eLI) (eokL eokI) (by decide) B.room (JE.var (i := 6) rfl ⟨.inl ⟨_, rfl⟩, JE.lstD (JA.nil ⟨[], rfl, Nat.le_of_ble_eq_true rfl, ⟨x_5, ([] : List Int), (.own .val), (.own (.lst .nil)), ⟨rfl, rfl⟩⟩⟩)⟩))), fun s H Ca cl fp => JE.var (i := 6) rfl ⟨rfl, rfl⟩⟩, ⟨_, (.own (soM (xs := (r_4.1.filter fun x_5 => !decide (x_5 = ([] : List Int)))) (e := eLI))), ⟨((sortD eLI (r_4.1.filter fun x_5 => !decide (x_5 = ([] : List Int)))), r_2.2), _, _, rfl, rfl, rfl, by exact (.same (.drop (.drop (.drop (.drop (.drop (.drop .nil)))))))⟩⟩⟩⟩))))))
end
theorem h_parting {X : Cx} (m : Md X.K X.mg) : Has X "_law_parting" 2 (fun a : (Int × Int) × Int => [potS a.1, .val (PyData.int a.2)]) (fun a => m_parting a.1 a.2) (fun _ r => slvLI r.1) (fun _ r => [potS r.2, .hole]) (fun _ => [.hole, .hole]) :=
  has_of (ps := ["_law_pot_here", "_law_places"]) m.f_parting (fun f fd F => g_parting F m) (fun f fd F => F.bindsN fun _ _ _ _ _ _ us hl => match us, hl with | [_, _], _ => rfl) (fun _ _ => (.lst (.map fun _ => .val))) (fun _ _ => (.cons nr_pot (.cons .hole .nil))) (fun _ => (.cons .hole (.cons .hole .nil))) (fun a e h => absurd h (m_parting_nex _ _ e))
def c_l_is_parting_14 (x_2 : PyData) : Res (Option PyData × Unit) := ((m_l_is_whole x_2).bind fun r => .ok (!r, ()) : Res (Bool × Unit)).bind fun r' => cond r'.1 ((fun _ => .ok (some x_2, ())) r'.2) (.ok (none, r'.2))
def c_l_is_parting_28 (x_3 : PyData) : Res (Option PyData × Unit) := ((m_l_is_whole x_3).bind fun r_3 => .ok (!r_3, ()) : Res (Bool × Unit)).bind fun r' => cond r'.1 ((fun _ => .ok (some x_3, ())) r'.2) (.ok (none, r'.2))
def f_l_is_parting_29 (x : PyData) (seen_2 : List Int) : Res (Lp (List Int) Bool) := (cond (!(isLstD x || isTupD x)) (.ok true) ((xseq x).bind fun xs => .ok (decide ((xs.length : Int) = 0)))).bind fun c => cond c (.ok (.rt false)) (xsplit x (fun part => ((compL (fun x' _ => c_l_is_parting_14 x') part ()).bind fun r_2 => cond (!r_2.1.isEmpty) (.ok true) (optR (xints part) fun part_2 => gd (part_2.length < 64) (.ok (!decide (part_2 = (sortSet part_2)))))).bind fun c_2 => cond c_2 (.ok (.rt false)) (optR (xints part) fun part_3 => gd (seen_2.length + part_3.length ≤ 16000000) (bindv (seen_2 ++ part_3) fun seen_3 => .ok (.nx seen_3)))) (fun part_4 => ((compL (fun x' _ => c_l_is_parting_28 x') part_4 ()).bind fun r_4 => cond (!r_4.1.isEmpty) (.ok true) (optR (xints part_4) fun part_5 => gd (part_5.length < 64) (.ok (!decide (part_5 = (sortSet part_5)))))).bind fun c_3 => cond c_3 (.ok (.rt false)) (optR (xints part_4) fun part_6 => gd (seen_2.length + part_6.length ≤ 16000000) (bindv (seen_2 ++ part_6) fun seen_4 => .ok (.nx seen_4)))))
def c_l_is_parting_31 (x_4 : PyData) : Res (Option PyData × Unit) := (xat x_4 0).bind fun y => .ok (some y, ())
def c_l_is_parting_45 (x_6 : PyData) : Res (Option PyData × Unit) := ((m_l_is_whole x_6).bind fun r_6 => .ok (!r_6, ()) : Res (Bool × Unit)).bind fun r' => cond r'.1 ((fun _ => .ok (some x_6, ())) r'.2) (.ok (none, r'.2))
def c_l_is_parting_59 (x_7 : PyData) : Res (Option PyData × Unit) := ((m_l_is_whole x_7).bind fun r_8 => .ok (!r_8, ()) : Res (Bool × Unit)).bind fun r' => cond r'.1 ((fun _ => .ok (some x_7, ())) r'.2) (.ok (none, r'.2))
def f_l_is_parting_60 (x_5 : PyData) (seen_6 : List Int) : Res (Lp (List Int) Bool) := (cond (!(isLstD x_5 || isTupD x_5)) (.ok true) ((xseq x_5).bind fun xs_2 => .ok (decide ((xs_2.length : Int) = 0)))).bind fun c_5 => cond c_5 (.ok (.rt false)) (xsplit x_5 (fun part_7 => ((compL (fun x' _ => c_l_is_parting_45 x') part_7 ()).bind fun r_7 => cond (!r_7.1.isEmpty) (.ok true) (optR (xints part_7) fun part_8 => gd (part_8.length < 64) (.ok (!decide (part_8 = (sortSet part_8)))))).bind fun c_6 => cond c_6 (.ok (.rt false)) (optR (xints part_7) fun part_9 => gd (seen_6.length + part_9.length ≤ 16000000) (bindv (seen_6 ++ part_9) fun seen_7 => .ok (.nx seen_7)))) (fun part_10 => ((compL (fun x' _ => c_l_is_parting_59 x') part_10 ()).bind fun r_9 => cond (!r_9.1.isEmpty) (.ok true) (optR (xints part_10) fun part_11 => gd (part_11.length < 64) (.ok (!decide (part_11 = (sortSet part_11)))))).bind fun c_7 => cond c_7 (.ok (.rt false)) (optR (xints part_10) fun part_12 => gd (seen_6.length + part_12.length ≤ 16000000) (bindv (seen_6 ++ part_12) fun seen_8 => .ok (.nx seen_8)))))
def c_l_is_parting_62 (x_8 : PyData) : Res (Option PyData × Unit) := (xat x_8 0).bind fun y_2 => .ok (some y_2, ())
def m_l_is_parting (places : Int) (thing : PyData) : Res Bool := bindv ([] : List Int) fun seen => x3 thing (fun thing_2 => cond (!true) (.ok false) ((forL (fun x' t_3 => f_l_is_parting_29 x' t_3) thing_2 seen).bind (orW fun seen_5 => (compL (fun x' _ => c_l_is_parting_31 x') thing_2 ()).bind fun r_5 => optR (xints r_5.1) fun firsts => (gd (rngOk 0 places) (cond (decide ((sortD PyData.int seen_5) = (rangeL 0 places))) (.ok (decide (firsts = (sortD PyData.int firsts)))) (.ok false))).bind fun c_4 => .ok c_4))) (fun thing_3 => cond (!true) (.ok false) ((forL (fun x' t_8 => f_l_is_parting_60 x' t_8) thing_3 seen).bind (orW fun seen_9 => (compL (fun x' _ => c_l_is_parting_62 x') thing_3 ()).bind fun r_10 => optR (xints r_10.1) fun firsts_2 => (gd (rngOk 0 places) (cond (decide ((sortD PyData.int seen_9) = (rangeL 0 places))) (.ok (decide (firsts_2 = (sortD PyData.int firsts_2)))) (.ok false))).bind fun c_8 => .ok c_8))) (cond (!(isLstD thing || isTupD thing)) (.ok false) (.un))
theorem m_l_is_parting_nex (places : Int) (thing : PyData) : ∀ e, m_l_is_parting places thing ≠ .ex e := nex_bindv fun _ => nex_x3 (fun _ => nex_cond (nex_ok) (nex_bind (forL_nex (fun _ _ => nex_bind (nex_cond (nex_ok) (nex_bind xseq_nex fun _ => nex_ok)) fun _ => nex_cond (nex_ok) (nex_xsplit (fun _ => nex_bind (nex_bind (compL_nex _ _) fun _ => nex_cond (nex_ok) (nex_optR fun _ => nex_gd (nex_ok))) fun _ => nex_cond (nex_ok) (nex_optR fun _ => nex_gd (nex_bindv fun _ => nex_ok))) (fun _ => nex_bind (nex_bind (compL_nex _ _) fun _ => nex_cond (nex_ok) (nex_optR fun _ => nex_gd (nex_ok))) fun _ => nex_cond (nex_ok) (nex_optR fun _ => nex_gd (nex_bindv fun _ => nex_ok))))) _ _) (nex_orW fun _ => nex_bind (compL_nex _ _) fun _ => nex_optR fun _ => nex_bind (nex_gd (nex_cond (nex_ok) (nex_ok))) fun _ => nex_ok))) (fun _ => nex_cond (nex_ok) (nex_bind (forL_nex (fun _ _ => nex_bind (nex_cond (nex_ok) (nex_bind xseq_nex fun _ => nex_ok)) fun _ => nex_cond (nex_ok) (nex_xsplit (fun _ => nex_bind (nex_bind (compL_nex _ _) fun _ => nex_cond (nex_ok) (nex_optR fun _ => nex_gd (nex_ok))) fun _ => nex_cond (nex_ok) (nex_optR fun _ => nex_gd (nex_bindv fun _ => nex_ok))) (fun _ => nex_bind (nex_bind (compL_nex _ _) fun _ => nex_cond (nex_ok) (nex_optR fun _ => nex_gd (nex_ok))) fun _ => nex_cond (nex_ok) (nex_optR fun _ => nex_gd (nex_bindv fun _ => nex_ok))))) _ _) (nex_orW fun _ => nex_bind (compL_nex _ _) fun _ => nex_optR fun _ => nex_bind (nex_gd (nex_cond (nex_ok) (nex_ok))) fun _ => nex_ok))) (nex_cond (nex_ok) (nex_un))
theorem sc_l_is_parting : FnScope ["_law_places", "_law_thing", "_law_seen", "_law_part", "_law_one", "_law_firsts"] ["_law_places", "_law_thing"] (defScope s_l_is_parting) := ⟨rfl, rfl, rfl, by decide +kernel, rfl, by decide +kernel, by decide +kernel⟩
section
variable {P : Program} {w : World} {K : PySem.W.Frag} {mg : Str → Option Value} {base : Heap} {f : Addr} {fd : FuncData}
theorem g_l_is_parting (F : FnP K "_law_is_parting" s_l_is_parting f fd) (m : Md K mg) : FnG P w K mg base 2 f fd ["_law_places", "_law_thing"] (SpM K (fun a : Int × PyData => [.val (PyData.int a.1), .val (eX a.2)]) (fun a => m_l_is_parting a.1 a.2) (fun _ r => .val (PyData.bool r)) (fun _ r => [.hole, .hole]) (fun _ => [.hole, .hole])) := by
  refine fnG_of (n := 4) F sc_l_is_parting (fun _ => rfl) rfl (fun _ _ => .val) (fun _ _ => (.cons .hole (.cons .hole .nil))) (fun _ => (.cons .hole (.cons .hole .nil))) (fun a e h => absurd h (m_l_is_parting_nex _ _ e)) fun cdv A outer s H vs E G a hvs B => ?_
  obtain ⟨places, thing⟩ := a
  match vs, hvs with
  | [_, _], _ => ?_
  refine ⟨[.val (PyData.int places), .val (eX thing)], [.hole, .hole, .hole, .hole, .hole, .hole], fun r => [.hole, .hole, .hole, .hole, .hole, .hole], (.keep (.keep .nil)), fun _ => (.hole (.hole .nil)), (.hole (.hole .nil)), ?_⟩
  show JL _ _ [.val (PyData.int places), .val (eX thing), .hole, .hole, .hole, .hole] _ _ _ _
  refine JL.cons (JS.set (i := 2) sc_l_is_parting.nd (JE.lstD (JA.nil ⟨[], rfl, Nat.le_of_ble_eq_true rfl, ⟨_, rfl, Nat.le_of_ble_eq_true rfl, ?h1⟩⟩)))
  refine JL.letv (Γf := fun seen => [.val (PyData.int places), .val (eX thing), slvI seen, .hole, .hole, .hole]) ([] : List Int) fun seen => ?_
  show JL _ _ [.val (PyData.int places), .val (eX thing), slvI seen, .hole, .hole, .hole] _ _ _ _
  refine JL.x3 (Γf := fun y => [.val (PyData.int places), .val (eX y), slvI seen, .hole, .hole, .hole]) (fun thing_2 => ?h2) (fun thing_3 => ?h18) ?h34
  case h2 =>
    show JL _ _ [.val (PyData.int places), .val (eLX thing_2), slvI seen, .hole, .hole, .hole] _ _ _ _
    refine JL.cons (JS.ite (JC.tot (JCt.not (JCt.val (JE.isi2 m.isinstance m.list m.tuple (JE.var (i := 1) rfl ⟨.inl ⟨_, rfl⟩, _, _, (.own .val), any2 (isi_list _) (isi_tuple _), ⟨rfl, rfl⟩⟩)))) ⟨_, _, rfl, fun _ => ?h3, fun _ => ?h4⟩))
    case h3 =>
      exact JL.cons (JS.ret (JE.bl ⟨false, _, _, rfl, rfl, rfl, (by exact (.drop (.drop (.drop (.drop (.drop (.drop .nil)))))))⟩))
    case h4 =>
      refine JL.nil ?_
      show JL _ _ [.val (PyData.int places), .val (eLX thing_2), slvI seen, .hole, .hole, .hole] _ _ _ _
      refine JL.cons (JS.for_ B.own B.calm (JSrc.lst (JE.var (i := 1) rfl ⟨_, _, rfl, (soL (xs := thing_2) (e := eX)), ⟨PyData, List Int, thing_2, fun x => .val (eX x), fun x' t_3 => f_l_is_parting_29 x' t_3, seen, fun seen_2 => [.val (PyData.int places), .val (eLX thing_2), slvI seen_2, .hole, .hole, .hole], _, rfl, rfl, (.same (.same (.same (.drop (.drop (.drop .nil)))))), fun x seen_2 => ?h5, fun seen_5 => ?h6⟩⟩)))
      case h5 =>
        refine JG.name (i := 3) ?_ sc_l_is_parting.nd
        show JL _ _ [.val (PyData.int places), .val (eLX thing_2), slvI seen_2, .val (eX x), .hole, .hole] _ _ _ _
        refine JL.cons (JS.ite (JC.all (m := cond (!(isLstD x || isTupD x)) (.ok true) ((xseq x).bind fun xs => .ok (decide ((xs.length : Int) = 0)))) (by first | with_reducible rfl | rfl) (JC.bop (JW.or (JC.tot (JCt.not (JCt.val (JE.isi2 m.isinstance m.list m.tuple (JE.var (i := 3) rfl ⟨.inl ⟨_, rfl⟩, _, _, (.own .val), any2 (isi_list _) (isi_tuple _), ⟨rfl, rfl⟩⟩)))) ⟨_, _, rfl, fun _ => ⟨rfl, rfl⟩, fun _ => JW.or1 (JC.cmp (Cmp.eqI (JE.lenX m.len (JE.var (i := 3) rfl ⟨x, _, rfl, rfl, fun xs => ⟨_, rfl, JE.int ⟨_, rfl, ⟨_, rfl, ⟨rfl, rfl⟩⟩⟩⟩⟩))))⟩))) fun c _ => ⟨_, _, rfl, fun _ => ?h7, fun _ => ?h8⟩))
        case h7 =>
          exact JL.cons (JS.ret (JE.bl ⟨.rt false, _, _, rfl, rfl, rfl, (by exact (.drop (.drop (.drop (.drop (.drop (.drop .nil)))))))⟩))
        case h8 =>
          refine JL.nil ?_
          show JL _ _ [.val (PyData.int places), .val (eLX thing_2), slvI seen_2, .val (eX x), .hole, .hole] _ _ _ _
          refine JL.xsplit (Γf := fun y => [.val (PyData.int places), .val (eLX thing_2), slvI seen_2, .val (eX y), .hole, .hole]) (fun part => ?h9) (fun part_4 => ?h13)
          case h9 =>
            show JL _ _ [.val (PyData.int places), .val (eLX thing_2), slvI seen_2, .val (eLX part), .hole, .hole] _ _ _ _
            refine JL.cons (JS.ite (JC.all (m := (compL (fun x' _ => c_l_is_parting_14 x') part ()).bind fun r_2 => cond (!r_2.1.isEmpty) (.ok true) (optR (xints part) fun part_2 => gd (part_2.length < 64) (.ok (!decide (part_2 = (sortSet part_2)))))) (by first | with_reducible rfl | rfl) (JC.bop (JW.or (JC.cmp (Cmp.neNil (f := svX) B.room.lines64 (JE.ofLc (own' := [("_law_one", 4)]) B.calm sc_l_is_parting.nd (blkOk_by (by kernel_rfl)) (JT.comp (JSrc.lst (JE.var (i := 3) rfl ⟨_, _, rfl, (soL (xs := part) (e := eX)), ⟨PyData, PyData, Unit, part, fun x => .val (eX x), fun x' _ => c_l_is_parting_14 x', (), fun _ => [.val (PyData.int places), .val (eLX thing_2), slvI seen_2, .val (eLX part), .hole, .hole], fun y => .val (eX y), _, rfl, rfl, Le.refl, ft, fun _ => (.hole rfl .nil), fun x_2 _ => ⟨[.val (PyData.int places), .val (eLX thing_2), slvI seen_2, .val (eLX part), .val (eX x_2), .hole], Le.refl, fun s H Ca cl fp => JG.name (i := 4) rfl sc_l_is_parting.nd, ((m_l_is_whole x_2).bind fun r => .ok (!r, ()) : Res (Bool × Unit)), (fun _ => .ok (some x_2, ())), fun _ => [.val (PyData.int places), .val (eLX thing_2), slvI seen_2, .val (eLX part), .val (eX x_2), .hole], rfl, fun _ => Le.refl, fun s H Ca cl fp => JC.not (JC.val (JE.callN (h_l_is_whole m) (B.room.mono (by decide)) passN (JA.one (JE.var (i := 4) rfl (Args.plain x_2 _ [false] (.own .nil) rfl rfl rfl (fun e z => absurd z (m_l_is_whole_nex _ e)) fun r _ => ⟨_, rfl, ⟨(), rfl, rfl⟩⟩))))), fun _ => fun s H Ca cl fp => JE.var (i := 4) rfl ⟨x_2, (), rfl, rfl, Le.refl⟩⟩, fun r_2 _ => ⟨_, rfl, JE.lstD (JA.nil ⟨[], rfl, Nat.le_of_ble_eq_true rfl, ⟨r_2.1, rfl, rfl, ⟨_, rfl, ⟨_, _, rfl, fun _ => ⟨rfl, rfl⟩, fun _ => JW.or1 (JC.xils (Γf := fun y => [.val (PyData.int places), .val (eLX thing_2), slvI seen_2, .val (eX y), .hole, .hole]) (mk := .list) fun part_2 => JC.cmp (Cmp.neT (e := eLI) (eokL eokI) (by decide) B.room (JE.listOf m.list (JE.var (i := 3) rfl ⟨false, _, (.own (soL (xs := part_2) (e := PyData.int))), ⟨.inl ⟨_, rfl⟩, JE.sortedSet m.sorted m.set B.calm (JE.var (i := 3) rfl ⟨_, _, (.own (soL (xs := part_2) (e := PyData.int))), gd_ok, ⟨part_2, (sortSet part_2), (.own (.lst (.map fun _ => .val))), (.own (.lst (.map fun _ => .val))), ⟨_, rfl, ⟨rfl, ⟨rfl, rfl⟩⟩⟩⟩⟩)⟩⟩))))⟩⟩⟩⟩)⟩⟩⟩)))))))) fun c_2 _ => ⟨_, _, rfl, fun _ => ?h10, fun _ => ?h11⟩))
            case h10 =>
              exact JL.cons (JS.ret (JE.bl ⟨.rt false, _, _, rfl, rfl, rfl, (by exact (.drop (.drop (.drop (.drop (.drop (.drop .nil)))))))⟩))
            case h11 =>
              refine JL.nil ?_
              show JL _ _ [.val (PyData.int places), .val (eLX thing_2), slvI seen_2, .val (eLX part), .hole, .hole] _ _ _ _
              refine JL.xils (Γf := fun y => [.val (PyData.int places), .val (eLX thing_2), slvI seen_2, .val (eX y), .hole, .hole]) (mk := .list) fun part_3 => ?_
              show JL _ _ [.val (PyData.int places), .val (eLX thing_2), slvI seen_2, .val (eLI part_3), .hole, .hole] _ _ _ _
              refine JL.cons (JS.expr (JE.extendT (f := fun x => .val (PyData.int x)) (i := 2) rfl .lst (JE.var (i := 3) rfl ⟨_, _, seen_2, part_3, _, (.own (soL (xs := part_3) (e := PyData.int))), rfl, .lst, gd_ok, ?h12⟩)))
              refine JL.letv (Γf := fun seen_3 => [.val (PyData.int places), .val (eLX thing_2), slvI seen_3, .val (eLI part_3), .hole, .hole]) (seen_2 ++ part_3) fun seen_3 => ?_
              exact JL.nil ⟨seen_3, rfl, (.same (.same (.same (.drop (.drop (.drop .nil))))))⟩
          case h13 =>
            show JL _ _ [.val (PyData.int places), .val (eLX thing_2), slvI seen_2, .val (eWX part_4), .hole, .hole] _ _ _ _
            refine JL.cons (JS.ite (JC.all (m := (compL (fun x' _ => c_l_is_parting_28 x') part_4 ()).bind fun r_4 => cond (!r_4.1.isEmpty) (.ok true) (optR (xints part_4) fun part_5 => gd (part_5.length < 64) (.ok (!decide (part_5 = (sortSet part_5)))))) (by first | with_reducible rfl | rfl) (JC.bop (JW.or (JC.cmp (Cmp.neNil (f := svX) B.room.lines64 (JE.ofLc (own' := [("_law_one", 4)]) B.calm sc_l_is_parting.nd (blkOk_by (by kernel_rfl)) (JT.comp (JSrc.tup (JE.var (i := 3) rfl ⟨_, _, rfl, (soW (xs := part_4) (e := eX)), ⟨PyData, PyData, Unit, part_4, fun x => .val (eX x), fun x' _ => c_l_is_parting_28 x', (), fun _ => [.val (PyData.int places), .val (eLX thing_2), slvI seen_2, .val (eWX part_4), .hole, .hole], fun y => .val (eX y), _, rfl, rfl, Le.refl, ft, fun _ => (.hole rfl .nil), fun x_3 _ => ⟨[.val (PyData.int places), .val (eLX thing_2), slvI seen_2, .val (eWX part_4), .val (eX x_3), .hole], Le.refl, fun s H Ca cl fp => JG.name (i := 4) rfl sc_l_is_parting.nd, ((m_l_is_whole x_3).bind fun r_3 => .ok (!r_3, ()) : Res (Bool × Unit)), (fun _ => .ok (some x_3, ())), fun _ => [.val (PyData.int places), .val (eLX thing_2), slvI seen_2, .val (eWX part_4), .val (eX x_3), .hole], rfl, fun _ => Le.refl, fun s H Ca cl fp => JC.not (JC.val (JE.callN (h_l_is_whole m) (B.room.mono (by decide)) passN (JA.one (JE.var (i := 4) rfl (Args.plain x_3 _ [false] (.own .nil) rfl rfl rfl (fun e z => absurd z (m_l_is_whole_nex _ e)) fun r_3 _ => ⟨_, rfl, ⟨(), rfl, rfl⟩⟩))))), fun _ => fun s H Ca cl fp => JE.var (i := 4) rfl ⟨x_3, (), rfl, rfl, Le.refl⟩⟩, fun r_4 _ => ⟨_, rfl, JE.lstD (JA.nil ⟨[], rfl, Nat.le_of_ble_eq_true rfl, ⟨r_4.1, rfl, rfl, ⟨_, rfl, ⟨_, _, rfl, fun _ => ⟨rfl, rfl⟩, fun _ => JW.or1 (JC.xils (Γf := fun y => [.val (PyData.int places), .val (eLX thing_2), slvI seen_2, .val (eX y), .hole, .hole]) (mk := .tuple) fun part_5 => JC.cmp (Cmp.neT (e := eLI) (eokL eokI) (by decide) B.room (JE.listOf m.list (JE.var (i := 3) rfl ⟨true, _, (.own (soW (xs := part_5) (e := PyData.int))), ⟨.inl ⟨_, rfl⟩, JE.sortedSetW m.sorted m.set B.calm (JE.var (i := 3) rfl ⟨_, _, (.own (soW (xs := part_5) (e := PyData.int))), gd_ok, ⟨part_5, (sortSet part_5), (.own (.lst (.map fun _ => .val))), (.own (.lst (.map fun _ => .val))), ⟨_, rfl, ⟨rfl, ⟨rfl, rfl⟩⟩⟩⟩⟩)⟩⟩))))⟩⟩⟩⟩)⟩⟩⟩)))))))) fun c_3 _ => ⟨_, _, rfl, fun _ => ?h14, fun _ => ?h15⟩))
            case h14 =>
              exact JL.cons (JS.ret (JE.bl ⟨.rt false, _, _, rfl, rfl, rfl, (by exact (.drop (.drop (.drop (.drop (.drop (.drop .nil)))))))⟩))
            case h15 =>
              refine JL.nil ?_
              show JL _ _ [.val (PyData.int places), .val (eLX thing_2), slvI seen_2, .val (eWX part_4), .hole, .hole] _ _ _ _
              refine JL.xils (Γf := fun y => [.val (PyData.int places), .val (eLX thing_2), slvI seen_2, .val (eX y), .hole, .hole]) (mk := .tuple) fun part_6 => ?_
              show JL _ _ [.val (PyData.int places), .val (eLX thing_2), slvI seen_2, .val (eWI part_6), .hole, .hole] _ _ _ _
              refine JL.cons (JS.expr (JE.extendW (f := fun x => .val (PyData.int x)) (i := 2) rfl .lst (JE.var (i := 3) rfl ⟨_, _, seen_2, part_6, _, (.own (soW (xs := part_6) (e := PyData.int))), rfl, .lst, gd_ok, ?h16⟩)))
              refine JL.letv (Γf := fun seen_4 => [.val (PyData.int places), .val (eLX thing_2), slvI seen_4, .val (eWI part_6), .hole, .hole]) (seen_2 ++ part_6) fun seen_4 => ?_
              exact JL.nil ⟨seen_4, rfl, (.same (.same (.same (.drop (.drop (.drop .nil))))))⟩
      case h6 =>
        show JL _ _ [.val (PyData.int places), .val (eLX thing_2), slvI seen_5, .hole, .hole, .hole] _ _ _ _
        refine JL.cons (JS.ofLc (i := 5) (own' := [("_law_part", 3)]) B.calm sc_l_is_parting.nd (blkOk_by (by kernel_rfl)) (JT.comp (JSrc.lst (JE.var (i := 1) rfl ⟨_, _, rfl, (soL (xs := thing_2) (e := eX)), ⟨PyData, PyData, Unit, thing_2, fun x => .val (eX x), fun x' _ => c_l_is_parting_31 x', (), fun _ => [.val (PyData.int places), .val (eLX thing_2), slvI seen_5, .hole, .hole, .hole], fun y => .val (eX y), _, rfl, rfl, Le.refl, ft, fun _ => (.hole rfl .nil), fun x_4 _ => ⟨[.val (PyData.int places), .val (eLX thing_2), slvI seen_5, .val (eX x_4), .hole, .hole], Le.refl, fun s H Ca cl fp => JG.name (i := 3) rfl sc_l_is_parting.nd, fun s H Ca cl fp => JE.ixX (i := 3) (n := 0) rfl fun y => ⟨y, (), rfl, rfl, Le.refl⟩⟩, fun r_5 _ => ⟨_, rfl, Nat.le_of_ble_eq_true rfl, ?h17⟩⟩⟩))))
        show JL _ _ [.val (PyData.int places), .val (eLX thing_2), slvI seen_5, .hole, .hole, slvX r_5.1] _ _ _ _
        refine JL.xilsO (i := 5) (l := r_5.1) rfl fun firsts => ?_
        show JL _ _ [.val (PyData.int places), .val (eLX thing_2), slvI seen_5, .hole, .hole, slvI firsts] _ _ _ _
        exact JL.cons (JS.ret (JE.runV (m := gd (rngOk 0 places) (cond (decide ((sortD PyData.int seen_5) = (rangeL 0 places))) (.ok (decide (firsts = (sortD PyData.int firsts)))) (.ok false))) (f := fun b => .val (.bool b)) (Δ := fun _ => [.val (PyData.int places), .val (eLX thing_2), slvI seen_5, .hole, .hole, slvI firsts]) rfl (JE.and (JE.cmp (Cmp.eqT (e := eLI) (eokL eokI) (by decide) B.room (JE.sortedT (e := PyData.int) eokI srtI B.room m.sorted (JE.slot (i := 2) rfl ⟨_, (.at (i := 2) rfl (soM (xs := seen_5) (e := PyData.int))), ⟨.inl ⟨_, rfl⟩, JE.listRg B.calm m.list m.range (JE.var (i := 0) rfl ⟨_, rfl, gdI ⟨(sortD PyData.int seen_5), (rangeL 0 places), (.own (.lst (.map fun _ => .val))), (.own (.lst (.map fun _ => .val))), ⟨_, rfl, _, _, rfl, fun _ => JE.one (JE.tot (JE.cmp (Cmp.eqT (e := eLI) (eokL eokI) (by decide) B.room (JE.slot (i := 5) rfl ⟨.inr ⟨_, rfl⟩, JE.sortedT (e := PyData.int) eokI srtI B.room m.sorted (JE.slot (i := 5) rfl ⟨_, (.at (i := 5) rfl (soM (xs := firsts) (e := PyData.int))), ⟨firsts, (sortD PyData.int firsts), (.at (i := 5) rfl (.lst (.map fun _ => .val))), (.own (.lst (.map fun _ => .val))), ⟨rfl, rfl⟩⟩⟩)⟩))) ⟨_, rfl, rfl, rfl⟩), fun _ => ⟨_, rfl, rfl, rfl⟩⟩⟩⟩)⟩⟩))))) fun c_4 _ => ⟨c_4, _, _, rfl, rfl, rfl, (by exact (.drop (.drop (.drop (.drop (.drop (.drop .nil)))))))⟩))
  case h18 =>
    show JL _ _ [.val (PyData.int places), .val (eWX thing_3), slvI seen, .hole, .hole, .hole] _ _ _ _
    refine JL.cons (JS.ite (JC.tot (JCt.not (JCt.val (JE.isi2 m.isinstance m.list m.tuple (JE.var (i := 1) rfl ⟨.inl ⟨_, rfl⟩, _, _, (.own .val), any2 (isi_list _) (isi_tuple _), ⟨rfl, rfl⟩⟩)))) ⟨_, _, rfl, fun _ => ?h19, fun _ => ?h20⟩))
    case h19 =>
      exact JL.cons (JS.ret (JE.bl ⟨false, _, _, rfl, rfl, rfl, (by exact (.drop (.drop (.drop (.drop (.drop (.drop .nil)))))))⟩))
    case h20 =>
      refine JL.nil ?_
      show JL _ _ [.val (PyData.int places), .val (eWX thing_3), slvI seen, .hole, .hole, .hole] _ _ _ _
      refine JL.cons (JS.for_ B.own B.calm (JSrc.tup (JE.var (i := 1) rfl ⟨_, _, rfl, (soW (xs := thing_3) (e := eX)), ⟨PyData, List Int, thing_3, fun x => .val (eX x), fun x' t_8 => f_l_is_parting_60 x' t_8, seen, fun seen_6 => [.val (PyData.int places), .val (eWX thing_3), slvI seen_6, .hole, .hole, .hole], _, rfl, rfl, (.same (.same (.same (.drop (.drop (.drop .nil)))))), fun x_5 seen_6 => ?h21, fun seen_9 => ?h22⟩⟩)))
      case h21 =>
        refine JG.name (i := 3) ?_ sc_l_is_parting.nd
        show JL _ _ [.val (PyData.int places), .val (eWX thing_3), slvI seen_6, .val (eX x_5), .hole, .hole] _ _ _ _
        refine JL.cons (JS.ite (JC.all (m := cond (!(isLstD x_5 || isTupD x_5)) (.ok true) ((xseq x_5).bind fun xs_2 => .ok (decide ((xs_2.length : Int) = 0)))) (by first | with_reducible rfl | rfl) (JC.bop (JW.or (JC.tot (JCt.not (JCt.val (JE.isi2 m.isinstance m.list m.tuple (JE.var (i := 3) rfl ⟨.inl ⟨_, rfl⟩, _, _, (.own .val), any2 (isi_list _) (isi_tuple _), ⟨rfl, rfl⟩⟩)))) ⟨_, _, rfl, fun _ => ⟨rfl, rfl⟩, fun _ => JW.or1 (JC.cmp (Cmp.eqI (JE.lenX m.len (JE.var (i := 3) rfl ⟨x_5, _, rfl, rfl, fun xs_2 => ⟨_, rfl, JE.int ⟨_, rfl, ⟨_, rfl, ⟨rfl, rfl⟩⟩⟩⟩⟩))))⟩))) fun c_5 _ => ⟨_, _, rfl, fun _ => ?h23, fun _ => ?h24⟩))
        case h23 =>
          exact JL.cons (JS.ret (JE.bl ⟨.rt false, _, _, rfl, rfl, rfl, (by exact (.drop (.drop (.drop (.drop (.drop (.drop .nil)))))))⟩))
        case h24 =>
          refine JL.nil ?_
          show JL _ _ [.val (PyData.int places), .val (eWX thing_3), slvI seen_6, .val (eX x_5), .hole, .hole] _ _ _ _
          refine JL.xsplit (Γf := fun y => [.val (PyData.int places), .val (eWX thing_3), slvI seen_6, .val (eX y), .hole, .hole]) (fun part_7 => ?h25) (fun part_10 => ?h29)
          case h25 =>
            show JL _ _ [.val (PyData.int places), .val (eWX thing_3), slvI seen_6, .val (eLX part_7), .hole, .hole] _ _ _ _
            refine JL.cons (JS.ite (JC.all (m := (compL (fun x' _ => c_l_is_parting_45 x') part_7 ()).bind fun r_7 => cond (!r_7.1.isEmpty) (.ok true) (optR (xints part_7) fun part_8 => gd (part_8.length < 64) (.ok (!decide (part_8 = (sortSet part_8)))))) (by first | with_reducible rfl | rfl) (JC.bop (JW.or (JC.cmp (Cmp.neNil (f := svX) B.room.lines64 (JE.ofLc (own' := [("_law_one", 4)]) B.calm sc_l_is_parting.nd (blkOk_by (by kernel_rfl)) (JT.comp (JSrc.lst (JE.var (i := 3) rfl ⟨_, _, rfl, (soL (xs := part_7) (e := eX)), ⟨PyData, PyData, Unit, part_7, fun x => .val (eX x), fun x' _ => c_l_is_parting_45 x', (), fun _ => [.val (PyData.int places), .val (eWX thing_3), slvI seen_6, .val (eLX part_7), .hole, .hole], fun y => .val (eX y), _, rfl, rfl, Le.refl, ft, fun _ => (.hole rfl .nil), fun x_6 _ => ⟨[.val (PyData.int places), .val (eWX thing_3), slvI seen_6, .val (eLX part_7), .val (eX x_6), .hole], Le.refl, fun s H Ca cl fp => JG.name (i := 4) rfl sc_l_is_parting.nd, ((m_l_is_whole x_6).bind fun r_6 => .ok (!r_6, ()) : Res (Bool × Unit)), (fun _ => .ok (some x_6, ())), fun _ => [.val (PyData.int places), .val (eWX thing_3), slvI seen_6, .val (eLX part_7), .val (eX x_6), .hole], rfl, fun _ => Le.refl, fun s H Ca cl fp => JC.not (JC.val (JE.callN (h_l_is_whole m) (B.room.mono (by decide)) passN (JA.one (JE.var (i := 4) rfl (Args.plain x_6 _ [false] (.own .nil) rfl rfl rfl (fun e z => absurd z (m_l_is_whole_nex _ e)) fun r_6 _ => ⟨_, rfl, ⟨(), rfl, rfl⟩⟩))))), fun _ => fun s H Ca cl fp => JE.var (i := 4) rfl ⟨x_6, (), rfl, rfl, Le.refl⟩⟩, fun r_7 _ => ⟨_, rfl, JE.lstD (JA.nil ⟨[], rfl, Nat.le_of_ble_eq_true rfl, ⟨r_7.1, rfl, rfl, ⟨_, rfl, ⟨_, _, rfl, fun _ => ⟨rfl, rfl⟩, fun _ => JW.or1 (JC.xils (Γf := fun y => [.val (PyData.int places), .val (eWX thing_3), slvI seen_6, .val (eX y), .hole, .hole]) (mk := .list) fun part_8 => JC.cmp (Cmp.neT (e := eLI) (eokL eokI) (by decide) B.room (JE.listOf m.list (JE.var (i := 3) rfl ⟨false, _, (.own (soL (xs := part_8) (e := PyData.int))), ⟨.inl ⟨_, rfl⟩, JE.sortedSet m.sorted m.set B.calm (JE.var (i := 3) rfl ⟨_, _, (.own (soL (xs := part_8) (e := PyData.int))), gd_ok, ⟨part_8, (sortSet part_8), (.own (.lst (.map fun _ => .val))), (.own (.lst (.map fun _ => .val))), ⟨_, rfl, ⟨rfl, ⟨rfl, rfl⟩⟩⟩⟩⟩)⟩⟩))))⟩⟩⟩⟩)⟩⟩⟩)))))))) fun c_6 _ => ⟨_, _, rfl, fun _ => ?h26, fun _ => ?h27⟩))
            case h26 =>
              exact JL.cons (JS.ret (JE.bl ⟨.rt false, _, _, rfl, rfl, rfl, (by exact (.drop (.drop (.drop (.drop (.drop (.drop .nil)))))))⟩))
            case h27 =>
              refine JL.nil ?_
              show JL _ _ [.val (PyData.int places), .val (eWX thing_3), slvI seen_6, .val (eLX part_7), .hole, .hole] _ _ _ _
              refine JL.xils (Γf := fun y => [.val (PyData.int places), .val (eWX thing_3), slvI seen_6, .val (eX y), .hole, .hole]) (mk := .list) fun part_9 => ?_
              show JL _ _ [.val (PyData.int places), .val (eWX thing_3), slvI seen_6, .val (eLI part_9), .hole, .hole] _ _ _ _
              refine JL.cons (JS.expr (JE.extendT (f := fun x => .val (PyData.int x)) (i := 2) rfl .lst (JE.var (i := 3) rfl ⟨_, _, seen_6, part_9, _, (.own (soL (xs := part_9) (e := PyData.int))), rfl, .lst, gd_ok, ?h28⟩)))
              refine JL.letv (Γf := fun seen_7 => [.val (PyData.int places), .val (eWX thing_3), slvI seen_7, .val (eLI part_9), .hole, .hole]) (seen_6 ++ part_9) fun seen_7 => ?_
              exact JL.nil ⟨seen_7, rfl, (.same (.same (.same (.drop (.drop (.drop .nil))))))⟩
          case h29 =>
            show JL _ _ [.val (PyData.int places), .val (eWX thing_3), slvI seen_6, .val (eWX part_10), .hole, .hole] _ _ _ _
            refine JL.cons (JS.ite (JC.all (m := (compL (fun x' _ => c_l_is_parting_59 x') part_10 ()).bind fun r_9 => cond (!r_9.1.isEmpty) (.ok true) (optR (xints part_10) fun part_11 => gd (part_11.length < 64) (.ok (!decide (part_11 = (sortSet part_11)))))) (by first | with_reducible rfl | rfl) (JC.bop (JW.or (JC.cmp (Cmp.neNil (f := svX) B.room.lines64 (JE.ofLc (own' := [("_law_one", 4)]) B.calm sc_l_is_parting.nd (blkOk_by (by kernel_rfl)) (JT.comp (JSrc.tup (JE.var (i := 3) rfl ⟨_, _, rfl, (soW (xs := part_10) (e := eX)), ⟨PyData, PyData, Unit, part_10, fun x => .val (eX x), fun x' _ => c_l_is_parting_59 x', (), fun _ => [.val (PyData.int places), .val (eWX thing_3), slvI seen_6, .val (eWX part_10), .hole, .hole], fun y => .val (eX y), _, rfl, rfl, Le.refl, ft, fun _ => (.hole rfl .nil), fun x_7 _ => ⟨[.val (PyData.int places), .val (eWX thing_3), slvI seen_6, .val (eWX part_10), .val (eX x_7), .hole], Le.refl, fun s H Ca cl fp => JG.name (i := 4) rfl sc_l_is_parting.nd, ((m_l_is_whole x_7).bind fun r_8 => .ok (!r_8, ()) : Res (Bool × Unit)), (fun _ => .ok (some x_7, ())), fun _ => [.val (PyData.int places), .val (eWX thing_3), slvI seen_6, .val (eWX part_10), .val (eX x_7), .hole], rfl, fun _ => Le.refl, fun s H Ca cl fp => JC.not (JC.val (JE.callN (h_l_is_whole m) (B.room.mono (by decide)) passN (JA.one (JE.var (i := 4) rfl (Args.plain x_7 _ [false] (.own .nil) rfl rfl rfl (fun e z => absurd z (m_l_is_whole_nex _ e)) fun r_8 _ => ⟨_, rfl, ⟨(), rfl, rfl⟩⟩))))), fun _ => fun s H Ca cl fp => JE.var (i := 4) rfl ⟨x_7, (), rfl, rfl, Le.refl⟩⟩, fun r_9 _ => ⟨_, rfl, JE.lstD (JA.nil ⟨[], rfl, Nat.le_of_ble_eq_true rfl, ⟨r_9.1, rfl, rfl, ⟨_, rfl, ⟨_, _, rfl, fun _ => ⟨rfl, rfl⟩, fun _ => JW.or1 (JC.xils (Γf := fun y => [.val (PyData.int places), .val (eWX thing_3), slvI seen_6, .val (eX y), .hole, .hole]) (mk := .tuple) fun part_11 => JC.cmp (Cmp.neT (e := eLI) (eokL eokI) (by decide) B.room (JE.listOf m.list (JE.var (i := 3) rfl ⟨true, _, (.own (soW (xs := part_11) (e := PyData.int))), ⟨.inl ⟨_, rfl⟩, JE.sortedSetW m.sorted m.set B.calm (JE.var (i := 3) rfl ⟨_, _, (.own (soW (xs := part_11) (e := PyData.int))), gd_ok, ⟨part_11, (sortSet part_11), (.own (.lst (.map fun _ => .val))), (.own (.lst (.map fun _ => .val))), ⟨_, rfl, ⟨rfl, ⟨rfl, rfl⟩⟩⟩⟩⟩)⟩⟩))))⟩⟩⟩⟩)⟩⟩⟩)))))))) fun c_7 _ => ⟨_, _, rfl, fun _ => ?h30, fun _ => ?h31⟩))
            case h30 =>
              exact JL.cons (JS.ret (JE.bl ⟨.rt false, _, _, rfl, rfl, rfl, (by exact (.drop (.drop (.drop (.drop (.drop (.drop .nil)))))))⟩))
            case h31 =>
              refine JL.nil ?_
              show JL _ _ [.val (PyData.int places), .val (eWX thing_3), slvI seen_6, .val (eWX part_10), .hole, .hole] _ _ _ _
              refine JL.xils (Γf := fun y => [.val (PyData.int places), .val (eWX thing_3), slvI seen_6, .val (eX y), .hole, .hole]) (mk := .tuple) fun part_12 => ?_
              show JL _ _ [.val (PyData.int places), .val (eWX thing_3), slvI seen_6, .val (eWI part_12), .hole, .hole] _ _ _ _
              refine JL.cons (JS.expr (JE.extendW (f := fun x => .val (PyData.int x)) (i := 2) rfl .lst (JE.var (i := 3) rfl ⟨_, _, seen_6, part_12, _, (.own (soW (xs := part_12) (e := PyData.int))), rfl, .lst, gd_ok, ?h32⟩)))
              refine JL.letv (Γf := fun seen_8 => [.val (PyData.int places), .val (eWX thing_3), slvI seen_8, .val (eWI part_12), .hole, .hole]) (seen_6 ++ part_12) fun seen_8 => ?_
              exact JL.nil ⟨seen_8, rfl, (.same (.same (.same (.drop (.drop (.drop .nil))))))⟩
      case h22 =>
        show JL _ _ [.val (PyData.int places), .val (eWX thing_3), slvI seen_9, .hole, .hole, .hole] _ _ _ _
        refine JL.cons (JS.ofLc (i := 5) (own' := [("_law_part", 3)]) B.calm sc_l_is_parting.nd (blkOk_by (by kernel_rfl)) (JT.comp (JSrc.tup (JE.var (i := 1) rfl ⟨_, _, rfl, (soW (xs := thing_3) (e := eX)), ⟨PyData, PyData, Unit, thing_3, fun x => .val (eX x), fun x' _ => c_l_is_parting_62 x', (), fun _ => [.val (PyData.int places), .val (eWX thing_3), slvI seen_9, .hole, .hole, .hole], fun y => .val (eX y), _, rfl, rfl, Le.refl, ft, fun _ => (.hole rfl .nil), fun x_8 _ => ⟨[.val (PyData.int places), .val (eWX thing_3), slvI seen_9, .val (eX x_8), .hole, .hole], Le.refl, fun s H Ca cl fp => JG.name (i := 3) rfl sc_l_is_parting.nd, fun s H Ca cl fp => JE.ixX (i := 3) (n := 0) rfl fun y_2 => ⟨y_2, (), rfl, rfl, Le.refl⟩⟩, fun r_10 _ => ⟨_, rfl, Nat.le_of_ble_eq_true rfl, ?h33⟩⟩⟩))))
        show JL _ _ [.val (PyData.int places), .val (eWX thing_3), slvI seen_9, .hole, .hole, slvX r_10.1] _ _ _ _
        refine JL.xilsO (i := 5) (l := r_10.1) rfl fun firsts_2 => ?_
        show JL _ _ [.val (PyData.int places), .val (eWX thing_3), slvI seen_9, .hole, .hole, slvI firsts_2] _ _ _ _
        exact JL.cons (JS.ret (JE.runV (m := gd (rngOk 0 places) (cond (decide ((sortD PyData.int seen_9) = (rangeL 0 places))) (.ok (decide (firsts_2 = (sortD PyData.int firsts_2)))) (.ok false))) (f := fun b => .val (.bool b)) (Δ := fun _ => [.val (PyData.int places), .val (eWX thing_3), slvI seen_9, .hole, .hole, slvI firsts_2]) rfl (JE.and (JE.cmp (Cmp.eqT (e := eLI) (eokL eokI) (by decide) B.room (JE.sortedT (e := PyData.int) eokI srtI B.room m.sorted (JE.slot (i := 2) rfl ⟨_, (.at (i := 2) rfl (soM (xs := seen_9) (e := PyData.int))), ⟨.inl ⟨_, rfl⟩, JE.listRg B.calm m.list m.range (JE.var (i := 0) rfl ⟨_, rfl, gdI ⟨(sortD PyData.int seen_9), (rangeL 0 places), (.own (.lst (.map fun _ => .val))), (.own (.lst (.map fun _ => .val))), ⟨_, rfl, _, _, rfl, fun _ => JE.one (JE.tot (JE.cmp (Cmp.eqT (e := eLI) (eokL eokI) (by decide) B.room (JE.slot (i := 5) rfl ⟨.inr ⟨_, rfl⟩, JE.sortedT (e := PyData.int) eokI srtI B.room m.sorted (JE.slot (i := 5) rfl ⟨_, (.at (i := 5) rfl (soM (xs := firsts_2) (e := PyData.int))), ⟨firsts_2, (sortD PyData.int firsts_2), (.at (i := 5) rfl (.lst (.map fun _ => .val))), (.own (.lst (.map fun _ => .val))), ⟨rfl, rfl⟩⟩⟩)⟩))) ⟨_, rfl, rfl, rfl⟩), fun _ => ⟨_, rfl, rfl, rfl⟩⟩⟩⟩)⟩⟩))))) fun c_8 _ => ⟨c_8, _, _, rfl, rfl, rfl, (by exact (.drop (.drop (.drop (.drop (.drop (.drop .nil)))))))⟩))
  case h34 =>
    show JL _ _ [.val (PyData.int places), .val (eX thing), slvI seen, .hole, .hole, .hole] _ _ _ _
    refine JL.cons (JS.ite (JC.tot (JCt.not (JCt.val (JE.isi2 m.isinstance m.list m.tuple (JE.var (i := 1) rfl ⟨.inl ⟨_, rfl⟩, _, _, (.own .val), any2 (isi_list _) (isi_tuple _), ⟨rfl, rfl⟩⟩)))) ⟨_, _, rfl, fun _ => ?h35, fun _ => ?h36⟩))
    case h35 =>
      exact JL.cons (JS.ret (JE.bl ⟨false, _, _, rfl, rfl, rfl, (by exact (.drop (.drop (.drop (.drop (.drop (.drop .nil)))))))⟩))
    case h36 =>
      refine JL.nil ?_
      show JL _ _ [.val (PyData.int places), .val (eX thing), slvI seen, .hole, .hole, .hole] _ _ _ _
      exact JST.un rfl
end
theorem h_l_is_parting {X : Cx} (m : Md X.K X.mg) : Has X "_law_is_parting" 2 (fun a : Int × PyData => [.val (PyData.int a.1), .val (eX a.2)]) (fun a => m_l_is_parting a.1 a.2) (fun _ r => .val (PyData.bool r)) (fun _ r => [.hole, .hole]) (fun _ => [.hole, .hole]) :=
  has_of (ps := ["_law_places", "_law_thing"]) m.f_l_is_parting (fun f fd F => g_l_is_parting F m) (fun f fd F => F.bindsN fun _ _ _ _ _ _ us hl => match us, hl with | [_, _], _ => rfl) (fun _ _ => .val) (fun _ _ => (.cons .hole (.cons .hole .nil))) (fun _ => (.cons .hole (.cons .hole .nil))) (fun a e h => absurd h (m_l_is_parting_nex _ _ e))
def m_other_part (pot_here : Int × Int) (part : PyData) (places : Int) : Res (PyData × (Int × Int)) := xsplit part (fun part_2 => (m_take pot_here 9).bind fun r => (m_take r.2 places).bind fun r_2 => (m_take r_2.2 (max 1 (part_2.length : Int))).bind fun r_3 => (m_take r_3.2 8).bind fun r_4 => (idx [(eN ()), (PyData.str ("0" : PySem.Str)), (eWI [0]), (eLI [0]), (PyData.int (-1)), (PyData.bool true), (PyData.bool false), (.dict [])] r_4.1).bind fun x => cond (decide (r.1 = 0)) ((m_take r_4.2 8).bind fun r_5 => (idx [(eLU ([] : List Unit)), (eWU ([] : List Unit)), (eN ()), (PyData.int 0), (PyData.str ("0" : PySem.Str)), (.dict []), (PyData.bool true), (eLLU [([] : List Unit)])] r_5.1).bind fun x_2 => .ok (x_2, r_5.2)) (cond (decide (r.1 = 1)) (.ok ((eLX part_2.reverse), r_4.2)) (cond (decide (r.1 = 2)) (.ok ((eWX part_2), r_4.2)) (cond (decide (r.1 = 3)) (gd (part_2.length + (cutG part_2 none (some 1)).length ≤ 16000000) (.ok ((eLX (part_2 ++ (cutG part_2 none (some 1)))), r_4.2))) (cond (decide (r.1 = 4)) (gd ((cutG part_2 none (some r_3.1)).length + ([r_2.1].map PyData.int).length ≤ 16000000) (gd (((cutG part_2 none (some r_3.1)) ++ ([r_2.1].map PyData.int)).length + (cutG part_2 (some r_3.1) none).length ≤ 16000000) (.ok ((eLX (((cutG part_2 none (some r_3.1)) ++ ([r_2.1].map PyData.int)) ++ (cutG part_2 (some r_3.1) none))), r_4.2)))) (cond ((decide (r.1 = 5)) && (decide (0 < (part_2.length : Int)))) (gd ((cutG part_2 none (some r_3.1)).length + (cutG part_2 (some (r_3.1 + 1)) none).length ≤ 16000000) (.ok ((eLX ((cutG part_2 none (some r_3.1)) ++ (cutG part_2 (some (r_3.1 + 1)) none))), r_4.2))) ((idx [(PyData.int r_2.1), (PyData.int places), x] (r.1 % 3)).bind fun x_3 => gd ((cutG part_2 none (some r_3.1)).length + [x_3].length ≤ 16000000) (gd (((cutG part_2 none (some r_3.1)) ++ [x_3]).length + (cutG part_2 (some (r_3.1 + 1)) none).length ≤ 16000000) (.ok ((eLX (((cutG part_2 none (some r_3.1)) ++ [x_3]) ++ (cutG part_2 (some (r_3.1 + 1)) none))), r_4.2)))))))))) (fun _ => .un)
theorem m_other_part_nex (pot_here : Int × Int) (part : PyData) (places : Int) : ∀ e, m_other_part pot_here part places ≠ .ex e := nex_xsplit (fun _ => nex_bind (m_take_nex _ _) fun _ => nex_bind (m_take_nex _ _) fun _ => nex_bind (m_take_nex _ _) fun _ => nex_bind (m_take_nex _ _) fun _ => nex_bind idx_nex fun _ => nex_cond (nex_bind (m_take_nex _ _) fun _ => nex_bind idx_nex fun _ => nex_ok) (nex_cond (nex_ok) (nex_cond (nex_ok) (nex_cond (nex_gd (nex_ok)) (nex_cond (nex_gd (nex_gd (nex_ok))) (nex_cond (nex_gd (nex_ok)) (nex_bind idx_nex fun _ => nex_gd (nex_gd (nex_ok))))))))) (fun _ => nex_un)
theorem sc_other_part : FnScope ["_law_pot_here", "_law_part", "_law_places", "_law_way", "_law_other_here", "_law_spot", "_law_odd"] ["_law_pot_here", "_law_part", "_law_places"] (defScope s_other_part) := ⟨rfl, rfl, rfl, by decide +kernel, rfl, by decide +kernel, by decide +kernel⟩
section
variable {P : Program} {w : World} {K : PySem.W.Frag} {mg : Str → Option Value} {base : Heap} {f : Addr} {fd : FuncData}
theorem g_other_part (F : FnP K "_law_other_part" s_other_part f fd) (m : Md K mg) : FnG P w K mg base 2 f fd ["_law_pot_here", "_law_part", "_law_places"] (SpM K (fun a : (Int × Int) × PyData × Int => [potS a.1, .val (eX a.2.1), .val (PyData.int a.2.2)]) (fun a => m_other_part a.1 a.2.1 a.2.2) (fun _ r => .val (eX r.1)) (fun _ r => [potS r.2, .hole, .hole]) (fun _ => [.hole, .hole, .hole])) := by
  refine fnG_of (n := 4) F sc_other_part (fun _ => rfl) rfl (fun _ _ => .val) (fun _ _ => (.cons nr_pot (.cons .hole (.cons .hole .nil)))) (fun _ => (.cons .hole (.cons .hole (.cons .hole .nil)))) (fun a e h => absurd h (m_other_part_nex _ _ _ e)) fun cdv A outer s H vs E G a hvs B => ?_
  obtain ⟨pot_here, part, places⟩ := a
  match vs, hvs with
  | [v0, _, _], _ => ?_
  refine ⟨[.pin v0 (potS pot_here), .val (eX part), .val (PyData.int places)], [.hole, .hole, .hole, .hole, .hole, .hole, .hole], fun r => [.pin v0 (potS r.2), .hole, .hole, .hole, .hole, .hole, .hole], (.pin (.keep (.keep .nil))), fun _ => (.pin (.hole (.hole .nil))), (.hole (.hole (.hole .nil))), ?_⟩
  show JL _ _ [.pin v0 (potS pot_here), .val (eX part), .val (PyData.int places), .hole, .hole, .hole, .hole] _ _ _ _
  refine JL.xsplit (Γf := fun y => [.pin v0 (potS pot_here), .val (eX y), .val (PyData.int places), .hole, .hole, .hole, .hole]) (fun part_2 => ?h1) (fun _ => ?h2)
  case h1 =>
    show JL _ _ [.pin v0 (potS pot_here), .val (eLX part_2), .val (PyData.int places), .hole, .hole, .hole, .hole] _ _ _ _
    refine JL.cons (JS.set (i := 3) sc_other_part.nd (JE.callN (h_take m) (B.room.mono (by decide)) B.pass (JA.cons (pt := false) (JE.slot (i := 0) rfl ⟨.inr (.inl ⟨_, rfl⟩), fun z => z, JA.one (JE.int ⟨(pot_here, 9), _, [true, false], _, _, _, (.cons rfl .pin .nil), (.inout (.own .nil)), (List.append_nil _).symm, rfl, fun e z => absurd z (m_take_nex _ _ e), ft, fun r _ => ⟨_, rfl, Nat.le_of_ble_eq_true rfl, ?h3⟩⟩)⟩))))
    show JL _ _ [.pin v0 (potS r.2), .val (eLX part_2), .val (PyData.int places), .val (PyData.int r.1), .hole, .hole, .hole] _ _ _ _
    refine JL.cons (JS.par (i := 4) (j := 5) B.calm sc_other_part.nd (JE.callN (h_take m) (B.room.mono (by decide)) B.pass (JA.cons (pt := false) (JE.slot (i := 0) rfl ⟨.inr (.inl ⟨_, rfl⟩), fun z => z, JA.one (JE.var (i := 2) rfl ⟨(r.2, places), _, [true, false], _, _, _, (.cons rfl .pin .nil), (.inout (.own .nil)), (List.append_nil _).symm, rfl, fun e z => absurd z (m_take_nex _ _ e), ft, fun r_2 _ => ⟨_, rfl, JE.callN (h_take m) (B.room.mono (by decide)) B.pass (JA.cons (pt := false) (JE.slot (i := 0) rfl ⟨.inr (.inl ⟨_, rfl⟩), fun z => z, JA.one (JE.max2 B.calm m.max (JE.int ⟨_, rfl, JE.len m.len (JE.var (i := 1) rfl ⟨part_2.length, (.seq (.own (soL (xs := part_2) (e := eX))) (List.length_map _)), ⟨_, rfl, ⟨(r_2.2, (max 1 (part_2.length : Int))), _, [true, false], _, _, _, (.cons rfl .pin .nil), (.inout (.own .nil)), (List.append_nil _).symm, rfl, fun e z => absurd z (m_take_nex _ _ e), ft, fun r_3 _ => ⟨_, rfl, Nat.le_of_ble_eq_true rfl, Nat.le_of_ble_eq_true rfl, ?h4⟩⟩⟩⟩)⟩))⟩))⟩⟩)⟩))))
    show JL _ _ [.pin v0 (potS r_3.2), .val (eLX part_2), .val (PyData.int places), .val (PyData.int r.1), .val (PyData.int r_2.1), .val (PyData.int r_3.1), .hole] _ _ _ _
    refine JL.cons (JS.set (i := 6) sc_other_part.nd (JE.ixE (f := fun x => .val (eX x)) (t := false) (JE.lstD (JA.cons (pt := false) (?_)))))
    refine JE.non ⟨.inl ⟨_, rfl⟩, fun z => z, JA.cons (pt := false) (?_)⟩
    refine JE.str ⟨.inl ⟨_, rfl⟩, fun z => z, JA.cons (pt := false) (?_)⟩
    refine JT.frz (JE.tupD (JA.one (JE.int ⟨[_], rfl, Nat.le_of_ble_eq_true rfl, _, _, rfl, .tup (.cons .val .nil), ⟨.inl ⟨_, rfl⟩, fun z => z, JA.cons (pt := false) (?_)⟩⟩)))
    refine JT.frz (JE.lstD (JA.one (JE.int ⟨[_], rfl, Nat.le_of_ble_eq_true rfl, ⟨_, _, rfl, (.lst (.cons .val .nil)), ⟨.inl ⟨_, rfl⟩, fun z => z, JA.cons (pt := false) (?_)⟩⟩⟩)))
    refine JE.neg (JE.int ⟨_, rfl, ⟨.inl ⟨_, rfl⟩, fun z => z, JA.cons (pt := false) (?_)⟩⟩)
    refine JE.bl ⟨.inl ⟨_, rfl⟩, fun z => z, JA.cons (pt := false) (?_)⟩
    refine JE.bl ⟨.inl ⟨_, rfl⟩, fun z => z, JA.one (?_)⟩
    refine JT.frz (JE.dnew ⟨_, _, rfl, .dct0, ⟨[_, _, _, _, _, _, _, _], rfl, Nat.le_of_ble_eq_true rfl, ⟨.inl ⟨_, rfl⟩, JE.callN (h_take m) (B.room.mono (by decide)) B.pass (JA.cons (pt := false) (JE.slot (i := 0) rfl ⟨.inr (.inl ⟨_, rfl⟩), fun z => z, JA.one (JE.int ⟨(r_3.2, 8), _, [true, false], _, _, _, (.cons rfl .pin .nil), (.inout (.own .nil)), (List.append_nil _).symm, rfl, fun e z => absurd z (m_take_nex _ _ e), ft, fun r_4 _ => ⟨_, rfl, _, _, (.own (soM (xs := [(eN ()), (PyData.str ("0" : PySem.Str)), (eWI [0]), (eLI [0]), (PyData.int (-1)), (PyData.bool true), (PyData.bool false), (.dict [])]) (e := eX))), rfl, fun x _ => ⟨_, rfl, Nat.le_of_ble_eq_true rfl, ?h5⟩⟩⟩)⟩))⟩⟩⟩)
    show JL _ _ [.pin v0 (potS r_4.2), .val (eLX part_2), .val (PyData.int places), .val (PyData.int r.1), .val (PyData.int r_2.1), .val (PyData.int r_3.1), .val (eX x)] _ _ _ _
    refine JL.cons (JS.ite (JC.tot (JCt.cmp (Cmp.eqI (JE.var (i := 3) rfl ⟨_, rfl, JE.int ⟨_, rfl, ⟨rfl, rfl⟩⟩⟩))) ⟨_, _, rfl, fun _ => ?h6, fun _ => ?h7⟩))
    case h6 =>
      refine JL.cons (JS.ret (JE.ixE (f := fun x => .val (eX x)) (t := false) (JE.lstD (JA.cons (pt := false) (?_)))))
      refine JT.frz (JE.lstD (JA.nil ⟨[], rfl, Nat.le_of_ble_eq_true rfl, ⟨_, _, rfl, (.lst .nil), ⟨.inl ⟨_, rfl⟩, fun z => z, JA.cons (pt := false) (?_)⟩⟩⟩))
      refine JT.frz (JE.tupD (JA.nil ⟨[], rfl, Nat.le_of_ble_eq_true rfl, _, _, rfl, .tup .nil, ⟨.inl ⟨_, rfl⟩, fun z => z, JA.cons (pt := false) (?_)⟩⟩))
      refine JE.non ⟨.inl ⟨_, rfl⟩, fun z => z, JA.cons (pt := false) (?_)⟩
      refine JE.int ⟨.inl ⟨_, rfl⟩, fun z => z, JA.cons (pt := false) (?_)⟩
      refine JE.str ⟨.inl ⟨_, rfl⟩, fun z => z, JA.cons (pt := false) (?_)⟩
      refine JT.frz (JE.dnew ⟨_, _, rfl, .dct0, ⟨.inl ⟨_, rfl⟩, fun z => z, JA.cons (pt := false) (?_)⟩⟩)
      refine JE.bl ⟨.inl ⟨_, rfl⟩, fun z => z, JA.one (?_)⟩
      refine JT.frz (JE.lstD (JA.one (JT.frz (JE.lstD (JA.nil ⟨[], rfl, Nat.le_of_ble_eq_true rfl, ⟨_, _, rfl, (.lst .nil), ⟨[_], rfl, Nat.le_of_ble_eq_true rfl, ⟨_, _, rfl, (.lst (.cons .val .nil)), ⟨[_, _, _, _, _, _, _, _], rfl, Nat.le_of_ble_eq_true rfl, ⟨.inl ⟨_, rfl⟩, JE.callN (h_take m) (B.room.mono (by decide)) B.pass (JA.cons (pt := false) (JE.slot (i := 0) rfl ⟨.inr (.inl ⟨_, rfl⟩), fun z => z, JA.one (JE.int ⟨(r_4.2, 8), _, [true, false], _, _, _, (.cons rfl .pin .nil), (.inout (.own .nil)), (List.append_nil _).symm, rfl, fun e z => absurd z (m_take_nex _ _ e), ft, fun r_5 _ => ⟨_, rfl, _, _, (.own (soM (xs := [(eLU ([] : List Unit)), (eWU ([] : List Unit)), (eN ()), (PyData.int 0), (PyData.str ("0" : PySem.Str)), (.dict []), (PyData.bool true), (eLLU [([] : List Unit)])]) (e := eX))), rfl, fun x_2 _ => ⟨(x_2, r_5.2), _, _, rfl, rfl, rfl, (by exact (.same (.drop (.drop (.drop (.drop (.drop (.drop .nil))))))))⟩⟩⟩)⟩))⟩⟩⟩⟩⟩⟩)))))
    case h7 =>
      refine JL.nil ?_
      show JL _ _ [.pin v0 (potS r_4.2), .val (eLX part_2), .val (PyData.int places), .val (PyData.int r.1), .val (PyData.int r_2.1), .val (PyData.int r_3.1), .val (eX x)] _ _ _ _
      refine JL.cons (JS.ite (JC.tot (JCt.cmp (Cmp.eqI (JE.var (i := 3) rfl ⟨_, rfl, JE.int ⟨_, rfl, ⟨rfl, rfl⟩⟩⟩))) ⟨_, _, rfl, fun _ => ?h8, fun _ => ?h9⟩))
      case h8 =>
        exact JL.cons (JS.ret (JT.frz (JE.revLT (f := fun x => .val (eX x)) (JE.var (i := 1) rfl ⟨.inl ⟨_, rfl⟩, _, (.own (soL (xs := part_2) (e := eX))), ⟨_, _, rfl, (.lst (.map fun _ => .val)), ⟨((eLX part_2.reverse), r_4.2), _, _, rfl, rfl, rfl, (by exact (.same (.drop (.drop (.drop (.drop (.drop (.drop .nil))))))))⟩⟩⟩))))
      case h9 =>
        refine JL.nil ?_
        show JL _ _ [.pin v0 (potS r_4.2), .val (eLX part_2), .val (PyData.int places), .val (PyData.int r.1), .val (PyData.int r_2.1), .val (PyData.int r_3.1), .val (eX x)] _ _ _ _
        refine JL.cons (JS.ite (JC.tot (JCt.cmp (Cmp.eqI (JE.var (i := 3) rfl ⟨_, rfl, JE.int ⟨_, rfl, ⟨rfl, rfl⟩⟩⟩))) ⟨_, _, rfl, fun _ => ?h10, fun _ => ?h11⟩))
        case h10 =>
          exact JL.cons (JS.ret (JT.frz (JE.tupleL m.tuple (JE.var (i := 1) rfl ⟨_, (.own (soL (xs := part_2) (e := eX))), _, _, rfl, .tup (.map fun _ => .val), ⟨((eWX part_2), r_4.2), _, _, rfl, rfl, rfl, by exact (.same (.drop (.drop (.drop (.drop (.drop (.drop .nil)))))))⟩⟩))))
        case h11 =>
          refine JL.nil ?_
          show JL _ _ [.pin v0 (potS r_4.2), .val (eLX part_2), .val (PyData.int places), .val (PyData.int r.1), .val (PyData.int r_2.1), .val (PyData.int r_3.1), .val (eX x)] _ _ _ _
          refine JL.cons (JS.ite (JC.tot (JCt.cmp (Cmp.eqI (JE.var (i := 3) rfl ⟨_, rfl, JE.int ⟨_, rfl, ⟨rfl, rfl⟩⟩⟩))) ⟨_, _, rfl, fun _ => ?h12, fun _ => ?h13⟩))
          case h12 =>
            exact JL.cons (JS.ret (JT.frz (JE.catT (f := fun x => .val (eX x)) (JE.var (i := 1) rfl ⟨.inl ⟨_, rfl⟩, JE.sliceLT (f := fun x => .val (eX x)) (JE.var (i := 1) rfl ⟨.inl ⟨_, rfl⟩, _, _, _, (.own (soL (xs := part_2) (e := eX))), .no, (.at (JE.int ⟨rfl, rfl⟩)), ⟨_, _, _, (.own (soL (xs := part_2) (e := eX))), (.own (soM (xs := (cutG part_2 none (some 1))) (e := eX))), gd_ok, ⟨_, _, rfl, (.lst (.map fun _ => .val)), ⟨((eLX (part_2 ++ (cutG part_2 none (some 1)))), r_4.2), _, _, rfl, rfl, rfl, (by exact (.same (.drop (.drop (.drop (.drop (.drop (.drop .nil))))))))⟩⟩⟩⟩)⟩))))
          case h13 =>
            refine JL.nil ?_
            show JL _ _ [.pin v0 (potS r_4.2), .val (eLX part_2), .val (PyData.int places), .val (PyData.int r.1), .val (PyData.int r_2.1), .val (PyData.int r_3.1), .val (eX x)] _ _ _ _
            refine JL.cons (JS.ite (JC.tot (JCt.cmp (Cmp.eqI (JE.var (i := 3) rfl ⟨_, rfl, JE.int ⟨_, rfl, ⟨rfl, rfl⟩⟩⟩))) ⟨_, _, rfl, fun _ => ?h14, fun _ => ?h15⟩))
            case h14 =>
              exact JL.cons (JS.ret (JT.frz (JE.catT (f := fun x => .val (eX x)) (JE.catT (f := fun x => .val (eX x)) (JE.sliceLT (f := fun x => .val (eX x)) (JE.var (i := 1) rfl ⟨.inl ⟨_, rfl⟩, _, _, _, (.own (soL (xs := part_2) (e := eX))), .no, (.at (JE.var (i := 5) rfl ⟨rfl, rfl⟩)), ⟨.inl ⟨_, rfl⟩, JE.same (JE.lstD (JA.one (JE.var (i := 4) rfl ⟨[_], rfl, Nat.le_of_ble_eq_true rfl, ⟨_, congrArg Opd.own (lstX (f := PyData.int) (xs := [r_2.1])), ⟨_, _, _, (.own (soM (xs := (cutG part_2 none (some r_3.1))) (e := eX))), (.own (soM (xs := ([r_2.1].map PyData.int)) (e := eX))), gd_ok, ⟨.inl ⟨_, rfl⟩, JE.sliceLT (f := fun x => .val (eX x)) (JE.var (i := 1) rfl ⟨.inl ⟨_, rfl⟩, _, _, _, (.own (soL (xs := part_2) (e := eX))), (.at (JE.var (i := 5) rfl ⟨rfl, rfl⟩)), .no, ⟨_, _, _, (.own (soM (xs := ((cutG part_2 none (some r_3.1)) ++ ([r_2.1].map PyData.int))) (e := eX))), (.own (soM (xs := (cutG part_2 (some r_3.1) none)) (e := eX))), gd_ok, ⟨_, _, rfl, (.lst (.map fun _ => .val)), ⟨((eLX (((cutG part_2 none (some r_3.1)) ++ ([r_2.1].map PyData.int)) ++ (cutG part_2 (some r_3.1) none))), r_4.2), _, _, rfl, rfl, rfl, (by exact (.same (.drop (.drop (.drop (.drop (.drop (.drop .nil))))))))⟩⟩⟩⟩)⟩⟩⟩⟩)))⟩⟩))))))
            case h15 =>
              refine JL.nil ?_
              show JL _ _ [.pin v0 (potS r_4.2), .val (eLX part_2), .val (PyData.int places), .val (PyData.int r.1), .val (PyData.int r_2.1), .val (PyData.int r_3.1), .val (eX x)] _ _ _ _
              refine JL.cons (JS.ite (JC.tot (JCt.bop (JWt.and (JCt.cmp (Cmp.eqI (JE.var (i := 3) rfl ⟨_, rfl, JE.int ⟨_, rfl, ⟨rfl, rfl⟩⟩⟩))) fun _ => (JWt.and1 (JCt.cmp (Cmp.gt (JE.len m.len (JE.var (i := 1) rfl ⟨part_2.length, (.seq (.own (soL (xs := part_2) (e := eX))) (List.length_map _)), ⟨_, rfl, JE.int ⟨_, rfl, ⟨rfl, rfl⟩⟩⟩⟩))))))) ⟨_, _, rfl, fun _ => ?h16, fun _ => ?h17⟩))
              case h16 =>
                exact JL.cons (JS.ret (JT.frz (JE.catT (f := fun x => .val (eX x)) (JE.sliceLT (f := fun x => .val (eX x)) (JE.var (i := 1) rfl ⟨.inl ⟨_, rfl⟩, _, _, _, (.own (soL (xs := part_2) (e := eX))), .no, (.at (JE.var (i := 5) rfl ⟨rfl, rfl⟩)), ⟨.inl ⟨_, rfl⟩, JE.sliceLT (f := fun x => .val (eX x)) (JE.var (i := 1) rfl ⟨.inl ⟨_, rfl⟩, _, _, _, (.own (soL (xs := part_2) (e := eX))), (.at (JE.add (JE.var (i := 5) rfl ⟨_, rfl, JE.int ⟨_, rfl, ⟨rfl, rfl⟩⟩⟩))), .no, ⟨_, _, _, (.own (soM (xs := (cutG part_2 none (some r_3.1))) (e := eX))), (.own (soM (xs := (cutG part_2 (some (r_3.1 + 1)) none)) (e := eX))), gd_ok, ⟨_, _, rfl, (.lst (.map fun _ => .val)), ⟨((eLX ((cutG part_2 none (some r_3.1)) ++ (cutG part_2 (some (r_3.1 + 1)) none))), r_4.2), _, _, rfl, rfl, rfl, (by exact (.same (.drop (.drop (.drop (.drop (.drop (.drop .nil))))))))⟩⟩⟩⟩)⟩⟩)))))
              case h17 =>
                refine JL.nil ?_
                show JL _ _ [.pin v0 (potS r_4.2), .val (eLX part_2), .val (PyData.int places), .val (PyData.int r.1), .val (PyData.int r_2.1), .val (PyData.int r_3.1), .val (eX x)] _ _ _ _
                exact JL.cons (JS.ret (JT.frz (JE.catT (f := fun x => .val (eX x)) (JE.catT (f := fun x => .val (eX x)) (JE.sliceLT (f := fun x => .val (eX x)) (JE.var (i := 1) rfl ⟨.inl ⟨_, rfl⟩, _, _, _, (.own (soL (xs := part_2) (e := eX))), .no, (.at (JE.var (i := 5) rfl ⟨rfl, rfl⟩)), ⟨.inl ⟨_, rfl⟩, JE.lstD (JA.one (JE.ixE (f := fun x => .val (eX x)) (t := false) (JE.lstD (JA.cons (pt := false) (JE.var (i := 4) rfl ⟨.inl ⟨_, rfl⟩, fun z => z, JA.cons (pt := false) (JE.var (i := 2) rfl ⟨.inl ⟨_, rfl⟩, fun z => z, JA.one (JE.var (i := 6) rfl ⟨[_, _, _], rfl, Nat.le_of_ble_eq_true rfl, ⟨.inl ⟨_, rfl⟩, JE.mod (JE.var (i := 3) rfl ⟨_, rfl, JE.int ⟨_, rfl, prI (by decide) ⟨_, rfl, _, _, (.own (soM (xs := [(PyData.int r_2.1), (PyData.int places), x]) (e := eX))), rfl, fun x_3 _ => ⟨[_], rfl, Nat.le_of_ble_eq_true rfl, ⟨_, _, _, (.own (soM (xs := (cutG part_2 none (some r_3.1))) (e := eX))), (.own (soM (xs := [x_3]) (e := eX))), gd_ok, ⟨.inl ⟨_, rfl⟩, JE.sliceLT (f := fun x => .val (eX x)) (JE.var (i := 1) rfl ⟨.inl ⟨_, rfl⟩, _, _, _, (.own (soL (xs := part_2) (e := eX))), (.at (JE.add (JE.var (i := 5) rfl ⟨_, rfl, JE.int ⟨_, rfl, ⟨rfl, rfl⟩⟩⟩))), .no, ⟨_, _, _, (.own (soM (xs := ((cutG part_2 none (some r_3.1)) ++ [x_3])) (e := eX))), (.own (soM (xs := (cutG part_2 (some (r_3.1 + 1)) none)) (e := eX))), gd_ok, ⟨_, _, rfl, (.lst (.map fun _ => .val)), ⟨((eLX (((cutG part_2 none (some r_3.1)) ++ [x_3]) ++ (cutG part_2 (some (r_3.1 + 1)) none))), r_4.2), _, _, rfl, rfl, rfl, (by exact (.same (.drop (.drop (.drop (.drop (.drop (.drop .nil))))))))⟩⟩⟩⟩)⟩⟩⟩⟩⟩⟩)⟩⟩)⟩)⟩)))))⟩⟩))))))
  case h2 =>
    exact JL.ne fun z => absurd rfl z
end
theorem h_other_part {X : Cx} (m : Md X.K X.mg) : Has X "_law_other_part" 2 (fun a : (Int × Int) × PyData × Int => [potS a.1, .val (eX a.2.1), .val (PyData.int a.2.2)]) (fun a => m_other_part a.1 a.2.1 a.2.2) (fun _ r => .val (eX r.1)) (fun _ r => [potS r.2, .hole, .hole]) (fun _ => [.hole, .hole, .hole]) :=
  has_of (ps := ["_law_pot_here", "_law_part", "_law_places"]) m.f_other_part (fun f fd F => g_other_part F m) (fun f fd F => F.bindsN fun _ _ _ _ _ _ us hl => match us, hl with | [_, _, _], _ => rfl) (fun _ _ => .val) (fun _ _ => (.cons nr_pot (.cons .hole (.cons .hole .nil)))) (fun _ => (.cons .hole (.cons .hole (.cons .hole .nil)))) (fun a e h => absurd h (m_other_part_nex _ _ _ e))
def f_other_1 (parting_here : List (List Int)) (places : Int) (x_2 : Int) (pot_here_2 : Int × Int) (found : List PyData) : Res (Lp ((Int × Int) × List PyData) (PyData × (Int × Int))) := (m_take pot_here_2 8).bind fun r_2 => (m_take r_2.2 (parting_here.length : Int)).bind fun r_3 => cond (decide (r_2.1 = 0)) ((m_take r_3.2 8).bind fun r_4 => (idx [(eN ()), (PyData.int 0), (PyData.str ("0" : PySem.Str)), (.dict []), (PyData.bool true), (eWU ([] : List Unit)), (eLU ([] : List Unit)), (eLI [0])] r_4.1).bind fun x_3 => .ok (.rt (x_3, r_4.2))) (cond (decide (r_2.1 = 1)) (.ok (.nx (r_3.2, found.reverse))) (cond ((decide (r_2.1 = 2)) && (decide ((found.length : Int) = (parting_here.length : Int)))) ((popR found r_3.1).bind fun r_5 => .ok (.nx (r_3.2, r_5.2))) ((cond (decide (2 < r_2.1)) (cond (decide (r_3.1 < (found.length : Int))) ((idx found r_3.1).bind fun x_4 => .ok (isLstD x_4)) (.ok false)) (.ok false)).bind fun c => cond c ((idx found r_3.1).bind fun x_5 => (m_other_part r_3.2 x_5 places).bind fun r_6 => (setR found r_3.1 r_6.1).bind fun r_7 => .ok (.nx (r_6.2, r_7))) (.ok (.nx (r_3.2, found))))))
def m_other (pot_here : Int × Int) (parting_here : List (List Int)) (places : Int) : Res (PyData × (Int × Int)) := (m_take pot_here 2).bind fun r => gd (rngOk 0 (1 + r.1)) ((forL (fun x' t => f_other_1 parting_here places x' t.1 t.2) (rangeL 0 (1 + r.1)) (r.2, (parting_here.map eLI))).bind (orW fun (pot_here_3, found_2) => (m_take pot_here_3 2).bind fun r_8 => (idx [(eLX found_2), (eWX found_2)] r_8.1).bind fun x_6 => .ok (x_6, r_8.2)))
theorem m_other_nex (pot_here : Int × Int) (parting_here : List (List Int)) (places : Int) : ∀ e, m_other pot_here parting_here places ≠ .ex e := nex_bind (m_take_nex _ _) fun _ => nex_gd (nex_bind (forL_nex (fun _ _ => nex_bind (m_take_nex _ _) fun _ => nex_bind (m_take_nex _ _) fun _ => nex_cond (nex_bind (m_take_nex _ _) fun _ => nex_bind idx_nex fun _ => nex_ok) (nex_cond (nex_ok) (nex_cond (nex_bind popR_nex fun _ => nex_ok) (nex_bind (nex_cond (nex_cond (nex_bind idx_nex fun _ => nex_ok) (nex_ok)) (nex_ok)) fun _ => nex_cond (nex_bind idx_nex fun _ => nex_bind (m_other_part_nex _ _ _) fun _ => nex_bind setR_nex fun _ => nex_ok) (nex_ok))))) _ _) (nex_orW fun _ => nex_bind (m_take_nex _ _) fun _ => nex_bind idx_nex fun _ => nex_ok))
theorem sc_other : FnScope ["_law_pot_here", "_law_parting_here", "_law_places", "_law_found", "_law_part", "_law_turn", "_law_way", "_law_at"] ["_law_pot_here", "_law_parting_here", "_law_places"] (defScope s_other) := ⟨rfl, rfl, rfl, by decide +kernel, rfl, by decide +kernel, by decide +kernel⟩
section
variable {P : Program} {w : World} {K : PySem.W.Frag} {mg : Str → Option Value} {base : Heap} {f : Addr} {fd : FuncData}
theorem g_other (F : FnP K "_law_other" s_other f fd) (m : Md K mg) : FnG P w K mg base 3 f fd ["_law_pot_here", "_law_parting_here", "_law_places"] (SpM K (fun a : (Int × Int) × List (List Int) × Int => [potS a.1, .val (eLLI a.2.1), .val (PyData.int a.2.2)]) (fun a => m_other a.1 a.2.1 a.2.2) (fun _ r => .val (eX r.1)) (fun _ r => [potS r.2, .hole, .hole]) (fun _ => [.hole, .hole, .hole])) := by
  refine fnG_of (n := 5) F sc_other (fun _ => rfl) rfl (fun _ _ => .val) (fun _ _ => (.cons nr_pot (.cons .hole (.cons .hole .nil)))) (fun _ => (.cons .hole (.cons .hole (.cons .hole .nil)))) (fun a e h => absurd h (m_other_nex _ _ _ e)) fun cdv A outer s H vs E G a hvs B => ?_
  obtain ⟨pot_here, parting_here, places⟩ := a
  match vs, hvs with
  | [v0, _, _], _ => ?_
  refine ⟨[.pin v0 (potS pot_here), .val (eLLI parting_here), .val (PyData.int places)], [.hole, .hole, .hole, .hole, .hole, .hole, .hole, .hole], fun r => [.pin v0 (potS r.2), .hole, .hole, .hole, .hole, .hole, .hole, .hole], (.pin (.keep (.keep .nil))), fun _ => (.pin (.hole (.hole .nil))), (.hole (.hole (.hole .nil))), ?_⟩
  show JL _ _ [.pin v0 (potS pot_here), .val (eLLI parting_here), .val (PyData.int places), .hole, .hole, .hole, .hole, .hole] _ _ _ _
  refine JL.cons (JS.ofLc (i := 3) (own' := [("_law_part", 4)]) B.calm sc_other.nd (blkOk_by (by kernel_rfl)) (JT.compPI (sd := fun x => .val (eLI x)) (se := fun y => .val (eLI y)) (JSrc.lst (JE.var (i := 1) rfl ⟨_, _, rfl, (soL (xs := parting_here) (e := eLI)), ⟨parting_here, rfl, (.hole rfl .nil), fun x => ⟨[.pin v0 (potS pot_here), .val (eLLI parting_here), .val (PyData.int places), .hole, .val (eLI x), .hole, .hole, .hole], Le.refl, fun s H Ca cl fp => JG.name (i := 4) rfl sc_other.nd, fun s H Ca cl fp => JT.frz (JE.listOf m.list (JE.var (i := 4) rfl ⟨false, _, (.own (soL (xs := x) (e := PyData.int))), ⟨_, _, rfl, (.lst (.map fun _ => .val)), ⟨rfl, rfl⟩⟩⟩))⟩, ⟨_, rfl, Nat.le_of_ble_eq_true rfl, ?h1⟩⟩⟩))))
  show JL _ _ [.pin v0 (potS pot_here), .val (eLLI parting_here), .val (PyData.int places), slvLI parting_here, .hole, .hole, .hole, .hole] _ _ _ _
  refine JL.told (Γ' := [.pin v0 (potS pot_here), .val (eLLI parting_here), .val (PyData.int places), slvX (parting_here.map eLI), .hole, .hole, .hole, .hole]) (congrArg (fun s_ => [.pin v0 (potS pot_here), .val (eLLI parting_here), .val (PyData.int places), s_, .hole, .hole, .hole, .hole]) (lstX (f := eLI) (xs := parting_here))) ?_
  show JL _ _ [.pin v0 (potS pot_here), .val (eLLI parting_here), .val (PyData.int places), slvX (parting_here.map eLI), .hole, .hole, .hole, .hole] _ _ _ _
  refine JL.cons (JS.for_ B.own B.calm (JSrc.rng1 m.range (JE.add (JE.int ⟨_, rfl, JE.callN (h_take m) (B.room.mono (by decide)) B.pass (JA.cons (pt := false) (JE.slot (i := 0) rfl ⟨.inr (.inl ⟨_, rfl⟩), fun z => z, JA.one (JE.int ⟨(pot_here, 2), _, [true, false], _, _, _, (.cons rfl .pin .nil), (.inout (.own .nil)), (List.append_nil _).symm, rfl, fun e z => absurd z (m_take_nex _ _ e), ft, fun r _ => ⟨_, rfl, ⟨_, rfl, gdI ⟨Int, (Int × Int) × List PyData, (rangeL 0 (1 + r.1)), fun i => .val (.int i), fun x' t => f_other_1 parting_here places x' t.1 t.2, (r.2, (parting_here.map eLI)), fun (pot_here_2, found) => [.pin v0 (potS pot_here_2), .val (eLLI parting_here), .val (PyData.int places), slvX found, .hole, .hole, .hole, .hole], _, rfl, rfl, (by exact (.same (.same (.same (.same (.drop (.drop (.drop (.drop .nil))))))))), fun x_2 t => ?h2, fun t_2 => ?h3⟩⟩⟩⟩)⟩))⟩))))
  case h2 =>
    obtain ⟨pot_here_2, found⟩ := t
    refine JG.name (i := 5) ?_ sc_other.nd
    show JL _ _ [.pin v0 (potS pot_here_2), .val (eLLI parting_here), .val (PyData.int places), slvX found, .hole, .val (PyData.int x_2), .hole, .hole] _ _ _ _
    refine JL.cons (JS.set (i := 6) sc_other.nd (JE.callN (h_take m) (B.room.mono (by decide)) B.pass (JA.cons (pt := false) (JE.slot (i := 0) rfl ⟨.inr (.inl ⟨_, rfl⟩), fun z => z, JA.one (JE.int ⟨(pot_here_2, 8), _, [true, false], _, _, _, (.cons rfl .pin .nil), (.inout (.own .nil)), (List.append_nil _).symm, rfl, fun e z => absurd z (m_take_nex _ _ e), ft, fun r_2 _ => ⟨_, rfl, Nat.le_of_ble_eq_true rfl, ?h4⟩⟩)⟩))))
    show JL _ _ [.pin v0 (potS r_2.2), .val (eLLI parting_here), .val (PyData.int places), slvX found, .hole, .val (PyData.int x_2), .val (PyData.int r_2.1), .hole] _ _ _ _
    refine JL.cons (JS.set (i := 7) sc_other.nd (JE.callN (h_take m) (B.room.mono (by decide)) B.pass (JA.cons (pt := false) (JE.slot (i := 0) rfl ⟨.inr (.inl ⟨_, rfl⟩), fun z => z, JA.one (JE.len m.len (JE.var (i := 1) rfl ⟨parting_here.length, (.seq (.own (soL (xs := parting_here) (e := eLI))) (List.length_map _)), ⟨(r_2.2, (parting_here.length : Int)), _, [true, false], _, _, _, (.cons rfl .pin .nil), (.inout (.own .nil)), (List.append_nil _).symm, rfl, fun e z => absurd z (m_take_nex _ _ e), ft, fun r_3 _ => ⟨_, rfl, Nat.le_of_ble_eq_true rfl, ?h5⟩⟩⟩))⟩))))
    show JL _ _ [.pin v0 (potS r_3.2), .val (eLLI parting_here), .val (PyData.int places), slvX found, .hole, .val (PyData.int x_2), .val (PyData.int r_2.1), .val (PyData.int r_3.1)] _ _ _ _
    refine JL.cons (JS.ite (JC.tot (JCt.cmp (Cmp.eqI (JE.var (i := 6) rfl ⟨_, rfl, JE.int ⟨_, rfl, ⟨rfl, rfl⟩⟩⟩))) ⟨_, _, rfl, fun _ => ?h6, fun _ => ?h7⟩))
    case h6 =>
      refine JL.cons (JS.ret (JE.ixE (f := fun x => .val (eX x)) (t := false) (JE.lstD (JA.cons (pt := false) (?_)))))
      refine JE.non ⟨.inl ⟨_, rfl⟩, fun z => z, JA.cons (pt := false) (?_)⟩
      refine JE.int ⟨.inl ⟨_, rfl⟩, fun z => z, JA.cons (pt := false) (?_)⟩
      refine JE.str ⟨.inl ⟨_, rfl⟩, fun z => z, JA.cons (pt := false) (?_)⟩
      refine JT.frz (JE.dnew ⟨_, _, rfl, .dct0, ⟨.inl ⟨_, rfl⟩, fun z => z, JA.cons (pt := false) (?_)⟩⟩)
      refine JE.bl ⟨.inl ⟨_, rfl⟩, fun z => z, JA.cons (pt := false) (?_)⟩
      refine JT.frz (JE.tupD (JA.nil ⟨[], rfl, Nat.le_of_ble_eq_true rfl, _, _, rfl, .tup .nil, ⟨.inl ⟨_, rfl⟩, fun z => z, JA.cons (pt := false) (?_)⟩⟩))
      refine JT.frz (JE.lstD (JA.nil ⟨[], rfl, Nat.le_of_ble_eq_true rfl, ⟨_, _, rfl, (.lst .nil), ⟨.inl ⟨_, rfl⟩, fun z => z, JA.one (?_)⟩⟩⟩))
      refine JT.frz (JE.lstD (JA.one (JE.int ⟨[_], rfl, Nat.le_of_ble_eq_true rfl, ⟨_, _, rfl, (.lst (.cons .val .nil)), ⟨[_, _, _, _, _, _, _, _], rfl, Nat.le_of_ble_eq_true rfl, ⟨.inl ⟨_, rfl⟩, JE.callN (h_take m) (B.room.mono (by decide)) B.pass (JA.cons (pt := false) (JE.slot (i := 0) rfl ⟨.inr (.inl ⟨_, rfl⟩), fun z => z, JA.one (JE.int ⟨(r_3.2, 8), _, [true, false], _, _, _, (.cons rfl .pin .nil), (.inout (.own .nil)), (List.append_nil _).symm, rfl, fun e z => absurd z (m_take_nex _ _ e), ft, fun r_4 _ => ⟨_, rfl, _, _, (.own (soM (xs := [(eN ()), (PyData.int 0), (PyData.str ("0" : PySem.Str)), (.dict []), (PyData.bool true), (eWU ([] : List Unit)), (eLU ([] : List Unit)), (eLI [0])]) (e := eX))), rfl, fun x_3 _ => ⟨.rt (x_3, r_4.2), _, _, rfl, rfl, rfl, (by exact (.same (.drop (.drop (.drop (.drop (.drop (.drop (.drop .nil)))))))))⟩⟩⟩)⟩))⟩⟩⟩⟩)))
    case h7 =>
      refine JL.nil ?_
      show JL _ _ [.pin v0 (potS r_3.2), .val (eLLI parting_here), .val (PyData.int places), slvX found, .hole, .val (PyData.int x_2), .val (PyData.int r_2.1), .val (PyData.int r_3.1)] _ _ _ _
      refine JL.cons (JS.ite (JC.tot (JCt.cmp (Cmp.eqI (JE.var (i := 6) rfl ⟨_, rfl, JE.int ⟨_, rfl, ⟨rfl, rfl⟩⟩⟩))) ⟨_, _, rfl, fun _ => ?h8, fun _ => ?h9⟩))
      case h8 =>
        refine JL.cons (JS.set (i := 3) sc_other.nd (JE.revLT (f := fun x => .val (eX x)) (JE.slot (i := 3) rfl ⟨.inr ⟨_, rfl⟩, _, (.at (i := 3) rfl (soM (xs := found) (e := eX))), ⟨_, rfl, Nat.le_of_ble_eq_true rfl, ?h10⟩⟩)))
        refine JL.nil ?_
        exact JL.nil ⟨(r_3.2, found.reverse), rfl, (.same (.same (.same (.same (.drop (.drop (.drop (.drop .nil))))))))⟩
      case h9 =>
        refine JL.cons (JS.ite (JC.tot (JCt.bop (JWt.and (JCt.cmp (Cmp.eqI (JE.var (i := 6) rfl ⟨_, rfl, JE.int ⟨_, rfl, ⟨rfl, rfl⟩⟩⟩))) fun _ => (JWt.and1 (JCt.cmp (Cmp.eqI (JE.len m.len (JE.slot (i := 3) rfl ⟨found.length, (.seq (.at (i := 3) rfl (soM (xs := found) (e := eX))) (List.length_map _)), ⟨_, rfl, JE.len m.len (JE.var (i := 1) rfl ⟨parting_here.length, (.seq (.own (soL (xs := parting_here) (e := eLI))) (List.length_map _)), ⟨_, rfl, ⟨rfl, rfl⟩⟩⟩)⟩⟩))))))) ⟨_, _, rfl, fun _ => ?h11, fun _ => ?h12⟩))
        case h11 =>
          refine JL.cons (JS.expr (JE.popAt (f := svX) (i := 3) rfl .lst (JE.var (i := 7) rfl ⟨_, rfl, _, _, found, _, rfl, .lst, rfl, fun r_5 _ => ?h13⟩)))
          refine JL.nil ?_
          refine JL.nil ?_
          exact JL.nil ⟨(r_3.2, r_5.2), rfl, (.same (.same (.same (.same (.drop (.drop (.drop (.drop .nil))))))))⟩
        case h12 =>
          refine JL.cons (JS.ite (JC.all (m := cond (decide (2 < r_2.1)) (cond (decide (r_3.1 < (found.length : Int))) ((idx found r_3.1).bind fun x_4 => .ok (isLstD x_4)) (.ok false)) (.ok false)) (by first | with_reducible rfl | rfl) (JC.bop (JW.and (JC.tot (JCt.cmp (Cmp.gt (JE.var (i := 6) rfl ⟨_, rfl, JE.int ⟨_, rfl, ⟨rfl, rfl⟩⟩⟩))) ⟨_, _, rfl, fun _ => JW.and (JC.tot (JCt.cmp (Cmp.lt (JE.var (i := 7) rfl ⟨_, rfl, JE.len m.len (JE.slot (i := 3) rfl ⟨found.length, (.seq (.at (i := 3) rfl (soM (xs := found) (e := eX))) (List.length_map _)), ⟨_, rfl, ⟨rfl, rfl⟩⟩⟩)⟩))) ⟨_, _, rfl, fun _ => JW.and1 (JC.val (JE.isi m.isinstance m.list (JE.ixE (f := fun x => .val (eX x)) (t := false) (JE.slot (i := 3) rfl ⟨.inr ⟨_, rfl⟩, JE.var (i := 7) rfl ⟨_, rfl, _, _, (.at (i := 3) rfl (soM (xs := found) (e := eX))), rfl, fun x_4 _ => ⟨.inl ⟨_, rfl⟩, _, _, (.own .val), isi_list _, ⟨_, rfl, ⟨rfl, rfl⟩⟩⟩⟩⟩)))), fun _ => ⟨rfl, rfl⟩⟩), fun _ => ⟨rfl, rfl⟩⟩))) fun c _ => ⟨_, _, rfl, fun _ => ?h14, fun _ => ?h15⟩))
          case h14 =>
            refine JL.cons (JS.asg2 (JE.callN (h_other_part m) (B.room.mono (by decide)) B.pass (JA.cons (pt := false) (JE.slot (i := 0) rfl ⟨.inr (.inl ⟨_, rfl⟩), fun z => z, JA.cons (pt := false) (JE.ixE (f := fun x => .val (eX x)) (t := false) (JE.slot (i := 3) rfl ⟨.inr ⟨_, rfl⟩, JE.var (i := 7) rfl ⟨_, rfl, _, _, (.at (i := 3) rfl (soM (xs := found) (e := eX))), rfl, fun x_5 _ => ⟨.inl ⟨_, rfl⟩, fun z => z, JA.one (JE.var (i := 2) rfl ⟨(r_3.2, x_5, places), _, [true, false, false], _, _, _, (.cons rfl .pin .nil), (.inout (.own (.own .nil))), (List.append_nil _).symm, rfl, fun e z => absurd z (m_other_part_nex _ _ _ e), ft, fun r_6 _ => ⟨_, rfl, JG2.ixT (i := 3) (xs := found) (g := svX) (y := r_6.1) (j := r_3.1) (kM := fun r_7 => .ok (.nx (r_6.2, r_7))) rfl .lst (JE.var (i := 7) rfl ⟨rfl, rfl⟩) rfl (fun r_7 _ => ?h16)⟩⟩)⟩⟩⟩))⟩))))
            refine JL.nil ?_
            refine JL.nil ?_
            refine JL.nil ?_
            exact JL.nil ⟨(r_6.2, r_7), rfl, (.same (.same (.same (.same (.drop (.drop (.drop (.drop .nil))))))))⟩
          case h15 =>
            refine JL.nil ?_
            refine JL.nil ?_
            refine JL.nil ?_
            exact JL.nil ⟨(r_3.2, found), rfl, (.same (.same (.same (.same (.drop (.drop (.drop (.drop .nil))))))))⟩
  case h3 =>
    obtain ⟨pot_here_3, found_2⟩ := t_2
    show JL _ _ [.pin v0 (potS pot_here_3), .val (eLLI parting_here), .val (PyData.int places), slvX found_2, .hole, .hole, .hole, .hole] _ _ _ _
    refine JL.frz (i := 3) rfl (.lst (.map fun _ => .val)) ?_
    show JL _ _ [.pin v0 (potS pot_here_3), .val (eLLI parting_here), .val (PyData.int places), .val (eLX found_2), .hole, .hole, .hole, .hole] _ _ _ _
    exact JL.cons (JS.ret (JE.ixE (f := fun x => .val (eX x)) (t := false) (JE.lstD (JA.cons (pt := false) (JE.var (i := 3) rfl ⟨.inl ⟨_, rfl⟩, fun z => z, JA.one (JT.frz (JE.tupleL m.tuple (JE.var (i := 3) rfl ⟨_, (.own (soL (xs := found_2) (e := eX))), _, _, rfl, .tup (.map fun _ => .val), ⟨[_, _], rfl, Nat.le_of_ble_eq_true rfl, ⟨.inl ⟨_, rfl⟩, JE.callN (h_take m) (B.room.mono (by decide)) B.pass (JA.cons (pt := false) (JE.slot (i := 0) rfl ⟨.inr (.inl ⟨_, rfl⟩), fun z => z, JA.one (JE.int ⟨(pot_here_3, 2), _, [true, false], _, _, _, (.cons rfl .pin .nil), (.inout (.own .nil)), (List.append_nil _).symm, rfl, fun e z => absurd z (m_take_nex _ _ e), ft, fun r_8 _ => ⟨_, rfl, _, _, (.own (soM (xs := [(eLX found_2), (eWX found_2)]) (e := eX))), rfl, fun x_6 _ => ⟨(x_6, r_8.2), _, _, rfl, rfl, rfl, (by exact (.same (.drop (.drop (.drop (.drop (.drop (.drop (.drop .nil)))))))))⟩⟩⟩)⟩))⟩⟩⟩)))⟩)))))
end
theorem h_other {X : Cx} (m : Md X.K X.mg) : Has X "_law_other" 3 (fun a : (Int × Int) × List (List Int) × Int => [potS a.1, .val (eLLI a.2.1), .val (PyData.int a.2.2)]) (fun a => m_other a.1 a.2.1 a.2.2) (fun _ r => .val (eX r.1)) (fun _ r => [potS r.2, .hole, .hole]) (fun _ => [.hole, .hole, .hole]) :=
  has_of (ps := ["_law_pot_here", "_law_parting_here", "_law_places"]) m.f_other (fun f fd F => g_other F m) (fun f fd F => F.bindsN fun _ _ _ _ _ _ us hl => match us, hl with | [_, _, _], _ => rfl) (fun _ _ => .val) (fun _ _ => (.cons nr_pot (.cons .hole (.cons .hole .nil)))) (fun _ => (.cons .hole (.cons .hole (.cons .hole .nil)))) (fun a e h => absurd h (m_other_nex _ _ _ e))
end HD

namespace HD
open PySem PySem.Spec PyProof.Rows L2 Tsa
/-! -/
abbrev sllvI : List (List Int) → SD := fun xs => .lst (xs.map slvI)
abbrev eULLILI : List Int × List Int → PyData := fun p => .list [eLI p.1, eLI p.2]
abbrev eULLLILI : List (List Int) × List Int → PyData := fun p => .list [eLLI p.1, eLI p.2]
abbrev eWWI : List (List Int) → PyData := fun xs => .tuple (xs.map eWI)
abbrev eWLI : List (List Int) → PyData := fun xs => .tuple (xs.map eLI)
abbrev eLS : List Str → PyData := fun xs => .list (xs.map PyData.str)
abbrev eT3T2IWT2IILLILI : (Int × (List (Int × Int))) × List (List Int) × List Int → PyData := fun p => .tuple [eT2IWT2II p.1, eLLI p.2.1, eLI p.2.2]
def m_judged (web_here : Int × (List (Int × Int))) (thing : PyData) : Res Bool := (m_l_is_parting web_here.1 thing).bind fun r => gd (showX (PyData.bool r) = true) (bindv ((PyData.bool r).shown) fun due_here => gd (showX (eX thing) = true) (bindv ((eX thing).shown) fun kept => ((m_is_parting web_here thing).bind fun r_2 => gd (showX (PyData.bool r_2) = true) (cond (decide ((PyData.bool r_2).shown = due_here)) ((m_is_parting web_here thing).bind fun r_3 => gd (showX (PyData.bool r_3) = true) (cond (decide ((PyData.bool r_3).shown = due_here)) (gd (showX (eX thing) = true) (.ok (decide ((eX thing).shown = kept)))) (.ok false))) (.ok false))).bind fun c => .ok c))
theorem m_judged_nex (web_here : Int × (List (Int × Int))) (thing : PyData) : ∀ e, m_judged web_here thing ≠ .ex e := nex_bind (m_l_is_parting_nex _ _) fun _ => nex_gd (nex_bindv fun _ => nex_gd (nex_bindv fun _ => nex_bind (nex_bind (m_is_parting_nex _ _) fun _ => nex_gd (nex_cond (nex_bind (m_is_parting_nex _ _) fun _ => nex_gd (nex_cond (nex_gd (nex_ok)) (nex_ok))) (nex_ok))) fun _ => nex_ok))
theorem sc_judged : FnScope ["_law_web_here", "_law_thing", "_law_due_here", "_law_kept"] ["_law_web_here", "_law_thing"] (defScope s_judged) := ⟨rfl, rfl, rfl, by decide +kernel, rfl, by decide +kernel, by decide +kernel⟩
section
variable {P : Program} {w : World} {K : PySem.W.Frag} {mg : Str → Option Value} {base : Heap} {f : Addr} {fd : FuncData}
theorem g_judged (F : FnP K "_law_judged" s_judged f fd) (m : Md K mg) : FnG P w K mg base 5 f fd ["_law_web_here", "_law_thing"] (SpM K (fun a : (Int × (List (Int × Int))) × PyData => [.val (eT2IWT2II a.1), .val (eX a.2)]) (fun a => m_judged a.1 a.2) (fun _ r => .val (PyData.bool r)) (fun _ r => [.hole, .hole]) (fun _ => [.hole, .hole])) := by
  refine fnG_of (n := 2) F sc_judged (fun _ => rfl) rfl (fun _ _ => .val) (fun _ _ => (.cons .hole (.cons .hole .nil))) (fun _ => (.cons .hole (.cons .hole .nil))) (fun a e h => absurd h (m_judged_nex _ _ e)) fun cdv A outer s H vs E G a hvs B => ?_
  obtain ⟨web_here, thing⟩ := a
  match vs, hvs with
  | [_, _], _ => ?_
  refine ⟨[.val (eT2IWT2II web_here), .val (eX thing)], [.hole, .hole, .hole, .hole], fun r => [.hole, .hole, .hole, .hole], (.keep (.keep .nil)), fun _ => (.hole (.hole .nil)), (.hole (.hole .nil)), ?_⟩
  show JL _ _ [.val (eT2IWT2II web_here), .val (eX thing), .hole, .hole] _ _ _ _
  refine JL.cons (JS.set (i := 2) sc_judged.nd (JE.reprX m.xf.md B.room m.repr (JE.callN (h_l_is_parting m) (B.room.mono (by decide)) B.pass (JA.cons (pt := false) (JE.ixT (JE.var (i := 0) rfl ⟨.inl ⟨_, rfl⟩, _, _, .own (.tup (ds := [PyData.int web_here.1, eWT2II web_here.2])), rfl, ⟨.inl ⟨_, rfl⟩, fun z => z, JA.one (JE.var (i := 1) rfl (Args.plain (web_here.1, thing) _ [false, false] (.own (.own .nil)) rfl rfl rfl (fun e z => absurd z (m_l_is_parting_nex _ _ e)) fun r _ => ⟨(PyData.bool r), _, (.own .val), gd_ok, ⟨_, rfl, Nat.le_of_ble_eq_true rfl, ?h1⟩⟩))⟩⟩))))))
  refine JL.letv (Γf := fun due_here => [.val (eT2IWT2II web_here), .val (eX thing), .val (PyData.str due_here), .hole]) ((PyData.bool r).shown) fun due_here => ?_
  show JL _ _ [.val (eT2IWT2II web_here), .val (eX thing), .val (PyData.str due_here), .hole] _ _ _ _
  refine JL.cons (JS.set (i := 3) sc_judged.nd (JE.reprX m.xf.md B.room m.repr (JE.var (i := 1) rfl ⟨(eX thing), _, (.own .val), gd_ok, ⟨_, rfl, Nat.le_of_ble_eq_true rfl, ?h2⟩⟩)))
  refine JL.letv (Γf := fun kept => [.val (eT2IWT2II web_here), .val (eX thing), .val (PyData.str due_here), .val (PyData.str kept)]) ((eX thing).shown) fun kept => ?_
  show JL _ _ [.val (eT2IWT2II web_here), .val (eX thing), .val (PyData.str due_here), .val (PyData.str kept)] _ _ _ _
  exact JL.cons (JS.ret (JE.runV (m := (m_is_parting web_here thing).bind fun r_2 => gd (showX (PyData.bool r_2) = true) (cond (decide ((PyData.bool r_2).shown = due_here)) ((m_is_parting web_here thing).bind fun r_3 => gd (showX (PyData.bool r_3) = true) (cond (decide ((PyData.bool r_3).shown = due_here)) (gd (showX (eX thing) = true) (.ok (decide ((eX thing).shown = kept)))) (.ok false))) (.ok false))) (f := fun b => .val (.bool b)) (Δ := fun _ => [.val (eT2IWT2II web_here), .val (eX thing), .val (PyData.str due_here), .val (PyData.str kept)]) rfl (JE.and (JE.cmp (Cmp.eqS B.room (JE.reprX m.xf.md B.room m.repr (JE.callN (h_is_parting m) (B.room.mono (by decide)) B.pass (JA.cons (pt := false) (JE.var (i := 0) rfl ⟨.inl ⟨_, rfl⟩, fun z => z, JA.one (JE.var (i := 1) rfl (Args.plain (web_here, thing) _ [false, false] (.own (.own .nil)) rfl rfl rfl (fun e z => absurd z (m_is_parting_nex _ _ e)) fun r_2 _ => ⟨(PyData.bool r_2), _, (.own .val), gd_ok, ⟨_, rfl, JE.var (i := 2) rfl ⟨_, rfl, ⟨_, rfl, _, _, rfl, fun _ => JE.and (JE.cmp (Cmp.eqS B.room (JE.reprX m.xf.md B.room m.repr (JE.callN (h_is_parting m) (B.room.mono (by decide)) B.pass (JA.cons (pt := false) (JE.var (i := 0) rfl ⟨.inl ⟨_, rfl⟩, fun z => z, JA.one (JE.var (i := 1) rfl (Args.plain (web_here, thing) _ [false, false] (.own (.own .nil)) rfl rfl rfl (fun e z => absurd z (m_is_parting_nex _ _ e)) fun r_3 _ => ⟨(PyData.bool r_3), _, (.own .val), gd_ok, ⟨_, rfl, JE.var (i := 2) rfl ⟨_, rfl, ⟨_, rfl, _, _, rfl, fun _ => JE.one (JE.cmp (Cmp.eqS B.room (JE.reprX m.xf.md B.room m.repr (JE.var (i := 1) rfl ⟨(eX thing), _, (.own .val), gd_ok, ⟨_, rfl, JE.var (i := 3) rfl ⟨_, rfl, ⟨_, rfl, rfl, rfl⟩⟩⟩⟩)))), fun _ => ⟨_, rfl, rfl, rfl⟩⟩⟩⟩⟩))⟩)))))), fun _ => ⟨_, rfl, rfl, rfl⟩⟩⟩⟩⟩))⟩))))))) fun c _ => ⟨c, _, _, rfl, rfl, rfl, (by exact (.drop (.drop (.drop (.drop .nil)))))⟩))
end
theorem h_judged {X : Cx} (m : Md X.K X.mg) : Has X "_law_judged" 5 (fun a : (Int × (List (Int × Int))) × PyData => [.val (eT2IWT2II a.1), .val (eX a.2)]) (fun a => m_judged a.1 a.2) (fun _ r => .val (PyData.bool r)) (fun _ r => [.hole, .hole]) (fun _ => [.hole, .hole]) :=
  has_of (ps := ["_law_web_here", "_law_thing"]) m.f_judged (fun f fd F => g_judged F m) (fun f fd F => F.bindsN fun _ _ _ _ _ _ us hl => match us, hl with | [_, _], _ => rfl) (fun _ _ => .val) (fun _ _ => (.cons .hole (.cons .hole .nil))) (fun _ => (.cons .hole (.cons .hole .nil))) (fun a e h => absurd h (m_judged_nex _ _ e))
def m_part_of (parting_here : List (List Int)) (place : Int) : Res Int := (idx (((parting_here.zipIdx).filter fun x => decide (place ∈ x.1)).map fun (x : List Int × Nat) => (x.2 : Int)) 0).bind fun x_2 => .ok x_2
theorem m_part_of_nex (parting_here : List (List Int)) (place : Int) : ∀ e, m_part_of parting_here place ≠ .ex e := nex_bind idx_nex fun _ => nex_ok
theorem sc_part_of : FnScope ["_law_parting_here", "_law_place", "_law_k", "_law_part"] ["_law_parting_here", "_law_place"] (defScope s_part_of) := ⟨rfl, rfl, rfl, by decide +kernel, rfl, by decide +kernel, by decide +kernel⟩
section
variable {P : Program} {w : World} {K : PySem.W.Frag} {mg : Str → Option Value} {base : Heap} {f : Addr} {fd : FuncData}
theorem g_part_of (F : FnP K "_law_part_of" s_part_of f fd) (m : Md K mg) : FnG P w K mg base 1 f fd ["_law_parting_here", "_law_place"] (SpM K (fun a : List (List Int) × Int => [.val (eLLI a.1), .val (PyData.int a.2)]) (fun a => m_part_of a.1 a.2) (fun _ r => .val (PyData.int r)) (fun _ r => [.hole, .hole]) (fun _ => [.hole, .hole])) := by
  refine fnG_of (n := 2) F sc_part_of (fun _ => rfl) rfl (fun _ _ => .val) (fun _ _ => (.cons .hole (.cons .hole .nil))) (fun _ => (.cons .hole (.cons .hole .nil))) (fun a e h => absurd h (m_part_of_nex _ _ e)) fun cdv A outer s H vs E G a hvs B => ?_
  obtain ⟨parting_here, place⟩ := a
  match vs, hvs with
  | [_, _], _ => ?_
  refine ⟨[.val (eLLI parting_here), .val (PyData.int place)], [.hole, .hole, .hole, .hole], fun r => [.hole, .hole, .hole, .hole], (.keep (.keep .nil)), fun _ => (.hole (.hole .nil)), (.hole (.hole .nil)), ?_⟩
  show JL _ _ [.val (eLLI parting_here), .val (PyData.int place), .hole, .hole] _ _ _ _
  exact JL.cons (JS.ret (JE.ixE (f := fun x => .val (PyData.int x)) (t := false) (JE.ofLc (own' := [("_law_k", 2), ("_law_part", 3)]) B.calm sc_part_of.nd (blkOk_by (by kernel_rfl)) (JT.compF (sd := fun q => .val (.tuple [.int (q.2 : Nat), eLI q.1])) (q := fun x => decide (place ∈ x.1)) (g := fun (x : List Int × Nat) => (x.2 : Int)) (se := fun y => .val (PyData.int y)) (JSrc.enL m.enumerate (JE.var (i := 0) rfl ⟨_, parting_here, rfl, (soL (xs := parting_here) (e := eLI)), ⟨(parting_here.zipIdx), rfl, (.hole rfl (.hole rfl .nil)), fun x => ⟨[.val (eLLI parting_here), .val (PyData.int place), .val (PyData.int (x.2 : Int)), .val (eLI x.1)], Le.refl, fun s H Ca cl fp => JG.tupV B.calm (JGs.cons (JG.name (i := 2) (JGs.cons (JG.name (i := 3) (JGs.nil rfl) sc_part_of.nd)) sc_part_of.nd)), fun s H Ca cl fp => (JCt.cmp (Cmp.inT (e := PyData.int) eokI (by decide) B.room (JE.var (i := 1) rfl ⟨.inl ⟨_, rfl⟩, JE.var (i := 3) rfl ⟨place, x.1, (.own .val), (.own .val), ⟨rfl, rfl⟩⟩⟩))), fun s H Ca cl fp => JE.var (i := 2) rfl ⟨rfl, rfl⟩⟩, ⟨.inl ⟨_, rfl⟩, JE.int ⟨_, rfl, _, _, (.own (soM (xs := (((parting_here.zipIdx).filter fun x => decide (place ∈ x.1)).map fun (x : List Int × Nat) => (x.2 : Int))) (e := PyData.int))), rfl, fun x_2 _ => ⟨x_2, _, _, rfl, rfl, rfl, (by exact (.drop (.drop (.drop (.drop .nil)))))⟩⟩⟩⟩⟩))))))
end
theorem h_part_of {X : Cx} (m : Md X.K X.mg) : Has X "_law_part_of" 1 (fun a : List (List Int) × Int => [.val (eLLI a.1), .val (PyData.int a.2)]) (fun a => m_part_of a.1 a.2) (fun _ r => .val (PyData.int r)) (fun _ r => [.hole, .hole]) (fun _ => [.hole, .hole]) :=
  has_of (ps := ["_law_parting_here", "_law_place"]) m.f_part_of (fun f fd F => g_part_of F m) (fun f fd F => F.bindsN fun _ _ _ _ _ _ us hl => match us, hl with | [_, _], _ => rfl) (fun _ _ => .val) (fun _ _ => (.cons .hole (.cons .hole .nil))) (fun _ => (.cons .hole (.cons .hole .nil))) (fun a e h => absurd h (m_part_of_nex _ _ e))
def c_due_2 (parting_here : List (List Int)) (x : (Int × Int) × Nat) : Res (Option Int × Unit) := ((m_part_of parting_here x.1.1).bind fun r => (m_part_of parting_here x.1.2).bind fun r_2 => .ok (!decide (r = r_2), ()) : Res (Bool × Unit)).bind fun r' => cond r'.1 ((fun _ => .ok (some (x.2 : Int), ())) r'.2) (.ok (none, r'.2))
def m_due (web_here : Int × (List (Int × Int))) (parting_here : List (List Int)) (places : List Int) : Res Str := (compL (fun x' _ => c_due_2 parting_here x') (web_here.2.zipIdx) ()).bind fun r_3 => gd (showOk (eLLI [r_3.1, (((web_here.2.zipIdx).filter fun x_2 => ((decide (x_2.1.1 ∈ places)) && (decide (x_2.1.2 ∈ places)))).map fun (x_2 : (Int × Int) × Nat) => (x_2.2 : Int))]) = true) (.ok ((eLLI [r_3.1, (((web_here.2.zipIdx).filter fun x_2 => ((decide (x_2.1.1 ∈ places)) && (decide (x_2.1.2 ∈ places)))).map fun (x_2 : (Int × Int) × Nat) => (x_2.2 : Int))]).shown))
theorem m_due_nex (web_here : Int × (List (Int × Int))) (parting_here : List (List Int)) (places : List Int) : ∀ e, m_due web_here parting_here places ≠ .ex e := nex_bind (compL_nex _ _) fun _ => nex_gd (nex_ok)
theorem sc_due : FnScope ["_law_web_here", "_law_parting_here", "_law_places", "_law_apart", "_law_number", "_law_a", "_law_b"] ["_law_web_here", "_law_parting_here", "_law_places"] (defScope s_due) := ⟨rfl, rfl, rfl, by decide +kernel, rfl, by decide +kernel, by decide +kernel⟩
section
variable {P : Program} {w : World} {K : PySem.W.Frag} {mg : Str → Option Value} {base : Heap} {f : Addr} {fd : FuncData}
theorem g_due (F : FnP K "_law_due" s_due f fd) (m : Md K mg) : FnG P w K mg base 2 f fd ["_law_web_here", "_law_parting_here", "_law_places"] (SpM K (fun a : (Int × (List (Int × Int))) × List (List Int) × List Int => [.val (eT2IWT2II a.1), .val (eLLI a.2.1), .val (eLI a.2.2)]) (fun a => m_due a.1 a.2.1 a.2.2) (fun _ r => .val (PyData.str r)) (fun _ r => [.hole, .hole, .hole]) (fun _ => [.hole, .hole, .hole])) := by
  refine fnG_of (n := 4) F sc_due (fun _ => rfl) rfl (fun _ _ => .val) (fun _ _ => (.cons .hole (.cons .hole (.cons .hole .nil)))) (fun _ => (.cons .hole (.cons .hole (.cons .hole .nil)))) (fun a e h => absurd h (m_due_nex _ _ _ e)) fun cdv A outer s H vs E G a hvs B => ?_
  obtain ⟨web_here, parting_here, places⟩ := a
  match vs, hvs with
  | [_, _, _], _ => ?_
  refine ⟨[.val (eT2IWT2II web_here), .val (eLLI parting_here), .val (eLI places)], [.hole, .hole, .hole, .hole, .hole, .hole, .hole], fun r => [.hole, .hole, .hole, .hole, .hole, .hole, .hole], (.keep (.keep (.keep .nil))), fun _ => (.hole (.hole (.hole .nil))), (.hole (.hole (.hole .nil))), ?_⟩
  show JL _ _ [.val (eT2IWT2II web_here), .val (eLLI parting_here), .val (eLI places), .hole, .hole, .hole, .hole] _ _ _ _
  refine JL.cons (JS.ofLc (i := 3) (own' := [("_law_number", 4), ("_law_a", 5), ("_law_b", 6)]) B.calm sc_due.nd (blkOk_by (by kernel_rfl)) (JT.frz (JT.comp (JSrc.enW m.enumerate (JE.ixT (JE.var (i := 0) rfl ⟨.inl ⟨_, rfl⟩, _, _, .own (.tup (ds := [PyData.int web_here.1, eWT2II web_here.2])), rfl, ⟨_, web_here.2, rfl, (soW (xs := web_here.2) (e := eT2II)), ⟨(Int × Int) × Nat, Int, Unit, (web_here.2.zipIdx), fun q => .val (.tuple [.int (q.2 : Nat), eT2II q.1]), fun x' _ => c_due_2 parting_here x', (), fun _ => [.val (eT2IWT2II web_here), .val (eLLI parting_here), .val (eLI places), .hole, .hole, .hole, .hole], fun y => .val (PyData.int y), _, rfl, rfl, Le.refl, ft, fun _ => (.hole rfl (.hole rfl (.hole rfl .nil))), fun x _ => ⟨[.val (eT2IWT2II web_here), .val (eLLI parting_here), .val (eLI places), .hole, .val (PyData.int (x.2 : Int)), .val (PyData.int x.1.1), .val (PyData.int x.1.2)], Le.refl, fun s H Ca cl fp => JG.tupV B.calm (JGs.cons (JG.name (i := 4) (JGs.cons (JG.tupV B.calm (JGs.cons (JG.name (i := 5) (JGs.cons (JG.name (i := 6) (JGs.nil (JGs.nil rfl)) sc_due.nd)) sc_due.nd)))) sc_due.nd)), ((m_part_of parting_here x.1.1).bind fun r => (m_part_of parting_here x.1.2).bind fun r_2 => .ok (!decide (r = r_2), ()) : Res (Bool × Unit)), (fun _ => .ok (some (x.2 : Int), ())), fun _ => [.val (eT2IWT2II web_here), .val (eLLI parting_here), .val (eLI places), .hole, .val (PyData.int (x.2 : Int)), .val (PyData.int x.1.1), .val (PyData.int x.1.2)], rfl, fun _ => Le.refl, fun s H Ca cl fp => JC.cmp (Cmp.neI (JE.callN (h_part_of m) (B.room.mono (by decide)) passN (JA.cons (pt := false) (JE.var (i := 1) rfl ⟨.inl ⟨_, rfl⟩, fun z => z, JA.one (JE.var (i := 5) rfl (Args.plain (parting_here, x.1.1) _ [false, false] (.own (.own .nil)) rfl rfl rfl (fun e z => absurd z (m_part_of_nex _ _ e)) fun r _ => ⟨_, rfl, JE.callN (h_part_of m) (B.room.mono (by decide)) passN (JA.cons (pt := false) (JE.var (i := 1) rfl ⟨.inl ⟨_, rfl⟩, fun z => z, JA.one (JE.var (i := 6) rfl (Args.plain (parting_here, x.1.2) _ [false, false] (.own (.own .nil)) rfl rfl rfl (fun e z => absurd z (m_part_of_nex _ _ e)) fun r_2 _ => ⟨_, rfl, ⟨_, rfl, ⟨(), rfl, rfl⟩⟩⟩))⟩))⟩))⟩)))), fun _ => fun s H Ca cl fp => JE.var (i := 4) rfl ⟨(x.2 : Int), (), rfl, rfl, Le.refl⟩⟩, fun r_3 _ => ⟨_, _, rfl, (.lst (.map fun _ => .val)), ⟨_, rfl, Nat.le_of_ble_eq_true rfl, ?h1⟩⟩⟩⟩⟩))))))
  show JL _ _ [.val (eT2IWT2II web_here), .val (eLLI parting_here), .val (eLI places), .val (eLI r_3.1), .hole, .hole, .hole] _ _ _ _
  refine JL.cons (JS.ret (JE.repr B.room m.repr (JE.lstD (JA.cons (pt := false) (?_)))))
  refine JE.var (i := 3) rfl ⟨.inl ⟨_, rfl⟩, fun z => z, JA.one (?_)⟩
  refine JT.frz (JE.ofLc (own' := [("_law_number", 4), ("_law_a", 5), ("_law_b", 6)]) B.calm sc_due.nd (blkOk_by (by kernel_rfl)) (JT.compF (sd := fun q => .val (.tuple [.int (q.2 : Nat), eT2II q.1])) (q := fun x_2 => ((decide (x_2.1.1 ∈ places)) && (decide (x_2.1.2 ∈ places)))) (g := fun (x_2 : (Int × Int) × Nat) => (x_2.2 : Int)) (se := fun y => .val (PyData.int y)) (JSrc.enW m.enumerate (JE.ixT (JE.var (i := 0) rfl ⟨.inl ⟨_, rfl⟩, _, _, .own (.tup (ds := [PyData.int web_here.1, eWT2II web_here.2])), rfl, ⟨_, web_here.2, rfl, (soW (xs := web_here.2) (e := eT2II)), ⟨(web_here.2.zipIdx), rfl, (.hole rfl (.hole rfl (.hole rfl .nil))), fun x_2 => ⟨[.val (eT2IWT2II web_here), .val (eLLI parting_here), .val (eLI places), .val (eLI r_3.1), .val (PyData.int (x_2.2 : Int)), .val (PyData.int x_2.1.1), .val (PyData.int x_2.1.2)], Le.refl, fun s H Ca cl fp => JG.tupV B.calm (JGs.cons (JG.name (i := 4) (JGs.cons (JG.tupV B.calm (JGs.cons (JG.name (i := 5) (JGs.cons (JG.name (i := 6) (JGs.nil (JGs.nil rfl)) sc_due.nd)) sc_due.nd)))) sc_due.nd)), fun s H Ca cl fp => (JCt.bop (JWt.and (JCt.cmp (Cmp.inT (e := PyData.int) eokI (by decide) B.room (JE.var (i := 5) rfl ⟨.inl ⟨_, rfl⟩, JE.var (i := 2) rfl ⟨x_2.1.1, places, (.own .val), (.own .val), ⟨rfl, rfl⟩⟩⟩))) fun _ => (JWt.and1 (JCt.cmp (Cmp.inT (e := PyData.int) eokI (by decide) B.room (JE.var (i := 6) rfl ⟨.inl ⟨_, rfl⟩, JE.var (i := 2) rfl ⟨x_2.1.2, places, (.own .val), (.own .val), ⟨rfl, rfl⟩⟩⟩)))))), fun s H Ca cl fp => JE.var (i := 4) rfl ⟨rfl, rfl⟩⟩, ⟨_, _, rfl, (.lst (.map fun _ => .val)), ⟨[_, _], rfl, Nat.le_of_ble_eq_true rfl, ?_⟩⟩⟩⟩⟩)))))
  dsimp only
  generalize (((web_here.2.zipIdx).filter fun x_2 => ((decide (x_2.1.1 ∈ places)) && (decide (x_2.1.2 ∈ places)))).map fun (x_2 : (Int × Int) × Nat) => (x_2.2 : Int)) = zs
  exact ⟨(eLLI [r_3.1, zs]), _, (.own (.lst (.cons .val (.cons .val .nil)))), rfl, gd_ok, ⟨(eLLI [r_3.1, zs]).shown, _, _, rfl, rfl, rfl, by exact (.drop (.drop (.drop (.drop (.drop (.drop (.drop .nil)))))))⟩⟩
end
theorem h_due {X : Cx} (m : Md X.K X.mg) : Has X "_law_due" 2 (fun a : (Int × (List (Int × Int))) × List (List Int) × List Int => [.val (eT2IWT2II a.1), .val (eLLI a.2.1), .val (eLI a.2.2)]) (fun a => m_due a.1 a.2.1 a.2.2) (fun _ r => .val (PyData.str r)) (fun _ r => [.hole, .hole, .hole]) (fun _ => [.hole, .hole, .hole]) :=
  has_of (ps := ["_law_web_here", "_law_parting_here", "_law_places"]) m.f_due (fun f fd F => g_due F m) (fun f fd F => F.bindsN fun _ _ _ _ _ _ us hl => match us, hl with | [_, _, _], _ => rfl) (fun _ _ => .val) (fun _ _ => (.cons .hole (.cons .hole (.cons .hole .nil)))) (fun _ => (.cons .hole (.cons .hole (.cons .hole .nil)))) (fun a e h => absurd h (m_due_nex _ _ _ e))
def c_ties_right_48 (web_here : Int × (List (Int × Int))) (places : List Int) (x_5 : PyData) : Res (Option Str × Unit) := (m_between_2 web_here x_5).bind fun r_5 => (m_inside_2 web_here places).bind fun r_6 => gd (showOk (eLLI [r_5, r_6]) = true) (.ok (some ((eLLI [r_5, r_6]).shown), ()))
def m_ties_right (web_here : Int × (List (Int × Int))) (parting_here : List (List Int)) (places : List Int) : Res Bool := (m_due web_here parting_here places).bind fun r => (m_between web_here parting_here).bind fun r_2 => (m_inside web_here places).bind fun r_3 => (gd (showOk (eULLILI (r_2, r_3)) = true) (cond (!decide ((eULLILI (r_2, r_3)).shown = r)) (.ok true) (.ok (!decide ((parting_here, places) = (parting_here, places)))))).bind fun c => cond c (.ok false) ((appAt parting_here 0 web_here.1).bind fun r_4 => gd (r_2.length < 16000000) (bindv ((parting_here.zipIdx).map fun (x_2 : List Int × Nat) => (cond (decide (((x_2.2 : Int) % 2) = 0)) (eWI x_2.1) (eLI x_2.1))) fun mixed => bindv [(eWWI parting_here), (eLX mixed), (eWLI parting_here)] fun others => (compL (fun x' _ => c_ties_right_48 web_here places x') others ()).bind fun r_7 => gd (SeqAt.shaped (eLS r_7.1) = true ∧ SeqAt.shaped (eLS (repD (3 : Int).toNat [r])) = true) (.ok (PyData.eqv (eLS r_7.1) (eLS (repD (3 : Int).toNat [r]))))))
theorem m_ties_right_nex (web_here : Int × (List (Int × Int))) (parting_here : List (List Int)) (places : List Int) : ∀ e, m_ties_right web_here parting_here places ≠ .ex e := nex_bind (m_due_nex _ _ _) fun _ => nex_bind (m_between_nex _ _) fun _ => nex_bind (m_inside_nex _ _) fun _ => nex_bind (nex_gd (nex_cond (nex_ok) (nex_ok))) fun _ => nex_cond (nex_ok) (nex_bind appAt_nex fun _ => nex_gd (nex_bindv fun _ => nex_bindv fun _ => nex_bind (compL_nex _ _) fun _ => nex_gd (nex_ok)))
theorem sc_ties_right : FnScope ["_law_web_here", "_law_parting_here", "_law_places", "_law_due_here", "_law_handed", "_law_part", "_law_told", "_law_mixed", "_law_k", "_law_others", "_law_other_here"] ["_law_web_here", "_law_parting_here", "_law_places"] (defScope s_ties_right) := ⟨rfl, rfl, rfl, by decide +kernel, rfl, by decide +kernel, by decide +kernel⟩
section
variable {P : Program} {w : World} {K : PySem.W.Frag} {mg : Str → Option Value} {base : Heap} {f : Addr} {fd : FuncData}
theorem g_ties_right (F : FnP K "_law_ties_right" s_ties_right f fd) (m : Md K mg) : FnG P w K mg base 3 f fd ["_law_web_here", "_law_parting_here", "_law_places"] (SpM K (fun a : (Int × (List (Int × Int))) × List (List Int) × List Int => [.val (eT2IWT2II a.1), .val (eLLI a.2.1), .val (eLI a.2.2)]) (fun a => m_ties_right a.1 a.2.1 a.2.2) (fun _ r => .val (PyData.bool r)) (fun _ r => [.hole, .hole, .hole]) (fun _ => [.hole, .hole, .hole])) := by
  refine fnG_of (n := 8) F sc_ties_right (fun _ => rfl) rfl (fun _ _ => .val) (fun _ _ => (.cons .hole (.cons .hole (.cons .hole .nil)))) (fun _ => (.cons .hole (.cons .hole (.cons .hole .nil)))) (fun a e h => absurd h (m_ties_right_nex _ _ _ e)) fun cdv A outer s H vs E G a hvs B => ?_
  obtain ⟨web_here, parting_here, places⟩ := a
  match vs, hvs with
  | [_, _, _], _ => ?_
  refine ⟨[.val (eT2IWT2II web_here), .val (eLLI parting_here), .val (eLI places)], [.hole, .hole, .hole, .hole, .hole, .hole, .hole, .hole, .hole, .hole, .hole], fun r => [.hole, .hole, .hole, .hole, .hole, .hole, .hole, .hole, .hole, .hole, .hole], (.keep (.keep (.keep .nil))), fun _ => (.hole (.hole (.hole .nil))), (.hole (.hole (.hole .nil))), ?_⟩
  show JL _ _ [.val (eT2IWT2II web_here), .val (eLLI parting_here), .val (eLI places), .hole, .hole, .hole, .hole, .hole, .hole, .hole, .hole] _ _ _ _
  refine JL.cons (JS.set (i := 3) sc_ties_right.nd (JE.callN (h_due m) (B.room.mono (by decide)) B.pass (JA.cons (pt := false) (JE.var (i := 0) rfl ⟨.inl ⟨_, rfl⟩, fun z => z, JA.cons (pt := false) (JE.var (i := 1) rfl ⟨.inl ⟨_, rfl⟩, fun z => z, JA.one (JE.var (i := 2) rfl (Args.plain (web_here, parting_here, places) _ [false, false, false] (.own (.own (.own .nil))) rfl rfl rfl (fun e z => absurd z (m_due_nex _ _ _ e)) fun r _ => ⟨_, rfl, Nat.le_of_ble_eq_true rfl, ?h1⟩))⟩)⟩))))
  show JL _ _ [.val (eT2IWT2II web_here), .val (eLLI parting_here), .val (eLI places), .val (PyData.str r), .hole, .hole, .hole, .hole, .hole, .hole, .hole] _ _ _ _
  refine JL.cons (JS.set (i := 4) sc_ties_right.nd (JE.lstD (JA.cons (pt := false) (JE.ofLc (own' := [("_law_part", 5)]) B.calm sc_ties_right.nd (blkOk_by (by kernel_rfl)) (JT.compPI (sd := fun x => .val (eLI x)) (se := fun y => slvI y) (JSrc.lst (JE.var (i := 1) rfl ⟨_, _, rfl, (soL (xs := parting_here) (e := eLI)), ⟨parting_here, rfl, (.hole rfl .nil), fun x => ⟨[.val (eT2IWT2II web_here), .val (eLLI parting_here), .val (eLI places), .val (PyData.str r), .hole, .val (eLI x), .hole, .hole, .hole, .hole, .hole], Le.refl, fun s H Ca cl fp => JG.name (i := 5) rfl sc_ties_right.nd, fun s H Ca cl fp => JE.listOf m.list (JE.var (i := 5) rfl ⟨false, _, (.own (soL (xs := x) (e := PyData.int))), ⟨rfl, rfl⟩⟩)⟩, ⟨.inl ⟨_, rfl⟩, fun z => z, JA.one (JE.listOf m.list (JE.var (i := 2) rfl ⟨false, _, (.own (soL (xs := places) (e := PyData.int))), ⟨[_, _], rfl, Nat.le_of_ble_eq_true rfl, ⟨_, rfl, Nat.le_of_ble_eq_true rfl, ?h2⟩⟩⟩))⟩⟩⟩)))))))
  show JL _ _ [.val (eT2IWT2II web_here), .val (eLLI parting_here), .val (eLI places), .val (PyData.str r), .lst [sllvI parting_here, slvI places], .hole, .hole, .hole, .hole, .hole, .hole] _ _ _ _
  refine JL.cons (JS.set (i := 6) sc_ties_right.nd (JE.lstD (JA.cons (pt := false) (JE.callP (h_between m) (B.room.mono (by decide)) B.pass (JA.cons (pt := false) (JE.var (i := 0) rfl ⟨.inl ⟨_, rfl⟩, fun z => z, JA.one (JE.plPin (PlE.ix 0 (PlE.name (i := 4))) (Pl.lst (n := 0) (Pl.var (i := 4) rfl (fun z => nomatch z)) rfl) fun pv => ArgsP.step (j := 1) rfl rfl (Pl.lst (n := 0) (Pl.var (i := 4) rfl (fun z => nomatch z)) rfl) (.base ⟨(web_here, parting_here), _, [false, false], _, _, _, .nil, (.own (.lend (i := 11) rfl (.pin (.lst (.map fun _ => (.lst (.map fun _ => .val))))) .nil)), (List.append_nil _).symm, rfl, fun e z => absurd z (m_between_nex _ _ e), ft, fun r_2 _ => ⟨[.val (eT2IWT2II web_here), .val (eLLI parting_here), .val (eLI places), .val (PyData.str r), .lst [.pin pv .hole, slvI places], .hole, .hole, .hole, .hole, .hole, .hole], _, _, ⟨_, rfl⟩, rfl, (Pl.lst (n := 0) (Pl.var (i := 4) rfl (fun z => nomatch z)) rfl), ⟨.inl ⟨_, rfl⟩, fun z => z, JA.one (JE.callP (h_inside m) (B.room.mono (by decide)) B.pass (JA.cons (pt := false) (JE.var (i := 0) rfl ⟨.inl ⟨_, rfl⟩, fun z => z, JA.one (JE.plPin (PlE.ix 1 (PlE.name (i := 4))) (Pl.lst (n := 1) (Pl.var (i := 4) rfl (fun z => nomatch z)) rfl) fun pv_2 => ArgsP.step (j := 1) rfl rfl (Pl.lst (n := 1) (Pl.var (i := 4) rfl (fun z => nomatch z)) rfl) (.base ⟨(web_here, places), _, [false, false], _, _, _, .nil, (.own (.lend (i := 11) rfl (.pin (.lst (.map fun _ => .val))) .nil)), (List.append_nil _).symm, rfl, fun e z => absurd z (m_inside_nex _ _ e), ft, fun r_3 _ => ⟨[.val (eT2IWT2II web_here), .val (eLLI parting_here), .val (eLI places), .val (PyData.str r), .lst [sllvI parting_here, .pin pv_2 .hole], .hole, .hole, .hole, .hole, .hole, .hole], _, _, ⟨_, rfl⟩, rfl, (Pl.lst (n := 1) (Pl.var (i := 4) rfl (fun z => nomatch z)) rfl), ⟨[_, _], rfl, Nat.le_of_ble_eq_true rfl, ⟨_, rfl, Nat.le_of_ble_eq_true rfl, ?h3⟩⟩⟩⟩))⟩)))⟩⟩⟩))⟩))))))
  show JL _ _ [.val (eT2IWT2II web_here), .val (eLLI parting_here), .val (eLI places), .val (PyData.str r), .lst [sllvI parting_here, slvI places], .hole, .lst [slvI r_2, slvI r_3], .hole, .hole, .hole, .hole] _ _ _ _
  refine JL.cons (JS.ite (JC.all (m := gd (showOk (eULLILI (r_2, r_3)) = true) (cond (!decide ((eULLILI (r_2, r_3)).shown = r)) (.ok true) (.ok (!decide ((parting_here, places) = (parting_here, places)))))) (by first | with_reducible rfl | rfl) (JC.bop (JW.or (JC.cmp (Cmp.neS B.room (JE.repr B.room m.repr (JE.slot (i := 6) rfl ⟨(eULLILI (r_2, r_3)), _, (.at (i := 6) rfl (.lst (.cons (.lst (.map fun _ => .val)) (.cons (.lst (.map fun _ => .val)) .nil)))), rfl, gd_ok, ⟨_, rfl, JE.var (i := 3) rfl ⟨_, rfl, ⟨_, rfl, ⟨_, _, rfl, fun _ => ⟨rfl, rfl⟩, fun _ => JW.or1 (JC.tot (JCt.cmp (Cmp.neT (e := eULLLILI) (eokU2 (eokL (eokL eokI)) (eokL eokI)) (by decide) B.room (JE.slot (i := 4) rfl ⟨.inr ⟨_, rfl⟩, JE.lstD (JA.cons (pt := true) (JE.var (i := 1) rfl ⟨.inl ⟨_, rfl⟩, fun z => z, JA.one (JE.var (i := 2) rfl ⟨[_, _], rfl, Nat.le_of_ble_eq_true rfl, ⟨(parting_here, places), (parting_here, places), (.at (i := 4) rfl (.lst (.cons (.lst (.map fun _ => (.lst (.map fun _ => .val)))) (.cons (.lst (.map fun _ => .val)) .nil)))), (.own (.lst (.cons .val (.cons .val .nil)))), ⟨rfl, rfl⟩⟩⟩)⟩))⟩))) ⟨rfl, rfl⟩)⟩⟩⟩⟩⟩)))))) fun c _ => ⟨_, _, rfl, fun _ => ?h4, fun _ => ?h5⟩))
  case h4 =>
    exact JL.cons (JS.ret (JE.bl ⟨false, _, _, rfl, rfl, rfl, (by exact (.drop (.drop (.drop (.drop (.drop (.drop (.drop (.drop (.drop (.drop (.drop .nil))))))))))))⟩))
  case h5 =>
    refine JL.nil ?_
    show JL _ _ [.val (eT2IWT2II web_here), .val (eLLI parting_here), .val (eLI places), .val (PyData.str r), .lst [sllvI parting_here, slvI places], .hole, .lst [slvI r_2, slvI r_3], .hole, .hole, .hole, .hole] _ _ _ _
    refine JL.cons (JS.expr (JE.appAtC (g' := svI) (xss := parting_here) (nn := 0) (y := web_here.1) (PlE.ix 0 (PlE.name (i := 4))) (Pl.lst (n := 0) (Pl.var (i := 4) rfl (fun z => nomatch z)) rfl) (fun t => JE.ixT (JE.var (i := 0) rfl ⟨.inl ⟨_, rfl⟩, _, _, .own (.tup (ds := [PyData.int web_here.1, eWT2II web_here.2])), rfl, ⟨rfl, rfl⟩⟩)) rfl fun r_4 => ?_))
    show JL _ _ [.val (eT2IWT2II web_here), .val (eLLI parting_here), .val (eLI places), .val (PyData.str r), .lst [sllvI r_4, slvI places], .hole, .lst [slvI r_2, slvI r_3], .hole, .hole, .hole, .hole] _ _ _ _
    refine JL.cons (JS.expr (JE.appendPW (f := svI) (xs := r_2) (y := (-1)) (PlE.ix 0 (PlE.name (i := 6))) (Pl.lst (n := 0) (Pl.var (i := 6) rfl (fun z => nomatch z)) rfl) (JE.neg (JE.int ⟨_, rfl, ⟨rfl, rfl⟩⟩)) gd_ok ?h6))
    show JL _ _ [.val (eT2IWT2II web_here), .val (eLLI parting_here), .val (eLI places), .val (PyData.str r), .lst [sllvI r_4, slvI places], .hole, .lst [slvI (r_2 ++ [(-1)]), slvI r_3], .hole, .hole, .hole, .hole] _ _ _ _
    refine JL.cons (JS.expr (JE.clearP (PlE.ix 1 (PlE.name (i := 6))) (Pl.lst (n := 1) (Pl.var (i := 6) rfl (fun z => nomatch z)) rfl) ?h7))
    show JL _ _ [.val (eT2IWT2II web_here), .val (eLLI parting_here), .val (eLI places), .val (PyData.str r), .lst [sllvI r_4, slvI places], .hole, .lst [slvI (r_2 ++ [(-1)]), slvI ([] : List Int)], .hole, .hole, .hole, .hole] _ _ _ _
    refine JL.cons (JS.ofLc (i := 7) (own' := [("_law_k", 8), ("_law_part", 5)]) B.calm sc_ties_right.nd (blkOk_by (by kernel_rfl)) (JT.frz (JT.compP (sd := fun q => .val (.tuple [.int (q.2 : Nat), eLI q.1])) (g := fun (x_2 : List Int × Nat) => (cond (decide (((x_2.2 : Int) % 2) = 0)) (eWI x_2.1) (eLI x_2.1))) (se := fun y => .val (eX y)) (JSrc.enL m.enumerate (JE.var (i := 1) rfl ⟨_, parting_here, rfl, (soL (xs := parting_here) (e := eLI)), ⟨(parting_here.zipIdx), rfl, (.hole rfl (.hole rfl .nil)), fun x_2 => ⟨[.val (eT2IWT2II web_here), .val (eLLI parting_here), .val (eLI places), .val (PyData.str r), .lst [sllvI r_4, slvI places], .val (eLI x_2.1), .lst [slvI (r_2 ++ [(-1)]), slvI ([] : List Int)], .hole, .val (PyData.int (x_2.2 : Int)), .hole, .hole], Le.refl, fun s H Ca cl fp => JG.tupV B.calm (JGs.cons (JG.name (i := 8) (JGs.cons (JG.name (i := 5) (JGs.nil rfl) sc_ties_right.nd)) sc_ties_right.nd)), fun s H Ca cl fp => JE.tot (JVt.ifT (e := eX) (JCt.cmp (Cmp.eqI (JE.mod (JE.var (i := 8) rfl ⟨_, rfl, JE.int ⟨_, rfl, prI (by decide) ⟨_, rfl, JE.int ⟨_, rfl, ⟨rfl, rfl⟩⟩⟩⟩⟩)))) (JT.frz (JE.tupleL m.tuple (JE.var (i := 5) rfl ⟨_, (.own (soL (xs := x_2.1) (e := PyData.int))), _, _, rfl, .tup (.map fun _ => .val), ⟨rfl, rfl⟩⟩))) (JT.frz (JE.listOf m.list (JE.var (i := 5) rfl ⟨false, _, (.own (soL (xs := x_2.1) (e := PyData.int))), ⟨_, _, rfl, (.lst (.map fun _ => .val)), ⟨rfl, rfl⟩⟩⟩)))) ⟨rfl, rfl⟩⟩, ⟨_, _, rfl, (.lst (.map fun _ => .val)), ⟨_, rfl, Nat.le_of_ble_eq_true rfl, ?h8⟩⟩⟩⟩)))))
    refine JL.letv (Γf := fun mixed => [.val (eT2IWT2II web_here), .val (eLLI parting_here), .val (eLI places), .val (PyData.str r), .lst [sllvI r_4, slvI places], .hole, .lst [slvI (r_2 ++ [(-1)]), slvI ([] : List Int)], .val (eLX mixed), .hole, .hole, .hole]) ((parting_here.zipIdx).map fun (x_2 : List Int × Nat) => (cond (decide (((x_2.2 : Int) % 2) = 0)) (eWI x_2.1) (eLI x_2.1))) fun mixed => ?_
    show JL _ _ [.val (eT2IWT2II web_here), .val (eLLI parting_here), .val (eLI places), .val (PyData.str r), .lst [sllvI r_4, slvI places], .hole, .lst [slvI (r_2 ++ [(-1)]), slvI ([] : List Int)], .val (eLX mixed), .hole, .hole, .hole] _ _ _ _
    refine JL.cons (JS.set (i := 9) sc_ties_right.nd (JT.frz (JE.lstD (JA.cons (pt := false) (JT.frz (JE.tupleL m.tuple (JE.ofLc (own' := [("_law_part", 5)]) B.calm sc_ties_right.nd (blkOk_by (by kernel_rfl)) (JT.compPI (sd := fun x => .val (eLI x)) (se := fun y => .val (eWI y)) (JSrc.lst (JE.var (i := 1) rfl ⟨_, _, rfl, (soL (xs := parting_here) (e := eLI)), ⟨parting_here, rfl, (.hole rfl .nil), fun x_3 => ⟨[.val (eT2IWT2II web_here), .val (eLLI parting_here), .val (eLI places), .val (PyData.str r), .lst [sllvI r_4, slvI places], .val (eLI x_3), .lst [slvI (r_2 ++ [(-1)]), slvI ([] : List Int)], .val (eLX mixed), .hole, .hole, .hole], Le.refl, fun s H Ca cl fp => JG.name (i := 5) rfl sc_ties_right.nd, fun s H Ca cl fp => JT.frz (JE.tupleL m.tuple (JE.var (i := 5) rfl ⟨_, (.own (soL (xs := x_3) (e := PyData.int))), _, _, rfl, .tup (.map fun _ => .val), ⟨rfl, rfl⟩⟩))⟩, ⟨_, (.own (soM (xs := parting_here) (e := eWI))), _, _, rfl, .tup (.map fun _ => .val), ⟨.inl ⟨_, rfl⟩, fun z => z, JA.cons (pt := false) (JE.var (i := 7) rfl ⟨.inl ⟨_, rfl⟩, fun z => z, JA.one (JT.frz (JE.tupleL m.tuple (JT.frz (JE.ofLc (own' := [("_law_part", 5)]) B.calm sc_ties_right.nd (blkOk_by (by kernel_rfl)) (JT.compPI (sd := fun x => .val (eLI x)) (se := fun y => slvI y) (JSrc.lst (JE.var (i := 1) rfl ⟨_, _, rfl, (soL (xs := parting_here) (e := eLI)), ⟨parting_here, rfl, (.hole rfl .nil), fun x_4 => ⟨[.val (eT2IWT2II web_here), .val (eLLI parting_here), .val (eLI places), .val (PyData.str r), .lst [sllvI r_4, slvI places], .val (eLI x_4), .lst [slvI (r_2 ++ [(-1)]), slvI ([] : List Int)], .val (eLX mixed), .hole, .hole, .hole], Le.refl, fun s H Ca cl fp => JG.name (i := 5) rfl sc_ties_right.nd, fun s H Ca cl fp => JE.listOf m.list (JE.var (i := 5) rfl ⟨false, _, (.own (soL (xs := x_4) (e := PyData.int))), ⟨rfl, rfl⟩⟩)⟩, ⟨_, _, rfl, (.lst (.map fun _ => (.lst (.map fun _ => .val)))), ⟨_, (.own (soL (xs := parting_here) (e := eLI))), _, _, rfl, .tup (.map fun _ => .val), ⟨[_, _, _], rfl, Nat.le_of_ble_eq_true rfl, ⟨_, _, rfl, (.lst (.cons .val (.cons .val (.cons .val .nil)))), ⟨_, rfl, Nat.le_of_ble_eq_true rfl, ?h9⟩⟩⟩⟩⟩⟩⟩)))))))⟩)⟩⟩⟩⟩))))))))))
    refine JL.letv (Γf := fun others => [.val (eT2IWT2II web_here), .val (eLLI parting_here), .val (eLI places), .val (PyData.str r), .lst [sllvI r_4, slvI places], .hole, .lst [slvI (r_2 ++ [(-1)]), slvI ([] : List Int)], .val (eLX mixed), .hole, .val (eLX others), .hole]) [(eWWI parting_here), (eLX mixed), (eWLI parting_here)] fun others => ?_
    show JL _ _ [.val (eT2IWT2II web_here), .val (eLLI parting_here), .val (eLI places), .val (PyData.str r), .lst [sllvI r_4, slvI places], .hole, .lst [slvI (r_2 ++ [(-1)]), slvI ([] : List Int)], .val (eLX mixed), .hole, .val (eLX others), .hole] _ _ _ _
    exact JL.cons (JS.ret (JE.cmp (Cmp.eq B.room.lines64 (JE.ofLc (own' := [("_law_other_here", 10)]) B.calm sc_ties_right.nd (blkOk_by (by kernel_rfl)) (JT.comp (JSrc.lst (JE.var (i := 9) rfl ⟨_, _, rfl, (soL (xs := others) (e := eX)), ⟨PyData, Str, Unit, others, fun x => .val (eX x), fun x' _ => c_ties_right_48 web_here places x', (), fun _ => [.val (eT2IWT2II web_here), .val (eLLI parting_here), .val (eLI places), .val (PyData.str r), .lst [sllvI r_4, slvI places], .hole, .lst [slvI (r_2 ++ [(-1)]), slvI ([] : List Int)], .val (eLX mixed), .hole, .val (eLX others), .hole], fun y => .val (PyData.str y), _, rfl, rfl, Le.refl, ft, fun _ => (.hole rfl .nil), fun x_5 _ => ⟨[.val (eT2IWT2II web_here), .val (eLLI parting_here), .val (eLI places), .val (PyData.str r), .lst [sllvI r_4, slvI places], .hole, .lst [slvI (r_2 ++ [(-1)]), slvI ([] : List Int)], .val (eLX mixed), .hole, .val (eLX others), .val (eX x_5)], Le.refl, fun s H Ca cl fp => JG.name (i := 10) rfl sc_ties_right.nd, fun s H Ca cl fp => JE.repr B.room m.repr (JE.lstD (JA.cons (pt := false) (JT.frz (JE.callN (h_between_2 m) (B.room.mono (by decide)) passN (JA.cons (pt := false) (JE.var (i := 0) rfl ⟨.inl ⟨_, rfl⟩, fun z => z, JA.one (JE.var (i := 10) rfl (Args.plain (web_here, x_5) _ [false, false] (.own (.own .nil)) rfl rfl rfl (fun e z => absurd z (m_between_2_nex _ _ e)) fun r_5 _ => ⟨_, _, rfl, (.lst (.map fun _ => .val)), ⟨.inl ⟨_, rfl⟩, fun z => z, JA.one (JT.frz (JE.callN (h_inside_2 m) (B.room.mono (by decide)) passN (JA.cons (pt := false) (JE.var (i := 0) rfl ⟨.inl ⟨_, rfl⟩, fun z => z, JA.one (JT.frz (JE.tupleL m.tuple (JE.var (i := 2) rfl ⟨_, (.own (soL (xs := places) (e := PyData.int))), _, _, rfl, .tup (.map fun _ => .val), Args.plain (web_here, places) _ [false, false] (.own (.ownR .val .nil)) rfl rfl rfl (fun e z => absurd z (m_inside_2_nex _ _ e)) fun r_6 _ => ⟨_, _, rfl, (.lst (.map fun _ => .val)), ⟨[_, _], rfl, Nat.le_of_ble_eq_true rfl, ⟨(eLLI [r_5, r_6]), _, (.own (.lst (.cons .val (.cons .val .nil)))), rfl, gd_ok, ⟨(eLLI [r_5, r_6]).shown, (), rfl, rfl, Le.refl⟩⟩⟩⟩⟩)))⟩))))⟩⟩))⟩))))))⟩, fun r_7 _ => ⟨.inl ⟨_, rfl⟩, JE.repL (e := PyData.str) (JE.lstD (JA.one (JE.var (i := 3) rfl ⟨[_], rfl, Nat.le_of_ble_eq_true rfl, ⟨_, rfl, JE.int ⟨[r], 3, rfl, rfl, ⟨by decide, by decide, Nat.le_of_ble_eq_true rfl⟩, ⟨eLS r_7.1, eLS (repD (3 : Int).toNat [r]), _, (.own (.lst (.map fun _ => .val))), (.own (.lst (.map fun _ => .val))), gd_ok, ⟨PyData.eqv (eLS r_7.1) (eLS (repD (3 : Int).toNat [r])), _, _, rfl, rfl, rfl, (by exact (.drop (.drop (.drop (.drop (.drop (.drop (.drop (.drop (.drop (.drop (.drop .nil))))))))))))⟩⟩⟩⟩⟩)))⟩⟩⟩)))))))
end
theorem h_ties_right {X : Cx} (m : Md X.K X.mg) : Has X "_law_ties_right" 3 (fun a : (Int × (List (Int × Int))) × List (List Int) × List Int => [.val (eT2IWT2II a.1), .val (eLLI a.2.1), .val (eLI a.2.2)]) (fun a => m_ties_right a.1 a.2.1 a.2.2) (fun _ r => .val (PyData.bool r)) (fun _ r => [.hole, .hole, .hole]) (fun _ => [.hole, .hole, .hole]) :=
  has_of (ps := ["_law_web_here", "_law_parting_here", "_law_places"]) m.f_ties_right (fun f fd F => g_ties_right F m) (fun f fd F => F.bindsN fun _ _ _ _ _ _ us hl => match us, hl with | [_, _, _], _ => rfl) (fun _ _ => .val) (fun _ _ => (.cons .hole (.cons .hole (.cons .hole .nil)))) (fun _ => (.cons .hole (.cons .hole (.cons .hole .nil)))) (fun a e h => absurd h (m_ties_right_nex _ _ _ e))
def c_law_2 (x_2 : Int) (t : Int × Int) : Res (Option Int × (Int × Int)) := ((m_take t 2).bind fun r_4 => .ok (decide (r_4.1 = 1), r_4.2) : Res (Bool × (Int × Int))).bind fun r' => cond r'.1 ((fun u => .ok (some x_2, u)) r'.2) (.ok (none, r'.2))
def c_law_10 (r_2 : (Int × (List (Int × Int))) × (Int × Int)) (r_3 : List (List Int) × (Int × Int)) (x_4 : Int) (t_3 : Int × Int) : Res (Option PyData × (Int × Int)) := (m_other t_3 r_3.1 r_2.1.1).bind fun r_6 => .ok (some r_6.1, r_6.2)
def c_law_24 (r_2 : (Int × (List (Int × Int))) × (Int × Int)) (x_5 : PyData) : Res (Option Bool × Unit) := (m_judged r_2.1 x_5).bind fun r_8 => .ok (some r_8, ())
def f_law_25 (script : List Int) (x : Int) (elder_2 : (Int × (List (Int × Int))) × List (List Int) × List Int) : Res (Lp ((Int × (List (Int × Int))) × List (List Int) × List Int) Bool) := (m_pot script x).bind fun r => (m_web r).bind fun r_2 => (m_parting r_2.2 r_2.1.1).bind fun r_3 => gd (rngOk 0 r_2.1.1) ((compL (fun x' t_2 => c_law_2 x' t_2) (rangeL 0 r_2.1.1) r_3.2).bind fun r_5 => bindv [(eLLI r_3.1), (eWLI r_3.1), (eWWI r_3.1)] fun things => gd (rngOk 0 4) ((compL (fun x' t_4 => c_law_10 r_2 r_3 x' t_4) (rangeL 0 4) r_5.2).bind fun r_7 => gd (things.length + r_7.1.length ≤ 16000000) (bindv (things ++ r_7.1) fun things_2 => ((compL (fun x' _ => c_law_24 r_2 x') things_2 ()).bind fun r_9 => .ok (!(r_9.1.all id))).bind fun c => cond c (.ok (.rt false)) (((m_ties_right r_2.1 r_3.1 r_5.1).bind fun r_10 => cond (!r_10) (.ok true) ((m_ties_right elder_2.1 elder_2.2.1 elder_2.2.2).bind fun r_11 => .ok (!r_11))).bind fun c_2 => cond c_2 (.ok (.rt false)) (bindv (r_2.1, r_3.1, r_5.1) fun elder_3 => .ok (.nx elder_3))))))
def m_law (script : List Int) : Res Bool := bindv ((1, ([] : List (Int × Int))), [[0]], ([] : List Int)) fun elder => gd (rngOk 0 (max 1 (min 8 (script.length : Int)))) ((forL (fun x' t_6 => f_law_25 script x' t_6) (rangeL 0 (max 1 (min 8 (script.length : Int)))) elder).bind (orW fun elder_4 => .ok true))
theorem m_law_nex (script : List Int) : ∀ e, m_law script ≠ .ex e := nex_bindv fun _ => nex_gd (nex_bind (forL_nex (fun _ _ => nex_bind (m_pot_nex _ _) fun _ => nex_bind (m_web_nex _) fun _ => nex_bind (m_parting_nex _ _) fun _ => nex_gd (nex_bind (compL_nex _ _) fun _ => nex_bindv fun _ => nex_gd (nex_bind (compL_nex _ _) fun _ => nex_gd (nex_bindv fun _ => nex_bind (nex_bind (compL_nex _ _) fun _ => nex_ok) fun _ => nex_cond (nex_ok) (nex_bind (nex_bind (m_ties_right_nex _ _ _) fun _ => nex_cond (nex_ok) (nex_bind (m_ties_right_nex _ _ _) fun _ => nex_ok)) fun _ => nex_cond (nex_ok) (nex_bindv fun _ => nex_ok)))))) _ _) (nex_orW fun _ => nex_ok))
theorem sc_law : FnScope ["_law_script", "_law_elder", "_law_k", "_law_pot_here", "_law_web_here", "_law_parting_here", "_law_places", "_law_place", "_law_things", "_law_part", "_law_turn", "_law_thing"] ["_law_script"] (defScope s_law) := ⟨rfl, rfl, rfl, by decide +kernel, rfl, by decide +kernel, by decide +kernel⟩
section
variable {P : Program} {w : World} {K : PySem.W.Frag} {mg : Str → Option Value} {base : Heap} {f : Addr} {fd : FuncData}
theorem g_law (F : FnP K "law" s_law f fd) (m : Md K mg) : FnG P w K mg base 6 f fd ["_law_script"] (SpM K (fun a : List Int => [.val (eLI a)]) (fun a => m_law a) (fun _ r => .val (PyData.bool r)) (fun _ r => [.hole]) (fun _ => [.hole])) := by
  refine fnG_of (n := 11) F sc_law (fun _ => rfl) rfl (fun _ _ => .val) (fun _ _ => (.cons .hole .nil)) (fun _ => (.cons .hole .nil)) (fun a e h => absurd h (m_law_nex _ e)) fun cdv A outer s H vs E G script hvs B => ?_
  match vs, hvs with
  | [_], _ => ?_
  refine ⟨[.val (eLI script)], [.hole, .hole, .hole, .hole, .hole, .hole, .hole, .hole, .hole, .hole, .hole, .hole], fun r => [.hole, .hole, .hole, .hole, .hole, .hole, .hole, .hole, .hole, .hole, .hole, .hole], (.keep .nil), fun _ => (.hole .nil), (.hole .nil), ?_⟩
  show JL _ _ [.val (eLI script), .hole, .hole, .hole, .hole, .hole, .hole, .hole, .hole, .hole, .hole, .hole] _ _ _ _
  refine JL.cons (JS.set (i := 1) sc_law.nd (JT.frz (JE.tupD (JA.cons (pt := false) (JT.frz (JE.tupD (JA.cons (pt := false) (JE.int ⟨.inl ⟨_, rfl⟩, fun z => z, JA.one (JT.frz (JE.tupD (JA.nil ⟨[], rfl, Nat.le_of_ble_eq_true rfl, _, _, rfl, .tup .nil, ⟨[_, _], rfl, Nat.le_of_ble_eq_true rfl, _, _, rfl, .tup (.cons .val (.cons .val .nil)), ⟨.inl ⟨_, rfl⟩, fun z => z, JA.cons (pt := false) (JE.lstD (JA.one (JT.frz (JE.lstD (JA.one (JE.int ⟨[_], rfl, Nat.le_of_ble_eq_true rfl, ⟨_, _, rfl, (.lst (.cons .val .nil)), ⟨[_], rfl, Nat.le_of_ble_eq_true rfl, ⟨.inl ⟨_, rfl⟩, fun z => z, JA.one (JE.lstD (JA.nil ⟨[], rfl, Nat.le_of_ble_eq_true rfl, ⟨[_, _, _], rfl, Nat.le_of_ble_eq_true rfl, ⟨_, _, rfl, (.tup (.cons .val (.cons (.lst (.cons .val .nil)) (.cons (.lst .nil) .nil)))), ⟨_, rfl, Nat.le_of_ble_eq_true rfl, ?h1⟩⟩⟩⟩))⟩⟩⟩⟩))))))⟩⟩⟩)))⟩))))))))
  refine JL.letv (Γf := fun elder => [.val (eLI script), .val (eT3T2IWT2IILLILI elder), .hole, .hole, .hole, .hole, .hole, .hole, .hole, .hole, .hole, .hole]) ((1, ([] : List (Int × Int))), [[0]], ([] : List Int)) fun elder => ?_
  show JL _ _ [.val (eLI script), .val (eT3T2IWT2IILLILI elder), .hole, .hole, .hole, .hole, .hole, .hole, .hole, .hole, .hole, .hole] _ _ _ _
  refine JL.cons (JS.for_ B.own B.calm (JSrc.rng1 m.range (JE.max2 B.calm m.max (JE.int ⟨_, rfl, JE.min2 B.calm m.min (JE.int ⟨_, rfl, JE.len m.len (JE.var (i := 0) rfl ⟨script.length, (.seq (.own (soL (xs := script) (e := PyData.int))) (List.length_map _)), ⟨_, rfl, ⟨_, rfl, ⟨_, rfl, gdI ⟨Int, (Int × (List (Int × Int))) × List (List Int) × List Int, (rangeL 0 (max 1 (min 8 (script.length : Int)))), fun i => .val (.int i), fun x' t_6 => f_law_25 script x' t_6, elder, fun elder_2 => [.val (eLI script), .val (eT3T2IWT2IILLILI elder_2), .hole, .hole, .hole, .hole, .hole, .hole, .hole, .hole, .hole, .hole], _, rfl, rfl, (.same (.same (.drop (.drop (.drop (.drop (.drop (.drop (.drop (.drop (.drop (.drop .nil)))))))))))), fun x elder_2 => ?h2, fun elder_4 => ?h3⟩⟩⟩⟩⟩)⟩)⟩))))
  case h2 =>
    refine JG.name (i := 2) ?_ sc_law.nd
    show JL _ _ [.val (eLI script), .val (eT3T2IWT2IILLILI elder_2), .val (PyData.int x), .hole, .hole, .hole, .hole, .hole, .hole, .hole, .hole, .hole] _ _ _ _
    refine JL.cons (JS.set (i := 3) sc_law.nd (JE.callN (h_pot m) (B.room.mono (by decide)) B.pass (JA.cons (pt := false) (JE.var (i := 0) rfl ⟨.inl ⟨_, rfl⟩, fun z => z, JA.one (JE.var (i := 2) rfl (Args.plain (script, x) _ [false, false] (.own (.own .nil)) rfl rfl rfl (fun e z => absurd z (m_pot_nex _ _ e)) fun r _ => ⟨_, rfl, Nat.le_of_ble_eq_true rfl, ?h4⟩))⟩))))
    show JL _ _ [.val (eLI script), .val (eT3T2IWT2IILLILI elder_2), .val (PyData.int x), potS r, .hole, .hole, .hole, .hole, .hole, .hole, .hole, .hole] _ _ _ _
    refine JL.cons (JS.set (i := 4) sc_law.nd (JE.callN (h_web m) (B.room.mono (by decide)) B.pass (JA.one (JE.slot (i := 3) rfl ⟨r, _, [true], _, _, _, (.cons rfl (.plain pot_ne) .nil), (.inout .nil), (List.append_nil _).symm, rfl, fun e z => absurd z (m_web_nex _ e), ft, fun r_2 _ => ⟨_, rfl, Nat.le_of_ble_eq_true rfl, ?h5⟩⟩))))
    show JL _ _ [.val (eLI script), .val (eT3T2IWT2IILLILI elder_2), .val (PyData.int x), potS r_2.2, .val (eT2IWT2II r_2.1), .hole, .hole, .hole, .hole, .hole, .hole, .hole] _ _ _ _
    refine JL.cons (JS.set (i := 5) sc_law.nd (JT.frz (JE.callN (h_parting m) (B.room.mono (by decide)) B.pass (JA.cons (pt := false) (JE.slot (i := 3) rfl ⟨.inr (.inl ⟨_, rfl⟩), fun z => z, JA.one (JE.ixT (JE.var (i := 4) rfl ⟨.inl ⟨_, rfl⟩, _, _, .own (.tup (ds := [PyData.int r_2.1.1, eWT2II r_2.1.2])), rfl, ⟨(r_2.2, r_2.1.1), _, [true, false], _, _, _, (.cons rfl (.plain pot_ne) .nil), (.inout (.own .nil)), (List.append_nil _).symm, rfl, fun e z => absurd z (m_parting_nex _ _ e), ft, fun r_3 _ => ⟨_, _, rfl, (.lst (.map fun _ => .val)), ⟨_, rfl, Nat.le_of_ble_eq_true rfl, ?h6⟩⟩⟩⟩))⟩)))))
    show JL _ _ [.val (eLI script), .val (eT3T2IWT2IILLILI elder_2), .val (PyData.int x), potS r_3.2, .val (eT2IWT2II r_2.1), .val (eLLI r_3.1), .hole, .hole, .hole, .hole, .hole, .hole] _ _ _ _
    refine JL.cons (JS.ofLc (i := 6) (own' := [("_law_place", 7)]) B.calm sc_law.nd (blkOk_by (by kernel_rfl)) (JT.frz (JT.comp (JSrc.rng1 m.range (JE.ixT (JE.var (i := 4) rfl ⟨.inl ⟨_, rfl⟩, _, _, .own (.tup (ds := [PyData.int r_2.1.1, eWT2II r_2.1.2])), rfl, ⟨_, rfl, gdI ⟨Int, Int, Int × Int, (rangeL 0 r_2.1.1), fun i => .val (.int i), fun x' t_2 => c_law_2 x' t_2, r_3.2, fun t => [.val (eLI script), .val (eT3T2IWT2IILLILI elder_2), .val (PyData.int x), potS t, .val (eT2IWT2II r_2.1), .val (eLLI r_3.1), .hole, .hole, .hole, .hole, .hole, .hole], fun y => .val (PyData.int y), _, rfl, rfl, Le.refl, ft, fun _ => (.hole rfl .nil), fun x_2 t => ⟨[.val (eLI script), .val (eT3T2IWT2IILLILI elder_2), .val (PyData.int x), potS t, .val (eT2IWT2II r_2.1), .val (eLLI r_3.1), .hole, .val (PyData.int x_2), .hole, .hole, .hole, .hole], Le.refl, fun s H Ca cl fp => JG.name (i := 7) rfl sc_law.nd, _, _, fun u => [.val (eLI script), .val (eT3T2IWT2IILLILI elder_2), .val (PyData.int x), potS u, .val (eT2IWT2II r_2.1), .val (eLLI r_3.1), .hole, .val (PyData.int x_2), .hole, .hole, .hole, .hole], rfl, fun _ => Le.refl, fun s H Ca cl fp => JC.cmp (Cmp.eqI (JE.callN (h_take m) (B.room.mono (by decide)) passN (JA.cons (pt := false) (JE.slot (i := 3) rfl ⟨.inr (.inl ⟨_, rfl⟩), fun z => z, JA.one (JE.int ⟨(t, 2), _, [true, false], _, _, _, (.cons rfl (.plain pot_ne) .nil), (.inout (.own .nil)), (List.append_nil _).symm, rfl, fun e z => absurd z (m_take_nex _ _ e), ft, fun r_4 _ => ⟨_, rfl, JE.int ⟨_, rfl, ⟨_, rfl, ⟨r_4.2, rfl, rfl⟩⟩⟩⟩⟩)⟩)))), fun u => fun s H Ca cl fp => JE.var (i := 7) rfl ⟨x_2, u, rfl, rfl, Le.refl⟩⟩, fun r_5 _ => ⟨_, _, rfl, (.lst (.map fun _ => .val)), ⟨_, rfl, Nat.le_of_ble_eq_true rfl, ?h7⟩⟩⟩⟩⟩))))))
    show JL _ _ [.val (eLI script), .val (eT3T2IWT2IILLILI elder_2), .val (PyData.int x), potS r_5.2, .val (eT2IWT2II r_2.1), .val (eLLI r_3.1), .val (eLI r_5.1), .hole, .hole, .hole, .hole, .hole] _ _ _ _
    refine JL.cons (JS.set (i := 8) sc_law.nd (JT.frz (JE.lstD (JA.cons (pt := false) (JE.var (i := 5) rfl ⟨.inl ⟨_, rfl⟩, fun z => z, JA.cons (pt := false) (JT.frz (JE.tupleL m.tuple (JE.var (i := 5) rfl ⟨_, (.own (soL (xs := r_3.1) (e := eLI))), _, _, rfl, .tup (.map fun _ => .val), ⟨.inl ⟨_, rfl⟩, fun z => z, JA.one (JT.frz (JE.tupleL m.tuple (JE.ofLc (own' := [("_law_part", 9)]) B.calm sc_law.nd (blkOk_by (by kernel_rfl)) (JT.compPI (sd := fun x => .val (eLI x)) (se := fun y => .val (eWI y)) (JSrc.lst (JE.var (i := 5) rfl ⟨_, _, rfl, (soL (xs := r_3.1) (e := eLI)), ⟨r_3.1, rfl, (.hole rfl .nil), fun x_3 => ⟨[.val (eLI script), .val (eT3T2IWT2IILLILI elder_2), .val (PyData.int x), potS r_5.2, .val (eT2IWT2II r_2.1), .val (eLLI r_3.1), .val (eLI r_5.1), .hole, .hole, .val (eLI x_3), .hole, .hole], Le.refl, fun s H Ca cl fp => JG.name (i := 9) rfl sc_law.nd, fun s H Ca cl fp => JT.frz (JE.tupleL m.tuple (JE.var (i := 9) rfl ⟨_, (.own (soL (xs := x_3) (e := PyData.int))), _, _, rfl, .tup (.map fun _ => .val), ⟨rfl, rfl⟩⟩))⟩, ⟨_, (.own (soM (xs := r_3.1) (e := eWI))), _, _, rfl, .tup (.map fun _ => .val), ⟨[_, _, _], rfl, Nat.le_of_ble_eq_true rfl, ⟨_, _, rfl, (.lst (.cons .val (.cons .val (.cons .val .nil)))), ⟨_, rfl, Nat.le_of_ble_eq_true rfl, ?h8⟩⟩⟩⟩⟩⟩))))))⟩⟩)))⟩)))))
    refine JL.letv (Γf := fun things => [.val (eLI script), .val (eT3T2IWT2IILLILI elder_2), .val (PyData.int x), potS r_5.2, .val (eT2IWT2II r_2.1), .val (eLLI r_3.1), .val (eLI r_5.1), .hole, .val (eLX things), .hole, .hole, .hole]) [(eLLI r_3.1), (eWLI r_3.1), (eWWI r_3.1)] fun things => ?_
    show JL _ _ [.val (eLI script), .val (eT3T2IWT2IILLILI elder_2), .val (PyData.int x), potS r_5.2, .val (eT2IWT2II r_2.1), .val (eLLI r_3.1), .val (eLI r_5.1), .hole, .val (eLX things), .hole, .hole, .hole] _ _ _ _
    refine JL.cons (JS.set (i := 8) sc_law.nd (JT.frz (JE.catT (f := fun x => .val (eX x)) (JE.var (i := 8) rfl ⟨.inl ⟨_, rfl⟩, JE.ofLc (own' := [("_law_turn", 10)]) B.calm sc_law.nd (blkOk_by (by kernel_rfl)) (JT.comp (JSrc.rng1 m.range (JE.int ⟨_, rfl, gdI ⟨Int, PyData, Int × Int, (rangeL 0 4), fun i => .val (.int i), fun x' t_4 => c_law_10 r_2 r_3 x' t_4, r_5.2, fun t_3 => [.val (eLI script), .val (eT3T2IWT2IILLILI elder_2), .val (PyData.int x), potS t_3, .val (eT2IWT2II r_2.1), .val (eLLI r_3.1), .val (eLI r_5.1), .hole, .val (eLX things), .hole, .hole, .hole], fun y => .val (eX y), _, rfl, rfl, Le.refl, ft, fun _ => (.hole rfl .nil), fun x_4 t_3 => ⟨[.val (eLI script), .val (eT3T2IWT2IILLILI elder_2), .val (PyData.int x), potS t_3, .val (eT2IWT2II r_2.1), .val (eLLI r_3.1), .val (eLI r_5.1), .hole, .val (eLX things), .hole, .val (PyData.int x_4), .hole], Le.refl, fun s H Ca cl fp => JG.name (i := 10) rfl sc_law.nd, fun s H Ca cl fp => JE.callN (h_other m) (B.room.mono (by decide)) passN (JA.cons (pt := false) (JE.slot (i := 3) rfl ⟨.inr (.inl ⟨_, rfl⟩), fun z => z, JA.cons (pt := false) (JE.var (i := 5) rfl ⟨.inl ⟨_, rfl⟩, fun z => z, JA.one (JE.ixT (JE.var (i := 4) rfl ⟨.inl ⟨_, rfl⟩, _, _, .own (.tup (ds := [PyData.int r_2.1.1, eWT2II r_2.1.2])), rfl, ⟨(t_3, r_3.1, r_2.1.1), _, [true, false, false], _, _, _, (.cons rfl (.plain pot_ne) .nil), (.inout (.own (.own .nil))), (List.append_nil _).symm, rfl, fun e z => absurd z (m_other_nex _ _ _ e), ft, fun r_6 _ => ⟨r_6.1, r_6.2, rfl, rfl, Le.refl⟩⟩⟩))⟩)⟩))⟩, fun r_7 _ => ⟨_, _, _, (.own (soL (xs := things) (e := eX))), (.own (soM (xs := r_7.1) (e := eX))), gd_ok, ⟨_, _, rfl, (.lst (.map fun _ => .val)), ⟨_, rfl, Nat.le_of_ble_eq_true rfl, ?h9⟩⟩⟩⟩⟩)))⟩))))
    refine JL.letv (Γf := fun things_2 => [.val (eLI script), .val (eT3T2IWT2IILLILI elder_2), .val (PyData.int x), potS r_7.2, .val (eT2IWT2II r_2.1), .val (eLLI r_3.1), .val (eLI r_5.1), .hole, .val (eLX things_2), .hole, .hole, .hole]) (things ++ r_7.1) fun things_2 => ?_
    show JL _ _ [.val (eLI script), .val (eT3T2IWT2IILLILI elder_2), .val (PyData.int x), potS r_7.2, .val (eT2IWT2II r_2.1), .val (eLLI r_3.1), .val (eLI r_5.1), .hole, .val (eLX things_2), .hole, .hole, .hole] _ _ _ _
    refine JL.cons (JS.ite (JC.all (m := (compL (fun x' _ => c_law_24 r_2 x') things_2 ()).bind fun r_9 => .ok (!(r_9.1.all id))) (by first | with_reducible rfl | rfl) (JC.not (JC.val (JE.allT B.calm m.all (JE.ofLc (own' := [("_law_thing", 11)]) B.calm sc_law.nd (blkOk_by (by kernel_rfl)) (JT.comp (JSrc.lst (JE.var (i := 8) rfl ⟨_, _, rfl, (soL (xs := things_2) (e := eX)), ⟨PyData, Bool, Unit, things_2, fun x => .val (eX x), fun x' _ => c_law_24 r_2 x', (), fun _ => [.val (eLI script), .val (eT3T2IWT2IILLILI elder_2), .val (PyData.int x), potS r_7.2, .val (eT2IWT2II r_2.1), .val (eLLI r_3.1), .val (eLI r_5.1), .hole, .val (eLX things_2), .hole, .hole, .hole], fun y => .val (PyData.bool y), _, rfl, rfl, Le.refl, ft, fun _ => (.hole rfl .nil), fun x_5 _ => ⟨[.val (eLI script), .val (eT3T2IWT2IILLILI elder_2), .val (PyData.int x), potS r_7.2, .val (eT2IWT2II r_2.1), .val (eLLI r_3.1), .val (eLI r_5.1), .hole, .val (eLX things_2), .hole, .hole, .val (eX x_5)], Le.refl, fun s H Ca cl fp => JG.name (i := 11) rfl sc_law.nd, fun s H Ca cl fp => JE.callN (h_judged m) (B.room.mono (by decide)) passN (JA.cons (pt := false) (JE.var (i := 4) rfl ⟨.inl ⟨_, rfl⟩, fun z => z, JA.one (JE.var (i := 11) rfl (Args.plain (r_2.1, x_5) _ [false, false] (.own (.own .nil)) rfl rfl rfl (fun e z => absurd z (m_judged_nex _ _ e)) fun r_8 _ => ⟨r_8, (), rfl, rfl, Le.refl⟩))⟩))⟩, fun r_9 _ => ⟨_, (.own (soM (xs := r_9.1) (e := PyData.bool))), ⟨_, rfl, ⟨rfl, rfl⟩⟩⟩⟩⟩))))))) fun c _ => ⟨_, _, rfl, fun _ => ?h10, fun _ => ?h11⟩))
    case h10 =>
      exact JL.cons (JS.ret (JE.bl ⟨.rt false, _, _, rfl, rfl, rfl, (by exact (.drop (.drop (.drop (.drop (.drop (.drop (.drop (.drop (.drop (.drop (.drop (.drop .nil)))))))))))))⟩))
    case h11 =>
      refine JL.nil ?_
      show JL _ _ [.val (eLI script), .val (eT3T2IWT2IILLILI elder_2), .val (PyData.int x), potS r_7.2, .val (eT2IWT2II r_2.1), .val (eLLI r_3.1), .val (eLI r_5.1), .hole, .val (eLX things_2), .hole, .hole, .hole] _ _ _ _
      refine JL.cons (JS.ite (JC.all (m := (m_ties_right r_2.1 r_3.1 r_5.1).bind fun r_10 => cond (!r_10) (.ok true) ((m_ties_right elder_2.1 elder_2.2.1 elder_2.2.2).bind fun r_11 => .ok (!r_11))) (by first | with_reducible rfl | rfl) (JC.bop (JW.or (JC.not (JC.val (JE.callN (h_ties_right m) (B.room.mono (by decide)) B.pass (JA.cons (pt := false) (JE.var (i := 4) rfl ⟨.inl ⟨_, rfl⟩, fun z => z, JA.cons (pt := false) (JE.var (i := 5) rfl ⟨.inl ⟨_, rfl⟩, fun z => z, JA.one (JE.var (i := 6) rfl (Args.plain (r_2.1, r_3.1, r_5.1) _ [false, false, false] (.own (.own (.own .nil))) rfl rfl rfl (fun e z => absurd z (m_ties_right_nex _ _ _ e)) fun r_10 _ => ⟨_, rfl, ⟨_, _, rfl, fun _ => ⟨rfl, rfl⟩, fun _ => JW.or1 (JC.not (JC.val (JE.callN (h_ties_right m) (B.room.mono (by decide)) B.pass (JA.cons (pt := false) (JE.ixT (JE.var (i := 1) rfl ⟨.inl ⟨_, rfl⟩, _, _, .own (.tup (ds := [eT2IWT2II elder_2.1, eLLI elder_2.2.1, eLI elder_2.2.2])), rfl, ⟨.inl ⟨_, rfl⟩, fun z => z, JA.cons (pt := false) (JE.ixT (JE.var (i := 1) rfl ⟨.inl ⟨_, rfl⟩, _, _, .own (.tup (ds := [eT2IWT2II elder_2.1, eLLI elder_2.2.1, eLI elder_2.2.2])), rfl, ⟨.inl ⟨_, rfl⟩, fun z => z, JA.one (JE.ixT (JE.var (i := 1) rfl ⟨.inl ⟨_, rfl⟩, _, _, .own (.tup (ds := [eT2IWT2II elder_2.1, eLLI elder_2.2.1, eLI elder_2.2.2])), rfl, Args.plain (elder_2.1, elder_2.2.1, elder_2.2.2) _ [false, false, false] (.own (.own (.own .nil))) rfl rfl rfl (fun e z => absurd z (m_ties_right_nex _ _ _ e)) fun r_11 _ => ⟨_, rfl, ⟨rfl, rfl⟩⟩⟩))⟩⟩))⟩⟩))))))⟩⟩))⟩)⟩))))))) fun c_2 _ => ⟨_, _, rfl, fun _ => ?h12, fun _ => ?h13⟩))
      case h12 =>
        exact JL.cons (JS.ret (JE.bl ⟨.rt false, _, _, rfl, rfl, rfl, (by exact (.drop (.drop (.drop (.drop (.drop (.drop (.drop (.drop (.drop (.drop (.drop (.drop .nil)))))))))))))⟩))
      case h13 =>
        refine JL.nil ?_
        show JL _ _ [.val (eLI script), .val (eT3T2IWT2IILLILI elder_2), .val (PyData.int x), potS r_7.2, .val (eT2IWT2II r_2.1), .val (eLLI r_3.1), .val (eLI r_5.1), .hole, .val (eLX things_2), .hole, .hole, .hole] _ _ _ _
        refine JL.cons (JS.set (i := 1) sc_law.nd (JT.frz (JE.tupD (JA.cons (pt := false) (JE.var (i := 4) rfl ⟨.inl ⟨_, rfl⟩, fun z => z, JA.cons (pt := false) (JE.var (i := 5) rfl ⟨.inl ⟨_, rfl⟩, fun z => z, JA.one (JE.var (i := 6) rfl ⟨[_, _, _], rfl, Nat.le_of_ble_eq_true rfl, _, _, rfl, .tup (.cons .val (.cons .val (.cons .val .nil))), ⟨_, rfl, Nat.le_of_ble_eq_true rfl, ?h14⟩⟩)⟩)⟩)))))
        refine JL.letv (Γf := fun elder_3 => [.val (eLI script), .val (eT3T2IWT2IILLILI elder_3), .val (PyData.int x), potS r_7.2, .val (eT2IWT2II r_2.1), .val (eLLI r_3.1), .val (eLI r_5.1), .hole, .val (eLX things_2), .hole, .hole, .hole]) (r_2.1, r_3.1, r_5.1) fun elder_3 => ?_
        exact JL.nil ⟨elder_3, rfl, (.same (.same (.drop (.drop (.drop (.drop (.drop (.drop (.drop (.drop (.drop (.drop .nil))))))))))))⟩
  case h3 =>
    show JL _ _ [.val (eLI script), .val (eT3T2IWT2IILLILI elder_4), .hole, .hole, .hole, .hole, .hole, .hole, .hole, .hole, .hole, .hole] _ _ _ _
    exact JL.cons (JS.ret (JE.bl ⟨true, _, _, rfl, rfl, rfl, (by exact (.drop (.drop (.drop (.drop (.drop (.drop (.drop (.drop (.drop (.drop (.drop (.drop .nil)))))))))))))⟩))
end
end HD

/-! G3: sums over lists; flows, cuts, plainly. -/
namespace Tsa
open PySem PySem.Spec PyProof.Rows L2
/-! ### sums -/
def sumI {α : Type} (g : α → Int) : List α → Int
  | [] => 0
  | x :: xs => g x + sumI g xs
section
variable {α β : Type} {g h : α → Int}
theorem sumI_congr : ∀ {L : List α}, (∀ x ∈ L, g x = h x) → sumI g L = sumI h L
  | [], _ => rfl
  | x :: L, e => by
    show g x + sumI g L = h x + sumI h L
    rw [e x (List.mem_cons_self ..), sumI_congr fun y hy => e y (List.mem_cons_of_mem _ hy)]
theorem sumI_add : ∀ {L : List α}, sumI (fun x => g x + h x) L = sumI g L + sumI h L
  | [] => rfl
  | x :: L => by
    show g x + h x + sumI _ L = g x + sumI g L + (h x + sumI h L)
    rw [sumI_add]; omega
theorem sumI_le : ∀ {L : List α}, (∀ x ∈ L, g x ≤ h x) → sumI g L ≤ sumI h L
  | [], _ => Int.le_refl _
  | x :: L, e => by
    show g x + sumI g L ≤ h x + sumI h L
    have := e x (List.mem_cons_self ..)
    have := sumI_le fun y hy => e y (List.mem_cons_of_mem x hy)
    omega
theorem sumI_const {c : Int} : ∀ {L : List α}, sumI (fun _ => c) L = c * (L.length : Nat)
  | [] => by show (0 : Int) = c * 0; omega
  | x :: L => by
    show c + sumI _ L = c * ((L.length + 1 : Nat) : Int)
    rw [sumI_const, Int.natCast_add, Int.mul_add]; omega
end
theorem nodup_rangeL {lo hi : Int} : (rangeL lo hi).Nodup := by
  unfold rangeL
  refine List.Pairwise.map _ (R := fun a b => a ≠ b) (fun a b (n : a ≠ b) => ?_) (List.nodup_range)
  omega
/-! ### flows -/
/-- the strength, what is borne -/
def fv (f : List Int) (k : Int) : Int := f.getD k.toNat 0
/-- a lane -/
def tk (ts : List (Int × Int)) (k : Int) : Int × Int := ts.getD k.toNat (0, 0)
/-- what a lane brings a place -/
def inb (ts : List (Int × Int)) (f : List Int) (p k : Int) : Int := (if (tk ts k).2 = p then fv f k else 0) - (if (tk ts k).1 = p then fv f k else 0)
/-- what comes into a place, less what goes out of it -/
def net (ts : List (Int × Int)) (f : List Int) (p : Int) : Int := sumI (inb ts f p) (rangeL 0 (ts.length : Nat))
structure FlowOk (ts : List (Int × Int)) (S f : List Int) (s t A : Int) : Prop where
  len : f.length = ts.length
  rng : ∀ k : Int, 0 ≤ k → k < (ts.length : Nat) → 0 ≤ fv f k ∧ fv f k ≤ fv S k
  mid : ∀ p, p ≠ s → p ≠ t → net ts f p = 0
  goal : net ts f t = A
/-- the strengths that enter some places -/
def ent (ts : List (Int × Int)) (S T : List Int) : Int := sumI (fun k => if (tk ts k).2 ∈ T ∧ (tk ts k).1 ∉ T then fv S k else 0) (rangeL 0 (ts.length : Nat))
section
variable {ts : List (Int × Int)} {S f T : List Int} {s t A : Int}
end
/-- by lane k from u to v more can go -/
def RE (ts : List (Int × Int)) (S f : List Int) (k u v : Int) : Prop := 0 ≤ k ∧ k < (ts.length : Nat) ∧ ((tk ts k = (u, v) ∧ fv f k < fv S k) ∨ (tk ts k = (v, u) ∧ 0 < fv f k))
/-- the tree of a search -/
inductive TrE (E : Int → Int → Int → Prop) (n a : Int) : TreeL → Prop
  | root : 0 ≤ a → a < n → TrE E n a [(a, none)]
  | add {l : TreeL} {u v k : Int} : TrE E n a l → u ∈ l.map (·.1) → v ∉ l.map (·.1) → E k u v → 0 ≤ v → v < n → TrE E n a (l ++ [(v, some (k, u))])
section
variable {E : Int → Int → Int → Prop} {ts : List (Int × Int)} {ns : List Int} {n a v : Int} {l : TreeL}
end
end Tsa

set_option exponentiation.threshold 6000
/-! G4: data with great numbers that may be shown; loops that may be left. -/
namespace Tsa
open PySem PySem.Spec PyProof.Rows L2
theorem strOk_of (s : String) : PyData.strOk (Str.ofString s) = true := by
  rw [Str.ofString_eq_toList]
  unfold PyData.strOk
  rw [List.all_toArray, List.all_eq_true]
  intro x hx
  obtain ⟨c, _, rfl⟩ := List.mem_map.mp hx
  have h : c.toNat < 1114112 := by
    rcases c.valid with h | ⟨_, h⟩
    · exact Nat.lt_trans h (by decide)
    · exact h
  exact decide_eq_true h
theorem strOk_app (a b : Str) : PyData.strOk (a ++ b) = (PyData.strOk a && PyData.strOk b) := by
  unfold PyData.strOk
  show (a.cps ++ b.cps).all _ = _
  rw [Array.all_append]
theorem strOk_from : ∀ (ts : List Str) (k : Nat) (acc : Str), PyData.strOk acc = true → (∀ t ∈ ts, PyData.strOk t = true) → PyData.strOk (textFrom k acc ts) = true
  | [], _, _, h, _ => h
  | t :: ts, k, acc, h, ht => by
    unfold textFrom
    refine strOk_from ts _ _ ?_ fun x hx => ht x (List.mem_cons_of_mem _ hx)
    split
    · rw [strOk_app, strOk_app, h, strOk_of, ht t (List.mem_cons_self ..)]; rfl
    · rw [strOk_app, strOk_app, h, strOk_of, ht t (List.mem_cons_self ..)]; rfl
theorem strOk_list (ts : List Str) (h : ∀ t ∈ ts, PyData.strOk t = true) : PyData.strOk (listText ts) = true := by
  unfold listText
  rw [strOk_app, strOk_from _ _ _ (strOk_of _) h, strOk_of]
  rfl
structure Sb (D W : Nat) (d : PyData) : Prop where
  lay : d.canLay0 = true
  dep : d.depth ≤ D
  wt : d.weight ≤ W
  short : d.intsShort 70 = true
  shw : d.showable = true
  okt : PyData.strOk d.shown = true
structure SbL (D W : Nat) (ds : List PyData) : Prop where
  lay : PyData.canLayAll0 ds = true
  dep : PyData.depthAll ds ≤ D
  wt : PyData.weightAll ds ≤ W
  short : PyData.intsShortAll 70 ds = true
  shw : PyData.showableAll ds = true
  okt : ∀ t ∈ PyData.shownAll ds, PyData.strOk t = true
theorem Sb.mono {D W D' W' : Nat} {d : PyData} (h : Sb D W d) (a : D ≤ D') (b : W ≤ W') : Sb D' W' d := ⟨h.lay, Nat.le_trans h.dep a, Nat.le_trans h.wt b, h.short, h.shw, h.okt⟩
theorem SbL.mono {D W D' W' : Nat} {d : List PyData} (h : SbL D W d) (a : D ≤ D') (b : W ≤ W') : SbL D' W' d := ⟨h.lay, Nat.le_trans h.dep a, Nat.le_trans h.wt b, h.short, h.shw, h.okt⟩
theorem log2_lt220 {n : Nat} (h : n < 10 ^ 66) : n.log2 < 220 := by
  by_cases z : n = 0
  · subst z; decide
  · exact (Nat.log2_lt z).mpr (Nat.lt_trans h (by decide))
theorem sb_int {i : Int} (h : i.natAbs < 10 ^ 66) : Sb 0 220 (.int i) where
  lay := rfl
  dep := Nat.le_refl 0
  wt := by
    have := log2_lt220 h
    show (if i == 0 then 0 else i.natAbs.log2 + 1) ≤ 220
    split <;> omega
  short := decide_eq_true (by
    have e := int_text_length_le10 (k := 66) (by decide) h
    show (Str.ofString (toString i)).length ≤ 70
    rw [PySem.ofString_length]; omega)
  shw := decide_eq_true (Nat.lt_trans (log2_lt220 h) (by decide))
  okt := strOk_of _
theorem SbL.nil {D W : Nat} : SbL D W [] := ⟨rfl, Nat.zero_le _, Nat.zero_le _, rfl, rfl, fun _ h => nomatch h⟩
theorem SbL.cons {D W W' : Nat} {d : PyData} {ds : List PyData} (h : Sb D W d) (t : SbL D W' ds) : SbL D (W + 1 + W') (d :: ds) where
  lay := by show (d.canLay0 && PyData.canLayAll0 ds) = true; rw [h.lay, t.lay]; rfl
  dep := by show max d.depth (PyData.depthAll ds) ≤ D; have := h.dep; have := t.dep; omega
  wt := by show d.weight + 1 + PyData.weightAll ds ≤ _; have := h.wt; have := t.wt; omega
  short := by show (d.intsShort 70 && PyData.intsShortAll 70 ds) = true; rw [h.short, t.short]; rfl
  shw := by show (d.showable && PyData.showableAll ds) = true; rw [h.shw, t.shw]; rfl
  okt := fun x hx => by
    rcases List.mem_cons.mp (show x ∈ d.shown :: PyData.shownAll ds from hx) with rfl | hx
    · exact h.okt
    · exact t.okt x hx
theorem SbL.map {β : Type} {D W n : Nat} {e : β → PyData} : ∀ {xs : List β}, (∀ x ∈ xs, Sb D W (e x)) → xs.length ≤ n → SbL D (n * (W + 1)) (xs.map e)
  | [], _, _ => .nil
  | x :: xs, h, hn => by
    cases n with
    | zero => exact absurd hn (Nat.not_succ_le_zero _)
    | succ n =>
      refine (SbL.cons (h x (List.mem_cons_self ..)) (SbL.map (n := n) (fun y hy => h y (List.mem_cons_of_mem _ hy)) (Nat.le_of_succ_le_succ hn))).mono (Nat.le_refl _) ?_
      rw [Nat.succ_mul]
      omega
theorem SbL.list {D W : Nat} {ds : List PyData} (h : SbL D W ds) : Sb (D + 1) W (.list ds) := ⟨h.lay, Nat.succ_le_succ h.dep, h.wt, h.short, h.shw, strOk_list _ h.okt⟩
theorem Sb.show_ {D W : Nat} {d : PyData} (h : Sb D W d) (hD : D ≤ 64) (hW : W ≤ 200000) : showOk d = true := by
  have hd := Nat.le_trans h.dep hD
  have hw := Nat.le_trans h.wt hW
  have sh : SeqAt.shaped d = true := by
    unfold SeqAt.shaped
    rw [h.lay, decide_eq_true hd]; rfl
  have len := PyData.shown_le 70 (by decide) d (PyData.leavesShort_of_canLay0 70 d h.lay h.short)
  have l2 : (70 + 2) * d.weight ≤ 72 * 200000 := Nat.mul_le_mul (by decide) hw
  have l3 : d.shown.length ≤ sizeLine := by rw [sizeLine_eq]; omega
  unfold showOk
  rw [sh, h.shw, PyData.hasDict_of_canLay d h.lay, decide_eq_true l3]
  rfl
/-- a loop that may be left -/
theorem Fine.forLr {α τ ω : Type} {f : α → τ → Res (Lp τ ω)} (I : List α → τ → Prop) (R : ω → Prop) : ∀ {xs : List α} {t : τ}, I xs t → (∀ x r t, I (x :: r) t → (∀ y ∈ x :: r, y ∈ xs) → Fine (f x t) fun q => (∃ t', q = .nx t' ∧ I r t') ∨ (∃ w, q = .rt w ∧ R w)) → Fine (Tsa.forL f xs t) fun r => (∃ t', r = .inl t' ∧ I [] t') ∨ (∃ w, r = .inr w ∧ R w)
  | [], t, h, _ => ⟨_, rfl, .inl ⟨t, rfl, h⟩⟩
  | x :: xs, t, h, q => by
    obtain ⟨r, er, hr⟩ := q x xs t h fun y hy => hy
    rcases hr with ⟨t', rfl, ht⟩ | ⟨w, rfl, hw⟩
    · have z := Fine.forLr I R ht fun y r t h hy => q y r t h fun z hz => List.mem_cons_of_mem _ (hy z hz)
      obtain ⟨r2, er2, h2⟩ := z
      refine ⟨r2, ?_, h2⟩
      show (f x t).bind (lpGo (Tsa.forL f xs)) = _
      rw [er]
      exact er2
    · refine ⟨.inr w, ?_, .inr ⟨w, rfl, hw⟩⟩
      show (f x t).bind (lpGo (Tsa.forL f xs)) = _
      rw [er]
      rfl
end Tsa

set_option exponentiation.threshold 6000
/-! G23: data of any kind that may be shown. -/
namespace Tsa
open PySem PySem.Spec PyProof.Rows L2
structure Sx (D W : Nat) (d : PyData) : Prop where
  dep : d.depth ≤ D
  wt : d.weight ≤ W
  shr : d.leavesShort 70 = true
  shw : d.showable = true
structure SxL (D W : Nat) (ds : List PyData) : Prop where
  dep : PyData.depthAll ds ≤ D
  wt : PyData.weightAll ds ≤ W
  shr : PyData.leavesShortAll 70 ds = true
  shw : PyData.showableAll ds = true
structure SxK (D W : Nat) (ds : List (PyData × PyData)) : Prop where
  dep : PyData.depthKv ds ≤ D
  wt : PyData.weightKv ds ≤ W
  shr : PyData.leavesShortKv 70 ds = true
  shw : PyData.showableKv ds = true
theorem Sx.mono {D W D' W' : Nat} {d : PyData} (h : Sx D W d) (a : D ≤ D') (b : W ≤ W') : Sx D' W' d := ⟨Nat.le_trans h.dep a, Nat.le_trans h.wt b, h.shr, h.shw⟩
theorem SxL.mono {D W D' W' : Nat} {d : List PyData} (h : SxL D W d) (a : D ≤ D') (b : W ≤ W') : SxL D' W' d := ⟨Nat.le_trans h.dep a, Nat.le_trans h.wt b, h.shr, h.shw⟩
theorem sx_int {i : Int} (h : i.natAbs < 10 ^ 66) : Sx 0 220 (.int i) where
  dep := Nat.le_refl 0
  wt := (sb_int h).wt
  shr := (sb_int h).short
  shw := (sb_int h).shw
theorem sx_none : Sx 0 0 .none := ⟨Nat.le_refl 0, Nat.le_refl 0, rfl, rfl⟩
theorem sx_bool (b : Bool) : Sx 0 0 (.bool b) := ⟨Nat.le_refl 0, Nat.le_refl 0, rfl, rfl⟩
theorem SxL.nil {D W : Nat} : SxL D W [] := ⟨Nat.zero_le _, Nat.zero_le _, rfl, rfl⟩
theorem SxL.cons {D W W' : Nat} {d : PyData} {ds : List PyData} (h : Sx D W d) (t : SxL D W' ds) : SxL D (W + 1 + W') (d :: ds) where
  dep := by show max d.depth (PyData.depthAll ds) ≤ D; have := h.dep; have := t.dep; omega
  wt := by show d.weight + 1 + PyData.weightAll ds ≤ _; have := h.wt; have := t.wt; omega
  shr := by show (d.leavesShort 70 && PyData.leavesShortAll 70 ds) = true; rw [h.shr, t.shr]; rfl
  shw := by show (d.showable && PyData.showableAll ds) = true; rw [h.shw, t.shw]; rfl
theorem SxK.nil {D W : Nat} : SxK D W [] := ⟨Nat.zero_le _, Nat.zero_le _, rfl, rfl⟩
theorem SxL.all {D W n : Nat} : ∀ {xs : List PyData}, (∀ x ∈ xs, Sx D W x) → xs.length ≤ n → SxL D (n * (W + 1)) xs
  | [], _, _ => .nil
  | x :: xs, h, hn => by
    cases n with
    | zero => exact absurd hn (Nat.not_succ_le_zero _)
    | succ n =>
      refine (SxL.cons (h x (List.mem_cons_self ..)) (SxL.all (n := n) (fun y hy => h y (List.mem_cons_of_mem _ hy)) (Nat.le_of_succ_le_succ hn))).mono (Nat.le_refl _) ?_
      rw [Nat.succ_mul]
      omega
theorem SxL.list {D W : Nat} {ds : List PyData} (h : SxL D W ds) : Sx (D + 1) W (.list ds) := ⟨Nat.succ_le_succ h.dep, h.wt, h.shr, h.shw⟩
theorem SxL.tup {D W : Nat} {ds : List PyData} (h : SxL D W ds) : Sx (D + 1) W (.tuple ds) := ⟨Nat.succ_le_succ h.dep, h.wt, h.shr, h.shw⟩
theorem SxK.dict {D W : Nat} {ds : List (PyData × PyData)} (h : SxK D W ds) : Sx (D + 1) W (.dict ds) := ⟨Nat.succ_le_succ h.dep, h.wt, h.shr, h.shw⟩
theorem Sx.show_ {D W : Nat} {d : PyData} (h : Sx D W d) (hD : D ≤ 40) (hW : W ≤ 200000) : showX d = true := by
  have hd := Nat.le_trans h.dep hD
  have hw := Nat.le_trans h.wt hW
  have len := PyData.shown_le 70 (by decide) d h.shr
  have l2 : (70 + 2) * d.weight ≤ 72 * 200000 := Nat.mul_le_mul (by decide) hw
  have l3 : d.shown.length ≤ sizeLine := by rw [sizeLine_eq]; omega
  unfold showX
  rw [h.shw, decide_eq_true hd, decide_eq_true l3]
  rfl
/-! ### what is counted -/
def isCnt : PyData → Bool
  | .int n => decide (0 ≤ n)
  | _ => false
def isPl (n : Int) : PyData → Bool
  | .int i => decide (0 ≤ i) && decide (i < n)
  | _ => false
def areS (n : Nat) : PyData → Bool
  | .list l => decide (l.length = n) && l.all isCnt
  | .tuple l => decide (l.length = n) && l.all isCnt
  | _ => false
end Tsa

/-! G5: spreads, plainly: as many of them as enter any set (Lovász's way). -/
namespace Tsa
open PySem PySem.Spec PyProof.Rows L2
section
variable {α τ β : Type}
/-- a comprehension, with what is still to come and what there is -/
theorem Fine.compR {f : α → τ → Res (Option β × τ)} (I : List α → List β → τ → Prop) : ∀ {xs : List α} {done : List β} {t : τ}, I xs done t → (∀ x r done t, I (x :: r) done t → (∀ y ∈ x :: r, y ∈ xs) → Fine (f x t) fun q => ∃ y, q.1 = some y ∧ I r (done ++ [y]) q.2) → Fine (Tsa.compL f xs t) fun q => I [] (done ++ q.1) q.2
  | [], done, t, h, _ => ⟨_, rfl, by show I [] (done ++ []) t; rw [List.append_nil]; exact h⟩
  | x :: xs, done, t, h, q => by
    obtain ⟨r, er, y, ey, hi⟩ := q x xs done t h fun _ z => z
    obtain ⟨r2, er2, h2⟩ := Fine.compR (f := f) I hi fun y r d t i s => q y r d t i fun z hz => List.mem_cons_of_mem _ (s z hz)
    rw [compL_cons, er]
    show Fine ((Tsa.compL f xs r.2).bind _) _
    rw [er2, Res.bind_ok]
    refine ⟨_, rfl, ?_⟩
    rw [ey]
    show I [] (done ++ (y :: r2.1)) r2.2
    rw [List.append_assoc] at h2
    exact h2
end
/-! ### entered sets -/
def goes (ts : List (Int × Int)) (p : Int → Bool) (k : Int) : Bool := p (tk ts k).2 && !p (tk ts k).1
def entB (ts : List (Int × Int)) (S : List Int) (p : Int → Bool) : Int := sumI (fun k => if goes ts p k = true then fv S k else 0) (rangeL 0 (ts.length : Nat))
structure LnOk (n : Int) (ts : List (Int × Int)) (c : List Int) : Prop where
  len : c.length = ts.length
  pos : ∀ k : Int, 0 ≤ k → k < (ts.length : Nat) → 0 ≤ fv c k
  ends : ∀ k : Int, 0 ≤ k → k < (ts.length : Nat) → (0 ≤ (tk ts k).1 ∧ (tk ts k).1 < n) ∧ (0 ≤ (tk ts k).2 ∧ (tk ts k).2 < n)
section
variable {n m r : Int} {ts : List (Int × Int)} {c U : List Int} {p q : Int → Bool}
/-- m spreads may still be taken, and one of which U is taken already -/
def Inv (n : Int) (ts : List (Int × Int)) (c : List Int) (r m : Int) (U : List Int) : Prop := ∀ p : Int → Bool, p r = false → (∃ x, (0 ≤ x ∧ x < n) ∧ p x = true) → m ≤ entB ts c p ∧ ((∀ x ∈ U, p x = false) → m + 1 ≤ entB ts c p)
def Good (ts : List (Int × Int)) (c : List Int) (r m : Int) (U : List Int) (k : Int) : Prop :=
  (0 ≤ k ∧ k < (ts.length : Nat)) ∧ (tk ts k).1 ∈ U ∧ (tk ts k).2 ∉ U ∧ 0 < fv c k ∧ ∀ p : Int → Bool, p r = false → p (tk ts k).2 = true → m ≤ entB ts (c.set k.toNat (fv c k - 1)) p
/-! ### what is taken -/
def ins (ts : List (Int × Int)) (r : Int) (A : List Int) : List Int := r :: A.map fun k => (tk ts k).2
inductive Grown (ts : List (Int × Int)) (r : Int) : List Int → Prop
  | nil : Grown ts r []
  | snoc {A : List Int} {k : Int} : Grown ts r A → 0 ≤ k → k < (ts.length : Nat) → (tk ts k).1 ∈ ins ts r A → (tk ts k).2 ∉ ins ts r A → Grown ts r (A ++ [k])
end
end Tsa

/-! G24: strengths taken from ties, each split between its two ends, plainly. -/
namespace Tsa
open PySem PySem.Spec PyProof.Rows L2
/-- what tie k lays on place p -/
def hAt (ts : List (Int × Int)) (T F : List Int) (p k : Int) : Int := (if (tk ts k).1 = p then fv F k else 0) + (if (tk ts k).2 = p then fv T k - fv F k else 0)
def amt (ts : List (Int × Int)) (T F : List Int) (p : Int) : Int := sumI (hAt ts T F p) (rangeL 0 (ts.length : Nat))
/-- what is taken inside -/
def tin (ts : List (Int × Int)) (T : List Int) (q : Int → Bool) : Int := sumI (fun k => if q (tk ts k).1 = true ∧ q (tk ts k).2 = true then fv T k else 0) (rangeL 0 (ts.length : Nat))
abbrev inl (R : List Int) : Int → Bool := fun x => decide (x ∈ R)
/-- ties of n places, the less end first -/
def TiesOk (n : Int) (ts : List (Int × Int)) : Prop := ∀ k : Int, 0 ≤ k → k < (ts.length : Nat) → 0 ≤ (tk ts k).1 ∧ (tk ts k).1 < (tk ts k).2 ∧ (tk ts k).2 < n
/-- taken and split -/
structure HS (n B : Int) (ts : List (Int × Int)) (T F L : List Int) : Prop where
  tl : T.length = ts.length
  fl : F.length = ts.length
  ll : L.length = n.toNat
  rg : ∀ k : Int, 0 ≤ k → k < (ts.length : Nat) → 0 ≤ fv F k ∧ fv F k ≤ fv T k
  ld : ∀ p : Int, 0 ≤ p → p < n → fv L p = amt ts T F p
  le : ∀ p : Int, 0 ≤ p → p < n → fv L p ≤ B
/-- no places have more than their share inside -/
def Spa (n B : Int) (ts : List (Int × Int)) (T : List Int) : Prop := ∀ R : List Int, R.Nodup → (∀ x ∈ R, 0 ≤ x ∧ x < n) → R ≠ [] → tin ts T (inl R) ≤ B * ((R.length : Nat) - 1)
section
variable {n B : Int} {ts : List (Int × Int)} {T F L R S : List Int}
end
end Tsa

/-! G6: how many parts: labels counted, forests. -/
namespace HD
open Tsa
theorem once_perm {L M : List Int} (h : M.Nodup) (e : ∀ x, x ∈ M ↔ x ∈ L) : (once L).length = M.length :=
  ((List.perm_ext_iff_of_nodup (once_nodup L) h).mpr fun x => mem_once.trans (e x).symm).length_eq
theorem once_range (n : Int) : (once (rangeL 0 n)).length = n.toNat := by
  rw [once_perm ((rangeL_lt 0 n).imp fun h => by omega) fun x => Iff.rfl, len_rangeL]
  simp
/-- a step of counting: part, rings -/
def holdS (ts : List (Int × Int)) (t : List Int × Nat) (k : Int) : List Int × Nat :=
  match ts[k.toNat]? with
  | none => t
  | some q => (relab (t.1.getD q.2.toNat 0) (t.1.getD q.1.toNat 0) t.1, t.2 + if t.1.getD q.1.toNat 0 = t.1.getD q.2.toNat 0 then 1 else 0)
/-- the parts and the rings of these ties -/
def holdL (n : Int) (ts : List (Int × Int)) (ns : List Int) : List Int × Nat := ns.foldl (holdS ts) (rangeL 0 n, 0)
def parts (n : Int) (ts : List (Int × Int)) (ns : List Int) : Nat := (once (holdL n ts ns).1).length
def rings (n : Int) (ts : List (Int × Int)) (ns : List Int) : Nat := (holdL n ts ns).2
def InW (n : Int) (ts : List (Int × Int)) : Prop := 0 ≤ n ∧ ∀ q ∈ ts, 0 ≤ q.1 ∧ q.1 < n ∧ 0 ≤ q.2 ∧ q.2 < n
def InN (ts : List (Int × Int)) (ns : List Int) : Prop := ∀ k ∈ ns, 0 ≤ k ∧ k < (ts.length : Nat)
structure HoldOk (n : Int) (ts : List (Int × Int)) (ns : List Int) (t : List Int × Nat) : Prop where
  lab : LabOk ts ns t.1
  len : t.1.length = n.toNat
  cnt : (once t.1).length + ns.length = n.toNat + t.2
end HD

/-! G7: one tie for another, in a wood. -/
namespace HD
open Tsa
variable {n : Int} {ts : List (Int × Int)} {I J : List Int} {a b x y p q : Int}
/-- out and in, one after the other -/
def swaps (I : List Int) : List (Int × Int) → List Int
  | [] => I
  | (x, y) :: r => swaps (I.erase y ++ [x]) r
/-- the way of x -/
def WayOf (ts : List (Int × Int)) (row : Int → List Int) (x : Int) : Prop := ∃ p q Vs, ts[x.toNat]? = some (p, q) ∧ Fol ts p (row x) q Vs ∧ (row x).Nodup
end HD

/-! G8: woods and labels: how many ties inside. -/
namespace HD
open Tsa
variable {n : Int} {ts : List (Int × Int)} {F I L : List Int}
/-- both ends of this tie have one label -/
def Inside (ts : List (Int × Int)) (L : List Int) (k : Int) : Prop := ∀ q, ts[k.toNat]? = some q → L[q.1.toNat]? = L[q.2.toNat]?
end HD

/-! G9: several woods: room, and labels that are filled. -/
namespace HD
open Tsa
variable {n : Int} {ts : List (Int × Int)} {L : List Int} {Ws Vs : List (List Int)}
def insB (ts : List (Int × Int)) (L : List Int) (k : Int) : Bool := match ts[k.toNat]? with
  | none => true
  | some q => decide (L[q.1.toNat]? = L[q.2.toNat]?)
/-- woods of these ties, no tie twice -/
structure Woods (n : Int) (ts : List (Int × Int)) (Ws : List (List Int)) : Prop where
  inn : ∀ W ∈ Ws, InN ts W
  free : ∀ W ∈ Ws, rings n ts W = 0
  nd : Ws.flatten.Nodup
def inside (ts : List (Int × Int)) (L : List Int) (Ws : List (List Int)) : Nat := (Ws.flatten.filter (insB ts L)).length
def spare (n : Int) (L : List Int) : Nat := n.toNat - (once L).length
/-- filled: no further tie inside can be held -/
def Filled (n : Int) (ts : List (Int × Int)) (L : List Int) (Ws : List (List Int)) : Prop := Ws.length * spare n L ≤ inside ts L Ws
end HD

/-! G10: what woods can hold, and when they hold it. -/
namespace HD
open Tsa
variable {n : Int} {ts : List (Int × Int)} {L : List Int} {Ws : List (List Int)}
/-- the ties between labels -/
def apart (ts : List (Int × Int)) (L : List Int) : Nat := (ts.filter fun q => !decide (L[q.1.toNat]? = L[q.2.toNat]?)).length
end HD

/-! G11: moves along a chain keep the woods. -/
namespace HD
open Tsa
variable {n : Int} {ts : List (Int × Int)}
/-- in wood w: who comes in, who goes out, the last first -/
def prs (w : Int) : List (Int × Int) → List (Int × Int)
  | [] => []
  | (x, v) :: r => match r with
    | [] => []
    | (y, _) :: _ => prs w r ++ (if v = w then [(x, y)] else [])
/-- moves as the search finds them: row w x is the way of x in wood w -/
inductive Chain (ts : List (Int × Int)) (own : Int → Option Int) (W : Int → List Int) (row : Int → Int → List Int) : List (Int × Int) → Prop
  | last {x v : Int} : own x ≠ some v → Chain ts own W row [(x, v)]
  | next {x v y v' : Int} {r : List (Int × Int)} : own x ≠ some v → own y = some v → WayOf ts (row v) x → y ∈ row v x → (∀ j ∈ row v x, j ∈ W v) →
      (∀ z ∈ r, ∀ w, own z.1 = some w → own x ≠ some w → z.1 ∉ row w x) → Chain ts own W row ((y, v') :: r) → Chain ts own W row ((x, v) :: (y, v') :: r)
variable {own : Int → Option Int} {W : Int → List Int} {row : Int → Int → List Int}
end HD

/-! G12: what the woods are when the moves are made. -/
namespace HD
open Tsa
variable {n : Int} {ts : List (Int × Int)} {own : Int → Option Int} {W : Int → List Int} {row : Int → Int → List Int}
/-- wood w when all moves are made -/
def moved (W : Int → List Int) (c : List (Int × Int)) (w : Int) : List Int := swaps (W w) (prs w c) ++ match c.getLast? with
  | some (x, v) => if v = w then [x] else []
  | none => []
end HD

/-! G13: the search for moves, plainly; the new tie stands for None. -/
namespace HD
open Tsa
variable {n : Int} {ts : List (Int × Int)} {own : Int → Option Int} {W : Int → List Int} {row : Int → Int → List Int}
/-- ks: found, in their order; par: from where; d: how many are done -/
structure Bfs (ts : List (Int × Int)) (own : Int → Option Int) (W : Int → List Int) (row : Int → Int → List Int) (many e : Int) (ks : List Int) (par : Int → Int) (d : Nat) : Prop where
  nd : ks.Nodup
  up : ∀ y ∈ ks, y ≠ e → par y ∈ ks ∧ ks.idxOf (par y) < ks.idxOf y ∧ ks.idxOf (par y) < d ∧ ∃ w, 0 ≤ w ∧ w < many ∧ own y = some w ∧ own (par y) ≠ some w ∧ y ∈ row w (par y)
  new : own e = none
  rows : ∀ x ∈ ks, ks.idxOf x < d → ∀ w, 0 ≤ w → w < many → own x ≠ some w → WayOf ts (row w) x ∧ (∀ j ∈ row w x, j ∈ W w) ∧ ∀ y ∈ row w x, y ∈ ks ∧ (y ≠ e → ks.idxOf (par y) ≤ ks.idxOf x)
  top : ∀ x ∈ ks, ∀ w, own x = some w → 0 ≤ w ∧ w < many
/-- the walk back to the new tie -/
def back (own : Int → Option Int) (par : Int → Int) (e : Int) : Nat → Int → List (Int × Int) → List (Int × Int)
  | 0, _, acc => acc
  | f + 1, x, acc => if x = e then acc else back own par e f (par x) ((par x, (own x).getD 0) :: acc)
end HD

/-! G14: a search that finds nothing. -/
namespace HD
open Tsa
variable {n : Int} {ts : List (Int × Int)} {own : Int → Option Int} {W : Int → List Int} {row : Int → Int → List Int}
end HD

/-! G15: two filled labellings, joined. -/
namespace HD
open Tsa
variable {n : Int} {ts : List (Int × Int)} {L M : List Int} {Ws : List (List Int)}
end HD

/-! G16: the search's ties in a table: the new tie stands for None. -/
namespace HD
open PySem PySem.Spec PyProof.Rows L2 Tsa
abbrev Tb := List (Int × Option Int)
def ksA (e : Int) (A : Tb) : List Int := e :: A.map (·.1)
def parA (e : Int) (A : Tb) (y : Int) : Int := ((aGet A y).getD none).getD e
def ahd (A : Tb) : List (Option Int × Option Int) := (none, none) :: A.map fun p => (some p.1, p.2)
/-- the ties of a way that are new are put behind -/
def addA (t : Option Int) : Tb → List Int → Tb
  | A, [] => A
  | A, y :: r => if y ∈ A.map (·.1) then addA t A r else addA t (A ++ [(y, t)]) r
variable {n : Int} {ts : List (Int × Int)} {own : Int → Option Int} {W : Int → List Int} {row : Int → Int → List Int} {many e : Int}
/-- in the midst of a tie's turn: A0 what was there ahead of it, w the next wood -/
structure Mid (ts : List (Int × Int)) (own : Int → Option Int) (W : Int → List Int) (row : Int → Int → List Int) (many e : Int) (A0 A : Tb) (d : Nat) (x : Int) (t : Option Int) (w : Int) : Prop where
  base : Bfs ts own W row many e (ksA e A0) (parA e A0) d
  at_ : (ksA e A0)[d]? = some x
  tx : t.getD e = x
  ext : ∃ B, A = A0 ++ B ∧ ∀ p ∈ B, p.2 = t ∧ ∃ w', 0 ≤ w' ∧ w' < many ∧ own p.1 = some w' ∧ own x ≠ some w' ∧ p.1 ∈ row w' x
  nd : (ksA e A).Nodup
  rows : ∀ w', 0 ≤ w' → w' < w → own x ≠ some w' → WayOf ts (row w') x ∧ (∀ j ∈ row w' x, j ∈ W w') ∧ ∀ y ∈ row w' x, y ∈ A.map (·.1)
end HD

/-! G17: woods kept in a table by tie; loops that may end early. -/
namespace Tsa
open PySem PySem.Spec PyProof.Rows L2
theorem compL_filtM {α β : Type} {q : α → Bool} {g : α → β} {f : α → Unit → Res (Option β × Unit)} : ∀ l : List α, (∀ x ∈ l, f x () = cond (q x) (.ok (some (g x), ())) (.ok (none, ()))) → compL f l () = .ok ((l.filter q).map g, ())
  | [], _ => rfl
  | x :: l, h => by
    rw [compL_cons, h x List.mem_cons_self]
    have ih := compL_filtM l fun y hy => h y (List.mem_cons_of_mem _ hy)
    cases e : q x with
    | true =>
      show (compL f l ()).bind (fun p => Res.ok (consO (some (g x)) p.1, p.2)) = _
      rw [ih, List.filter_cons_of_pos e]; rfl
    | false =>
      show (compL f l ()).bind (fun p => Res.ok (consO none p.1, p.2)) = _
      rw [ih, List.filter_cons_of_neg (by rw [e]; exact Bool.false_ne_true)]; rfl
theorem compL_pureM {α β : Type} {g : α → β} {f : α → Unit → Res (Option β × Unit)} : ∀ l : List α, (∀ x ∈ l, f x () = .ok (some (g x), ())) → compL f l () = .ok (l.map g, ())
  | [], _ => rfl
  | x :: l, h => by
    rw [compL_cons, h x List.mem_cons_self]
    have ih := compL_pureM l fun y hy => h y (List.mem_cons_of_mem _ hy)
    show (compL f l ()).bind (fun p => Res.ok (consO (some (g x)) p.1, p.2)) = _
    rw [ih]; rfl
end Tsa
namespace HD
open PySem PySem.Spec PyProof.Rows L2 Tsa
section
variable {n : Int} {ts : List (Int × Int)}
end
/-! ### a table of ties and woods -/
abbrev Dc := List (Int × Int)
def Wd (d : Dc) (v : Int) : List Int := sortD PyData.int ((d.filter fun p => decide (p.2 = v)).map (·.1))
def Wds (many : Int) (d : Dc) : List (List Int) := (rangeL 0 many).map (Wd d)
section
variable {d : Dc} {v k : Int}
structure WOk (n : Int) (ts : List (Int × Int)) (many : Int) (d : Dc) : Prop where
  nd : (d.map (·.1)).Nodup
  inn : ∀ p ∈ d, (0 ≤ p.1 ∧ p.1 < (ts.length : Nat)) ∧ 0 ≤ p.2 ∧ p.2 < many
  free : ∀ v, 0 ≤ v → v < many → rings n ts (Wd d v) = 0
variable {n many : Int} {ts : List (Int × Int)}
theorem int_len {L : List Int} {m : Nat} (nd : L.Nodup) (h : ∀ x ∈ L, 0 ≤ x ∧ x < (m : Nat)) : L.length ≤ m := by
  have := nodup_len (L := rangeL 0 (m : Nat)) nd fun x hx => mem_rangeL.mpr (h x hx)
  rw [len_rangeL] at this
  omega
theorem WOk.len (h : WOk n ts many d) : d.length ≤ ts.length := by
  have := int_len h.nd (m := ts.length) fun x hx => by
    obtain ⟨p, hp, rfl⟩ := List.mem_map.mp hx
    exact (h.inn p hp).1
  rwa [List.length_map] at this
/-- all moves done -/
def putAll (d : Dc) (c : List (Int × Int)) : Dc := c.foldl (fun d p => aPut d p.1 p.2) d
end
end HD

/-! G25: the forest of a search from several places, moves along a way of it; tight sets; partings, plainly. -/
namespace Tsa
open PySem PySem.Spec PyProof.Rows L2
inductive FoE (E : Int → Int → Int → Prop) (n : Int) (A : List Int) : TreeL → Prop
  | roots : A.Nodup → (∀ a ∈ A, 0 ≤ a ∧ a < n) → FoE E n A (A.map fun a => (a, none))
  | add {l : TreeL} {u v k : Int} : FoE E n A l → u ∈ l.map (·.1) → v ∉ l.map (·.1) → E k u v → 0 ≤ v → v < n → FoE E n A (l ++ [(v, some (k, u))])
inductive Wy (E : Int → Int → Int → Prop) (l : TreeL) (A : List Int) : Int → List (Int × Int) → Prop
  | stop {v : Int} : v ∈ A → aGet l v = some none → Wy E l A v []
  | go {v k u : Int} {W : List (Int × Int)} : v ∉ A → aGet l v = some (some (k, u)) → E k u v → Wy E l A u W → Wy E l A v ((k, u) :: W)
section
variable {E : Int → Int → Int → Prop} {ts : List (Int × Int)} {n v : Int} {A : List Int} {l : TreeL} {W : List (Int × Int)}
end
/-- something of tie k goes to u; its other end is v -/
def GE (ts : List (Int × Int)) (T F : List Int) (k u v : Int) : Prop := 0 ≤ k ∧ k < (ts.length : Nat) ∧ ((tk ts k = (u, v) ∧ 0 < fv F k) ∨ (tk ts k = (v, u) ∧ 0 < fv T k - fv F k))
/-- how much of tie q.1 goes to q.2 -/
def gt (ts : List (Int × Int)) (T F : List Int) (q : Int × Int) : Int := if q.2 = (tk ts q.1).1 then fv F q.1 else fv T q.1 - fv F q.1
/-- strengths split, what lies on each place -/
structure HS0 (n : Int) (ts : List (Int × Int)) (T F L : List Int) : Prop where
  tl : T.length = ts.length
  fl : F.length = ts.length
  ll : L.length = n.toNat
  rg : ∀ k : Int, 0 ≤ k → k < (ts.length : Nat) → 0 ≤ fv F k ∧ fv F k ≤ fv T k
  ld : ∀ p : Int, 0 ≤ p → p < n → fv L p = amt ts T F p
section
variable {n B : Int} {ts : List (Int × Int)} {T F L R S : List Int}
theorem HS.z (H : HS n B ts T F L) : HS0 n ts T F L := ⟨H.tl, H.fl, H.ll, H.rg, H.ld⟩
end
/-! ### tight sets, by tests -/
def cnt (n : Int) (q : Int → Bool) : Int := (((rangeL 0 n).filter q).length : Nat)
def SpaB (n B : Int) (ts : List (Int × Int)) (T : List Int) : Prop := ∀ q : Int → Bool, (∃ x, (0 ≤ x ∧ x < n) ∧ q x = true) → tin ts T q ≤ B * (cnt n q - 1)
def Tgt (n B : Int) (ts : List (Int × Int)) (T : List Int) (q : Int → Bool) : Prop := tin ts T q = B * (cnt n q - 1)
section
variable {n B : Int} {ts : List (Int × Int)} {T F L R S : List Int} {p q : Int → Bool}
theorem tin_congr (ok : TiesOk n ts) (h : ∀ x, 0 ≤ x → x < n → p x = q x) : tin ts T p = tin ts T q := by
  refine sumI_congr fun k hk => ?_
  have hk := mem_rangeL.mp hk
  have o := ok k hk.1 hk.2
  rw [h _ o.1 (by omega), h _ (by omega) o.2.2]
theorem Spa.b (ok : TiesOk n ts) (h : Spa n B ts T) : SpaB n B ts T := fun q ⟨x, hx, e⟩ => by
  have hm : x ∈ (rangeL 0 n).filter q := List.mem_filter.mpr ⟨mem_rangeL.mpr hx, e⟩
  have a := h ((rangeL 0 n).filter q) (nodup_rangeL.filter _) (fun y hy => mem_rangeL.mp (List.mem_filter.mp hy).1) fun z => by rw [z] at hm; cases hm
  rw [tin_congr (q := q) ok fun y y0 y1 => ?_] at a
  · exact a
  · show decide (y ∈ _) = q y
    cases c : q y with
    | true => exact decide_eq_true (List.mem_filter.mpr ⟨mem_rangeL.mpr ⟨y0, y1⟩, c⟩)
    | false => exact decide_eq_false fun z => by rw [(List.mem_filter.mp z).2] at c; cases c
end
/-! ### partings -/
structure Ptn (n : Int) (ps : List (List Int)) : Prop where
  rise : ∀ P ∈ ps, P.Pairwise (· < ·)
  rng : ∀ P ∈ ps, ∀ x ∈ P, 0 ≤ x ∧ x < n
  all : ∀ x, 0 ≤ x → x < n → ∃ P ∈ ps, x ∈ P
  ne : ∀ P ∈ ps, P ≠ []
  dis : ps.Pairwise fun P Q => ∀ x ∈ P, x ∉ Q
/-- both ends in one part -/
def sameB (ts : List (Int × Int)) (ps : List (List Int)) (k : Int) : Bool := ps.any fun P => inl P (tk ts k).1 && inl P (tk ts k).2
/-- what goes between the parts -/
def btw (ts : List (Int × Int)) (S : List Int) (ps : List (List Int)) : Int := sumI (fun k => if sameB ts ps k = true then 0 else fv S k) (rangeL 0 (ts.length : Nat))
section
variable {n B : Int} {ts : List (Int × Int)} {T S : List Int} {ps : List (List Int)}
theorem Ptn.nodup (h : Ptn n ps) : ps.flatten.Nodup := by
  refine List.pairwise_flatten.mpr ⟨fun P hP => (h.rise P hP).imp fun lt => by omega, h.dis.imp fun {P Q} d x hx y hy (e : x = y) => d x hx (e ▸ hy)⟩
theorem Ptn.perm (h : Ptn n ps) : ps.flatten.Perm (rangeL 0 n) := by
  refine (List.perm_ext_iff_of_nodup h.nodup nodup_rangeL).mpr fun x => ?_
  rw [List.mem_flatten, mem_rangeL]
  exact ⟨fun ⟨P, hP, hx⟩ => h.rng P hP x hx, fun z => h.all x z.1 z.2⟩
theorem len_flat : ∀ ps : List (List Int), ((ps.flatten.length : Nat) : Int) = sumI (fun P => ((P.length : Nat) : Int)) ps
  | [] => rfl
  | P :: ps => by
    show _ = ((P.length : Nat) : Int) + sumI _ ps
    rw [List.flatten_cons, List.length_append, ← len_flat ps]; omega
theorem Ptn.one (h : Ptn n ps) (n1 : 1 ≤ n) : 1 ≤ ps.length := by
  obtain ⟨P, hP, _⟩ := h.all 0 (by omega) (by omega)
  exact List.length_pos_of_mem hP
theorem Ptn.len (h : Ptn n ps) (n0 : 0 ≤ n) : ((ps.length : Nat) : Int) ≤ n := by
  have a := len_flat ps
  rw [h.perm.length_eq, len_rangeL] at a
  have b : sumI (fun _ => (1 : Int)) ps ≤ sumI (fun P => ((P.length : Nat) : Int)) ps := sumI_le fun P hP => by
    have := List.length_pos_iff.mpr (h.ne P hP)
    omega
  rw [sumI_const] at b
  omega
theorem Ptn.lt (h : Ptn n ps) {P : List Int} (hP : P ∈ ps) : P.Nodup := (h.rise P hP).imp fun lt => by omega
end
end Tsa

/-! G26: marks of places, tables of rows by marks, partings made of tight sets; sums by numbers. -/
namespace Tsa
open PySem PySem.Spec PyProof.Rows L2
/-! ### sums -/
/-! ### rows by marks -/
structure Tbl (Lp : List Int) (m : List (Int × List Int)) : Prop where
  nd : (m.map (·.1)).Nodup
  key : ∀ l, l ∈ m.map (·.1) ↔ l ∈ Lp
  val : ∀ l x, x ∈ (aGet m l).getD [] ↔ 0 ≤ x ∧ Lp[x.toNat]? = some l
  rise : ∀ l, ((aGet m l).getD []).Pairwise (· < ·)
abbrev encLI : List Int → PyData := fun xs => .list (xs.map PyData.int)
/-! ### marks, their classes tight -/
def clsB (M : List Int) (x : Int) : Int → Bool := fun y => decide (fv M y = fv M x)
def TgM (n B : Int) (ts : List (Int × Int)) (T M : List Int) : Prop := ∀ x, 0 ≤ x → x < n → Tgt n B ts T (clsB M x)
section
variable {n B : Int} {ts : List (Int × Int)} {T F L R S M : List Int} {p q : Int → Bool}
/-- in the midst of a row: what hangs together with its first place, and the row -/
structure Mrk (n B : Int) (ts : List (Int × Int)) (T M0 R : List Int) (r0 : Int) (M : List Int) : Prop where
  len : M.length = n.toNat
  oth : ∀ x, 0 ≤ x → x < n → fv M x ≠ fv M r0 → Tgt n B ts T (clsB M x)
  own : Tgt n B ts T (fun y => clsB M r0 y || inl R y)
  mono : ∀ x y, 0 ≤ x → x < n → 0 ≤ y → y < n → fv M0 x = fv M0 y → fv M x = fv M y
variable {M0 : List Int} {r0 : Int}
end
end Tsa

set_option exponentiation.threshold 6000
namespace HD
open PySem PySem.Spec PyProof.Rows L2 Tsa
abbrev Pr := List (Int × Int)
def V (n : Int) (p : Int × Int) : Prop := 0 ≤ p.1 ∧ p.1 < n ∧ 0 ≤ p.2 ∧ p.2 < n
def Web (w : Int × Pr) : Prop := 1 ≤ w.1 ∧ w.1 ≤ 9 ∧ w.2.length ≤ 60 ∧ ∀ q ∈ w.2, V w.1 q
def Nums (w : Int × Pr) (ns : List Int) : Prop := ns.length ≤ 60 ∧ ∀ x ∈ ns, 0 ≤ x ∧ x < (w.2.length : Nat)
theorem absI_nn (i : Int) : 0 ≤ absI i := by unfold absI; split <;> omega
theorem take_ok {p : Int × Int} {n : Int} (g : PotOk p) (h0 : 0 < n) (hb : n < 1099511627776) : Fine (m_take p n) fun r => 0 ≤ r.1 ∧ r.1 < n ∧ PotOk r.2 := pot_take g h0 hb
theorem pot_ok {ns : List Int} {k : Int} (h0 : 0 ≤ k) (h1 : k < 1000) : Fine (m_pot ns k) PotOk := pot_new (ab := absI) (c := 0) absI_nn h0 h1 (nth_fine h0)
theorem grown_ok {p : Int × Int} {n : Int} (g : PotOk p) (h1 : 1 ≤ n) (h9 : n ≤ 9) : Fine (m_grown p n) fun r => r.1.length ≤ 8 ∧ (∀ q ∈ r.1, V n q) ∧ PotOk r.2 := by
  unfold m_grown
  refine Fine.gd (rng_ok2 (by omega) (by omega) (by decide) (by decide)) ((Fine.compM PotOk (fun x y => 1 ≤ x ∧ x < n → V n y) g fun x hx t ht => ?_).bind fun r hr => Fine.ok ⟨?_, ?_, hr.2.2⟩)
  · have hx := mem_rangeL.mp hx
    unfold c_grown_2
    refine (take_ok ht (by omega) (by omega)).bind fun r hr => Fine.ok ⟨fun y e => ?_, hr.2.2⟩
    cases e
    intro _
    exact ⟨hr.1, by show r.1 < n; have := hr.2.1; omega, by show 0 ≤ x; omega, hx.2⟩
  · have := hr.1
    rw [len_rangeL] at this
    show r.1.length ≤ 8
    omega
  · intro q hq
    obtain ⟨x, hx, h⟩ := hr.2.1 q hq
    exact h (mem_rangeL.mp hx)
theorem web_ok {p : Int × Int} (g : PotOk p) : Fine (m_web p) fun r => Web r.1 ∧ PotOk r.2 := by
  unfold m_web
  refine (take_ok g (by decide : (0 : Int) < 4) (by decide)).bind fun r hr => ?_
  obtain ⟨a0, a1, g1⟩ := hr
  have A : ∃ x x2 : Int, idx [1, 2, 2, 1] r.1 = .ok x ∧ idx [9, 2, 8, 9] r.1 = .ok x2 ∧ 1 ≤ x ∧ 1 ≤ x2 ∧ x + x2 ≤ 10 ∧ (∀ y : Int, 0 ≤ y → y ≤ 3 → ∃ x3, idx [0, 0, y, 0] r.1 = .ok x3 ∧ 0 ≤ x3 ∧ x3 ≤ 3) ∧ ∃ x5 : Int, idx [31, 31, 5, 9] r.1 = .ok x5 ∧ 0 < x5 ∧ x5 ≤ 31 := by
    have c : r.1 = 0 ∨ r.1 = 1 ∨ r.1 = 2 ∨ r.1 = 3 := by omega
    rcases c with c | c | c | c <;> rw [c]
    · exact ⟨1, 9, rfl, rfl, by decide, by decide, by decide, fun y _ _ => ⟨0, rfl, by decide, by decide⟩, 31, rfl, by decide, by decide⟩
    · exact ⟨2, 2, rfl, rfl, by decide, by decide, by decide, fun y _ _ => ⟨0, rfl, by decide, by decide⟩, 31, rfl, by decide, by decide⟩
    · exact ⟨2, 8, rfl, rfl, by decide, by decide, by decide, fun y h h' => ⟨y, rfl, h, h'⟩, 5, rfl, by decide, by decide⟩
    · exact ⟨1, 9, rfl, rfl, by decide, by decide, by decide, fun y _ _ => ⟨0, rfl, by decide, by decide⟩, 9, rfl, by decide, by decide⟩
  obtain ⟨x, x2, e1, e2, b1, b2, b3, b4, x5, e5, c1, c2⟩ := A
  rw [e1, e2]
  refine (take_ok g1 (by omega : 0 < x2) (by omega)).bind fun r2 hr2 => Fine.bindv (Fine.bindv ?_)
  obtain ⟨d0, d1, g2⟩ := hr2
  have n1 : 1 ≤ x + r2.1 := by omega
  have n9 : x + r2.1 ≤ 9 := by omega
  generalize x + r2.1 = n at *
  refine (take_ok g2 (by decide : (0 : Int) < 3) (by decide)).bind fun r3 hr3 => ?_
  obtain ⟨f0, f1, g3⟩ := hr3
  obtain ⟨x3, e3, h0, h3⟩ := b4 (1 + r3.1) (by omega) (by omega)
  rw [e3]
  refine Fine.gd (rng_ok (by omega) (by omega)) ((Fine.forSn (fun rest (t : (Int × Int) × Pr) => PotOk t.1 ∧ (∀ q ∈ t.2, V n q) ∧ t.2.length + 8 * rest.length ≤ 24) ⟨g3, (fun _ z => absurd z List.not_mem_nil), ?_⟩ fun y rest t ht _ => ?_).bind fun t ht => ?_)
  · rw [len_rangeL]
    show 0 + 8 * _ ≤ 24
    omega
  · obtain ⟨k1, k2, k3⟩ := ht
    rw [List.length_cons] at k3
    unfold f_web_1
    refine (grown_ok k1 n1 n9).bind fun r4 hr4 => Fine.gd (by have := hr4.1; omega) (Fine.bindv (Fine.ok ⟨hr4.2.2, fun q hq => ?_, ?_⟩))
    · rcases List.mem_append.mp hq with hq | hq
      · exact k2 q hq
      · exact hr4.2.1 q hq
    · have := hr4.1
      show (t.2 ++ r4.1).length + _ ≤ 24
      rw [List.length_append]
      omega
  obtain ⟨pot3, pairs4⟩ := t
  obtain ⟨k1, k2, k3⟩ := ht
  have k3 : pairs4.length + 0 ≤ 24 := k3
  have k2 : ∀ q ∈ pairs4, V n q := k2
  show Fine ((idx [31, 31, 5, 9] r.1).bind _) _
  rw [e5]
  refine (take_ok k1 c1 (by omega)).bind fun r5 hr5 => ?_
  obtain ⟨l0, l1, g5⟩ := hr5
  have m1 : mulOk r5.1 (ofB (decide (1 < n))) := .inl (.inl (by omega))
  refine Fine.gd m1 ?_
  have o : ∃ j, r5.1 * ofB (decide (1 < n)) = j ∧ 0 ≤ j ∧ j ≤ 31 ∧ (j ≠ 0 → 1 < n) := by
    by_cases c : 1 < n
    · refine ⟨r5.1, ?_, by omega, by omega, fun _ => c⟩
      rw [decide_eq_true c]; show r5.1 * 1 = r5.1; omega
    · refine ⟨0, ?_, by decide, by decide, fun z => absurd rfl z⟩
      rw [decide_eq_false c]; show r5.1 * 0 = 0; omega
  obtain ⟨j, ej, j0, j1, j2⟩ := o
  rw [ej]
  refine Fine.gd (rng_ok (by omega) (by omega)) ((Fine.forSn (fun rest (t : (Int × Int) × Pr) => PotOk t.1 ∧ (∀ q ∈ t.2, V n q) ∧ t.2.length + rest.length ≤ 60) (show _ ∧ _ ∧ _ from ⟨g5, k2, by rw [len_rangeL]; show pairs4.length + _ ≤ 60; omega⟩) fun y rest t ht hy => ?_).bind fun t ht => ?_)
  · obtain ⟨q1, q2, q3⟩ := ht
    rw [List.length_cons] at q3
    have hy := mem_rangeL.mp (hy y (List.mem_cons_self ..))
    have n2 : 1 < n := j2 (by omega)
    unfold f_web_2
    refine (take_ok q1 (by omega : 0 < n) (by omega)).bind fun r6 hr6 => ?_
    refine (take_ok hr6.2.2 (by omega : (0 : Int) < (t.2.length : Nat) + 1) (by omega)).bind fun r7 hr7 => ?_
    refine (take_ok hr7.2.2 (by omega : 0 < n - 1) (by omega)).bind fun r8 hr8 => ?_
    have := hr7.1
    have := hr7.2.1
    refine Fine.gd (by omega) (Fine.gd ⟨by omega, by omega, by omega⟩ (Fine.bindv (Fine.ok ⟨hr8.2.2, fun q hq => ?_, ?_⟩)))
    · rcases List.mem_append.mp hq with hq | hq
      · rcases List.mem_append.mp hq with hq | hq
        · exact q2 q (List.mem_of_mem_take hq)
        · obtain rfl := List.mem_singleton.mp hq
          exact ⟨hr6.1, hr6.2.1, Int.emod_nonneg _ (by omega), Int.emod_lt_of_pos _ (by omega)⟩
      · exact q2 q (List.mem_of_mem_drop hq)
    · show (t.2.take r7.1.toNat ++ [_] ++ t.2.drop r7.1.toNat).length + rest.length ≤ 60
      rw [List.length_append, List.length_append, List.length_take, List.length_drop, List.length_singleton]
      omega
  obtain ⟨pot5, pairs7⟩ := t
  obtain ⟨q1, q2, q3⟩ := ht
  have q3 : pairs7.length + 0 ≤ 60 := q3
  refine Fine.ok ⟨⟨n1, n9, ?_, fun q hq => ?_⟩, q1⟩
  · show (List.map _ _).length ≤ 60
    rw [List.length_map]
    have := cutG_len (ys := pairs7) (lo := none) (hi := some 30)
    omega
  · obtain ⟨q', hq', rfl⟩ := List.mem_map.mp hq
    obtain ⟨v1, v2, v3, v4⟩ := q2 q' (cutG_mem hq')
    exact ⟨by show 0 ≤ min _ _; omega, by show min _ _ < n; omega, by show 0 ≤ max _ _; omega, by show max _ _ < n; omega⟩
end HD

set_option exponentiation.threshold 6000
/-! the parting that is drawn -/
namespace HD
open PySem PySem.Spec PyProof.Rows L2 Tsa
def grp (n : Int) (L : List Int) (l : Int) : List Int := (rangeL 0 n).filter fun y => decide (L.getD y.toNat 0 = l)
theorem mem_grp {n : Int} {L : List Int} {l y : Int} : y ∈ grp n L l ↔ (0 ≤ y ∧ y < n) ∧ L.getD y.toNat 0 = l := by
  unfold grp
  rw [List.mem_filter, mem_rangeL, decide_eq_true_eq]
theorem drawn_ok {p : Int × Int} {n : Int} (g : PotOk p) (n1 : 1 ≤ n) (n9 : n ≤ 9) : Fine (m_parting p n) fun r => Ptn n r.1 ∧ PotOk r.2 := by
  unfold m_parting
  refine Fine.gd (rng_ok (by omega) (by omega)) ((Fine.compR (fun rest (done : List Int) (t : Int × Int) => (done.length + rest.length = n.toNat ∧ ∀ l ∈ done, 0 ≤ l ∧ l < n) ∧ PotOk t) (xs := rangeL 0 n) (done := []) (t := p) ⟨⟨by rw [len_rangeL]; show 0 + _ = _; omega, fun _ z => absurd z List.not_mem_nil⟩, g⟩ fun x r done t hI _ => ?_).bind fun q hq => ?_)
  · obtain ⟨⟨i1, i2⟩, i3⟩ := hI
    unfold c_parting_2
    refine (take_ok i3 (by omega) (by omega)).bind fun r2 hr2 => Fine.ok ⟨r2.1, rfl, ⟨?_, fun l hl => ?_⟩, hr2.2.2⟩
    · rw [List.length_append, List.length_singleton]
      rw [List.length_cons] at i1
      omega
    · rcases List.mem_append.mp hl with hl | hl
      · exact i2 l hl
      · rw [List.mem_singleton.mp hl]; exact ⟨hr2.1, hr2.2.1⟩
  obtain ⟨L, t⟩ := q
  obtain ⟨⟨j1, j2⟩, j3⟩ := hq
  rw [List.nil_append] at j1 j2
  have j1 : L.length = n.toNat := j1
  have j2 : ∀ l ∈ L, 0 ≤ l ∧ l < n := j2
  have e1 : ∀ x2, c_parting_10 n (L, t) x2 = .ok (some (grp n L x2), ()) := fun x2 => by
    unfold c_parting_10
    rw [gd_t (rng_ok (by omega) (by omega)), compL_filtM (q := fun y => decide (L.getD y.toNat 0 = x2)) (g := fun y => y) (rangeL 0 n) fun y hy => ?_]
    · rw [Res.bind_ok, List.map_id']; rfl
    · have hy := mem_rangeL.mp hy
      unfold c_parting_9
      have lt : y.toNat < L.length := by omega
      rw [idx_at hy.1 lt, Res.bind_ok, Res.bind_ok]
      have : L.getD y.toNat 0 = L[y.toNat] := by rw [List.getD_eq_getElem?_getD, List.getElem?_eq_getElem lt]; rfl
      rw [this]
  refine Fine.gd (rng_ok (by omega) (by omega)) ?_
  rw [compL_pureM (g := grp n L) (rangeL 0 n) fun x2 _ => e1 x2, Res.bind_ok]
  refine Fine.ok ⟨?_, j3⟩
  have mem : ∀ P, P ∈ sortD eLI (((rangeL 0 n).map (grp n L)).filter fun x_5 => !decide (x_5 = ([] : List Int))) ↔ (∃ l, (0 ≤ l ∧ l < n) ∧ P = grp n L l) ∧ P ≠ [] := fun P => by
    rw [sortD_mem, List.mem_filter, List.mem_map]
    constructor
    · rintro ⟨⟨l, hl, rfl⟩, h⟩
      exact ⟨⟨l, mem_rangeL.mp hl, rfl⟩, by simpa using h⟩
    · rintro ⟨⟨l, hl, rfl⟩, h⟩
      exact ⟨⟨l, mem_rangeL.mpr hl, rfl⟩, by simpa using h⟩
  show Ptn n (sortD eLI (((rangeL 0 n).map (grp n L)).filter fun x_5 => !decide (x_5 = ([] : List Int))))
  refine ⟨fun P hP => ?_, fun P hP x hx => ?_, fun x h0 h1 => ?_, fun P hP => ((mem P).mp hP).2, ?_⟩
  · obtain ⟨⟨l, _, rfl⟩, _⟩ := (mem P).mp hP
    exact (rangeL_lt 0 n).filter _
  · obtain ⟨⟨l, _, rfl⟩, _⟩ := (mem P).mp hP
    exact (mem_grp.mp hx).1
  · have lt : x.toNat < L.length := by omega
    have hm : L.getD x.toNat 0 ∈ L := by
      rw [List.getD_eq_getElem?_getD, List.getElem?_eq_getElem lt]
      exact List.getElem_mem lt
    have hx : x ∈ grp n L (L.getD x.toNat 0) := mem_grp.mpr ⟨⟨h0, h1⟩, rfl⟩
    exact ⟨_, (mem _).mpr ⟨⟨_, j2 _ hm, rfl⟩, List.ne_nil_of_mem hx⟩, hx⟩
  · have per := sortD_perm (enc := eLI) (((rangeL 0 n).map (grp n L)).filter fun x_5 => !decide (x_5 = ([] : List Int)))
    refine (List.Perm.pairwise_iff (R := fun P Q : List Int => ∀ x ∈ P, x ∉ Q) (fun h x hx hy => h x hy hx) per).mpr ?_
    refine List.Pairwise.filter _ (List.pairwise_map.mpr ((rangeL_lt 0 n).imp fun {a b} lt x hx hy => ?_))
    have := (mem_grp.mp hx).2
    have := (mem_grp.mp hy).2
    omega
end HD

/-! G27: lists walked side by side, by numbers; rising lists. -/
namespace Tsa
open PySem PySem.Spec PyProof.Rows L2
theorem cut_one {R : List Int} (h : 1 ≤ R.length) : cutG R (some 1) none = R.drop 1 := by
  unfold cutG
  have e : HT.sIx R.length 0 (some 1) = 1 := by
    show (if (1 : Int) < 0 then (1 + (R.length : Int)).toNat else min (1 : Int).toNat R.length) = 1
    rw [if_neg (by decide)]
    show min 1 R.length = 1
    omega
  rw [e]
  show (R.drop 1).take (R.length - 1) = R.drop 1
  rw [List.take_of_length_le (by rw [List.length_drop]; exact Nat.le_refl _)]
end Tsa

set_option exponentiation.threshold 6000
/-! is_parting and the law's own look are one -/
namespace HD
open PySem PySem.Spec PyProof.Rows L2 Tsa
/-! ### rising -/
theorem srt_lt {l : List Int} (nd : l.Nodup) : (sortD PyData.int l).Pairwise (· < ·) := by
  have s := List.pairwise_mergeSort (le := fun a b => PySem.W.dataLe false PyData.int a b) lawI.trans lawI.total l
  have n : (sortD PyData.int l).Nodup := (sortD_perm l).nodup_iff.mpr nd
  have s2 : (sortD PyData.int l).Pairwise (· ≤ ·) := s.imp fun h => le_int.mp h
  exact (s2.and n).imp fun ⟨a, b⟩ => by have : ∀ x y : Int, x ≤ y → x ≠ y → x < y := fun x y h k => by omega
                                        exact this _ _ a b
theorem srt_iff {l : List Int} (nd : l.Nodup) : decide (l = sortD PyData.int l) = decide (l.Pairwise (· < ·)) := by
  refine decide_eq_decide.mpr ⟨fun e => ?_, fun h => ?_⟩
  · rw [e]; exact srt_lt nd
  · exact (sortD_is lawI (List.Perm.refl l) (h.imp fun z => le_int.mpr (by omega))).symm
theorem set_iff (l : List Int) : decide (l = sortSet l) = decide (l.Pairwise (· < ·)) := by
  refine decide_eq_decide.mpr ⟨fun e => ?_, fun h => ?_⟩
  · rw [e]; exact srt_lt (once_nodup l)
  · exact (sortSet_is h fun _ => Iff.rfl).symm
theorem rises_iff (l : List Int) : (((l.zip (cutG l (some 1) none)).map fun x => decide (x.1 < x.2)).all id) = decide (l.Pairwise (· < ·)) := by
  cases l with
  | nil => rfl
  | cons a r =>
    rw [cut_one (by rw [List.length_cons]; omega)]
    show (((a :: r).zip r).map fun x => decide (x.1 < x.2)).all id = _
    induction r generalizing a with
    | nil => rfl
    | cons b r ih =>
      show (decide (a < b) && (((b :: r).zip r).map fun x => decide (x.1 < x.2)).all id) = _
      rw [ih b, Bool.eq_iff_iff, Bool.and_eq_true, decide_eq_true_eq, decide_eq_true_eq, decide_eq_true_eq]
      constructor
      · rintro ⟨h1, h2⟩
        refine List.pairwise_cons.mpr ⟨fun x hx => ?_, h2⟩
        rcases List.mem_cons.mp hx with e | hx
        · rw [e]; exact h1
        · have := (List.pairwise_cons.mp h2).1 x hx; omega
      · intro h
        obtain ⟨h1, h2⟩ := List.pairwise_cons.mp h
        exact ⟨h1 b (List.mem_cons_self ..), h2⟩
/-! ### rows of numbers -/
def rowI : PyData → Option (List Int)
  | .list l => xints l
  | .tuple l => xints l
  | _ => none
def rowD (x : PyData) : List Int := (rowI x).getD []
def good (x : PyData) : Bool := match rowI x with
  | some ns => !ns.isEmpty && decide (ns.Pairwise (· < ·))
  | none => false
def inR (p : Int) (ns : List Int) : Bool := ns.all fun n => decide (0 ≤ n) && decide (n < p)
def goodP (p : Int) (x : PyData) : Bool := good x && inR p (rowD x)
def plB (p : Int) : PyData → Bool
  | .int n => decide (0 ≤ n) && decide (n < p)
  | _ => false
theorem place_ok (p : Int) (x : PyData) : m_is_place p x = .ok (plB p x) := by cases x <;> rfl
theorem pl_int {p : Int} : ∀ {l : List PyData}, l.all (plB p) = true → ∃ ns, l = ns.map .int ∧ inR p ns = true
  | [], _ => ⟨[], rfl, rfl⟩
  | d :: l, h => by
    rw [List.all_cons, Bool.and_eq_true] at h
    obtain ⟨ns, e, q⟩ := pl_int h.2
    cases d with
    | int n => exact ⟨n :: ns, by rw [e]; rfl, by unfold inR at q ⊢; rw [List.all_cons, q, Bool.and_true]; exact h.1⟩
    | _ => cases h.1
theorem pl_map {p : Int} : ∀ (ns : List Int), (ns.map PyData.int).all (plB p) = inR p ns
  | [] => rfl
  | n :: ns => by
    rw [List.map_cons, List.all_cons, pl_map ns]; rfl
theorem pl_none {p : Int} {l : List PyData} (h : xints l = none) : l.all (plB p) = false := by
  cases e : l.all (plB p) with
  | false => rfl
  | true =>
    obtain ⟨ns, e2, _⟩ := pl_int e
    rw [e2, xints_map] at h; cases h
theorem part_list {p : Int} {l : List PyData} {f : PyData → Unit → Res (Option Bool × Unit)} (hf : ∀ x, f x () = .ok (some (plB p x), ())) {g : List Int → Res Bool} (hg : ∀ r, g r = .ok (decide (r.Pairwise (· < ·)))) :
    ((compL f l ()).bind fun r_3 => cond (r_3.1.all id) (optR (xints l) fun thing_3 => (g thing_3).bind fun r_4 => .ok r_4) (.ok false)) = .ok (match xints l with
      | some ns => inR p ns && decide (ns.Pairwise (· < ·))
      | none => false) := by
  rw [compL_pureM (g := plB p) l fun x _ => hf x, Res.bind_ok]
  show cond ((l.map (plB p)).all id) _ _ = _
  have ea : (l.map (plB p)).all id = l.all (plB p) := by rw [List.all_map]; rfl
  rw [ea]
  cases e : xints l with
  | none => rw [pl_none e]; rfl
  | some ns =>
    have el := xints_eq e
    rw [el, pl_map]
    show cond (inR p ns) ((g ns).bind fun r_4 => .ok r_4) (.ok false) = .ok (inR p ns && decide (ns.Pairwise (· < ·)))
    cases inR p ns with
    | false => rfl
    | true =>
      show (g ns).bind _ = _
      rw [hg, Bool.true_and]; rfl
theorem rising_ok (r : List Int) : m_are_rising r = .ok (decide (r.Pairwise (· < ·))) := by
  unfold m_are_rising
  rw [rises_iff]
theorem rising2_ok (r : List Int) : m_are_rising_2 r = .ok (decide (r.Pairwise (· < ·))) := rising_ok r
theorem good_l {l : List PyData} {p : Int} {d : PyData} (hd : rowI d = xints l) : (match xints l with
      | some ns => inR p ns && decide (ns.Pairwise (· < ·))
      | none => false) = (goodP p d || (l.isEmpty)) := by
  unfold goodP good rowD
  rw [hd]
  cases e : xints l with
  | none =>
    cases l with
    | nil => cases e
    | cons a r => rfl
  | some ns =>
    have el := xints_eq e
    subst el
    cases ns with
    | nil => rfl
    | cons a r =>
      show (_ && _) = ((!false && _) && _ || false)
      rw [Bool.not_false, Bool.true_and, Bool.or_false, Bool.and_comm]; rfl
theorem part_ok (p : Int) (d : PyData) : m_is_part p d = .ok (goodP p d) := by
  have nl : ∀ (l : List PyData) (d : PyData), rowI d = xints l → l = [] → goodP p d = false := fun l d hd e => by
    subst e
    unfold goodP good
    rw [hd]; rfl
  unfold m_is_part
  cases d with
  | list l =>
    show ((Res.ok (decide ((l.length : Int) = 0))).bind fun c => cond c (.ok false) _) = _
    rw [Res.bind_ok]
    cases l with
    | nil => rw [nl [] _ rfl rfl]; rfl
    | cons a r =>
      rw [decide_eq_false (by rw [List.length_cons]; omega)]
      show ((_ : Res Bool).bind fun c_2 => .ok c_2) = _
      rw [part_list (p := p) (fun x => by unfold c_is_part_112; rw [place_ok]; rfl) rising_ok, good_l (d := .list (a :: r)) rfl]
      rw [List.isEmpty_cons, Bool.or_false]; rfl
  | tuple l =>
    show ((Res.ok (decide ((l.length : Int) = 0))).bind fun c => cond c (.ok false) _) = _
    rw [Res.bind_ok]
    cases l with
    | nil => rw [nl [] _ rfl rfl]; rfl
    | cons a r =>
      rw [decide_eq_false (by rw [List.length_cons]; omega)]
      show ((_ : Res Bool).bind fun c_3 => .ok c_3) = _
      rw [part_list (p := p) (fun x => by unfold c_is_part_224; rw [place_ok]; rfl) rising2_ok, good_l (d := .tuple (a :: r)) rfl]
      rw [List.isEmpty_cons, Bool.or_false]; rfl
  | _ => rfl
end HD

set_option exponentiation.threshold 6000
/-! the law's own look; judged -/
namespace HD
open PySem PySem.Spec PyProof.Rows L2 Tsa
def wh (x : PyData) : Bool := isIntD x && !isBoolD x
theorem wh_map : ∀ ns : List Int, ((ns.map PyData.int).filter fun x => !wh x) = []
  | [] => rfl
  | n :: ns => by
    rw [List.map_cons, List.filter_cons]
    show (if (!(true && !false)) = true then _ else _) = _
    rw [if_neg (by decide)]; exact wh_map ns
theorem wh_none : ∀ {l : List PyData}, xints l = none → ((l.filter fun x => !wh x).isEmpty) = false
  | [], h => by cases h
  | d :: l, h => by
    rw [List.filter_cons]
    cases d with
    | int n =>
      show (List.isEmpty (if (!(true && !false)) = true then _ else _)) = _
      rw [if_neg (by decide)]
      refine wh_none ?_
      have h : (xints l).map (n :: ·) = none := h
      cases e : xints l with
      | none => rfl
      | some ns => rw [e] at h; cases h
    | _ => rfl
def goR (l : List PyData) (seen : List Int) : Lp (List Int) Bool := match xints l with
  | some ns => cond (decide (ns.Pairwise (· < ·))) (.nx (seen ++ ns)) (.rt false)
  | none => .rt false
theorem look_list {l : List PyData} {seen : List Int} (hl : l.length < 64) (hs : seen.length + l.length ≤ 16000000) {f : PyData → Unit → Res (Option PyData × Unit)} (hf : ∀ x, f x () = cond (!wh x) (.ok (some x, ())) (.ok (none, ()))) :
    (((compL f l ()).bind fun r_2 => cond (!r_2.1.isEmpty) (.ok true) (optR (xints l) fun part_2 => gd (part_2.length < 64) (.ok (!decide (part_2 = (sortSet part_2)))))).bind fun c_2 => cond c_2 (.ok (.rt false)) (optR (xints l) fun part_3 => gd (seen.length + part_3.length ≤ 16000000) (bindv (seen ++ part_3) fun seen_3 => .ok (.nx seen_3)))) = Res.ok (goR l seen) := by
  rw [compL_filt (q := fun x => !wh x) (g := fun x => x) l hf, Res.bind_ok, List.map_id']
  unfold goR
  cases e : xints l with
  | none =>
    show Res.bind (cond (!((l.filter fun x => !wh x).isEmpty)) _ _) _ = _
    rw [wh_none e]; rfl
  | some ns =>
    have el := xints_eq e
    subst el
    rw [List.length_map] at hl hs
    show Res.bind (cond (!(((ns.map PyData.int).filter fun x => !wh x).isEmpty)) (Res.ok true) (gd (ns.length < 64) (Res.ok (!decide (ns = sortSet ns))))) (fun c_2 => cond c_2 (Res.ok (Lp.rt false)) (gd (seen.length + ns.length ≤ 16000000) (Res.ok (Lp.nx (seen ++ ns))))) = Res.ok (cond (decide (ns.Pairwise (· < ·))) (Lp.nx (seen ++ ns)) (Lp.rt false))
    rw [wh_map, gd_t hl, gd_t hs, set_iff]
    cases decide (ns.Pairwise (· < ·)) <;> rfl
def Short (d : PyData) : Prop := ∀ l, (d = .list l ∨ d = .tuple l) → l.length < 64
theorem goR_good {l : List PyData} {d : PyData} {seen : List Int} (hd : rowI d = xints l) (ne : l ≠ []) : goR l seen = cond (good d) (.nx (seen ++ rowD d)) (.rt false) := by
  unfold goR good rowD
  rw [hd]
  cases e : xints l with
  | none => rfl
  | some ns =>
    have el := xints_eq e
    have : ns ≠ [] := fun z => ne (by rw [el, z]; rfl)
    cases ns with
    | nil => exact absurd rfl this
    | cons a r => show cond (decide _) _ _ = cond (!false && decide _) _ _; rw [Bool.not_false, Bool.true_and]; rfl
theorem bad_nil {l : List PyData} {d : PyData} (hd : rowI d = xints l) (e : l = []) : good d = false := by
  subst e
  unfold good
  rw [hd]; rfl
theorem look_one {x : PyData} {seen : List Int} (sh : Short x) (hs : seen.length + 64 ≤ 16000000) : f_l_is_parting_29 x seen = .ok (cond (good x) (.nx (seen ++ rowD x)) (.rt false)) := by
  unfold f_l_is_parting_29
  cases x with
  | list l =>
    have hl := sh l (.inl rfl)
    show Res.bind (Res.ok (decide ((l.length : Int) = 0))) (fun c => cond c (Res.ok (Lp.rt false)) _) = _
    rw [Res.bind_ok]
    cases l with
    | nil => rw [bad_nil (d := .list []) rfl rfl]; rfl
    | cons a r =>
      rw [decide_eq_false (by rw [List.length_cons]; omega), ← goR_good (d := .list (a :: r)) rfl (fun z => nomatch z)]
      exact look_list (l := a :: r) hl (by omega) fun x => rfl
  | tuple l =>
    have hl := sh l (.inr rfl)
    show Res.bind (Res.ok (decide ((l.length : Int) = 0))) (fun c => cond c (Res.ok (Lp.rt false)) _) = _
    rw [Res.bind_ok]
    cases l with
    | nil => rw [bad_nil (d := .tuple []) rfl rfl]; rfl
    | cons a r =>
      rw [decide_eq_false (by rw [List.length_cons]; omega), ← goR_good (d := .tuple (a :: r)) rfl (fun z => nomatch z)]
      exact look_list (l := a :: r) hl (by omega) fun x => rfl
  | _ => rfl
theorem look_two (x : PyData) (seen : List Int) : f_l_is_parting_60 x seen = f_l_is_parting_29 x seen := rfl
theorem row_len {x : PyData} (sh : Short x) : (rowD x).length < 64 := by
  unfold rowD
  cases x with
  | list l =>
    show ((xints l).getD []).length < 64
    have := sh l (.inl rfl)
    cases e : xints l with
    | none => show 0 < 64; omega
    | some ns => rw [xints_eq e, List.length_map] at this; exact this
  | tuple l =>
    show ((xints l).getD []).length < 64
    have := sh l (.inr rfl)
    cases e : xints l with
    | none => show 0 < 64; omega
    | some ns => rw [xints_eq e, List.length_map] at this; exact this
  | _ => show 0 < 64; omega
theorem look_loop {F : PyData → List Int → Res (Lp (List Int) Bool)} (hF : ∀ x seen, F x seen = f_l_is_parting_29 x seen) : ∀ (ds : List PyData) (seen : List Int), (∀ x ∈ ds, Short x) → seen.length + 64 * ds.length + 64 ≤ 16000000 →
    forL F ds seen = .ok (cond (ds.all good) (.inl (seen ++ (ds.map rowD).flatten)) (.inr false))
  | [], seen, _, _ => by show Res.ok (Sum.inl seen) = .ok (.inl (seen ++ [])); rw [List.append_nil]
  | x :: ds, seen, h, hs => by
    rw [List.length_cons] at hs
    have sx := h x (List.mem_cons_self ..)
    have rl := row_len sx
    rw [forL_nx, hF, look_one sx (by omega), Res.bind_ok, List.all_cons]
    cases good x with
    | false => rfl
    | true =>
      show forL F ds (seen ++ rowD x) = _
      rw [look_loop hF ds _ (fun y hy => h y (List.mem_cons_of_mem _ hy)) (by rw [List.length_append]; omega), Bool.true_and, List.map_cons, List.flatten_cons, List.append_assoc]
def hd (x : PyData) : Int := (rowD x).headD 0
theorem good_row {x : PyData} (h : good x = true) : ∃ a r, (x = .list ((a :: r).map .int) ∨ x = .tuple ((a :: r).map .int)) ∧ rowD x = a :: r := by
  have key : ∀ l : List PyData, rowI x = xints l → ∃ a r, l = (a :: r).map PyData.int ∧ rowD x = a :: r := fun l hl => by
    unfold good at h
    unfold rowD
    rw [hl] at h ⊢
    cases e : xints l with
    | none => rw [e] at h; cases h
    | some ns =>
      rw [e] at h
      cases ns with
      | nil => cases h
      | cons a r => exact ⟨a, r, xints_eq e, rfl⟩
  cases x with
  | list l =>
    obtain ⟨a, r, e, q⟩ := key l rfl
    exact ⟨a, r, .inl (by rw [e]), q⟩
  | tuple l =>
    obtain ⟨a, r, e, q⟩ := key l rfl
    exact ⟨a, r, .inr (by rw [e]), q⟩
  | _ => cases h
theorem xat_good {x : PyData} (h : good x = true) : xat x 0 = .ok (.int (hd x)) := by
  obtain ⟨a, r, e, q⟩ := good_row h
  unfold hd
  rw [q]
  rcases e with e | e <;> rw [e] <;> exact idx_at (by decide) (by rw [List.length_map, List.length_cons]; exact Nat.succ_pos _)
theorem firsts_ok {f : PyData → Unit → Res (Option PyData × Unit)} (hf : ∀ x, f x () = (xat x 0).bind fun y => .ok (some y, ())) {ds : List PyData} (h : ds.all good = true) {ω : Type} (k : List Int → Res ω) :
    ((compL f ds ()).bind fun r_5 => optR (xints r_5.1) k) = k (ds.map hd) := by
  rw [compL_pureM (g := fun x => PyData.int (hd x)) ds fun x hx => by rw [hf, xat_good (List.all_eq_true.mp h x hx)]; rfl, Res.bind_ok]
  show optR (xints (ds.map fun x => PyData.int (hd x))) k = _
  have : (ds.map fun x => PyData.int (hd x)) = (ds.map hd).map .int := by rw [List.map_map]; rfl
  rw [this, xints_map]; rfl
def lawV (p : Int) (ds : List PyData) : Bool := ds.all good && (decide (sortD PyData.int (ds.map rowD).flatten = rangeL 0 p) && decide (ds.map hd = sortD PyData.int (ds.map hd)))
theorem lawA {p : Int} (p0 : 0 ≤ p) (p9 : p ≤ 9) {F : PyData → List Int → Res (Lp (List Int) Bool)} (hF : ∀ x seen, F x seen = f_l_is_parting_29 x seen) {f : PyData → Unit → Res (Option PyData × Unit)} (hf : ∀ x, f x () = (xat x 0).bind fun y => .ok (some y, ())) {ds : List PyData} (h : ∀ x ∈ ds, Short x) (hl : ds.length ≤ 1000) :
    ((forL F ds ([] : List Int)).bind (orW fun seen_5 => (compL f ds ()).bind fun r_5 => optR (xints r_5.1) fun firsts => (gd (rngOk 0 p) (cond (decide ((sortD PyData.int seen_5) = (rangeL 0 p))) (.ok (decide (firsts = (sortD PyData.int firsts)))) (.ok false))).bind fun c_4 => .ok c_4)) = .ok (lawV p ds) := by
  rw [look_loop hF ds [] h (by show 0 + _ + 64 ≤ _; omega), Res.bind_ok]
  unfold lawV
  cases e : ds.all good with
  | false => rfl
  | true =>
    show ((compL f ds ()).bind fun r_5 => optR (xints r_5.1) _) = _
    rw [firsts_ok hf e, gd_t (rng_ok (by omega) (by omega)), List.nil_append, Bool.true_and]
    cases decide (sortD PyData.int (ds.map rowD).flatten = rangeL 0 p) <;> rfl
def lawX (p : Int) : PyData → Bool
  | .list ds => lawV p ds
  | .tuple ds => lawV p ds
  | _ => false
theorem law_ok {p : Int} (p0 : 0 ≤ p) (p9 : p ≤ 9) {d : PyData} (h : ∀ ds, (d = .list ds ∨ d = .tuple ds) → ds.length ≤ 1000 ∧ ∀ x ∈ ds, Short x) :
    m_l_is_parting p d = .ok (lawX p d) := by
  unfold m_l_is_parting
  cases d with
  | list ds => exact lawA p0 p9 (fun _ _ => rfl) (fun _ => rfl) (h ds (.inl rfl)).2 (h ds (.inl rfl)).1
  | tuple ds => exact lawA p0 p9 look_two (fun _ => rfl) (h ds (.inr rfl)).2 (h ds (.inr rfl)).1
  | _ => rfl
/-! ### the program's look -/
theorem split_l {ω : Type} {ns : List Int} {f g : List Int → Res ω} : xsplitI (.list (ns.map PyData.int)) f g = f ns := by
  show (match xints (ns.map PyData.int) with
    | some ns => f ns
    | none => .un) = _
  rw [xints_map]
theorem split_t {ω : Type} {ns : List Int} {f g : List Int → Res ω} : xsplitI (.tuple (ns.map PyData.int)) f g = g ns := by
  show (match xints (ns.map PyData.int) with
    | some ns => g ns
    | none => .un) = _
  rw [xints_map]
theorem found_one {x : PyData} {found : List Int} (h : good x = true) (hs : found.length + (rowD x).length ≤ 16000000) : f_is_parting_41 x found = .ok (found ++ rowD x) := by
  obtain ⟨a, r, e, q⟩ := good_row h
  rw [q] at hs ⊢
  unfold f_is_parting_41
  rcases e with e | e
  · rw [e, split_l]; exact gd_t hs
  · rw [e, split_t]; exact gd_t hs
theorem found_loop {F : PyData → List Int → Res (List Int)} (hF : ∀ x t, F x t = f_is_parting_41 x t) : ∀ (ds : List PyData) (found : List Int), ds.all good = true → (∀ x ∈ ds, Short x) → found.length + 64 * ds.length ≤ 16000000 → forS F ds found = .ok (found ++ (ds.map rowD).flatten)
  | [], found, _, _, _ => by show Res.ok found = .ok (found ++ []); rw [List.append_nil]
  | x :: ds, found, g, h, hs => by
    rw [List.length_cons] at hs
    rw [List.all_cons, Bool.and_eq_true] at g
    have rl := row_len (h x (List.mem_cons_self ..))
    show (F x found).bind (forS F ds) = _
    rw [hF, found_one g.1 (by omega), Res.bind_ok, found_loop hF ds _ g.2 (fun y hy => h y (List.mem_cons_of_mem _ hy)) (by rw [List.length_append]; omega), List.map_cons, List.flatten_cons, List.append_assoc]
def proV (p : Int) (ds : List PyData) : Bool := ds.all (goodP p) && (decide ((ds.map hd).Pairwise (· < ·)) && decide (sortD PyData.int (ds.map rowD).flatten = rangeL 0 p))
theorem goodP_all {p : Int} {ds : List PyData} (h : ds.all (goodP p) = true) : ds.all good = true := List.all_eq_true.mpr fun x hx => by
  have := List.all_eq_true.mp h x hx
  unfold goodP at this
  rw [Bool.and_eq_true] at this
  exact this.1
theorem proA {p : Int} (p0 : 0 ≤ p) (p9 : p ≤ 9) {F : PyData → List Int → Res (List Int)} (hF : ∀ x t, F x t = f_is_parting_41 x t) {f1 : PyData → Unit → Res (Option Bool × Unit)} (h1 : ∀ x, f1 x () = (m_is_part p x).bind fun r => .ok (some r, ())) {f : PyData → Unit → Res (Option PyData × Unit)} (hf : ∀ x, f x () = (xat x 0).bind fun y => .ok (some y, ())) {ds : List PyData} (h : ∀ x ∈ ds, Short x) (hl : ds.length ≤ 1000) :
    (((compL f1 ds ()).bind fun r_3 => .ok (!(r_3.1.all id))).bind fun c => cond c (.ok false) (((compL f ds ()).bind fun r_4 => optR (xints r_4.1) fun ns => (m_are_rising ns).bind fun r_5 => .ok (!r_5)).bind fun c_2 => cond c_2 (.ok false) (bindv ([] : List Int) fun found => (forS F ds found).bind fun found_5 => gd (rngOk 0 p) (.ok (decide ((sortD PyData.int found_5) = (rangeL 0 p))))))) = .ok (proV p ds) := by
  rw [compL_pureM (g := goodP p) ds fun x _ => by rw [h1, part_ok]; rfl, Res.bind_ok]
  show (cond (!((ds.map (goodP p)).all id)) _ _) = _
  have ea : (ds.map (goodP p)).all id = ds.all (goodP p) := by rw [List.all_map]; rfl
  rw [ea]
  unfold proV
  cases e : ds.all (goodP p) with
  | false => rfl
  | true =>
    have g := goodP_all e
    show (((compL f ds ()).bind fun r_4 => optR (xints r_4.1) _).bind _) = _
    rw [firsts_ok hf g, rising_ok]
    show (cond (!decide ((ds.map hd).Pairwise (· < ·))) (Res.ok false) _) = _
    cases decide ((ds.map hd).Pairwise (· < ·)) with
    | false => rfl
    | true =>
      show ((forS F ds []).bind _) = _
      rw [found_loop hF ds [] g h (by show 0 + _ ≤ _; omega), Res.bind_ok, gd_t (rng_ok (by omega) (by omega)), List.nil_append]
      rfl
def proX (p : Int) : PyData → Bool
  | .list ds => proV p ds
  | .tuple ds => proV p ds
  | _ => false
theorem pro_ok {w : Int × Pr} (p0 : 0 ≤ w.1) (p9 : w.1 ≤ 9) {d : PyData} (h : ∀ ds, (d = .list ds ∨ d = .tuple ds) → ds.length ≤ 1000 ∧ ∀ x ∈ ds, Short x) :
    m_is_parting w d = .ok (proX w.1 d) := by
  unfold m_is_parting
  cases d with
  | list ds => exact proA p0 p9 (fun _ _ => rfl) (fun _ => rfl) (fun _ => rfl) (h ds (.inl rfl)).2 (h ds (.inl rfl)).1
  | tuple ds => exact proA p0 p9 (fun _ _ => rfl) (fun _ => rfl) (fun _ => rfl) (h ds (.inr rfl)).2 (h ds (.inr rfl)).1
  | _ => rfl
/-! ### one answer -/
theorem heads_sub : ∀ {ds : List PyData}, ds.all good = true → (ds.map hd).Sublist (ds.map rowD).flatten
  | [], _ => .slnil
  | x :: ds, h => by
    rw [List.all_cons, Bool.and_eq_true] at h
    obtain ⟨a, r, _, q⟩ := good_row h.1
    have e : hd x = a := by unfold hd; rw [q]; rfl
    rw [List.map_cons, List.map_cons, List.flatten_cons, q, e, List.cons_append]
    exact ((heads_sub h.2).trans (List.sublist_append_right r _)).cons_cons a
theorem same {p : Int} (p0 : 0 ≤ p) (ds : List PyData) : lawV p ds = proV p ds := by
  unfold lawV proV
  cases e : ds.all good with
  | false =>
    cases e2 : ds.all (goodP p) with
    | false => rfl
    | true => rw [goodP_all e2] at e; cases e
  | true =>
    rw [Bool.true_and]
    by_cases c : sortD PyData.int (ds.map rowD).flatten = rangeL 0 p
    · have nd : (ds.map rowD).flatten.Nodup := (sortD_perm (enc := PyData.int) _).nodup_iff.mp (by rw [c]; exact (rangeL_lt 0 p).imp fun z => by omega)
      have inn : ∀ y ∈ (ds.map rowD).flatten, 0 ≤ y ∧ y < p := fun y hy => by
        have : y ∈ sortD PyData.int (ds.map rowD).flatten := sortD_mem.mpr hy
        rw [c] at this
        exact mem_rangeL.mp this
      have al : ds.all (goodP p) = true := List.all_eq_true.mpr fun x hx => by
        unfold goodP inR
        rw [List.all_eq_true.mp e x hx, Bool.true_and, List.all_eq_true]
        intro y hy
        have := inn y (List.mem_flatten.mpr ⟨_, List.mem_map_of_mem hx, hy⟩)
        rw [decide_eq_true this.1, decide_eq_true this.2]; rfl
      rw [decide_eq_true c, al, srt_iff ((heads_sub e).nodup nd), Bool.true_and, Bool.true_and, Bool.and_true]
    · rw [decide_eq_false c, Bool.false_and, Bool.and_false, Bool.and_false]
def OkX (d : PyData) : Prop := showX d = true ∧ ∀ ds, (d = .list ds ∨ d = .tuple ds) → ds.length ≤ 1000 ∧ ∀ x ∈ ds, Short x
theorem showB (b : Bool) : showX (PyData.bool b) = true := by cases b <;> decide +kernel
theorem judged_ok {w : Int × Pr} (p0 : 0 ≤ w.1) (p9 : w.1 ≤ 9) {d : PyData} (h : OkX d) : m_judged w d = .ok true := by
  have e1 := law_ok p0 p9 h.2
  have e2 := pro_ok p0 p9 h.2
  have e : lawX w.1 d = proX w.1 d := by
    cases d with
    | list ds => exact same p0 ds
    | tuple ds => exact same p0 ds
    | _ => rfl
  rw [e] at e1
  generalize proX w.1 d = b at e1 e2
  unfold m_judged
  rw [e1, Res.bind_ok, gd_t (showB b)]
  show gd (showX (eX d) = true) _ = _
  rw [gd_t (show showX (eX d) = true from h.1)]
  show (((m_is_parting w d).bind _).bind _) = _
  have gx : ∀ {α : Type} {m : Res α}, gd (showX (eX d) = true) m = m := fun {α m} => gd_t (show showX (eX d) = true from h.1)
  have gb : ∀ {α : Type} {m : Res α}, gd (showX (PyData.bool b) = true) m = m := fun {α m} => gd_t (showB b)
  simp only [e2, Res.bind_ok, gb, gx, decide_true, cond_true]
end HD

set_option exponentiation.threshold 6000
/-! between, inside; what is told -/
namespace HD
open PySem PySem.Spec PyProof.Rows L2 Tsa
theorem between_in {i : Nat} {Q0 : List Int} : ∀ (Q : List Int) (m : List (Int × Int)), m.length + Q.length ≤ 1000 → ∃ m', forS (fun x' t => f_between_1 (Q0, i) x' t) Q m = .ok m' ∧ m'.length ≤ m.length + Q.length ∧ ∀ x, aGet m' x = if x ∈ Q then some (i : Int) else aGet m x
  | [], m, _ => ⟨m, rfl, Nat.le_refl _, fun x => by rw [if_neg List.not_mem_nil]⟩
  | a :: Q, m, h => by
    rw [List.length_cons] at h
    have l := aPut_len (m := m) (k := a) (v := (i : Int))
    have s : f_between_1 (Q0, i) a m = .ok (aPut m a (i : Int)) := by
      unfold f_between_1
      exact gd_t (by omega)
    obtain ⟨m', e1, e2, e3⟩ := between_in (Q0 := Q0) Q (aPut m a (i : Int)) (by omega)
    refine ⟨m', ?_, by rw [List.length_cons]; omega, fun x => ?_⟩
    · show (f_between_1 (Q0, i) a m).bind _ = _
      rw [s, Res.bind_ok]; exact e1
    · rw [e3, aGet_put]
      by_cases c : x ∈ Q
      · rw [if_pos c, if_pos (List.mem_cons_of_mem _ c)]
      · rw [if_neg c]
        by_cases ca : a = x
        · rw [if_pos ca, if_pos (by rw [ca]; exact List.mem_cons_self)]
        · rw [if_neg ca, if_neg fun z => (List.mem_cons.mp z).elim (fun e => ca e.symm) c]
theorem between_all : ∀ (P : List (List Int)) (n0 : Nat) (m : List (Int × Int)), P.Pairwise (fun Q R => ∀ x ∈ Q, x ∉ R) → m.length + P.flatten.length ≤ 1000 →
    ∃ m', forS (fun x' t_3 => f_between_2 x' t_3) (P.zipIdx n0) m = .ok m' ∧ ∀ x, (x ∉ P.flatten → aGet m' x = aGet m x) ∧ ∀ (i : Nat) (Q : List Int), P[i]? = some Q → x ∈ Q → aGet m' x = some ((n0 + i : Nat) : Int)
  | [], n0, m, _, _ => ⟨m, rfl, fun x => ⟨fun _ => rfl, fun i Q h => nomatch h⟩⟩
  | R :: P, n0, m, hd, h => by
    rw [List.flatten_cons, List.length_append] at h
    obtain ⟨d1, d2⟩ := List.pairwise_cons.mp hd
    obtain ⟨m1, a1, a2, a3⟩ := between_in (i := n0) (Q0 := R) R m (by omega)
    obtain ⟨m2, b1, b2⟩ := between_all P (n0 + 1) m1 d2 (by omega)
    have s : f_between_2 (R, n0) m = .ok m1 := by
      unfold f_between_2
      show ((forS (fun x' t => f_between_1 (R, n0) x' t) R m).bind _) = _
      rw [a1]; rfl
    refine ⟨m2, ?_, fun x => ⟨fun hx => ?_, fun i Q hi hx => ?_⟩⟩
    · rw [List.zipIdx_cons]
      show (f_between_2 (R, n0) m).bind _ = _
      rw [s, Res.bind_ok]; exact b1
    · rw [List.flatten_cons, List.mem_append, not_or] at hx
      rw [(b2 x).1 hx.2, a3, if_neg hx.1]
    · cases i with
      | zero =>
        have e : R = Q := Option.some.inj hi
        subst e
        have nf : x ∉ P.flatten := fun z => by
          obtain ⟨S, hS, hxS⟩ := List.mem_flatten.mp z
          exact d1 S hS x hx hxS
        rw [(b2 x).1 nf, a3, if_pos hx]
        rfl
      | succ i =>
        have e : P[i]? = some Q := hi
        rw [(b2 x).2 i Q e hx]
        congr 2
        omega

/-! ### in which part -/
def pI (P : List (List Int)) (x : Int) : Int := ((P.findIdx fun Q => decide (x ∈ Q) : Nat) : Int)
theorem first_ok {x : Int} : ∀ (P : List (List Int)) (n0 : Nat), (∃ Q ∈ P, x ∈ Q) → idx (((P.zipIdx n0).filter fun q => decide (x ∈ q.1)).map fun (q : List Int × Nat) => (q.2 : Int)) 0 = .ok ((n0 + P.findIdx (fun Q => decide (x ∈ Q)) : Nat) : Int)
  | [], _, h => by obtain ⟨_, h, _⟩ := h; cases h
  | R :: P, n0, h => by
    rw [List.zipIdx_cons, List.filter_cons, List.findIdx_cons]
    by_cases c : x ∈ R
    · rw [if_pos (decide_eq_true c), decide_eq_true c, List.map_cons]
      show idx ((n0 : Int) :: _) 0 = .ok ((n0 + 0 : Nat) : Int)
      rw [idx_at (by decide) (by rw [List.length_cons]; exact Nat.succ_pos _)]; rfl
    · rw [if_neg (by rw [decide_eq_false c]; decide), decide_eq_false c, first_ok P (n0 + 1) ?_]
      · show Res.ok _ = Res.ok _
        congr 2
        show n0 + 1 + P.findIdx _ = n0 + (P.findIdx _ + 1)
        omega
      · obtain ⟨Q, hQ, hx⟩ := h
        rcases List.mem_cons.mp hQ with e | hQ
        · rw [e] at hx; exact absurd hx c
        · exact ⟨Q, hQ, hx⟩
section
variable {w : Int × Pr} {P : List (List Int)}
theorem part_of_ok (h : Ptn w.1 P) {x : Int} (x0 : 0 ≤ x) (x1 : x < w.1) : m_part_of P x = .ok (pI P x) := by
  unfold m_part_of
  rw [first_ok P 0 (h.all x x0 x1), Nat.zero_add]; rfl
def apartL (w : Int × Pr) (P : List (List Int)) : List Int := ((w.2.zipIdx).filter fun x => !decide (pI P x.1.1 = pI P x.1.2)).map fun (x : (Int × Int) × Nat) => (x.2 : Int)
def within (w : Int × Pr) (T : List Int) : List Int := ((w.2.zipIdx).filter fun x => ((decide (x.1.1 ∈ T)) && (decide (x.1.2 ∈ T)))).map fun (x : (Int × Int) × Nat) => (x.2 : Int)
theorem fsts (hw : Web w) : ∀ x ∈ w.2.zipIdx, V w.1 x.1 ∧ x.2 < 60 := fun x hx => by
  obtain ⟨q, j⟩ := x
  rw [List.mem_zipIdx_iff_getElem?] at hx
  obtain ⟨h1, h2⟩ := List.getElem?_eq_some_iff.mp hx
  have := hw.2.2.1
  have h1 : j < w.2.length := h1
  have h2 : w.2[j] = q := h2
  exact ⟨hw.2.2.2 q (by rw [← h2]; exact List.getElem_mem h1), by show j < 60; omega⟩
theorem flat9 (hw : Web w) (h : Ptn w.1 P) : P.flatten.length ≤ 9 := by
  have := h.perm.length_eq
  have a := hw.1
  have b := hw.2.1
  rw [len_rangeL] at this
  omega
theorem between_is (hw : Web w) (h : Ptn w.1 P) : m_between w P = .ok (apartL w P) := by
  have fl := flat9 hw h
  unfold m_between
  refine Fine.run (Fine.bindv ?_)
  obtain ⟨m', e1, e2⟩ := between_all P 0 [] h.dis (by show 0 + _ ≤ _; omega)
  rw [e1, Res.bind_ok]
  have at_ : ∀ x, 0 ≤ x → x < w.1 → dGetR m' x = .ok (pI P x) := fun x x0 x1 => by
    have hex := h.all x x0 x1
    have lt : P.findIdx (fun Q => decide (x ∈ Q)) < P.length := List.findIdx_lt_length_of_exists (by
      obtain ⟨Q, hQ, hx⟩ := hex
      exact ⟨Q, hQ, decide_eq_true hx⟩)
    have hm := List.findIdx_getElem (w := lt)
    unfold dGetR
    rw [(e2 x).2 _ _ (List.getElem?_eq_getElem lt) (of_decide_eq_true hm), Nat.zero_add]; rfl
  rw [compL_filtM (q := fun x => !decide (pI P x.1.1 = pI P x.1.2)) (g := fun (x : (Int × Int) × Nat) => (x.2 : Int)) w.2.zipIdx fun x hx => by
    obtain ⟨⟨v1, v2, v3, v4⟩, _⟩ := fsts hw x hx
    unfold c_between_4
    rw [at_ _ v1 v2, Res.bind_ok, at_ _ v3 v4, Res.bind_ok, Res.bind_ok], Res.bind_ok]
  exact Fine.ok rfl
theorem apart_ok (hw : Web w) (h : Ptn w.1 P) : compL (fun x' _ => c_due_2 P x') (w.2.zipIdx) () = .ok (apartL w P, ()) := by
  rw [compL_filtM (q := fun x => !decide (pI P x.1.1 = pI P x.1.2)) (g := fun (x : (Int × Int) × Nat) => (x.2 : Int)) w.2.zipIdx fun x hx => by
    obtain ⟨⟨v1, v2, v3, v4⟩, _⟩ := fsts hw x hx
    unfold c_due_2
    rw [part_of_ok h v1 v2, Res.bind_ok, part_of_ok h v3 v4, Res.bind_ok, Res.bind_ok]]
  rfl
theorem inside_is {T : List Int} : m_inside w T = .ok (within w T) := rfl
theorem inside_is2 {T : List Int} : m_inside_2 w T = .ok (within w T) := rfl
/-! ### the parts in other ways -/
theorem rows_one {d : PyData} {i : Nat} {R : List Int} {m : List (Int × Int)} (h : rowI d = some R) : f_between_2_3 (d, i) m = f_between_2 (R, i) m := by
  unfold f_between_2_3
  cases d with
  | list l =>
    have e := xints_eq (show xints l = some R from h)
    subst e
    show xsplitI (.list (R.map PyData.int)) _ _ = _
    rw [split_l]; rfl
  | tuple l =>
    have e := xints_eq (show xints l = some R from h)
    subst e
    show xsplitI (.tuple (R.map PyData.int)) _ _ = _
    rw [split_t]; rfl
  | _ => cases h
theorem rows_all {F : PyData × Nat → List (Int × Int) → Res (List (Int × Int))} (hF : ∀ x m, F x m = f_between_2_3 x m) : ∀ (ds : List PyData) (P : List (List Int)) (n0 : Nat) (m : List (Int × Int)), ds.map rowI = P.map some →
    forS F (ds.zipIdx n0) m = forS (fun x' t_3 => f_between_2 x' t_3) (P.zipIdx n0) m
  | [], [], _, _, _ => rfl
  | [], _ :: _, _, _, h => by cases h
  | _ :: _, [], _, _, h => by cases h
  | d :: ds, R :: P, n0, m, h => by
    rw [List.map_cons, List.map_cons] at h
    injection h with h1 h2
    rw [List.zipIdx_cons, List.zipIdx_cons]
    show (F (d, n0) m).bind _ = (f_between_2 (R, n0) m).bind _
    rw [hF, rows_one h1]
    congr 1
    funext m2
    exact rows_all hF ds P (n0 + 1) m2 h2
theorem between2_is (hw : Web w) (h : Ptn w.1 P) {ds : List PyData} (e : ds.map rowI = P.map some) {d : PyData} (hd : d = .list ds ∨ d = .tuple ds) : m_between_2 w d = .ok (apartL w P) := by
  have b := between_is hw h
  unfold m_between at b
  unfold m_between_2
  rcases hd with hd | hd <;> subst hd
  · show ((forS (fun x' t_5 => f_between_2_3 x' t_5) (ds.zipIdx 0) ([] : List (Int × Int))).bind fun part_of_9 => (compL (fun x' _ => c_between_2_5 part_of_9 x') (w.2.zipIdx) ()).bind fun r => Res.ok r.1) = _
    rw [rows_all (fun _ _ => rfl) ds P 0 [] e]
    exact b
  · show ((forS (fun x' t_12 => f_between_2_8 x' t_12) (ds.zipIdx 0) ([] : List (Int × Int))).bind fun part_of_18 => (compL (fun x' _ => c_between_2_10 part_of_18 x') (w.2.zipIdx) ()).bind fun r_2 => Res.ok r_2.1) = _
    rw [rows_all (F := fun x' t_12 => f_between_2_8 x' t_12) (fun _ _ => rfl) ds P 0 [] e]
    exact b
end
end HD

set_option exponentiation.threshold 6000
/-! the ties told rightly -/
namespace HD
open PySem PySem.Spec PyProof.Rows L2 Tsa
theorem nums_len {w : Int × Pr} (hw : Web w) (q : (Int × Int) × Nat → Bool) : (((w.2.zipIdx).filter q).map fun (x : (Int × Int) × Nat) => (x.2 : Int)).length ≤ 60 := by
  rw [List.length_map]
  have := List.length_filter_le q w.2.zipIdx
  rw [List.length_zipIdx] at this
  have := hw.2.2.1
  omega
theorem nums_sm {w : Int × Pr} (hw : Web w) (q : (Int × Int) × Nat → Bool) : ∀ x ∈ (((w.2.zipIdx).filter q).map fun (x : (Int × Int) × Nat) => (x.2 : Int)), x.natAbs < 10 ^ 66 := fun x hx => by
  obtain ⟨y, hy, rfl⟩ := List.mem_map.mp hx
  have := (fsts hw y (List.mem_filter.mp hy).1).2
  have : ((y.2 : Int)).natAbs < 60 := by omega
  exact Nat.lt_trans this (by decide)
theorem sb_nums {l : List Int} (h : ∀ x ∈ l, x.natAbs < 10 ^ 66) (hl : l.length ≤ 60) : Sb 1 (60 * 221) (eLI l) := (SbL.map (fun x hx => sb_int (h x hx)) hl).list
theorem sb_two {a b : List Int} (ha : Sb 1 (60 * 221) (eLI a)) (hb : Sb 1 (60 * 221) (eLI b)) : Sb 2 30000 (eLLI [a, b]) :=
  ((SbL.cons ha (SbL.cons hb (SbL.nil (D := 1) (W := 0)))).list).mono (by decide) (by decide)
section
variable {w : Int × Pr} {P : List (List Int)}
theorem two_sb (hw : Web w) {T : List Int} : Sb 2 30000 (eLLI [apartL w P, within w T]) :=
  sb_two (sb_nums (nums_sm hw _) (nums_len hw _)) (sb_nums (nums_sm hw _) (nums_len hw _))
def txt (w : Int × Pr) (P : List (List Int)) (T : List Int) : Str := (eLLI [apartL w P, within w T]).shown
theorem due_ok (hw : Web w) (h : Ptn w.1 P) {T : List Int} : m_due w P T = .ok (txt w P T) := by
  unfold m_due
  rw [apart_ok hw h, Res.bind_ok]
  show gd (showOk (eLLI [apartL w P, within w T]) = true) _ = _
  rw [gd_t ((two_sb hw).show_ (by decide) (by decide))]
  rfl
theorem right_one (hw : Web w) (h : Ptn w.1 P) {T : List Int} {ds : List PyData} (e : ds.map rowI = P.map some) {d : PyData} (hd : d = .list ds ∨ d = .tuple ds) : c_ties_right_48 w T d = .ok (some (txt w P T), ()) := by
  unfold c_ties_right_48
  rw [between2_is hw h e hd, Res.bind_ok, inside_is2, Res.bind_ok, gd_t ((two_sb hw).show_ (by decide) (by decide))]
  rfl
theorem three_ok {s : Str} (h : PyData.strOk s = true) : (SeqAt.shaped (eLS [s, s, s]) = true ∧ SeqAt.shaped (eLS [s, s, s]) = true) ∧ PyData.eqv (eLS [s, s, s]) (eLS [s, s, s]) = true := by
  have lay : (eLS [s, s, s]).canLay0 = true := by
    show (PyData.strOk s && (PyData.strOk s && (PyData.strOk s && true))) = true
    rw [h]; rfl
  have sh : SeqAt.shaped (eLS [s, s, s]) = true := by
    unfold SeqAt.shaped
    rw [lay]; rfl
  exact ⟨⟨sh, sh⟩, PySem.SeqAt.eqv_refl _ lay⟩
theorem map_row (P : List (List Int)) : (P.map eLI).map rowI = P.map some := by
  rw [List.map_map]
  exact List.map_congr_left fun R _ => xints_map R
theorem map_rowW (P : List (List Int)) : (P.map eWI).map rowI = P.map some := by
  rw [List.map_map]
  exact List.map_congr_left fun R _ => xints_map R
theorem map_rowM : ∀ (P : List (List Int)) (n0 : Nat), ((P.zipIdx n0).map fun (x_2 : List Int × Nat) => (cond (decide (((x_2.2 : Int) % 2) = 0)) (eWI x_2.1) (eLI x_2.1))).map rowI = P.map some
  | [], _ => rfl
  | R :: P, n0 => by
    rw [List.zipIdx_cons, List.map_cons, List.map_cons, List.map_cons, map_rowM P (n0 + 1)]
    congr 1
    show rowI (cond (decide (((n0 : Nat) : Int) % 2 = 0)) (eWI R) (eLI R)) = _
    cases decide (((n0 : Nat) : Int) % 2 = 0) <;> exact xints_map R
theorem ties_ok (hw : Web w) (h : Ptn w.1 P) {T : List Int} : m_ties_right w P T = .ok true := by
  have sb := two_sb (P := P) (T := T) hw
  have so := sb.show_ (by decide) (by decide)
  unfold m_ties_right
  rw [due_ok hw h, Res.bind_ok, between_is hw h, Res.bind_ok, inside_is, Res.bind_ok]
  show ((gd (showOk (eLLI [apartL w P, within w T]) = true) (cond (!decide (txt w P T = txt w P T)) _ _)).bind _) = _
  rw [gd_t so, decide_eq_true rfl]
  show ((Res.ok (!decide ((P, T) = (P, T)))).bind _) = _
  rw [decide_eq_true rfl, Res.bind_ok]
  have l1 : 1 ≤ P.length := h.one hw.1
  have l9 := flat9 hw h
  have ea : ∃ r, appAt P 0 w.1 = .ok r := by
    cases P with
    | nil => exact absurd l1 (by decide)
    | cons R P =>
      rw [List.flatten_cons, List.length_append] at l9
      have e0 : ixN (R :: P).length 0 = some 0 := by
        unfold ixN
        rw [if_pos (by decide), if_pos (by rw [List.length_cons]; omega)]; rfl
      refine ⟨(R :: P).set 0 (R ++ [w.1]), ?_⟩
      unfold appAt
      rw [e0]
      exact gd_t (show R.length < 16000000 by omega)
  obtain ⟨r, er⟩ := ea
  show ((appAt P 0 w.1).bind _) = _
  rw [er, Res.bind_ok, gd_t (by have := nums_len hw (fun x => !decide (pI P x.1.1 = pI P x.1.2)); show (apartL w P).length < _; unfold apartL; omega)]
  show ((compL (fun x' _ => c_ties_right_48 w T x') [(eWWI P), (eLX ((P.zipIdx).map fun (x_2 : List Int × Nat) => (cond (decide (((x_2.2 : Int) % 2) = 0)) (eWI x_2.1) (eLI x_2.1)))), (eWLI P)] ()).bind _) = _
  rw [compL_pureM (g := fun _ => txt w P T) _ fun x hx => ?_, Res.bind_ok]
  · have t3 := three_ok (s := txt w P T) sb.okt
    show gd (SeqAt.shaped (eLS [txt w P T, txt w P T, txt w P T]) = true ∧ SeqAt.shaped (eLS [txt w P T, txt w P T, txt w P T]) = true) (.ok (PyData.eqv (eLS [txt w P T, txt w P T, txt w P T]) (eLS [txt w P T, txt w P T, txt w P T]))) = _
    rw [gd_t t3.1, t3.2]
  · rcases List.mem_cons.mp hx with rfl | hx
    · exact right_one hw h (map_rowW P) (.inr rfl)
    rcases List.mem_cons.mp hx with rfl | hx
    · refine right_one hw h (map_rowM P 0) (.inl ?_)
      show PyData.list (List.map (fun x => x) _) = _
      rw [List.map_id']
    · rw [List.mem_singleton.mp hx]
      exact right_one hw h (map_row P) (.inr rfl)
end
end HD

set_option exponentiation.threshold 6000
/-! things of other kinds -/
namespace HD
open PySem PySem.Spec PyProof.Rows L2 Tsa
theorem lx (l : List PyData) : eLX l = .list l := by show PyData.list (l.map fun x => x) = _; rw [List.map_id']
theorem wx (l : List PyData) : eWX l = .tuple l := by show PyData.tuple (l.map fun x => x) = _; rw [List.map_id']
/-- what lies in a part -/
def El (d : PyData) : Prop := Sx 2 300 d
theorem el_int {i : Int} (h : i.natAbs < 10 ^ 66) : El (.int i) := (sx_int h).mono (by decide) (by decide)
theorem el_small {i : Int} (h0 : -9 ≤ i) (h1 : i ≤ 9) : El (.int i) := el_int (Nat.lt_of_le_of_lt (show i.natAbs ≤ 9 by omega) (by decide))
theorem sx_word : Sx 0 200 (.str ("0" : PySem.Str)) := ⟨by decide, by decide, by decide, by decide⟩
theorem sx_nilL : Sx 1 0 (.list []) := (SxL.nil (D := 0) (W := 0)).list
theorem sx_nilD : Sx 1 0 (.dict []) := (SxK.nil (D := 0) (W := 0)).dict
theorem sx_zeroL : Sx 1 221 (eLI [0]) := ((SxL.cons (sx_int (i := 0) (by decide)) (SxL.nil (D := 0) (W := 0))).list).mono (by decide) (by decide)
theorem sx_zeroW : Sx 1 221 (eWI [0]) := ((SxL.cons (sx_int (i := 0) (by decide)) (SxL.nil (D := 0) (W := 0))).tup).mono (by decide) (by decide)
theorem el_odd {x : PyData} (h : x ∈ [(eN ()), (PyData.str ("0" : PySem.Str)), (eWI [0]), (eLI [0]), (PyData.int (-1)), (PyData.bool true), (PyData.bool false), (.dict [])]) : El x := by
  simp only [List.mem_cons, List.not_mem_nil, or_false] at h
  rcases h with rfl | rfl | rfl | rfl | rfl | rfl | rfl | rfl
  · exact sx_none.mono (by decide) (by decide)
  · exact sx_word.mono (by decide) (by decide)
  · exact sx_zeroW.mono (by decide) (by decide)
  · exact sx_zeroL.mono (by decide) (by decide)
  · exact el_small (by decide) (by decide)
  · exact (sx_bool _).mono (by decide) (by decide)
  · exact (sx_bool _).mono (by decide) (by decide)
  · exact sx_nilD.mono (by decide) (by decide)
/-- what stands for a part -/
structure Pt (k : Nat) (d : PyData) : Prop where
  sx : Sx 3 (39 * 301) d
  len : ∀ l, (d = .list l ∨ d = .tuple l) → l.length ≤ k ∧ ∀ x ∈ l, El x
theorem Pt.mono {k m : Nat} {d : PyData} (h : Pt k d) (a : k ≤ m) : Pt m d := ⟨h.sx, fun l e => ⟨Nat.le_trans (h.len l e).1 a, (h.len l e).2⟩⟩
theorem pt_list {k : Nat} {l : List PyData} (h : l.length ≤ k) (hk : k ≤ 39) (e : ∀ x ∈ l, El x) : Pt k (.list l) :=
  ⟨(SxL.all e (Nat.le_trans h hk)).list, fun l2 q => by
    rcases q with q | q
    · injection q with q; subst q; exact ⟨h, e⟩
    · cases q⟩
theorem pt_tup {k : Nat} {l : List PyData} (h : l.length ≤ k) (hk : k ≤ 39) (e : ∀ x ∈ l, El x) : Pt k (.tuple l) :=
  ⟨(SxL.all e (Nat.le_trans h hk)).tup, fun l2 q => by
    rcases q with q | q
    · cases q
    · injection q with q; subst q; exact ⟨h, e⟩⟩
theorem pt_other {k W : Nat} {d : PyData} (h : Sx 3 W d) (hW : W ≤ 39 * 301) (n : ∀ l, d ≠ .list l ∧ d ≠ .tuple l) : Pt k d := ⟨h.mono (Nat.le_refl _) hW, fun l q => q.elim (fun e => absurd e (n l).1) fun e => absurd e (n l).2⟩
theorem pt_odd {k : Nat} {x : PyData} (k1 : 1 ≤ k) (k39 : k ≤ 39) (h : x ∈ [(eLU ([] : List Unit)), (eWU ([] : List Unit)), (eN ()), (PyData.int 0), (PyData.str ("0" : PySem.Str)), (.dict []), (PyData.bool true), (eLLU [([] : List Unit)])]) : Pt k x := by
  simp only [List.mem_cons, List.not_mem_nil, or_false] at h
  rcases h with rfl | rfl | rfl | rfl | rfl | rfl | rfl | rfl
  · exact pt_list (l := []) (Nat.zero_le _) k39 fun _ z => absurd z List.not_mem_nil
  · exact pt_tup (l := []) (Nat.zero_le _) k39 fun _ z => absurd z List.not_mem_nil
  · exact pt_other (sx_none.mono (by decide) (Nat.le_refl _)) (by decide) fun l => ⟨(fun z => nomatch z), fun z => nomatch z⟩
  · exact pt_other ((sx_int (i := 0) (by decide)).mono (by decide) (Nat.le_refl _)) (by decide) fun l => ⟨(fun z => nomatch z), fun z => nomatch z⟩
  · exact pt_other (sx_word.mono (by decide) (Nat.le_refl _)) (by decide) fun l => ⟨(fun z => nomatch z), fun z => nomatch z⟩
  · exact pt_other (sx_nilD.mono (by decide) (Nat.le_refl _)) (by decide) fun l => ⟨(fun z => nomatch z), fun z => nomatch z⟩
  · exact pt_other ((sx_bool _).mono (by decide) (Nat.le_refl _)) (by decide) fun l => ⟨(fun z => nomatch z), fun z => nomatch z⟩
  · exact pt_list (l := [.list []]) k1 k39 fun x hx => by rw [List.mem_singleton.mp hx]; exact sx_nilL.mono (by decide) (by decide)
theorem other_part_ok {p : Int × Int} {n : Int} {k : Nat} (g : PotOk p) (n1 : 1 ≤ n) (n9 : n ≤ 9) (hk : 2 * k + 1 ≤ 39) {l : List PyData} (hl : l.length ≤ k) (he : ∀ x ∈ l, El x) :
    Fine (m_other_part p (.list l) n) fun r => Pt (2 * k + 1) r.1 ∧ PotOk r.2 := by
  unfold m_other_part
  show Fine ((m_take p 9).bind _) _
  refine (take_ok g (by decide) (by decide)).bind fun r hr => (take_ok hr.2.2 (by omega) (by omega)).bind fun r2 hr2 => (take_ok hr2.2.2 (by omega) (by omega)).bind fun r3 hr3 => (take_ok hr3.2.2 (by decide : (0 : Int) < 8) (by decide)).bind fun r4 hr4 => ?_
  refine (Fine.idxM hr4.1 ?lt).bind fun x hx => ?_
  case lt => exact hr4.2.1
  have ex := el_odd hx
  have c1 : ∀ lo hi, (cutG l lo hi).length ≤ k := fun lo hi => Nat.le_trans cutG_len hl
  have c2 : ∀ lo hi, ∀ y ∈ cutG l lo hi, El y := fun lo hi y hy => he y (cutG_mem hy)
  have mk : ∀ {m : List PyData} {q : Int × Int}, m.length ≤ 2 * k + 1 → (∀ y ∈ m, El y) → PotOk q → Fine (Res.ok (eLX m, q)) fun r => Pt (2 * k + 1) r.1 ∧ PotOk r.2 := fun {m q} h1 h2 h3 => Fine.ok ⟨by rw [lx]; exact pt_list h1 hk h2, h3⟩
  have ap : ∀ {a b : List PyData}, (∀ y ∈ a, El y) → (∀ y ∈ b, El y) → ∀ y ∈ a ++ b, El y := fun h1 h2 y hy => (List.mem_append.mp hy).elim (h1 y) (h2 y)
  have on : ∀ {y : PyData}, El y → ∀ z ∈ [y], El z := fun h z hz => by rw [List.mem_singleton.mp hz]; exact h
  refine Fine.cond (fun _ => ?_) fun _ => Fine.cond (fun _ => ?_) fun _ => Fine.cond (fun _ => ?_) fun _ => Fine.cond (fun _ => ?_) fun _ => Fine.cond (fun _ => ?_) fun _ => Fine.cond (fun _ => ?_) fun _ => ?_
  · refine (take_ok hr4.2.2 (by decide : (0 : Int) < 8) (by decide)).bind fun r5 hr5 => (Fine.idxM hr5.1 ?lt2).bind fun x2 hx2 => Fine.ok ⟨pt_odd (by omega) hk hx2, hr5.2.2⟩
    exact hr5.2.1
  · exact mk (by rw [List.length_reverse]; omega) (fun y hy => he y (List.mem_reverse.mp hy)) hr4.2.2
  · exact Fine.ok ⟨by rw [wx]; exact (pt_tup hl (by omega) he).mono (by omega), hr4.2.2⟩
  · have := c1 none (some 1)
    exact Fine.gd (by omega) (mk (by rw [List.length_append]; omega) (ap he (c2 _ _)) hr4.2.2)
  · have a1 := c1 none (some r3.1)
    have a2 := c1 (some r3.1) none
    have e1 : ([r2.1].map PyData.int).length = 1 := rfl
    refine Fine.gd (by omega) (Fine.gd (by rw [List.length_append]; omega) (mk (by rw [List.length_append, List.length_append]; omega) (ap (ap (c2 _ _) (on (el_small (by omega) (by omega)))) (c2 _ _)) hr4.2.2))
  · have a1 := c1 none (some r3.1)
    have a2 := c1 (some (r3.1 + 1)) none
    exact Fine.gd (by omega) (mk (by rw [List.length_append]; omega) (ap (c2 _ _) (c2 _ _)) hr4.2.2)
  · have a1 := c1 none (some r3.1)
    have a2 := c1 (some (r3.1 + 1)) none
    refine (Fine.idxM (show (0 : Int) ≤ r.1 % 3 by omega) ?lt3).bind fun x3 hx3 => ?_
    case lt3 => show r.1 % 3 < 3; omega
    have e3 : El x3 := by
      simp only [List.mem_cons, List.not_mem_nil, or_false] at hx3
      rcases hx3 with rfl | rfl | rfl
      · exact el_small (by omega) (by omega)
      · exact el_small (by omega) (by omega)
      · exact ex
    have e1 : [x3].length = 1 := rfl
    refine Fine.gd (by omega) (Fine.gd (by rw [List.length_append]; omega) (mk (by rw [List.length_append, List.length_append]; omega) (ap (ap (c2 _ _) (on e3)) (c2 _ _)) hr4.2.2))
end HD

set_option exponentiation.threshold 6000
/-! the law -/
namespace HD
open PySem PySem.Spec PyProof.Rows L2 Tsa
def orWl {β ω : Type} {kM : β → Res ω} {x : β} {P : ω → Prop} (h : Fine (kM x) P) : Fine (orW kM (.inl x)) P := h
theorem okx_list {l : List PyData} (hl : l.length ≤ 9) (h : ∀ x ∈ l, Pt 39 x) : OkX (.list l) ∧ OkX (.tuple l) := by
  have s : SxL 3 (9 * (39 * 301 + 1)) l := SxL.all (fun x hx => (h x hx).sx) hl
  have sh : ∀ x ∈ l, Short x := fun x hx m e => by have := ((h x hx).len m e).1; omega
  exact ⟨⟨s.list.show_ (by decide) (by decide), fun ds e => by
    rcases e with e | e
    · injection e with e; subst e; exact ⟨by omega, sh⟩
    · cases e⟩, ⟨s.tup.show_ (by decide) (by decide), fun ds e => by
    rcases e with e | e
    · cases e
    · injection e with e; subst e; exact ⟨by omega, sh⟩⟩⟩
theorem okx_other {d : PyData} (h : showX d = true) (n : ∀ l, d ≠ .list l ∧ d ≠ .tuple l) : OkX d := ⟨h, fun ds e => e.elim (fun e => absurd e (n ds).1) fun e => absurd e (n ds).2⟩
theorem okx_odd {x : PyData} (h : x ∈ [(eN ()), (PyData.int 0), (PyData.str ("0" : PySem.Str)), (.dict []), (PyData.bool true), (eWU ([] : List Unit)), (eLU ([] : List Unit)), (eLI [0])]) : OkX x := by
  simp only [List.mem_cons, List.not_mem_nil, or_false] at h
  rcases h with rfl | rfl | rfl | rfl | rfl | rfl | rfl | rfl
  · exact okx_other (sx_none.show_ (by decide) (by decide)) fun l => ⟨(fun z => nomatch z), fun z => nomatch z⟩
  · exact okx_other ((sx_int (i := 0) (by decide)).show_ (by decide) (by decide)) fun l => ⟨(fun z => nomatch z), fun z => nomatch z⟩
  · exact okx_other (sx_word.show_ (by decide) (by decide)) fun l => ⟨(fun z => nomatch z), fun z => nomatch z⟩
  · exact okx_other (sx_nilD.show_ (by decide) (by decide)) fun l => ⟨(fun z => nomatch z), fun z => nomatch z⟩
  · exact okx_other ((sx_bool _).show_ (by decide) (by decide)) fun l => ⟨(fun z => nomatch z), fun z => nomatch z⟩
  · exact (okx_list (l := []) (by decide) fun _ z => absurd z List.not_mem_nil).2
  · exact (okx_list (l := []) (by decide) fun _ z => absurd z List.not_mem_nil).1
  · exact (okx_list (l := [.int 0]) (by decide) fun x hx => by
      rw [List.mem_singleton.mp hx]
      exact pt_other ((sx_int (i := 0) (by decide)).mono (by decide) (Nat.le_refl _)) (by decide) fun l => ⟨(fun z => nomatch z), fun z => nomatch z⟩).1
def kk : Nat → Nat
  | 0 => 39
  | 1 => 19
  | _ => 9
section
variable {n : Int} {P : List (List Int)}
theorem row9 (hp : Ptn n P) (n9 : n ≤ 9) {R : List Int} (hR : R ∈ P) : R.length ≤ 9 := by
  have nd := hp.lt hR
  have sub : R.length ≤ (rangeL 0 n).length := List.Nodup.length_le_of_subset nd fun x hx => mem_rangeL.mpr (hp.rng R hR x hx)
  rw [len_rangeL] at sub
  omega
theorem pt_row (hp : Ptn n P) (n9 : n ≤ 9) {R : List Int} (hR : R ∈ P) : Pt 9 (eLI R) ∧ Pt 9 (eWI R) := by
  have l9 := row9 hp n9 hR
  have e : ∀ x ∈ R.map PyData.int, El x := fun x hx => by
    obtain ⟨y, hy, rfl⟩ := List.mem_map.mp hx
    have := hp.rng R hR y hy
    exact el_small (by omega) (by omega)
  exact ⟨pt_list (by rw [List.length_map]; exact l9) (by decide) e, pt_tup (by rw [List.length_map]; exact l9) (by decide) e⟩
theorem step_ok (hp : Ptn n P) (n1 : 1 ≤ n) (n9 : n ≤ 9) {x : Int} {r : List Int} {t : (Int × Int) × List PyData} (g : PotOk t.1) (l9 : t.2.length ≤ 9) (hr : r.length ≤ 1) (h : ∀ y ∈ t.2, Pt (kk (r.length + 1)) y) :
    Fine (f_other_1 P n x t.1 t.2) fun q => (∃ t', q = .nx t' ∧ PotOk t'.1 ∧ t'.2.length ≤ 9 ∧ ∀ y ∈ t'.2, Pt (kk r.length) y) ∨ (∃ w, q = .rt w ∧ OkX w.1 ∧ PotOk w.2) := by
  obtain ⟨pot, found⟩ := t
  have p1 := hp.one n1
  have p9 := hp.len (by omega)
  have up : 2 * kk (r.length + 1) + 1 = kk r.length := by
    rcases r with _ | ⟨a, r⟩
    · rfl
    · cases r with
      | nil => rfl
      | cons b r => rw [List.length_cons, List.length_cons] at hr; omega
  have h39 : kk r.length ≤ 39 := by
    unfold kk
    split <;> omega
  have le : kk (r.length + 1) ≤ kk r.length := by omega
  have keep : ∀ y ∈ found, Pt (kk r.length) y := fun y hy => (h y hy).mono le
  unfold f_other_1
  refine (take_ok g (by decide) (by decide)).bind fun r2 hr2 => (take_ok hr2.2.2 (by omega) (by omega)).bind fun r3 hr3 => ?_
  refine Fine.cond (fun _ => ?_) fun _ => Fine.cond (fun _ => ?_) fun _ => Fine.cond (fun c => ?_) fun _ => ?_
  · refine (take_ok hr3.2.2 (by decide : (0 : Int) < 8) (by decide)).bind fun r4 hr4 => (Fine.idxM hr4.1 ?lt).bind fun x3 hx3 => Fine.ok (.inr ⟨_, rfl, okx_odd hx3, hr4.2.2⟩)
    exact hr4.2.1
  · exact Fine.ok (.inl ⟨_, rfl, hr3.2.2, by show found.reverse.length ≤ 9; rw [List.length_reverse]; exact l9, fun y hy => keep y (List.mem_reverse.mp hy)⟩)
  · rw [Bool.and_eq_true, decide_eq_true_eq, decide_eq_true_eq] at c
    have c2 : (found.length : Int) = (P.length : Nat) := c.2
    have lt : r3.1.toNat < found.length := by have := hr3.1; have := hr3.2.1; omega
    have e0 : ixN found.length r3.1 = some r3.1.toNat := by
      have := hr3.1
      unfold ixN
      rw [if_pos (by omega), if_pos (by omega)]
    have e : popR found r3.1 = .ok (found[r3.1.toNat], found.eraseIdx r3.1.toNat) := by
      unfold popR
      rw [e0]
      dsimp only
      rw [List.getElem?_eq_getElem lt]
    rw [e, Res.bind_ok]
    refine Fine.ok (.inl ⟨_, rfl, hr3.2.2, ?_, fun y hy => keep y (List.mem_of_mem_eraseIdx hy)⟩)
    show (found.eraseIdx _).length ≤ 9
    exact Nat.le_trans (List.length_eraseIdx_le ..) l9
  · refine Fine.bind (P := fun c => c = true → ∃ (lt : r3.1.toNat < found.length) (l : List PyData), found[r3.1.toNat] = .list l) ?_ fun c hc => Fine.cond (fun e => ?_) fun _ => Fine.ok (.inl ⟨_, rfl, hr3.2.2, l9, keep⟩)
    · refine Fine.cond (fun _ => Fine.cond (fun c => ?_) fun _ => Fine.ok (fun z => nomatch z)) fun _ => Fine.ok (fun z => nomatch z)
      have c : r3.1 < (found.length : Nat) := of_decide_eq_true c
      have lt : r3.1.toNat < found.length := by have := hr3.1; omega
      rw [idx_at hr3.1 lt, Res.bind_ok]
      refine Fine.ok fun z => ⟨lt, ?_⟩
      cases e : found[r3.1.toNat] with
      | list l => exact ⟨l, rfl⟩
      | _ => rw [e] at z; cases z
    · obtain ⟨lt, l, el⟩ := hc e
      have pl := h _ (List.getElem_mem lt)
      rw [el] at pl
      have ll := pl.len l (.inl rfl)
      rw [idx_at hr3.1 lt, Res.bind_ok, el]
      refine (other_part_ok hr3.2.2 n1 n9 (k := kk (r.length + 1)) (by omega) ll.1 ll.2).bind fun r6 hr6 => ?_
      have e0 : ixN found.length r3.1 = some r3.1.toNat := by
        have := hr3.1
        unfold ixN
        rw [if_pos (by omega), if_pos (by omega)]
      have e : setR found r3.1 r6.1 = .ok (found.set r3.1.toNat r6.1) := by
        unfold setR
        rw [e0]
      rw [e, Res.bind_ok]
      refine Fine.ok (.inl ⟨_, rfl, hr6.2, by show (found.set _ _).length ≤ 9; rw [List.length_set]; exact l9, fun y hy => ?_⟩)
      rcases List.mem_or_eq_of_mem_set hy with hy | hy
      · exact keep y hy
      · rw [hy, ← up]; exact hr6.1
theorem other_ok (hp : Ptn n P) (n1 : 1 ≤ n) (n9 : n ≤ 9) {p : Int × Int} (g : PotOk p) : Fine (m_other p P n) fun r => OkX r.1 ∧ PotOk r.2 := by
  have p9 := hp.len (by omega)
  unfold m_other
  refine (take_ok g (by decide : (0 : Int) < 2) (by decide)).bind fun r hr => Fine.gd (rng_ok (by omega) (by omega)) ?_
  refine (Fine.forLr (fun rest (t : (Int × Int) × List PyData) => PotOk t.1 ∧ t.2.length ≤ 9 ∧ rest.length ≤ 2 ∧ ∀ y ∈ t.2, Pt (kk rest.length) y) (fun w : PyData × (Int × Int) => OkX w.1 ∧ PotOk w.2) ?_ fun x rest t hI _ => ?_).bind fun q hq => ?_
  · refine ⟨hr.2.2, by show (P.map eLI).length ≤ 9; rw [List.length_map]; omega, by rw [len_rangeL]; omega, fun y hy => ?_⟩
    obtain ⟨R, hR, rfl⟩ := List.mem_map.mp hy
    refine (pt_row hp n9 hR).1.mono ?_
    unfold kk
    split <;> omega
  · obtain ⟨i1, i2, i3, i4⟩ := hI
    rw [List.length_cons] at i3 i4
    obtain ⟨q, eq, hq⟩ := step_ok (x := x) hp n1 n9 i1 i2 (by omega) i4
    refine ⟨q, eq, ?_⟩
    rcases hq with ⟨t', e, a, b, c⟩ | ⟨w, e, a, b⟩
    · exact .inl ⟨t', e, a, b, by omega, c⟩
    · exact .inr ⟨w, e, a, b⟩
  · rcases hq with ⟨t', rfl, a, b, _, c⟩ | ⟨w, rfl, a⟩
    · obtain ⟨pot, found⟩ := t'
      refine orWl ?_
      dsimp only
      refine (take_ok a (by decide : (0 : Int) < 2) (by decide)).bind fun r8 hr8 => (Fine.idxM hr8.1 ?lt).bind fun x6 hx6 => Fine.ok ⟨?_, hr8.2.2⟩
      case lt => exact hr8.2.1
      have o := okx_list b c
      rcases List.mem_cons.mp hx6 with e | hx6
      · show OkX x6; rw [e, lx]; exact o.1
      · show OkX x6; rw [List.mem_singleton.mp hx6, wx]; exact o.2
    · exact Fine.ok a
theorem own_ok (hp : Ptn n P) (n1 : 1 ≤ n) (n9 : n ≤ 9) {x : PyData} (hx : x ∈ [(eLLI P), (eWLI P), (eWWI P)]) : OkX x := by
  have p9 := hp.len (by omega)
  have a := okx_list (l := P.map eLI) (by rw [List.length_map]; omega) fun y hy => by
    obtain ⟨R, hR, rfl⟩ := List.mem_map.mp hy
    exact (pt_row hp n9 hR).1.mono (by decide)
  have b := okx_list (l := P.map eWI) (by rw [List.length_map]; omega) fun y hy => by
    obtain ⟨R, hR, rfl⟩ := List.mem_map.mp hy
    exact (pt_row hp n9 hR).2.mono (by decide)
  rcases List.mem_cons.mp hx with e | hx
  · rw [e]; exact a.1
  rcases List.mem_cons.mp hx with e | hx
  · rw [e]; exact a.2
  · rw [List.mem_singleton.mp hx]; exact b.2
end
theorem turn_ok {ns : List Int} {k : Int} {t : (Int × Pr) × List (List Int) × List Int} (h0 : 0 ≤ k) (h1 : k < 1000) (ht : Web t.1 ∧ Ptn t.1.1 t.2.1) : Fine (f_law_25 ns k t) fun r => ∃ t', r = .nx t' ∧ Web t'.1 ∧ Ptn t'.1.1 t'.2.1 := by
  unfold f_law_25
  refine (pot_ok h0 h1).bind fun p g => (web_ok g).bind fun r2 h2 => (drawn_ok h2.2 h2.1.1 h2.1.2.1).bind fun r3 h3 => ?_
  have hw : Web r2.1 := h2.1
  have n1 := hw.1
  have n9 := hw.2.1
  refine Fine.gd (rng_ok (by omega) (by omega)) ((Fine.compM PotOk (fun _ _ => True) h3.2 fun x hx t ht => ?_).bind fun r5 h5 => Fine.bindv (Fine.gd (rng_ok (by decide) (by decide)) ((Fine.compM PotOk (fun _ y => OkX y) h5.2.2 fun x hx t ht => ?_).bind fun r7 h7 => ?_)))
  · unfold c_law_2
    refine Fine.bind (P := fun q : Bool × (Int × Int) => PotOk q.2) ((take_ok ht (by decide : (0 : Int) < 2) (by decide)).bind fun r2 hr2 => Fine.ok hr2.2.2) fun q hq => Fine.cond (fun _ => Fine.ok ⟨(fun _ _ => trivial), hq⟩) fun _ => Fine.ok ⟨(fun _ _ => trivial), hq⟩
  · unfold c_law_10
    refine (other_ok h3.1 n1 n9 ht).bind fun r6 hr6 => Fine.ok ⟨fun y e => ?_, hr6.2⟩
    injection e with e
    rw [← e]; exact hr6.1
  · have l7 := h7.1
    rw [len_rangeL] at l7
    refine Fine.gd (show [(eLLI r3.1), (eWLI r3.1), (eWWI r3.1)].length + r7.1.length ≤ 16000000 by show 3 + _ ≤ _; omega) (Fine.bindv ?_)
    have al : ∀ y ∈ [(eLLI r3.1), (eWLI r3.1), (eWWI r3.1)] ++ r7.1, OkX y := fun y hy => by
      rcases List.mem_append.mp hy with hy | hy
      · exact own_ok h3.1 n1 n9 hy
      · obtain ⟨_, _, q⟩ := h7.2.1 y hy
        exact q
    rw [compL_pureM (g := fun _ => true) _ fun y hy => by
      unfold c_law_24
      rw [judged_ok (w := r2.1) (by omega) n9 (al y hy)]; rfl, Res.bind_ok]
    have ea : ((([(eLLI r3.1), (eWLI r3.1), (eWWI r3.1)] ++ r7.1).map fun _ => true).all id) = true := List.all_eq_true.mpr fun b hb => by
      obtain ⟨_, _, rfl⟩ := List.mem_map.mp hb; rfl
    rw [Res.bind_ok, ea]
    show Fine (((m_ties_right r2.1 r3.1 r5.1).bind _).bind _) _
    rw [ties_ok hw h3.1, Res.bind_ok]
    show Fine (((m_ties_right t.1 t.2.1 t.2.2).bind _).bind _) _
    rw [ties_ok ht.1 ht.2, Res.bind_ok]
    exact Fine.bindv (Fine.ok ⟨_, rfl, hw, h3.1⟩)
theorem ptn_one : Ptn 1 [[0]] := by
  refine ⟨fun P hP => ?_, fun P hP x hx => ?_, fun x h0 h1 => ⟨[0], List.mem_singleton.mpr rfl, List.mem_singleton.mpr (by omega)⟩, fun P hP => ?_, List.pairwise_singleton ..⟩
  · rw [List.mem_singleton.mp hP]; exact List.pairwise_singleton ..
  · rw [List.mem_singleton.mp hP] at hx
    rw [List.mem_singleton.mp hx]; decide
  · rw [List.mem_singleton.mp hP]; exact fun z => nomatch z
theorem law_true (ns : List Int) (h : ns.length ≤ 63) : m_law ns = .ok true := by
  unfold m_law
  refine Fine.run (Fine.bindv (Fine.gd (rng_ok (by omega) (by omega)) ((Fine.forL (fun t : (Int × Pr) × List (List Int) × List Int => Web t.1 ∧ Ptn t.1.1 t.2.1) ?_ fun x hx t ht => ?_).bind fun r hr => ?_)))
  · exact ⟨⟨by decide, by decide, Nat.zero_le _, fun _ z => absurd z List.not_mem_nil⟩, ptn_one⟩
  · have := mem_rangeL.mp hx
    exact turn_ok this.1 (by omega) ht
  · obtain ⟨t', rfl, _⟩ := hr
    exact Fine.ok rfl
end HD

namespace HD
open PySem PySem.Spec PyProof.Rows L2 Tsa
/-! -/
theorem md_of {K : PySem.W.Frag} {h : Heap} {mg : Str → Option Value} (X : K.In h) (G : h.Ns mainGlobals mg) (c : He.SaysD fa fn K) (cx : xfB XC XN K = true) : Md K mg where
  xf := xfB_ok cx

  isinstance := He.free_ok X G (c.fact 23 (f := .free "isinstance") rfl)
  int := He.free_ok X G (c.fact 24 (f := .free "int") rfl)
  bool := He.free_ok X G (c.fact 25 (f := .free "bool") rfl)
  tuple := He.free_ok X G (c.fact 26 (f := .free "tuple") rfl)
  len := He.free_ok X G (c.fact 27 (f := .free "len") rfl)
  min := He.free_ok X G (c.fact 28 (f := .free "min") rfl)
  max := He.free_ok X G (c.fact 29 (f := .free "max") rfl)
  enumerate := He.free_ok X G (c.fact 30 (f := .free "enumerate") rfl)
  repr := He.free_ok X G (c.fact 31 (f := .free "repr") rfl)
  list := He.free_ok X G (c.fact 32 (f := .free "list") rfl)
  range := He.free_ok X G (c.fact 33 (f := .free "range") rfl)
  divmod := He.free_ok X G (c.fact 34 (f := .free "divmod") rfl)
  abs := He.free_ok X G (c.fact 35 (f := .free "abs") rfl)
  all := He.free_ok X G (c.fact 36 (f := .free "all") rfl)
  sorted := He.free_ok X G (c.fact 37 (f := .free "sorted") rfl)
  zip := He.free_ok X G (c.fact 38 (f := .free "zip") rfl)
  set := He.free_ok X G (c.fact 39 (f := .free "set") rfl)
  f_is_whole := by
    obtain ⟨fd, F⟩ := c.def_ 0 (d := d_is_whole) rfl
    exact ⟨_, fd, He.glo_ok X G (c.fact 0 (f := .glo "is_whole") rfl), F⟩
  f_is_place := by
    obtain ⟨fd, F⟩ := c.def_ 1 (d := d_is_place) rfl
    exact ⟨_, fd, He.glo_ok X G (c.fact 1 (f := .glo "is_place") rfl), F⟩
  f_is_row := by
    obtain ⟨fd, F⟩ := c.def_ 2 (d := d_is_row) rfl
    exact ⟨_, fd, He.glo_ok X G (c.fact 2 (f := .glo "is_row") rfl), F⟩
  f_are_rising := by
    obtain ⟨fd, F⟩ := c.def_ 3 (d := d_are_rising) rfl
    exact ⟨_, fd, He.glo_ok X G (c.fact 3 (f := .glo "are_rising") rfl), F⟩
  f_is_part := by
    obtain ⟨fd, F⟩ := c.def_ 4 (d := d_is_part) rfl
    exact ⟨_, fd, He.glo_ok X G (c.fact 4 (f := .glo "is_part") rfl), F⟩
  f_is_parting := by
    obtain ⟨fd, F⟩ := c.def_ 5 (d := d_is_parting) rfl
    exact ⟨_, fd, He.glo_ok X G (c.fact 5 (f := .glo "is_parting") rfl), F⟩
  f_between := by
    obtain ⟨fd, F⟩ := c.def_ 6 (d := d_between) rfl
    exact ⟨_, fd, He.glo_ok X G (c.fact 6 (f := .glo "between") rfl), F⟩
  f_inside := by
    obtain ⟨fd, F⟩ := c.def_ 7 (d := d_inside) rfl
    exact ⟨_, fd, He.glo_ok X G (c.fact 7 (f := .glo "inside") rfl), F⟩
  f_nth := by
    obtain ⟨fd, F⟩ := c.def_ 8 (d := d_nth) rfl
    exact ⟨_, fd, He.glo_ok X G (c.fact 8 (f := .glo "_law_nth") rfl), F⟩
  f_pot := by
    obtain ⟨fd, F⟩ := c.def_ 9 (d := d_pot) rfl
    exact ⟨_, fd, He.glo_ok X G (c.fact 9 (f := .glo "_law_pot") rfl), F⟩
  f_take := by
    obtain ⟨fd, F⟩ := c.def_ 10 (d := d_take) rfl
    exact ⟨_, fd, He.glo_ok X G (c.fact 10 (f := .glo "_law_take") rfl), F⟩
  f_grown := by
    obtain ⟨fd, F⟩ := c.def_ 11 (d := d_grown) rfl
    exact ⟨_, fd, He.glo_ok X G (c.fact 11 (f := .glo "_law_grown") rfl), F⟩
  f_web := by
    obtain ⟨fd, F⟩ := c.def_ 12 (d := d_web) rfl
    exact ⟨_, fd, He.glo_ok X G (c.fact 12 (f := .glo "_law_web") rfl), F⟩
  f_l_is_whole := by
    obtain ⟨fd, F⟩ := c.def_ 13 (d := d_l_is_whole) rfl
    exact ⟨_, fd, He.glo_ok X G (c.fact 13 (f := .glo "_law_is_whole") rfl), F⟩
  f_parting := by
    obtain ⟨fd, F⟩ := c.def_ 14 (d := d_parting) rfl
    exact ⟨_, fd, He.glo_ok X G (c.fact 14 (f := .glo "_law_parting") rfl), F⟩
  f_l_is_parting := by
    obtain ⟨fd, F⟩ := c.def_ 15 (d := d_l_is_parting) rfl
    exact ⟨_, fd, He.glo_ok X G (c.fact 15 (f := .glo "_law_is_parting") rfl), F⟩
  f_other_part := by
    obtain ⟨fd, F⟩ := c.def_ 16 (d := d_other_part) rfl
    exact ⟨_, fd, He.glo_ok X G (c.fact 16 (f := .glo "_law_other_part") rfl), F⟩
  f_other := by
    obtain ⟨fd, F⟩ := c.def_ 17 (d := d_other) rfl
    exact ⟨_, fd, He.glo_ok X G (c.fact 17 (f := .glo "_law_other") rfl), F⟩
  f_judged := by
    obtain ⟨fd, F⟩ := c.def_ 18 (d := d_judged) rfl
    exact ⟨_, fd, He.glo_ok X G (c.fact 18 (f := .glo "_law_judged") rfl), F⟩
  f_part_of := by
    obtain ⟨fd, F⟩ := c.def_ 19 (d := d_part_of) rfl
    exact ⟨_, fd, He.glo_ok X G (c.fact 19 (f := .glo "_law_part_of") rfl), F⟩
  f_due := by
    obtain ⟨fd, F⟩ := c.def_ 20 (d := d_due) rfl
    exact ⟨_, fd, He.glo_ok X G (c.fact 20 (f := .glo "_law_due") rfl), F⟩
  f_ties_right := by
    obtain ⟨fd, F⟩ := c.def_ 21 (d := d_ties_right) rfl
    exact ⟨_, fd, He.glo_ok X G (c.fact 21 (f := .glo "_law_ties_right") rfl), F⟩
theorem facts {P : Program} {w : World} {K : PySem.W.Frag} {h : Heap} {mg : Str → Option Value} {f : Addr} (X : K.In h) (G : h.Ns mainGlobals mg) (hfa : mg ("law" : Str) = some (.ref f)) (c : He.SaysD fa fn K ∧ xfB XC XN K = true) :
    ∃ fd : FuncData, (∀ (s : Shared) (v : Value), BindsTo s fd ⟨[v], []⟩ [("_law_script", v)]) ∧ ∀ base : Heap, K.In base → base.Ns mainGlobals mg → FnG P w K mg base 6 f fd ["_law_script"] (SpM K (fun a : List Int => [.val (.list (a.map .int))]) (fun a => m_law a) (fun _ r => .val (.bool r)) (fun _ r => [.hole]) (fun _ => [.hole])) := by
  obtain ⟨c, cx⟩ := c
  obtain ⟨fd, F⟩ := c.def_ 22 (d := d_law) rfl
  have e := hfa.symm.trans (He.glo_ok X G (c.fact 22 (f := .glo "law") rfl))
  cases e
  have b := FunD.bindsA (ps := ["_law_script"]) F fun _ _ _ _ _ _ us hl => match us, hl with | [_], _ => rfl
  exact ⟨fd, fun s v => b s [v] rfl, fun base _ _ => g_law F (md_of X G c cx)⟩
end HD

open PySem PySem.W PySem.Calls PyProof.Rows
theorem PySem.Challenge.cw_treesapart_k16_partings_holds : PySem.Challenge.rw_treesapart_k16_partings.Holds := by
  w_on; o_law
  refine HandSHeadRun.head_any (r := OpenLaw.row PySem.Challenge.rw_treesapart_k16_partings) (q := view (OpenLaw.row PySem.Challenge.rw_treesapart_k16_partings).prog [25]) (H := HD.hk) (ob := HD.ob) (M := 6000) (loose := HD.names)
    (d := HandSHeadRun.topDef (OpenLaw.row PySem.Challenge.rw_treesapart_k16_partings).prog 25) (kwd := []) HD.ob_eq
    (by kernel_rfl) (fun s => by kernel_rfl) HD.run (by kernel_rfl) (by kernel_rfl) (by kernel_rfl) (by rfl) (by first | assumption | decide +kernel)
    (by decide +kernel) ⟨rfl, rfl, rfl, rfl, rfl, by decide +kernel⟩ ?hw ?hc
  case hw => w_witness2
  case hc =>
    refine Tsa.walkG (l := PySem.Challenge.rw_treesapart_k16_partings) (n := 63) (k := 6) (x := "_law_script") rfl (by decide) (by kernel_rfl) ⟨rfl, by decide, by decide⟩ ?F
    intro w mg fa h Y G hmg0
    obtain ⟨K, KX, c⟩ := Y
    have hmg : mg ("law" : PySem.Str) = some (.ref fa) := by
      have e : (HandSHeadRun.topDef (OpenLaw.row PySem.Challenge.rw_treesapart_k16_partings).prog 25).name = ("law" : PySem.Str) := by kernel_rfl
      rw [← e]
      exact hmg0
    obtain ⟨fd, hb, hF⟩ := HD.facts (P := (PySem.Challenge.rw_treesapart_k16_partings).prog) (w := w) KX G hmg c
    exact ⟨K, fd, KX, hb, HD.m_law, fun _ _ => [.hole], fun _ => [.hole], fun ns hl => HD.law_true ns hl, hF⟩

