import PyProof.Rows.All
import Wide.All
import OpenK.AllK
import Wide.FinOn
import HandS.Base
import HandS.Call
import HandS.List
import HandS.Comp
import HandS.Words
import HandS.Dict
import HandS.Small
import KE.KDictPairs
import HandS.Text
import HandS.TupLe
import HandS.TupAny
import HandS.TupMul
import HandS.Wide
import HandS.Deep
import KE.DataEq
import KE.DataCmp
import KE.SortData
import HandS.Ends
import HandS.Defaults
import HandS.Flow
import HandS.Iter
import HandS.Walk
import HandS.Style
import KE.KRevSl
import HandS.More
import HandS.Conv
import KE.KDictSum
import HandS.RaiseMore
import HandS.IsInst
import PyProof.ReprRoads
import KE.GoesZip
import KE.GoesMore
import KE.GoesEnum
import KE.KDictZip
import KE.KDictList
import HandS.Zip
import PyProof.SumAny
import HandS.NoneIn
import HandS.FStr
import PySem.Challenge.RW_pairfolds_k09_brackets_read
set_option Elab.async false
set_option linter.all false
set_option autoImplicit false
set_option maxRecDepth 100000
set_option maxHeartbeats 0
namespace Pf
open PySem PySem.Spec L2

def dicty : HO → Bool
  | .dK _ => true
  | .dT _ => true
  | _ => false
/-- it is the same, but that a dict may be locked or let loose -/
def Lk (o u : HO) : Prop := u = o ∨ ∃ q, dicty q = true ∧ (o = q ∨ ∃ b, o = .frz b q) ∧ (u = q ∨ ∃ b, u = .frz b q)
theorem Lk.refl (o : HO) : Lk o o := .inl rfl
theorem dicty_one {q q' u : HO} (h : dicty q = true) (h' : dicty q' = true) (x : u = q ∨ ∃ b, u = .frz b q) (y : u = q' ∨ ∃ b, u = .frz b q') : q = q' := by
  rcases x with rfl | ⟨b, rfl⟩
  · rcases y with rfl | ⟨b, rfl⟩
    · rfl
    · cases h
  · rcases y with e | ⟨b', e⟩
    · rw [← e] at h'; cases h'
    · cases e; rfl
theorem Lk.trans {o u v : HO} (x : Lk o u) (y : Lk u v) : Lk o v := by
  rcases x with rfl | ⟨q, x0, x1, x2⟩
  · exact y
  · rcases y with rfl | ⟨q', y0, y1, y2⟩
    · exact .inr ⟨q, x0, x1, x2⟩
    · obtain rfl := dicty_one x0 y0 x2 y1
      exact .inr ⟨q, x0, x1, y2⟩
theorem Lk.lst {xs : List V} {u : HO} (x : Lk (.lst xs) u) : u = .lst xs := by
  rcases x with rfl | ⟨q, x0, x1 | ⟨b, x1⟩, x2⟩
  · rfl
  · subst x1; cases x0
  · cases x1
theorem Lk.tup {xs : List V} {u : HO} (x : Lk (.tup xs) u) : u = .tup xs := by
  rcases x with rfl | ⟨q, x0, x1 | ⟨b, x1⟩, x2⟩
  · rfl
  · subst x1; cases x0
  · cases x1
theorem Lk.frl {ob : Obj} {xs : List V} {u : HO} (x : Lk (.frz ob (.lst xs)) u) : u = .frz ob (.lst xs) := by
  rcases x with rfl | ⟨q, x0, x1 | ⟨b, x1⟩, x2⟩
  · rfl
  · subst x1; cases x0
  · cases x1; cases x0
theorem Lk.dic {o u v : HO} (h : dicty o = true) (x : Lk u v) (e : u = o ∨ ∃ b, u = .frz b o) : v = o ∨ ∃ b, v = .frz b o := by
  rcases x with rfl | ⟨q, x0, x1, x2⟩
  · exact e
  · obtain rfl := dicty_one x0 h x1 e
    exact x2
/-- heap kept off U -/
def Pre (U : Addr → Prop) (H H' : Hp) : Prop := ∀ a o, H a = some o → ¬ U a → ∃ u, H' a = some u ∧ Lk o u
theorem Pre.refl (U : Addr → Prop) (H : Hp) : Pre U H H := fun _ o e _ => ⟨o, e, .refl o⟩
theorem Pre.trans {U : Addr → Prop} {H H1 H2 : Hp} (x : Pre U H H1) (y : Pre U H1 H2) : Pre U H H2 := fun a o e n => by
  obtain ⟨u, e1, l1⟩ := x a o e n
  obtain ⟨v, e2, l2⟩ := y a u e1 n
  exact ⟨v, e2, l1.trans l2⟩
theorem Pre.mono {U U' : Addr → Prop} {H H' : Hp} (x : Pre U H H') (h : ∀ a, U a → U' a) : Pre U' H H' := fun a o e n => x a o e fun z => n (h a z)
theorem Pre.same {U : Addr → Prop} {H H' : Hp} (x : Same H H') : Pre U H H' := fun a o e _ => ⟨o, x a o e, .refl o⟩
theorem same_upd {H : Hp} {p : Addr} {o : HO} (h : H p = none) : Same H (upd H p o) := fun b u e => by
  rw [upd_ne (ne_of_none e h)]; exact e

abbrev H00 : Hp := fun _ => none
def LstU (K : PySem.W.Frag) (H : Hp) (U : Addr → Prop) (a : Addr) (xs : List V) : Prop := H a = some (.lst xs) ∧ ¬ U a
/-- a tuple of plain items alone: ints, texts and the like -/
def flatV : V → Bool
  | .ref _ => false
  | _ => true
def keyish (xs : List V) : Bool := !xs.isEmpty && xs.all flatV
def shortK (xs : List V) : Bool := keyish xs && decide (xs.length ≤ 3)
/-- a tuple: any other is known to the object -/
def tupH (o : Obj) (xs : List V) : HO := if keyish xs then .tup xs else .frz o (.tup xs)
theorem Lk.tupH {o : Obj} {xs : List V} {u : HO} (x : Lk (tupH o xs) u) : u = tupH o xs := by
  rcases x with rfl | ⟨q, x0, x1 | ⟨b, x1⟩, x2⟩
  · rfl
  · unfold Pf.tupH at x1
    split at x1 <;> subst x1 <;> cases x0
  · unfold Pf.tupH at x1
    split at x1
    · cases x1
    · cases x1; cases x0
theorem tupH_rd {H : Hp} {a : Addr} {o : Obj} {xs : List V} (h : H a = some (tupH o xs)) : Rd H a (.tup xs) := by
  unfold tupH at h
  split at h
  · exact .inl h
  · exact .inr ⟨o, h⟩
theorem tupH_key {o : Obj} {xs : List V} (h : keyish xs = true) : tupH o xs = .tup xs := by
  unfold tupH
  rw [if_pos h]
theorem tupH_no {o : Obj} {xs : List V} (h : keyish xs = false) : tupH o xs = .frz o (.tup xs) := by
  unfold tupH
  rw [h]
  rfl
theorem tupH_ne {o : Obj} {xs : List V} {u : HO} (h : ∀ b z, u ≠ .frz b z) (h2 : ∀ ys, u ≠ .tup ys) : tupH o xs ≠ u := by
  unfold tupH
  split
  · exact fun e => h2 _ e.symm
  · exact fun e => h _ _ e.symm
/-- a tuple of the written part -/
def FrT (K : PySem.W.Frag) (a : Addr) (xs : List V) : Prop :=
  shortK xs = false ∧ ∃ (o : Obj) (its : Array Value) (n : Nat), K.lookup a = some o ∧ o.cls = .type "tuple" ∧ o.dict = none ∧ o.data = .seq its n ∧ its.size ≤ sizeLine ∧ Vals xs its.toList
def TupU (K : PySem.W.Frag) (H : Hp) (U : Addr → Prop) (a : Addr) (xs : List V) : Prop := ((∃ o, o.dict = none ∧ H a = some (tupH o xs)) ∧ ¬ U a) ∨ FrT K a xs
def DicU (H : Hp) (U : Addr → Prop) (a : Addr) (o : HO) : Prop := (∃ u, H a = some u ∧ (u = o ∨ ∃ b, u = .frz b o)) ∧ ¬ U a
theorem rd_none {a : Addr} {u : HO} (h : Rd H00 a u) : False := by
  rcases h with h | ⟨_, h⟩ <;> cases h
theorem LstU.sq {K : PySem.W.Frag} {H : Hp} {U : Addr → Prop} {a : Addr} {xs : List V} (h : LstU K H U a xs) : SqL K H a xs := SqL.of h.1
theorem TupU.sq {K : PySem.W.Frag} {H : Hp} {U : Addr → Prop} {a : Addr} {xs : List V} (h : TupU K H U a xs) : SqT K H a xs := by
  rcases h with ⟨⟨o, _, h⟩, _⟩ | ⟨_, o, its, n, h1, h2, _, h3, h4, h5⟩
  · exact .inl (tupH_rd h)
  · exact .inr ⟨o, its, n, h1, h2, h3, h4, h5⟩
theorem LstU.pre {K : PySem.W.Frag} {H H' : Hp} {U : Addr → Prop} {a : Addr} {xs : List V} (h : LstU K H U a xs) (p : Pre U H H') : LstU K H' U a xs := by
  obtain ⟨u, e, l⟩ := p _ _ h.1 h.2
  exact ⟨by rw [e, l.lst], h.2⟩
theorem TupU.pre {K : PySem.W.Frag} {H H' : Hp} {U : Addr → Prop} {a : Addr} {xs : List V} (h : TupU K H U a xs) (p : Pre U H H') : TupU K H' U a xs := by
  rcases h with ⟨⟨o, hd, h⟩, n⟩ | h
  · obtain ⟨u, e, l⟩ := p _ _ h n
    exact .inl ⟨⟨o, hd, by rw [e, l.tupH]⟩, n⟩
  · exact .inr h
theorem DicU.pre {H H' : Hp} {U : Addr → Prop} {a : Addr} {o : HO} (h : DicU H U a o) (p : Pre U H H') (hd : dicty o = true := by rfl) : DicU H' U a o := by
  obtain ⟨⟨u, e, z⟩, n⟩ := h
  obtain ⟨v, e, l⟩ := p _ _ e n
  exact ⟨⟨v, e, l.dic hd z⟩, n⟩
theorem DicU.rd {H : Hp} {U : Addr → Prop} {a : Addr} {o : HO} (h : DicU H U a o) : Rd H a o := by
  obtain ⟨⟨u, e, rfl | ⟨b, rfl⟩⟩, _⟩ := h
  · exact .inl e
  · exact .inr ⟨b, e⟩
theorem LstU.mono {K : PySem.W.Frag} {H : Hp} {U U' : Addr → Prop} {a : Addr} {xs : List V} (h : LstU K H U a xs) (u : ∀ a, U' a → U a) : LstU K H U' a xs := ⟨h.1, fun z => h.2 (u _ z)⟩
theorem TupU.mono {K : PySem.W.Frag} {H : Hp} {U U' : Addr → Prop} {a : Addr} {xs : List V} (h : TupU K H U a xs) (u : ∀ a, U' a → U a) : TupU K H U' a xs := by
  rcases h with ⟨h, n⟩ | h
  · exact .inl ⟨h, fun z => n (u _ z)⟩
  · exact .inr h
theorem DicU.mono {H : Hp} {U U' : Addr → Prop} {a : Addr} {o : HO} (h : DicU H U a o) (u : ∀ a, U' a → U a) : DicU H U' a o := ⟨h.1, fun z => h.2 (u _ z)⟩

/-! ### keys of dicts as data -/
def keyD : Key → PyData
  | .inl i => .int i
  | .inr x => .str x
def keysD (k : List Key) : PyData := .tuple (k.map keyD)
/-- keys that are tuples -/
def TK (ks : List (List Key)) : Prop := ks ≠ [] ∧ ∀ k ∈ ks, 0 < k.length ∧ k.length ≤ 3

/-- the script's list: read alone, of whatever owner -/
def scrD (ds : List PyData) : PyData := .dict [(.none, .list ds)]
mutual
inductive Rep (K : PySem.W.Frag) (H : Hp) (U : Addr → Prop) : V → PyData → Prop
  | non : Rep K H U .non .none
  | bl (b : Bool) : Rep K H U (.bl b) (.bool b)
  | int (i : Int) : Rep K H U (.int i) (.int i)
  | str (x : Str) : Rep K H U (.str x) (.str x)
  | lst {a : Addr} {xs : List V} {ds : List PyData} : LstU K H U a xs → RepAll K H U xs ds → Rep K H U (.ref a) (.list ds)
  | tup {a : Addr} {xs : List V} {ds : List PyData} : TupU K H U a xs → RepAll K H U xs ds → Rep K H U (.ref a) (.tuple ds)
  | dK {a : Addr} {ks : List Key} {vs : List V} {ds : List PyData} : ks.length = vs.length → DicU H U a (.dK (ks.zip vs)) → RepAll K H U vs ds → Rep K H U (.ref a) (.dict ((ks.map keyD).zip ds))
  | dT {a : Addr} {ks : List (List Key)} {vs : List V} {ds : List PyData} : (ks.length = vs.length ∧ TK ks) → DicU H U a (.dT (ks.zip vs)) → RepAll K H U vs ds → Rep K H U (.ref a) (.dict ((ks.map keysD).zip ds))
  | scr {a : Addr} {o : Obj} {ns : List Int} : (H a = some (.frz o (.lst (ns.map V.int))) ∧ ¬ U a) ∨ SqL K H00 a (ns.map V.int) → Rep K H U (.ref a) (scrD (ns.map .int))
inductive RepAll (K : PySem.W.Frag) (H : Hp) (U : Addr → Prop) : List V → List PyData → Prop
  | nil : RepAll K H U [] []
  | cons {v : V} {vs : List V} {d : PyData} {ds : List PyData} : Rep K H U v d → RepAll K H U vs ds → RepAll K H U (v :: vs) (d :: ds)
end
section
variable {K : PySem.W.Frag} {H H' : Hp} {U U' : Addr → Prop}
theorem scr_pre {a : Addr} {o : Obj} {ns : List Int} (h : (H a = some (.frz o (.lst (ns.map V.int))) ∧ ¬ U a) ∨ SqL K H00 a (ns.map V.int)) (p : Pre U H H') : (H' a = some (.frz o (.lst (ns.map V.int))) ∧ ¬ U a) ∨ SqL K H00 a (ns.map V.int) := by
  rcases h with ⟨h, n⟩ | h
  · obtain ⟨u, e, l⟩ := p _ _ h n
    rw [l.frl] at e
    exact .inl ⟨e, n⟩
  · exact .inr h
mutual
theorem Rep.pre (p : Pre U H H') : ∀ {v : V} {d : PyData}, Rep K H U v d → Rep K H' U v d
  | _, _, .non => .non
  | _, _, .bl b => .bl b
  | _, _, .int b => .int b
  | _, _, .str b => .str b
  | _, _, .lst h r => .lst (h.pre p) (RepAll.pre p r)
  | _, _, .tup h r => .tup (h.pre p) (RepAll.pre p r)
  | _, _, .dK l h r => .dK l (h.pre p) (RepAll.pre p r)
  | _, _, .dT l h r => .dT l (h.pre p) (RepAll.pre p r)
  | _, _, .scr h => .scr (scr_pre h p)
theorem RepAll.pre (p : Pre U H H') : ∀ {v : List V} {d : List PyData}, RepAll K H U v d → RepAll K H' U v d
  | _, _, .nil => .nil
  | _, _, .cons h r => .cons (Rep.pre p h) (RepAll.pre p r)
end
mutual
theorem Rep.mono (u : ∀ a, U' a → U a) : ∀ {v : V} {d : PyData}, Rep K H U v d → Rep K H U' v d
  | _, _, .non => .non
  | _, _, .bl b => .bl b
  | _, _, .int b => .int b
  | _, _, .str b => .str b
  | _, _, .lst h r => .lst (h.mono u) (RepAll.mono u r)
  | _, _, .tup h r => .tup (h.mono u) (RepAll.mono u r)
  | _, _, .dK l h r => .dK l (h.mono u) (RepAll.mono u r)
  | _, _, .dT l h r => .dT l (h.mono u) (RepAll.mono u r)
  | _, _, .scr h => .scr (h.elim (fun q => .inl ⟨q.1, fun z => q.2 (u _ z)⟩) .inr)
theorem RepAll.mono (u : ∀ a, U' a → U a) : ∀ {v : List V} {d : List PyData}, RepAll K H U v d → RepAll K H U' v d
  | _, _, .nil => .nil
  | _, _, .cons h r => .cons (Rep.mono u h) (RepAll.mono u r)
end
/-- nothing lies at an address that the heap does not know -/
theorem off_ne {a q : Addr} {u : HO} (h : H a = some u) (n : ¬ U a) (hq : H q = none) : ¬ (U a ∨ a = q) := by
  rintro (z | z)
  · exact n z
  · subst z
    rw [hq] at h; cases h
theorem LstU.off {a q : Addr} {xs : List V} (h : LstU K H U a xs) (hq : H q = none) : LstU K H (fun b => U b ∨ b = q) a xs := ⟨h.1, off_ne h.1 h.2 hq⟩
theorem TupU.off {a q : Addr} {xs : List V} (h : TupU K H U a xs) (hq : H q = none) : TupU K H (fun b => U b ∨ b = q) a xs := by
  rcases h with ⟨⟨o, hd, h⟩, n⟩ | h
  · exact .inl ⟨⟨o, hd, h⟩, off_ne h n hq⟩
  · exact .inr h
theorem DicU.off {a q : Addr} {o : HO} (h : DicU H U a o) (hq : H q = none) : DicU H (fun b => U b ∨ b = q) a o := by
  obtain ⟨⟨u, e, z⟩, n⟩ := h
  exact ⟨⟨u, e, z⟩, off_ne e n hq⟩
mutual
theorem Rep.off {q : Addr} (hq : H q = none) : ∀ {v : V} {d : PyData}, Rep K H U v d → Rep K H (fun b => U b ∨ b = q) v d
  | _, _, .non => .non
  | _, _, .bl b => .bl b
  | _, _, .int b => .int b
  | _, _, .str b => .str b
  | _, _, .lst h r => .lst (h.off hq) (RepAll.off hq r)
  | _, _, .tup h r => .tup (h.off hq) (RepAll.off hq r)
  | _, _, .dK l h r => .dK l (h.off hq) (RepAll.off hq r)
  | _, _, .dT l h r => .dT l (h.off hq) (RepAll.off hq r)
  | _, _, .scr h => .scr (h.elim (fun q => .inl ⟨q.1, off_ne q.1 q.2 hq⟩) .inr)
theorem RepAll.off {q : Addr} (hq : H q = none) : ∀ {v : List V} {d : List PyData}, RepAll K H U v d → RepAll K H (fun b => U b ∨ b = q) v d
  | _, _, .nil => .nil
  | _, _, .cons h r => .cons (Rep.off hq h) (RepAll.off hq r)
end
theorem LstU.offs {a : Addr} {xs : List V} (h : LstU K H U a xs) : LstU K H (fun b => U b ∨ H b = none) a xs := ⟨h.1, fun z => z.elim h.2 fun z => by rw [h.1] at z; cases z⟩
theorem TupU.offs {a : Addr} {xs : List V} (h : TupU K H U a xs) : TupU K H (fun b => U b ∨ H b = none) a xs := by
  rcases h with ⟨⟨o, hd, h⟩, n⟩ | h
  · exact .inl ⟨⟨o, hd, h⟩, fun z => z.elim n fun z => by rw [h] at z; cases z⟩
  · exact .inr h
theorem DicU.offs {a : Addr} {o : HO} (h : DicU H U a o) : DicU H (fun b => U b ∨ H b = none) a o := by
  obtain ⟨⟨u, e, z⟩, n⟩ := h
  exact ⟨⟨u, e, z⟩, fun w => w.elim n fun w => by rw [e] at w; cases w⟩
mutual
theorem Rep.offs : ∀ {v : V} {d : PyData}, Rep K H U v d → Rep K H (fun b => U b ∨ H b = none) v d
  | _, _, .non => .non
  | _, _, .bl b => .bl b
  | _, _, .int b => .int b
  | _, _, .str b => .str b
  | _, _, .lst h r => .lst h.offs (RepAll.offs r)
  | _, _, .tup h r => .tup h.offs (RepAll.offs r)
  | _, _, .dK l h r => .dK l h.offs (RepAll.offs r)
  | _, _, .dT l h r => .dT l h.offs (RepAll.offs r)
  | _, _, .scr h => .scr (h.elim (fun q => .inl ⟨q.1, fun z => z.elim q.2 fun z => by rw [q.1] at z; cases z⟩) .inr)
theorem RepAll.offs : ∀ {v : List V} {d : List PyData}, RepAll K H U v d → RepAll K H (fun b => U b ∨ H b = none) v d
  | _, _, .nil => .nil
  | _, _, .cons h r => .cons (Rep.offs h) (RepAll.offs r)
end
theorem RepAll.length : ∀ {v : List V} {d : List PyData}, RepAll K H U v d → v.length = d.length
  | _, _, .nil => rfl
  | _, _, .cons _ r => by simp [RepAll.length r]
theorem RepAll.get : ∀ {vs : List V} {ds : List PyData} {i : Nat} {d : PyData}, RepAll K H U vs ds → ds[i]? = some d → ∃ v, vs[i]? = some v ∧ Rep K H U v d
  | _, _, _, _, .nil, e => by simp at e
  | _, _, 0, _, .cons r _, e => by simp at e; subst e; exact ⟨_, rfl, r⟩
  | _, _, i + 1, d, .cons _ t, e => by
    obtain ⟨v, h1, h2⟩ := RepAll.get (i := i) t (by simpa using e)
    exact ⟨v, by simpa using h1, h2⟩
theorem RepAll.get' : ∀ {vs : List V} {ds : List PyData} {i : Nat} {v : V}, RepAll K H U vs ds → vs[i]? = some v → ∃ d, ds[i]? = some d ∧ Rep K H U v d
  | _, _, _, _, .nil, e => by simp at e
  | _, _, 0, _, .cons r _, e => by simp at e; subst e; exact ⟨_, rfl, r⟩
  | _, _, i + 1, d, .cons _ t, e => by
    obtain ⟨v, h1, h2⟩ := RepAll.get' (i := i) t (by simpa using e)
    exact ⟨v, by simpa using h1, h2⟩
theorem RepAll.append : ∀ {vs ws : List V} {ds es : List PyData}, RepAll K H U vs ds → RepAll K H U ws es → RepAll K H U (vs ++ ws) (ds ++ es)
  | _, _, _, _, .nil, s => s
  | _, _, _, _, .cons r t, s => .cons r (RepAll.append t s)
theorem RepAll.set {v : V} {d : PyData} (r : Rep K H U v d) : ∀ {vs : List V} {ds : List PyData} (i : Nat), RepAll K H U vs ds → RepAll K H U (vs.set i v) (ds.set i d)
  | _, _, _, .nil => .nil
  | _, _, 0, .cons _ t => .cons r t
  | _, _, i + 1, .cons q t => .cons q (RepAll.set r i t)
theorem RepAll.take : ∀ {vs : List V} {ds : List PyData} (n : Nat), RepAll K H U vs ds → RepAll K H U (vs.take n) (ds.take n)
  | _, _, 0, _ => .nil
  | _, _, _ + 1, .nil => .nil
  | _, _, n + 1, .cons r t => .cons r (RepAll.take n t)
theorem RepAll.drop : ∀ {vs : List V} {ds : List PyData} (n : Nat), RepAll K H U vs ds → RepAll K H U (vs.drop n) (ds.drop n)
  | _, _, 0, r => r
  | _, _, _ + 1, .nil => .nil
  | _, _, n + 1, .cons _ t => RepAll.drop n t
theorem RepAll.erase : ∀ {vs : List V} {ds : List PyData} (n : Nat), RepAll K H U vs ds → RepAll K H U (vs.eraseIdx n) (ds.eraseIdx n)
  | _, _, _, .nil => .nil
  | _, _, 0, .cons _ t => t
  | _, _, n + 1, .cons r t => .cons r (RepAll.erase n t)
theorem RepAll.reverse : ∀ {vs : List V} {ds : List PyData}, RepAll K H U vs ds → RepAll K H U vs.reverse ds.reverse
  | _, _, .nil => .nil
  | _, _, .cons r t => by
    rw [List.reverse_cons, List.reverse_cons]
    exact RepAll.append (RepAll.reverse t) (.cons r .nil)
/-! the kinds by their values -/
theorem Rep.int_inv {v : V} {i : Int} (h : Rep K H U v (.int i)) : v = .int i := by cases h; rfl
theorem Rep.bl_inv {v : V} {i : Bool} (h : Rep K H U v (.bool i)) : v = .bl i := by cases h; rfl
theorem Rep.str_inv {v : V} {i : Str} (h : Rep K H U v (.str i)) : v = .str i := by cases h; rfl
theorem Rep.non_inv {v : V} (h : Rep K H U v .none) : v = .non := by cases h; rfl
theorem Rep.lst_inv {v : V} {ds : List PyData} (h : Rep K H U v (.list ds)) : ∃ a xs, v = .ref a ∧ LstU K H U a xs ∧ RepAll K H U xs ds := by
  cases h with
  | lst h r => exact ⟨_, _, rfl, h, r⟩
theorem Rep.tup_inv {v : V} {ds : List PyData} (h : Rep K H U v (.tuple ds)) : ∃ a xs, v = .ref a ∧ TupU K H U a xs ∧ RepAll K H U xs ds := by
  cases h with
  | tup h r => exact ⟨_, _, rfl, h, r⟩
/-! data without dicts, for == and the like -/
mutual
def noDict : PyData → Bool
  | .dict _ => false
  | .list xs => noDicts xs
  | .tuple xs => noDicts xs
  | _ => true
def noDicts : List PyData → Bool
  | [] => true
  | x :: xs => noDict x && noDicts xs
end
mutual
theorem Rep.dp : ∀ {v : V} {d : PyData}, Rep K H U v d → noDict d = true → Dp K H v d
  | _, _, .non, _ => .non
  | _, _, .bl b, _ => .bl b
  | _, _, .int b, _ => .int b
  | _, _, .str b, _ => .str b
  | _, _, .lst h r, e => .lst h.sq (RepAll.dp r (by simpa [noDict] using e))
  | _, _, .tup h r, e => .tup h.sq (RepAll.dp r (by simpa [noDict] using e))
  | _, _, .dK _ _ _, e => by simp [noDict] at e
  | _, _, .dT _ _ _, e => by simp [noDict] at e
  | _, _, .scr _, e => by simp [noDict, scrD] at e
theorem RepAll.dp : ∀ {v : List V} {d : List PyData}, RepAll K H U v d → noDicts d = true → DpAll K H v d
  | _, _, .nil, _ => .nil
  | _, _, .cons h r, e => by
    simp only [noDicts, Bool.and_eq_true] at e
    exact .cons (Rep.dp h e.1) (RepAll.dp r e.2)
end
end
end Pf


namespace Pf
open PySem PySem.Spec L2

/-- what a name holds: whether the container is its own, and the datum -/
abbrev En := List (Option (Bool × PyData))
structure Bs where
  H0 : Hp
  io : Addr → Prop
def OwnA (ρ : En) (σ : St) (a : Addr) : Prop := ∃ (i : Nat) (d : PyData), ρ[i]? = some (some (true, d)) ∧ σ[i]? = some (some (V.ref a))
def UU (ρ : En) (σ : St) (Z : Addr → Prop) (a : Addr) : Prop := Z a ∨ OwnA ρ σ a
def ZP (Z : Addr → Prop) (p : Addr) : Addr → Prop := fun a => Z a ∨ a = p
/-- own ones grow fewer -/
def Shr (ρ ρ' : En) : Prop := ρ'.length = ρ.length ∧ ∀ (i : Nat) (d : PyData), ρ'[i]? = some (some (true, d)) → ∃ e : PyData, ρ[i]? = some (some (true, e))
theorem Shr.refl (ρ : En) : Shr ρ ρ := ⟨rfl, fun _ d h => ⟨d, h⟩⟩
theorem Shr.trans {ρ ρ1 ρ2 : En} (a : Shr ρ ρ1) (b : Shr ρ1 ρ2) : Shr ρ ρ2 := ⟨b.1.trans a.1, fun i d h => by
  obtain ⟨e, h1⟩ := b.2 i d h
  exact a.2 i e h1⟩

/-- a container that is written: what stands at p -/
inductive Cont (K : PySem.W.Frag) (H : Hp) (U : Addr → Prop) (p : Addr) : PyData → Prop
  | lst {vs : List V} {ds : List PyData} : H p = some (.lst vs) → RepAll K H U vs ds → Cont K H U p (.list ds)
  | dK {ks : List Key} {vs : List V} {ds : List PyData} : ks.length = vs.length → H p = some (.dK (ks.zip vs)) → RepAll K H U vs ds → Cont K H U p (.dict ((ks.map keyD).zip ds))
  | dT {ks : List (List Key)} {vs : List V} {ds : List PyData} : (ks.length = vs.length ∧ TK ks) → H p = some (.dT (ks.zip vs)) → RepAll K H U vs ds → Cont K H U p (.dict ((ks.map keysD).zip ds))
section
variable {K : PySem.W.Frag} {H H' : Hp} {U U' : Addr → Prop} {p : Addr} {d : PyData}
theorem Cont.there (c : Cont K H U p d) : H p ≠ none := by
  cases c with
  | lst h _ => rw [h]; exact fun z => by cases z
  | dK _ h _ => rw [h]; exact fun z => by cases z
  | dT _ h _ => rw [h]; exact fun z => by cases z
theorem Cont.rep (c : Cont K H U p d) (u : ∀ a, U' a → U a) (n : ¬ U' p) : Rep K H U' (.ref p) d := by
  cases c with
  | lst h r => exact .lst ⟨h, n⟩ (r.mono u)
  | dK l h r => exact .dK l ⟨⟨_, h, .inl rfl⟩, n⟩ (r.mono u)
  | dT l h r => exact .dT l ⟨⟨_, h, .inl rfl⟩, n⟩ (r.mono u)
theorem Cont.mono (c : Cont K H U p d) (u : ∀ a, U' a → U a) : Cont K H U' p d := by
  cases c with
  | lst h r => exact .lst h (r.mono u)
  | dK l h r => exact .dK l h (r.mono u)
  | dT l h r => exact .dT l h (r.mono u)
theorem Cont.pre (c : Cont K H U p d) (x : Pre U H H') (hp : ∀ o, H p = some o → H' p = some o) : Cont K H' U p d := by
  cases c with
  | lst h r => exact .lst (hp _ h) (r.pre x)
  | dK l h r => exact .dK l (hp _ h) (r.pre x)
  | dT l h r => exact .dT l (hp _ h) (r.pre x)
theorem Cont.off {q : Addr} (c : Cont K H U p d) (hq : H q = none) : Cont K H (fun b => U b ∨ b = q) p d := by
  cases c with
  | lst h r => exact .lst h (r.off hq)
  | dK l h r => exact .dK l h (r.off hq)
  | dT l h r => exact .dT l h (r.off hq)
end

/-- something lies there, no tuple -/
def Hard (H : Hp) (a : Addr) : Prop := H a ≠ none ∧ ∀ xs, H a ≠ some (.tup xs)
theorem hard_same {H H' : Hp} (s : Same H H') {a : Addr} (h : Hard H a) : Hard H' a := by
  cases e : H a with
  | none => exact (h.1 e).elim
  | some o =>
    refine ⟨(by rw [s a o e]; intro z; cases z), fun xs => ?_⟩
    rw [s a o e]
    intro z
    exact h.2 xs (e.trans z)
theorem hard_upd {H : Hp} {p a : Addr} {o : HO} (ho : ∀ xs, o ≠ .tup xs) (h : Hard H a) : Hard (upd H p o) a := by
  by_cases z : a = p
  · subst z
    refine ⟨(by rw [upd_same]; intro q; cases q), fun xs => ?_⟩
    rw [upd_same]
    exact fun q => ho xs (Option.some.inj q)
  · unfold Hard
    rw [upd_ne z]
    exact h
theorem hard_at {H : Hp} {p : Addr} {o : HO} (ho : ∀ xs, o ≠ .tup xs) : Hard (upd H p o) p := by
  refine ⟨(by rw [upd_same]; intro q; cases q), fun xs => ?_⟩
  rw [upd_same]
  exact fun q => ho xs (Option.some.inj q)
theorem Cont.hard {K : PySem.W.Frag} {H : Hp} {U : Addr → Prop} {p : Addr} {d : PyData} (c : Cont K H U p d) : Hard H p := by
  refine ⟨c.there, fun xs => ?_⟩
  cases c with
  | lst h _ => rw [h]; exact fun z => by cases z
  | dK _ h _ => rw [h]; exact fun z => by cases z
  | dT _ h _ => rw [h]; exact fun z => by cases z
theorem Cont.notup {K : PySem.W.Frag} {H : Hp} {U : Addr → Prop} {p : Addr} {d : PyData} {o : HO} (c : Cont K (upd H p o) U p d) : ∀ xs, o ≠ .tup xs := fun xs e => by
  have := c.hard.2 xs
  rw [upd_same] at this
  exact this (by rw [e])
/-- .. nor what the heap doesn't know -/
theorem Rep.offs_of {K : PySem.W.Frag} {H : Hp} {U : Addr → Prop} {v : V} {d : PyData} (r : Rep K H U v d) : Rep K H (fun a => U a ∨ H a = none) v d := r.offs
structure Stt (K : PySem.W.Frag) (P : List Bs) (Z : Addr → Prop) (ρ : En) (σ : St) (H : Hp) : Prop where
  len : ρ.length = σ.length
  sh : ∀ (i : Nat) (d : PyData), ρ[i]? = some (some (false, d)) → ∃ v, σ[i]? = some (some v) ∧ Rep K H (UU ρ σ Z) v d
  ow : ∀ (i : Nat) (d : PyData), ρ[i]? = some (some (true, d)) → ∃ p, σ[i]? = some (some (V.ref p)) ∧ Cont K H (UU ρ σ Z) p d ∧ ¬ Z p ∧ ∀ b ∈ P, b.io p ∨ b.H0 p = none
  dis : ∀ (i j : Nat) (d e : PyData) (p : Addr), ρ[i]? = some (some (true, d)) → ρ[j]? = some (some (true, e)) → σ[i]? = some (some (V.ref p)) → σ[j]? = some (some (V.ref p)) → i = j
  zd : ∀ a, Z a → Hard H a
  pre : ∀ b ∈ P, Pre b.io b.H0 H ∧ (∀ a, b.io a → H a ≠ none) ∧ ∀ a o, Z a → b.H0 a = some o → H a = some o
theorem same_none {H H' : Hp} (s : Same H H') {a : Addr} (h : H a ≠ none) : H' a ≠ none := by
  cases e : H a with
  | none => exact (h e).elim
  | some o => rw [s a o e]; intro z; cases z
theorem set_get {ρ : En} {i j : Nat} {w : Option (Bool × PyData)} {z : Bool × PyData} (h : (ρ.set i w)[j]? = some (some z)) : (i = j ∧ w = some z) ∨ (i ≠ j ∧ ρ[j]? = some (some z)) := by
  by_cases hj : i = j
  · subst hj
    by_cases hi : i < ρ.length
    · rw [List.getElem?_set_self hi] at h
      exact .inl ⟨rfl, Option.some.inj h⟩
    · rw [List.getElem?_eq_none (by simpa using hi)] at h; cases h
  · rw [List.getElem?_set_ne hj] at h
    exact .inr ⟨hj, h⟩
section
variable {K : PySem.W.Frag} {P : List Bs} {Z Z' : Addr → Prop} {ρ ρ' : En} {σ : St} {H H' : Hp}
theorem UU.shr (h : Shr ρ ρ') {a : Addr} (u : UU ρ' σ Z a) : UU ρ σ Z a := by
  rcases u with u | ⟨i, d, h1, h2⟩
  · exact .inl u
  · obtain ⟨e, h3⟩ := h.2 i d h1
    exact .inr ⟨i, e, h3, h2⟩
theorem UU.zm (z : ∀ a, Z' a → Z a) {a : Addr} (u : UU ρ σ Z' a) : UU ρ σ Z a := u.elim (fun q => .inl (z a q)) .inr
/-- the heap grows -/
theorem Stt.grow (x : Stt K P Z ρ σ H) (s : Same H H') : Stt K P Z ρ σ H' where
  len := x.len
  sh := fun i d e => by
    obtain ⟨v, h, r⟩ := x.sh i d e
    exact ⟨v, h, r.pre (Pre.same s)⟩
  ow := fun i d hi => by
    obtain ⟨p, h2, c, z, b⟩ := x.ow i d hi
    exact ⟨p, h2, c.pre (Pre.same s) (s p), z, b⟩
  dis := x.dis
  zd := fun a z => hard_same s (x.zd a z)
  pre := fun b hb => ⟨(x.pre b hb).1.trans (Pre.same s), fun a z => same_none s ((x.pre b hb).2.1 a z), fun a o z e => s _ _ ((x.pre b hb).2.2 a o z e)⟩
theorem Stt.zmono (x : Stt K P Z ρ σ H) (h : ∀ a, Z' a → Z a) : Stt K P Z' ρ σ H where
  len := x.len
  sh := fun i d e => by
    obtain ⟨v, h1, r⟩ := x.sh i d e
    exact ⟨v, h1, r.mono fun a u => UU.zm h u⟩
  ow := fun i d hi => by
    obtain ⟨p, h2, c, z, b⟩ := x.ow i d hi
    exact ⟨p, h2, c.mono fun a u => UU.zm h u, fun q => z (h p q), b⟩
  dis := x.dis
  zd := fun a z => x.zd a (h a z)
  pre := fun b hb => ⟨(x.pre b hb).1, (x.pre b hb).2.1, fun a o z e => (x.pre b hb).2.2 a o (h a z) e⟩
/-- what was one's own is shared from here on -/
def frz (ρ : En) (i : Nat) : En := match ρ[i]? with
  | some (some (true, d)) => ρ.set i (some (false, d))
  | _ => ρ
theorem frz_shr (ρ : En) (i : Nat) : Shr ρ (frz ρ i) := by
  unfold frz
  split
  · refine ⟨by simp, fun j e h => ?_⟩
    rcases set_get h with ⟨_, q⟩ | ⟨_, q⟩
    · cases q
    · exact ⟨e, q⟩
  · exact .refl ρ
theorem frz_get {ρ : En} {i : Nat} {b : Bool} {d : PyData} (h : ρ[i]? = some (some (b, d))) : (frz ρ i)[i]? = some (some (false, d)) := by
  have hi : i < ρ.length := (List.getElem?_eq_some_iff.mp h).1
  unfold frz
  cases b with
  | true => rw [h]; exact List.getElem?_set_self hi
  | false => rw [h]; exact h
theorem Stt.frz (x : Stt K P Z ρ σ H) (i : Nat) : Stt K P Z (frz ρ i) σ H := by
  unfold Pf.frz
  split
  · rename_i d hi
    have shr : Shr ρ (ρ.set i (some (false, d))) := by
      have := frz_shr ρ i
      unfold Pf.frz at this
      rw [hi] at this
      exact this
    obtain ⟨p, h2, c, z, b⟩ := x.ow i d hi
    refine ⟨by simp [x.len], fun j e h => ?_, fun j e h => ?_, fun j k d1 d2 q h1 h2 h3 h4 => ?_, x.zd, x.pre⟩
    · rcases set_get h with ⟨rfl, q⟩ | ⟨_, q⟩
      · cases q
        refine ⟨_, h2, c.rep (fun a u => UU.shr shr u) fun u => ?_⟩
        rcases u with u | ⟨j, e, g1, g2⟩
        · exact z u
        · rcases set_get g1 with ⟨_, q⟩ | ⟨hn, q⟩
          · cases q
          · exact hn (x.dis i j _ _ p hi q h2 g2)
      · obtain ⟨v, g1, g2⟩ := x.sh j e q
        exact ⟨v, g1, g2.mono fun a u => UU.shr shr u⟩
    · rcases set_get h with ⟨_, q⟩ | ⟨_, q⟩
      · cases q
      · obtain ⟨p', g2, c', z', b'⟩ := x.ow j e q
        exact ⟨p', g2, c'.mono fun a u => UU.shr shr u, z', b'⟩
    · rcases set_get h1 with ⟨_, q⟩ | ⟨_, q1⟩
      · cases q
      · rcases set_get h2 with ⟨_, q⟩ | ⟨_, q2⟩
        · cases q
        · exact x.dis j k _ _ q q1 q2 h3 h4
  · exact x
theorem Stt.val (x : Stt K P Z ρ σ H) {i : Nat} {b : Bool} {d : PyData} (h : ρ[i]? = some (some (b, d))) : ∃ v, σ[i]? = some (some v) ∧ Stt K P Z (Pf.frz ρ i) σ H ∧ Rep K H (UU (Pf.frz ρ i) σ Z) v d := by
  have y := x.frz i
  obtain ⟨v, h1, h2⟩ := y.sh i d (frz_get h)
  exact ⟨v, h1, y, h2⟩
/-- a name is given a shared value -/
theorem Stt.setSh (x : Stt K P Z ρ σ H) {i : Nat} {d : PyData} {v : V} (r : Rep K H (UU ρ σ Z) v d) (hi : i < σ.length) : Stt K P Z (ρ.set i (some (false, d))) (σ.set i (some v)) H := by
  have sub : ∀ a, UU (ρ.set i (some (false, d))) (σ.set i (some v)) Z a → UU ρ σ Z a := fun a u => by
    rcases u with u | ⟨j, e, g1, g2⟩
    · exact .inl u
    · rcases set_get g1 with ⟨_, q⟩ | ⟨hn, q⟩
      · cases q
      · rw [List.getElem?_set_ne hn] at g2
        exact .inr ⟨j, e, q, g2⟩
  refine ⟨by simp [x.len], fun j e h => ?_, fun j e h => ?_, fun j k d1 d2 q h1 h2 h3 h4 => ?_, x.zd, x.pre⟩
  · rcases set_get h with ⟨rfl, q⟩ | ⟨hn, q⟩
    · cases q
      exact ⟨v, List.getElem?_set_self hi, r.mono sub⟩
    · obtain ⟨w, g1, g2⟩ := x.sh j e q
      exact ⟨w, by rw [List.getElem?_set_ne hn]; exact g1, g2.mono sub⟩
  · rcases set_get h with ⟨_, q⟩ | ⟨hn, q⟩
    · cases q
    · obtain ⟨p', g2, c', z', b'⟩ := x.ow j e q
      exact ⟨p', by rw [List.getElem?_set_ne hn]; exact g2, c'.mono sub, z', b'⟩
  · rcases set_get h1 with ⟨_, q⟩ | ⟨n1, q1⟩
    · cases q
    · rcases set_get h2 with ⟨_, q⟩ | ⟨n2, q2⟩
      · cases q
      · rw [List.getElem?_set_ne n1] at h3
        rw [List.getElem?_set_ne n2] at h4
        exact x.dis j k _ _ q q1 q2 h3 h4
/-- a name is given a new container -/
theorem Stt.setOwn {p : Addr} (x : Stt K P (ZP Z p) ρ σ H) {i : Nat} {d : PyData} (c : Cont K H (ZP (UU ρ σ Z) p) p d) (nz : ¬ Z p) (hb : ∀ b ∈ P, b.H0 p = none) (hi : i < σ.length) :
    Stt K P Z (ρ.set i (some (true, d))) (σ.set i (some (V.ref p))) H := by
  have sub : ∀ a, UU (ρ.set i (some (true, d))) (σ.set i (some (V.ref p))) Z a → UU ρ σ (ZP Z p) a := fun a u => by
    rcases u with u | ⟨j, e, g1, g2⟩
    · exact .inl (.inl u)
    · rcases set_get g1 with ⟨rfl, q⟩ | ⟨hn, q⟩
      · rw [List.getElem?_set_self hi] at g2
        cases g2
        exact .inl (.inr rfl)
      · rw [List.getElem?_set_ne hn] at g2
        exact .inr ⟨j, e, q, g2⟩
  have sub2 : ∀ a, UU ρ σ (ZP Z p) a → ZP (UU ρ σ Z) p a := fun a u => by
    rcases u with (u | u) | u
    · exact .inl (.inl u)
    · exact .inr u
    · exact .inl (.inr u)
  have other : ∀ {j : Nat} {e : PyData}, ρ[j]? = some (some (true, e)) → σ[j]? = some (some (V.ref p)) → False := fun {j e} h g => by
    obtain ⟨q, g2, _, z, _⟩ := x.ow j e h
    rw [g] at g2
    cases g2
    exact z (.inr rfl)
  refine ⟨by simp [x.len], fun j e h => ?_, fun j e h => ?_, fun j k d1 d2 q h1 h2 h3 h4 => ?_, fun a z => x.zd a (.inl z), fun b hb => ⟨(x.pre b hb).1, (x.pre b hb).2.1, fun a o z e => (x.pre b hb).2.2 a o (.inl z) e⟩⟩
  · rcases set_get h with ⟨_, q⟩ | ⟨hn, q⟩
    · cases q
    · obtain ⟨w, g1, g2⟩ := x.sh j e q
      exact ⟨w, by rw [List.getElem?_set_ne hn]; exact g1, g2.mono sub⟩
  · rcases set_get h with ⟨rfl, q⟩ | ⟨hn, q⟩
    · cases q
      exact ⟨p, List.getElem?_set_self hi, c.mono fun a u => sub2 a (sub a u), nz, fun b h => .inr (hb b h)⟩
    · obtain ⟨p', g2, c', z', b'⟩ := x.ow j e q
      exact ⟨p', by rw [List.getElem?_set_ne hn]; exact g2, c'.mono sub, fun w => z' (.inl w), b'⟩
  · rcases set_get h1 with ⟨rfl, _⟩ | ⟨n1, q1⟩
    · rw [List.getElem?_set_self hi] at h3
      cases h3
      rcases set_get h2 with ⟨rfl, _⟩ | ⟨n2, q2⟩
      · rfl
      · rw [List.getElem?_set_ne n2] at h4
        exact (other q2 h4).elim
    · rw [List.getElem?_set_ne n1] at h3
      rcases set_get h2 with ⟨rfl, _⟩ | ⟨n2, q2⟩
      · rw [List.getElem?_set_self hi] at h4
        cases h4
        exact (other q1 h3).elim
      · rw [List.getElem?_set_ne n2] at h4
        exact x.dis j k _ _ q q1 q2 h3 h4
theorem own_set {i : Nat} {d e : PyData} {p : Addr} (h : ρ[i]? = some (some (true, d))) (a : Addr) : OwnA (ρ.set i (some (true, e))) σ a ↔ OwnA ρ σ a := by
  have hi : i < ρ.length := (List.getElem?_eq_some_iff.mp h).1
  constructor
  · rintro ⟨j, f, g1, g2⟩
    rcases set_get g1 with ⟨rfl, _⟩ | ⟨_, q⟩
    · exact ⟨i, d, h, g2⟩
    · exact ⟨j, f, q, g2⟩
  · rintro ⟨j, f, g1, g2⟩
    by_cases hj : i = j
    · subst hj
      exact ⟨i, e, List.getElem?_set_self hi, g2⟩
    · exact ⟨j, f, by rw [List.getElem?_set_ne hj]; exact g1, g2⟩
theorem uu_set {i : Nat} {d e : PyData} (h : ρ[i]? = some (some (true, d))) (a : Addr) : UU (ρ.set i (some (true, e))) σ Z a ↔ UU ρ σ Z a := by
  unfold UU
  rw [own_set (p := 0) h]
/-- one's own container is written -/
theorem Stt.mut (x : Stt K P Z ρ σ H) {i : Nat} {p : Addr} {o : HO} {d0 d : PyData} (hi : ρ[i]? = some (some (true, d0))) (e : σ[i]? = some (some (V.ref p))) (c : Cont K (upd H p o) (UU ρ σ Z) p d) : Stt K P Z (ρ.set i (some (true, d))) σ (upd H p o) := by
  have up : UU ρ σ Z p := .inr ⟨i, d0, hi, e⟩
  have keep : Pre (UU ρ σ Z) H (upd H p o) := fun a u h n => by
    have : a ≠ p := fun z => n (z ▸ up)
    exact ⟨u, by rw [upd_ne this]; exact h, .refl u⟩
  have nn : ∀ a, H a ≠ none → upd H p o a ≠ none := fun a h => by
    by_cases z : a = p
    · subst z; rw [upd_same]; intro q; cases q
    · rw [upd_ne z]; exact h
  obtain ⟨p0, g2, c0, z0, b0⟩ := x.ow i d0 hi
  have hil : i < ρ.length := (List.getElem?_eq_some_iff.mp hi).1
  rw [e] at g2
  cases g2
  have sub : ∀ a, UU (ρ.set i (some (true, d))) σ Z a → UU ρ σ Z a := fun a u => (uu_set hi a).mp u
  refine ⟨by simp [x.len], fun j e' h => ?_, fun j e' h => ?_, fun j k d1 d2 q h1 h2 h3 h4 => ?_, fun a z => hard_upd c.notup (x.zd a z), fun b hb => ⟨fun a u h n => ?_, fun a z => nn a ((x.pre b hb).2.1 a z), fun a u z h => by
    have hap : a ≠ p := fun w => by subst w; exact z0 z
    rw [upd_ne hap]; exact (x.pre b hb).2.2 a u z h⟩⟩
  · rcases set_get h with ⟨_, q⟩ | ⟨hn, q⟩
    · cases q
    · obtain ⟨w, h1, h2⟩ := x.sh j e' q
      exact ⟨w, h1, (h2.pre keep).mono sub⟩
  · rcases set_get h with ⟨rfl, q⟩ | ⟨hn, q⟩
    · cases q
      exact ⟨p, e, c.mono sub, z0, b0⟩
    · obtain ⟨p', e2, c', z, b⟩ := x.ow j e' q
      refine ⟨p', e2, (c'.pre keep fun u h => ?_).mono sub, z, b⟩
      have : p' ≠ p := fun w => hn (x.dis i j _ _ p hi q e (w ▸ e2))
      rw [upd_ne this]; exact h
  · have g1 : ∃ f, ρ[j]? = some (some (true, f)) := by
      rcases set_get h1 with ⟨rfl, _⟩ | ⟨_, q⟩
      · exact ⟨_, hi⟩
      · exact ⟨_, q⟩
    have g2 : ∃ f, ρ[k]? = some (some (true, f)) := by
      rcases set_get h2 with ⟨rfl, _⟩ | ⟨_, q⟩
      · exact ⟨_, hi⟩
      · exact ⟨_, q⟩
    obtain ⟨f1, g1⟩ := g1
    obtain ⟨f2, g2⟩ := g2
    exact x.dis j k _ _ q g1 g2 h3 h4
  · obtain ⟨v, h1, l⟩ := (x.pre b hb).1 a u h n
    have hap : a ≠ p := fun w => by
      subst w
      rcases b0 b hb with w | w
      · exact n w
      · rw [h] at w; cases w
    exact ⟨v, by rw [upd_ne hap]; exact h1, l⟩
/-- the state now, as a base -/
theorem Stt.push (x : Stt K P Z ρ σ H) : Stt K (⟨H, OwnA ρ σ⟩ :: P) Z ρ σ H := by
  refine ⟨x.len, x.sh, fun i d hi => ?_, x.dis, x.zd, fun b hb => ?_⟩
  · obtain ⟨p, h2, c, z, b⟩ := x.ow i d hi
    refine ⟨p, h2, c, z, fun b' hb => ?_⟩
    rcases List.mem_cons.mp hb with rfl | hb
    · exact .inl ⟨i, d, hi, h2⟩
    · exact b b' hb
  · rcases List.mem_cons.mp hb with rfl | hb
    · refine ⟨Pre.refl _ _, fun a ⟨i, d, hi, e⟩ => ?_, fun a o _ e => e⟩
      obtain ⟨p, h2, c, z, b⟩ := x.ow i d hi
      rw [e] at h2
      cases h2
      exact c.there
    · exact x.pre b hb
theorem Stt.pop {b : Bs} (x : Stt K (b :: P) Z ρ σ H) : Stt K P Z ρ σ H :=
  ⟨x.len, x.sh, fun i d hi => let ⟨p, h2, c, z, g⟩ := x.ow i d hi; ⟨p, h2, c, z, fun b' hb => g b' (List.mem_cons_of_mem _ hb)⟩, x.dis, x.zd, fun b' hb => x.pre b' (List.mem_cons_of_mem _ hb)⟩
/-- an address that the heap doesn't know is no base's -/
theorem Stt.fresh (x : Stt K P Z ρ σ H) {p : Addr} (hp : H p = none) : (∀ b ∈ P, b.H0 p = none) ∧ ¬ Z p ∧ ¬ UU ρ σ Z p := by
  have nz : ¬ Z p := fun z => (x.zd p z).1 hp
  refine ⟨fun b hb => ?_, nz, fun u => ?_⟩
  · cases e : b.H0 p with
    | none => rfl
    | some o =>
      by_cases z : b.io p
      · exact ((x.pre b hb).2.1 p z hp).elim
      · obtain ⟨u, h, _⟩ := (x.pre b hb).1 p o e z
        rw [hp] at h; cases h
  · rcases u with u | ⟨i, d, hi, e⟩
    · exact nz u
    · obtain ⟨q, h2, c, _, _⟩ := x.ow i d hi
      rw [e] at h2
      cases h2
      exact c.there hp
/-- a new object: nothing lies there -/
theorem Stt.newZ (x : Stt K P Z ρ σ H) {p : Addr} {o : HO} (hp : H p = none) (ho : ∀ xs, o ≠ .tup xs) : Stt K P (ZP Z p) ρ σ (upd H p o) := by
  have s : Same H (upd H p o) := same_upd hp
  have y := x.grow s
  have sub : ∀ a, UU ρ σ (ZP Z p) a → (UU ρ σ Z a ∨ a = p) := fun a u => by
    rcases u with (u | u) | u
    · exact .inl (.inl u)
    · exact .inr u
    · exact .inl (.inr u)
  refine ⟨y.len, fun i d e => ?_, fun i d hi => ?_, y.dis, fun a z => ?_, fun b hb => ⟨(y.pre b hb).1, (y.pre b hb).2.1, fun a u z e => ?_⟩⟩
  · obtain ⟨v, h, r⟩ := x.sh i d e
    exact ⟨v, h, ((r.off hp).pre (Pre.same s)).mono sub⟩
  · obtain ⟨q, h2, c, z, b⟩ := x.ow i d hi
    have qp : q ≠ p := fun w => c.there (w ▸ hp)
    exact ⟨q, h2, ((c.off hp).pre (Pre.same s) fun o e => s _ _ e).mono sub, fun w => w.elim z qp, b⟩
  · rcases z with z | z
    · exact hard_same s (x.zd a z)
    · subst z; exact hard_at ho
  · rcases z with z | z
    · exact (y.pre b hb).2.2 a u z e
    · subst z
      rw [(x.fresh hp).1 b hb] at e
      cases e
end

/-- a value as an expression leaves it: shared, or a new container -/
def Val (K : PySem.W.Frag) (P : List Bs) (Z : Addr → Prop) (ρ : En) (σ : St) : Bool → V → PyData → Hp → Prop
  | false, v, d, H => Stt K P Z ρ σ H ∧ Rep K H (UU ρ σ Z) v d
  | true, v, d, H => ∃ p, v = .ref p ∧ ¬ Z p ∧ Stt K P (ZP Z p) ρ σ H ∧ Cont K H (ZP (UU ρ σ Z) p) p d ∧ ∀ b ∈ P, b.H0 p = none
section
variable {K : PySem.W.Frag} {P : List Bs} {Z Z' : Addr → Prop} {ρ ρ' : En} {σ : St} {H H' : Hp}
theorem Val.share {b : Bool} {v : V} {d : PyData} (x : Val K P Z ρ σ b v d H) : Stt K P Z ρ σ H ∧ Rep K H (UU ρ σ Z) v d := by
  cases b with
  | false => exact x
  | true =>
    obtain ⟨p, rfl, nz, s, c, _⟩ := x
    refine ⟨s.zmono fun _ z => .inl z, c.rep (fun a u => .inl u) fun u => ?_⟩
    rcases u with u | ⟨i, e, hi, g⟩
    · exact nz u
    · obtain ⟨q, h2, _, z, _⟩ := s.ow i e hi
      rw [g] at h2
      cases h2
      exact z (.inr rfl)
theorem Val.newLst {p : Addr} {vs : List V} {ds : List PyData} (x : Stt K P Z ρ σ H) (hp : H p = none) (r : RepAll K H (UU ρ σ Z) vs ds) : Val K P Z ρ σ true (.ref p) (.list ds) (upd H p (.lst vs)) := by
  obtain ⟨f1, f2, f3⟩ := x.fresh hp
  exact ⟨p, rfl, f2, x.newZ hp (fun _ z => by cases z), .lst upd_same ((r.off hp).pre (Pre.same (same_upd hp))), f1⟩
theorem UU.hard (x : Stt K P Z ρ σ H) {a : Addr} (h : UU ρ σ Z a) : Hard H a := by
  rcases h with h | ⟨i, d, hi, e⟩
  · exact x.zd a h
  · obtain ⟨p, h2, c, _⟩ := x.ow i d hi
    rw [e] at h2
    cases h2
    exact c.hard
theorem Val.newTup {p : Addr} {vs : List V} {ds : List PyData} {o : Obj} (x : Stt K P Z ρ σ H) (hp : H p = none) (hd : o.dict = none) (r : RepAll K H (UU ρ σ Z) vs ds) : Val K P Z ρ σ false (.ref p) (.tuple ds) (upd H p (tupH o vs)) := by
  obtain ⟨f1, f2, f3⟩ := x.fresh hp
  exact ⟨x.grow (same_upd hp), .tup (.inl ⟨⟨o, hd, upd_same⟩, f3⟩) (r.pre (Pre.same (same_upd hp)))⟩
/-- what was reckoned earlier, behind what comes later -/
theorem later {v : V} {d : PyData} {ρ2 : En} {H2 : Hp} (r : Rep K H (UU ρ σ Z) v d) (x : Stt K (⟨H, OwnA ρ σ⟩ :: P) Z ρ2 σ H2) (sub : Shr ρ ρ2) : Rep K H2 (UU ρ2 σ Z) v d := by
  have p := (x.pre _ List.mem_cons_self).1
  exact (r.pre (p.mono fun a u => .inr u)).mono fun a u => UU.shr sub u
theorem laterAll {v : List V} {d : List PyData} {ρ2 : En} {H2 : Hp} (r : RepAll K H (UU ρ σ Z) v d) (x : Stt K (⟨H, OwnA ρ σ⟩ :: P) Z ρ2 σ H2) (sub : Shr ρ ρ2) : RepAll K H2 (UU ρ2 σ Z) v d := by
  have p := (x.pre _ List.mem_cons_self).1
  exact (r.pre (p.mono fun a u => .inr u)).mono fun a u => UU.shr sub u
theorem Val.pop {b : Bs} {c : Bool} {v : V} {d : PyData} (x : Val K (b :: P) Z ρ σ c v d H) : Val K P Z ρ σ c v d H := by
  cases c with
  | false => exact ⟨x.1.pop, x.2⟩
  | true =>
    obtain ⟨p, h1, h2, h3, h4, h5⟩ := x
    exact ⟨p, h1, h2, h3.pop, h4, fun b' hb => h5 b' (List.mem_cons_of_mem _ hb)⟩
end
end Pf


namespace Pf
open PySem PySem.Spec L2

/-! ## dicts as data -/
def keyOf : PyData → Option Key
  | .int i => some (.inl i)
  | .str x => some (.inr x)
  | _ => none
def keysOf : List PyData → Option (List Key)
  | [] => some []
  | d :: ds => (keyOf d).bind fun k => (keysOf ds).bind fun ks => some (k :: ks)
/-- a short tuple of ints and texts -/
def tkOf : PyData → Option (List Key)
  | .tuple ds => if 0 < ds.length ∧ ds.length ≤ 3 then keysOf ds else none
  | _ => none
def keq (a b : PyData) : Bool := match keyOf a, keyOf b with
  | some k, some j => decide (k = j)
  | none, none => (match tkOf a, tkOf b with
    | some k, some j => decide (k = j)
    | _, _ => false)
  | _, _ => false
abbrev Es := List (PyData × PyData)
def getE (es : Es) (k : PyData) : Option PyData := (es.find? fun e => keq e.1 k).map (·.2)
def putE (es : Es) (k v : PyData) : Es := if es.any (fun e => keq e.1 k) then es.map (fun e => if keq e.1 k then (e.1, v) else e) else es ++ [(k, v)]
/-- the key's kind is the dict's -/
def okKey (es : Es) (k : PyData) : Bool := match es with
  | [] => (keyOf k).isSome || (tkOf k).isSome
  | e :: _ => ((keyOf e.1).isSome && (keyOf k).isSome) || ((tkOf e.1).isSome && (tkOf k).isSome)
def dgetD : PyData → PyData → Option (Option PyData)
  | .dict es, k => if okKey es k then some (getE es k) else none
  | _, _ => none

theorem keyOf_D (k : Key) : keyOf (keyD k) = some k := by cases k <;> rfl
theorem keyOf_some {d : PyData} {k : Key} (h : keyOf d = some k) : d = keyD k := by
  cases d <;> simp [keyOf] at h <;> subst h <;> rfl
theorem keysOf_some : ∀ {ds : List PyData} {ks : List Key}, keysOf ds = some ks → ds = ks.map keyD
  | [], _, h => by cases h; rfl
  | d :: ds, _, h => by
    simp only [keysOf] at h
    cases h1 : keyOf d with
    | none => rw [h1] at h; cases h
    | some k =>
      rw [h1] at h
      cases h2 : keysOf ds with
      | none => rw [h2] at h; cases h
      | some ks =>
        rw [h2] at h
        cases h
        rw [keyOf_some h1, keysOf_some h2]
        rfl
theorem keysOf_D : ∀ ks : List Key, keysOf (ks.map keyD) = some ks
  | [] => rfl
  | k :: ks => by simp only [List.map_cons, keysOf, keyOf_D, Option.bind_some, keysOf_D ks]
theorem tkOf_some {d : PyData} {ks : List Key} (h : tkOf d = some ks) : d = keysD ks ∧ 0 < ks.length ∧ ks.length ≤ 3 := by
  cases d <;> simp only [tkOf] at h <;> try cases h
  split at h
  · rename_i ds hl
    have := keysOf_some h
    subst this
    exact ⟨rfl, by simpa using hl⟩
  · cases h
theorem tkOf_D (ks : List Key) : tkOf (keysD ks) = if 0 < ks.length ∧ ks.length ≤ 3 then some ks else none := by
  simp only [tkOf, keysD, List.length_map, keysOf_D]
theorem keyOf_T (ks : List Key) : keyOf (keysD ks) = none := rfl
theorem tkOf_K (k : Key) : tkOf (keyD k) = none := by cases k <;> rfl
theorem keq_K (k j : Key) : keq (keyD k) (keyD j) = decide (k = j) := by
  unfold keq
  rw [keyOf_D, keyOf_D]
theorem keq_T {k j : List Key} (hj : 0 < j.length ∧ j.length ≤ 3) : keq (keysD k) (keysD j) = decide (k = j) := by
  unfold keq
  rw [keyOf_T, keyOf_T, tkOf_D, tkOf_D, if_pos hj]
  by_cases hk : 0 < k.length ∧ k.length ≤ 3
  · rw [if_pos hk]
  · rw [if_neg hk]
    dsimp only
    exact (decide_eq_false fun (e : k = j) => hk (by rw [e]; exact hj)).symm
theorem keq_KT (k : Key) (j : List Key) : keq (keyD k) (keysD j) = false ∧ keq (keysD j) (keyD k) = false := by
  unfold keq
  rw [keyOf_D, keyOf_T]
  exact ⟨rfl, rfl⟩

section
variable {K : PySem.W.Frag} {H : Hp} {U : Addr → Prop}
/-- what is found -/
def RelD (K : PySem.W.Frag) (H : Hp) (U : Addr → Prop) : Option V → Option PyData → Prop
  | some v, some d => Rep K H U v d
  | none, none => True
  | _, _ => False
theorem RelD.isSome {o : Option V} {d : Option PyData} (h : RelD K H U o d) : o.isSome = d.isSome := by
  cases o <;> cases d <;> first | rfl | exact h.elim
section
variable {κ : Type} [DecidableEq κ] {enc : κ → PyData}
theorem getE_rel {k : κ} (he : ∀ j : κ, keq (enc j) (enc k) = decide (j = k)) : ∀ {ks : List κ} {vs : List V} {ds : List PyData}, ks.length = vs.length → RepAll K H U vs ds → RelD K H U (valV (ks.zip vs) k) (getE ((ks.map enc).zip ds) (enc k))
  | [], [], _, _, .nil => True.intro
  | [], _ :: _, _, h, _ => by simp at h
  | _ :: _, [], _, h, _ => by simp at h
  | j :: ks, v :: vs, _, h, .cons (d := d) (ds := ds) r t => by
    simp only [List.map_cons, List.zip_cons_cons]
    unfold getE
    rw [List.find?_cons]
    dsimp only
    rw [he j]
    by_cases e : j = k
    · rw [decide_eq_true e, valV_pos (p := (j, v)) e]
      exact r
    · rw [decide_eq_false e, valV_neg (p := (j, v)) e]
      exact getE_rel he (by simpa using h) t
theorem any_rel {k : κ} (he : ∀ j : κ, keq (enc j) (enc k) = decide (j = k)) : ∀ {ks : List κ} {vs : List V} {ds : List PyData}, ks.length = vs.length → ks.length = ds.length → ((ks.map enc).zip ds).any (fun e => keq e.1 (enc k)) = (ks.zip vs).any fun kv => decide (kv.1 = k)
  | [], [], [], _, _ => rfl
  | [], [], _ :: _, _, h => by simp at h
  | [], _ :: _, _, h, _ => by simp at h
  | _ :: _, [], _, h, _ => by simp at h
  | _ :: _, _ :: _, [], _, h => by simp at h
  | j :: ks, v :: vs, d :: ds, h, h2 => by
    simp only [List.map_cons, List.zip_cons_cons, List.any_cons]
    rw [he j, any_rel he (by simpa using h) (by simpa using h2)]
/-- the keys, the values behind a store -/
theorem putE_rel {k : κ} {v : V} {d : PyData} (he : ∀ j : κ, keq (enc j) (enc k) = decide (j = k)) (rd : Rep K H U v d) {ks : List κ} {vs : List V} {ds : List PyData} (hl : ks.length = vs.length) (r : RepAll K H U vs ds) :
    ∃ ks' vs' ds', ks'.length = vs'.length ∧ putK (ks.zip vs) k v = ks'.zip vs' ∧ putE ((ks.map enc).zip ds) (enc k) d = (ks'.map enc).zip ds' ∧ RepAll K H U vs' ds' ∧ ks' ≠ [] ∧ ∀ j ∈ ks', j ∈ ks ∨ j = k := by
  have hl2 : ks.length = ds.length := by rw [hl, r.length]
  unfold putK putE
  rw [any_rel he hl hl2]
  by_cases a : (ks.zip vs).any (fun kv => decide (kv.1 = k)) = true
  · rw [if_pos a, if_pos a]
    have main : ∀ {ks : List κ} {vs : List V} {ds : List PyData}, ks.length = vs.length → RepAll K H U vs ds → ∃ vs' ds', ks.length = vs'.length ∧ (ks.zip vs).map (fun kv => if kv.1 = k then (kv.1, v) else kv) = ks.zip vs' ∧
        ((ks.map enc).zip ds).map (fun e => if keq e.1 (enc k) then (e.1, d) else e) = (ks.map enc).zip ds' ∧ RepAll K H U vs' ds' := by
      intro ks
      induction ks with
      | nil =>
        intro vs ds hl r
        cases r with
        | nil => exact ⟨[], [], rfl, rfl, rfl, .nil⟩
        | cons _ _ => simp at hl
      | cons j ks ih =>
        intro vs ds hl r
        cases r with
        | nil => simp at hl
        | @cons v0 vs d0 ds r0 t =>
          obtain ⟨vs', ds', h1, h2, h3, h4⟩ := ih (by simpa using hl) t
          simp only [List.map_cons, List.zip_cons_cons]
          rw [h2, h3, he j]
          by_cases e : j = k
          · rw [if_pos e, decide_eq_true e, if_pos rfl]
            exact ⟨v :: vs', d :: ds', by simp [h1], rfl, rfl, .cons rd h4⟩
          · rw [if_neg e, decide_eq_false e, if_neg Bool.false_ne_true]
            exact ⟨v0 :: vs', d0 :: ds', by simp [h1], rfl, rfl, .cons r0 h4⟩
    obtain ⟨vs', ds', h1, h2, h3, h4⟩ := main hl r
    refine ⟨ks, vs', ds', h1, h2, h3, h4, fun e => ?_, fun j hj => .inl hj⟩
    subst e
    simp at a
  · rw [if_neg a, if_neg a]
    refine ⟨ks ++ [k], vs ++ [v], ds ++ [d], by simp [hl], ?_, ?_, r.append (.cons rd .nil), by simp, fun j hj => by simpa using hj⟩
    · rw [List.zip_append hl]
      rfl
    · rw [List.map_append, List.zip_append (by simpa using hl2)]
      rfl
end
/-- the datum of a key, the key itself -/
theorem Rep.key_inv {v : V} {k : Key} (h : Rep K H U v (keyD k)) : v = kV k := by
  cases k with
  | inl i => exact h.int_inv
  | inr x => exact h.str_inv
theorem RepAll.keys : ∀ {ks : List Key} {vs : List V}, RepAll K H U vs (ks.map keyD) → vs = ks.map kV
  | [], _, h => by cases h; rfl
  | k :: ks, _, h => by
    cases h with
    | cons r t => rw [r.key_inv, RepAll.keys t]; rfl
theorem rep_keys : ∀ ks : List Key, RepAll K H U (ks.map kV) (ks.map keyD)
  | [] => .nil
  | k :: ks => .cons (by cases k with | inl i => exact .int i | inr x => exact .str x) (rep_keys ks)
theorem Rep.tkey_inv {v : V} {ks : List Key} (h : Rep K H U v (keysD ks)) (hl : 0 < ks.length ∧ ks.length ≤ 3) : ∃ b, v = .ref b ∧ H b = some (.tup (ks.map kV)) := by
  obtain ⟨b, xs, rfl, h1, r⟩ := h.tup_inv
  rw [r.keys] at h1
  have hk : keyish (ks.map kV) = true := by
    unfold keyish
    simp only [Bool.and_eq_true, Bool.not_eq_true', List.isEmpty_map, List.all_eq_true, List.mem_map]
    refine ⟨?_, ?_⟩
    · cases ks with
      | nil => simp at hl
      | cons _ _ => rfl
    · rintro _ ⟨k, _, rfl⟩
      cases k <;> rfl
  rcases h1 with ⟨⟨o, _, h1⟩, _⟩ | ⟨h1, _⟩
  · rw [tupH_key hk] at h1
    exact ⟨b, rfl, h1⟩
  · unfold shortK at h1
    rw [hk, List.length_map, decide_eq_true hl.2] at h1
    cases h1
end

/-! ### empty dicts are of either kind -/
open PyProof.Rows
section
variable {P : Program} {w : World} {H : Hp} {h : Heap} {a : Addr}
theorem dt_nil (ok : HOk P w H h) (e : Rd H a (.dK [])) : (a == sysModules) = false ∧ h.DictOfH (tupleKind (mixKind P w)) a [] := by
  obtain ⟨_, hd, vs, rel, o, es, ep, h1, h2, h3, h4, h5, h6⟩ := dk_rd ok e
  cases rel
  refine ⟨hd, o, es, ep, h1, h2, h3, ?_, fun x hx => (by cases hx), List.nodup_nil⟩
  cases h5' : es.toList with
  | nil => rfl
  | cons x xs =>
    rw [h5'] at h5
    cases h5
end
/-- what the dict at a holds at y, the empty dict asked for any key -/
def DGx (H : Hp) (a : Addr) (y : V) (r : Option V) : Prop := DGet H a y r ∨ ∃ (ks : List Key) (b : Addr), Rd H a (.dK []) ∧ y = .ref b ∧ H b = some (.tup (ks.map kV)) ∧ r = none
section
variable {X : Cx} {pins : List (Addr × Obj)} {σ : L2.St} {H : Hp} {s : Shared} {a : Addr} {y v d : V} {u r : Value} {o : Option V} {A : Around} {E : Value → Shared → Prop}
theorem x_getItem {Q : Value → Shared → Prop} (hu : A.units + 1 < cLine) (I : Inv X pins σ H s) (g : DGx H a y (some v)) (ry : RelV y u) (h : ∀ w' s', Inv X pins σ H s' → RelV v w' → Q w' s') : wpAny (model X.prog X.w) A (getItem (.ref a) u) Q E s := by
  rcases g with g | ⟨_, _, _, _, _, l⟩
  · exact d_getItem hu I g ry h
  · cases l
theorem x_in {Q : Value → Shared → Prop} (hu : A.units + 1 < cLine) (I : Inv X pins σ H s) (g : DGx H a y o) (ry : RelV y u) (h : ∀ s', Inv X pins σ H s' → Q (.bool o.isSome) s') : wpAny (model X.prog X.w) A (compareOp .In u (.ref a)) Q E s := by
  rcases g with g | ⟨ks, b, e, ey, eb, rfl⟩
  · exact d_in hu I g ry h
  · subst ey
    cases (show u = Value.ref b from ry)
    obtain ⟨hd, dd⟩ := dt_nil I.hok e
    exact wpAny_in_heap (tupleKind_room_in1 hu) (key_of I.hok eb) hd dd (h _ (I.tok _))
theorem x_notIn {Q : Value → Shared → Prop} (hu : A.units + 1 < cLine) (I : Inv X pins σ H s) (g : DGx H a y o) (ry : RelV y u) (h : ∀ s', Inv X pins σ H s' → Q (.bool (!o.isSome)) s') : wpAny (model X.prog X.w) A (compareOp .NotIn u (.ref a)) Q E s := by
  rcases g with g | ⟨ks, b, e, ey, eb, rfl⟩
  · exact d_notIn hu I g ry h
  · subst ey
    cases (show u = Value.ref b from ry)
    obtain ⟨hd, dd⟩ := dt_nil I.hok e
    exact wpAny_notIn_heap (tupleKind_room_in1 hu) (key_of I.hok eb) hd dd (h _ (I.tok _))
theorem x_get1 {Q : Value → Shared → Prop} (hu : A.units + 1 < cLine) (I : Inv X pins σ H s) (g : DGx H a y o) (ry : RelV y u) (h : ∀ w' s', Inv X pins σ H s' → RelV (o.getD .non) w' → Q w' s') : wpAny (model X.prog X.w) A (call (.builtin "dict.get") [.ref a, u]) Q E s := by
  rcases g with g | ⟨ks, b, e, ey, eb, rfl⟩
  · exact d_get1 hu I g ry h
  · subst ey
    cases (show u = Value.ref b from ry)
    obtain ⟨hd, dd⟩ := dt_nil I.hok e
    exact call_meetsIn PySem.F.slot_dict_get dd.typeIs PySem.F.entry_dict_get (PySem.F.args_dict_get_2 _ _) (meetsH_dict_get (tupleKind (mixKind X.prog X.w)) a b hd) ⟨tupleKind_room_in1 hu, ks, [], key_of I.hok eb, dd, h _ _ (I.tok _) rfl⟩
theorem x_get2 {Q : Value → Shared → Prop} (hu : A.units + 1 < cLine) (I : Inv X pins σ H s) (g : DGx H a y o) (ry : RelV y u) (rd : RelV d r) (h : ∀ w' s', Inv X pins σ H s' → RelV (o.getD d) w' → Q w' s') : wpAny (model X.prog X.w) A (call (.builtin "dict.get") [.ref a, u, r]) Q E s := by
  rcases g with g | ⟨ks, b, e, ey, eb, rfl⟩
  · exact d_get2 hu I g ry rd h
  · subst ey
    cases (show u = Value.ref b from ry)
    obtain ⟨hd, dd⟩ := dt_nil I.hok e
    exact call_meetsIn PySem.F.slot_dict_get dd.typeIs PySem.F.entry_dict_get (PySem.F.args_dict_get_3 _ _ _) (meetsH_dict_get_default (tupleKind (mixKind X.prog X.w)) a b hd r) ⟨tupleKind_room_in1 hu, ks, [], key_of I.hok eb, dd, h _ _ (I.tok _) rd⟩
theorem DGx.kind {o : Option V} (I : Inv X pins σ H s) (g : DGx H a y o) : s.TypeIs (.ref a) "dict" := by
  rcases g with g | ⟨ks, b, e, ey, eb, rfl⟩
  · exact dict_typeIs I g
  · exact (dt_nil I.hok e).2.typeIs
/-- d[y] = v -/
def DPx (H : Hp) (a : Addr) (y v : V) (H' : Hp) : Prop := DPut H a y v H' ∨ ∃ (ks : List Key) (b : Addr), H a = some (.dK []) ∧ y = .ref b ∧ H b = some (.tup (ks.map kV)) ∧ H' = upd H a (.dT [(ks, v)])
theorem x_setItem {H' : Hp} {Q : Unit → Shared → Prop} (hu : A.units + 1 < cLine) (I : Inv X pins σ H s) (g : DPx H a y v H') (ry : RelV y u) (rv : RelV v r) (h : ∀ s', Inv X pins σ H' s' → Q () s') : wpAny (model X.prog X.w) A (setItem (.ref a) u r) Q E s := by
  rcases g with g | ⟨ks, b, e, ey, eb, rfl⟩
  · exact d_setItem hu I g ry rv h
  · have hb : b ≠ a := ne_of eb e (fun z => nomatch z)
    obtain ⟨hd, o, es, ep, h1, h2, h3, h4, _⟩ := dt_nil I.hok (.inl e)
    have I2 : Inv X pins σ (upd H a (.dT [])) s := by
      have := I.write (x := a) (e := a) (o := .dT []) (h' := s.heap) (t' := s.toks) (by rw [e]; trivial) (.inl rfl) (fun _ _ _ q => q) ⟨o, h1⟩ ⟨Nat.zero_le _, hd, [], .nil, o, es, ep, h1, h2, h3, h4, List.nodup_nil⟩
      exact this
    have g2 : DPut (upd H a (.dT [])) a y v (upd (upd H a (.dT [])) a (.dT (putK [] ks v))) := .inr ⟨[], ks, b, upd_same, ey, by rw [upd_ne hb]; exact eb, by rw [sizeLine_eq]; decide, rfl⟩
    refine d_setItem hu I2 g2 ry rv fun s' I' => h s' ?_
    have : upd (upd H a (.dT [])) a (.dT (putK [] ks v)) = upd H a (.dT [(ks, v)]) := by
      funext c
      by_cases hc : c = a
      · subst hc; rw [upd_same, upd_same]; rfl
      · rw [upd_ne hc, upd_ne hc, upd_ne hc]
    rw [this] at I'
    exact I'
/-! ### rules -/
theorem in_dx (hu : X.A.units + 1 < cLine) : OpR X (compareOp .In) (fun x y H Q => ∃ a o, y = .ref a ∧ DGx H a x o ∧ Q (.bl o.isSome) H) := by
  intro pins s σ H x y v u Q I rx ry q
  obtain ⟨a, o, rfl, g, q⟩ := q
  obtain rfl : u = Value.ref a := ry
  exact x_in hu I g rx fun s' I' => ⟨.bl o.isSome, H, I', rfl, q⟩
theorem notin_dx (hu : X.A.units + 1 < cLine) : OpR X (compareOp .NotIn) (fun x y H Q => ∃ a o, y = .ref a ∧ DGx H a x o ∧ Q (.bl (!o.isSome)) H) := by
  intro pins s σ H x y v u Q I rx ry q
  obtain ⟨a, o, rfl, g, q⟩ := q
  obtain rfl : u = Value.ref a := ry
  exact x_notIn hu I g rx fun s' I' => ⟨.bl (!o.isSome), H, I', rfl, q⟩
theorem ix_dx (hu : X.A.units + 1 < cLine) : IxR X (fun x y H Q => ∃ a w, x = .ref a ∧ DGx H a y (some w) ∧ Q w H) := by
  intro value slice pins s σ H x y v u Q I rx ry q hs
  obtain ⟨a, w, rfl, g, q⟩ := q
  obtain rfl : v = Value.ref a := rx
  have hT := g.kind I
  unfold subscriptTail
  refine wpAny_bind ?_
  rw [getitemInPython_of_ne hT.not_modules]
  refine wpAny_bind (wpAny_specialOf hT PySem.F.slot_dict_getitem.lookup ?_)
  have fin : wpAny (model X.prog X.w) X.A (subscripted slice false (.ref a) u) (fun r s₃ => wpAny (model X.prog X.w) X.A (letTemporaryGo value (.ref a) r >>= fun _ => pure r) (EP X pins σ Q) X.xe s₃) X.xe s := by
    rw [hs]
    exact wpAny_operating (wpAny_mono (x_getItem (Q := EP X pins σ Q) (E := X.xe) hu I g ry fun w' s' I' rw' => ⟨w, H, I', rw', q⟩) (fun r s₃ h₃ => wpAny_bind (wpAny_letTemporaryGo (wpAny_pure h₃))) fun _ _ x => x)
  first
    | exact wpAny_pure (wpAny_bind fin)
    | exact wpAny_bind (wpAny_pure (wpAny_bind fin))
    | exact wpAny_bind fin
theorem set_dx (hu : X.A.units + 1 < cLine) : PSet X (fun o i v H Q => ∃ a H', o = .ref a ∧ DPx H a i v H' ∧ Q H') := by
  intro pins s σ H o i v ov iv u Q I ro ri rv h
  obtain ⟨a, H', rfl, g, q⟩ := h
  obtain rfl : ov = Value.ref a := ro
  exact x_setItem hu I g ri rv fun s' I' => ⟨H', I', q⟩
/-- d.get(k), d.get(k, x) -/
theorem get_dx (hu : X.A.units + 1 < cLine) : MtR X "dict.get" (fun x vs H Q => ∃ a o, x = .ref a ∧ ((∃ k, vs = [k] ∧ DGx H a k o ∧ Q (o.getD .non) H) ∨ ∃ k d, vs = [k, d] ∧ DGx H a k o ∧ Q (o.getD d) H)) := by
  intro pins s σ H x xs v us Q I rx rs h
  obtain ⟨a, o, rfl, h⟩ := h
  obtain rfl : v = Value.ref a := rx
  rcases h with ⟨k, rfl, g, q⟩ | ⟨k, d, rfl, g, q⟩
  · obtain ⟨u, rfl, rk⟩ := vals1 rs
    exact x_get1 hu I g rk fun w' s' I' rw' => ⟨_, H, I', rw', q⟩
  · obtain ⟨u, u2, rfl, rk, rd⟩ := vals2 rs
    exact x_get2 hu I g rk rd fun w' s' I' rw' => ⟨_, H, I', rw', q⟩
end
end Pf


namespace Pf
open PySem PySem.Spec L2

/-! ## operations upon data -/
/-- an operand: shared, or one's own container -/
inductive Opd (K : PySem.W.Frag) (H : Hp) (U : Addr → Prop) : V → PyData → Prop
  | rep {v : V} {d : PyData} : Rep K H U v d → Opd K H U v d
  | own {p : Addr} {d : PyData} : Cont K H U p d → Opd K H U (.ref p) d
section
variable {K : PySem.W.Frag} {H : Hp} {U : Addr → Prop} {v : V}
theorem Opd.int_inv {i : Int} (h : Opd K H U v (.int i)) : v = .int i := by
  cases h with
  | rep h => exact h.int_inv
  | own h => cases h
theorem Opd.bl_inv {i : Bool} (h : Opd K H U v (.bool i)) : v = .bl i := by
  cases h with
  | rep h => exact h.bl_inv
  | own h => cases h
theorem Opd.str_inv {i : Str} (h : Opd K H U v (.str i)) : v = .str i := by
  cases h with
  | rep h => exact h.str_inv
  | own h => cases h
theorem Opd.non_inv (h : Opd K H U v .none) : v = .non := by
  cases h with
  | rep h => exact h.non_inv
  | own h => cases h
theorem Opd.lst_inv {ds : List PyData} (h : Opd K H U v (.list ds)) : ∃ a xs, v = .ref a ∧ H a = some (.lst xs) ∧ RepAll K H U xs ds := by
  cases h with
  | rep h => obtain ⟨a, xs, rfl, l, r⟩ := h.lst_inv; exact ⟨a, xs, rfl, l.1, r⟩
  | own h => cases h with
    | lst h r => exact ⟨_, _, rfl, h, r⟩
theorem Opd.tup_inv {ds : List PyData} (h : Opd K H U v (.tuple ds)) : ∃ a xs, v = .ref a ∧ TupU K H U a xs ∧ RepAll K H U xs ds := by
  cases h with
  | rep h => exact h.tup_inv
  | own h => cases h
theorem Opd.key_inv {k : Key} (h : Opd K H U v (keyD k)) : v = kV k := by
  cases k with
  | inl i => exact h.int_inv
  | inr x => exact h.str_inv
theorem Opd.tkey_inv {ks : List Key} (h : Opd K H U v (keysD ks)) (hl : 0 < ks.length ∧ ks.length ≤ 3) : ∃ b, v = .ref b ∧ H b = some (.tup (ks.map kV)) := by
  cases h with
  | rep h => exact h.tkey_inv hl
  | own h => generalize hd : keysD ks = d at h; cases h <;> cases hd
/-- the dict at a, as data -/
theorem Opd.dic_inv {es : Es} (h : Opd K H U v (.dict es)) (hs : ∀ ds, es ≠ [(.none, .list ds)]) : ∃ a, v = .ref a ∧ ((∃ (ks : List Key) (vs : List V) (ds : List PyData), ks.length = vs.length ∧ Rd H a (.dK (ks.zip vs)) ∧ RepAll K H U vs ds ∧ es = (ks.map keyD).zip ds) ∨
    ∃ (ks : List (List Key)) (vs : List V) (ds : List PyData), (ks.length = vs.length ∧ TK ks) ∧ Rd H a (.dT (ks.zip vs)) ∧ RepAll K H U vs ds ∧ es = (ks.map keysD).zip ds) := by
  generalize hd : PyData.dict es = d at h
  cases h with
  | rep h =>
    cases h with
    | dK l h r => cases hd; exact ⟨_, rfl, .inl ⟨_, _, _, l, h.rd, r, rfl⟩⟩
    | dT l h r => cases hd; exact ⟨_, rfl, .inr ⟨_, _, _, l, h.rd, r, rfl⟩⟩
    | scr h => cases hd; exact (hs _ rfl).elim
    | _ => cases hd
  | own h =>
    cases h with
    | dK l h r => cases hd; exact ⟨_, rfl, .inl ⟨_, _, _, l, .inl h, r, rfl⟩⟩
    | dT l h r => cases hd; exact ⟨_, rfl, .inr ⟨_, _, _, l, .inl h, r, rfl⟩⟩
    | _ => cases hd
theorem ok_scr {es : Es} {k : PyData} (e : okKey es k = true) : ∀ ds, es ≠ [(.none, .list ds)] := fun ds h => by
  subst h
  simp [okKey, keyOf, tkOf] at e
theorem Opd.dget {w : V} {es : Es} {k : PyData} (h : Opd K H U v (.dict es)) (hk : Opd K H U w k) (e : okKey es k = true) : ∃ a r, v = .ref a ∧ DGx H a w r ∧ RelD K H U r (getE es k) := by
  obtain ⟨a, rfl, hh⟩ := h.dic_inv (ok_scr e)
  rcases hh with ⟨ks, vs, ds, l, rd, r, rfl⟩ | ⟨ks, vs, ds, ⟨l, hn⟩, rd, r, rfl⟩
  · cases hko : keyOf k with
    | some kk =>
      obtain rfl := keyOf_some hko
      exact ⟨a, _, rfl, .inl (.inl ⟨_, kk, rd, hk.key_inv, rfl⟩), getE_rel (fun j => keq_K j kk) l r⟩
    | none =>
      cases ks with
      | nil =>
        cases ht : tkOf k with
        | none => simp [okKey, hko, ht] at e
        | some kk =>
          obtain ⟨rfl, hl⟩ := tkOf_some ht
          obtain ⟨b, rfl, hb⟩ := hk.tkey_inv hl
          exact ⟨a, none, rfl, .inr ⟨kk, b, rd, rfl, hb, rfl⟩, True.intro⟩
      | cons k0 ks =>
        cases r with
        | nil => simp at l
        | cons r0 r => simp [okKey, keyOf_D, hko, tkOf_K] at e
  · cases ks with
    | nil => exact (hn.1 rfl).elim
    | cons k0 ks =>
      have e' : (tkOf k).isSome = true := by
        cases r with
        | nil => simp at l
        | cons r0 r =>
          simp only [okKey, List.map_cons, List.zip_cons_cons, keyOf_T] at e
          simp only [Option.isSome_none, Bool.false_and, Bool.false_or, Bool.and_eq_true] at e
          exact e.2
      obtain ⟨kk, ht⟩ := Option.isSome_iff_exists.mp e'
      obtain ⟨rfl, hl⟩ := tkOf_some ht
      obtain ⟨b, rfl, hb⟩ := hk.tkey_inv hl
      exact ⟨a, _, rfl, .inl (.inr ⟨_, kk, b, rd, rfl, hb, rfl⟩), getE_rel (fun j => keq_T hl) l r⟩
mutual
theorem Rep.dpl : ∀ {v : V} {d : PyData}, Rep K H U v d → d.plain = true → Dp K H v d
  | _, _, .non, _ => .non
  | _, _, .bl b, _ => .bl b
  | _, _, .int b, _ => .int b
  | _, _, .str b, _ => .str b
  | _, _, .lst h r, e => .lst h.sq (RepAll.dpl r (by simpa [PyData.plain] using e))
  | _, _, .tup h r, e => .tup h.sq (RepAll.dpl r (by simpa [PyData.plain] using e))
  | _, _, .dK _ _ _, e => by simp [PyData.plain] at e
  | _, _, .dT _ _ _, e => by simp [PyData.plain] at e
  | _, _, .scr _, e => by simp [PyData.plain, scrD] at e
theorem RepAll.dpl : ∀ {v : List V} {d : List PyData}, RepAll K H U v d → PyData.plainAll d = true → DpAll K H v d
  | _, _, .nil, _ => .nil
  | _, _, .cons h r, e => by
    simp only [PyData.plainAll, Bool.and_eq_true] at e
    exact .cons (Rep.dpl h e.1) (RepAll.dpl r e.2)
end
theorem Opd.dpl {d : PyData} (h : Opd K H U v d) (e : d.plain = true) : Dp K H v d := by
  cases h with
  | rep h => exact h.dpl e
  | own h => cases h with
    | lst h r => exact .lst (SqL.of h) (r.dpl (by simpa [PyData.plain] using e))
    | dK _ _ _ => simp [PyData.plain] at e
    | dT _ _ _ => simp [PyData.plain] at e
end

/-- what an operation gives: a list or tuple is new, other data stand -/
def DNew (K : PySem.W.Frag) (H : Hp) (U : Addr → Prop) (es : Es) (o : HO) : Prop :=
  (∃ (ks : List Key) (vs : List V) (ds : List PyData), o = .dK (ks.zip vs) ∧ ks.length = vs.length ∧ es = (ks.map keyD).zip ds ∧ RepAll K H U vs ds) ∨
  ∃ (ks : List (List Key)) (vs : List V) (ds : List PyData), o = .dT (ks.zip vs) ∧ (ks.length = vs.length ∧ TK ks) ∧ es = (ks.map keysD).zip ds ∧ RepAll K H U vs ds
def NewV (K : PySem.W.Frag) (H : Hp) (U : Addr → Prop) : PyData → VK → Prop
  | .dict es, Q => ∀ o p, DNew K H U es o → H p = none → Q (.ref p) (upd H p o)
  | .list ds, Q => ∀ vs p, RepAll K H U vs ds → H p = none → Q (.ref p) (upd H p (.lst vs))
  | .tuple ds, Q => (∀ vs p o, RepAll K H U vs ds → H p = none → o.dict = none → Q (.ref p) (upd H p (tupH o vs))) ∧ ∀ v, Rep K H U v (.tuple ds) → Q v H
  | d, Q => ∀ v, Rep K H U v d → Q v H

/-! ### two operands -/
def mulOk (a b : Int) : Bool := decide (a.natAbs < 2 ^ 64) || decide (b.natAbs < 2 ^ 64) || decide (a.natAbs.log2 + b.natAbs.log2 < 1000000)
def addD : PyData → PyData → Option PyData
  | .int a, .int b => some (.int (a + b))
  | .str a, .str b => if a.length + b.length ≤ sizeLine then some (.str (a ++ b)) else none
  | .list a, .list b => if a.length + b.length ≤ sizeLine then some (.list (a ++ b)) else none
  | .tuple a, .tuple b => if a.length + b.length ≤ sizeLine then some (.tuple (a ++ b)) else none
  | _, _ => none
def subD : PyData → PyData → Option PyData
  | .int a, .int b => some (.int (a - b))
  | _, _ => none
def flatD : PyData → Bool
  | .none => true
  | .bool _ => true
  | .int _ => true
  | .str _ => true
  | _ => false
theorem flat_rep {K : PySem.W.Frag} {H : Hp} {U : Addr → Prop} : ∀ {vs : List V} {ds : List PyData}, RepAll K H U vs ds → ds.all flatD = true → vs.all flatV = true
  | _, _, .nil, _ => rfl
  | _, _, .cons r t, h => by
    simp only [List.all_cons, Bool.and_eq_true] at h ⊢
    refine ⟨?_, flat_rep t h.2⟩
    cases r <;> first | rfl | simp [flatD, scrD] at h
def mulD : PyData → PyData → Option PyData
  | .int a, .int b => if mulOk a b then some (.int (a * b)) else none
  | .list a, .int b => if -(2 ^ 63) ≤ b ∧ b < 2 ^ 63 ∧ a.length * b.toNat ≤ sizeLine then some (.list (List.replicate b.toNat a).flatten) else none
  | .tuple a, .int b => if a ≠ [] ∧ a.all flatD = true ∧ 2 ≤ b ∧ b ≤ 1000 ∧ a.length ≤ 1000 then some (.tuple (List.replicate b.toNat a).flatten) else none
  | _, _ => none
def divD : PyData → PyData → Option PyData
  | .int a, .int b => if b ≠ 0 ∧ b.natAbs.log2 < 9000 then some (.int (a.fdiv b)) else none
  | _, _ => none
def modD : PyData → PyData → Option PyData
  | .int a, .int b => if b ≠ 0 then some (.int (a.fmod b)) else none
  | _, _ => none
def powD : PyData → PyData → Option PyData
  | .int a, .int b => if 0 ≤ b ∧ b ≤ 1000000 ∧ a.natAbs < 2 ^ 64 then some (.int (a ^ b.toNat)) else none
  | _, _ => none
def binD : Operator → PyData → PyData → Option PyData
  | .Add => addD
  | .Sub => subD
  | .Mult => mulD
  | .FloorDiv => divD
  | .Mod => modD
  | .Pow => powD
  | _ => fun _ _ => none

theorem RepAll.rep {K : PySem.W.Frag} {H : Hp} {U : Addr → Prop} {vs : List V} {ds : List PyData} (r : RepAll K H U vs ds) : ∀ n : Nat, RepAll K H U (List.replicate n vs).flatten (List.replicate n ds).flatten
  | 0 => .nil
  | n + 1 => by
    rw [List.replicate_succ, List.replicate_succ, List.flatten_cons, List.flatten_cons]
    exact r.append (RepAll.rep r n)

def R2D (K : PySem.W.Frag) (f : PyData → PyData → Option PyData) : R2 := fun x y H Q => ∃ U a b d, Opd K H U x a ∧ Opd K H U y b ∧ f a b = some d ∧ NewV K H U d Q
section
variable {X : Cx}
theorem OpR.mono {f : Value → Value → Sem Value} {r r' : R2} (h : OpR X f r) (i : ∀ x y H Q, r' x y H Q → r x y H Q) : OpR X f r' :=
  fun pins s σ H x y v u Q I rx ry q => h pins s σ H x y v u Q I rx ry (i _ _ _ _ q)
theorem ne_nil_of {K : PySem.W.Frag} {H : Hp} {U : Addr → Prop} {vs : List V} {ds : List PyData} (r : RepAll K H U vs ds) (h : ds ≠ []) : vs ≠ [] := fun e => h (by
  have := r.length
  rw [e] at this
  exact List.eq_nil_of_length_eq_zero this.symm)
theorem nil_of {K : PySem.W.Frag} {H : Hp} {U : Addr → Prop} {vs : List V} {ds : List PyData} (r : RepAll K H U vs ds) (h : vs = []) : ds = [] := by
  have := r.length
  rw [h] at this
  exact List.eq_nil_of_length_eq_zero this.symm
theorem nil_of' {K : PySem.W.Frag} {H : Hp} {U : Addr → Prop} {vs : List V} {ds : List PyData} (r : RepAll K H U vs ds) (h : ds = []) : vs = [] := by
  have := r.length
  rw [h] at this
  exact List.eq_nil_of_length_eq_zero this
/-- a tuple is laid -/
theorem lay_tup {pins : List (Addr × Obj)} {σ : L2.St} {H : Hp} {s : Shared} {vs : List V} {us : List Value} {Q : VK} {t : Nat} (I : Inv X pins σ H s) (r : Vals vs us) (hz : vs.length ≤ sizeLine) (h : ∀ p o, H p = none → o.dict = none → Q (.ref p) (upd H p (tupH o vs))) :
    EP X pins σ Q (.ref s.heap.objs.size) { s with heap := s.heap.push { cls := .type "tuple", data := .seq us.toArray }, toks := t } := by
  have e0 : (s.heap.push { cls := .type "tuple", data := .seq us.toArray }).get? s.heap.objs.size = some { cls := .type "tuple", data := .seq us.toArray } := Heap.get?_push_size _ rfl
  have ok : ∀ u, u = tupH { cls := .type "tuple", data := .seq us.toArray } vs → ObjOk X.prog X.w (upd H s.heap.objs.size u) (s.heap.push { cls := .type "tuple", data := .seq us.toArray }) s.heap.objs.size u := by
    intro u hu
    unfold tupH at hu
    split at hu
    · subst hu
      exact ⟨hz, us, r, PyProof.Rows.IsTup.new _ _⟩
    · subst hu
      exact ⟨e0, hz, us, r, PyProof.Rows.IsTup.new _ _⟩
  exact ⟨.ref s.heap.objs.size, _, I.laid (t' := t) (fun b u e => Heap.get?_push_of_some _ e) (Nat.le_refl _) (ok _ rfl), rfl, h _ _ (I.hok.fresh (Nat.le_refl _)) rfl⟩
/-- t + u -/
theorem op_catX : OpR X (binaryOp .Add) (fun x y H Q => ∃ a b xs ys, x = .ref a ∧ y = .ref b ∧ SqT X.K H a xs ∧ SqT X.K H b ys ∧ xs.length + ys.length ≤ sizeLine ∧
    (xs = [] → Q (.ref b) H) ∧ (xs ≠ [] → ys = [] → Q (.ref a) H) ∧ (xs ≠ [] → ys ≠ [] → ∀ p o, H p = none → o.dict = none → Q (.ref p) (upd H p (tupH o (xs ++ ys))))) := by
  intro pins s σ H x y v u Q I rx ry h
  obtain ⟨a, b, xs, ys, ex, ey, ga, gb, hz, k0, k1, k2⟩ := h
  subst ex ey
  cases rx
  cases ry
  obtain ⟨us, ru, tu, _⟩ := I.tuple ga
  obtain ⟨ws, rw', tw, _⟩ := I.tuple gb
  by_cases h0 : xs = []
  · subst h0
    cases ru
    exact cat_tup0 tu tw ⟨.ref b, _, I, rfl, k0 rfl⟩
  · have hu : us ≠ [] := fun e => h0 (ru.nil_iff.mp e)
    refine HT.cat_tup tu tw hu (fun e => ⟨.ref a, _, I, rfl, k1 h0 (rw'.nil_iff.mp e)⟩) (fun e => ?_) (by rw [← ru.length, ← rw'.length]; exact hz)
    exact lay_tup (t := s.toks) I (ru.append rw') (by rw [List.length_append]; exact hz) fun p o hp hd => k2 h0 (fun e' => e (rw'.nil_iff.mpr e')) p o hp hd
theorem add_ok : OpR X (binaryOp .Add) (R2D X.K addD) := by
  refine OpR.mono (op_add.or (op_add_str.or (op_cat.or op_catX))) fun x y H Q h => ?_
  obtain ⟨U, a, b, d, ha, hb, e, q⟩ := h
  unfold addD at e
  split at e
  · cases e
    obtain rfl := ha.int_inv
    obtain rfl := hb.int_inv
    exact .inl ⟨_, _, rfl, rfl, q _ (.int _)⟩
  · split at e
    · rename_i hz
      cases e
      obtain rfl := ha.str_inv
      obtain rfl := hb.str_inv
      exact .inr (.inl ⟨_, _, rfl, rfl, hz, q _ (.str _)⟩)
    · cases e
  · split at e
    · rename_i hz
      cases e
      obtain ⟨p, xs, rfl, h1, r1⟩ := ha.lst_inv
      obtain ⟨p', ys, rfl, h2, r2⟩ := hb.lst_inv
      exact .inr (.inr (.inl ⟨p, p', xs, ys, rfl, rfl, h1, h2, by rw [r1.length, r2.length]; exact hz, fun l hl => q _ l (r1.append r2) hl⟩))
    · cases e
  · split at e
    · rename_i hz
      cases e
      obtain ⟨p, xs, rfl, h1, r1⟩ := ha.tup_inv
      obtain ⟨p', ys, rfl, h2, r2⟩ := hb.tup_inv
      refine .inr (.inr (.inr ⟨p, p', xs, ys, rfl, rfl, h1.sq, h2.sq, by rw [r1.length, r2.length]; exact hz, fun e1 => ?_, fun _ e2 => ?_, fun _ _ l o hl hd => q.1 _ l o (r1.append r2) hl hd⟩))
      · have := nil_of r1 e1
        subst this
        exact q.2 _ (.tup h2 (by simpa using r2))
      · have := nil_of r2 e2
        subst this
        exact q.2 _ (.tup h1 (by simpa using r1))
    · cases e
  · cases e
theorem sub_ok : OpR X (binaryOp .Sub) (R2D X.K subD) := by
  refine OpR.mono op_sub fun x y H Q h => ?_
  obtain ⟨U, a, b, d, ha, hb, e, q⟩ := h
  unfold subD at e
  split at e
  · cases e
    obtain rfl := ha.int_inv
    obtain rfl := hb.int_inv
    exact ⟨_, _, rfl, rfl, q _ (.int _)⟩
  · cases e
theorem mul_ok : OpR X (binaryOp .Mult) (R2D X.K mulD) := by
  refine OpR.mono (op_mul.or (op_mulW.or (op_rep.or op_repT))) fun x y H Q h => ?_
  obtain ⟨U, a, b, d, ha, hb, e, q⟩ := h
  unfold mulD at e
  split at e
  · rename_i i j
    split at e
    · rename_i hz
      cases e
      obtain rfl := ha.int_inv
      obtain rfl := hb.int_inv
      unfold mulOk at hz
      simp only [Bool.or_eq_true, decide_eq_true_eq] at hz
      rcases hz with (hz | hz) | hz
      · exact .inl ⟨_, _, rfl, rfl, .inl (by constructor <;> omega), q _ (.int _)⟩
      · exact .inl ⟨_, _, rfl, rfl, .inr (by constructor <;> omega), q _ (.int _)⟩
      · exact .inr (.inl ⟨_, _, rfl, rfl, hz, q _ (.int _)⟩)
    · cases e
  · split at e
    · rename_i hz
      cases e
      obtain ⟨p, xs, rfl, h1, r1⟩ := ha.lst_inv
      obtain rfl := hb.int_inv
      exact .inr (.inr (.inl ⟨p, _, xs, rfl, rfl, h1, hz.1, hz.2.1, by rw [r1.length]; exact hz.2.2, fun l hl => q _ l (r1.rep _) hl⟩))
    · cases e
  · rename_i al bi
    split at e
    · rename_i hz
      cases e
      obtain ⟨p, xs, rfl, h1, r1⟩ := ha.tup_inv
      obtain rfl := hb.int_inv
      have hf := flat_rep r1 hz.2.1
      have hne := ne_nil_of r1 hz.1
      refine .inr (.inr (.inr ⟨p, _, xs, rfl, rfl, h1.sq, hne, hz.2.2.1, hz.2.2.2.1, by rw [r1.length]; exact hz.2.2.2.2, fun l hl => ?_⟩))
      have := q.1 _ l { cls := .none } (r1.rep _) hl rfl
      rw [tupH_key] at this
      · exact this
      · unfold keyish
        rw [Bool.and_eq_true]
        constructor
        · cases xs with
          | nil => exact (hne rfl).elim
          | cons x xs =>
            have hz2 := hz.2.2.1
            obtain ⟨n, hn⟩ : ∃ n, bi.toNat = n + 1 := ⟨bi.toNat - 1, by omega⟩
            rw [hn]
            rfl
        · rw [List.all_eq_true] at hf ⊢
          intro x hx
          obtain ⟨ys, h1, h2⟩ := List.mem_flatten.mp hx
          rw [(List.mem_replicate.mp h1).2] at h2
          exact hf x h2
    · cases e
  · cases e
theorem fdivX : OpR X (binaryOp .FloorDiv) (rI (fun _ j => j ≠ 0 ∧ j.natAbs.log2 < 9000) fun i j => .int (i.fdiv j)) :=
  opI fun _ _ _ _ _ _ _ hc q => PyProof.Rows.floordiv_int hc.1 q (.inl (PyProof.noPylong_of_log2 hc.2))
theorem div_ok : OpR X (binaryOp .FloorDiv) (R2D X.K divD) := by
  refine OpR.mono fdivX fun x y H Q h => ?_
  obtain ⟨U, a, b, d, ha, hb, e, q⟩ := h
  unfold divD at e
  split at e
  · split at e
    · rename_i hz
      cases e
      obtain rfl := ha.int_inv
      obtain rfl := hb.int_inv
      exact ⟨_, _, rfl, rfl, hz, q _ (.int _)⟩
    · cases e
  · cases e
theorem mod_ok : OpR X (binaryOp .Mod) (R2D X.K modD) := by
  refine OpR.mono op_modN fun x y H Q h => ?_
  obtain ⟨U, a, b, d, ha, hb, e, q⟩ := h
  unfold modD at e
  split at e
  · split at e
    · rename_i hz
      cases e
      obtain rfl := ha.int_inv
      obtain rfl := hb.int_inv
      exact ⟨_, _, rfl, rfl, hz, q _ (.int _)⟩
    · cases e
  · cases e
theorem pow_ok : OpR X (binaryOp .Pow) (R2D X.K powD) := by
  refine OpR.mono op_pow fun x y H Q h => ?_
  obtain ⟨U, a, b, d, ha, hb, e, q⟩ := h
  unfold powD at e
  split at e
  · split at e
    · rename_i hz
      cases e
      obtain rfl := ha.int_inv
      obtain rfl := hb.int_inv
      exact ⟨_, _, rfl, rfl, hz, q _ (.int _)⟩
    · cases e
  · cases e
theorem none_ok {f : Value → Value → Sem Value} : OpR X f (R2D X.K fun _ _ => none) := by
  intro pins s σ H x y v u Q I rx ry h
  obtain ⟨U, a, b, d, ha, hb, e, q⟩ := h
  cases e
theorem bin_ok (op : Operator) : OpR X (binaryOp op) (R2D X.K (binD op)) := by
  cases op with
  | Add => exact add_ok
  | Sub => exact sub_ok
  | Mult => exact mul_ok
  | FloorDiv => exact div_ok
  | Mod => exact mod_ok
  | Pow => exact pow_ok
  | _ => exact none_ok
end

/-! ### comparisons -/
def depOk (a b : PyData) : Bool := decide (a.depth ≤ 60) || decide (b.depth ≤ 60)
def isNoneD : PyData → Bool
  | .none => true
  | _ => false
def eqD (a b : PyData) : Option Bool := if a.plain && b.plain && depOk a b then some (PyData.eqv a b) else none
def ltD (a b : PyData) : Option Bool := if PySem.W.alike a b && depOk a b && a.plain && b.plain && !isNoneD a then some (PySem.W.dataLt a b) else none
def inD (a b : PyData) : Option Bool :=
  match b with
  | .list xs => if PyData.plainAll xs && a.plain && (decide (a.depth ≤ 60) || decide (PyData.depthAll xs ≤ 60)) then some (xs.any fun y => PyData.eqv y a) else none
  | .tuple xs => if PyData.plainAll xs && a.plain && (decide (a.depth ≤ 60) || decide (PyData.depthAll xs ≤ 60)) then some (xs.any fun y => PyData.eqv y a) else none
  | .str z => match a with
    | .str x => some (!(Builtin.Str.occurrences z x 0 z.length 1).isEmpty)
    | _ => none
  | .dict es => if okKey es a then some (getE es a).isSome else none
  | _ => none
def isD (a b : PyData) : Option Bool :=
  match b with
  | .none => some (isNoneD a)
  | .bool k => match a with
    | .bool j => some (decide (j = k))
    | _ => none
  | _ => none
def cmpD : CmpOp → PyData → PyData → Option Bool
  | .Eq, a, b => eqD a b
  | .NotEq, a, b => (eqD a b).map (!·)
  | .Lt, a, b => ltD a b
  | .Gt, a, b => (ltD a b).map fun _ => PySem.W.dataLt b a
  | .LtE, a, b => (ltD a b).map fun _ => !PySem.W.dataLt b a
  | .GtE, a, b => (ltD a b).map fun _ => !PySem.W.dataLt a b
  | .In, a, b => inD a b
  | .NotIn, a, b => (inD a b).map (!·)
  | .Is, a, b => isD a b
  | .IsNot, a, b => (isD a b).map (!·)
def CmpR (K : PySem.W.Frag) (op : CmpOp) : R2 := fun x y H Q => ∃ U a b k, Opd K H U x a ∧ Opd K H U y b ∧ cmpD op a b = some k ∧ Q (.bl k) H
section
variable {X : Cx}
theorem dep_room {a b : PyData} {u : Nat} (hu : u + 64 < cLine) (h : depOk a b = true) : u + min a.depth b.depth < cLine := by
  unfold depOk at h
  simp only [Bool.or_eq_true, decide_eq_true_eq] at h
  omega
theorem eq_ok (hu : X.A.units + 64 < cLine) : OpR X (compareOp .Eq) (CmpR X.K .Eq) := by
  intro pins s σ H x y v u Q I rx ry h
  obtain ⟨U, a, b, k, ha, hb, e, q⟩ := h
  simp only [cmpD, eqD] at e
  split at e
  · rename_i hz
    cases e
    simp only [Bool.and_eq_true] at hz
    obtain ⟨as, r1⟩ := Dp.reads I a x v (ha.dpl hz.1.1) rx
    obtain ⟨bs, r2⟩ := Dp.reads I b y u (hb.dpl hz.1.2) ry
    exact SeqAt.eq_plain r1 r2 hz.1.1 hz.1.2 (dep_room hu hz.2) ⟨.bl _, H, I, rfl, q⟩
  · cases e
theorem ne_ok (hu : X.A.units + 64 < cLine) : OpR X (compareOp .NotEq) (CmpR X.K .NotEq) := by
  intro pins s σ H x y v u Q I rx ry h
  obtain ⟨U, a, b, k, ha, hb, e, q⟩ := h
  simp only [cmpD, eqD] at e
  split at e
  · rename_i hz
    cases e
    simp only [Bool.and_eq_true] at hz
    obtain ⟨as, r1⟩ := Dp.reads I a x v (ha.dpl hz.1.1) rx
    obtain ⟨bs, r2⟩ := Dp.reads I b y u (hb.dpl hz.1.2) ry
    exact SeqAt.ne_plain r1 r2 hz.1.1 hz.1.2 (dep_room hu hz.2) ⟨.bl _, H, I, rfl, q⟩
  · cases e
theorem lt_parts {a b : PyData} {k : Bool} (e : ltD a b = some k) : PySem.W.alike a b = true ∧ depOk a b = true ∧ a.plain = true ∧ b.plain = true ∧ a ≠ .none ∧ k = PySem.W.dataLt a b := by
  unfold ltD at e
  split at e
  · rename_i hz
    cases e
    simp only [Bool.and_eq_true] at hz
    refine ⟨hz.1.1.1.1, hz.1.1.1.2, hz.1.1.2, hz.1.2, fun z => ?_, rfl⟩
    subst z
    simp [isNoneD] at hz
  · cases e
theorem ord_ok (hu : X.A.units + 64 < cLine) : OpR X (compareOp .Lt) (CmpR X.K .Lt) ∧ OpR X (compareOp .Gt) (CmpR X.K .Gt) ∧ OpR X (compareOp .LtE) (CmpR X.K .LtE) ∧ OpR X (compareOp .GtE) (CmpR X.K .GtE) := by
  refine ⟨?_, ?_, ?_, ?_⟩
  all_goals
    intro pins s σ H x y v u Q I rx ry h
    obtain ⟨U, a, b, k, ha, hb, e, q⟩ := h
    simp only [cmpD] at e
    try
      cases e0 : ltD a b with
      | none => rw [e0] at e; cases e
      | some k0 =>
        rw [e0] at e
        cases e
        obtain ⟨h1, h2, h3, h4, h5, h6⟩ := lt_parts e0
        obtain ⟨as, r1⟩ := Dp.reads I a x v (ha.dpl h3) rx
        obtain ⟨bs, r2⟩ := Dp.reads I b y u (hb.dpl h4) ry
        first
          | exact PySem.W.gt_data r1 r2 h1 h5 (dep_room hu h2) ⟨.bl _, H, I, rfl, q⟩
          | exact PySem.W.le_data r1 r2 h1 h5 (dep_room hu h2) ⟨.bl _, H, I, rfl, q⟩
          | exact PySem.W.ge_data r1 r2 h1 h5 (dep_room hu h2) ⟨.bl _, H, I, rfl, q⟩
          | (rw [h6] at q; exact PySem.W.lt_data r1 r2 h1 h5 (dep_room hu h2) ⟨.bl _, H, I, rfl, q⟩)
theorem in_room {a : PyData} {xs : List PyData} {u : Nat} (hu : u + 64 < cLine) (h : (decide (a.depth ≤ 60) || decide (PyData.depthAll xs ≤ 60)) = true) : u + 1 + min (PyData.depthAll xs) a.depth < cLine := by
  simp only [Bool.or_eq_true, decide_eq_true_eq] at h
  omega
theorem in_ok (hu : X.A.units + 64 < cLine) : OpR X (compareOp .In) (CmpR X.K .In) := by
  intro pins s σ H x y v u Q I rx ry h
  obtain ⟨U, a, b, k, ha, hb, e, q⟩ := h
  simp only [cmpD, inD] at e
  split at e
  · split at e
    · rename_i xs hz
      cases e
      simp only [Bool.and_eq_true] at hz
      obtain ⟨as, r1⟩ := Dp.reads I a x v (ha.dpl hz.1.2) rx
      obtain ⟨bs, r2⟩ := Dp.reads I _ y u (hb.dpl (by simp only [PyData.plain]; exact hz.1.1)) ry
      exact SeqAt.in_list_data r2 r1 hz.1.1 hz.1.2 (in_room hu hz.2) ⟨.bl _, H, I, rfl, q⟩
    · cases e
  · split at e
    · rename_i xs hz
      cases e
      simp only [Bool.and_eq_true] at hz
      obtain ⟨as, r1⟩ := Dp.reads I a x v (ha.dpl hz.1.2) rx
      obtain ⟨bs, r2⟩ := Dp.reads I _ y u (hb.dpl (by simp only [PyData.plain]; exact hz.1.1)) ry
      exact SeqAt.in_tuple_data r2 r1 hz.1.1 hz.1.2 (in_room hu hz.2) ⟨.bl _, H, I, rfl, q⟩
    · cases e
  · split at e
    · cases e
      obtain rfl := ha.str_inv
      obtain rfl := hb.str_inv
      exact op_in_str pins s σ H _ _ v u Q I rx ry ⟨_, _, rfl, rfl, q⟩
    · cases e
  · split at e
    · rename_i hk
      cases e
      obtain ⟨p, r, rfl, g, rel⟩ := hb.dget ha hk
      refine in_dx (by omega) pins s σ H _ _ v u Q I rx ry ⟨p, r, rfl, g, ?_⟩
      rw [rel.isSome]
      exact q
    · cases e
  · cases e
theorem notin_ok (hu : X.A.units + 64 < cLine) : OpR X (compareOp .NotIn) (CmpR X.K .NotIn) := by
  intro pins s σ H x y v u Q I rx ry h
  obtain ⟨U, a, b, k, ha, hb, e, q⟩ := h
  simp only [cmpD, inD] at e
  split at e
  · split at e
    · rename_i xs hz
      cases e
      simp only [Bool.and_eq_true] at hz
      obtain ⟨as, r1⟩ := Dp.reads I a x v (ha.dpl hz.1.2) rx
      obtain ⟨bs, r2⟩ := Dp.reads I _ y u (hb.dpl (by simp only [PyData.plain]; exact hz.1.1)) ry
      exact SeqAt.notIn_list_data r2 r1 hz.1.1 hz.1.2 (in_room hu hz.2) ⟨.bl _, H, I, rfl, q⟩
    · cases e
  · split at e
    · rename_i xs hz
      cases e
      simp only [Bool.and_eq_true] at hz
      obtain ⟨as, r1⟩ := Dp.reads I a x v (ha.dpl hz.1.2) rx
      obtain ⟨bs, r2⟩ := Dp.reads I _ y u (hb.dpl (by simp only [PyData.plain]; exact hz.1.1)) ry
      exact SeqAt.notIn_tuple_data r2 r1 hz.1.1 hz.1.2 (in_room hu hz.2) ⟨.bl _, H, I, rfl, q⟩
    · cases e
  · split at e
    · cases e
      obtain rfl := ha.str_inv
      obtain rfl := hb.str_inv
      exact op_notIn_str pins s σ H _ _ v u Q I rx ry ⟨_, _, rfl, rfl, q⟩
    · cases e
  · split at e
    · rename_i hk
      cases e
      obtain ⟨p, r, rfl, g, rel⟩ := hb.dget ha hk
      refine notin_dx (by omega) pins s σ H _ _ v u Q I rx ry ⟨p, r, rfl, g, ?_⟩
      rw [rel.isSome]
      exact q
    · cases e
  · cases e
theorem Opd.isN {K : PySem.W.Frag} {H : Hp} {U : Addr → Prop} {v : V} {a : PyData} (h : Opd K H U v a) : decide (v = .non) = isNoneD a := by
  cases h with
  | rep h => cases h <;> rfl
  | own h => cases h <;> rfl
theorem is_ok : OpR X (compareOp .Is) (CmpR X.K .Is) := by
  refine OpR.mono (op_isN.or op_is_bl) fun x y H Q h => ?_
  obtain ⟨U, a, b, k, ha, hb, e, q⟩ := h
  simp only [cmpD, isD] at e
  split at e
  · cases e
    obtain rfl := hb.non_inv
    exact .inl ⟨rfl, by rw [ha.isN]; exact q⟩
  · split at e
    · cases e
      obtain rfl := ha.bl_inv
      obtain rfl := hb.bl_inv
      exact .inr ⟨_, _, rfl, rfl, q⟩
    · cases e
  · cases e
theorem isnot_ok : OpR X (compareOp .IsNot) (CmpR X.K .IsNot) := by
  refine OpR.mono (op_notN.or op_isnot_bl) fun x y H Q h => ?_
  obtain ⟨U, a, b, k, ha, hb, e, q⟩ := h
  simp only [cmpD, isD] at e
  split at e
  · cases e
    obtain rfl := hb.non_inv
    exact .inl ⟨rfl, by rw [ha.isN]; exact q⟩
  · split at e
    · cases e
      obtain rfl := ha.bl_inv
      obtain rfl := hb.bl_inv
      exact .inr ⟨_, _, rfl, rfl, q⟩
    · cases e
  · cases e
theorem cmp_ok (hu : X.A.units + 64 < cLine) (op : CmpOp) : OpR X (compareOp op) (CmpR X.K op) := by
  cases op with
  | Eq => exact eq_ok hu
  | NotEq => exact ne_ok hu
  | Lt => exact (ord_ok hu).1
  | Gt => exact (ord_ok hu).2.1
  | LtE => exact (ord_ok hu).2.2.1
  | GtE => exact (ord_ok hu).2.2.2
  | In => exact in_ok hu
  | NotIn => exact notin_ok hu
  | Is => exact is_ok
  | IsNot => exact isnot_ok
end
end Pf


namespace Pf
open PySem PySem.Spec L2

/-! ## what a text computes, upon data -/
inductive Src where
  | pos (i : Nat) | kw (i : Nat) | dfl (i : Nat)
structure Pat where
  n : Nat
  ks : List Str
  src : List Src
structure FE where
  name : Str
  ps : List Str
  io : List Bool
  pats : List Pat
  dfl : List PyData
abbrev Sem3 := Str → List PyData → Option (Bool × PyData × List PyData)
structure Ctx where
  N : List Str
  io : List Nat
  T : List FE
  G : List (Str × PyData)
  Γ : Sem3
  w : Nat
structure Bk where
  sc : Scope
  loc : Str → Bool
inductive Opn where
  | slot (i : Nat) | val (d : PyData)
inductive Out where
  | nx (ρ : En) | rt (o : Opn) (b : Bool) (ρ : En) | bk (ρ : En) | ct (ρ : En)
structure Fns where
  o : Bk → Expr → En → Option (Opn × Bool × En)
  t : Bk → Expr → En → Option (Bool × En)
  s : Bk → Stmt → En → Option Out

def visB (sc : Scope) (x : Str) : Bool :=
  (match sc.names.lookup x with | some .local => true | some .cell => true | some .free => true | _ => false) && !(x == ("__debug__" : Str)) && !(x == ("__classdict__" : Str))
def glB (sc : Scope) (x : Str) : Bool := (sc.names.lookup x == some .globalImplicit) && !(x == ("__debug__" : Str)) && !(x == ("__name__" : Str))
def ixOf (x : Str) : List Str → Option Nat
  | [] => none
  | y :: r => if y = x then some 0 else (ixOf x r).map (· + 1)
def constD : Const → Option PyData
  | .none => some .none
  | .bool b => some (.bool b)
  | .int i => some (.int i)
  | .str s => some (.str s)
  | _ => none
def star : Expr → Bool
  | .Starred _ _ => true
  | _ => false
def rdO (ρ : En) : Opn → Option PyData
  | .val d => some d
  | .slot i => match ρ[i]? with
    | some (some (_, d)) => some d
    | _ => none
def rdOs (ρ : En) : List Opn → Option (List PyData)
  | [] => some []
  | o :: os => (rdO ρ o).bind fun d => (rdOs ρ os).bind fun ds => some (d :: ds)
def newB : PyData → Bool
  | .list _ => true
  | .dict _ => true
  | _ => false
/-- a new value -/
def resD (ρ : En) (d : PyData) : Opn × Bool × En := (.val d, newB d, ρ)
def oName (C : Ctx) (B : Bk) (x : Str) (ρ : En) : Option (Opn × Bool × En) :=
  if visB B.sc x then (ixOf x C.N).bind fun i => match ρ[i]? with
    | some (some (true, _)) => some (.slot i, false, ρ)
    | some (some (false, d)) => some (.val d, false, ρ)
    | _ => none
  else if glB B.sc x then (C.G.lookup x).map fun d => (.val d, false, ρ)
  else none
/-- as a value: what was one's own is shared -/
def toV (C : Ctx) (r : Opn × Bool × En) : Option (Bool × PyData × En) :=
  match r.1 with
  | .val d => some (r.2.1, d, r.2.2)
  | .slot i => if C.io.contains i then none else match r.2.2[i]? with
    | some (some (_, d)) => some (false, d, frz r.2.2 i)
    | _ => none
def valE (C : Ctx) (F : Fns) (B : Bk) (e : Expr) (ρ : En) : Option (Bool × PyData × En) := (F.o B e ρ).bind (toV C)
/-- several values, from the left -/
def valEs (C : Ctx) (F : Fns) (B : Bk) : List Expr → En → Option (List PyData × En)
  | [], ρ => some ([], ρ)
  | e :: es, ρ => if star e then none else (valE C F B e ρ).bind fun r => (valEs C F B es r.2.2).bind fun q => some (r.2.1 :: q.1, q.2)
/-- several operands, from the left -/
def opnEs (F : Fns) (B : Bk) : List Expr → En → Option (List Opn × En)
  | [], ρ => some ([], ρ)
  | e :: es, ρ => if star e then none else (F.o B e ρ).bind fun r => (opnEs F B es r.2.2).bind fun q => some (r.1 :: q.1, q.2)
/-! items, slices, truth -/
def idxD : PyData → PyData → Option PyData
  | .list xs, .int i => atI xs i
  | .tuple xs, .int i => atI xs i
  | .str z, .int i => if z.length ≤ sizeLine then (atI z.cps.toList i).map fun c => .str ⟨#[c]⟩ else none
  | .dict es, k => if okKey es k then getE es k else none
  | _, _ => none
def cutP (xs : List PyData) (lo hi : Option Int) : List PyData := (xs.drop (HT.sIx xs.length 0 lo)).take (HT.sIx xs.length xs.length hi - HT.sIx xs.length 0 lo)
def cutD (d : PyData) (lo hi : Option Int) : Option PyData :=
  match d with
  | .list xs => some (.list (cutP xs lo hi))
  | .tuple xs => some (.tuple (cutP xs lo hi))
  | .str z => if z.length ≤ sizeLine then some (.str (cutS z lo hi)) else none
  | .dict [(.none, .list xs)] => some (.list (cutP xs lo hi))
  | _ => none
def partE (F : Fns) (B : Bk) : Option Expr → En → Option (Option Int × En)
  | none, ρ => some (none, ρ)
  | some e, ρ => (F.o B e ρ).bind fun r => match r.1 with
    | .val (.int i) => some (some i, r.2.2)
    | _ => none
def truthD : PyData → Option Bool
  | .none => some false
  | .bool b => some b
  | .int i => some (i != 0)
  | .str z => if z.length ≤ sizeLine then some ((z.length : Int) != 0) else none
  | .list xs => some (!xs.isEmpty)
  | .tuple xs => some (!xs.isEmpty)
  | _ => none
def unD : UnaryOp → PyData → Option PyData
  | .USub, .int i => some (.int (-i))
  | .Not, d => (truthD d).map fun k => .bool (!k)
  | _, _ => none

/-! built-ins of one and more operands -/
inductive Bi where
  | len | abs | int | repr | str | tuple | list | sum | max | min | any | all | dict | sorted
def Bi.name : Bi → Str
  | .len => "len" | .abs => "abs" | .int => "int" | .repr => "repr" | .str => "str" | .tuple => "tuple" | .list => "list" | .sum => "sum" | .max => "max" | .min => "min" | .any => "any" | .all => "all" | .dict => "dict" | .sorted => "sorted"
def bis : List Bi := [.len, .abs, .int, .repr, .str, .tuple, .list, .sum, .max, .min, .any, .all, .dict, .sorted]
def biOf (x : Str) : Option Bi := bis.find? fun b => b.name == x
def lenD : PyData → Option Int
  | .list xs => some xs.length
  | .tuple xs => some xs.length
  | .str z => if z.length ≤ sizeLine then some z.length else none
  | _ => none
def reprOk (d : PyData) : Bool := d.showable && d.plain && decide (d.depth ≤ 60) && decide (d.shown.length ≤ sizeLine)
def lenB : List PyData → Option PyData
  | [d] => (lenD d).map .int
  | _ => none
def absB : List PyData → Option PyData
  | [.int i] => some (.int (if i < 0 then -i else i))
  | _ => none
def intB : List PyData → Option PyData
  | [.int i] => some (.int i)
  | [.bool k] => some (.int (if k then 1 else 0))
  | _ => none
def reprB : List PyData → Option PyData
  | [d] => if reprOk d then some (.str d.shown) else none
  | _ => none
def strB : List PyData → Option PyData
  | [.int i] => if i.natAbs.log2 < 1920 then some (.str (toString i)) else none
  | [.str z] => some (.str z)
  | _ => none
def tupleB : List PyData → Option PyData
  | [.list xs] => some (.tuple xs)
  | [.tuple xs] => some (.tuple xs)
  | _ => none
def notScr : Es → Bool
  | [(.none, _)] => false
  | _ => true
def listB : List PyData → Option PyData
  | [.list xs] => some (.list xs)
  | [.tuple xs] => some (.list xs)
  | [.dict es] => if notScr es then some (.list (es.map (·.1))) else none
  | _ => none
def intsOf : List PyData → Option (List Int)
  | [] => some []
  | .int i :: r => (intsOf r).map (i :: ·)
  | _ => none
def blsOf : List PyData → Option (List Bool)
  | [] => some []
  | .bool i :: r => (blsOf r).map (i :: ·)
  | _ => none
def maxOf (a : Int) (xs : List Int) : Int := xs.foldl (fun m y => if m < y then y else m) a
def minOf (a : Int) (xs : List Int) : Int := xs.foldl (fun m y => if y < m then y else m) a
def sumB : List PyData → Option PyData
  | [.list xs] => (intsOf xs).map fun ns => .int ns.sum
  | _ => none
def maxB : List PyData → Option PyData
  | [.int a, .int b] => some (.int (if b > a then b else a))
  | [.list xs] => match intsOf xs with
    | some (a :: r) => some (.int (maxOf a r))
    | _ => none
  | _ => none
def minB : List PyData → Option PyData
  | [.int a, .int b] => some (.int (if b < a then b else a))
  | [.list xs] => match intsOf xs with
    | some (a :: r) => some (.int (minOf a r))
    | _ => none
  | _ => none
def anyB : List PyData → Option PyData
  | [.list xs] => (blsOf xs).map fun bs => .bool (bs.any id)
  | _ => none
def allB : List PyData → Option PyData
  | [.list xs] => (blsOf xs).map fun bs => .bool (bs.all id)
  | _ => none
/-- pairs of a key (an int, a text) and a value -/
def pairsOf : List PyData → Option Es
  | [] => some []
  | .tuple [k, v] :: r => if (keyOf k).isSome then (pairsOf r).bind fun es => some ((k, v) :: es) else none
  | _ => none
def mergeE (es : Es) (more : Es) : Es := more.foldl (fun acc e => putE acc e.1 e.2) es
def dictB : List PyData → Option PyData
  | [.list xs] => if xs.length ≤ sizeLine then (pairsOf xs).map fun es => .dict (mergeE [] es) else none
  | [.tuple xs] => if xs.length ≤ sizeLine then (pairsOf xs).map fun es => .dict (mergeE [] es) else none
  | _ => none
def tupNE : PyData → Bool
  | .tuple _ => true
  | _ => false
def notTN : PyData → Bool
  | .tuple _ => false
  | .none => false
  | _ => true
def sortOk (xs : List PyData) : Bool := (xs.all fun a => xs.all fun b => PySem.W.alike a b) && (xs.all tupNE || xs.all notTN) && xs.all (fun a => decide (a.depth ≤ 60)) && PyData.plainAll xs && decide (xs.length ≤ sizeLine)
def sortD (xs : List PyData) : List PyData := xs.mergeSort (PySem.W.dataLe false id)
def sortedB : List PyData → Option PyData
  | [.list xs] => if sortOk xs then some (.list (sortD xs)) else none
  | [.dict es] => if notScr es && sortOk (es.map (·.1)) then some (.list (sortD (es.map (·.1)))) else none
  | _ => none
def biD : Bi → List PyData → Option PyData
  | .len => lenB
  | .abs => absB
  | .int => intB
  | .repr => reprB
  | .str => strB
  | .tuple => tupleB
  | .list => listB
  | .sum => sumB
  | .max => maxB
  | .min => minB
  | .any => anyB
  | .all => allB
  | .dict => dictB
  | .sorted => sortedB
/-! methods -/
/-- of one's own list: what it is behind, what the call gives -/
def appM (xs : List PyData) : List PyData → Option (PyData × PyData)
  | [y] => if xs.length < sizeLine then some (.list (xs ++ [y]), .none) else none
  | _ => none
def popM (xs : List PyData) : List PyData → Option (PyData × PyData)
  | [] => (xs[xs.length - 1]?).map fun y => (.list xs.dropLast, y)
  | [.int i] => if -(2 ^ 63) ≤ i ∧ i < 2 ^ 63 then (ixN xs.length i).bind fun k => (xs[k]?).map fun y => (.list (xs.eraseIdx k), y) else none
  | _ => none
def extM (xs : List PyData) : List PyData → Option (PyData × PyData)
  | [.list ys] => if xs.length + ys.length ≤ sizeLine then some (.list (xs ++ ys), .none) else none
  | _ => none
def revM (xs : List PyData) : List PyData → Option (PyData × PyData)
  | [] => some (.list xs.reverse, .none)
  | _ => none
def mutD (m : Str) (d : PyData) (as : List PyData) : Option (PyData × PyData) :=
  match d with
  | .list xs =>
    if m = "append" then appM xs as
    else if m = "pop" then popM xs as
    else if m = "extend" then extM xs as
    else if m = "reverse" then revM xs as
    else none
  | _ => none
def mutNames : List Str := ["append", "pop", "reverse", "extend"]
def strsOf : List PyData → Option (List Str)
  | [] => some []
  | .str x :: r => (strsOf r).map (x :: ·)
  | _ => none
def metD (m : Str) (d : PyData) (as : List PyData) : Option PyData :=
  match d with
  | .str z =>
    if m = "join" then match as with
      | [.list xs] => (strsOf xs).bind fun ys => if (ys.map (·.length)).sum + ys.length * z.length ≤ 16777216 then some (.str (Txt.join z ys)) else none
      | _ => none
    else none
  | _ => none
/-- d.get(..) -/
def dgetM : PyData → List PyData → Option PyData
  | .dict es, [k] => if okKey es k then some ((getE es k).getD .none) else none
  | .dict es, [k, x] => if okKey es k then some ((getE es k).getD x) else none
  | _, _ => none
def isDicB : PyData → Bool
  | .dict es => notScr es
  | _ => false
def notCall : Expr → Bool
  | .Call (.Name _ _) [] [] _ => false
  | _ => true

/-! calls of the text's own defs -/
def pickS {α : Type} (us ws ds : List α) : Src → Option α
  | .pos i => us[i]?
  | .kw i => ws[i]?
  | .dfl i => ds[i]?
def arr {α : Type} (us ws ds : List α) : List Src → Option (List α)
  | [] => some []
  | s :: r => (pickS us ws ds s).bind fun x => (arr us ws ds r).bind fun xs => some (x :: xs)
/-- the written arguments: a container that the def may change stays in its slot -/
def argEs (C : Ctx) (F : Fns) (B : Bk) : List Bool → List Expr → En → Option (List Opn × En)
  | _, [], ρ => some ([], ρ)
  | true :: io, e :: es, ρ => if star e then none else (F.o B e ρ).bind fun r => match r.1 with
    | .slot i => (argEs C F B io es r.2.2).bind fun q => some (.slot i :: q.1, q.2)
    | _ => none
  | false :: io, e :: es, ρ => if star e then none else (valE C F B e ρ).bind fun r => (argEs C F B io es r.2.2).bind fun q => some (.val r.2.1 :: q.1, q.2)
  | [], _ :: _, _ => none
def slotsOf : List Opn → List Nat
  | [] => []
  | .slot i :: r => i :: slotsOf r
  | .val _ :: r => slotsOf r
def nodupB : List Nat → Bool
  | [] => true
  | i :: r => !r.contains i && nodupB r
/-- what the slots hold behind the call -/
def putBack (ρ : En) : List Opn → List PyData → En
  | .slot i :: os, d :: ds => putBack (ρ.set i (some (true, d))) os ds
  | .val _ :: os, _ :: ds => putBack ρ os ds
  | _, _ => ρ
def kwNames : List Keyword → Option (List Str)
  | [] => some []
  | ⟨some x, _, _⟩ :: r => (kwNames r).map (x :: ·)
  | _ => none
def patOf (n : Nat) (ks : List Str) (ps : List Pat) : Option Pat := ps.find? fun p => p.n == n && p.ks == ks
/-- the parameters that come from the written places first: place i is parameter i -/
def posFirst (n : Nat) : Nat → List Src → Bool
  | _, [] => true
  | j, .pos i :: r => decide (i = j) && decide (j < n) && posFirst n (j + 1) r
  | j, _ :: r => decide (n ≤ j) && posFirst n (j + 1) r
def ownAll (os : List Opn) (ρ : En) : Bool := os.all fun o => match o with
  | .slot i => (match ρ[i]? with | some (some (true, _)) => true | _ => false)
  | _ => true
def callU (C : Ctx) (F : Fns) (B : Bk) (e : FE) (args : List Expr) (kws : List Keyword) (ρ : En) : Option (Opn × Bool × En) :=
  (kwNames kws).bind fun ks => (patOf args.length ks e.pats).bind fun p =>
  if posFirst args.length 0 p.src && decide (p.src.length = e.ps.length) && decide (e.io.length = e.ps.length) && decide (p.ks.length = kws.length) && (e.io.drop args.length).all (!·) then
  (argEs C F B e.io args ρ).bind fun q => (valEs C F B (kws.map (·.value)) q.2).bind fun z =>
  (rdOs z.2 q.1).bind fun us => (arr us z.1 e.dfl p.src).bind fun full =>
  if nodupB (slotsOf q.1) && ownAll q.1 z.2 then
  (C.Γ e.name full).bind fun r => if r.2.2.length = full.length then some (.val r.2.1, r.1, putBack z.2 q.1 r.2.2) else none
  else none
  else none

/-! what is walked -/
def intsFrom (lo : Int) : Nat → List PyData
  | 0 => []
  | n + 1 => .int lo :: intsFrom (lo + 1) n
def smallI (i : Int) : Bool := decide (i.natAbs < 2 ^ 62)
def rangeD : List PyData → Option (List PyData)
  | [.int j] => if smallI j then some (intsFrom 0 j.toNat) else none
  | [.int i, .int j] => if smallI i && smallI j then some (intsFrom i (j - i).toNat) else none
  | _ => none
def charsD (z : Str) : List PyData := z.cps.toList.map fun c => .str ⟨#[c]⟩
def itemsD : PyData → Option (List PyData)
  | .list xs => some xs
  | .tuple xs => some xs
  | .str z => some (charsD z)
  | _ => none
def isRange (sc : Scope) : Expr → Option (List Expr)
  | .Call (.Name f _) args [] _ => if f == "range" && glB sc f then some args else none
  | _ => none
/-- zip(a, b), enumerate(a) -/
def isZE (sc : Scope) (tg e : Expr) : Option (Bool × List Expr) :=
  match tg, e with
  | .Tuple _ _ _, .Call (.Name f _) args [] _ => if f == "zip" && glB sc f then some (true, args) else if f == "enumerate" && glB sc f then some (false, args) else none
  | _, _ => none
def pairD (p : PyData × PyData) : PyData := .tuple [p.1, p.2]
def numD : Nat → List PyData → List PyData
  | _, [] => []
  | n, x :: xs => .tuple [.int (n : Nat), x] :: numD (n + 1) xs
def zeD (b : Bool) (ds : List PyData) : Option (List PyData) :=
  match b, ds with
  | true, [x, y] => (itemsD x).bind fun xs => (itemsD y).bind fun ys => some ((xs.zip ys).map pairD)
  | false, [x] => (itemsD x).map (numD 0)
  | _, _ => none
def iterE (C : Ctx) (F : Fns) (B : Bk) (tg e : Expr) (ρ : En) : Option (List PyData × En) :=
  match isRange B.sc e with
  | some args => (opnEs F B args ρ).bind fun q => (rdOs q.2 q.1).bind fun ds => (rangeD ds).bind fun xs => some (xs, q.2)
  | none => match isZE B.sc tg e with
    | some z => (valEs C F B z.2 ρ).bind fun q => (zeD z.1 q.1).bind fun xs => some (xs, q.2)
    | none => (valE C F B e ρ).bind fun r => (itemsD r.2.1).bind fun xs => some (xs, r.2.2)

/-! targets -/
def tgsD (C : Ctx) (B : Bk) : List Expr → List PyData → En → Option En
  | [], [], ρ => some ρ
  | .Name x _ :: es, d :: ds, ρ => if B.loc x then (ixOf x C.N).bind fun i => if C.io.contains i then none else tgsD C B es ds (ρ.set i (some (false, d))) else none
  | _, _, _ => none
def seqD : PyData → Option (List PyData)
  | .tuple xs => some xs
  | .list xs => some xs
  | _ => none
def tgD (C : Ctx) (B : Bk) (e : Expr) (d : PyData) (ρ : En) : Option En :=
  match e with
  | .Name x p => tgsD C B [.Name x p] [d] ρ
  | .Tuple es _ _ => (seqD d).bind fun xs => tgsD C B es xs ρ
  | _ => none
def nmSlots (C : Ctx) : List Expr → List Nat
  | [] => []
  | .Name x _ :: es => (ixOf x C.N).toList ++ nmSlots C es
  | _ :: es => nmSlots C es
def tgSlots (C : Ctx) : Expr → List Nat
  | .Name x p => nmSlots C [.Name x p]
  | .Tuple es _ _ => nmSlots C es
  | _ => []

/-! comprehensions -/
def wipeE (ρ : En) : List Nat → En
  | [] => ρ
  | i :: is => (wipeE ρ is).set i none
def frzs (ρ : En) : List Nat → En
  | [] => ρ
  | i :: is => frz (frzs ρ is) i
/-- the slots is as they were in ρ0 -/
def backE (ρ0 ρ : En) : List Nat → En
  | [] => ρ
  | i :: is => match ρ0[i]? with
    | some w => (backE ρ0 ρ is).set i w
    | none => backE ρ0 ρ is
def notSet : Expr → Bool
  | .Set _ _ _ => false
  | _ => true
def ownOf (N : List Str) (scope : Scope) : List (Str × Nat) :=
  scope.names.filterMap fun p => if p.2 == .local || p.2 == .cell then (ixOf p.1 N).map fun i => (p.1, i) else none
def testsT (F : Fns) (B : Bk) : List Expr → En → Option (Bool × En)
  | [], ρ => some (true, ρ)
  | [e], ρ => F.t B e ρ
  | _, _ => none
def lcG (g : PyData → En → Option En) (t : En → Option (Bool × En)) (v : En → Option (Bool × PyData × En)) (is : List Nat) : List PyData → List PyData → En → Option (List PyData × En)
  | [], acc, ρ => some (acc, ρ)
  | x :: xs, acc, ρ => (g x ρ).bind fun ρ1 => (t ρ1).bind fun k =>
      if k.1 then (v k.2).bind fun r => if acc.length < sizeLine then lcG g t v is xs (acc ++ [r.2.1]) (wipeE r.2.2 is) else none
      else lcG g t v is xs acc (wipeE k.2 is)
abbrev lcLoop (C : Ctx) (F : Fns) (B : Bk) (elt tg : Expr) (ifs : List Expr) (is : List Nat) : List PyData → List PyData → En → Option (List PyData × En) := lcG (tgD C B tg) (testsT F B ifs) (valE C F B elt) is
def blkOf (B : Bk) (scope : Scope) : Bk := ⟨relS scope B.sc, fun x => match scope.names.lookup x with | some .local => true | some .cell => true | _ => false⟩
def lcE (C : Ctx) (F : Fns) (B : Bk) (elt : Expr) (gs : List Comprehension) (scope : Scope) (ρ : En) : Option (List PyData × En) :=
  match gs with
  | [⟨tg, iter, ifs, 0⟩] =>
    let own := ownOf C.N scope
    let is := own.map (·.2)
    if notSet iter && blkC C.N B.sc scope own && (tgSlots C tg).all is.contains && is.all (fun i => !C.io.contains i) then
      (iterE C F B tg iter ρ).bind fun r =>
      let ρ0 := frzs r.2 is
      (lcLoop C F (blkOf B scope) elt tg ifs is r.1 [] (wipeE ρ0 is)).bind fun q => some (q.1, backE ρ0 q.2 is)
    else none
  | _ => none

/-! chains of comparisons, and, or -/
def boolE (C : Ctx) (F : Fns) (B : Bk) (op : BoolOp) : List Expr → En → Option (Opn × Bool × En)
  | [], _ => none
  | [e], ρ => F.o B e ρ
  | e :: es, ρ => (F.o B e ρ).bind fun r => (rdO r.2.2 r.1).bind fun d => (truthD d).bind fun k =>
    if (match op with | .And => k | .Or => !k) then boolE C F B op es r.2.2 else some r
def boolT (F : Fns) (B : Bk) (op : BoolOp) : List Expr → En → Option (Bool × En)
  | [], _ => none
  | [e], ρ => F.t B e ρ
  | e :: es, ρ => (F.t B e ρ).bind fun r => if (match op with | .And => r.1 | .Or => !r.1) then boolT F B op es r.2 else some r
def cmpE (C : Ctx) (F : Fns) (B : Bk) (a : Expr) (ops : List CmpOp) (es : List Expr) (ρ : En) : Option (Bool × En) :=
  match ops, es with
  | [op], [b] => if behindInMarks op b then none else
      (F.o B a ρ).bind fun r => (F.o B b r.2.2).bind fun q => (rdO q.2.2 r.1).bind fun x => (rdO q.2.2 q.1).bind fun y => (cmpD op x y).bind fun k => some (k, q.2.2)
  | [op, op'], [b, c] => if lastMarks [op, op'] [b, c] then none else
      (valE C F B a ρ).bind fun r => (valE C F B b r.2.2).bind fun q => (cmpD op r.2.1 q.2.1).bind fun k =>
      if k then (valE C F B c q.2.2).bind fun z => (cmpD op' q.2.1 z.2.1).bind fun k' => some (k', z.2.2) else some (false, q.2.2)
  | _, _ => none

def notDictD : PyData → Bool
  | .dict _ => false
  | _ => true
def isiT (d : PyData) (t : Str) : Option Bool :=
  if t = "int" then some (match d with | .int _ => true | .bool _ => true | _ => false)
  else if t = "bool" then some (match d with | .bool _ => true | _ => false)
  else if t = "str" then some (match d with | .str _ => true | _ => false)
  else if t = "tuple" then some (match d with | .tuple _ => true | _ => false)
  else if t = "list" then some (match d with | .list _ => true | _ => false)
  else none

def seqB : PyData → Bool
  | .list _ => true
  | .tuple _ => true
  | _ => false
def addsD : PyData → List PyData → Option PyData
  | acc, [] => some acc
  | acc, x :: xs => if seqB acc then (addD acc x).bind fun d => addsD d xs else none
/-- sum(xs, start) -/
def sumS : List PyData → Option PyData
  | [.list xs, s] => if seqB s then addsD s xs else none
  | _ => none
/-- list(zip(a, b)), list(range(..)), sum(xs, start) -/
def nestZ (sc : Scope) (f : Str) (args : List Expr) (kws : List Keyword) : Option (Nat × List Expr) :=
  match args, kws with
  | [.Call (.Name g _) as [] _], [] => if f == "list" && glB sc f && glB sc g then (if g == "zip" then some (0, as) else if g == "range" then some (1, as) else none) else none
  | [a, b], [] => if f == "sum" && glB sc f then some (2, [a, b]) else none
  | _, _ => none
def nestE (C : Ctx) (F : Fns) (B : Bk) (z : Nat × List Expr) (ρ : En) : Option (Opn × Bool × En) :=
  match z.1 with
  | 0 => (valEs C F B z.2 ρ).bind fun q => (zeD true q.1).bind fun xs => if decide (xs.length ≤ sizeLine) then some (.val (.list xs), true, q.2) else none
  | 1 => (opnEs F B z.2 ρ).bind fun q => (rdOs q.2 q.1).bind fun ds => (rangeD ds).bind fun xs => if decide (xs.length ≤ sizeLine) then some (.val (.list xs), true, q.2) else none
  | _ => (valEs C F B z.2 ρ).bind fun q => (sumS q.1).bind fun d => some (.val d, false, q.2)
def callN (C : Ctx) (F : Fns) (B : Bk) (f : Str) (args : List Expr) (kws : List Keyword) (ρ : En) : Option (Opn × Bool × En) :=
  match nestZ B.sc f args kws with
  | some z => nestE C F B z ρ
  | none =>
  if glB B.sc f then match C.T.find? fun e => e.name == f with
    | some e => callU C F B e args kws ρ
    | none => match biOf f with
      | some b => match kws, args with
        | [], _ :: _ => (opnEs F B args ρ).bind fun q => (rdOs q.2 q.1).bind fun ds => (biD b ds).bind fun d => some (resD q.2 d)
        | _, _ => none
      | none => match kws, args with
        | [], [a, .Name t _] => if star a then none else if f == "isinstance" && glB B.sc t then (F.o B a ρ).bind fun r => (rdO r.2.2 r.1).bind fun d => if notDictD d then (isiT d t).bind fun k => some (.val (.bool k), false, r.2.2) else none else none
        | _, _ => none
  else none
def callM (C : Ctx) (F : Fns) (B : Bk) (o : Expr) (m : Str) (args : List Expr) (ρ : En) : Option (Opn × Bool × En) :=
  if notCall o && decide (args.length < 10) then (F.o B o ρ).bind fun r =>
    if mutNames.contains m then match r.1 with
      | .slot i => match r.2.2[i]? with
        | some (some (true, .list _)) => (valEs C F B args r.2.2).bind fun q => match q.2[i]? with
          | some (some (true, d)) => (mutD m d q.1).bind fun z => some (.val z.2, false, q.2.set i (some (true, z.1)))
          | _ => none
        | _ => none
      | _ => none
    else if m = "get" then (rdO r.2.2 r.1).bind fun d0 => if isDicB d0 then (valEs C F B args r.2.2).bind fun q => (rdO q.2 r.1).bind fun d => (dgetM d q.1).bind fun z => some (.val z, false, q.2) else none
    else match r.1 with
      | .val d => (opnEs F B args r.2.2).bind fun q => (rdOs q.2 q.1).bind fun ds => (metD m d ds).bind fun z => some (resD q.2 z)
      | _ => none
  else none

/-- the pairs of a dict's display -/
def dispE (C : Ctx) (F : Fns) (B : Bk) : List (Option Expr) → List Expr → En → Option (Es × En)
  | [], [], ρ => some ([], ρ)
  | some k :: ks, v :: vs, ρ => (valE C F B k ρ).bind fun r => (valE C F B v r.2.2).bind fun z => (dispE C F B ks vs z.2.2).bind fun q => some ((r.2.1, z.2.1) :: q.1, q.2)
  | _, _, _ => none
def dictE (C : Ctx) (F : Fns) (B : Bk) (ks : List (Option Expr)) (vs : List Expr) (ρ : En) : Option (Es × En) :=
  if ks.length ≤ 15 then (dispE C F B ks vs ρ).bind fun q => if q.1.all fun e => (keyOf e.1).isSome then some (mergeE [] q.1, q.2) else none else none
/-- the parts of an f-string -/
def fstrE (F : Fns) (B : Bk) : List Expr → Str → En → Option (Str × En)
  | [], acc, ρ => some (acc, ρ)
  | .Constant (.str y) _ _ :: es, acc, ρ => if (acc ++ y).length ≤ sizeLine then fstrE F B es (acc ++ y) ρ else none
  | .FormattedValue e (-1) none _ :: es, acc, ρ => (F.o B e ρ).bind fun r => match r.1 with
    | .val (.str y) => if y.length ≤ sizeLine ∧ (acc ++ y).length ≤ sizeLine then fstrE F B es (acc ++ y) r.2.2 else none
    | .val (.int i) => if i.natAbs.log2 < 1920 ∧ (acc ++ (toString i : Str)).length ≤ sizeLine then fstrE F B es (acc ++ (toString i : Str)) r.2.2 else none
    | _ => none
  | _, _, _ => none
def isSl : Expr → Bool
  | .Slice _ _ _ _ => true
  | _ => false
/-- x[::-1] -/
def isRev : Option Expr → Option Expr → Expr → Bool
  | none, none, .UnaryOp .USub (.Constant (.int 1) _ _) _ => true
  | _, _, _ => false
def revS (z : Str) : Str := ⟨z.cps.toList.reverse.toArray⟩
def revD : PyData → Option PyData
  | .list xs => some (.list xs.reverse)
  | .tuple xs => some (.tuple xs.reverse)
  | .str z => if z.length ≤ sizeLine then some (.str (revS z)) else none
  | _ => none
/-- an expression, one step -/
def stepO (C : Ctx) (F : Fns) (B : Bk) (e : Expr) (ρ : En) : Option (Opn × Bool × En) :=
  match e with
  | .Constant c _ _ => (constD c).map fun d => (.val d, false, ρ)
  | .Name x _ => oName C B x ρ
  | .BinOp a op b _ => (F.o B a ρ).bind fun r => (F.o B b r.2.2).bind fun q => (rdO q.2.2 r.1).bind fun x => (rdO q.2.2 q.1).bind fun y => (binD op x y).bind fun d => some (resD q.2.2 d)
  | .UnaryOp op a _ => (F.o B a ρ).bind fun r => (rdO r.2.2 r.1).bind fun x => (unD op x).bind fun d => some (resD r.2.2 d)
  | .IfExp t a b _ => (F.t B t ρ).bind fun r => if r.1 then F.o B a r.2 else F.o B b r.2
  | .Tuple es _ _ => (valEs C F B es ρ).bind fun q => if q.1.length ≤ sizeLine then some (.val (.tuple q.1), false, q.2) else none
  | .List es _ => (valEs C F B es ρ).bind fun q => if q.1.length ≤ sizeLine then some (.val (.list q.1), true, q.2) else none
  | .Subscript a (.Slice lo hi none _) _ => (F.o B a ρ).bind fun r => (partE F B lo r.2.2).bind fun l => (partE F B hi l.2).bind fun h => (rdO h.2 r.1).bind fun d => (cutD d l.1 h.1).bind fun z => some (resD h.2 z)
  | .Subscript a (.Slice lo hi (some st) _) _ => if isRev lo hi st then (F.o B a ρ).bind fun r => (rdO r.2.2 r.1).bind fun d => (revD d).bind fun z => some (resD r.2.2 z) else none
  | .Subscript a i _ => if isSl i then none else (F.o B a ρ).bind fun r => (F.o B i r.2.2).bind fun q => (rdO q.2.2 r.1).bind fun x => (rdO q.2.2 q.1).bind fun y => (idxD x y).bind fun d => some (.val d, false, q.2.2)
  | .ListComp elt gs scope _ => (lcE C F B elt gs scope ρ).bind fun q => some (.val (.list q.1), true, q.2)
  | .Dict ks vs _ => (dictE C F B ks vs ρ).bind fun q => some (.val (.dict q.1), true, q.2)
  | .JoinedStr (e1 :: e2 :: es) _ => (fstrE F B (e1 :: e2 :: es) Str.empty ρ).bind fun q => some (.val (.str q.1), false, q.2)
  | .BoolOp op es _ => boolE C F B op es ρ
  | .Compare a ops es _ => (cmpE C F B a ops es ρ).bind fun r => some (.val (.bool r.1), false, r.2)
  | .Call (.Name f _) args kws _ => callN C F B f args kws ρ
  | .Call (.Attribute o m ap) args [] p => if ap.endLine == p.line then callM C F B o m args ρ else none
  | _ => none
def stepT (C : Ctx) (F : Fns) (B : Bk) (e : Expr) (ρ : En) : Option (Bool × En) :=
  match e with
  | .UnaryOp .Not a _ => (F.t B a ρ).bind fun r => some (!r.1, r.2)
  | .BoolOp op es _ => boolT F B op es ρ
  | .IfExp _ _ _ _ => none
  | .Compare a ops es _ => cmpE C F B a ops es ρ
  | e => (F.o B e ρ).bind fun r => (rdO r.2.2 r.1).bind fun d => (truthD d).bind fun k => some (k, r.2.2)

/-! statements -/
def setE (C : Ctx) (B : Bk) (x : Str) (r : Bool × PyData × En) : Option En :=
  if B.loc x then (ixOf x C.N).bind fun i => if C.io.contains i then none else some (r.2.2.set i (some (r.1, r.2.1))) else none
def stmts (F : Fns) (B : Bk) : List Stmt → En → Option Out
  | [], ρ => some (.nx ρ)
  | s :: ss, ρ => (F.s B s ρ).bind fun r => match r with
    | .nx ρ1 => stmts F B ss ρ1
    | r => some r
def whileD (t : En → Option (Bool × En)) (b : En → Option Out) : Nat → En → Option Out
  | 0, _ => none
  | w + 1, ρ => (t ρ).bind fun r => if r.1 then (b r.2).bind fun q => match q with
      | .nx ρ1 => whileD t b w ρ1
      | .ct ρ1 => whileD t b w ρ1
      | .bk ρ1 => some (.nx ρ1)
      | .rt o k ρ1 => some (.rt o k ρ1)
    else some (.nx r.2)
def forD (g : PyData → En → Option En) (b : En → Option Out) : List PyData → En → Option Out
  | [], ρ => some (.nx ρ)
  | x :: xs, ρ => (g x ρ).bind fun ρ0 => (b ρ0).bind fun q => match q with
      | .nx ρ1 => forD g b xs ρ1
      | .ct ρ1 => forD g b xs ρ1
      | .bk ρ1 => some (.nx ρ1)
      | .rt o k ρ1 => some (.rt o k ρ1)
/-- op= of ints -/
def augD (op : Operator) (a b : Int) : Option Int :=
  match op with
  | .Add => some (a + b)
  | .Sub => some (a - b)
  | .Mult => if (decide (-(2 ^ 64) < a) && decide (a < 2 ^ 64)) || (decide (-(2 ^ 64) < b) && decide (b < 2 ^ 64)) then some (a * b) else none
  | .FloorDiv => if decide (0 < b) && decide (b < 1073741824) then some (a / b) else none
  | _ => none
def setIx (d : PyData) (i : PyData) (v : PyData) : Option PyData :=
  match d, i with
  | .list xs, .int k => (ixN xs.length k).map fun j => .list (xs.set j v)
  | .dict es, k => if okKey es k && decide (es.length < sizeLine) then some (.dict (putE es k v)) else none
  | _, _ => none
def noComp : Expr → Bool
  | .ListComp _ _ _ _ => false
  | .SetComp _ _ _ _ => false
  | .DictComp _ _ _ _ _ => false
  | _ => true
def notTup : Expr → Bool
  | .Tuple _ _ _ => false
  | .List _ _ => false
  | _ => true
/-- both are stored from the right -/
def swB (x y : Str) (px py : Pos) (a b : Expr) : Bool :=
  (px.line == py.line) && !(x == y) && !star a && !star b && !([a, b].all (foldedForSure 8)) && !([a, b].all (constantsAlone 8))
/-- [..] given to a name on its own line -/
def lcLine (B : Bk) (x : Str) (px : Pos) (scope : Scope) (pos : Pos) : Bool :=
  (B.sc.names.lookup x == some .local) && (px.line == pos.line)
def subE (C : Ctx) (F : Fns) (B : Bk) (o i e : Expr) (ρ : En) : Option Out :=
  (valE C F B e ρ).bind fun r => (F.o B o r.2.2).bind fun z => match z.1 with
      | .slot j => (F.o B i z.2.2).bind fun q => (rdO q.2.2 q.1).bind fun k => match q.2.2[j]? with
        | some (some (true, d)) => (setIx d k r.2.1).bind fun d' => some (.nx (q.2.2.set j (some (true, d'))))
        | _ => none
      | _ => none
def stepS (C : Ctx) (F : Fns) (B : Bk) (s : Stmt) (ρ : En) : Option Out :=
  match s with
  | .Pass _ => some (.nx ρ)
  | .Break _ => some (.bk ρ)
  | .Continue _ => some (.ct ρ)
  | .Expr (.Constant (.str _) _ _) _ => some (.nx ρ)
  | .Expr e _ => if noComp e then (F.o B e ρ).bind fun r => some (.nx r.2.2) else none
  | .Return none _ => some (.rt (.val .none) false ρ)
  | .Return (some e) _ => (F.o B e ρ).bind fun r => match r.1 with
    | .slot i => if C.io.contains i then none else some (.rt r.1 false r.2.2)
    | .val _ => some (.rt r.1 r.2.1 r.2.2)
  | .If t a b _ => (F.t B t ρ).bind fun r => if r.1 then stmts F B a r.2 else stmts F B b r.2
  | .While t b [] _ => whileD (F.t B t) (stmts F B b) C.w ρ
  | .For tg it b [] _ => if !notSet it then none else (iterE C F B tg it ρ).bind fun r => forD (tgD C B tg) (stmts F B b) r.1 r.2
  | .Assign [.Name x px] e pos => match e with
    | .ListComp elt gs scope p => (lcE C F B elt gs scope ρ).bind fun q => (setE C B x (true, .list q.1, q.2)).bind fun ρ1 => some (.nx ρ1)
    | e => if noComp e then (valE C F B e ρ).bind fun r => (setE C B x r).bind fun ρ1 => some (.nx ρ1) else none
  | .Assign [.Tuple es kt p] e pos => match e with
    | .Tuple vs k2 p2 => match es, vs with
      | [.Name x px, .Name y py], [a, b] => if (B.sc.names.lookup x == some .local) && (B.sc.names.lookup y == some .local) && B.loc x && B.loc y && swB x y px py a b then (valEs C F B [a, b] ρ).bind fun q => match q.1 with
          | [d, d'] => (ixOf x C.N).bind fun i => (ixOf y C.N).bind fun j => if C.io.contains i || C.io.contains j || i == j then none else some (.nx ((q.2.set i (some (false, d))).set j (some (false, d'))))
          | _ => none
        else none
      | _, _ => none
    | e => if noComp e then (valE C F B e ρ).bind fun r => (tgD C B (.Tuple es kt p) r.2.1 r.2.2).bind fun ρ1 => some (.nx ρ1) else none
  | .Assign [.Subscript o i sp] e pos => if noComp e && isSl i == false then subE C F B o i e ρ else none
  | .AugAssign (.Name x px) op e pos => if visB B.sc x && B.loc x then (ixOf x C.N).bind fun i => if C.io.contains i then none else match ρ[i]? with
      | some (some (false, .int a)) => (F.o B e ρ).bind fun r => match r.1 with
        | .val (.int b) => (augD op a b).bind fun z => some (.nx (r.2.2.set i (some (false, .int z))))
        | _ => none
      | _ => none
    else none
  | _ => none

def stepF (C : Ctx) (F : Fns) : Fns := ⟨stepO C F, stepT C F, stepS C F⟩
def noF : Fns := ⟨fun _ _ _ => none, fun _ _ _ => none, fun _ _ _ => none⟩
def fns (C : Ctx) : Nat → Fns
  | 0 => noF
  | n + 1 => stepF C (fns C n)
end Pf


namespace Pf
open PySem PySem.Spec L2

/-! ## what a def promises, and its calls -/
def ag (io : List Bool) (ds : List PyData) : En := (io.zip ds).map some
abbrev sv (vs : List V) : St := vs.map some
def spF (K : PySem.W.Frag) (Γ : Sem3) (name : Str) (io : List Bool) : Sp := fun vs H Q _ => ∃ (Z : Addr → Prop) (ds : List PyData) (b : Bool) (r : PyData) (ds' : List PyData),
  Stt K [] Z (ag io ds) (sv vs) H ∧ ds.length = io.length ∧ Γ name ds = some (b, r, ds') ∧ ds'.length = ds.length ∧
  ∀ v H', Val K [⟨H, OwnA (ag io ds) (sv vs)⟩] Z (ag io ds') (sv vs) b v r H' → Q v H'
theorem ag_length {io : List Bool} {ds : List PyData} (h : ds.length = io.length) : (ag io ds).length = io.length := by simp [ag, h]
theorem ag_get {io : List Bool} {ds : List PyData} {i : Nat} {b : Bool} {d : PyData} : (ag io ds)[i]? = some (some (b, d)) ↔ io[i]? = some b ∧ ds[i]? = some d := by
  unfold ag
  rw [List.getElem?_map]
  cases e : (io.zip ds)[i]? with
  | none =>
    rw [List.getElem?_eq_none_iff, List.length_zip] at e
    constructor
    · intro h; cases h
    · rintro ⟨h1, h2⟩
      have q1 := (List.getElem?_eq_some_iff.mp h1).1
      have q2 := (List.getElem?_eq_some_iff.mp h2).1
      omega
  | some z =>
    obtain ⟨b', d'⟩ := z
    rw [List.getElem?_zip_eq_some] at e
    constructor
    · intro h
      cases h
      exact e
    · rintro ⟨h1, h2⟩
      rw [e.1] at h1
      rw [e.2] at h2
      cases h1
      cases h2
      rfl

structure Fk (P : Program) (w : World) (K : PySem.W.Frag) (mg : Str → Option Value) (base : Heap) (k : Nat) (f : Addr) (fd : FuncData) (ps : List Str) (sp : Sp) : Prop where
  lens : ∀ vs H Q E, sp vs H Q E → vs.length = ps.length
  runs : ∀ (A : Around) (outer : List Env) (s : Shared) (H : Hp) (args : Args) (us : List Value) (vs : List V) (Q : VK) (E : XK), A.guards = some [] → Room k A → Env0 P w K mg base A outer s H →
    BindsTo s fd args (ps.zip us) → Vals vs us → sp vs H Q E → codeAny (model P w) A (.call (.ref f) args) (CR CX0 outer P w H s Q E) s
theorem Fk.mono {P : Program} {w : World} {K : PySem.W.Frag} {mg : Str → Option Value} {base : Heap} {j k : Nat} {f : Addr} {fd : FuncData} {ps : List Str} {sp : Sp} (F : Fk P w K mg base j f fd ps sp) (h : j ≤ k) :
    Fk P w K mg base k f fd ps sp := ⟨F.lens, fun A outer s H args us vs Q E hg hr => F.runs A outer s H args us vs Q E hg (hr.mono h)⟩
theorem guards_deeper (A : Around) (env : Env) : (A.deeper env).guards = A.guards := rfl

structure FkAt (P : Program) (w : World) (K : PySem.W.Frag) (mg : Str → Option Value) (base : Heap) (Γ : Sem3) (k : Nat) (e : FE) : Prop where
  ex : ∃ (f : Addr) (fd : FuncData) (dvs : List V) (dus : List Value), Fk P w K mg base k f fd e.ps (spF K Γ e.name e.io) ∧ mg e.name = some (.ref f) ∧ PySem.W.keepIn K (.ref f) = true ∧ Vals dvs dus ∧
    (∀ (i : Nat) (d : PyData), e.dfl[i]? = some d → ∃ v, dvs[i]? = some v ∧ ∀ (H : Hp) (U : Addr → Prop), Rep K H U v d) ∧ dvs.length = e.dfl.length ∧
    ∀ p ∈ e.pats, ∀ (s : Shared) (us ws : List Value), K.In s.heap → us.length = p.n → ws.length = p.ks.length → ∃ full, arr us ws dus p.src = some full ∧ BindsTo s fd ⟨us, p.ks.zip ws⟩ (e.ps.zip full)
theorem FkAt.mono {P : Program} {w : World} {K : PySem.W.Frag} {mg : Str → Option Value} {base : Heap} {Γ : Sem3} {j k : Nat} {e : FE} (F : FkAt P w K mg base Γ j e) (h : j ≤ k) : FkAt P w K mg base Γ k e := by
  obtain ⟨f, fd, dvs, dus, h1, h2⟩ := F.ex
  exact ⟨f, fd, dvs, dus, h1.mono h, h2⟩

section
variable {X : Cx} {pins : List (Addr × Obj)} {σ : St} {H : Hp} {s : Shared} {k : Nat} {f : Addr} {fd : FuncData} {ps : List Str} {sp : Sp} {E : XK}
theorem run_fk {Q : VK} {args : Args} {us : List Value} {vs : List V} (F : Fk X.prog X.w X.K X.mg X.base k f fd ps sp) (hr : Room k X.A) (hg : X.A.guards = some []) (I : Inv X pins σ H s)
    (hb : BindsTo s fd args (ps.zip us)) (r : Vals vs us) (h : sp vs H Q E) : wpAny (model X.prog X.w) X.A (call (.ref f) args.pos args.kw) (EP X pins σ Q) X.xe s := by
  refine wpAny_call (codeAny_mono (F.runs X.A X.stack s H args us vs Q E hg hr I.env0 hb r h) fun q s' hq => ?_)
  cases q with
  | error e => exact False.elim hq
  | ok fl =>
    cases fl with
    | ret u => exact I.after hq
    | next => exact False.elim hq
    | brk => exact False.elim hq
    | cont => exact False.elim hq
end

/-! ### the arguments in the parameters' order -/
theorem pickS_get {α : Type} {us ws ds : List α} {s : Src} {x : α} : pickS us ws ds s = some x ↔ (∃ i, s = .pos i ∧ us[i]? = some x) ∨ (∃ i, s = .kw i ∧ ws[i]? = some x) ∨ ∃ i, s = .dfl i ∧ ds[i]? = some x := by
  cases s <;> simp [pickS]
theorem arr_vals {vs zs dvs : List V} {us ws dus : List Value} (r1 : Vals vs us) (r2 : Vals zs ws) (r3 : Vals dvs dus) : ∀ {src : List Src} {fv : List V} {fu : List Value}, arr vs zs dvs src = some fv → arr us ws dus src = some fu → Vals fv fu
  | [], fv, fu, h1, h2 => by
    simp only [arr] at h1 h2
    cases h1
    cases h2
    exact .nil
  | s :: src, fv, fu, h1, h2 => by
    simp only [arr] at h1 h2
    cases e1 : pickS vs zs dvs s with
    | none => rw [e1] at h1; cases h1
    | some x =>
      rw [e1] at h1
      cases e2 : arr vs zs dvs src with
      | none => rw [e2] at h1; cases h1
      | some xs =>
        rw [e2] at h1
        cases h1
        cases g1 : pickS us ws dus s with
        | none => rw [g1] at h2; cases h2
        | some y =>
          rw [g1] at h2
          cases g2 : arr us ws dus src with
          | none => rw [g2] at h2; cases h2
          | some ys =>
            rw [g2] at h2
            cases h2
            refine .cons ?_ (arr_vals r1 r2 r3 e2 g2)
            have rel : ∀ {as : List V} {bs : List Value} {i : Nat} {a : V} {b : Value}, Vals as bs → as[i]? = some a → bs[i]? = some b → RelV a b := fun {as bs i a b} r ha hb => by
              obtain ⟨u, hu, q⟩ := r.get ha
              rw [hb] at hu
              cases hu
              exact q
            rcases pickS_get.mp e1 with ⟨i, rfl, a1⟩ | ⟨i, rfl, a1⟩ | ⟨i, rfl, a1⟩
            · exact rel r1 a1 g1
            · exact rel r2 a1 g1
            · exact rel r3 a1 g1

/-! ### where one stands -/
def bnz : List Str := ["zip", "enumerate", "set", "reversed"]
structure Fits (X : Cx) (C : Ctx) (B : Bk) (k : Nat) : Prop where
  hN : X.N = C.N
  nd : C.N.Nodup
  hsc : X.env.scope = B.sc
  calm : X.calm = true
  room : Room k X.A
  grd : X.A.guards = some []
  xe : X.xe = fun _ _ => False
  fn : ∀ x, B.loc x = true → Loc B.sc x ∧ (X.fn x = true ∨ B.sc.names.lookup x = some .local)
  blt : ∀ b ∈ bis, X.mg b.name = none
  btx : X.mg "range" = none ∧ X.mg "isinstance" = none ∧ X.mg "int" = none ∧ X.mg "bool" = none ∧ X.mg "str" = none ∧ X.mg "tuple" = none ∧ X.mg "list" = none
  btz : ∀ x ∈ bnz, X.mg x = none
  tab : ∀ e ∈ C.T, FkAt X.prog X.w X.K X.mg X.base C.Γ k e
  glb : ∀ p ∈ C.G, ∃ v u, X.mg p.1 = some u ∧ RelV v u ∧ ∀ (H : Hp) (U : Addr → Prop), Rep X.K H U v p.2
section
variable {X : Cx} {C : Ctx} {B : Bk} {k : Nat}
theorem Fits.own (F : Fits X C B k) : PassesOwn (model X.prog X.w) X.A X.env X.xe := by
  rw [F.xe]
  exact PassesOwn.never
theorem ixOf_get {x : Str} : ∀ {N : List Str} {i : Nat}, ixOf x N = some i → N[i]? = some x
  | [], i, h => by cases h
  | y :: r, i, h => by
    unfold ixOf at h
    split at h
    · rename_i e
      cases h
      subst e
      rfl
    · cases e : ixOf x r with
      | none => rw [e] at h; cases h
      | some j =>
        rw [e] at h
        cases h
        simpa using ixOf_get e
theorem Fits.name (F : Fits X C B k) {x : Str} {i : Nat} (h : ixOf x C.N = some i) : X.N[i]? = some x := by
  rw [F.hN]
  exact ixOf_get h
theorem Fits.ndX (F : Fits X C B k) : X.N.Nodup := by
  rw [F.hN]
  exact F.nd
theorem visB_vis {sc : Scope} {x : Str} (h : visB sc x = true) : Vis sc x ∧ (x == ("__debug__" : Str)) = false ∧ (x == ("__classdict__" : Str)) = false := by
  unfold visB at h
  simp only [Bool.and_eq_true, Bool.not_eq_true'] at h
  refine ⟨?_, h.1.2, h.2⟩
  have h1 := h.1.1
  split at h1
  · rename_i e; exact .inl e
  · rename_i e; exact .inr (.inl e)
  · rename_i e; exact .inr (.inr e)
  · cases h1
theorem glB_gl {sc : Scope} {x : Str} (h : glB sc x = true) : sc.names.lookup x = some .globalImplicit ∧ (x == ("__debug__" : Str)) = false ∧ x ≠ "__name__" := by
  unfold glB at h
  simp only [Bool.and_eq_true, Bool.not_eq_true', beq_iff_eq] at h
  refine ⟨h.1.1, h.1.2, fun e => ?_⟩
  subst e
  simp at h
theorem Fits.gl (F : Fits X C B k) {x : Str} (h : glB B.sc x = true) : Gl X x := by
  show X.env.scope.names.lookup x = _
  rw [F.hsc]
  exact (glB_gl h).1
end
end Pf


namespace Pf
open PySem PySem.Spec L2

theorem _root_.L2.PE.imp {X : Cx} {e : Expr} {t t' : TE} (h : PE X e t) (i : ∀ σ H Q, t' σ H Q → t σ H Q) : PE X e t' := ⟨fun pins s σ H Q I q => h.run pins s σ H Q I (i _ _ _ q)⟩
theorem _root_.L2.PT.imp {X : Cx} {e : Expr} {t t' : TT} (h : PT X e t) (i : ∀ σ H Q, t' σ H Q → t σ H Q) : PT X e t' := ⟨fun pins s σ H Q I q => h.run pins s σ H Q I (i _ _ _ q)⟩
theorem _root_.L2.PW.imp {X : Cx} {e : Expr} {t t' : TT} (h : PW X e t) (i : ∀ σ H Q, t' σ H Q → t σ H Q) : PW X e t' := ⟨fun wh pins s σ H Q I q => h.run wh pins s σ H Q I (i _ _ _ q)⟩
theorem _root_.L2.PA.imp {X : Cx} {e : List Expr} {t t' : TA} (h : PA X e t) (i : ∀ σ H Q, t' σ H Q → t σ H Q) : PA X e t' := ⟨fun pos pins s σ H Q I q => h.run pos pins s σ H Q I (i _ _ _ q)⟩
theorem _root_.L2.PS.imp {X : Cx} {e : Stmt} {t t' : TS} (h : PS X e t) (i : ∀ D σ H, t' D σ H → t D σ H) : PS X e t' := ⟨fun pins s σ H D I q => h.run pins s σ H D I (i _ _ _ q)⟩
theorem _root_.L2.PSs.imp {X : Cx} {e : List Stmt} {t t' : TS} (h : PSs X e t) (i : ∀ D σ H, t' D σ H → t D σ H) : PSs X e t' := ⟨fun pins s σ H D I q => h.run pins s σ H D I (i _ _ _ q)⟩
theorem _root_.L2.PI.imp {X : Cx} {tg e : Expr} {t t' : TI} (h : PI X tg e t) (i : ∀ σ H Q, t' σ H Q → t σ H Q) : PI X tg e t' := ⟨fun pins s σ H Q I q => h.run pins s σ H Q I (i _ _ _ q)⟩
theorem _root_.L2.PE.no {X : Cx} {e : Expr} {t : TE} (h : ∀ σ H Q, t σ H Q → False) : PE X e t := ⟨fun pins s σ H Q I q => (h _ _ _ q).elim⟩
theorem _root_.L2.PT.no {X : Cx} {e : Expr} {t : TT} (h : ∀ σ H Q, t σ H Q → False) : PT X e t := ⟨fun pins s σ H Q I q => (h _ _ _ q).elim⟩
theorem _root_.L2.PS.no {X : Cx} {e : Stmt} {t : TS} (h : ∀ D σ H, t D σ H → False) : PS X e t := ⟨fun pins s σ H D I q => (h _ _ _ q).elim⟩

/-! ## readings -/
def OV (K : PySem.W.Frag) (P : List Bs) (Z : Addr → Prop) (σ : St) (r : Opn × Bool × En) (v : V) (H : Hp) : Prop :=
  match r.1 with
  | .slot i => Stt K P Z r.2.2 σ H ∧ σ[i]? = some (some v) ∧ ∃ d, r.2.2[i]? = some (some (true, d))
  | .val d => Val K P Z r.2.2 σ r.2.1 v d H
def OA (K : PySem.W.Frag) (H : Hp) (ρ : En) (σ : St) (Z : Addr → Prop) : Opn → V → Prop
  | .slot i, v => σ[i]? = some (some v)
  | .val d, v => Rep K H (UU ρ σ Z) v d
def tO (K : PySem.W.Frag) (f : En → Option (Opn × Bool × En)) : TE := fun σ H Q => ∃ P Z ρ r, Stt K P Z ρ σ H ∧ f ρ = some r ∧ ∀ v H', OV K P Z σ r v H' → Shr ρ r.2.2 → Q v H'
def tV (K : PySem.W.Frag) (f : En → Option (Bool × PyData × En)) : TE := fun σ H Q => ∃ P Z ρ r, Stt K P Z ρ σ H ∧ f ρ = some r ∧ ∀ v H', Val K P Z r.2.2 σ r.1 v r.2.1 H' → Shr ρ r.2.2 → Q v H'
def tT (K : PySem.W.Frag) (f : En → Option (Bool × En)) : TT := fun σ H Q => ∃ P Z ρ r, Stt K P Z ρ σ H ∧ f ρ = some r ∧ ∀ H', Stt K P Z r.2 σ H' → Shr ρ r.2 → Q r.1 H'
def tVs (K : PySem.W.Frag) (f : En → Option (List PyData × En)) : TA := fun σ H Q => ∃ P Z ρ r, Stt K P Z ρ σ H ∧ f ρ = some r ∧ ∀ vs H', Stt K P Z r.2 σ H' → RepAll K H' (UU r.2 σ Z) vs r.1 → Shr ρ r.2 → Q vs H'
inductive OAs (K : PySem.W.Frag) (H : Hp) (ρ : En) (σ : St) (Z : Addr → Prop) : List Opn → List V → Prop
  | nil : OAs K H ρ σ Z [] []
  | cons {o : Opn} {v : V} {os : List Opn} {vs : List V} : OA K H ρ σ Z o v → OAs K H ρ σ Z os vs → OAs K H ρ σ Z (o :: os) (v :: vs)
def tOs (K : PySem.W.Frag) (f : En → Option (List Opn × En)) : TA := fun σ H Q => ∃ P Z ρ r, Stt K P Z ρ σ H ∧ f ρ = some r ∧ ∀ vs H', Stt K P Z r.2 σ H' → OAs K H' r.2 σ Z r.1 vs → Shr ρ r.2 → Q vs H'
inductive OpdAll (K : PySem.W.Frag) (H : Hp) (U : Addr → Prop) : List V → List PyData → Prop
  | nil : OpdAll K H U [] []
  | cons {v : V} {d : PyData} {vs : List V} {ds : List PyData} : Opd K H U v d → OpdAll K H U vs ds → OpdAll K H U (v :: vs) (d :: ds)
section
variable {K : PySem.W.Frag} {P : List Bs} {Z : Addr → Prop} {ρ ρ' : En} {σ : St} {H H' : Hp}
theorem OV.stt {r : Opn × Bool × En} {v : V} (h : OV K P Z σ r v H) : Stt K P Z r.2.2 σ H ∧ OA K H r.2.2 σ Z r.1 v := by
  obtain ⟨o, b, ρ⟩ := r
  cases o with
  | slot i => exact ⟨h.1, h.2.1⟩
  | val d => exact Val.share h
theorem OA.later {ρ2 : En} {H2 : Hp} {o : Opn} {v : V} (h : OA K H ρ σ Z o v) (x : Stt K (⟨H, OwnA ρ σ⟩ :: P) Z ρ2 σ H2) (sub : Shr ρ ρ2) : OA K H2 ρ2 σ Z o v := by
  cases o with
  | slot i => exact h
  | val d => exact Pf.later h x sub
theorem OA.opd {o : Opn} {v : V} {d : PyData} (h : OA K H ρ σ Z o v) (x : Stt K P Z ρ σ H) (e : rdO ρ o = some d) : Opd K H (UU ρ σ Z) v d := by
  cases o with
  | val d' =>
    cases e
    exact .rep h
  | slot i =>
    have h : σ[i]? = some (some v) := h
    simp only [rdO] at e
    split at e
    · rename_i b d' hi
      cases e
      cases b with
      | true =>
        obtain ⟨p, h2, c, _⟩ := x.ow i d hi
        rw [h] at h2
        cases h2
        exact .own c
      | false =>
        obtain ⟨v', h2, r⟩ := x.sh i d hi
        rw [h] at h2
        cases h2
        exact .rep r
    · cases e
theorem OAs.opd : ∀ {os : List Opn} {vs : List V} {ds : List PyData}, OAs K H ρ σ Z os vs → Stt K P Z ρ σ H → rdOs ρ os = some ds → OpdAll K H (UU ρ σ Z) vs ds
  | [], _, ds, h, _, e => by
    cases h
    cases e
    exact .nil
  | o :: os, _, ds, h, x, e => by
    cases h with
    | cons h1 h2 =>
      simp only [rdOs] at e
      cases e1 : rdO ρ o with
      | none => rw [e1] at e; cases e
      | some d =>
        rw [e1] at e
        cases e2 : rdOs ρ os with
        | none => rw [e2] at e; cases e
        | some ds' =>
          rw [e2] at e
          cases e
          exact .cons (h1.opd x e1) (OAs.opd h2 x e2)
theorem Val.newDic {p : Addr} {o : HO} {es : Es} (x : Stt K P Z ρ σ H) (hp : H p = none) (r : DNew K H (UU ρ σ Z) es o) : Val K P Z ρ σ true (.ref p) (.dict es) (upd H p o) := by
  obtain ⟨f1, f2, f3⟩ := x.fresh hp
  rcases r with ⟨ks, vs, ds, rfl, l, rfl, r⟩ | ⟨ks, vs, ds, rfl, l, rfl, r⟩
  · exact ⟨p, rfl, f2, x.newZ hp (fun _ z => by cases z), .dK l upd_same ((r.off hp).pre (Pre.same (same_upd hp))), f1⟩
  · exact ⟨p, rfl, f2, x.newZ hp (fun _ z => by cases z), .dT l upd_same ((r.off hp).pre (Pre.same (same_upd hp))), f1⟩
theorem newV_res {d : PyData} {Q : VK} (x : Stt K P Z ρ σ H) (q : ∀ v H', Val K P Z ρ σ (newB d) v d H' → Q v H') : NewV K H (UU ρ σ Z) d Q := by
  cases d with
  | list ds => exact fun vs p r hp => q _ _ (Val.newLst x hp r)
  | tuple ds => exact ⟨fun vs p o r hp hd => q _ _ (Val.newTup x hp hd r), fun v r => q _ _ ⟨x, r⟩⟩
  | dict es => exact fun o p dn hp => q _ _ (Val.newDic x hp dn)
  | _ => exact fun v r => q _ _ ⟨x, r⟩
theorem tru_of {U : Addr → Prop} {v : V} {d : PyData} {k : Bool} (h : Opd K H U v d) (e : truthD d = some k) : TruV K v H k := by
  unfold truthD at e
  split at e
  · cases e
    obtain rfl := h.non_inv
    exact rfl
  · cases e
    obtain rfl := h.bl_inv
    exact rfl
  · cases e
    obtain rfl := h.int_inv
    exact rfl
  · split at e
    · rename_i hz
      cases e
      obtain rfl := h.str_inv
      exact ⟨hz, rfl⟩
    · cases e
  · cases e
    obtain ⟨a, xs, rfl, h1, r⟩ := h.lst_inv
    refine .inl ⟨xs, SqL.of h1, ?_⟩
    cases r <;> rfl
  · cases e
    obtain ⟨a, xs, rfl, h1, r⟩ := h.tup_inv
    refine .inr (.inl ⟨xs, h1.sq, ?_⟩)
    cases r <;> rfl
  · cases e
end
theorem bind_some {α β : Type} {x : Option α} {f : α → Option β} {b : β} (h : x.bind f = some b) : ∃ a, x = some a ∧ f a = some b := by
  cases x with
  | none => cases h
  | some a => exact ⟨a, rfl, h⟩
theorem map_some {α β : Type} {x : Option α} {f : α → β} {b : β} (h : x.map f = some b) : ∃ a, x = some a ∧ f a = b := by
  cases x with
  | none => cases h
  | some a => exact ⟨a, rfl, Option.some.inj h⟩
theorem ite_some {α : Type} {c : Bool} {x : Option α} {b : α} (h : (if c = true then x else none) = some b) : c = true ∧ x = some b := by
  cases c with
  | true => exact ⟨rfl, by simpa using h⟩
  | false => simp at h
theorem ite_some' {α : Type} {c : Bool} {x : Option α} {b : α} (h : (if c = true then none else x) = some b) : c = false ∧ x = some b := by
  cases c with
  | true => simp at h
  | false => exact ⟨rfl, by simpa using h⟩

/-! ## expressions -/
section
variable {X : Cx} {C : Ctx} {B : Bk} {k : Nat} {F : Fns}
structure SoO (X : Cx) (C : Ctx) (F : Fns) (B : Bk) : Prop where
  o : ∀ e, PE X e (tO X.K (F.o B e))
  t : ∀ e, PT X e (tT X.K (F.t B e))
theorem SoO.v (S : SoO X C F B) (e : Expr) : PE X e (tV X.K (valE C F B e)) := by
  refine (S.o e).imp fun σ H Q h => ?_
  obtain ⟨P, Z, ρ, r, x, e1, q⟩ := h
  obtain ⟨r0, e0, e2⟩ := bind_some e1
  refine ⟨P, Z, ρ, r0, x, e0, fun v H' ov sh => ?_⟩
  obtain ⟨o, b, ρ1⟩ := r0
  cases o with
  | val d =>
    simp only [toV] at e2
    cases e2
    exact q v H' ov sh
  | slot i =>
    simp only [toV] at e2
    obtain ⟨_, e2⟩ := ite_some' e2
    split at e2
    · rename_i b' d' hi
      cases e2
      obtain ⟨s1, hv, _⟩ := ov
      obtain ⟨v', h1, h2, h3⟩ := s1.val hi
      rw [hv] at h1
      cases h1
      exact q v H' ⟨h2, h3⟩ (sh.trans (frz_shr _ _))
    · cases e2
theorem star_no {e : Expr} {es : List Expr} {env : Env} (h : star e = false) : starEach (e :: es) env = (false, eval e env) :: starEach es env := by
  cases e <;> first | rfl | (simp [star] at h)
theorem tV_nil {K : PySem.W.Frag} : True := trivial
theorem pa_vals (S : SoO X C F B) : ∀ es, PA X es (tVs X.K (valEs C F B es))
  | [] => by
    refine pa_nil.imp fun σ H Q h => ?_
    obtain ⟨P, Z, ρ, r, x, e, q⟩ := h
    cases e
    exact q [] H x .nil (.refl ρ)
  | e :: es => by
    by_cases hs : star e = true
    · refine ⟨fun pos pins s σ H Q I h => ?_⟩
      obtain ⟨P, Z, ρ, r, x, e1, q⟩ := h
      simp only [valEs, hs, if_true] at e1
      cases e1
    · have hs : star e = false := by simpa using hs
      refine (pa_cons (S.v e) (pa_vals S es) (star_no hs)).imp fun σ H Q h => ?_
      obtain ⟨P, Z, ρ, r, x, e1, q⟩ := h
      simp only [valEs, hs] at e1
      obtain ⟨r0, e0, e2⟩ := bind_some (by simpa using e1)
      obtain ⟨q0, e3, e4⟩ := bind_some e2
      cases e4
      refine ⟨P, Z, ρ, r0, x, e0, fun v H1 v1 sh => ?_⟩
      obtain ⟨s1, r1⟩ := v1.share
      refine ⟨_, Z, r0.2.2, q0, s1.push, e3, fun vs H2 s2 rs sh2 => ?_⟩
      exact q (v :: vs) H2 s2.pop (.cons (Pf.later r1 s2 sh2) rs) (sh.trans sh2)
theorem pa_opns (S : SoO X C F B) : ∀ es, PA X es (tOs X.K (opnEs F B es))
  | [] => by
    refine pa_nil.imp fun σ H Q h => ?_
    obtain ⟨P, Z, ρ, r, x, e, q⟩ := h
    cases e
    exact q [] H x .nil (.refl ρ)
  | e :: es => by
    by_cases hs : star e = true
    · refine ⟨fun pos pins s σ H Q I h => ?_⟩
      obtain ⟨P, Z, ρ, r, x, e1, q⟩ := h
      simp only [opnEs, hs, if_true] at e1
      cases e1
    · have hs : star e = false := by simpa using hs
      refine (pa_cons (S.o e) (pa_opns S es) (star_no hs)).imp fun σ H Q h => ?_
      obtain ⟨P, Z, ρ, r, x, e1, q⟩ := h
      simp only [opnEs, hs] at e1
      obtain ⟨r0, e0, e2⟩ := bind_some (by simpa using e1)
      obtain ⟨q0, e3, e4⟩ := bind_some e2
      cases e4
      refine ⟨P, Z, ρ, r0, x, e0, fun v H1 v1 sh => ?_⟩
      obtain ⟨s1, r1⟩ := v1.stt
      refine ⟨_, Z, r0.2.2, q0, s1.push, e3, fun vs H2 s2 rs sh2 => ?_⟩
      exact q (v :: vs) H2 s2.pop (.cons (r1.later s2 sh2) rs) (sh.trans sh2)
/-- two operands, then what one does with them -/
theorem two (S : SoO X C F B) {a b : Expr} {P : List Bs} {Z : Addr → Prop} {ρ : En} {σ : St} {H : Hp} {r q : Opn × Bool × En} {R : V → V → Hp → Prop} (x : Stt X.K P Z ρ σ H) (e1 : F.o B a ρ = some r) (e2 : F.o B b r.2.2 = some q)
    (h : ∀ v w H', Stt X.K P Z q.2.2 σ H' → OA X.K H' q.2.2 σ Z r.1 v → OA X.K H' q.2.2 σ Z q.1 w → Shr ρ q.2.2 → R v w H') : tO X.K (F.o B a) σ H fun v H1 => tO X.K (F.o B b) σ H1 fun w H2 => R v w H2 := by
  refine ⟨P, Z, ρ, r, x, e1, fun v H1 v1 sh => ?_⟩
  obtain ⟨s1, r1⟩ := v1.stt
  refine ⟨_, Z, r.2.2, q, s1.push, e2, fun w H2 v2 sh2 => ?_⟩
  obtain ⟨s2, r2⟩ := v2.stt
  exact h v w H2 s2.pop (r1.later s2 sh2) r2 (sh.trans sh2)
theorem st_bin (S : SoO X C F B) (a : Expr) (op : Operator) (b : Expr) (p : Pos) : PE X (.BinOp a op b p) (tO X.K (stepO C F B (.BinOp a op b p))) := by
  refine (pe_op (bin_ok op) (S.o a) (S.o b)).imp fun σ H Q h => ?_
  obtain ⟨P, Z, ρ, r, x, e, q⟩ := h
  obtain ⟨r1, e1, e⟩ := bind_some e
  obtain ⟨r2, e2, e⟩ := bind_some e
  obtain ⟨d1, e3, e⟩ := bind_some e
  obtain ⟨d2, e4, e⟩ := bind_some e
  obtain ⟨d, e5, e⟩ := bind_some e
  cases e
  exact two S x e1 e2 fun v w H' s2 o1 o2 sh => ⟨_, _, _, _, o1.opd s2 e3, o2.opd s2 e4, e5, newV_res s2 fun z H3 vl => q z H3 vl sh⟩
theorem st_un (S : SoO X C F B) (op : UnaryOp) (a : Expr) (p : Pos) : PE X (.UnaryOp op a p) (tO X.K (stepO C F B (.UnaryOp op a p))) := by
  have no : ∀ op', op' = op → (∀ d, unD op d = none) → PE X (.UnaryOp op a p) (tO X.K (stepO C F B (.UnaryOp op a p))) := fun op' _ hn => .no fun σ H Q h => by
    obtain ⟨P, Z, ρ, r, x, e, q⟩ := h
    obtain ⟨r1, e1, e⟩ := bind_some e
    obtain ⟨d1, e3, e⟩ := bind_some e
    rw [hn] at e
    cases e
  cases op with
  | Invert => exact no _ rfl fun d => by cases d <;> rfl
  | UAdd => exact no _ rfl fun d => by cases d <;> rfl
  | USub =>
    refine (pe_un un_neg (S.o a)).imp fun σ H Q h => ?_
    obtain ⟨P, Z, ρ, r, x, e, q⟩ := h
    obtain ⟨r1, e1, e⟩ := bind_some e
    obtain ⟨d1, e3, e⟩ := bind_some e
    obtain ⟨d, e5, e⟩ := bind_some e
    cases e
    refine ⟨P, Z, ρ, r1, x, e1, fun v H1 v1 sh => ?_⟩
    obtain ⟨s1, o1⟩ := v1.stt
    have o1 := o1.opd s1 e3
    cases d1 with
    | int i =>
      cases e5
      obtain rfl := o1.int_inv
      exact ⟨i, rfl, q _ _ ⟨s1, .int _⟩ sh⟩
    | _ => cases e5
  | Not =>
    refine (pe_notT (S.o a)).imp fun σ H Q h => ?_
    obtain ⟨P, Z, ρ, r, x, e, q⟩ := h
    obtain ⟨r1, e1, e⟩ := bind_some e
    obtain ⟨d1, e3, e⟩ := bind_some e
    obtain ⟨d, e5, e⟩ := bind_some e
    cases e
    refine ⟨P, Z, ρ, r1, x, e1, fun v H1 v1 sh => ?_⟩
    obtain ⟨s1, o1⟩ := v1.stt
    have o1 := o1.opd s1 e3
    obtain ⟨kk, e6, e7⟩ := map_some (show (truthD d1).map (fun k => PyData.bool (!k)) = some d from e5)
    subst e7
    exact ⟨kk, tru_of o1 e6, q _ _ ⟨s1, .bl _⟩ sh⟩
theorem st_const (c : Const) (j : Nat) (p : Pos) : PE X (.Constant c j p) (tO X.K (stepO C F B (.Constant c j p))) := by
  have go : ∀ (v : V) (d : PyData), PE X (.Constant c j p) (tC v) → constD c = some d → (∀ (H : Hp) (U : Addr → Prop), Rep X.K H U v d) → PE X (.Constant c j p) (tO X.K (stepO C F B (.Constant c j p))) := fun v d h e r =>
    h.imp fun σ H Q h => by
      obtain ⟨P, Z, ρ, r', x, e', q⟩ := h
      simp only [stepO, e] at e'
      cases e'
      exact q v H ⟨x, r _ _⟩ (.refl ρ)
  have no : constD c = none → PE X (.Constant c j p) (tO X.K (stepO C F B (.Constant c j p))) := fun e => .no fun σ H Q h => by
    obtain ⟨P, Z, ρ, r, x, e', q⟩ := h
    simp only [stepO, e] at e'
    cases e'
  cases c with
  | none => exact go .non .none pe_non rfl fun _ _ => .non
  | bool b => exact go (.bl b) (.bool b) pe_bl rfl fun _ _ => .bl b
  | int i => exact go (.int i) (.int i) pe_int rfl fun _ _ => .int i
  | str z => exact go (.str z) (.str z) pe_str rfl fun _ _ => .str z
  | _ => exact no rfl
theorem st_name (T : Fits X C B k) (x : Str) (p : Pos) : PE X (.Name x p) (tO X.K (stepO C F B (.Name x p))) := by
  by_cases hv : visB B.sc x = true
  · obtain ⟨h1, h2, h3⟩ := visB_vis hv
    cases hi : ixOf x C.N with
    | none =>
      refine .no fun σ H Q h => ?_
      obtain ⟨P, Z, ρ, r, s, e, q⟩ := h
      simp only [stepO, oName, hv, if_true, hi] at e
      cases e
    | some i =>
      refine PE.imp (pe_var (i := i) (T.name hi) (by rw [T.hsc]; exact h1) h2 h3) fun σ H Q h => ?_
      obtain ⟨P, Z, ρ, r, s, e, q⟩ := h
      simp only [stepO, oName, hv, if_true, hi, Option.bind_some] at e
      split at e
      · rename_i d hd
        cases e
        obtain ⟨a, g1, c, _⟩ := s.ow i d hd
        exact ⟨_, g1, q _ _ ⟨s, g1, d, hd⟩ (.refl ρ)⟩
      · rename_i d hd
        cases e
        obtain ⟨v, g1, c⟩ := s.sh i d hd
        exact ⟨_, g1, q _ _ ⟨s, c⟩ (.refl ρ)⟩
      · cases e
  · by_cases hg : glB B.sc x = true
    · cases hl : C.G.lookup x with
      | none =>
        refine .no fun σ H Q h => ?_
        obtain ⟨P, Z, ρ, r, s, e, q⟩ := h
        simp only [stepO, oName, hv, hg, if_true, hl] at e
        cases e
      | some d =>
        obtain ⟨v, u, m1, m2, m3⟩ := T.glb (x, d) (PySem.mem_of_lookup hl)
        refine (pe_glob (T.gl hg) m1 m2 (glB_gl hg).2.1).imp fun σ H Q h => ?_
        obtain ⟨P, Z, ρ, r, s, e, q⟩ := h
        simp only [stepO, oName, hv, hg, if_true, hl] at e
        cases e
        exact q v H ⟨s, m3 _ _⟩ (.refl ρ)
    · refine .no fun σ H Q h => ?_
      obtain ⟨P, Z, ρ, r, s, e, q⟩ := h
      simp only [stepO, oName, hv, hg] at e
      cases e
theorem st_ifx (S : SoO X C F B) (t a b : Expr) (p : Pos) : PE X (.IfExp t a b p) (tO X.K (stepO C F B (.IfExp t a b p))) := by
  refine (pe_ifExp (S.t t) (S.o a) (S.o b)).imp fun σ H Q h => ?_
  obtain ⟨P, Z, ρ, r, x, e, q⟩ := h
  obtain ⟨r1, e1, e⟩ := bind_some e
  refine ⟨P, Z, ρ, r1, x, e1, fun H1 s1 sh => ?_⟩
  obtain ⟨kk, ρ1⟩ := r1
  cases kk with
  | true => exact iteT ⟨P, Z, ρ1, r, s1, by simpa using e, fun v H2 ov sh2 => q v H2 ov (sh.trans sh2)⟩
  | false => exact iteF ⟨P, Z, ρ1, r, s1, by simpa using e, fun v H2 ov sh2 => q v H2 ov (sh.trans sh2)⟩
/-- a tuple's display -/
theorem pe_tupX {X : Cx} {es : List Expr} {t : TA} {j : Nat} {pos : Pos} (h : PA X es t) : PE X (.Tuple es j pos) (fun σ H Q => t σ H fun xs H1 => xs.length ≤ sizeLine ∧ ∀ p o, H1 p = none → o.dict = none → Q (.ref p) (upd H1 p (tupH o xs))) := by
  constructor
  intro pins s σ H Q I hq
  apply wpAny_Tuple_spliced
  refine thn (h.run pos pins s σ H _ I hq) fun us s1 w => ?_
  obtain ⟨xs, H1, I1, r, z, q⟩ := w
  exact ⟨r.length ▸ z, lay_tup (t := s1.toks) I1 r z q⟩
/-- t[lo:hi] -/
theorem sl_tupX {X : Cx} : SlR X (fun x lo hi H Q => ∃ a xs, x = .ref a ∧ SqT X.K H a xs ∧ (HT.sIx xs.length 0 lo = 0 ∧ HT.sIx xs.length xs.length hi = xs.length → Q (.ref a) H) ∧
    (¬ (HT.sIx xs.length 0 lo = 0 ∧ HT.sIx xs.length xs.length hi = xs.length) → ∀ p o, H p = none → o.dict = none → Q (.ref p) (upd H p (tupH o (cutV xs lo hi))))) := by
  intro pins s σ H x v vl vu lo hi sl Q I rx hs pl pu h
  obtain ⟨a, xs, ex, gx, k1, k2⟩ := h
  subst ex
  cases rx
  obtain ⟨us, ru, tu, hz⟩ := I.tuple gx
  have hn : us.toArray.size = xs.length := by rw [List.size_toArray, ru.length]
  refine ⟨"tuple", _, PyProof.Rows.slot_tuple_getitem.lookup, tu.typeIs, ?_⟩
  by_cases hw : HT.sIx xs.length 0 lo = 0 ∧ HT.sIx xs.length xs.length hi = xs.length
  · exact getItem_tuple_whole tu hs pl pu (hn ▸ hw) ⟨.ref a, H, I, rfl, k1 hw⟩
  · refine HT.getItem_tuple_cut tu hs pl pu (hn ▸ hw) ?_ (hn ▸ hz)
    rw [hn]
    exact lay_tup (t := s.toks) I ((ru.drop _).take _) (Nat.le_trans (cutV_length xs lo hi) hz) (k2 hw)
theorem st_tup (S : SoO X C F B) (es : List Expr) (j : Nat) (p : Pos) : PE X (.Tuple es j p) (tO X.K (stepO C F B (.Tuple es j p))) := by
  refine (pe_tupX (pa_vals S es)).imp fun σ H Q h => ?_
  obtain ⟨P, Z, ρ, r, x, e, q⟩ := h
  obtain ⟨r1, e1, e⟩ := bind_some e
  split at e
  · rename_i hz
    cases e
    refine ⟨P, Z, ρ, r1, x, e1, fun vs H1 s1 rs sh => ⟨by rw [rs.length]; exact hz, fun p o hp hd => q _ _ (Val.newTup s1 hp hd rs) sh⟩⟩
  · cases e
theorem st_lst (S : SoO X C F B) (es : List Expr) (p : Pos) : PE X (.List es p) (tO X.K (stepO C F B (.List es p))) := by
  refine (pe_lst (pa_vals S es)).imp fun σ H Q h => ?_
  obtain ⟨P, Z, ρ, r, x, e, q⟩ := h
  obtain ⟨r1, e1, e⟩ := bind_some e
  split at e
  · rename_i hz
    cases e
    refine ⟨P, Z, ρ, r1, x, e1, fun vs H1 s1 rs sh => ⟨by rw [rs.length]; exact hz, fun p hp => q _ _ (Val.newLst s1 hp rs) sh⟩⟩
  · cases e
theorem atI_rep {K : PySem.W.Frag} {H : Hp} {U : Addr → Prop} {xs : List V} {ds : List PyData} {i : Int} {d : PyData} (r : RepAll K H U xs ds) (h : atI ds i = some d) : ∃ v, atI xs i = some v ∧ Rep K H U v d := by
  unfold atI at h ⊢
  rw [r.length]
  cases e : ixN ds.length i with
  | none => rw [e] at h; cases h
  | some j =>
    rw [e] at h
    exact r.get h
theorem plain_ix {i : Expr} (h : isSl i = false) : PlainIx i := by
  intro o j
  cases i <;> first | rfl | (simp [isSl] at h)
theorem st_ix (T : Fits X C B k) (S : SoO X C F B) (a i : Expr) (p : Pos) (hi : isSl i = false) : PE X (.Subscript a i p) (tO X.K (stepO C F B (.Subscript a i p))) := by
  refine (pe_ix (ix_seq.or (ix_dx (by have := T.room.units; omega))) (S.o a) (S.o i) (plain_ix hi)).imp fun σ H Q h => ?_
  obtain ⟨P, Z, ρ, r, x, e, q⟩ := h
  have e : (if isSl i then none else (F.o B a ρ).bind fun r => (F.o B i r.2.2).bind fun q => (rdO q.2.2 r.1).bind fun x => (rdO q.2.2 q.1).bind fun y => (idxD x y).bind fun d => some (Opn.val d, false, q.2.2)) = some r := by
    cases i <;> first | exact e | (simp [isSl] at hi)
  obtain ⟨_, e⟩ := ite_some' e
  obtain ⟨r1, e1, e⟩ := bind_some e
  obtain ⟨r2, e2, e⟩ := bind_some e
  obtain ⟨d1, e3, e⟩ := bind_some e
  obtain ⟨d2, e4, e⟩ := bind_some e
  obtain ⟨d, e5, e⟩ := bind_some e
  cases e
  refine two S x e1 e2 fun v w H' s2 o1 o2 sh => ?_
  have o1 := o1.opd s2 e3
  have o2 := o2.opd s2 e4
  unfold idxD at e5
  split at e5
  · obtain ⟨a, xs, rfl, g1, r⟩ := o1.lst_inv
    obtain rfl := o2.int_inv
    obtain ⟨v, g2, r2⟩ := atI_rep r e5
    exact .inl (.inl ⟨a, xs, _, v, rfl, rfl, SqL.of g1, g2, q _ _ ⟨s2, r2⟩ sh⟩)
  · obtain ⟨a, xs, rfl, g1, r⟩ := o1.tup_inv
    obtain rfl := o2.int_inv
    obtain ⟨v, g2, r2⟩ := atI_rep r e5
    exact .inl (.inr (.inl ⟨a, xs, _, v, rfl, rfl, g1.sq, g2, q _ _ ⟨s2, r2⟩ sh⟩))
  · split at e5
    · rename_i hz
      obtain rfl := o1.str_inv
      obtain rfl := o2.int_inv
      obtain ⟨c, g1, rfl⟩ := map_some e5
      exact .inl (.inr (.inr ⟨_, _, c, rfl, rfl, hz, g1, q _ _ ⟨s2, .str _⟩ sh⟩))
    · cases e5
  · split at e5
    · rename_i hk
      obtain ⟨a, r, rfl, g, rel⟩ := o1.dget o2 hk
      rw [e5] at rel
      cases r with
      | none => exact rel.elim
      | some v => exact .inr ⟨a, v, rfl, g, q _ _ ⟨s2, rel⟩ sh⟩
    · cases e5
  · cases e5
/-! slices -/
def tP (K : PySem.W.Frag) (f : En → Option (Option Int × En)) : TO := fun σ H Q => ∃ P Z ρ r, Stt K P Z ρ σ H ∧ f ρ = some r ∧ ∀ H', Stt K P Z r.2 σ H' → Shr ρ r.2 → Q r.1 H'
theorem _root_.L2.PO.imp {X : Cx} {e : Option Expr} {t t' : TO} (h : PO X e t) (i : ∀ σ H Q, t' σ H Q → t σ H Q) : PO X e t' := ⟨fun pins s σ H Q I q => h.run pins s σ H Q I (i _ _ _ q)⟩
theorem po_part (S : SoO X C F B) (e : Option Expr) : PO X e (tP X.K (partE F B e)) := by
  cases e with
  | none =>
    refine po_none.imp fun σ H Q h => ?_
    obtain ⟨P, Z, ρ, r, x, e, q⟩ := h
    cases e
    exact q H x (.refl ρ)
  | some e =>
    refine (po_some (S.o e)).imp fun σ H Q h => ?_
    obtain ⟨P, Z, ρ, r, x, e, q⟩ := h
    obtain ⟨r1, e1, e⟩ := bind_some e
    refine ⟨P, Z, ρ, r1, x, e1, fun v H1 v1 sh => ?_⟩
    obtain ⟨s1, o1⟩ := v1.stt
    split at e
    · rename_i i hi
      cases e
      rw [hi] at o1
      have o1 : Rep X.K H1 (UU r1.2.2 σ Z) v (.int i) := o1
      exact ⟨i, o1.int_inv, q H1 s1 sh⟩
    · cases e
theorem cutV_rep {K : PySem.W.Frag} {H : Hp} {U : Addr → Prop} {xs : List V} {ds : List PyData} (r : RepAll K H U xs ds) (lo hi : Option Int) : RepAll K H U (cutV xs lo hi) (cutP ds lo hi) := by
  unfold cutV cutP
  rw [r.length]
  exact (r.drop _).take _
theorem cut_whole (ds : List PyData) (lo hi : Option Int) (h : HT.sIx ds.length 0 lo = 0 ∧ HT.sIx ds.length ds.length hi = ds.length) : cutP ds lo hi = ds := by
  unfold cutP
  rw [h.1, h.2]
  simp
theorem zK (ks : List Key) (ds : List PyData) (x : PyData) : (ks.map keyD).zip ds ≠ [(PyData.none, x)] := fun h => by
  cases ks with
  | nil => simp at h
  | cons k ks =>
    cases ds with
    | nil => simp at h
    | cons d ds =>
      simp only [List.map_cons, List.zip_cons_cons, List.cons.injEq, Prod.mk.injEq] at h
      cases k <;> simp [keyD] at h
theorem zT (ks : List (List Key)) (ds : List PyData) (x : PyData) : (ks.map keysD).zip ds ≠ [(PyData.none, x)] := fun h => by
  cases ks with
  | nil => simp at h
  | cons k ks =>
    cases ds with
    | nil => simp at h
    | cons d ds =>
      simp only [List.map_cons, List.zip_cons_cons, List.cons.injEq, Prod.mk.injEq] at h
      simp [keysD] at h
theorem rep_ints {K : PySem.W.Frag} {H : Hp} {U : Addr → Prop} : ∀ ns : List Int, RepAll K H U (ns.map V.int) (ns.map PyData.int)
  | [] => .nil
  | n :: ns => .cons (.int n) (rep_ints ns)
theorem scr_inv {K : PySem.W.Frag} {H : Hp} {U : Addr → Prop} {v : V} {ds : List PyData} (h : Opd K H U v (.dict [(.none, .list ds)])) : ∃ a xs, v = .ref a ∧ SqL K H a xs ∧ RepAll K H U xs ds := by
  generalize hd : PyData.dict [(.none, .list ds)] = d at h
  cases h with
  | own h =>
    cases h with
    | lst _ _ => cases hd
    | dK l _ _ => exact (zK _ _ _ (PyData.dict.inj hd).symm).elim
    | dT l _ _ => exact (zT _ _ _ (PyData.dict.inj hd).symm).elim
  | rep h =>
    cases h with
    | dK l _ _ => exact (zK _ _ _ (PyData.dict.inj hd).symm).elim
    | dT l _ _ => exact (zT _ _ _ (PyData.dict.inj hd).symm).elim
    | scr h =>
      simp only [scrD, PyData.dict.injEq, List.cons.injEq, Prod.mk.injEq, PyData.list.injEq, true_and, and_true] at hd
      subst hd
      refine ⟨_, _, rfl, ?_, rep_ints _⟩
      rcases h with ⟨h, _⟩ | h | h
      · exact .inl (.inr ⟨_, h⟩)
      · exact (rd_none h).elim
      · exact .inr h
    | _ => cases hd
theorem st_sl (S : SoO X C F B) (a : Expr) (lo hi : Option Expr) (p2 p : Pos) : PE X (.Subscript a (.Slice lo hi none p2) p) (tO X.K (stepO C F B (.Subscript a (.Slice lo hi none p2) p))) := by
  refine (pe_slice (sl_list.or (sl_tupX.or sl_str)) (S.o a) (po_part S lo) (po_part S hi)).imp fun σ H Q h => ?_
  obtain ⟨P, Z, ρ, r, x, e, q⟩ := h
  obtain ⟨r1, e1, e⟩ := bind_some e
  obtain ⟨r2, e2, e⟩ := bind_some e
  obtain ⟨r3, e3, e⟩ := bind_some e
  obtain ⟨d1, e4, e⟩ := bind_some e
  obtain ⟨d, e5, e⟩ := bind_some e
  cases e
  refine ⟨P, Z, ρ, r1, x, e1, fun v H1 v1 sh => ?_⟩
  obtain ⟨s1, o1⟩ := v1.stt
  refine ⟨_, Z, _, r2, s1.push, e2, fun H2 s2 sh2 => ?_⟩
  have o2 := o1.later s2 sh2
  refine ⟨_, Z, _, r3, s2.pop.push, e3, fun H3 s3 sh3 => ?_⟩
  have o3 := (o2.later s3 sh3).opd s3 e4
  have s3 := s3.pop
  have sh' := sh.trans (sh2.trans sh3)
  unfold cutD at e5
  split at e5
  · cases e5
    obtain ⟨a, xs, rfl, g1, rr⟩ := o3.lst_inv
    exact .inl ⟨a, xs, rfl, SqL.of g1, fun p hp => q _ _ (Val.newLst s3 hp (cutV_rep rr _ _)) sh'⟩
  · cases e5
    obtain ⟨a, xs, rfl, g1, rr⟩ := o3.tup_inv
    refine .inr (.inl ⟨a, xs, rfl, g1.sq, fun hw => ?_, fun _ p o hp hd => q _ _ (Val.newTup s3 hp hd (cutV_rep rr _ _)) sh'⟩)
    rw [rr.length] at hw
    refine q _ _ ⟨s3, ?_⟩ sh'
    rw [cut_whole _ _ _ hw]
    exact .tup g1 rr
  · split at e5
    · rename_i hz
      cases e5
      obtain rfl := o3.str_inv
      exact .inr (.inr ⟨_, rfl, hz, q _ _ ⟨s3, .str _⟩ sh'⟩)
    · cases e5
  · cases e5
    obtain ⟨a, xs, rfl, g1, rr⟩ := scr_inv o3
    exact .inl ⟨a, xs, rfl, g1, fun p hp => q _ _ (Val.newLst s3 hp (cutV_rep rr _ _)) sh'⟩
  · cases e5
end
end Pf


namespace Pf
open PySem PySem.Spec L2
/-! ## x[::-1] -/
theorem rev_pick (z : Str) : ((Builtin.Str.strSliceIndices none none (-1) z.length).filterMap (z.cps[·]?)).toArray = z.cps.toList.reverse.toArray := by
  show ((sliceRange ((z.cps.size : Int) - 1) (-1) (-1)).filterMap (z.cps[·]?)).toArray = _
  rw [PySem.W.krv_sliceRange, PySem.W.krv_range, List.filterMap_reverse, PySem.W.krv_all]
section
variable {prog : Program} {w : World} {A : Around} {E : Value → Shared → Prop} {s : Shared}
theorem rev_places (n : Nat) : Builtin.Slice.sliceAdjust none none (-1) (n : Int) = ((n : Int) - 1, -1) := by
  simp [Builtin.Slice.sliceAdjust]
theorem rev_count (n : Nat) : Builtin.Slice.slicePlaces ((n : Int) - 1) (-1) (-1) = n := by
  unfold Builtin.Slice.slicePlaces
  by_cases h : n = 0
  · subst h; rfl
  · simp
    omega
theorem rev_applied {sl : Addr} {vs : Value} {n : Nat} {Q : Int × Int × Nat → Shared → Prop} (hs : s.heap.IsSliceOf sl .none .none vs) (ps : IsPart vs (some (-1)))
    (h : Q ((n : Int) - 1, -1, n) s) : wpAny (model prog w) A (Builtin.Slice.sliceApplied (.ref sl) (pure (n : Int))) Q E s := by
  obtain ⟨os, hos, hcs, hds⟩ := id hs
  unfold Builtin.Slice.sliceApplied Builtin.Slice.sliceFields
  refine wpAny_bind (wpAny_bind (wpAny_field hos hds (x := .none) rfl (wpAny_bind (wpAny_field hos hds (x := .none) rfl (wpAny_bind (wpAny_field hos hds (x := vs) rfl (wpAny_pure ?_)))))))
  refine wpAny_bind (HT.slicePart_ ps ?_)
  show wpAny _ _ (if ((-1 : Int) == 0) = true then _ else _) _ _ s
  rw [if_neg (by decide)]
  refine wpAny_bind (HT.slicePart_ .none (wpAny_bind (HT.slicePart_ .none (wpAny_bind (wpAny_pure ?_)))))
  show wpAny _ _ (match Builtin.Slice.sliceAdjust none none (-1) (n : Int) with | (lo, hi) => pure (lo, (-1 : Int), Builtin.Slice.slicePlaces lo hi (-1))) _ _ s
  rw [rev_places n]
  show wpAny _ _ (pure ((n : Int) - 1, (-1 : Int), Builtin.Slice.slicePlaces ((n : Int) - 1) (-1) (-1))) _ _ s
  rw [rev_count]
  exact wpAny_pure h
theorem fm_congr {α β : Type} {f g : α → Option β} : ∀ {l : List α}, (∀ a ∈ l, f a = g a) → l.filterMap f = l.filterMap g
  | [], _ => rfl
  | a :: l, h => by
    rw [List.filterMap_cons, List.filterMap_cons, h a List.mem_cons_self, fm_congr fun b hb => h b (List.mem_cons_of_mem _ hb)]
theorem pick_rev (xs : Array Value) : ((List.range xs.size).filterMap fun (m : Nat) => xs[(((xs.size : Int) - 1) + (m : Int) * (-1)).toNat]?).toArray = xs.toList.reverse.toArray := by
  have e : (List.range xs.size).filterMap (fun (m : Nat) => xs[(((xs.size : Int) - 1) + (m : Int) * (-1)).toNat]?) = ((List.range xs.size).map fun k => xs.size - 1 - k).filterMap (xs[·]?) := by
    rw [List.filterMap_map]
    refine fm_congr fun m hm => ?_
    have := List.mem_range.mp hm
    have q : (((xs.size : Int) - 1) + (m : Int) * (-1)).toNat = xs.size - 1 - m := by omega
    rw [q]
    rfl
  rw [e, PySem.W.krv_range, List.filterMap_reverse, PySem.W.krv_all]
end
section
open PySem PySem.Calls PyProof PyProof.Rows PyProof.V PySem.Spec L2
variable {prog : Program} {w : World} {A : Around} {E : Value → Shared → Prop} {s : Shared}
theorem getItem_tuple_rev {t sl : Addr} {items : Array Value} {vs : Value} {Q : Value → Shared → Prop} (ht : IsTup s.heap t items) (hs : s.heap.IsSliceOf sl .none .none vs) (ps : IsPart vs (some (-1)))
    (h : Q (.ref s.heap.objs.size) { s with heap := s.heap.push { cls := .type "tuple", data := .seq items.toList.reverse.toArray } })
    (hsz : items.size ≤ sizeLine) : wpAny (model prog w) A (getItem (.ref t) (.ref sl)) Q E s := by
  have htake : sizeOk (.seq items.toList.reverse.toArray) := by
    show items.toList.reverse.toArray.size ≤ sizeLine
    rw [List.size_toArray, List.length_reverse, Array.length_toList]
    exact hsz
  obtain ⟨os, hos, hcs, hds⟩ := id hs
  have hTs : s.TypeIs (.ref sl) "slice" := ⟨os, hos, hcs⟩
  unfold getItem
  try with_reducible refine wpAny_holding ?_
  first | refine wpAny_bind (wpAny_pure ?_) | skip
  refine wpAny_bind (wpAny_sequenceKey ht.typeIs (by decide) ?_)
  refine wpAny_bind (wpAny_callSpecial?_slot (name := Str.ofString "__getitem__") ht.typeIs PyProof.Rows.slot_tuple_getitem
    (wpAny_call_entry PyProof.Rows.slot_tuple_getitem ht.typeIs entry_tuple_getitem ?_ (args_tuple_getitem _ _)))
  show wpAny _ _ (Builtin.Tuple.tupleItemsOf (.ref t) >>= _) _ _ s
  refine wpAny_bind (PyProof.Rows.tupleItemsOf_ ht ?_)
  refine wpAny_bind (wpAny_typeOf hTs ?_)
  rw [if_pos (by decide)]
  refine wpAny_bind (rev_applied hs ps ?_)
  have hno : ¬ (((items.size : Int) - 1 == 0 && (-1 : Int) == 1 && items.size == items.size) = true) := by
    intro q
    rw [Bool.and_eq_true, Bool.and_eq_true] at q
    exact absurd q.1.2 (by decide)
  show wpAny _ _ (if (((items.size : Int) - 1) == 0 && (-1 : Int) == 1 && items.size == items.size) = true then _ else _) _ _ s
  rw [if_neg hno, pick_rev]
  first
    | exact wpAny_bind (m := Builtin.Tuple.tupleExact _) (wpAny_newObj_type (wpAny_pure ⟨_, rfl, wpAny_pure h⟩) htake)
    | exact wpAny_bind (m := Builtin.Tuple.tupleExact _) (wpAny_newObj_type (wpAny_bind (wpAny_pure (wpAny_pure ⟨_, rfl, wpAny_pure h⟩))) htake)
    | exact wpAny_bind (wpAny_bind (m := Builtin.Tuple.tupleExact _) (wpAny_newObj_type (wpAny_pure (wpAny_pure ⟨_, rfl, wpAny_pure h⟩)) htake))
    | exact wpAny_bind (wpAny_bind (m := Builtin.Tuple.tupleExact _) (wpAny_newObj_type (wpAny_pure ⟨_, rfl, wpAny_pure h⟩) htake))
end
theorem revS_len (z : Str) : (revS z).length = z.length := by
  show z.cps.toList.reverse.toArray.size = z.cps.size
  simp
section
variable {X : Cx}
def rRv (K : PySem.W.Frag) : V → Hp → VK → Prop := fun x H Q => (∃ a xs, x = .ref a ∧ SqL K H a xs ∧ ∀ p, H p = none → Q (.ref p) (upd H p (.lst xs.reverse))) ∨
  (∃ a xs, x = .ref a ∧ SqT K H a xs ∧ ∀ p o, H p = none → o.dict = none → Q (.ref p) (upd H p (tupH o xs.reverse))) ∨ (∃ z, x = .str z ∧ z.length ≤ sizeLine ∧ Q (.str (revS z)) H)
theorem pe_rev {e : Expr} {te : TE} {k : Nat} {p1 p2 p3 pos : Pos} (he : PE X e te) : PE X (.Subscript e (.Slice none none (some (.UnaryOp .USub (.Constant (.int 1) k p1) p2)) p3) pos) (fun σ H Q => te σ H fun x H1 => rRv X.K x H1 Q) := by
  refine ⟨fun pins s σ H Q I h => ?_⟩
  refine PyProof.Rows.Subscript_ (thn (he.run pins s σ H _ I h) fun v s1 ⟨x, H1, I1, r1, q⟩ => ?_)
  have hst : PO X (some (.UnaryOp .USub (.Constant (.int 1) k p1) p2)) (tPart (tUn (rU fun i => .int (-i)) (tC (.int 1)))) := po_some (pe_un un_neg pe_int)
  refine wpAny_Slice (thn (po_none.run pins s1 σ H1 (fun o H2 => o = none ∧ H2 = H1) I1 ⟨rfl, rfl⟩) fun vl s2 ⟨l, H2, I2, pl, el, e2⟩ => ?_)
  subst el e2
  refine thn (po_none.run pins s2 σ H2 (fun o H3 => o = none ∧ H3 = H2) I2 ⟨rfl, rfl⟩) fun vu s3 ⟨u, H3, I3, pu, eu, e3⟩ => ?_
  subst eu e3
  refine thn (hst.run pins s3 σ H3 (fun o H4 => o = some (-1) ∧ H4 = H3) I3 ⟨1, rfl, -1, rfl, rfl, rfl⟩) fun vs s4 ⟨o, H4, I4, ps, eo, e4⟩ => ?_
  subst eo e4
  have I5 : L2.Inv X pins σ H4 { s4 with heap := s4.heap.push { cls := .type "slice", data := .fields #[vl, vu, vs] } } := I4.kept (t' := s4.toks) fun b ob q => Heap.get?_push_of_some _ q
  cases pl
  cases pu
  show wpAny (model X.prog X.w) X.A (PyProof.Rows.subscriptTail e (.Slice none none (some (.UnaryOp .USub (.Constant (.int 1) k p1) p2)) p3) v (.ref s4.heap.objs.size)) (EP X pins σ Q) X.xe { s4 with heap := s4.heap.push { cls := .type "slice", data := .fields #[.none, .none, vs] } }
  rcases q with ⟨a, xs, ex, hx, q⟩ | ⟨a, xs, ex, gx, q⟩ | ⟨z, ex, hz, q⟩
  · subst ex
    cases r1
    obtain ⟨its, r, ht, hz⟩ := I5.list hx
    have hlen := r.length
    refine PyProof.Rows.tail_any (ops := [.ref a, .ref s4.heap.objs.size]) ht.isList.typeIs (PySem.slot_list_getitem.lookup) ?_ (by with_unfolding_all rfl)
    refine wpAny_getItem_list_slice ht.isList (Heap.IsSliceOf.new _ .none .none vs) .none .none ps (by decide) ?_ (by rw [List.size_toArray]; omega)
    rw [PySem.W.krv_pick]
    refine ⟨.ref _, _, I5.laid (t' := s4.toks) (o := .lst xs.reverse) (fun b ob q => Heap.get?_push_of_some _ q) (Nat.le_refl _) ?_, rfl, q _ (I5.hok.fresh (Nat.le_refl _))⟩
    exact ⟨by rw [List.length_reverse]; exact hz, _, 0, r.reverse, Heap.get?_push_size _ rfl⟩
  · subst ex
    cases r1
    obtain ⟨us, ru, tu, hz⟩ := I5.tuple gx
    refine PyProof.Rows.tail_any (ops := [.ref a, .ref s4.heap.objs.size]) tu.typeIs PyProof.Rows.slot_tuple_getitem.lookup ?_ (by with_unfolding_all rfl)
    refine getItem_tuple_rev tu (Heap.IsSliceOf.new _ .none .none vs) ps ?_ (by rw [List.size_toArray, ← ru.length]; exact hz)
    exact lay_tup (t := s4.toks) I5 ru.reverse (by rw [List.length_reverse]; exact hz) q
  · subst ex
    obtain ⟨t, rfl⟩ := r1
    obtain ⟨u, hu, hv⟩ := IsPart.raw ps
    obtain ⟨os, hos, hcs, hds⟩ := Heap.IsSliceOf.new s4.heap .none .none vs
    refine PyProof.Rows.tail_any (ops := [.str z t, .ref s4.heap.objs.size]) (T := "str") (typeIs_str _ _ _) (F.slot_str_getitem.lookup) ?_ (by with_unfolding_all rfl)
    subst hu
    cases u with
    | none => cases hv
    | some it =>
      obtain ⟨i, tk⟩ := it
      cases hv
      refine wpAny_getItem_str_slice (l := none) (u := none) (st := some (Int.negSucc 0, tk)) ⟨os, hos, hcs, hds⟩ rfl ?_
      have hl : (revS z).length ≤ sizeLine := by rw [revS_len]; exact hz
      have e : sliceMade z t none none (some (Int.negSucc 0, tk)) = Made.str (revS z) := by
        show (if ((-1 : Int) == 1 && (Builtin.Str.strSliceIndices none none (-1) z.length).length == z.length) = true then Made.val (.str z t) else Made.str ⟨((Builtin.Str.strSliceIndices none none (-1) z.length).filterMap (z.cps[·]?)).toArray⟩) = _
        have c : ((-1 : Int) == 1 && (Builtin.Str.strSliceIndices none none (-1) z.length).length == z.length) = false := rfl
        rw [c, rev_pick]
        rfl
      rw [e]
      exact ⟨hl, .str _, H4, I5.tok _, ⟨_, rfl⟩, q⟩
end
section
variable {X : Cx} {C : Ctx} {F : Fns} {B : Bk}
theorem isRev_inv : ∀ {lo hi : Option Expr} {st : Expr}, isRev lo hi st = true → ∃ k p1 p2, lo = none ∧ hi = none ∧ st = .UnaryOp .USub (.Constant (.int 1) k p1) p2 := by
  intro lo hi st h
  unfold isRev at h
  split at h
  · exact ⟨_, _, _, rfl, rfl, rfl⟩
  · cases h
theorem st_rev (S : SoO X C F B) (a : Expr) (lo hi : Option Expr) (st : Expr) (p2 p : Pos) : PE X (.Subscript a (.Slice lo hi (some st) p2) p) (tO X.K (stepO C F B (.Subscript a (.Slice lo hi (some st) p2) p))) := by
  by_cases hr : isRev lo hi st = true
  · obtain ⟨k, p3, p4, rfl, rfl, rfl⟩ := isRev_inv hr
    refine (pe_rev (S.o a)).imp fun σ H Q h => ?_
    obtain ⟨P, Z, ρ, r, x, e, q⟩ := h
    replace e : ((F.o B a ρ).bind fun r => (rdO r.2.2 r.1).bind fun d => (revD d).bind fun z => some (resD r.2.2 z)) = some r := e
    obtain ⟨r1, e1, e⟩ := bind_some e
    obtain ⟨d1, e4, e⟩ := bind_some e
    obtain ⟨d, e5, e⟩ := bind_some e
    cases e
    refine ⟨P, Z, ρ, r1, x, e1, fun v H1 v1 sh => ?_⟩
    obtain ⟨s1, o1⟩ := v1.stt
    have o3 := o1.opd s1 e4
    unfold revD at e5
    split at e5
    · cases e5
      obtain ⟨b, xs, rfl, g1, rr⟩ := o3.lst_inv
      exact .inl ⟨b, xs, rfl, SqL.of g1, fun p hp => q _ _ (Val.newLst s1 hp rr.reverse) sh⟩
    · cases e5
      obtain ⟨b, xs, rfl, g1, rr⟩ := o3.tup_inv
      exact .inr (.inl ⟨b, xs, rfl, g1.sq, fun p o hp hd => q _ _ (Val.newTup s1 hp hd rr.reverse) sh⟩)
    · split at e5
      · rename_i hz
        cases e5
        obtain rfl := o3.str_inv
        exact .inr (.inr ⟨_, rfl, hz, q _ _ ⟨s1, .str _⟩ sh⟩)
      · cases e5
    · cases e5
  · refine .no fun σ H Q h => ?_
    obtain ⟨P, Z, ρ, r, s, e, q⟩ := h
    replace e : (if isRev lo hi st then (F.o B a ρ).bind fun r => (rdO r.2.2 r.1).bind fun d => (revD d).bind fun z => some (resD r.2.2 z) else none) = some r := e
    rw [if_neg hr] at e
    cases e
end
end Pf


namespace Pf
open PySem PySem.Calls PyProof.Rows PyProof PySem.Spec PySem.W
section
open PySem.SeqAt
variable {A : Around} {s : Shared}
theorem call_tuple_ltX {prog : Program} {w : World} {E : Value → Shared → Prop} {Q : Value → Shared → Prop} {l b : Addr} {items items2 : Array Value} {e r : Nat → Bool} (hl : s.heap.IsTuple l items) (hb : s.heap.IsTuple b items2)
    (he : ∀ j (h1 : j < items.size) (h2 : j < items2.size), EqAt A.in1 s items[j] items2[j] (e j)) (hr : ∀ j (h1 : j < items.size) (h2 : j < items2.size), e j = false → RcLt A.in1 s items[j] items2[j] (r j))
    (h : Q (.bool (firstLt e r (decide (items.size < items2.size)) (List.range (min items.size items2.size)))) s) : wpAny (model prog w) A (call (.builtin "tuple.__lt__") [.ref l, .ref b]) Q E s := by
  obtain ⟨⟨cls, dd, data, sl⟩, ho, hc, n, hd⟩ := id hl
  obtain ⟨⟨cls2, dd2, data2, sl2⟩, ho2, hc2, n2, hd2⟩ := id hb
  simp only at hc hd hc2 hd2
  subst hc hd hc2 hd2
  exact call_meets F.slot_tuple_lt ⟨_, ho, rfl⟩ F.entry_tuple_lt (F.args_tuple_lt_2 _ _) (tuple_ltAt l b items items2 n n2 dd dd2 sl sl2 e r) ⟨ho, ho2, he, hr, h⟩
end
section
open PySem.SeqAt
variable {prog : Program} {w : World} {A : Around} {E : Value → Shared → Prop} {s : Shared}
theorem oneLt_any {f : Bool} {da db : PyData} {a b : Value} {as bs : List Addr} {Q : Bool → Shared → Prop} (ra : Reads s.heap a da as) (rb : Reads s.heap b db bs) (h : alike da db = true) (hn : da ≠ .none)
    (hu : A.units + min da.depth db.depth < cLine) (hq : Q (dataLt da db) s) : wpAny (model prog w) A (oneLt' f a b) Q E s := by
  cases f with
  | false => exact oneLt_alike (fun e => by cases e) ra rb h hn hu hq
  | true =>
    cases da with
    | tuple xs =>
      cases db with
      | tuple ys =>
        have hal : alikeAll xs ys = true := by simpa [alike] using h
        cases ra with
        | @tuple l o vs n _ as₁ h1 h2 h3 h4 =>
          cases rb with
          | @tuple l' o' vs' n' _ bs₁ k1 k2 k3 k4 =>
            have n1 : vs.size = xs.length := by simpa using ReadsAll.length _ _ _ h4
            have n2 : vs'.size = ys.length := by simpa using ReadsAll.length _ _ _ k4
            rw [dataLt_tuple, ← firstLt_toks xs ys hal, ← n1, ← n2] at hq
            rw [oneLt'_eq]
            simp only [if_true]
            refine wpAny_bind (wpAny_cRoomFor (room_here hu) ?_)
            refine wpAny_bind (wpAny_callSpecialIfBound?_slot (T := "tuple") ⟨_, h1, h2⟩ F.slot_tuple_lt (call_tuple_ltX (e := pairEq xs ys) (r := fun j => dataLt (xs.getD j .none) (ys.getD j .none)) ⟨_, h1, h2, _, h3⟩ ⟨_, k1, k2, _, k3⟩ (fun j j1 j2 => ?_) (fun j j1 j2 hj => ?_) ?_))
            · have := eqAt_alikeAll xs ys A.in1 s vs.toList vs'.toList _ _ h4 k4 hal (room_in hu) j (by simpa using j1) (by simpa using j2)
              simpa using this
            · have := rcLt_alikeAll xs ys A.in1 s vs.toList vs'.toList _ _ h4 k4 hal (room_in hu) j (by simpa using j1) (by simpa using j2) hj
              simpa using this
            · exact wpAny_truthy_bool hq
      | _ => exact absurd h (by simp [alike])
    | none => exact absurd rfl hn
    | _ => exact oneLt_alike (fun _ xs e => by cases e) ra rb h hn hu hq
end
/-! ### the kind of keys where some tuple is empty -/
section
variable {M : Model} {A : Around} {E : Value → Shared → Prop} {s : Shared}
def TupsO (h : Heap) : List Value → List (Option Value) → Prop
  | [], [] => True
  | v :: vs, f :: fs => (∃ a o xs n, v = .ref a ∧ h.get? a = some o ∧ o.cls = .type "tuple" ∧ o.data = .seq xs n ∧ xs[0]? = f) ∧ TupsO h vs fs
  | _, _ => False
theorem firstsO : ∀ (vs : List Value) (fs : List (Option Value)) {Q : List (Option Value) → Shared → Prop}, TupsO s.heap vs fs → Q fs s → wpAny M A (vs.mapM firstOfTuple') Q E s
  | [], [], _, _, h => by rw [List.mapM_nil]; exact wpAny_pure h
  | [], _ :: _, _, t, _ => t.elim
  | _ :: _, [], _, t, _ => t.elim
  | v :: vs, f :: fs, Q, t, h => by
    obtain ⟨⟨a, o, xs, n, rfl, ho, hc, hd, hf⟩, t⟩ := t
    rw [List.mapM_cons]
    refine wpAny_bind ?_
    rw [kas_first_eq]
    refine wpAny_bind (Looks.here (show Looks M s.heap (typeOf (.ref a)) o.cls from (Looks.ld ho).andThen .now) ?_)
    rw [hc, if_neg (by first | decide | simp)]
    refine wpAny_bind (listItems_at ho hd (wpAny_pure ?_))
    rw [hf]
    exact wpAny_bind (firstsO vs fs (Q := fun bs s' => wpAny M A (pure (f :: bs)) Q E s') t (wpAny_pure h))
def kindO : List (Option Value) → SortKind
  | some _ :: _ => general'
  | _ => oneType'
theorem kind_tupO {vs : List Value} {fs : List (Option Value)} {Q : SortKind → Shared → Prop} (h2 : 2 ≤ vs.length) (t : TupsO s.heap vs fs) (hn : none ∈ fs) (h : Q (kindO fs) s) : wpAny M A (keyKind' vs.toArray) Q E s := by
  rw [kat_kind_eq, List.mapM_toArray, map_eq_pure_bind]
  refine wpAny_bind (wpAny_bind (firstsO vs fs t (wpAny_pure ?_)))
  have hall : ¬ ((fs.toArray.all fun x => x.isSome) = true) := by
    rw [List.all_toArray, List.all_eq_true]
    intro q
    exact absurd (q _ hn) (by simp)
  rw [if_neg hall]
  have tys : ∀ v ∈ vs, Looks M s.heap (typeOf v) (Value.type "tuple") := by
    clear h2 h hn hall
    induction vs generalizing fs with
    | nil => intro v hv; cases hv
    | cons v vs ih =>
      cases fs with
      | nil => exact t.elim
      | cons f fs =>
        obtain ⟨⟨a, o, xs, n, rfl, ho, hc, hd, hf⟩, t⟩ := t
        intro u hu
        rcases List.mem_cons.mp hu with rfl | hu
        · exact hc ▸ (show Looks M s.heap (typeOf (.ref a)) o.cls from (Looks.ld ho).andThen .now)
        · exact ih t u hu
  cases fs with
  | nil => cases hn
  | cons f fr =>
    cases f with
    | some f =>
      rw [if_pos (by simp)]
      exact wpAny_pure h
    | none =>
      rw [if_neg (by simp)]
      obtain ⟨v₁, rest, rfl⟩ : ∃ v₁ rest, vs = v₁ :: rest := by
        cases vs with
        | nil => simp at h2
        | cons a b => exact ⟨_, _, rfl⟩
      rw [oneTypeOnly'_eq, List.mapM_toArray, map_eq_pure_bind]
      refine wpAny_bind (wpAny_bind (wpAny_bind (kas_mapM (r := Value.type "tuple") _ (fun v hv Q' hq => (tys v hv).here hq) (wpAny_pure ?_))))
      have hall : ((List.map (fun _ => Value.type "tuple") (v₁ :: rest)).toArray.all fun x => x == Value.type "tuple") = true := by
        simp only [List.all_toArray, List.all_map, List.all_eq_true]
        intro _ _
        exact beq_self_eq_true _
      have h0 : (List.map (fun _ => Value.type "tuple") (v₁ :: rest)).toArray[0]? = some (Value.type "tuple") := by simp
      rw [h0]
      simp only [hall, if_true]
      exact wpAny_pure (wpAny_pure h)
end
section
open PySem.SeqAt
variable {prog : Program} {w : World} {A : Around} {s : Shared}
theorem each_tupsO {h : Heap} : ∀ {vs : List Value} {ds : List PyData}, EachIs (fun v d => ∃ as, Reads h v d as) vs ds → (∀ d, d ∈ ds → ∃ xs, d = .tuple xs) → ∃ fs, TupsO h vs fs ∧ (PyData.tuple [] ∈ ds → none ∈ fs)
  | _, _, .nil, _ => ⟨[], trivial, fun h => by cases h⟩
  | _, _, .cons (b := d) ⟨as, r⟩ t, ht => by
    obtain ⟨fs, h1, h2⟩ := each_tupsO t fun d hd => ht d (List.mem_cons_of_mem _ hd)
    obtain ⟨xs, rfl⟩ := ht d (List.mem_cons_self ..)
    cases r with
    | @tuple a o us n _ _ ho hc hd hr =>
      refine ⟨us[0]? :: fs, ⟨⟨a, o, us, n, rfl, ho, hc, hd, rfl⟩, h1⟩, fun hm => ?_⟩
      rcases List.mem_cons.mp hm with e | hm
      · injection e with e
        subst e
        have hl := ReadsAll.length _ _ _ hr
        have : us.size = 0 := by simpa using hl
        have q : us[0]? = none := Array.getElem?_eq_none (by omega)
        rw [q]
        exact List.mem_cons_self
      · exact List.mem_cons_of_mem _ (h2 hm)
/-- all are tuples, or none is a tuple or None -/
def SortableX (ds : List PyData) : Prop := (∀ d, d ∈ ds → ∃ xs, d = .tuple xs) ∨ ∀ d, d ∈ ds → d ≠ .none ∧ ∀ xs, d ≠ .tuple xs
theorem sortsAtX {vs : List Value} {ds : List PyData} (e : EachIs (fun v d => ∃ as, Reads s.heap v d as) vs ds) (hal : AllAlike ds) (hk : SortableX ds) (hu : ∀ d, d ∈ ds → A.units + d.depth < cLine) : SortsAt prog w A s (dataKind s.heap ds) vs := by
  rcases hk with ht | hn
  · by_cases hem : PyData.tuple [] ∈ ds
    · have room : ∀ {d d' : PyData}, d ∈ ds → A.units + min d.depth d'.depth < cLine := fun {d d'} hd => Nat.lt_of_le_of_lt (Nat.add_le_add_left (Nat.min_le_left _ _) _) (hu d hd)
      refine ⟨fun v hv => ?_, ?_⟩
      · obtain ⟨d, hd, as, r⟩ := e.left v hv
        exact ⟨_, dataKind_some hal hd r⟩
      · obtain ⟨fs, t1, t2⟩ := each_tupsO e ht
        refine ⟨kindO fs, ?_, fun h2 E Q hq => kind_tupO h2 t1 (t2 hem) hq⟩
        intro E x y a b Q ha hb hq
        obtain ⟨d, as, hd, ra, rfl⟩ := dataKind_inv ha
        obtain ⟨d', as', hd', rb, rfl⟩ := dataKind_inv hb
        have hnn : d ≠ .none := by
          obtain ⟨xs, rfl⟩ := ht d hd
          intro q
          cases q
        have key : ∀ f, wpAny (model prog w) A (oneLt' f x y) Q E s := fun f => oneLt_any ra rb (hal d hd d' hd') hnn (room hd) hq
        unfold kindO
        split
        · exact key false
        · exact key true
    · refine SortsAt.data e hal (.inl fun d hd => ?_) hu
      obtain ⟨xs, rfl⟩ := ht d hd
      cases xs with
      | nil => exact absurd hd hem
      | cons x xs => exact ⟨x, xs, rfl⟩
  · exact SortsAt.data e hal (.inr hn) hu
end
section
variable {prog : Program} {w : World} {A : Around} {E : Value → Shared → Prop} {s : Shared} {β : Type} {vs : List Value} {bs : List β} {enc : β → PyData} {R : Value → β → Prop}
theorem sorted_dataX {l : Addr} {Q : Value → Shared → Prop} (hl : s.heap.IsList l vs.toArray) (e : EachIs R vs bs) (er : EachIs (fun v b => ∃ as, Reads s.heap v (enc b) as) vs bs) (hal : AllAlike (bs.map enc)) (hk : SortableX (bs.map enc)) (hL : bs.length ≤ sizeLine)
    (hu : ∀ b, b ∈ bs → A.units + 2 + (enc b).depth < cLine) (h : ∀ out, out.length = bs.length → EachIs R out (bs.mergeSort (dataLe false enc)) → Q (.ref (s.heap.objs.size + 1)) { s with heap := sortedAll s.heap vs (List.toArray out) }) :
    wpAny (model prog w) A (call (.builtin "sorted") [.ref l]) Q E s := by
  have er' : EachIs (fun v b => ∃ as, Reads (sortingHeap (copyHeap s.heap vs) (s.heap.objs.size + 1) vs) v (enc b) as) vs bs := er.mono fun _ _ ⟨as, r⟩ => ⟨as, PyProof.Rows.Reads.keeps (fun _ _ => sorting_copy_old) r⟩
  exact sorted_vals hl (sortsAtX (s := { s with heap := sortingHeap (copyHeap s.heap vs) (s.heap.objs.size + 1) vs }) (each_map (R := fun v d => ∃ as, Reads (sortingHeap (copyHeap s.heap vs) (s.heap.objs.size + 1) vs) v d as) enc er') hal hk (bound_map hu)) (by rw [e.length]; exact hL)
    (h _ (by rw [sortVals_length false rfl]; exact e.length) (sortVals_data false e er' hal))
theorem list_sort_dataX {a : Addr} {n : Nat} {Q : Value → Shared → Prop} (ho : s.heap.get? a = some (seqObj "list" vs.toArray n)) (e : EachIs R vs bs) (er : EachIs (fun v b => ∃ as, Reads s.heap v (enc b) as ∧ a ∉ as) vs bs) (hal : AllAlike (bs.map enc)) (hk : SortableX (bs.map enc)) (hL : bs.length ≤ sizeLine)
    (hu : ∀ b, b ∈ bs → A.units + 1 + (enc b).depth < cLine) (h : ∀ out, out.length = bs.length → EachIs R out (bs.mergeSort (dataLe false enc)) → Q .none { s with heap := sortedHeap s.heap a vs (List.toArray out) }) :
    wpAny (model prog w) A (call (.builtin "list.sort") [.ref a]) Q E s := by
  have er' : EachIs (fun v b => ∃ as, Reads (sortingHeap s.heap a vs) v (enc b) as) vs bs := each_keepBut (h' := sortingHeap s.heap a vs) (fun _ _ hb q => sortingHeap_old hb q) (fun o q => by rw [ho] at q; rw [← Option.some.inj q]) hal er
  refine wpAny_call_entry slot_list_sort ⟨_, ho, rfl⟩ entry_list_sort (list_sort_vals (κ := dataKind (sortingHeap s.heap a vs) (bs.map enc)) ho (sortsAtX (s := { s with heap := sortingHeap s.heap a vs }) (each_map (R := fun v d => ∃ as, Reads (sortingHeap s.heap a vs) v d as) enc er') hal hk (bound_map hu)) (by rw [e.length]; exact hL) ⟨.none, rfl, ?_⟩) (args_list_sort _)
  exact h _ (by rw [sortVals_length false rfl]; exact e.length) (sortVals_data false e er' hal)
end
end Pf


namespace Pf
open PySem PySem.Spec L2
section
variable {X : Cx}
/-- tuple(xs) -/
theorem call_tupX : CallR X (.type "tuple") (fun xs H Q => ∃ a ys, xs = [.ref a] ∧ ((SqL X.K H a ys ∧ ∀ p o, H p = none → o.dict = none → Q (.ref p) (upd H p (tupH o ys))) ∨ (SqT X.K H a ys ∧ Q (.ref a) H))) := by
  intro pins s σ H xs us Q I rv h
  obtain ⟨a, ys, ex, h⟩ := h
  subst ex
  obtain ⟨u, eu, ru⟩ := vals1 rv
  subst eu
  cases ru
  rcases h with ⟨g, q⟩ | ⟨g, q⟩
  · obtain ⟨ws, rw', pl, hz⟩ := I.list g
    refine call_tuple_list pl.isList (fun h' kp => ?_) (by rw [List.size_toArray, ← rw'.length]; exact hz)
    have I1 : Inv X pins σ H { s with heap := h' } := I.kept (t' := s.toks) kp
    exact lay_tup (t := s.toks) I1 rw' hz q
  · obtain ⟨ws, rw', pl, hz⟩ := I.tuple g
    exact call_tuple_same pl ⟨.ref a, H, I, rfl, q⟩
/-! ### dict(pairs) -/
/-- a list, or a tuple with no dict of its own -/
def SqN (K : PySem.W.Frag) (H : Hp) (a : Addr) (xs : List V) : Prop := SqL K H a xs ∨ (∃ o, o.dict = none ∧ H a = some (.frz o (.tup xs))) ∨ FrT K a xs
theorem TupU.nodict {K : PySem.W.Frag} {H : Hp} {U : Addr → Prop} {a : Addr} {xs : List V} (h : TupU K H U a xs) (n : keyish xs = false) : SqN K H a xs := by
  rcases h with ⟨⟨o, hd, h⟩, _⟩ | h
  · rw [tupH_no n] at h
    exact .inr (.inl ⟨o, hd, h⟩)
  · exact .inr (.inr h)
variable {pins : List (Addr × Obj)} {σ : L2.St} {H : Hp} {s : Shared}
theorem sqN_plain {a : Addr} {xs : List V} (I : Inv X pins σ H s) (h : SqN X.K H a xs) : ∃ us, Vals xs us ∧ xs.length ≤ sizeLine ∧ (PlainSeq "list" s.heap a us.toArray ∨ PlainSeq "tuple" s.heap a us.toArray) := by
  rcases h with h | ⟨o, hd, h⟩ | ⟨_, o, its, n, h1, h2, h3, h4, h5, h6⟩
  · obtain ⟨us, r, ⟨o, n, g1, g2, g3, g4⟩, hz⟩ := I.list h
    exact ⟨us, r, hz, .inl ⟨o, n, g1, g2, g3, g4⟩⟩
  · obtain ⟨e, hz, us, r, ⟨o', e', hc, n, hx⟩⟩ := (show ObjOk X.prog X.w H s.heap a (.frz o (.tup xs)) from I.hok a _ h)
    rw [e] at e'
    cases e'
    exact ⟨us, r, hz, .inr ⟨o, n, e, hc, hd, hx⟩⟩
  · refine ⟨its.toList, h6, ?_, .inr ⟨o, n, I.kIn a o h1, h2, h3, by simpa using h4⟩⟩
    have e : xs.length = its.size := h6.length.trans Array.length_toList
    rw [e]
    exact h5
theorem pairs_x (I : Inv X pins σ H s) : ∀ {ps : List Addr} {kvs : List (Key × V)}, Paired (fun p kv => SqT X.K H p [kV kv.1, kv.2]) ps kvs →
    ∃ (qs : List (Value × Value)) (prs : List (Key × Value)), KV kvs prs ∧ qs.length = ps.length ∧ prs.length = ps.length ∧
      ∀ (j : Nat) (k v : Value), qs[j]? = some (k, v) → (∃ b, ps[j]? = some b ∧ PairAt s.heap b k v) ∧ ∃ key, prs[j]? = some (key, v) ∧ (mixKind X.prog X.w).is key k = true
  | _, _, .nil => ⟨[], [], .nil, rfl, rfl, fun j k v e => by simp at e⟩
  | _, _, .cons (a := p) (b := kv) h t => by
    obtain ⟨qs, prs, r, l1, l2, f⟩ := pairs_x I t
    obtain ⟨us, rv, ⟨o, e1, e2, n, e3⟩, _⟩ := I.tuple h
    obtain ⟨u, y, eu, ru, ry⟩ := vals2 rv
    subst eu
    refine ⟨(u, y) :: qs, (kv.1, y) :: prs, .cons ⟨rfl, ry⟩ r, by simp [l1], by simp [l2], fun j k v e => ?_⟩
    cases j with
    | zero =>
      cases (Option.some.inj e : (u, y) = (k, v))
      exact ⟨⟨p, rfl, .inl ⟨o, e1, e2, n, e3⟩⟩, kv.1, rfl, kV_is ru⟩
    | succ j => exact f j k v e
theorem vals_refs_inv : ∀ {ps : List Addr} {us : List Value}, Vals (ps.map V.ref) us → us = ps.map Value.ref
  | [], _, r => by
    cases r
    rfl
  | p :: ps, _, r => by
    cases r with
    | cons h t =>
      cases (show _ = Value.ref p from h)
      rw [vals_refs_inv t]
      rfl
theorem call_dictX (hcalm : X.calm = true) : CallR X (.type "dict") (fun xs H Q => ∃ (a : Addr) (ps : List Addr) (kvs : List (Key × V)), xs = [.ref a] ∧ SqN X.K H a (ps.map V.ref) ∧ Paired (fun p kv => SqT X.K H p [kV kv.1, kv.2]) ps kvs ∧
    ∀ p, H p = none → Q (.ref p) (upd H p (.dK (mergeK [] kvs)))) := by
  intro pins s σ H xs us Q I rv h
  obtain ⟨a, ps, kvs, ex, g, hp, q⟩ := h
  subst ex
  obtain ⟨u, eu, ru⟩ := vals1 rv
  subst eu
  cases ru
  obtain ⟨ws, rw', hz, pl⟩ := sqN_plain I g
  have ew := vals_refs_inv rw'
  subst ew
  rw [List.length_map] at hz
  obtain ⟨qs, prs, r, l1, l2, f⟩ := pairs_x I hp
  have items : PairItems s.heap (ps.map Value.ref).toArray (fun j => (ps[j]?).getD 0) qs := by
    refine ⟨by simp [l1], fun j k v e => ?_⟩
    obtain ⟨⟨b, e1, e2⟩, _⟩ := f j k v e
    exact ⟨by simp [e1], by simp only [e1]; exact e2⟩
  have have' : PairsHave (mixKind X.prog X.w) qs.length (PairRel qs) prs := ⟨by rw [l1, l2], fun j k v e => (f j k v e).2⟩
  have hl : kvs.length = ps.length := by
    have : ∀ {α β : Type} {F : α → β → Prop} {x : List α} {y : List β}, Paired F x y → x.length = y.length := by
      intro α β F x y p
      induction p with
      | nil => rfl
      | cons _ _ ih => simp [ih]
    exact (this hp).symm
  have fin : ∀ (h' : Heap) (tk : Tok), h'.DictOf (mixKind X.prog X.w) s.heap.objs.size (merged [] prs) → (∀ b o, b ∉ ([] : List Addr) → s.heap.get? b = some o → h'.get? b = some o) → EP X pins σ Q (.ref s.heap.objs.size) { s with heap := h', toks := tk } := by
    intro h' tk hd k
    have hm : (s.heap.objs.size == sysModules) = false := beq_eq_false_iff_ne.mpr (Nat.ne_of_gt I.big)
    have hb := length_mergeK kvs []
    have ok : ObjOk X.prog X.w (upd H s.heap.objs.size (.dK (mergeK [] kvs))) h' s.heap.objs.size (.dK (mergeK [] kvs)) := ⟨by simp at hb; omega, hm, merged [] prs, KV.merge r .nil, hd⟩
    exact ⟨.ref s.heap.objs.size, _, I.laid (t' := tk) (fun b o e => k b o (by simp) e) (Nat.le_refl _) ok, rfl, q _ (I.hok.fresh (Nat.le_refl _))⟩
  rcases pl with pl | pl
  · exact PySem.call_dict_pairs (PairArg.list a _ _ qs) (I.ok.hd hcalm) ⟨pl, items⟩ have' (by rw [l1]; exact hz) fin
  · exact PySem.call_dict_pairs (PairArg.tuple a _ _ qs) (I.ok.hd hcalm) ⟨pl, items⟩ have' (by rw [l1]; exact hz) fin
/-! ### sorted(xs) -/
theorem rep_each {K : PySem.W.Frag} {H : Hp} {U : Addr → Prop} : ∀ {vs : List V} {us : List Value} {ds : List PyData}, Vals vs us → RepAll K H U vs ds → PySem.W.EachIs (fun u d => ∃ v, RelV v u ∧ Rep K H U v d) us ds
  | _, _, _, .nil, .nil => .nil
  | _, _, _, .cons h t, .cons r rs => .cons ⟨_, h, r⟩ (rep_each t rs)
theorem each_rep {K : PySem.W.Frag} {H : Hp} {U : Addr → Prop} : ∀ {us : List Value} {ds : List PyData}, PySem.W.EachIs (fun u d => ∃ v, RelV v u ∧ Rep K H U v d) us ds → ∃ vs, Vals vs us ∧ RepAll K H U vs ds
  | _, _, .nil => ⟨[], .nil, .nil⟩
  | _, _, .cons ⟨v, h, r⟩ t => by
    obtain ⟨vs, a, b⟩ := each_rep t
    exact ⟨v :: vs, .cons h a, .cons r b⟩
theorem plain_mem : ∀ {ds : List PyData}, PyData.plainAll ds = true → ∀ d ∈ ds, d.plain = true
  | d :: ds, h, x, hx => by
    simp only [PyData.plainAll, Bool.and_eq_true] at h
    rcases List.mem_cons.mp hx with rfl | hx
    · exact h.1
    · exact plain_mem h.2 x hx
theorem each_reads (I : Inv X pins σ H s) {U : Addr → Prop} : ∀ {us : List Value} {ds : List PyData}, PyData.plainAll ds = true → PySem.W.EachIs (fun u d => ∃ v, RelV v u ∧ Rep X.K H U v d) us ds → PySem.W.EachIs (fun u d => ∃ as, Reads s.heap u (id d) as) us ds
  | _, _, _, .nil => .nil
  | _, _, hp, .cons ⟨v, h, r⟩ t => by
    simp only [PyData.plainAll, Bool.and_eq_true] at hp
    exact .cons (Dp.reads I _ v _ (r.dpl hp.1) h) (each_reads I hp.2 t)
theorem sortOk_parts {ds : List PyData} (h : sortOk ds = true) : PySem.W.AllAlike (ds.map id) ∧ SortableX (ds.map id) ∧ (∀ d ∈ ds, d.depth ≤ 60) ∧ PyData.plainAll ds = true ∧ ds.length ≤ sizeLine := by
  unfold sortOk at h
  simp only [Bool.and_eq_true, Bool.or_eq_true, List.all_eq_true, decide_eq_true_eq] at h
  obtain ⟨⟨⟨⟨h1, h2⟩, h3⟩, h4⟩, h5⟩ := h
  rw [List.map_id]
  refine ⟨fun d hd d' hd' => h1 d hd d' hd', ?_, h3, h4, h5⟩
  rcases h2 with h2 | h2
  · refine .inl fun d hd => ?_
    have := h2 d hd
    unfold tupNE at this
    split at this
    · exact ⟨_, rfl⟩
    · cases this
  · refine .inr fun d hd => ?_
    have := h2 d hd
    refine ⟨fun e => ?_, fun xs e => ?_⟩
    · subst e; cases this
    · subst e; cases this
theorem call_sortX (hu : X.A.units + 64 < cLine) : CallR X (.builtin "sorted") (fun xs H Q => ∃ U a vs ds, xs = [.ref a] ∧ SqL X.K H a vs ∧ RepAll X.K H U vs ds ∧ sortOk ds = true ∧ ∀ ws p, RepAll X.K H U ws (sortD ds) → H p = none → Q (.ref p) (upd H p (.lst ws))) := by
  intro pins s σ H xs us Q I rv h
  obtain ⟨U, a, vs, ds, ex, g, rr, ok, q⟩ := h
  subst ex
  obtain ⟨u, eu, ru⟩ := vals1 rv
  subst eu
  cases ru
  obtain ⟨zs, rz, pl, hz⟩ := I.list g
  obtain ⟨k1, k2, k3, k4, k5⟩ := sortOk_parts ok
  have er := rep_each rz rr
  refine sorted_dataX (enc := id) pl.isList er (each_reads I k4 er) k1 k2 k5 (fun d hd => by have := k3 d hd; show X.A.units + 2 + d.depth < cLine; omega) fun out hl eo => ?_
  obtain ⟨ws, r1, r2⟩ := each_rep eo
  obtain ⟨c, hc⟩ := PyProof.Rows.sortedAll_at s.heap zs out.toArray
  have hn := I.hok.fresh (Nat.le_succ s.heap.objs.size)
  refine ⟨.ref (s.heap.objs.size + 1), _, I.laid (t' := s.toks) (o := .lst ws) (fun b o e => PyProof.Rows.sortedAll_old e) (Nat.le_succ _) ⟨?_, out, c, r1, hc⟩, rfl, q ws _ r2 hn⟩
  rw [r1.length, hl]
  exact k5
end
end Pf


namespace Pf
open PySem PySem.Spec L2
mutual
/-- what is read off stands in the heap -/
theorem reads_there {h : Heap} : ∀ (d : PyData) (v : Value) (as : List Addr), PySem.W.alike d d = true → Reads h v d as → ∀ a ∈ as, ∃ o, h.get? a = some o
  | .none, _, _, _, r, a, ha => by cases r; cases ha
  | .bool _, _, _, _, r, a, ha => by cases r; cases ha
  | .int _, _, _, _, r, a, ha => by cases r; cases ha
  | .str _, _, _, _, r, a, ha => by cases r; cases ha
  | .list xs, _, _, hal, r, a, ha => by
    cases r with
    | list h1 h2 h3 h4 =>
      rcases List.mem_cons.mp ha with e | ha
      · exact ⟨_, e ▸ h1⟩
      · exact readsAll_there xs _ _ (by simpa [PySem.W.alike] using hal) h4 a ha
  | .tuple xs, _, _, hal, r, a, ha => by
    cases r with
    | tuple h1 h2 h3 h4 => exact readsAll_there xs _ _ (by simpa [PySem.W.alike] using hal) h4 a ha
  | .dict _, _, _, hal, _, _, _ => absurd hal (by simp [PySem.W.alike])
theorem readsAll_there {h : Heap} : ∀ (ds : List PyData) (vs : List Value) (as : List Addr), PySem.W.alikeAll ds ds = true → ReadsAll h vs ds as → ∀ a ∈ as, ∃ o, h.get? a = some o
  | [], _, _, _, r, a, ha => by cases r; cases ha
  | d :: ds, _, _, hal, r, a, ha => by
    cases r with
    | cons h1 h2 =>
      rcases List.mem_append.mp ha with ha | ha
      · exact reads_there d _ _ (PySem.W.alike_all_cons hal).1 h1 a ha
      · exact readsAll_there ds _ _ (PySem.W.alike_all_cons hal).2 h2 a ha
end
section
variable {X : Cx}
open PySem PySem.Calls PyProof.Rows PyProof.V PySem.Spec PyProof PySem.W in
theorem collect_src {prog : Program} {w : World} {A : Around} {E : Value → Shared → Prop} {s : Shared} {T : String} {r d : Addr} {n : Nat} {P : Nat → Value → Prop} {OK : Heap → Prop} {R : List Value → Shared → Prop} (K : KdlSrc prog w T r d n P OK) (hh : A.handled = none) (hok : OK s.heap) (hn : n ≤ sizeLine)
    (h : ∀ (h' : Heap) (tk : Nat) (acc : Array Value), (∀ b o, s.heap.get? b = some o → h'.get? b = some o) → s.heap.objs.size ≤ h'.objs.size → ItemsOf P acc n → R acc.toList { s with heap := h', toks := tk }) :
    wpAny (model prog w) A (collect (.ref r)) R E s := by
  have hlt := K.there _ hok
  unfold collect
  refine wpAny_bind (wpAny_runValue (codeAny_builtin entry_proto_collect' ?_))
  rw [Around.under_plainId PySem.F.plain_proto_collect _]
  show wpAny _ A.in1 (newList [] >>= fun l => again (.builtin "list.__iadd__" ⟨[l, .ref r], []⟩)) _ _ s
  refine wpAny_bind (wpAny_newObj_type ?_)
  refine wpAny_pure ⟨plainId_quiet PySem.F.plain_list_iadd _, codeAny_builtin entry_list_iadd' ?_⟩
  rw [Around.under_plainId PySem.F.plain_list_iadd _]
  have hS₁ : (s.heap.push { cls := .type "list", data := .seq ([] : List Value).toArray }).get? s.heap.objs.size = some { cls := .type "list", data := .seq #[] } := Heap.get?_push_size _ rfl
  show wpAny _ A.in1 (Builtin.List.listExtendWith (.ref s.heap.objs.size) (.ref r) (.ref s.heap.objs.size)) _ _ _
  have key := kdl_extend (A := A) (s := { s with heap := s.heap.push { cls := .type "list", data := .seq ([] : List Value).toArray } })
    (R := fun (q : Result) (s' : Shared) => ∃ (h' : Heap) (tk : Nat) (acc' : Array Value) (c' : Nat), q = .ok (.ret (.ref s.heap.objs.size)) ∧ s' = { s with heap := h', toks := tk } ∧
      (∀ b o, s.heap.get? b = some o → h'.get? b = some o) ∧ h'.get? s.heap.objs.size = some { cls := .type "list", dict := none, data := .seq acc' c', slots := #[] } ∧ ItemsOf P acc' n)
    K hh (K.keep _ _ hok fun b _ o e => Heap.get?_push_of_some _ e) s.heap.objs.size (Nat.ne_of_gt hlt.1) (Nat.ne_of_gt hlt.2) (.ref s.heap.objs.size) 0 hS₁
    (fun h' tk acc' c' hk hS' hacc => ⟨h', tk, acc', c', rfl, rfl, fun b o e => hk b o (Nat.ne_of_lt (Heap.lt_size e)) (Heap.get?_push_of_some _ e), hS', hacc⟩) hn
  refine wpAny_mono key (fun fin s' x => ?_) fun e s' x => ?_
  · cases fin with
    | done f =>
      obtain ⟨h', tk, acc', c', e, rfl, hk, hS', hacc⟩ := x
      cases e
      show wpAny _ A (load s.heap.objs.size >>= _) _ _ _
      refine wpAny_bind (wpAny_load hS' ?_)
      exact wpAny_pure (h h' tk acc' hk (Nat.le_of_lt (Heap.lt_size hS')) hacc)
    | again c₁ =>
      refine ⟨x.1, codeAny_mono x.2 fun q s₂ y => ?_⟩
      obtain ⟨h', tk, acc', c', rfl, rfl, hk, hS', hacc⟩ := y
      show wpAny _ A (load s.heap.objs.size >>= _) _ _ _
      refine wpAny_bind (wpAny_load hS' ?_)
      exact wpAny_pure (h h' tk acc' hk (Nat.le_of_lt (Heap.lt_size hS')) hacc)
  · obtain ⟨_, _, _, _, e', _⟩ := x
    cases e'
/-- sorted over what walks -/
theorem sort_src {pins : List (Addr × Obj)} {σ : List (Option V)} {H : Hp} {s : Shared} {T : String} {r d : Addr} {n : Nat} {P : Nat → Value → Prop} {OK : Heap → Prop} {E : Value → Shared → Prop} {U : Addr → Prop} {ds : List PyData} {R : Value → Shared → Prop}
    (I : L2.Inv X pins σ H s) (hc : X.calm = true) (hu : X.A.units + 64 < cLine) (K : PySem.W.KdlSrc X.prog X.w T r d n P OK) (hok : OK s.heap) (hn : n ≤ sizeLine)
    (items : ∀ acc : Array Value, PySem.ItemsOf P acc n → ∃ vs, Vals vs acc.toList ∧ RepAll X.K H U vs ds) (ok : sortOk ds = true)
    (q : ∀ (ws : List V) (p : Addr) (s' : Shared), RepAll X.K H U ws (sortD ds) → H p = none → L2.Inv X pins σ (upd H p (.lst ws)) s' → R (.ref p) s') :
    wpAny (model X.prog X.w) X.A (call (.builtin "sorted") [.ref r]) R E s := by
  obtain ⟨k1, k2, k3, k4, k5⟩ := sortOk_parts ok
  refine PySem.Calls.call_function_entry PyProof.Rows.kind_sorted PyProof.Rows.plain_sorted PyProof.Rows.entry_sorted (PyProof.Rows.args_sorted1 _) ?_
  unfold Builtin.«sorted»
  refine wpAny_bind (m := checkCount "sorted" 1 1 _) (wpAny_pure ?_)
  refine wpAny_bind (collect_src (A := X.A.in1) K (I.ok.hd hc) hok hn fun h' tk acc hk hge hacc => ?_)
  obtain ⟨vs, rz, rr⟩ := items acc hacc
  have hl : acc.toList.length = n := by rw [Array.length_toList]; exact hacc.1
  refine wpAny_bind (wpAny_newList ?_ (by rw [hl]; exact hn))
  have er := each_reads I k4 (rep_each rz rr)
  have ho : (h'.push { cls := .type "list", data := .seq acc.toList.toArray }).get? h'.objs.size = some (PyProof.Rows.seqObj "list" acc.toList.toArray 0) := Heap.get?_push_size _ rfl
  have kp : ∀ b o, s.heap.get? b = some o → (h'.push { cls := .type "list", data := .seq acc.toList.toArray }).get? b = some o := fun b o e => Heap.get?_push_of_some _ (hk b o e)
  have al : ∀ x ∈ ds, PySem.W.alike x x = true := fun x hx => k1 _ (List.mem_map.mpr ⟨x, hx, rfl⟩) _ (List.mem_map.mpr ⟨x, hx, rfl⟩)
  refine wpAny_bind (wpAny_holding (wpAny_mono (list_sort_dataX (s := { s with heap := h'.push { cls := .type "list", data := .seq acc.toList.toArray }, toks := tk }) (Q := fun _ s' => R (.ref h'.objs.size) s') (enc := id) ho (rep_each rz rr) ((PySem.W.each_mem er).mono fun u dd ⟨⟨as, ra⟩, hdd⟩ => ⟨as, PyProof.Rows.Reads.keeps (fun b o e => kp b o e) ra, fun ha => by
    obtain ⟨o, e⟩ := reads_there _ _ _ (al dd hdd) ra _ ha
    exact absurd (Nat.lt_of_lt_of_le (Heap.lt_size e) hge) (Nat.lt_irrefl _)⟩) k1 k2 k5 (fun dd hd => by have := k3 dd hd; show X.A.units + 1 + 1 + dd.depth < cLine; omega) fun out hlo eo => ?_) (fun _ s' x => ?_) fun _ _ e => e))
  · obtain ⟨ws, r1, r2⟩ := each_rep eo
    obtain ⟨c, hc2⟩ := PyProof.Rows.sortedHeap_at (out := out.toArray) ho
    refine q ws h'.objs.size _ r2 (I.hok.fresh hge) (I.laid (t' := tk) (o := .lst ws) (fun b o e => ?_) hge ⟨?_, out, c, r1, hc2⟩)
    · have hlt := Heap.lt_size e
      rw [PyProof.Rows.sortedHeap_old (Nat.ne_of_lt (Nat.lt_of_lt_of_le hlt hge)) (Heap.lt_size (kp b o e))]
      exact kp b o e
    · rw [r1.length, hlo]
      exact k5
  · exact wpAny_pure ⟨_, rfl, x⟩
/-- sorted(d), int and text keys -/
theorem call_sortD (hc : X.calm = true) (hu : X.A.units + 64 < cLine) : CallR X (.builtin "sorted") (fun xs H Q => ∃ U a kvs ds, xs = [.ref a] ∧ Rd H a (.dK kvs) ∧ RepAll X.K H U (kvs.map fun kv => kV kv.1) ds ∧ sortOk ds = true ∧ ∀ ws p, RepAll X.K H U ws (sortD ds) → H p = none → Q (.ref p) (upd H p (.lst ws))) := by
  intro pins s σ H xs us Q I rv h
  obtain ⟨U, a, kvs, ds, ex, hd, rr, ok, q⟩ := h
  subst ex
  obtain ⟨u, eu, ru⟩ := vals1 rv
  subst eu
  cases ru
  obtain ⟨z, lo, vs, rel, dd⟩ := dk_rd I.hok hd
  obtain ⟨ep, hat⟩ := dd.dictAt
  have ek : (kvs.map fun kv => kV kv.1) = vs.map fun p => kV p.1 := by
    have e := congrArg (List.map kV) rel.keys
    rw [List.map_map, List.map_map] at e
    exact e
  refine sort_src I hc hu (PySem.W.kdl_dict (knd := mixKind X.prog X.w) (kvs := vs) (ep := ep) lo) hat (by rw [← rel.length]; exact z) (fun acc hacc => ⟨_, keys_at (by rw [Array.length_toList]; exact hacc.1) fun j v e => hacc.2 j v (by rw [← Array.getElem?_toList]; exact e), ek ▸ rr⟩) ok fun ws p s' r2 hn J => ?_
  exact ⟨.ref p, _, J, rfl, q ws p r2 hn⟩
/-- sorted(d), keys that are tuples -/
theorem call_sort_dT (hc : X.calm = true) (hu : X.A.units + 64 < cLine) : CallR X (.builtin "sorted") (fun xs H Q => ∃ U d kvs ds, xs = [V.ref d] ∧ Rd H d (.dT kvs) ∧ (∀ bs, IsKeys H kvs bs → RepAll X.K H U (bs.map V.ref) ds) ∧ sortOk ds = true ∧ ∀ ws p, RepAll X.K H U ws (sortD ds) → H p = none → Q (.ref p) (upd H p (.lst ws))) := by
  intro pins s σ H xs us Q I r h
  obtain ⟨U, d, kvs, ds, rfl, hd, rr, ok, q⟩ := h
  obtain ⟨u, rfl, rx⟩ := r.one
  cases rx
  obtain ⟨z, hs, ks, pr, o, es, ep, ho, hx, hdt, he, hn⟩ := (show ObjOk X.prog X.w H s.heap d (.dT kvs) from hd.ok I.hok)
  have l1 : es.size = ks.length := size_of_entries he
  have l2 : kvs.length = ks.length := Paired.length pr
  refine sort_src I hc hu (kdl_raw hs hx hdt) ho (by omega) (fun acc' it => ?_) ok fun ws p s' r2 hn J => ⟨.ref p, _, J, rfl, q ws p r2 hn⟩
  have ea : acc'.toList = ks.map fun x => Value.ref x.2.1 := by
    have hl : acc'.toList.length = ks.length := by rw [Array.length_toList, it.1]; exact l1
    apply List.ext_getElem?
    intro j
    rw [List.getElem?_map]
    cases hj : acc'.toList[j]? with
    | none =>
      have h1 := List.getElem?_eq_none_iff.mp hj
      rw [List.getElem?_eq_none (by omega)]
      all_goals rfl
    | some v =>
      obtain ⟨en, hen, hv⟩ := it.2 j v (by rw [← Array.getElem?_toList]; exact hj)
      have qe := entry_at he j
      rw [hen] at qe
      cases hb : ks[j]? with
      | none =>
        rw [hb] at qe
        exact nomatch (show some en = none from qe)
      | some b =>
        rw [hb] at qe
        have e2 : en = entryOfKey (tupleKind (mixKind X.prog X.w)) b := Option.some.inj qe
        rw [hv, e2]
        all_goals rfl
  have eb : acc'.toList = (ks.map fun x => x.2.1).map Value.ref := by rw [ea, List.map_map]; all_goals rfl
  exact ⟨_, (by rw [eb]; exact vals_refs _), rr _ (isKeys_of pr)⟩
end
end Pf


namespace Pf
open PySem PySem.Spec L2
section
variable {X : Cx} {C : Ctx} {B : Bk} {k : Nat} {F : Fns}
theorem Fits.u64 (T : Fits X C B k) : X.A.units + 64 < cLine := T.room.units
/-! ### and, or -/
theorem st_bool (S : SoO X C F B) (op : BoolOp) (p : Pos) : ∀ es, PE X (.BoolOp op es p) (tO X.K (boolE C F B op es))
  | [] => .no fun σ H Q h => by
    obtain ⟨P, Z, ρ, r, x, e, q⟩ := h
    cases e
  | [e] => (pe_one (S.o e)).imp fun σ H Q h => h
  | e :: e2 :: es => by
    have ih := st_bool S op p (e2 :: es)
    cases op with
    | And =>
      refine (pe_andT (S.o e) ih).imp fun σ H Q h => ?_
      obtain ⟨P, Z, ρ, r, x, e, q⟩ := h
      obtain ⟨r1, e1, e⟩ := bind_some e
      obtain ⟨d, e2, e⟩ := bind_some e
      obtain ⟨kk, e3, e⟩ := bind_some e
      refine ⟨P, Z, ρ, r1, x, e1, fun v H1 v1 sh => ?_⟩
      obtain ⟨s1, o1⟩ := v1.stt
      refine ⟨kk, tru_of (o1.opd s1 e2) e3, ?_⟩
      cases kk with
      | true => exact iteT ⟨P, Z, _, r, s1, by simpa using e, fun w H2 ov sh2 => q w H2 ov (sh.trans sh2)⟩
      | false =>
        simp at e
        subst e
        exact iteF (q v H1 v1 sh)
    | Or =>
      refine (pe_orT (S.o e) ih).imp fun σ H Q h => ?_
      obtain ⟨P, Z, ρ, r, x, e, q⟩ := h
      obtain ⟨r1, e1, e⟩ := bind_some e
      obtain ⟨d, e2, e⟩ := bind_some e
      obtain ⟨kk, e3, e⟩ := bind_some e
      refine ⟨P, Z, ρ, r1, x, e1, fun v H1 v1 sh => ?_⟩
      obtain ⟨s1, o1⟩ := v1.stt
      refine ⟨kk, tru_of (o1.opd s1 e2) e3, ?_⟩
      cases kk with
      | false => exact iteF ⟨P, Z, _, r, s1, by simpa using e, fun w H2 ov sh2 => q w H2 ov (sh.trans sh2)⟩
      | true =>
        simp at e
        subst e
        exact iteT (q v H1 v1 sh)
theorem st_boolT (S : SoO X C F B) (op : BoolOp) (p : Pos) : ∀ es, PT X (.BoolOp op es p) (tT X.K (boolT F B op es)) := by
  have go : ∀ e es, PW X (.BoolOp op (e :: es) p) (tT X.K (boolT F B op (e :: es))) := by
    intro e es
    induction es generalizing e with
    | nil =>
      cases op with
      | And => exact (pw_and1 (S.t e)).imp fun σ H Q h => h
      | Or => exact (pw_or1 (S.t e)).imp fun σ H Q h => h
    | cons e2 es ih =>
      cases op with
      | And =>
        refine (pw_and (S.t e) (ih e2)).imp fun σ H Q h => ?_
        obtain ⟨P, Z, ρ, r, x, e, q⟩ := h
        obtain ⟨r1, e1, e⟩ := bind_some e
        refine ⟨P, Z, ρ, r1, x, e1, fun H1 s1 sh => ?_⟩
        obtain ⟨kk, ρ1⟩ := r1
        cases kk with
        | true => exact iteT ⟨P, Z, ρ1, r, s1, by simpa using e, fun H2 s2 sh2 => q H2 s2 (sh.trans sh2)⟩
        | false =>
          simp at e
          subst e
          exact iteF (q H1 s1 sh)
      | Or =>
        refine (pw_or (S.t e) (ih e2)).imp fun σ H Q h => ?_
        obtain ⟨P, Z, ρ, r, x, e, q⟩ := h
        obtain ⟨r1, e1, e⟩ := bind_some e
        refine ⟨P, Z, ρ, r1, x, e1, fun H1 s1 sh => ?_⟩
        obtain ⟨kk, ρ1⟩ := r1
        cases kk with
        | false => exact iteF ⟨P, Z, ρ1, r, s1, by simpa using e, fun H2 s2 sh2 => q H2 s2 (sh.trans sh2)⟩
        | true =>
          simp at e
          subst e
          exact iteT (q H1 s1 sh)
  intro es
  cases es with
  | nil =>
    refine .no fun σ H Q h => ?_
    obtain ⟨P, Z, ρ, r, x, e, q⟩ := h
    cases e
  | cons e es => exact (go e es).pt
/-! ### comparisons -/
def tC2 (X : Cx) (f : En → Option (Bool × En)) : TE := fun σ H Q => tT X.K f σ H fun c H1 => Q (.bl c) H1
theorem st_cmp (T : Fits X C B k) (S : SoO X C F B) (a : Expr) (ops : List CmpOp) (es : List Expr) (p : Pos) : PE X (.Compare a ops es p) (tC2 X (cmpE C F B a ops es)) ∧ PT X (.Compare a ops es p) (tT X.K (cmpE C F B a ops es)) := by
  have no : (∀ ρ, cmpE C F B a ops es ρ = none) → PE X (.Compare a ops es p) (tC2 X (cmpE C F B a ops es)) ∧ PT X (.Compare a ops es p) (tT X.K (cmpE C F B a ops es)) := fun hn =>
    ⟨PE.no fun σ H Q h => (by
      obtain ⟨P, Z, ρ, r, x, e, q⟩ := h
      rw [hn] at e
      cases e), PT.no fun σ H Q h => (by
      obtain ⟨P, Z, ρ, r, x, e, q⟩ := h
      rw [hn] at e
      cases e)⟩
  have one : ∀ (op : CmpOp) (b : Expr), behindInMarks op b = false → ∀ (σ : St) (H : Hp) (Q : Bool → Hp → Prop), tT X.K (cmpE C F B a [op] [b]) σ H Q → tOp (CmpR X.K op) (tO X.K (F.o B a)) (tO X.K (F.o B b)) σ H fun v H1 => ∃ c, v = .bl c ∧ Q c H1 := by
    intro op b hb σ H Q h
    obtain ⟨P, Z, ρ, r, x, e, q⟩ := h
    simp only [cmpE, hb] at e
    obtain ⟨r1, e1, e⟩ := bind_some (by simpa using e)
    obtain ⟨r2, e2, e⟩ := bind_some e
    obtain ⟨d1, e3, e⟩ := bind_some e
    obtain ⟨d2, e4, e⟩ := bind_some e
    obtain ⟨d, e5, e⟩ := bind_some e
    cases e
    exact two S x e1 e2 fun v w H' s2 o1 o2 sh => ⟨_, _, _, _, o1.opd s2 e3, o2.opd s2 e4, e5, d, rfl, q H' s2 sh⟩
  have two' : ∀ (op op' : CmpOp) (b c : Expr), lastMarks [op, op'] [b, c] = false → ∀ (σ : St) (H : Hp) (Q : Bool → Hp → Prop), tT X.K (cmpE C F B a [op, op'] [b, c]) σ H Q →
      tChain (CmpR X.K op) (CmpR X.K op') (tV X.K (valE C F B a)) (tV X.K (valE C F B b)) (tV X.K (valE C F B c)) σ H fun v H1 => ∃ c, v = .bl c ∧ Q c H1 := by
    intro op op' b c hb σ H Q h
    obtain ⟨P, Z, ρ, r, x, e, q⟩ := h
    simp only [cmpE, hb] at e
    obtain ⟨r1, e1, e⟩ := bind_some (by simpa using e)
    obtain ⟨r2, e2, e⟩ := bind_some e
    obtain ⟨d, e5, e⟩ := bind_some e
    refine ⟨P, Z, ρ, r1, x, e1, fun v H1 v1 sh => ?_⟩
    obtain ⟨s1, o1⟩ := v1.share
    refine ⟨_, Z, _, r2, s1.push, e2, fun w H2 v2 sh2 => ?_⟩
    obtain ⟨s2, o2⟩ := v2.share
    refine ⟨_, _, _, _, .rep (Pf.later o1 s2 sh2), .rep o2, e5, d, rfl, ?_⟩
    cases d with
    | false =>
      simp at e
      subst e
      exact iteF ⟨false, rfl, q H2 s2.pop (sh.trans sh2)⟩
    | true =>
      obtain ⟨r3, e6, e⟩ := bind_some (by simpa using e)
      obtain ⟨d', e7, e⟩ := bind_some e
      cases e
      refine iteT ⟨_, Z, _, r3, s2.pop.push, e6, fun z H3 v3 sh3 => ?_⟩
      obtain ⟨s3, o3⟩ := v3.share
      exact ⟨_, _, _, _, .rep (Pf.later o2 s3 sh3), .rep o3, e7, d', rfl, q H3 s3.pop (sh.trans (sh2.trans sh3))⟩
  match ops, es, no, one, two' with
  | [op], [b], no, one, _ =>
    by_cases hb : behindInMarks op b = true
    · exact no fun ρ => by simp [cmpE, hb]
    · have hb : behindInMarks op b = false := by simpa using hb
      refine ⟨(pe_cmpR (cmp_ok T.u64 op) (S.o a) (S.o b) hb).imp fun σ H Q h => ?_, (pt_cmpR (cmp_ok T.u64 op) (S.o a) (S.o b) hb).imp fun σ H Q h => one op b hb σ H Q h⟩
      have := one op b hb σ H (fun c H1 => Q (.bl c) H1) h
      refine ?_
      obtain ⟨P, Z, ρ, r, x, e, q⟩ := this
      refine ⟨P, Z, ρ, r, x, e, fun v H1 v1 sh => ?_⟩
      obtain ⟨P2, Z2, ρ2, r2, x2, e2, q2⟩ := q v H1 v1 sh
      refine ⟨P2, Z2, ρ2, r2, x2, e2, fun w H2 v2 sh2 => ?_⟩
      obtain ⟨U, y1, y2, kk, g1, g2, g3, c, g4, g5⟩ := q2 w H2 v2 sh2
      cases g4
      exact ⟨U, y1, y2, kk, g1, g2, g3, g5⟩
  | [op, op'], [b, c], no, _, two' =>
    by_cases hb : lastMarks [op, op'] [b, c] = true
    · exact no fun ρ => by simp [cmpE, hb]
    · have hb : lastMarks [op, op'] [b, c] = false := by simpa using hb
      refine ⟨(pe_chain (cmp_ok T.u64 op) (cmp_ok T.u64 op') (S.v a) (S.v b) (S.v c) hb).imp fun σ H Q h => ?_, (pt_chain (cmp_ok T.u64 op) (cmp_ok T.u64 op') (S.v a) (S.v b) (S.v c) hb).imp fun σ H Q h => two' op op' b c hb σ H Q h⟩
      obtain ⟨P, Z, ρ, r, x, e, q⟩ := two' op op' b c hb σ H (fun c H1 => Q (.bl c) H1) h
      refine ⟨P, Z, ρ, r, x, e, fun v H1 v1 sh => ?_⟩
      obtain ⟨P2, Z2, ρ2, r2, x2, e2, q2⟩ := q v H1 v1 sh
      refine ⟨P2, Z2, ρ2, r2, x2, e2, fun w H2 v2 sh2 => ?_⟩
      obtain ⟨U, y1, y2, kk, g1, g2, g3, c1, g4, g5⟩ := q2 w H2 v2 sh2
      cases g4
      refine ⟨U, y1, y2, kk, g1, g2, g3, kk, rfl, ?_⟩
      cases kk with
      | false =>
        rw [if_neg Bool.false_ne_true] at g5
        obtain ⟨c2, g6, g7⟩ := g5
        cases g6
        exact iteF g7
      | true =>
        rw [if_pos rfl] at g5
        obtain ⟨P3, Z3, ρ3, r3, x3, e3, q3⟩ := g5
        refine iteT ⟨P3, Z3, ρ3, r3, x3, e3, fun z H3 v3 sh3 => ?_⟩
        obtain ⟨U', y3, y4, k4, g8, g9, g10, c3, g11, g12⟩ := q3 z H3 v3 sh3
        cases g11
        exact ⟨U', y3, y4, k4, g8, g9, g10, g12⟩
  | [], es, no, _, _ => exact no fun ρ => by simp [cmpE]
  | [op], [], no, _, _ => exact no fun ρ => by simp [cmpE]
  | [op], _ :: _ :: _, no, _, _ => exact no fun ρ => by simp [cmpE]
  | [op, op'], [], no, _, _ => exact no fun ρ => by simp [cmpE]
  | [op, op'], [_], no, _, _ => exact no fun ρ => by simp [cmpE]
  | [op, op'], _ :: _ :: _ :: _, no, _, _ => exact no fun ρ => by simp [cmpE]
  | _ :: _ :: _ :: _, es, no, _, _ => exact no fun ρ => by simp [cmpE]

/-! ### built-ins -/
def rBi (K : PySem.W.Frag) (b : Bi) : List V → Hp → VK → Prop := fun vs H Q => ∃ U ds d, OpdAll K H U vs ds ∧ biD b ds = some d ∧ NewV K H U d Q ∧ ∀ a, U a → Hard H a
theorem _root_.L2.CallR.mono {X : Cx} {f : Value} {r r' : List V → Hp → VK → Prop} (h : CallR X f r) (i : ∀ vs H Q, r' vs H Q → r vs H Q) : CallR X f r' := fun pins s σ H xs us Q I rv q => h pins s σ H xs us Q I rv (i _ _ _ q)
theorem OpdAll.one {K : PySem.W.Frag} {H : Hp} {U : Addr → Prop} {vs : List V} {d : PyData} (h : OpdAll K H U vs [d]) : ∃ v, vs = [v] ∧ Opd K H U v d := by
  cases h with
  | cons h t =>
    cases t
    exact ⟨_, rfl, h⟩
mutual
theorem hasDict_plain : ∀ d : PyData, d.plain = true → d.hasDict = false
  | .none, _ => rfl
  | .bool _, _ => rfl
  | .int _, _ => rfl
  | .str _, _ => rfl
  | .list xs, h => by
    simp only [PyData.hasDict]
    exact hasDict_plains xs (by simpa [PyData.plain] using h)
  | .tuple xs, h => by
    simp only [PyData.hasDict]
    exact hasDict_plains xs (by simpa [PyData.plain] using h)
  | .dict _, h => by simp [PyData.plain] at h
theorem hasDict_plains : ∀ ds : List PyData, PyData.plainAll ds = true → PyData.hasDictAll ds = false
  | [], _ => rfl
  | d :: ds, h => by
    simp only [PyData.plainAll, Bool.and_eq_true] at h
    simp only [PyData.hasDictAll, hasDict_plain d h.1, hasDict_plains ds h.2, Bool.or_false]
end
theorem repr_ok (hg : X.A.guards = some []) (hu : X.A.units + 64 < cLine) : CallR X (.builtin "repr") (rBi X.K .repr) := by
  intro pins s σ H xs us Q I rv h
  obtain ⟨U, ds, d, os, e, q, hU⟩ := h
  have key : ∀ d0 v0 u, xs = [v0] → us = [u] → Opd X.K H U v0 d0 → RelV v0 u → reprOk d0 = true → Q (.str d0.shown) H → wpAny (model X.prog X.w) X.A (call (.builtin "repr") us) (EP X pins σ Q) X.xe s := by
    intro d0 v0 u h1 h2 o1 ru hz q
    subst h1 h2
    unfold reprOk at hz
    simp only [Bool.and_eq_true, decide_eq_true_eq] at hz
    obtain ⟨as, r1⟩ := Dp.reads I d0 v0 u (o1.dpl hz.1.1.2) ru
    have fin : ∀ (h' : Heap) (t : Tok) (tk : Nat), (∀ b o, s.heap.get? b = some o → h'.get? b = some o) → EP X pins σ Q (.str d0.shown t) { s with heap := h', toks := tk } := fun h' t tk hk =>
      ⟨.str d0.shown, H, I.kept hk, ⟨t, rfl⟩, q⟩
    cases d0 with
    | none =>
      cases r1
      exact PySem.P.repr_of_none (fin s.heap _ _ fun _ _ e => e)
    | bool b =>
      cases r1
      refine PySem.P.repr_of_bool ?_
      have := fin s.heap s.toks (s.toks + 1) fun _ _ e => e
      cases b <;> exact this
    | int i =>
      cases r1
      have hs : i.natAbs.log2 < 1920 := by simpa [PyData.showable] using hz.1.1.1
      exact PySem.P.repr_of_int hs (fin s.heap _ _ fun _ _ e => e)
    | str z =>
      cases r1
      exact PySem.P.repr_of_str (fin s.heap _ _ fun _ _ e => e) (hsz := hz.2)
    | list xs =>
      obtain ⟨a, ha⟩ : ∃ a, u = .ref a := by cases r1; exact ⟨_, rfl⟩
      subst ha
      exact repr_of_reads' r1 hz.1.1.1 (PyData.noDict_hsm (hasDict_plain _ hz.1.1.2)) hg (by omega) (fun _ _ e => e) (fun h' t tk hk => fin h' t tk hk) hz.2
    | tuple xs =>
      obtain ⟨a, ha⟩ : ∃ a, u = .ref a := by cases r1; exact ⟨_, rfl⟩
      subst ha
      exact repr_of_reads' r1 hz.1.1.1 (PyData.noDict_hsm (hasDict_plain _ hz.1.1.2)) hg (by omega) (fun _ _ e => e) (fun h' t tk hk => fin h' t tk hk) hz.2
    | dict _ => simp [PyData.plain] at hz
  replace e : reprB ds = some d := e
  unfold reprB at e
  split at e
  · rename_i d0
    split at e
    · rename_i hz
      cases e
      obtain ⟨v0, h1, o1⟩ := os.one
      subst h1
      obtain ⟨u, h2, ru⟩ := rv.one
      exact key d0 v0 u rfl h2 o1 ru hz (q _ (.str _))
    · cases e
  · cases e
theorem len_ok : CallR X (.builtin "len") (rBi X.K .len) := by
  refine (call_len_seq.or call_len_str).mono fun vs H Q h => ?_
  obtain ⟨U, ds, d, os, e, q, hU⟩ := h
  replace e : lenB ds = some d := e
  unfold lenB at e
  split at e
  all_goals try (cases e; done)
  rename_i d0
  obtain ⟨n, e1, rfl⟩ := map_some e
  obtain ⟨v0, rfl, o1⟩ := os.one
  unfold lenD at e1
  split at e1
  · cases e1
    obtain ⟨a, xs, rfl, g1, r⟩ := o1.lst_inv
    exact .inl ⟨a, xs, rfl, .inl (SqL.of g1), by rw [r.length]; exact q _ (.int _)⟩
  · cases e1
    obtain ⟨a, xs, rfl, g1, r⟩ := o1.tup_inv
    exact .inl ⟨a, xs, rfl, .inr g1.sq, by rw [r.length]; exact q _ (.int _)⟩
  · split at e1
    · rename_i hz
      cases e1
      obtain rfl := o1.str_inv
      exact .inr ⟨_, rfl, hz, q _ (.int _)⟩
    · cases e1
  · cases e1
theorem abs_ok : CallR X (.builtin "abs") (rBi X.K .abs) := by
  refine call_abs.mono fun vs H Q h => ?_
  obtain ⟨U, ds, d, os, e, q, hU⟩ := h
  replace e : absB ds = some d := e
  unfold absB at e
  split at e
  all_goals cases e
  obtain ⟨v0, rfl, o1⟩ := os.one
  obtain rfl := o1.int_inv
  exact ⟨_, rfl, q _ (.int _)⟩
theorem int_ok : CallR X (.type "int") (rBi X.K .int) := by
  refine call_int1.mono fun vs H Q h => ?_
  obtain ⟨U, ds, d, os, e, q, hU⟩ := h
  replace e : intB ds = some d := e
  unfold intB at e
  split at e
  all_goals cases e
  · obtain ⟨v0, rfl, o1⟩ := os.one
    obtain rfl := o1.int_inv
    exact .inl ⟨_, rfl, q _ (.int _)⟩
  · obtain ⟨v0, rfl, o1⟩ := os.one
    obtain rfl := o1.bl_inv
    exact .inr ⟨_, rfl, q _ (.int _)⟩
theorem str_ok : CallR X (.type "str") (rBi X.K .str) := by
  refine (call_str_int.or SkE.call_str_str).mono fun vs H Q h => ?_
  obtain ⟨U, ds, d, os, e, q, hU⟩ := h
  replace e : strB ds = some d := e
  unfold strB at e
  split at e
  · split at e
    · rename_i hz
      cases e
      obtain ⟨v0, rfl, o1⟩ := os.one
      obtain rfl := o1.int_inv
      exact .inl ⟨_, rfl, hz, q _ (.str _)⟩
    · cases e
  · cases e
    obtain ⟨v0, rfl, o1⟩ := os.one
    obtain rfl := o1.str_inv
    exact .inr ⟨_, rfl, q _ (.str _)⟩
  · cases e
theorem tuple_ok : CallR X (.type "tuple") (rBi X.K .tuple) := by
  refine call_tupX.mono fun vs H Q h => ?_
  obtain ⟨U, ds, d, os, e, q, hU⟩ := h
  replace e : tupleB ds = some d := e
  unfold tupleB at e
  split at e
  all_goals cases e
  · obtain ⟨v0, rfl, o1⟩ := os.one
    obtain ⟨a, xs, rfl, g1, r⟩ := o1.lst_inv
    exact ⟨a, xs, rfl, .inl ⟨SqL.of g1, fun l o hl hd => q.1 _ l o r hl hd⟩⟩
  · obtain ⟨v0, rfl, o1⟩ := os.one
    have o2 : ∀ zs, Opd X.K H U v0 (.tuple zs) → Rep X.K H U v0 (.tuple zs) := fun zs z => by
      cases z with
      | rep h => exact h
      | own h => cases h
    replace o2 := o2 _ o1
    obtain ⟨a, xs, rfl, g1, r⟩ := o1.tup_inv
    exact ⟨a, xs, rfl, .inr ⟨g1.sq, q.2 _ o2⟩⟩
theorem zip_keys {α : Type} {ks : List α} {vs : List V} (h : ks.length = vs.length) : (ks.zip vs).map (·.1) = ks := by
  rw [List.map_fst_zip]
  omega
theorem zip_keysD {α : Type} {ks : List α} {f : α → PyData} {vs : List V} {ds : List PyData} {K : PySem.W.Frag} {H : Hp} {U : Addr → Prop} (h : ks.length = vs.length) (r : RepAll K H U vs ds) : ((ks.map f).zip ds).map (·.1) = ks.map f := by
  rw [List.map_fst_zip]
  have := r.length
  simp
  omega
theorem keyish_of {k : List Key} (h : 0 < k.length ∧ k.length ≤ 3) : keyish (k.map kV) = true := by
  unfold keyish
  simp only [Bool.and_eq_true, Bool.not_eq_true', List.isEmpty_map, List.all_eq_true, List.mem_map]
  refine ⟨?_, ?_⟩
  · cases k with
    | nil => simp at h
    | cons _ _ => rfl
  · rintro _ ⟨j, _, rfl⟩
    cases j <;> rfl
theorem keys_rep {K : PySem.W.Frag} {H : Hp} {U : Addr → Prop} (hU : ∀ a, U a → Hard H a) : ∀ {ks : List (List Key)} {vs : List V} {bs : List Addr}, ks.length = vs.length → (∀ k ∈ ks, 0 < k.length ∧ k.length ≤ 3) → IsKeys H (ks.zip vs) bs → RepAll K H U (bs.map V.ref) (ks.map keysD)
  | [], [], _, _, _, h => by
    cases h
    exact .nil
  | [], _ :: _, _, h, _, _ => by simp at h
  | _ :: _, [], _, h, _, _ => by simp at h
  | k :: ks, v :: vs, _, hl, hk, h => by
    cases h with
    | @cons _ b _ bs e t =>
      have hb : H b = some (.tup (k.map kV)) := e
      refine .cons (.tup (.inl ⟨⟨{ cls := .none }, rfl, ?_⟩, fun z => (hU _ z).2 _ hb⟩) (rep_keys k)) (keys_rep hU (by simpa using hl) (fun j hj => hk j (List.mem_cons_of_mem _ hj)) t)
      rw [tupH_key (keyish_of (hk k List.mem_cons_self))]
      exact hb
theorem list_ok (hc : X.calm = true) : CallR X (.type "list") (rBi X.K .list) := by
  refine (call_list_of.or ((call_listD hc).or (call_list_dT hc))).mono fun vs H Q h => ?_
  obtain ⟨U, ds, d, os, e, q, hU⟩ := h
  replace e : listB ds = some d := e
  unfold listB at e
  split at e
  · cases e
    obtain ⟨v0, rfl, o1⟩ := os.one
    obtain ⟨a, xs, rfl, g1, r⟩ := o1.lst_inv
    exact .inl ⟨a, xs, rfl, .inl (SqL.of g1), fun l hl => q _ l r hl⟩
  · cases e
    obtain ⟨v0, rfl, o1⟩ := os.one
    obtain ⟨a, xs, rfl, g1, r⟩ := o1.tup_inv
    exact .inl ⟨a, xs, rfl, .inr g1.sq, fun l hl => q _ l r hl⟩
  · rename_i es
    split at e
    · rename_i hs
      cases e
      obtain ⟨v0, rfl, o1⟩ := os.one
      obtain ⟨a, rfl, ⟨ks, ws, ds, hl, hr, rr, rfl⟩ | ⟨ks, ws, ds, hl, hr, rr, rfl⟩⟩ := o1.dic_inv (fun ds e => by rw [e] at hs; cases hs)
      · refine .inr (.inl ⟨a, _, rfl, hr, fun p hp => ?_⟩)
        have e1 : ((ks.zip ws).map fun kv => kV kv.1) = ks.map kV := by
          have e2 : ((ks.zip ws).map (·.1)).map kV = ks.map kV := congrArg (List.map kV) (zip_keys hl)
          rw [List.map_map] at e2
          exact e2
        rw [e1]
        refine q _ p ?_ hp
        rw [zip_keysD hl rr]
        exact rep_keys ks
      · refine .inr (.inr ⟨a, _, rfl, hr, fun p bs hp hk => q _ p ?_ hp⟩)
        rw [zip_keysD hl.1 rr]
        exact keys_rep hU hl.1 hl.2.2 hk
    · cases e
  · cases e
theorem Rep.tup_all {K : PySem.W.Frag} {H : Hp} {U : Addr → Prop} : ∀ {vs : List V} {xs : List PyData} {es : Es}, RepAll K H U vs xs → pairsOf xs = some es → ∃ (ps : List Addr) (kvs : List (Key × V)), vs = ps.map V.ref ∧ Paired (fun p kv => SqT K H p [kV kv.1, kv.2]) ps kvs ∧
    ∃ (ks : List Key) (ws : List V) (ds : List PyData), kvs = ks.zip ws ∧ ks.length = ws.length ∧ es = (ks.map keyD).zip ds ∧ RepAll K H U ws ds
  | _, _, es, .nil, h => by
    simp only [pairsOf] at h
    cases h
    exact ⟨[], [], rfl, .nil, [], [], [], rfl, rfl, rfl, .nil⟩
  | _, x :: xs, es, .cons (v := v) (vs := vs) r rs, h => by
    unfold pairsOf at h
    split at h
    · rename_i h0
      cases h0
    · rename_i k y r' h0
      cases h0
      split at h
      · rename_i hk
        obtain ⟨es', e1, h⟩ := Option.bind_eq_some_iff.mp h
        cases h
        obtain ⟨kk, hk⟩ := Option.isSome_iff_exists.mp hk
        have hkd := keyOf_some hk
        subst hkd
        obtain ⟨ps, kvs, h1, h2, ks, ws, ds, h3, h4, h5, h6⟩ := Rep.tup_all rs e1
        obtain ⟨a, ys, rfl, g, ry⟩ := r.tup_inv
        cases ry with
        | cons ra ry =>
          cases ry with
          | cons rb ry =>
            cases ry
            have := ra.key_inv
            subst this
            subst h1 h3 h5
            exact ⟨a :: ps, (kk, _) :: ks.zip ws, rfl, .cons g.sq h2, kk :: ks, _ :: ws, _ :: ds, rfl, by simp [h4], rfl, .cons rb h6⟩
      · cases h
    · cases h
theorem merge_rel {K : PySem.W.Frag} {H : Hp} {U : Addr → Prop} : ∀ {ks : List Key} {ws : List V} {ds : List PyData} {ks0 : List Key} {ws0 : List V} {ds0 : List PyData}, ks.length = ws.length → RepAll K H U ws ds → ks0.length = ws0.length → RepAll K H U ws0 ds0 →
    ∃ (ks' : List Key) (vs' : List V) (ds' : List PyData), ks'.length = vs'.length ∧ mergeK (ks0.zip ws0) (ks.zip ws) = ks'.zip vs' ∧ mergeE ((ks0.map keyD).zip ds0) ((ks.map keyD).zip ds) = (ks'.map keyD).zip ds' ∧ RepAll K H U vs' ds'
  | [], [], _, ks0, ws0, ds0, _, .nil, h0, r0 => ⟨ks0, ws0, ds0, h0, rfl, rfl, r0⟩
  | [], _ :: _, _, _, _, _, h, _, _, _ => by simp at h
  | _ :: _, [], _, _, _, _, h, _, _, _ => by simp at h
  | k :: ks, w :: ws, _, ks0, ws0, ds0, h, .cons (d := d) (ds := ds) r rs, h0, r0 => by
    obtain ⟨ks1, ws1, ds1, a1, a2, a3, a4, _⟩ := putE_rel (enc := keyD) (fun j => keq_K j k) r h0 r0
    obtain ⟨ks', vs', ds', b1, b2, b3, b4⟩ := merge_rel (by simpa using h) rs a1 a4
    refine ⟨ks', vs', ds', b1, ?_, ?_, b4⟩
    · rw [← b2, ← a2]
      rfl
    · rw [← b3, ← a3]
      rfl
theorem keyish_refs (ps : List Addr) : keyish (ps.map V.ref) = false := by
  cases ps with
  | nil => rfl
  | cons p ps => simp [keyish, flatV]
theorem dict_ok (hc : X.calm = true) : CallR X (.type "dict") (rBi X.K .dict) := by
  refine (call_dictX hc).mono fun vs H Q h => ?_
  obtain ⟨U, ds, d, os, e, q, hU⟩ := h
  replace e : dictB ds = some d := e
  have fin : ∀ (a : Addr) (xs : List V) (zs : List PyData) (es : Es), (keyish xs = false → SqN X.K H a xs) → RepAll X.K H U xs zs → pairsOf zs = some es → NewV X.K H U (.dict (mergeE [] es)) Q → ∃ (a' : Addr) (ps : List Addr) (kvs : List (Key × V)), [V.ref a] = [.ref a'] ∧ SqN X.K H a' (ps.map V.ref) ∧ Paired (fun p kv => SqT X.K H p [kV kv.1, kv.2]) ps kvs ∧
      ∀ p, H p = none → Q (.ref p) (upd H p (.dK (mergeK [] kvs))) := by
    intro a xs zs es g r hp q
    obtain ⟨ps, kvs, rfl, h2, ks, ws, ds, rfl, h4, rfl, h6⟩ := Rep.tup_all r hp
    obtain ⟨ks', vs', ds', b1, b2, b3, b4⟩ := merge_rel (ks0 := []) (ws0 := []) (ds0 := []) h4 h6 rfl .nil
    refine ⟨a, ps, _, rfl, g (keyish_refs ps), h2, fun p hp => ?_⟩
    exact q _ p (.inl ⟨ks', vs', ds', congrArg HO.dK b2, b1, b3, b4⟩) hp
  unfold dictB at e
  split at e
  · split at e
    · obtain ⟨es, e1, rfl⟩ := map_some e
      obtain ⟨v0, rfl, o1⟩ := os.one
      obtain ⟨a, xs, rfl, g1, r⟩ := o1.lst_inv
      exact fin a xs _ es (fun _ => .inl (SqL.of g1)) r e1 q
    · cases e
  · split at e
    · obtain ⟨es, e1, rfl⟩ := map_some e
      obtain ⟨v0, rfl, o1⟩ := os.one
      obtain ⟨a, xs, rfl, g1, r⟩ := o1.tup_inv
      exact fin a xs _ es (fun n => g1.nodict n) r e1 q
    · cases e
  · cases e
theorem sorted_ok (hc : X.calm = true) (hu : X.A.units + 64 < cLine) : CallR X (.builtin "sorted") (rBi X.K .sorted) := by
  refine ((call_sortX hu).or ((call_sortD hc hu).or (call_sort_dT hc hu))).mono fun vs H Q h => ?_
  obtain ⟨U, ds, d, os, e, q, hU⟩ := h
  replace e : sortedB ds = some d := e
  unfold sortedB at e
  split at e
  · split at e
    · rename_i hs
      cases e
      obtain ⟨v0, rfl, o1⟩ := os.one
      obtain ⟨a, xs, rfl, g1, r⟩ := o1.lst_inv
      exact .inl ⟨U, a, xs, _, rfl, SqL.of g1, r, hs, fun ws p rw' hp => q ws p rw' hp⟩
    · cases e
  · rename_i es
    split at e
    · rename_i hs
      rw [Bool.and_eq_true] at hs
      obtain ⟨hs, hs2⟩ := hs
      cases e
      obtain ⟨v0, rfl, o1⟩ := os.one
      obtain ⟨a, rfl, ⟨ks, ws, ds, hl, hr, rr, rfl⟩ | ⟨ks, ws, ds, hl, hr, rr, rfl⟩⟩ := o1.dic_inv (fun ds e => by rw [e] at hs; cases hs)
      · refine .inr (.inl ⟨U, a, _, _, rfl, hr, ?_, hs2, fun ws p rw' hp => q ws p rw' hp⟩)
        have e1 : ((ks.zip ws).map fun kv => kV kv.1) = ks.map kV := by
          have e2 : ((ks.zip ws).map (·.1)).map kV = ks.map kV := congrArg (List.map kV) (zip_keys hl)
          rw [List.map_map] at e2
          exact e2
        rw [e1, zip_keysD hl rr]
        exact rep_keys ks
      · refine .inr (.inr ⟨U, a, _, _, rfl, hr, fun bs hk => ?_, hs2, fun ws p rw' hp => q ws p rw' hp⟩)
        rw [zip_keysD hl.1 rr]
        exact keys_rep hU hl.1 hl.2.2 hk
    · cases e
  · cases e
theorem ints_rep {K : PySem.W.Frag} {H : Hp} {U : Addr → Prop} : ∀ {ds : List PyData} {ys : List Int} {vs : List V}, intsOf ds = some ys → RepAll K H U vs ds → vs = ys.map V.int
  | [], ys, vs, h, r => by
    simp only [intsOf] at h
    cases h
    cases r
    rfl
  | d :: ds, ys, vs, h, r => by
    cases r with
    | cons r rs =>
      cases d with
      | int i =>
        simp only [intsOf] at h
        obtain ⟨zs, h1, h2⟩ := Option.map_eq_some_iff.mp h
        subst h2
        rw [r.int_inv, ints_rep h1 rs]
        rfl
      | _ => simp [intsOf] at h
theorem bls_rep {K : PySem.W.Frag} {H : Hp} {U : Addr → Prop} : ∀ {ds : List PyData} {ys : List Bool} {vs : List V}, blsOf ds = some ys → RepAll K H U vs ds → vs = ys.map V.bl
  | [], ys, vs, h, r => by
    simp only [blsOf] at h
    cases h
    cases r
    rfl
  | d :: ds, ys, vs, h, r => by
    cases r with
    | cons r rs =>
      cases d with
      | bool i =>
        simp only [blsOf] at h
        obtain ⟨zs, h1, h2⟩ := Option.map_eq_some_iff.mp h
        subst h2
        rw [r.bl_inv, bls_rep h1 rs]
        rfl
      | _ => simp [blsOf] at h
theorem maxOf_in : ∀ (xs : List Int) (a : Int), maxOf a xs ∈ a :: xs ∧ ∀ y ∈ a :: xs, y ≤ maxOf a xs
  | [], a => ⟨by simp [maxOf], fun y hy => by simp [maxOf] at hy ⊢; omega⟩
  | x :: xs, a => by
    have e : maxOf a (x :: xs) = maxOf (if a < x then x else a) xs := rfl
    obtain ⟨h1, h2⟩ := maxOf_in xs (if a < x then x else a)
    rw [e]
    refine ⟨?_, fun y hy => ?_⟩
    · rcases List.mem_cons.mp h1 with h | h
      · rw [h]; split <;> simp
      · exact List.mem_cons_of_mem _ (List.mem_cons_of_mem _ h)
    · have h3 := h2 _ List.mem_cons_self
      rcases List.mem_cons.mp hy with rfl | hy
      · refine Int.le_trans ?_ h3
        split <;> omega
      · rcases List.mem_cons.mp hy with rfl | hy
        · refine Int.le_trans ?_ h3
          split <;> omega
        · exact h2 y (List.mem_cons_of_mem _ hy)
theorem minOf_in : ∀ (xs : List Int) (a : Int), minOf a xs ∈ a :: xs ∧ ∀ y ∈ a :: xs, minOf a xs ≤ y
  | [], a => ⟨by simp [minOf], fun y hy => by simp [minOf] at hy ⊢; omega⟩
  | x :: xs, a => by
    have e : minOf a (x :: xs) = minOf (if x < a then x else a) xs := rfl
    obtain ⟨h1, h2⟩ := minOf_in xs (if x < a then x else a)
    rw [e]
    refine ⟨?_, fun y hy => ?_⟩
    · rcases List.mem_cons.mp h1 with h | h
      · rw [h]; split <;> simp
      · exact List.mem_cons_of_mem _ (List.mem_cons_of_mem _ h)
    · have h3 := h2 _ List.mem_cons_self
      rcases List.mem_cons.mp hy with rfl | hy
      · refine Int.le_trans h3 ?_
        split <;> omega
      · rcases List.mem_cons.mp hy with rfl | hy
        · refine Int.le_trans h3 ?_
          split <;> omega
        · exact h2 y (List.mem_cons_of_mem _ hy)
theorem sum_ok (hc : X.calm = true) : CallR X (.builtin "sum") (rBi X.K .sum) := by
  refine (cr_sum hc).mono fun vs H Q h => ?_
  obtain ⟨U, ds, d, os, e, q, hU⟩ := h
  replace e : sumB ds = some d := e
  unfold sumB at e
  split at e
  all_goals try (cases e; done)
  obtain ⟨ns, e1, rfl⟩ := map_some e
  obtain ⟨v0, rfl, o1⟩ := os.one
  obtain ⟨a, xs, rfl, g1, r⟩ := o1.lst_inv
  rw [ints_rep e1 r] at g1
  exact ⟨a, ns, rfl, SqL.of g1, q _ (.int _)⟩
theorem any_ok (hc : X.calm = true) : CallR X (.builtin "any") (rBi X.K .any) := by
  refine (cr_any hc).mono fun vs H Q h => ?_
  obtain ⟨U, ds, d, os, e, q, hU⟩ := h
  replace e : anyB ds = some d := e
  unfold anyB at e
  split at e
  all_goals try (cases e; done)
  obtain ⟨ns, e1, rfl⟩ := map_some e
  obtain ⟨v0, rfl, o1⟩ := os.one
  obtain ⟨a, xs, rfl, g1, r⟩ := o1.lst_inv
  rw [bls_rep e1 r] at g1
  exact ⟨a, ns, rfl, SqL.of g1, q _ (.bl _)⟩
theorem all_ok' (hc : X.calm = true) : CallR X (.builtin "all") (rBi X.K .all) := by
  refine (cr_all hc).mono fun vs H Q h => ?_
  obtain ⟨U, ds, d, os, e, q, hU⟩ := h
  replace e : allB ds = some d := e
  unfold allB at e
  split at e
  all_goals try (cases e; done)
  obtain ⟨ns, e1, rfl⟩ := map_some e
  obtain ⟨v0, rfl, o1⟩ := os.one
  obtain ⟨a, xs, rfl, g1, r⟩ := o1.lst_inv
  rw [bls_rep e1 r] at g1
  exact ⟨a, ns, rfl, SqL.of g1, q _ (.bl _)⟩
theorem OpdAll.two {K : PySem.W.Frag} {H : Hp} {U : Addr → Prop} {vs : List V} {d e : PyData} (h : OpdAll K H U vs [d, e]) : ∃ v w, vs = [v, w] ∧ Opd K H U v d ∧ Opd K H U w e := by
  cases h with
  | cons o h =>
    obtain ⟨w, rfl, o2⟩ := h.one
    exact ⟨_, w, rfl, o, o2⟩
theorem max_ok (hc : X.calm = true) : CallR X (.builtin "max") (rBi X.K .max) := by
  refine ((call_max2 hc).or (cr_max hc)).mono fun vs H Q h => ?_
  obtain ⟨U, ds, d, os, e, q, hU⟩ := h
  replace e : maxB ds = some d := e
  unfold maxB at e
  split at e
  · cases e
    obtain ⟨v, w, rfl, o1, o2⟩ := os.two
    obtain rfl := o1.int_inv
    obtain rfl := o2.int_inv
    exact .inl ⟨_, _, rfl, q _ (.int _)⟩
  · split at e
    · rename_i a r e1
      cases e
      obtain ⟨v0, rfl, o1⟩ := os.one
      obtain ⟨p, xs, rfl, g1, rr⟩ := o1.lst_inv
      rw [ints_rep e1 rr] at g1
      refine .inr ⟨p, a :: r, rfl, SqL.of g1, by simp, fun m hm hy => ?_⟩
      obtain ⟨h1, h2⟩ := maxOf_in r a
      have : m = maxOf a r := Int.le_antisymm (h2 m hm) (hy _ h1)
      rw [this]
      exact q _ (.int _)
    · cases e
  · cases e
theorem min_ok (hc : X.calm = true) : CallR X (.builtin "min") (rBi X.K .min) := by
  refine ((call_min2 hc).or (cr_min hc)).mono fun vs H Q h => ?_
  obtain ⟨U, ds, d, os, e, q, hU⟩ := h
  replace e : minB ds = some d := e
  unfold minB at e
  split at e
  · cases e
    obtain ⟨v, w, rfl, o1, o2⟩ := os.two
    obtain rfl := o1.int_inv
    obtain rfl := o2.int_inv
    exact .inl ⟨_, _, rfl, q _ (.int _)⟩
  · split at e
    · rename_i a r e1
      cases e
      obtain ⟨v0, rfl, o1⟩ := os.one
      obtain ⟨p, xs, rfl, g1, rr⟩ := o1.lst_inv
      rw [ints_rep e1 rr] at g1
      refine .inr ⟨p, a :: r, rfl, SqL.of g1, by simp, fun m hm hy => ?_⟩
      obtain ⟨h1, h2⟩ := minOf_in r a
      have : m = minOf a r := Int.le_antisymm (hy _ h1) (h2 m hm)
      rw [this]
      exact q _ (.int _)
    · cases e
  · cases e
/-- how a built-in stands -/
theorem bi_ok (T : Fits X C B k) (b : Bi) : (∃ id, bootBuiltins b.name = some (.builtin id) ∧ CallR X (.builtin id) (rBi X.K b)) ∨ ∃ t, bootBuiltins b.name = some (.type t) ∧ CallR X (.type t) (rBi X.K b) := by
  cases b with
  | len => exact .inl ⟨"len", by decide +kernel, len_ok⟩
  | abs => exact .inl ⟨"abs", by decide +kernel, abs_ok⟩
  | repr => exact .inl ⟨"repr", by decide +kernel, repr_ok T.grd T.u64⟩
  | int => exact .inr ⟨"int", by decide +kernel, int_ok⟩
  | str => exact .inr ⟨"str", by decide +kernel, str_ok⟩
  | tuple => exact .inr ⟨"tuple", by decide +kernel, tuple_ok⟩
  | list => exact .inr ⟨"list", by decide +kernel, list_ok T.calm⟩
  | dict => exact .inr ⟨"dict", by decide +kernel, dict_ok T.calm⟩
  | sorted => exact .inl ⟨"sorted", by decide +kernel, sorted_ok T.calm T.u64⟩
  | sum => exact .inl ⟨"sum", by decide +kernel, sum_ok T.calm⟩
  | max => exact .inl ⟨"max", by decide +kernel, max_ok T.calm⟩
  | min => exact .inl ⟨"min", by decide +kernel, min_ok T.calm⟩
  | any => exact .inl ⟨"any", by decide +kernel, any_ok T.calm⟩
  | all => exact .inl ⟨"all", by decide +kernel, all_ok' T.calm⟩
theorem plain_args {es : List Expr} {env : Env} {pos : Pos} (h : ∀ e ∈ es, star e = false) : (backTo pos (starEach es env)).any (·.1) = false := by
  induction es with
  | nil => rfl
  | cons e es ih =>
    rw [star_no (h e List.mem_cons_self)]
    have := ih fun e' he => h e' (List.mem_cons_of_mem _ he)
    unfold backTo at this ⊢
    simp only [List.map_cons, List.any_cons, Bool.false_or]
    exact this
theorem opnEs_star : ∀ {es : List Expr} {ρ : En} {r : List Opn × En}, opnEs F B es ρ = some r → ∀ e ∈ es, star e = false
  | [], _, _, _, e, he => by cases he
  | e :: es, ρ, r, h, e', he => by
    simp only [opnEs] at h
    obtain ⟨hs, h⟩ := ite_some' h
    obtain ⟨r0, _, h⟩ := bind_some h
    obtain ⟨q0, h2, _⟩ := bind_some h
    rcases List.mem_cons.mp he with rfl | he
    · exact hs
    · exact opnEs_star h2 e' he
theorem valEs_star : ∀ {es : List Expr} {ρ : En} {r : List PyData × En}, valEs C F B es ρ = some r → ∀ e ∈ es, star e = false
  | [], _, _, _, e, he => by cases he
  | e :: es, ρ, r, h, e', he => by
    simp only [valEs] at h
    obtain ⟨hs, h⟩ := ite_some' h
    obtain ⟨r0, _, h⟩ := bind_some h
    obtain ⟨q0, h2, _⟩ := bind_some h
    rcases List.mem_cons.mp he with rfl | he
    · exact hs
    · exact valEs_star h2 e' he
theorem all_star (es : List Expr) : (∀ e ∈ es, star e = false) ∨ ∃ e ∈ es, star e = true := by
  induction es with
  | nil => exact .inl fun e he => by cases he
  | cons e es ih =>
    by_cases h : star e = true
    · exact .inr ⟨e, List.mem_cons_self, h⟩
    · rcases ih with ih | ⟨e', h1, h2⟩
      · refine .inl fun e' he => ?_
        rcases List.mem_cons.mp he with rfl | he
        · simpa using h
        · exact ih e' he
      · exact .inr ⟨e', List.mem_cons_of_mem _ h1, h2⟩
theorem st_bi (T : Fits X C B k) (S : SoO X C F B) (b : Bi) (hb : b ∈ bis) (f : Str) (hf : f = b.name) (e : Expr) (es : List Expr) (p1 p : Pos) (hg : glB B.sc f = true) :
    PE X (.Call (.Name f p1) (e :: es) [] p) (tO X.K fun ρ => (opnEs F B (e :: es) ρ).bind fun q => (rdOs q.2 q.1).bind fun ds => (biD b ds).bind fun d => some (resD q.2 d)) := by
  subst hf
  rcases all_star (e :: es) with hs | ⟨e', h1, h2⟩
  · have hn := glB_gl hg
    have body : ∀ (σ : St) (H : Hp) (Q : VK), tO X.K (fun ρ => (opnEs F B (e :: es) ρ).bind fun q => (rdOs q.2 q.1).bind fun ds => (biD b ds).bind fun d => some (resD q.2 d)) σ H Q → tCB (rBi X.K b) (tOs X.K (opnEs F B (e :: es))) σ H Q := by
      intro σ H Q h
      obtain ⟨P, Z, ρ, r, x, e, q⟩ := h
      obtain ⟨r1, e1, e⟩ := bind_some e
      obtain ⟨ds, e2, e⟩ := bind_some e
      obtain ⟨d, e3, e⟩ := bind_some e
      cases e
      exact ⟨P, Z, ρ, r1, x, e1, fun vs H1 s1 os sh => ⟨_, ds, d, os.opd s1 e2, e3, newV_res s1 fun v H2 vl => q v H2 vl sh, fun a u => UU.hard s1 u⟩⟩
    rcases bi_ok (k := k) T b with ⟨id, h1, h2⟩ | ⟨t, h1, h2⟩
    · exact (pe_callB h2 (T.gl hg) (T.blt b hb) h1 (pa_opns S (e :: es)) hn.2.2 hn.2.1 (star_no (hs e List.mem_cons_self)) (plain_args fun e' he => hs e' (List.mem_cons_of_mem _ he))).imp body
    · exact (pe_callTy h2 (T.gl hg) (T.blt b hb) h1 (pa_opns S (e :: es)) hn.2.2 hn.2.1 (star_no (hs e List.mem_cons_self)) (plain_args fun e' he => hs e' (List.mem_cons_of_mem _ he))).imp body
  · refine .no fun σ H Q h => ?_
    obtain ⟨P, Z, ρ, r, x, e, q⟩ := h
    obtain ⟨r1, e1, e⟩ := bind_some e
    have := opnEs_star e1 e' h1
    rw [h2] at this
    cases this
/-! ### isinstance -/
def tyName : PyData → String
  | .none => "NoneType"
  | .bool _ => "bool"
  | .int _ => "int"
  | .str _ => "str"
  | .list _ => "list"
  | .tuple _ => "tuple"
  | .dict _ => "dict"
theorem typ_of {K : PySem.W.Frag} {H : Hp} {U : Addr → Prop} {v : V} {d : PyData} (h : Opd K H U v d) (hd : notDictD d = true) : TyX K H v (.type (tyName d)) := by
  cases d with
  | none => obtain rfl := h.non_inv; exact .base .non
  | bool b => obtain rfl := h.bl_inv; exact .base (.bl b)
  | int i => obtain rfl := h.int_inv; exact .base (.int i)
  | str z => obtain rfl := h.str_inv; exact .base (.str z)
  | list xs => obtain ⟨a, ys, rfl, g, _⟩ := h.lst_inv; exact .base (.lst g)
  | tuple xs =>
    obtain ⟨a, ys, rfl, g, _⟩ := h.tup_inv
    rcases g with ⟨⟨o, _, g⟩, _⟩ | ⟨_, o, its, n, g1, g2, _⟩
    · unfold tupH at g
      split at g
      · exact .base (.tup g)
      · exact .fTuple g
    · exact .kTuple g1 g2
  | dict _ => simp [notDictD] at hd
end
end Pf


namespace Pf
open PySem PySem.Spec L2
section
variable {X : Cx} {C : Ctx} {B : Bk} {k : Nat} {F : Fns}
theorem isiT_kit {K : PySem.W.Frag} {d : PyData} {t : Str} {b : Bool} (h : isiT d t = some b) : ∃ n : String, (t = n) ∧ bootBuiltins t = some (.type n) ∧ PySem.W.kitOne K (.type (tyName d)) (.type n) = some b ∧ (t = "int" ∨ t = "bool" ∨ t = "str" ∨ t = "tuple" ∨ t = "list") := by
  unfold isiT at h
  split at h
  · rename_i e
    subst e
    refine ⟨"int", rfl, by decide +kernel, ?_, .inl rfl⟩
    cases d <;> cases h <;> (refine kit_ty ?_; dsimp only [tyName]; decide +kernel)
  · split at h
    · rename_i e
      subst e
      refine ⟨"bool", rfl, by decide +kernel, ?_, .inr (.inl rfl)⟩
      cases d <;> cases h <;> (refine kit_ty ?_; dsimp only [tyName]; decide +kernel)
    · split at h
      · rename_i e
        subst e
        refine ⟨"str", rfl, by decide +kernel, ?_, .inr (.inr (.inl rfl))⟩
        cases d <;> cases h <;> (refine kit_ty ?_; dsimp only [tyName]; decide +kernel)
      · split at h
        · rename_i e
          subst e
          refine ⟨"tuple", rfl, by decide +kernel, ?_, .inr (.inr (.inr (.inl rfl)))⟩
          cases d <;> cases h <;> (refine kit_ty ?_; dsimp only [tyName]; decide +kernel)
        · split at h
          · rename_i e
            subst e
            refine ⟨"list", rfl, by decide +kernel, ?_, .inr (.inr (.inr (.inr rfl)))⟩
            cases d <;> cases h <;> (refine kit_ty ?_; dsimp only [tyName]; decide +kernel)
          · cases h
theorem Fits.bt (T : Fits X C B k) {t : Str} (h : t = "int" ∨ t = "bool" ∨ t = "str" ∨ t = "tuple" ∨ t = "list") : X.mg t = none := by
  obtain ⟨_, _, h1, h2, h3, h4, h5⟩ := T.btx
  rcases h with rfl | rfl | rfl | rfl | rfl
  · exact h1
  · exact h2
  · exact h3
  · exact h4
  · exact h5
def isiE (F : Fns) (B : Bk) (f t : Str) (a : Expr) (ρ : En) : Option (Opn × Bool × En) :=
  if f == "isinstance" && glB B.sc t then (F.o B a ρ).bind fun r => (rdO r.2.2 r.1).bind fun d => if notDictD d then (isiT d t).bind fun kk => some (.val (.bool kk), false, r.2.2) else none else none
theorem st_isi (T : Fits X C B k) (S : SoO X C F B) (f : Str) (a : Expr) (t : Str) (p1 p2 p : Pos) (hg : glB B.sc f = true) (hs : star a = false) :
    PE X (.Call (.Name f p1) [a, .Name t p2] [] p) (tO X.K (isiE F B f t a)) := by
  by_cases hc : (f == "isinstance" && glB B.sc t) = true
  · have hc' := hc
    simp only [Bool.and_eq_true, beq_iff_eq] at hc
    obtain ⟨rfl, ht⟩ := hc
    have hn := glB_gl hg
    have hm := glB_gl ht
    by_cases hk : t = "int" ∨ t = "bool" ∨ t = "str" ∨ t = "tuple" ∨ t = "list"
    · have hb : ∃ n : String, bootBuiltins t = some (.type n) ∧ t = n := by
        rcases hk with rfl | rfl | rfl | rfl | rfl
        · exact ⟨"int", by decide +kernel, rfl⟩
        · exact ⟨"bool", by decide +kernel, rfl⟩
        · exact ⟨"str", by decide +kernel, rfl⟩
        · exact ⟨"tuple", by decide +kernel, rfl⟩
        · exact ⟨"list", by decide +kernel, rfl⟩
      obtain ⟨n, hb, _⟩ := hb
      refine (pe_callB call_isi (T.gl hg) T.btx.2.1 (by decide +kernel) (pa_cons (S.o a) (pa_cons (pe_bltn (v := .ty n) (T.gl ht) (T.bt hk) hb rfl hm.2.2 hm.2.1) pa_nil (star_no rfl)) (star_no hs)) hn.2.2 hn.2.1 (star_no hs) (by rfl)).imp fun σ H Q h => ?_
      obtain ⟨P, Z, ρ, r, x, e, q⟩ := h
      unfold isiE at e
      rw [if_pos hc'] at e
      obtain ⟨r1, e1, e⟩ := bind_some e
      obtain ⟨d, e2, e⟩ := bind_some e
      obtain ⟨h1, e⟩ := ite_some e
      obtain ⟨kk, e3, e⟩ := bind_some e
      cases e
      refine ⟨P, Z, ρ, r1, x, e1, fun v H1 v1 sh => ?_⟩
      obtain ⟨s1, o1⟩ := v1.stt
      obtain ⟨n', g1, g2, g3, g4⟩ := isiT_kit (K := X.K) e3
      rw [hb] at g2
      cases g2
      exact ⟨v, .ty n, _, _, kk, rfl, .ty n, typ_of (o1.opd s1 e2) h1, g3, q _ _ ⟨s1, .bl kk⟩ sh⟩
    · refine PE.no fun σ H Q h => ?_
      obtain ⟨P, Z, ρ, r, x, e, q⟩ := h
      unfold isiE at e
      rw [if_pos hc'] at e
      obtain ⟨r1, e1, e⟩ := bind_some e
      obtain ⟨d, e2, e⟩ := bind_some e
      obtain ⟨h1, e⟩ := ite_some e
      obtain ⟨kk, e3, e⟩ := bind_some e
      obtain ⟨n', g1, g2, g3, g4⟩ := isiT_kit (K := X.K) e3
      exact hk g4
  · refine PE.no fun σ H Q h => ?_
    obtain ⟨P, Z, ρ, r, x, e, q⟩ := h
    unfold isiE at e
    rw [if_neg hc] at e
    cases e

/-! ### methods -/
theorem base_no {o : Expr} {m : Str} {env : Env} {w : Sem Value} (h : notCall o = true) : attributeBase o m env w = w := by
  cases o with
  | Call f args kws pos =>
    cases f with
    | Name y q =>
      cases args with
      | nil =>
        cases kws with
        | nil => simp [notCall] at h
        | cons _ _ => rfl
      | cons _ _ => rfl
    | _ => rfl
  | _ => rfl
theorem few_ok {es : List Expr} {pos : Pos} {env : Env} (h : ∀ e ∈ es, star e = false) (hl : es.length < 10) :
    ((backTo pos (starEach es env)).all (fun x => !x.1) && (backToKw pos (keywordEach [] env)).all (fun x => x.1.isSome) && decide (es.length + ([] : List Keyword).length + (if ([] : List Keyword).isEmpty then 0 else 1) < 30)) = true := by
  have h1 : (backTo pos (starEach es env)).all (fun x => !x.1) = true := by
    have := plain_args (env := env) (pos := pos) h
    rw [List.all_eq_true]
    intro x hx
    rw [List.any_eq_false] at this
    have := this x hx
    simpa using this
  rw [h1]
  simp only [Bool.true_and, Bool.and_eq_true, decide_eq_true_eq]
  refine ⟨rfl, ?_⟩
  simp
  omega
/-- a built-in type's method, however many arguments -/
theorem pe_met {o : Expr} {es : List Expr} {g : En → Option (Opn × Bool × En)} {t : TA} {name : Str} {apos cpos : Pos} {T id : String} {r : V → List V → Hp → VK → Prop} (pa : PlainAttrs T) (slot : Slot T name id) (hty : typeOf (.builtin id) = pure (.type "method_descriptor")) (hm : MtR X id r)
    (ho : PE X o (tO X.K g)) (ha : PA X es t) (h0 : es = [] → ∀ σ H Q, t σ H Q → Q [] H) (hn : notCall o = true) (hs : ∀ e ∈ es, star e = false) (hl : es.length < 10) (hline : (apos.endLine == cpos.line) = true) :
    PE X (.Call (.Attribute o name apos) es [] cpos) (tBM X.K T r (tO X.K g) t) := by
  cases es with
  | nil =>
    refine (pe_bm0 pa slot hty hm ho (base_no hn) hline).imp fun σ H Q h => ?_
    obtain ⟨P, Z, ρ, r0, x, e, q⟩ := h
    refine ⟨P, Z, ρ, r0, x, e, fun v H1 ov sh => ?_⟩
    obtain ⟨h1, h2⟩ := q v H1 ov sh
    exact ⟨h1, h0 rfl _ _ _ h2⟩
  | cons e es =>
    exact pe_bm pa slot hty hm ho ha (base_no hn) (few_ok hs hl) hline (star_no (hs e List.mem_cons_self)) (plain_args fun e' he => hs e' (List.mem_cons_of_mem _ he))
theorem vals_nil {es : List Expr} (h : es = []) (σ : St) (H : Hp) (Q : List V → Hp → Prop) (q : tVs X.K (valEs C F B es) σ H Q) : Q [] H := by
  subst h
  obtain ⟨P, Z, ρ, r, x, e, q⟩ := q
  cases e
  exact q [] H x .nil (.refl ρ)
theorem opns_nil {es : List Expr} (h : es = []) (σ : St) (H : Hp) (Q : List V → Hp → Prop) (q : tOs X.K (opnEs F B es) σ H Q) : Q [] H := by
  subst h
  obtain ⟨P, Z, ρ, r, x, e, q⟩ := q
  cases e
  exact q [] H x .nil (.refl ρ)
/-- what a list's method does, for the three of them -/
def rMut (K : PySem.W.Frag) (m : Str) : V → List V → Hp → VK → Prop := fun x vs H Q => ∃ U p ds as d' res, x = .ref p ∧ Cont K H U p (.list ds) ∧ RepAll K H U vs as ∧ mutD m (.list ds) as = some (d', res) ∧
  ∀ v o, Rep K H U v res → (Cont K H U p (.list ds) → Pre (fun a => a = p) H (upd H p o) → U p → Cont K (upd H p o) U p d') → Q v (upd H p o)
theorem mut_ok (m : Str) (hm : mutNames.contains m = true) : ∃ id, Slot "list" m id ∧ typeOf (.builtin id) = pure (.type "method_descriptor") ∧ MtR X id (rMut X.K m) := by
  have pre : ∀ {H : Hp} {p : Addr} {o : HO} {U : Addr → Prop} {vs : List V} {ds : List PyData}, Pre (fun a => a = p) H (upd H p o) → U p → RepAll X.K H U vs ds → RepAll X.K (upd H p o) U vs ds := fun h u r => r.pre (h.mono fun a e => e ▸ u)
  have h3 : m = "append" ∨ m = "pop" ∨ m = "reverse" ∨ m = "extend" := by
    simp only [mutNames, List.contains_cons, List.contains_nil, Bool.or_false, Bool.or_eq_true, beq_iff_eq] at hm
    exact hm
  rcases h3 with rfl | rfl | rfl | rfl
  · refine ⟨"list.append", PySem.F.slot_list_append, PySem.F.type_list_append, fun pins s σ H x xs v us Q I rx rv h => mt_append pins s σ H x xs v us Q I rx rv ?_⟩
    obtain ⟨U, p, ds, as, d', res, rfl, c, r, e, q⟩ := h
    simp only [mutD, if_true] at e
    unfold appM at e
    split at e
    · split at e
      · rename_i y hz
        cases e
        cases c with
        | lst h r0 =>
          cases r with
          | cons r1 rr =>
            cases rr
            exact ⟨p, _, _, rfl, rfl, h, by rw [r0.length]; exact hz, q _ _ .non fun _ hp u => .lst upd_same (pre hp u (r0.append (.cons r1 .nil)))⟩
      · cases e
    · cases e
  · refine ⟨"list.pop", PySem.F.slot_list_pop, PySem.F.type_list_pop, fun pins s σ H x xs v us Q I rx rv h => ?_⟩
    obtain ⟨U, p, ds, as, d', res, rfl, c, r, e, q⟩ := h
    have n1 : ¬ (("pop" : Str) = "append") := by decide +kernel
    simp only [mutD, if_neg n1, if_true] at e
    unfold popM at e
    split at e
    · obtain ⟨y, e1, e⟩ := map_some e
      cases e
      cases c with
      | lst h r0 =>
        cases r
        obtain ⟨w, g1, g2⟩ := r0.get e1
        refine mt_pop pins s σ H _ _ v us Q I rx rv ⟨p, _, w, rfl, rfl, h, by rw [r0.length]; exact g1, q _ _ g2 fun _ hp u => .lst upd_same (pre hp u ?_)⟩
        rw [List.dropLast_eq_take, List.dropLast_eq_take, r0.length]
        exact r0.take _
    · split at e
      · rename_i i hz
        obtain ⟨j, ej, e⟩ := bind_some e
        obtain ⟨y, e1, e⟩ := map_some e
        cases e
        cases c with
        | lst h r0 =>
          cases r with
          | cons ri rr =>
            cases rr
            have := ri.int_inv
            subst this
            obtain ⟨w, g1, g2⟩ := r0.get e1
            exact mt_popAt pins s σ H _ _ v us Q I rx rv ⟨p, _, i, j, w, rfl, rfl, h, hz.1, hz.2, by rw [r0.length]; exact (ixN_seq ej).1, g1, q _ _ g2 fun _ hp u => .lst upd_same (pre hp u (r0.erase j))⟩
      · cases e
    · cases e
  · refine ⟨"list.reverse", PySem.F.slot_list_reverse, PySem.F.type_list_reverse, fun pins s σ H x xs v us Q I rx rv h => mt_reverse pins s σ H x xs v us Q I rx rv ?_⟩
    obtain ⟨U, p, ds, as, d', res, rfl, c, r, e, q⟩ := h
    have n1 : ¬ (("reverse" : Str) = "append") := by decide +kernel
    have n2 : ¬ (("reverse" : Str) = "pop") := by decide +kernel
    have n3 : ¬ (("reverse" : Str) = "extend") := by decide +kernel
    simp only [mutD, if_neg n1, if_neg n2, if_neg n3, if_true] at e
    unfold revM at e
    split at e
    · cases e
      cases c with
      | lst h r0 =>
        cases r
        exact ⟨p, _, rfl, rfl, h, q _ _ .non fun _ hp u => .lst upd_same (pre hp u r0.reverse)⟩
    · cases e
  · refine ⟨"list.extend", PySem.F.slot_list_extend, PySem.F.type_list_extend, fun pins s σ H x xs v us Q I rx rv h => mt_extend pins s σ H x xs v us Q I rx rv ?_⟩
    obtain ⟨U, p, ds, as, d', res, rfl, c, r, e, q⟩ := h
    have n1 : ¬ (("extend" : Str) = "append") := by decide +kernel
    have n2 : ¬ (("extend" : Str) = "pop") := by decide +kernel
    simp only [mutD, if_neg n1, if_neg n2, if_true] at e
    unfold extM at e
    split at e
    · split at e
      · rename_i ys hz
        cases e
        cases c with
        | lst h r0 =>
          cases r with
          | cons ry rr =>
            cases rr
            obtain ⟨b, zs, rfl, g, rz⟩ := ry.lst_inv
            exact ⟨p, b, _, zs, rfl, rfl, h, g.1, by rw [r0.length, rz.length]; exact hz, q _ _ .non fun _ hp u => .lst upd_same (pre hp u (r0.append rz))⟩
      · cases e
    · cases e
/-! ### d.get(..) -/
def rGet (K : PySem.W.Frag) : V → List V → Hp → VK → Prop := fun x vs H Q => ∃ U d ds z, Opd K H U x d ∧ RepAll K H U vs ds ∧ dgetM d ds = some z ∧ ∀ w, Rep K H U w z → Q w H
theorem get_ok (hu : X.A.units + 1 < cLine) : MtR X "dict.get" (rGet X.K) := by
  intro pins s σ H x xs v us Q I rx rv h
  refine get_dx hu pins s σ H x xs v us Q I rx rv ?_
  obtain ⟨U, d, ds, z, o, r, e, q⟩ := h
  unfold dgetM at e
  split at e
  · obtain ⟨ok, e⟩ := ite_some e
    cases e
    cases r with
    | cons rk rr =>
      cases rr
      obtain ⟨a, rd, rfl, g, rel⟩ := o.dget (.rep rk) ok
      refine ⟨a, rd, rfl, .inl ⟨_, rfl, g, ?_⟩⟩
      cases rd with
      | none =>
        cases hg : getE _ _ with
        | none => rw [hg] at q; exact q _ .non
        | some y => rw [hg] at rel; exact rel.elim
      | some w =>
        cases hg : getE _ _ with
        | none => rw [hg] at rel; exact rel.elim
        | some y => rw [hg] at rel q; exact q _ rel
  · obtain ⟨ok, e⟩ := ite_some e
    cases e
    cases r with
    | cons rk rr =>
      cases rr with
      | cons rx' rr =>
        cases rr
        obtain ⟨a, rd, rfl, g, rel⟩ := o.dget (.rep rk) ok
        refine ⟨a, rd, rfl, .inr ⟨_, _, rfl, g, ?_⟩⟩
        cases rd with
        | none =>
          cases hg : getE _ _ with
          | none => rw [hg] at q; exact q _ rx'
          | some y => rw [hg] at rel; exact rel.elim
        | some w =>
          cases hg : getE _ _ with
          | none => rw [hg] at rel; exact rel.elim
          | some y => rw [hg] at rel q; exact q _ rel
  · cases e
/-- a dict stands there, be it locked -/
def IsDic (x : V) (H : Hp) : Prop := ∃ a, x = .ref a ∧ ((∃ kvs, Rd H a (.dK kvs)) ∨ ∃ kvs, Rd H a (.dT kvs))
theorem isDic_of {K : PySem.W.Frag} {H : Hp} {U : Addr → Prop} {x : V} {d : PyData} (o : Opd K H U x d) (h : isDicB d = true) : IsDic x H := by
  cases d with
  | dict es =>
    obtain ⟨a, rfl, hh⟩ := o.dic_inv (fun ds e => by subst e; cases h)
    rcases hh with ⟨ks, vs, ds, l, rd, r, rfl⟩ | ⟨ks, vs, ds, l, rd, r, rfl⟩
    · exact ⟨a, rfl, .inl ⟨_, rd⟩⟩
    · exact ⟨a, rfl, .inr ⟨_, rd⟩⟩
  | _ => cases h
theorem isDic_is {pins : List (Addr × Obj)} {σ : L2.St} {H : Hp} {s : Shared} {x : V} {v : Value} (I : Inv X pins σ H s) (r : RelV x v) (h : IsDic x H) : s.TypeIs v "dict" ∧ ∀ a, v = .ref a → ∃ ob, s.heap.get? a = some ob ∧ ob.dict = none := by
  obtain ⟨a, rfl, h⟩ := h
  cases r
  obtain ⟨o, e, ex⟩ : ∃ o, s.heap.get? a = some o ∧ o.ExactDict := by
    rcases h with ⟨kvs, h⟩ | ⟨kvs, h⟩
    · obtain ⟨_, _, _, _, o, _, _, e, ex, _⟩ := h.ok I.hok
      exact ⟨o, e, ex⟩
    · obtain ⟨_, _, _, _, o, _, _, e, ex, _⟩ := h.ok I.hok
      exact ⟨o, e, ex⟩
  exact ⟨⟨o, e, ex.1⟩, fun b eb => by cases eb; exact ⟨o, e, ex.2.1⟩⟩
/-- d.get(..), the dict locked or not -/
theorem pe_getX {o e1 : Expr} {es : List Expr} {to : TE} {t : TA} {apos cpos : Pos} {r : V → List V → Hp → VK → Prop} (hm : MtR X "dict.get" r) (ho : PE X o to) (ha : PA X (e1 :: es) t) (hn : notCall o = true) (hs : ∀ e ∈ e1 :: es, star e = false) (hl : (e1 :: es).length < 10) (hline : (apos.endLine == cpos.line) = true) :
    PE X (.Call (.Attribute o "get" apos) (e1 :: es) [] cpos) (fun σ H Q => to σ H fun x H1 => IsDic x H1 ∧ t σ H1 fun xs H2 => r x xs H2 Q) := by
  constructor
  intro pins s σ H Q I h
  apply wpAny_Call_method_late (base_no hn) (few_ok hs hl) hline rfl
  refine thn (ho.run pins s σ H _ I h) fun v s1 w => ?_
  obtain ⟨x, H1, I1, r1, ty, q1⟩ := w
  obtain ⟨h1, h2⟩ := isDic_is I1 r1 ty
  have hp : (backTo cpos (starEach es X.env)).any (·.1) = false := plain_args fun e he => hs e (List.mem_cons_of_mem _ he)
  have he : starEach (e1 :: es) X.env = (false, eval e1 X.env) :: starEach es X.env := star_no (hs e1 List.mem_cons_self)
  refine ⟨"dict", "dict.get", PySem.F.plainAttrs_dict, PySem.F.slot_dict_get, PySem.F.type_dict_get, h1, h2, ?_⟩
  have run := ha.run cpos pins s1 σ H1 _ I1 q1
  rw [he] at run ⊢
  refine Calls.callWith_builtin ?_ (Calls.evalArgs_plain (thn run fun us s2 w => ?_))
  · show (false || (backTo cpos (starEach es X.env)).any (·.1)) = false
    rw [hp]
    rfl
  · obtain ⟨vs, H2, I2, r2, q2⟩ := w
    exact hm pins s2 σ H2 x vs v us Q I2 r1 r2 q2
theorem pre_upd {H : Hp} {p : Addr} {o : HO} : Pre (fun a => a = p) H (upd H p o) := fun a u e n => ⟨u, by rw [upd_ne n]; exact e, .refl u⟩
theorem strs_rep {K : PySem.W.Frag} {H : Hp} {U : Addr → Prop} : ∀ {ds : List PyData} {ys : List Str} {vs : List V}, strsOf ds = some ys → RepAll K H U vs ds → vs = ys.map V.str
  | [], ys, vs, h, r => by
    cases h
    cases r
    rfl
  | d :: ds, ys, vs, h, r => by
    cases d with
    | str x =>
      simp only [strsOf] at h
      obtain ⟨zs, h1, h2⟩ := map_some h
      subst h2
      cases r with
      | cons r1 r2 =>
        rw [strs_rep h1 r2, r1.str_inv]
        rfl
    | _ => simp [strsOf] at h
def rMet (K : PySem.W.Frag) (m : Str) : V → List V → Hp → VK → Prop := fun x vs H Q => ∃ U z ds d, x = .str z ∧ OpdAll K H U vs ds ∧ metD m (.str z) ds = some d ∧ NewV K H U d Q
def metNames : List Str := ["join"]
theorem met_ok (m : Str) (hm : metNames.contains m = true) : ∃ id, Slot "str" m id ∧ typeOf (.builtin id) = pure (.type "method_descriptor") ∧ MtR X id (rMet X.K m) := by
  have h3 : m = "join" := by
    simp only [metNames, List.contains_cons, List.contains_nil, Bool.or_false, beq_iff_eq] at hm
    exact hm
  subst h3
  refine ⟨"str.join", PySem.F.slot_str_join, PySem.F.type_str_join, fun pins s σ H x xs v us Q I rx rv h => mt_join pins s σ H x xs v us Q I rx rv ?_⟩
  obtain ⟨U, z, ds, d, rfl, os, e, q⟩ := h
  simp only [metD, if_true] at e
  split at e
  · obtain ⟨ys, e1, e⟩ := bind_some e
    split at e
    · rename_i hz
      cases e
      obtain ⟨v0, rfl, o1⟩ := os.one
      obtain ⟨a, ws, rfl, g1, r⟩ := o1.lst_inv
      have := strs_rep e1 r
      subst this
      exact ⟨z, a, ys, rfl, rfl, .inl (SqL.of g1), hz, q _ (.str _)⟩
    · cases e
  · cases e
theorem st_met (T : Fits X C B k) (S : SoO X C F B) (o : Expr) (m : Str) (es : List Expr) (ap p : Pos) (hline : (ap.endLine == p.line) = true) : PE X (.Call (.Attribute o m ap) es [] p) (tO X.K (callM C F B o m es)) := by
  have no : (∀ ρ r, callM C F B o m es ρ = some r → False) → PE X (.Call (.Attribute o m ap) es [] p) (tO X.K (callM C F B o m es)) := fun h => .no fun σ H Q z => by
    obtain ⟨P, Z, ρ, r, x, e, q⟩ := z
    exact h ρ r e
  rcases all_star es with hs | ⟨e', h1, h2⟩
  · by_cases hc : (notCall o && decide (es.length < 10)) = true
    · have hc' := hc
      simp only [Bool.and_eq_true, decide_eq_true_eq] at hc
      by_cases hm : mutNames.contains m = true
      · obtain ⟨id, m1, m2, m3⟩ := mut_ok (X := X) m hm
        refine (pe_met PySem.F.plainAttrs_list m1 m2 m3 (S.o o) (pa_vals S es) vals_nil hc.1 hs hc.2 hline).imp fun σ H Q h => ?_
        obtain ⟨P, Z, ρ, r, x, e, q⟩ := h
        unfold callM at e
        rw [if_pos hc'] at e
        obtain ⟨r1, e1, e⟩ := bind_some e
        rw [if_pos hm] at e
        split at e
        · rename_i i hi
          split at e
          · rename_i ds0 hd
            obtain ⟨r2, e2, e⟩ := bind_some e
            split at e
            · rename_i d hd2
              obtain ⟨z, e3, e⟩ := bind_some e
              cases e
              refine ⟨P, Z, ρ, r1, x, e1, fun v H1 ov sh => ?_⟩
              unfold OV at ov
              rw [hi] at ov
              obtain ⟨s1, hv, _⟩ := ov
              obtain ⟨p1, g1, c1, _⟩ := s1.ow i _ hd
              rw [hv] at g1
              cases g1
              have ty : tyV X.K "list" (.ref p1) H1 := by
                cases c1 with
                | lst h _ => exact .inl ⟨rfl, _, SqL.of h⟩
              refine ⟨ty, P, Z, r1.2.2, r2, s1, e2, fun vs H2 s2 rs sh2 => ?_⟩
              obtain ⟨p2, g2, c2, _⟩ := s2.ow i _ hd2
              rw [hv] at g2
              cases g2
              cases d with
              | list ds =>
                refine ⟨_, p1, ds, _, z.1, z.2, rfl, c2, rs, e3, fun w o' rw' hc2 => ?_⟩
                have up : UU r2.2 σ Z p1 := .inr ⟨i, _, hd2, hv⟩
                have s3 := s2.mut hd2 hv (hc2 c2 pre_upd up)
                refine q w _ ⟨s3, ?_⟩ ((sh.trans sh2).trans ⟨by simp, fun j e hj => ?_⟩)
                · exact (rw'.pre (pre_upd.mono fun a e => by subst e; exact up)).mono fun a u => (uu_set hd2 a).mp u
                · rcases set_get hj with ⟨rfl, _⟩ | ⟨_, h⟩
                  · exact ⟨_, hd2⟩
                  · exact ⟨_, h⟩
              | _ => simp [mutD] at e3
            · cases e
          · cases e
        · cases e
      · by_cases hg : m = "get"
        · subst hg
          cases es with
          | nil =>
            refine no fun ρ r e => ?_
            unfold callM at e
            rw [if_pos hc'] at e
            obtain ⟨r1, e1, e⟩ := bind_some e
            rw [if_neg hm, if_pos rfl] at e
            obtain ⟨d0, _, e⟩ := bind_some e
            obtain ⟨_, e⟩ := ite_some e
            obtain ⟨r2, e2, e⟩ := bind_some e
            obtain ⟨d, _, e⟩ := bind_some e
            obtain ⟨z, e3, e⟩ := bind_some e
            have h0 : r2.1 = [] := by
              cases e2
              rfl
            rw [h0] at e3
            cases d <;> simp [dgetM] at e3
          | cons e1' es =>
            refine (pe_getX (get_ok (by have := T.u64; omega)) (S.o o) (pa_vals S (e1' :: es)) hc.1 hs hc.2 hline).imp fun σ H Q h => ?_
            obtain ⟨P, Z, ρ, r, x, e, q⟩ := h
            unfold callM at e
            rw [if_pos hc'] at e
            obtain ⟨r1, e1, e⟩ := bind_some e
            rw [if_neg hm, if_pos rfl] at e
            obtain ⟨d0, e2, e⟩ := bind_some e
            obtain ⟨hd0, e⟩ := ite_some e
            obtain ⟨r2, e3, e⟩ := bind_some e
            obtain ⟨d, e4, e⟩ := bind_some e
            obtain ⟨z, e5, e⟩ := bind_some e
            cases e
            refine ⟨P, Z, ρ, r1, x, e1, fun v H1 v1 sh => ?_⟩
            obtain ⟨s1, o1⟩ := v1.stt
            refine ⟨isDic_of (o1.opd s1 e2) hd0, _, Z, _, r2, s1.push, e3, fun vs H2 s2 rs sh2 => ?_⟩
            have o2 := (o1.later s2 sh2).opd s2 e4
            exact ⟨_, d, r2.1, z, o2, rs, e5, fun w rw' => q w H2 ⟨s2.pop, rw'⟩ (sh.trans sh2)⟩
        by_cases hm2 : metNames.contains m = true
        · obtain ⟨id, m1, m2, m3⟩ := met_ok (X := X) m hm2
          refine (pe_met PySem.F.plainAttrs_str m1 m2 m3 (S.o o) (pa_opns S es) opns_nil hc.1 hs hc.2 hline).imp fun σ H Q h => ?_
          obtain ⟨P, Z, ρ, r, x, e, q⟩ := h
          unfold callM at e
          rw [if_pos hc'] at e
          obtain ⟨r1, e1, e⟩ := bind_some e
          rw [if_neg hm, if_neg hg] at e
          split at e
          · rename_i d hi
            obtain ⟨r2, e2, e⟩ := bind_some e
            obtain ⟨ds, e3, e⟩ := bind_some e
            obtain ⟨z, e4, e⟩ := bind_some e
            cases e
            refine ⟨P, Z, ρ, r1, x, e1, fun v H1 ov sh => ?_⟩
            obtain ⟨s1, o1⟩ := ov.stt
            rw [hi] at o1
            have o1 : Rep X.K H1 (UU r1.2.2 σ Z) v d := o1
            cases d with
            | str z0 =>
              obtain rfl := o1.str_inv
              exact ⟨rfl, P, Z, r1.2.2, r2, s1, e2, fun vs H2 s2 os sh2 => ⟨_, z0, ds, z, rfl, os.opd s2 e3, e4, newV_res s2 fun w H3 vl => q w H3 vl (sh.trans sh2)⟩⟩
            | _ => simp [metD] at e4
          · cases e
        · refine no fun ρ r e => ?_
          unfold callM at e
          rw [if_pos hc'] at e
          obtain ⟨r1, e1, e⟩ := bind_some e
          rw [if_neg hm, if_neg hg] at e
          split at e
          · obtain ⟨r2, e2, e⟩ := bind_some e
            obtain ⟨ds, e3, e⟩ := bind_some e
            obtain ⟨z, e4, e⟩ := bind_some e
            have hj : ¬ m = "join" := fun z => hm2 (by subst z; decide +kernel)
            unfold metD at e4
            split at e4
            · rw [if_neg hj] at e4
              cases e4
            · cases e4
          · cases e
    · refine no fun ρ r e => ?_
      unfold callM at e
      rw [if_neg hc] at e
      cases e
  · refine no fun ρ r e => ?_
    unfold callM at e
    obtain ⟨_, e⟩ := ite_some e
    obtain ⟨r1, e1, e⟩ := bind_some e
    split at e
    · split at e
      · split at e
        · obtain ⟨r2, e2, e⟩ := bind_some e
          have := valEs_star e2 e' h1
          rw [h2] at this
          cases this
        · cases e
      · cases e
    · split at e
      · obtain ⟨d0, _, e⟩ := bind_some e
        obtain ⟨_, e⟩ := ite_some e
        obtain ⟨r2, e2, e⟩ := bind_some e
        have := valEs_star e2 e' h1
        rw [h2] at this
        cases this
      · split at e
        · obtain ⟨r2, e2, e⟩ := bind_some e
          have := opnEs_star e2 e' h1
          rw [h2] at this
          cases this
        · cases e
end
end Pf


namespace Pf
open PySem PySem.Spec L2

/-! ## calls of the text's own defs: the plain part -/
theorem Cont.offs {K : PySem.W.Frag} {H : Hp} {U : Addr → Prop} {p : Addr} {d : PyData} (c : Cont K H U p d) : Cont K H (fun b => U b ∨ H b = none) p d := by
  cases c with
  | lst h r => exact .lst h r.offs
  | dK l h r => exact .dK l h r.offs
  | dT l h r => exact .dT l h r.offs
theorem arr_get {α : Type} {us ws ds : List α} : ∀ {src : List Src} {full : List α}, arr us ws ds src = some full → full.length = src.length ∧ ∀ (i : Nat) (s : Src), src[i]? = some s → ∃ x, full[i]? = some x ∧ pickS us ws ds s = some x
  | [], full, h => by
    simp only [arr] at h
    cases h
    exact ⟨rfl, fun i s e => by simp at e⟩
  | s :: src, full, h => by
    simp only [arr] at h
    obtain ⟨x, h1, h⟩ := Option.bind_eq_some_iff.mp h
    obtain ⟨xs, h2, h⟩ := Option.bind_eq_some_iff.mp h
    cases h
    obtain ⟨l, g⟩ := arr_get h2
    refine ⟨by simp [l], fun i s' e => ?_⟩
    cases i with
    | zero =>
      simp at e
      subst e
      exact ⟨x, rfl, h1⟩
    | succ i => exact g i s' (by simpa using e)
theorem pickS_len {α β : Type} {us ws ds : List α} {us' ws' ds' : List β} (l1 : us.length = us'.length) (l2 : ws.length = ws'.length) (l3 : ds.length = ds'.length) {s : Src} {x : α} (h : pickS us ws ds s = some x) : ∃ y, pickS us' ws' ds' s = some y := by
  have go : ∀ {as : List α} {bs : List β} {i : Nat}, as.length = bs.length → as[i]? = some x → ∃ y, bs[i]? = some y := fun {as bs i} l e => by
    have := (List.getElem?_eq_some_iff.mp e).1
    exact ⟨bs[i]'(by omega), List.getElem?_eq_getElem (by omega)⟩
  cases s with
  | pos i => exact go l1 h
  | kw i => exact go l2 h
  | dfl i => exact go l3 h
theorem arr_len {α β : Type} {us ws ds : List α} {us' ws' ds' : List β} (l1 : us.length = us'.length) (l2 : ws.length = ws'.length) (l3 : ds.length = ds'.length) : ∀ {src : List Src} {full : List α}, arr us ws ds src = some full → ∃ full', arr us' ws' ds' src = some full'
  | [], _, _ => ⟨[], rfl⟩
  | s :: src, full, h => by
    simp only [arr] at h
    obtain ⟨x, h1, h⟩ := Option.bind_eq_some_iff.mp h
    obtain ⟨xs, h2, h⟩ := Option.bind_eq_some_iff.mp h
    obtain ⟨y, g1⟩ := pickS_len l1 l2 l3 h1
    obtain ⟨ys, g2⟩ := arr_len l1 l2 l3 h2
    exact ⟨y :: ys, by simp [arr, g1, g2]⟩
theorem posFirst_get : ∀ {src : List Src} {n j i : Nat} {s : Src}, posFirst n j src = true → src[i]? = some s → j + i < n → s = .pos (j + i)
  | [], _, _, i, _, _, e, _ => by simp at e
  | s0 :: r, n, j, i, s, h, e, l => by
    have hr : posFirst n (j + 1) r = true ∧ (j < n → s0 = .pos j) := by
      cases s0 with
      | pos a =>
        simp only [posFirst, Bool.and_eq_true, decide_eq_true_eq] at h
        exact ⟨h.2, fun _ => by rw [h.1.1]⟩
      | kw a =>
        simp only [posFirst, Bool.and_eq_true, decide_eq_true_eq] at h
        exact ⟨h.2, fun z => by omega⟩
      | dfl a =>
        simp only [posFirst, Bool.and_eq_true, decide_eq_true_eq] at h
        exact ⟨h.2, fun z => by omega⟩
    cases i with
    | zero =>
      simp at e
      subst e
      exact hr.2 (by omega)
    | succ i =>
      have := posFirst_get (i := i) hr.1 (by simpa using e) (by omega)
      rw [this]
      congr 1
      omega
theorem rdOs_get {ρ : En} : ∀ {os : List Opn} {ds : List PyData}, rdOs ρ os = some ds → ds.length = os.length ∧ ∀ (i : Nat) (o : Opn), os[i]? = some o → ∃ d, ds[i]? = some d ∧ rdO ρ o = some d
  | [], ds, h => by
    simp only [rdOs] at h
    cases h
    exact ⟨rfl, fun i s e => by simp at e⟩
  | o :: os, ds, h => by
    simp only [rdOs] at h
    obtain ⟨x, h1, h⟩ := Option.bind_eq_some_iff.mp h
    obtain ⟨xs, h2, h⟩ := Option.bind_eq_some_iff.mp h
    cases h
    obtain ⟨l, g⟩ := rdOs_get h2
    refine ⟨by simp [l], fun i s' e => ?_⟩
    cases i with
    | zero =>
      simp at e
      subst e
      exact ⟨x, rfl, h1⟩
    | succ i => exact g i s' (by simpa using e)
theorem OAs.get {K : PySem.W.Frag} {H : Hp} {ρ : En} {σ : St} {Z : Addr → Prop} : ∀ {os : List Opn} {vs : List V}, OAs K H ρ σ Z os vs → vs.length = os.length ∧ ∀ (i : Nat) (o : Opn), os[i]? = some o → ∃ v, vs[i]? = some v ∧ OA K H ρ σ Z o v
  | _, _, .nil => ⟨rfl, fun i s e => by simp at e⟩
  | _, _, .cons h r => by
    obtain ⟨l, g⟩ := OAs.get r
    refine ⟨by simp [l], fun i s' e => ?_⟩
    cases i with
    | zero =>
      simp at e
      subst e
      exact ⟨_, rfl, h⟩
    | succ i => exact g i s' (by simpa using e)
theorem argEs_io {C : Ctx} {F : Fns} {B : Bk} : ∀ {io : List Bool} {es : List Expr} {ρ : En} {r : List Opn × En}, argEs C F B io es ρ = some r → r.1.length = es.length ∧ (∀ (i s : Nat), r.1[i]? = some (.slot s) → io[i]? = some true) ∧ ∀ i : Nat, i < es.length → io[i]? = some true → ∃ s, r.1[i]? = some (.slot s)
  | io, [], ρ, r, h => by
    have : r = ([], ρ) := by
      cases io with
      | nil => simp only [argEs] at h; cases h; rfl
      | cons b io => cases b <;> (simp only [argEs] at h; cases h; rfl)
    subst this
    exact ⟨rfl, fun i s e => by simp at e, fun i e => by simp at e⟩
  | [], e :: es, ρ, r, h => by simp [argEs] at h
  | true :: io, e :: es, ρ, r, h => by
    simp only [argEs] at h
    obtain ⟨_, h⟩ := ite_some' h
    obtain ⟨r1, h1, h⟩ := bind_some h
    split at h
    · obtain ⟨q, h2, h⟩ := bind_some h
      cases h
      obtain ⟨l, g1, g2⟩ := argEs_io h2
      refine ⟨by simp [l], fun i s e => ?_, fun i hi e => ?_⟩
      · cases i with
        | zero => rfl
        | succ i => exact g1 i s (by simpa using e)
      · cases i with
        | zero => exact ⟨_, rfl⟩
        | succ i => exact g2 i (by simpa using hi) (by simpa using e)
    · cases h
  | false :: io, e :: es, ρ, r, h => by
    simp only [argEs] at h
    obtain ⟨_, h⟩ := ite_some' h
    obtain ⟨r1, h1, h⟩ := bind_some h
    obtain ⟨q, h2, h⟩ := bind_some h
    cases h
    obtain ⟨l, g1, g2⟩ := argEs_io h2
    refine ⟨by simp [l], fun i s e => ?_, fun i hi e => ?_⟩
    · cases i with
      | zero => simp at e
      | succ i => exact g1 i s (by simpa using e)
    · cases i with
      | zero => simp at e
      | succ i => exact g2 i (by simpa using hi) (by simpa using e)
theorem argEs_star {C : Ctx} {F : Fns} {B : Bk} : ∀ {io : List Bool} {es : List Expr} {ρ : En} {r : List Opn × En}, argEs C F B io es ρ = some r → ∀ e ∈ es, star e = false
  | io, [], ρ, r, h => fun e he => by cases he
  | [], e :: es, ρ, r, h => by simp [argEs] at h
  | true :: io, e :: es, ρ, r, h => by
    simp only [argEs] at h
    obtain ⟨s1, h⟩ := ite_some' h
    obtain ⟨r1, h1, h⟩ := bind_some h
    split at h
    · obtain ⟨q, h2, h⟩ := bind_some h
      exact fun e' he => (List.mem_cons.mp he).elim (fun z => z ▸ s1) (argEs_star h2 e')
    · cases h
  | false :: io, e :: es, ρ, r, h => by
    simp only [argEs] at h
    obtain ⟨s1, h⟩ := ite_some' h
    obtain ⟨r1, h1, h⟩ := bind_some h
    obtain ⟨q, h2, h⟩ := bind_some h
    exact fun e' he => (List.mem_cons.mp he).elim (fun z => z ▸ s1) (argEs_star h2 e')
theorem slotsOf_mem : ∀ {os : List Opn} {s : Nat}, s ∈ slotsOf os ↔ ∃ i : Nat, os[i]? = some (.slot s)
  | [], s => by simp [slotsOf]
  | .slot t :: os, s => by
    simp only [slotsOf, List.mem_cons, slotsOf_mem (os := os)]
    constructor
    · rintro (rfl | ⟨i, h⟩)
      · exact ⟨0, rfl⟩
      · exact ⟨i + 1, by simpa using h⟩
    · rintro ⟨i, h⟩
      cases i with
      | zero => simp at h; exact .inl h.symm
      | succ i => exact .inr ⟨i, by simpa using h⟩
  | .val t :: os, s => by
    simp only [slotsOf, slotsOf_mem (os := os)]
    constructor
    · rintro ⟨i, h⟩
      exact ⟨i + 1, by simpa using h⟩
    · rintro ⟨i, h⟩
      cases i with
      | zero => simp at h
      | succ i => exact ⟨i, by simpa using h⟩
theorem nodup_inj : ∀ {os : List Opn}, nodupB (slotsOf os) = true → ∀ (i j s : Nat), os[i]? = some (.slot s) → os[j]? = some (.slot s) → i = j
  | [], _, i, j, s, h, _ => by simp at h
  | .slot t :: os, hn, i, j, s, h1, h2 => by
    simp only [slotsOf, nodupB, Bool.and_eq_true, Bool.not_eq_true', List.contains_eq_mem, decide_eq_false_iff_not] at hn
    cases i with
    | zero =>
      simp at h1
      subst h1
      cases j with
      | zero => rfl
      | succ j => exact (hn.1 (slotsOf_mem.mpr ⟨j, by simpa using h2⟩)).elim
    | succ i =>
      cases j with
      | zero =>
        simp at h2
        subst h2
        exact (hn.1 (slotsOf_mem.mpr ⟨i, by simpa using h1⟩)).elim
      | succ j => rw [nodup_inj hn.2 i j s (by simpa using h1) (by simpa using h2)]
  | .val t :: os, hn, i, j, s, h1, h2 => by
    simp only [slotsOf] at hn
    cases i with
    | zero => simp at h1
    | succ i =>
      cases j with
      | zero => simp at h2
      | succ j => rw [nodup_inj hn i j s (by simpa using h1) (by simpa using h2)]
/-! what the slots hold behind the call -/
theorem putBack_length : ∀ {os : List Opn} {ds : List PyData} {ρ : En}, (putBack ρ os ds).length = ρ.length
  | [], ds, ρ => by cases ds <;> rfl
  | o :: os, [], ρ => by cases o <;> rfl
  | .slot i :: os, d :: ds, ρ => by simp [putBack, putBack_length]
  | .val _ :: os, _ :: ds, ρ => by simp only [putBack]; exact putBack_length
theorem putBack_out : ∀ {os : List Opn} {ds : List PyData} {ρ : En} {s : Nat}, s ∉ slotsOf os → (putBack ρ os ds)[s]? = ρ[s]?
  | [], ds, ρ, s, h => by cases ds <;> rfl
  | o :: os, [], ρ, s, h => by cases o <;> rfl
  | .slot i :: os, d :: ds, ρ, s, h => by
    simp only [slotsOf, List.mem_cons, not_or] at h
    rw [show putBack ρ (.slot i :: os) (d :: ds) = putBack (ρ.set i (some (true, d))) os ds from rfl, putBack_out h.2, List.getElem?_set_ne (fun e => h.1 e.symm)]
  | .val _ :: os, _ :: ds, ρ, s, h => by
    simp only [slotsOf] at h
    exact putBack_out (os := os) (ds := ds) h
theorem putBack_in : ∀ {os : List Opn} {ds : List PyData} {ρ : En} {i s : Nat} {d : PyData}, nodupB (slotsOf os) = true → os[i]? = some (.slot s) → ds[i]? = some d → s < ρ.length → (putBack ρ os ds)[s]? = some (some (true, d))
  | [], ds, ρ, i, s, d, _, h, _, _ => by simp at h
  | o :: os, [], ρ, i, s, d, _, _, h, _ => by simp at h
  | .slot t :: os, d0 :: ds, ρ, i, s, d, hn, h1, h2, hs => by
    simp only [slotsOf, nodupB, Bool.and_eq_true, Bool.not_eq_true', List.contains_eq_mem, decide_eq_false_iff_not] at hn
    cases i with
    | zero =>
      simp at h1 h2
      subst h1
      subst h2
      rw [show putBack ρ (.slot t :: os) (d0 :: ds) = putBack (ρ.set t (some (true, d0))) os ds from rfl, putBack_out hn.1]
      exact List.getElem?_set_self hs
    | succ i => exact putBack_in (os := os) (ds := ds) (i := i) hn.2 (by simpa using h1) (by simpa using h2) (by simpa using hs)
  | .val _ :: os, d0 :: ds, ρ, i, s, d, hn, h1, h2, hs => by
    simp only [slotsOf] at hn
    cases i with
    | zero => simp at h1
    | succ i => exact putBack_in (os := os) (ds := ds) (i := i) hn (by simpa using h1) (by simpa using h2) hs

/-- how the callee's slots and the caller's hang together -/
structure Link (io : List Bool) (os : List Opn) (full : List PyData) (fv : List V) (ρ : En) (σ : St) : Prop where
  nd : nodupB (slotsOf os) = true
  to : ∀ (i : Nat) (d : PyData), io[i]? = some true → full[i]? = some d → ∃ s : Nat, os[i]? = some (.slot s) ∧ ρ[s]? = some (some (true, d))
  back : ∀ (i s : Nat), os[i]? = some (.slot s) → io[i]? = some true ∧ (∃ v, fv[i]? = some v ∧ σ[s]? = some (some v)) ∧ ∃ d, full[i]? = some d ∧ ρ[s]? = some (some (true, d))
theorem sv_get {vs : List V} {i : Nat} {v : V} : (sv vs)[i]? = some (some v) ↔ vs[i]? = some v := by
  unfold sv
  rw [List.getElem?_map]
  cases vs[i]? <;> simp
section
variable {K : PySem.W.Frag} {P : List Bs} {Z W : Addr → Prop} {io : List Bool} {os : List Opn} {full full' : List PyData} {fv : List V} {ρ : En} {σ : St} {H H' : Hp}
theorem Link.own (L : Link io os full fv ρ σ) {a : Addr} (h : OwnA (ag io full) (sv fv) a) : ∃ (i s : Nat) (d : PyData), os[i]? = some (.slot s) ∧ io[i]? = some true ∧ fv[i]? = some (V.ref a) ∧ full[i]? = some d ∧ ρ[s]? = some (some (true, d)) ∧ σ[s]? = some (some (V.ref a)) := by
  obtain ⟨i, d, h1, h2⟩ := h
  obtain ⟨h1, h3⟩ := ag_get.mp h1
  have h2 := sv_get.mp h2
  obtain ⟨s, g1, g2⟩ := L.to i d h1 h3
  obtain ⟨_, ⟨v, g3, g4⟩, _⟩ := L.back i s g1
  rw [h2] at g3
  cases g3
  exact ⟨i, s, d, g1, h1, h2, h3, g2, g4⟩
theorem Link.ownA (L : Link io os full fv ρ σ) {a : Addr} (h : OwnA (ag io full) (sv fv) a) : OwnA ρ σ a := by
  obtain ⟨i, s, d, _, _, _, _, h1, h2⟩ := L.own h
  exact ⟨s, d, h1, h2⟩
/-- the callee's set -/
def Zc (io : List Bool) (full : List PyData) (fv : List V) (ρ : En) (σ : St) (Z : Addr → Prop) (a : Addr) : Prop := UU ρ σ Z a ∧ ¬ OwnA (ag io full) (sv fv) a
theorem Link.sub (L : Link io os full fv ρ σ) {a : Addr} (h : UU (ag io full) (sv fv) (Zc io full fv ρ σ Z) a) : UU ρ σ Z a := by
  rcases h with h | h
  · exact h.1
  · exact .inr (L.ownA h)
theorem UU.there (x : Stt K P Z ρ σ H) {a : Addr} (h : UU ρ σ Z a) : H a ≠ none := (h.hard x).1
theorem Link.start (L : Link io os full fv ρ σ) (x : Stt K P Z ρ σ H) (l1 : full.length = io.length) (l2 : fv.length = full.length)
    (hv : ∀ (i : Nat) (d : PyData), io[i]? = some false → full[i]? = some d → ∃ v, fv[i]? = some v ∧ Rep K H (UU ρ σ Z) v d) : Stt K [] (Zc io full fv ρ σ Z) (ag io full) (sv fv) H where
  len := by rw [ag_length l1]; simp [l1, l2]
  sh := fun i d h => by
    obtain ⟨h1, h2⟩ := ag_get.mp h
    obtain ⟨v, g1, g2⟩ := hv i d h1 h2
    exact ⟨v, sv_get.mpr g1, g2.mono fun a u => L.sub u⟩
  ow := fun i d h => by
    obtain ⟨h1, h2⟩ := ag_get.mp h
    obtain ⟨s, g1, g2⟩ := L.to i d h1 h2
    obtain ⟨_, ⟨v, g3, g4⟩, _⟩ := L.back i s g1
    obtain ⟨p, g5, c, _⟩ := x.ow s d g2
    rw [g4] at g5
    cases g5
    exact ⟨p, sv_get.mpr g3, c.mono fun a u => L.sub u, fun z => z.2 ⟨i, d, h, sv_get.mpr g3⟩, fun b hb => by cases hb⟩
  dis := fun i j d e p h1 h2 h3 h4 => by
    obtain ⟨h1, a1⟩ := ag_get.mp h1
    obtain ⟨h2, a2⟩ := ag_get.mp h2
    have h3 := sv_get.mp h3
    have h4 := sv_get.mp h4
    obtain ⟨s, b1, b2⟩ := L.to i d h1 a1
    obtain ⟨t, c1, c2⟩ := L.to j e h2 a2
    obtain ⟨_, ⟨v, b3, b4⟩, _⟩ := L.back i s b1
    obtain ⟨_, ⟨w, c3, c4⟩, _⟩ := L.back j t c1
    rw [h3] at b3
    cases b3
    rw [h4] at c3
    cases c3
    have := x.dis s t d e p b2 c2 b4 c4
    subst this
    exact nodup_inj L.nd i j s b1 c1
  zd := fun a z => z.1.hard x
  pre := fun b hb => by cases hb
theorem Link.put (L : Link io os full fv ρ σ) (l : full'.length = full.length) {s : Nat} {b : Bool} {d : PyData} (h : (putBack ρ os full')[s]? = some (some (b, d))) :
    (ρ[s]? = some (some (b, d)) ∧ s ∉ slotsOf os) ∨ (b = true ∧ ∃ i : Nat, os[i]? = some (.slot s) ∧ io[i]? = some true ∧ full'[i]? = some d) := by
  by_cases hs : s ∈ slotsOf os
  · obtain ⟨i, hi⟩ := slotsOf_mem.mp hs
    obtain ⟨h1, _, d0, h2, h3⟩ := L.back i s hi
    have hl : i < full'.length := by rw [l]; exact (List.getElem?_eq_some_iff.mp h2).1
    have := putBack_in L.nd hi (List.getElem?_eq_getElem hl) (List.getElem?_eq_some_iff.mp h3).1
    rw [this] at h
    cases h
    exact .inr ⟨rfl, i, hi, h1, List.getElem?_eq_getElem hl⟩
  · rw [putBack_out hs] at h
    exact .inl ⟨h, hs⟩
theorem Link.shr (L : Link io os full fv ρ σ) (l : full'.length = full.length) : Shr ρ (putBack ρ os full') := ⟨putBack_length, fun s d h => by
  rcases L.put l h with ⟨h, _⟩ | ⟨_, i, h1, _⟩
  · exact ⟨d, h⟩
  · obtain ⟨_, _, d0, _, h3⟩ := L.back i s h1
    exact ⟨d0, h3⟩⟩
theorem Link.shr' (L : Link io os full fv ρ σ) (l : full'.length = full.length) {a : Addr} (h : OwnA ρ σ a) : OwnA (putBack ρ os full') σ a := by
  obtain ⟨s, d, h1, h2⟩ := h
  by_cases hs : s ∈ slotsOf os
  · obtain ⟨i, hi⟩ := slotsOf_mem.mp hs
    obtain ⟨_, _, d0, h3, h4⟩ := L.back i s hi
    have hl : i < full'.length := by rw [l]; exact (List.getElem?_eq_some_iff.mp h3).1
    exact ⟨s, _, putBack_in L.nd hi (List.getElem?_eq_getElem hl) (List.getElem?_eq_some_iff.mp h4).1, h2⟩
  · exact ⟨s, d, by rw [putBack_out hs]; exact h1, h2⟩
theorem ag_own (l : full'.length = full.length) {a : Addr} (h : OwnA (ag io full) (sv fv) a) : OwnA (ag io full') (sv fv) a := by
  obtain ⟨i, d, h1, h2⟩ := h
  obtain ⟨h1, h3⟩ := ag_get.mp h1
  have hl : i < full'.length := by rw [l]; exact (List.getElem?_eq_some_iff.mp h3).1
  exact ⟨i, _, ag_get.mpr ⟨h1, List.getElem?_eq_getElem hl⟩, h2⟩
/-- behind the call -/
theorem Link.back_stt (L : Link io os full fv ρ σ) (x : Stt K P Z ρ σ H) (l : full'.length = full.length) (y : Stt K [⟨H, OwnA (ag io full) (sv fv)⟩] W (ag io full') (sv fv) H') (hw : ∀ a, Zc io full fv ρ σ Z a → W a) :
    Stt K P (fun a => Z a ∨ (W a ∧ H a = none)) (putBack ρ os full') σ H' ∧ (∀ a, UU (putBack ρ os full') σ (fun a => Z a ∨ (W a ∧ H a = none)) a → UU (ag io full') (sv fv) W a) := by
  obtain ⟨y1, y2, y3⟩ := y.pre _ List.mem_cons_self
  have sh := L.shr l
  have sub : ∀ a, UU (putBack ρ os full') σ (fun a => Z a ∨ (W a ∧ H a = none)) a → UU ρ σ Z a ∨ H a = none := fun a u => by
    rcases u with (u | u) | u
    · exact .inl (.inl u)
    · exact .inr u.2
    · exact .inl (UU.shr sh (Z := Z) (.inr u))
  have old : ∀ a, UU ρ σ Z a → UU (ag io full') (sv fv) W a := fun a u => by
    by_cases h : OwnA (ag io full) (sv fv) a
    · exact .inr (ag_own l h)
    · exact .inl (hw a ⟨u, h⟩)
  have sub2 : ∀ a, UU (putBack ρ os full') σ (fun a => Z a ∨ (W a ∧ H a = none)) a → UU (ag io full') (sv fv) W a := fun a u => by
    rcases u with (u | u) | u
    · exact old a (.inl u)
    · exact .inl u.1
    · exact old a (UU.shr sh (Z := Z) (.inr u))
  have pre' : Pre (fun a => UU ρ σ Z a ∨ H a = none) H H' := y1.mono fun a u => .inl (.inr (L.ownA u))
  have nn : ∀ a, H a ≠ none → H' a ≠ none := fun a h => by
    by_cases z : OwnA (ag io full) (sv fv) a
    · exact y2 a z
    · cases e : H a with
      | none => exact (h e).elim
      | some o =>
        obtain ⟨u, e', _⟩ := y1 a o e z
        rw [e']; intro q; cases q
  refine ⟨⟨by rw [putBack_length]; exact x.len, fun s d h => ?_, fun s d h => ?_, fun i j d e p h1 h2 h3 h4 => ?_, fun a z => ?_, fun b hb => ⟨fun a o e n => ?_, fun a z => nn a ((x.pre b hb).2.1 a z), fun a o z e => ?_⟩⟩, sub2⟩
  · rcases L.put l h with ⟨h, _⟩ | ⟨h, _⟩
    · obtain ⟨v, h1, r⟩ := x.sh s d h
      exact ⟨v, h1, (r.offs.pre pre').mono sub⟩
    · cases h
  · rcases L.put l h with ⟨h, hs⟩ | ⟨_, i, h1, h2, h3⟩
    · obtain ⟨p, g1, c, nz, bb⟩ := x.ow s d h
      have no : ¬ OwnA (ag io full) (sv fv) p := fun u => by
        obtain ⟨i, t, d', a1, _, _, _, a2, a3⟩ := L.own u
        have := x.dis s t d d' p h a2 g1 a3
        subst this
        exact hs (slotsOf_mem.mpr ⟨i, a1⟩)
      have zp : Zc io full fv ρ σ Z p := ⟨.inr ⟨s, d, h, g1⟩, no⟩
      refine ⟨p, g1, (c.offs.pre pre' fun o e => y3 p o (hw p zp) e).mono sub, fun z => ?_, bb⟩
      rcases z with z | z
      · exact nz z
      · exact c.there z.2
    · obtain ⟨_, ⟨v, a1, a2⟩, d0, a3, a4⟩ := L.back i s h1
      obtain ⟨p, b1, c, nz, _⟩ := y.ow i d (ag_get.mpr ⟨h2, h3⟩)
      have b1 := sv_get.mp b1
      rw [a1] at b1
      cases b1
      obtain ⟨p', g1, _, nz', bb⟩ := x.ow s d0 a4
      rw [a2] at g1
      cases g1
      exact ⟨p, a2, c.mono sub2, fun z => z.elim nz' fun z => nz z.1, bb⟩
  · obtain ⟨d', h1⟩ := sh.2 i d h1
    obtain ⟨e', h2⟩ := sh.2 j e h2
    exact x.dis i j d' e' p h1 h2 h3 h4
  · rcases z with z | z
    · refine y.zd a (hw a ⟨.inl z, fun u => ?_⟩)
      obtain ⟨i, t, d', a1, _, _, _, a2, a3⟩ := L.own u
      obtain ⟨p', g1, _, nz', _⟩ := x.ow t d' a2
      rw [a3] at g1
      cases g1
      exact nz' z
    · exact y.zd a z.1
  · obtain ⟨u, e1, l1⟩ := (x.pre b hb).1 a o e n
    have no : ¬ OwnA (ag io full) (sv fv) a := fun u => by
      obtain ⟨i, t, d', a1, _, _, _, a2, a3⟩ := L.own u
      obtain ⟨p, g1, _, _, bb⟩ := x.ow t d' a2
      rw [a3] at g1
      cases g1
      rcases bb b hb with z | z
      · exact n z
      · rw [e] at z; cases z
    obtain ⟨u2, e2, l2⟩ := y1 a u e1 no
    exact ⟨u2, e2, l1.trans l2⟩
  · rcases z with z | ⟨z, z2⟩
    · have e1 := (x.pre b hb).2.2 a o z e
      have no : ¬ OwnA (ag io full) (sv fv) a := fun u => by
        obtain ⟨i, t, d', a1, _, _, _, a2, a3⟩ := L.own u
        obtain ⟨p, g1, _, nz, _⟩ := x.ow t d' a2
        rw [a3] at g1
        cases g1
        exact nz z
      exact y3 a o (hw a ⟨.inl z, no⟩) e1
    · by_cases hb2 : b.io a
      · exact ((x.pre b hb).2.1 a hb2 z2).elim
      · obtain ⟨u, e1, _⟩ := (x.pre b hb).1 a o e hb2
        rw [z2] at e1; cases e1
theorem Stt.zext {Z' : Addr → Prop} (x : Stt K P Z ρ σ H) (h : ∀ a, Z' a ↔ Z a) : Stt K P Z' ρ σ H := x.zmono fun a z => (h a).mp z
theorem Link.back_val (L : Link io os full fv ρ σ) (x : Stt K P Z ρ σ H) (l : full'.length = full.length) {b : Bool} {v : V} {r : PyData} (y : Val K [⟨H, OwnA (ag io full) (sv fv)⟩] (Zc io full fv ρ σ Z) (ag io full') (sv fv) b v r H') :
    Val K P Z (putBack ρ os full') σ b v r H' := by
  cases b with
  | false =>
    obtain ⟨s, q⟩ := L.back_stt x l y.1 fun a z => z
    have : ∀ a, Z a → (Z a ∨ (Zc io full fv ρ σ Z a ∧ H a = none)) := fun a z => .inl z
    exact ⟨s.zmono this, y.2.mono fun a u => q a (UU.zm this u)⟩
  | true =>
    obtain ⟨p, rfl, nz, s0, c, hb⟩ := y
    have hp : H p = none := hb _ List.mem_cons_self
    obtain ⟨s, q⟩ := L.back_stt x l s0 fun a z => .inl z
    have sub : ∀ a, ZP Z p a → (Z a ∨ (ZP (Zc io full fv ρ σ Z) p a ∧ H a = none)) := fun a z => by
      rcases z with z | rfl
      · exact .inl z
      · exact .inr ⟨.inr rfl, hp⟩
    obtain ⟨f1, f2, f3⟩ := x.fresh hp
    refine ⟨p, rfl, f2, s.zmono sub, c.mono fun a u => ?_, f1⟩
    rcases u with u | u
    · rcases q a (UU.zm (fun a z => sub a (.inl z)) u) with w | w
      · rcases w with w | w
        · exact .inl (.inl w)
        · exact .inr w
      · exact .inl (.inr w)
    · exact .inr u
end
end Pf


namespace Pf
open PySem PySem.Spec L2 PyProof.Rows

/-! ## zip, enumerate of lists, tuples, texts -/
section
variable {prog : Program} {w : World} {A : Around} {E : Value → Shared → Prop} {s : Shared} {z zi zo i1 i2 : Addr} {fp1 fp2 : List Addr} {n1 n2 i : Nat} {P1 P2 : Nat → Value → Prop} {St1 St2 : Nat → Heap → Prop} {T : Addr} {f : Bool} {oT : Obj}
/-- the tuple that was given out before is still there -/
theorem zip_item_held {Q : Value → Shared → Prop} (S : ZipSep2 z zi zo i1 i2 fp1 fp2) (D1 : Draws prog w A i1 fp1 n1 P1 St1) (D2 : Draws prog w A i2 fp2 n2 P2 St2)
    (hz : IsZipHeld s.heap z zi zo T f) (hT : s.heap.get? T = some oT) (hI : IsTupOf2 s.heap zi (.ref i1) (.ref i2)) (st1 : St1 i s.heap) (st2 : St2 i s.heap) (hlt1 : i < n1) (hlt2 : i < n2)
    (hQ : ∀ x1 x2 h' tk, P1 i x1 → P2 i x2 → IsZipHeld h' z zi zo T true → St1 (i + 1) h' → St2 (i + 1) h' → IsTupOf2 h' s.heap.objs.size x1 x2 → h'.objs.size = s.heap.objs.size + 1 →
      (∀ c o, c ≠ z → c ≠ i1 → c ≠ i2 → s.heap.get? c = some o → h'.get? c = some o) → Q (.ref s.heap.objs.size) { s with heap := h', toks := tk }) :
    wpAny (model prog w) A (Builtin.«zip.__next__» ⟨[.ref z], []⟩) (fun fin s' => ∃ v, fin = .done (.ret v) ∧ Q v s') E s := by
  obtain ⟨hp, g, d, tk0, os⟩ := s
  show wpAny _ _ (field (.ref z) 2 >>= _) _ _ _
  refine wpAny_bind (wpAny_field hz rfl (x := .bool false) rfl ?_)
  show wpAny _ _ (field (.ref z) 3 >>= _) _ _ _
  refine wpAny_bind (wpAny_field hz rfl (x := .ref zi) rfl ?_)
  refine wpAny_bind (wpAny_seqItems hI rfl ?_)
  show wpAny _ _ (Builtin.SmallTypes.ownedTupleIsFree (.ref z) >>= _) _ _ _
  refine wpAny_bind (wpAny_tupleHeld_zip hz hT fun g0 hz0 hs0 => ?_)
  replace hz0 : IsZipHeld g0 z zi zo T true := hz0
  replace hs0 : Heap.SameBut z hp g0 := hs0
  simp only [Bool.false_eq_true, if_false]
  refine wpAny_bind ?_
  rw [← Array.forIn_toList]
  simp only [List.forIn_cons, List.forIn_nil]
  refine wpAny_bind (wpAny_bind (wpAny_holding ?_))
  show wpAny _ _ (Builtin.SmallTypes.nextOf (.ref i1) >>= _) _ _ ⟨g0, g, d, tk0, os⟩
  refine wpAny_bind (D1.item i _ _ _ hlt1 (D1.over st1 hs0 S.zf1) fun x1 p1 tk1 hx1 sn1 hp1 => wpAny_pure ?_)
  replace hp1 : Heap.SameBut i1 g0 p1 := hp1
  refine wpAny_pure ?_
  refine wpAny_bind (wpAny_bind (wpAny_holding ?_))
  show wpAny _ _ (Builtin.SmallTypes.nextOf (.ref i2) >>= _) _ _ ⟨p1, g, d, tk1, os⟩
  refine wpAny_bind (D2.item i _ _ _ hlt2 (D2.over (D2.over st2 hs0 S.zf2) hp1 S.sep1_2) fun x2 p2 tk2 hx2 sn2 hp2 => wpAny_pure ?_)
  replace hp2 : Heap.SameBut i2 p1 p2 := hp2
  refine wpAny_pure (wpAny_pure ?_)
  show wpAny _ _ (newTuple [x1, x2] >>= _) _ _ ⟨p2, g, d, tk2, os⟩
  refine wpAny_bind (wpAny_newTuple ?_)
  have hsz : p2.objs.size = hp.objs.size := by rw [hp2.1, hp1.1, hs0.1]
  have hz2 : IsZipHeld p2 z zi zo T true := hp2.extBut _ _ S.zi2 (hp1.extBut _ _ S.zi1 hz0)
  have hk : ∀ c o, c ≠ z → c ≠ i1 → c ≠ i2 → hp.get? c = some o → p2.get? c = some o := fun c o c1 c2 c3 e => hp2.extBut _ _ c3 (hp1.extBut _ _ c2 (hs0.extBut _ _ c1 e))
  have hj1 : St1 (i + 1) p2 := D1.over sn1 hp2 S.sep2_1
  refine wpAny_pure ⟨_, rfl, ?_⟩
  show Q (.ref p2.objs.size) ⟨p2.push { cls := .type "tuple", data := .seq #[x1, x2] }, g, d, tk2, os⟩
  have hpu : IsTupOf2 (p2.push { cls := .type "tuple", data := .seq #[x1, x2] }) p2.objs.size x1 x2 := Heap.get?_push_size _ rfl
  have hz4 : (p2.push { cls := .type "tuple", data := .seq #[x1, x2] }).objs.size = p2.objs.size + 1 := Heap.size_push ..
  rw [hsz] at hpu hz4 ⊢
  exact hQ x1 x2 _ tk2 hx1 hx2 (Heap.get?_push_of_some _ hz2) (D1.frame _ _ _ hj1 fun b _ o e => Heap.get?_push_of_some _ e) (D2.frame _ _ _ sn2 fun b _ o e => Heap.get?_push_of_some _ e) hpu hz4 fun c o c1 c2 c3 e => Heap.get?_push_of_some _ (hk c o c1 c2 c3 e)
theorem zip_end_held {Q : Fin → Shared → Prop} (S : ZipSep2 z zi zo i1 i2 fp1 fp2) (D1 : Draws prog w A i1 fp1 n1 P1 St1) (D2 : Draws prog w A i2 fp2 n2 P2 St2)
    (hz : IsZipHeld s.heap z zi zo T f) (hT : s.heap.get? T = some oT) (hI : IsTupOf2 s.heap zi (.ref i1) (.ref i2)) (st1 : St1 i s.heap) (st2 : St2 i s.heap) (hle1 : i ≤ n1) (hle2 : i ≤ n2) (hend : i = n1 ∨ i = n2)
    (hE : ∀ h' tk e, (∀ c o, c ≠ z → c ≠ i1 → c ≠ i2 → s.heap.get? c = some o → h'.get? c = some o) → (∃ o, h'.get? e = some o ∧ o.cls = .type "StopIteration") → E (.ref e) { s with heap := h', toks := tk }) :
    wpAny (model prog w) A (Builtin.«zip.__next__» ⟨[.ref z], []⟩) Q E s := by
  obtain ⟨hp, g, d, tk0, os⟩ := s
  show wpAny _ _ (field (.ref z) 2 >>= _) _ _ _
  refine wpAny_bind (wpAny_field hz rfl (x := .bool false) rfl ?_)
  show wpAny _ _ (field (.ref z) 3 >>= _) _ _ _
  refine wpAny_bind (wpAny_field hz rfl (x := .ref zi) rfl ?_)
  refine wpAny_bind (wpAny_seqItems hI rfl ?_)
  show wpAny _ _ (Builtin.SmallTypes.ownedTupleIsFree (.ref z) >>= _) _ _ _
  refine wpAny_bind (wpAny_tupleHeld_zip hz hT fun g0 hz0 hs0 => ?_)
  replace hz0 : IsZipHeld g0 z zi zo T true := hz0
  replace hs0 : Heap.SameBut z hp g0 := hs0
  simp only [Bool.false_eq_true, if_false]
  refine wpAny_bind ?_
  rw [← Array.forIn_toList]
  simp only [List.forIn_cons, List.forIn_nil]
  refine wpAny_bind (wpAny_bind (wpAny_holding ?_))
  show wpAny _ _ (Builtin.SmallTypes.nextOf (.ref i1) >>= _) _ _ ⟨g0, g, d, tk0, os⟩
  by_cases hlt1 : i < n1
  · refine wpAny_bind (D1.item i _ _ _ hlt1 (D1.over st1 hs0 S.zf1) fun x1 p1 tk1 hx1 sn1 hp1 => wpAny_pure ?_)
    replace hp1 : Heap.SameBut i1 g0 p1 := hp1
    refine wpAny_pure ?_
    have hi2 : i = n2 := by omega
    refine wpAny_bind (wpAny_bind (wpAny_holding ?_))
    show wpAny _ _ (Builtin.SmallTypes.nextOf (.ref i2) >>= _) _ _ ⟨p1, g, d, tk1, os⟩
    refine wpAny_bind (D2.done ⟨p1, g, d, tk1, os⟩ _ _ (by rw [← hi2]; exact D2.over (D2.over st2 hs0 S.zf2) hp1 S.sep1_2) fun q e hq he => ?_)
    replace hq : Heap.ExtBut i2 p1 q := hq
    exact hE q tk1 e (fun c o c1 c2 c3 x => hq _ _ c3 (hp1.extBut _ _ c2 (hs0.extBut _ _ c1 x))) he
  · have hi1 : i = n1 := by omega
    refine wpAny_bind (D1.done ⟨g0, g, d, tk0, os⟩ _ _ (by rw [← hi1]; exact D1.over st1 hs0 S.zf1) fun q e hq he => ?_)
    replace hq : Heap.ExtBut i1 g0 q := hq
    exact hE q tk0 e (fun c o c1 c2 _ x => hq _ _ c2 (hs0.extBut _ _ c1 x)) he
theorem next_zip_held {Q : Option Value → Shared → Prop} (S : ZipSep2 z zi zo i1 i2 fp1 fp2) (D1 : Draws prog w A.in1 i1 fp1 n1 P1 St1) (D2 : Draws prog w A.in1 i2 fp2 n2 P2 St2)
    (hz : IsZipHeld s.heap z zi zo T f) (hT : s.heap.get? T = some oT) (hI : IsTupOf2 s.heap zi (.ref i1) (.ref i2)) (st1 : St1 i s.heap) (st2 : St2 i s.heap) (hlt1 : i < n1) (hlt2 : i < n2)
    (hQ : ∀ x1 x2 h' tk, P1 i x1 → P2 i x2 → IsZipHeld h' z zi zo T true → St1 (i + 1) h' → St2 (i + 1) h' → IsTupOf2 h' s.heap.objs.size x1 x2 → h'.objs.size = s.heap.objs.size + 1 →
      (∀ c o, c ≠ z → c ≠ i1 → c ≠ i2 → s.heap.get? c = some o → h'.get? c = some o) → Q (some (.ref s.heap.objs.size)) { s with heap := h', toks := tk }) :
    wpAny (model prog w) A (pyNext (.ref z)) Q E s := by
  have hTy : s.TypeIs (.ref z) "zip" := ⟨_, hz, rfl⟩
  unfold pyNext
  exact wpAny_bind (wpAny_attempt (wpAny_callSpecial?_slot (name := Str.ofString "__next__") hTy F.slot_zip_next
    (wpAny_call_entry F.slot_zip_next hTy F.entry_zip_next
      (zip_item_held S D1 D2 hz hT hI st1 st2 hlt1 hlt2 fun x1 x2 h' tk a0 a1 a3 a4 a5 a6 a7 a8 => wpAny_pure (hQ x1 x2 h' tk a0 a1 a3 a4 a5 a6 a7 a8)) (F.args_zip_next_1 _))))
theorem end_zip_held {Q : Option Value → Shared → Prop} (S : ZipSep2 z zi zo i1 i2 fp1 fp2) (D1 : Draws prog w A.in1 i1 fp1 n1 P1 St1) (D2 : Draws prog w A.in1 i2 fp2 n2 P2 St2)
    (hz : IsZipHeld s.heap z zi zo T f) (hT : s.heap.get? T = some oT) (hI : IsTupOf2 s.heap zi (.ref i1) (.ref i2)) (st1 : St1 i s.heap) (st2 : St2 i s.heap) (hle1 : i ≤ n1) (hle2 : i ≤ n2) (hend : i = n1 ∨ i = n2)
    (hQ : ∀ h' tk, (∀ c o, c ≠ z → c ≠ i1 → c ≠ i2 → s.heap.get? c = some o → h'.get? c = some o) → Q none { s with heap := h', toks := tk }) : wpAny (model prog w) A (pyNext (.ref z)) Q E s := by
  have hTy : s.TypeIs (.ref z) "zip" := ⟨_, hz, rfl⟩
  unfold pyNext
  refine wpAny_bind (wpAny_attempt (wpAny_callSpecial?_slot (name := Str.ofString "__next__") hTy F.slot_zip_next
    (wpAny_call_entry F.slot_zip_next hTy F.entry_zip_next (zip_end_held S D1 D2 hz hT hI st1 st2 hle1 hle2 hend fun h' tk e hk he => ?_) (F.args_zip_next_1 _))))
  obtain ⟨o, ho, hc⟩ := he
  refine wpAny_bind (wpAny_isInstance (T := "StopIteration") (b := true) ⟨o, ho, hc⟩ isSubtype_stop ?_)
  exact wpAny_pure (hQ _ _ hk)
end
end Pf


namespace Pf
open PySem PySem.Spec L2 PyProof.Rows
theorem vals_get' : ∀ {xs : List V} {us : List Value} {i : Nat} {u : Value}, Vals xs us → us[i]? = some u → ∃ x, xs[i]? = some x ∧ RelV x u
  | _, _, _, _, .nil, e => by simp at e
  | _, _, 0, _, .cons r _, e => by simp at e; subst e; exact ⟨_, rfl, r⟩
  | _, _, i + 1, x, .cons _ t, e => by
    obtain ⟨u, h1, h2⟩ := vals_get' (i := i) t (by simpa using e)
    exact ⟨u, by simpa using h1, h2⟩

/-- what is walked: a list, a tuple, a text -/
inductive Sk where
  | l (a : Addr) | t (a : Addr) | x (z : Str)
def Sk.v : Sk → V
  | .l a => .ref a
  | .t a => .ref a
  | .x z => .str z
def signsV (z : Str) : List V := z.cps.toList.map fun c => .str ⟨#[c]⟩
def Sk.has (K : PySem.W.Frag) (H : Hp) : Sk → List V → Prop
  | .l a, xs => SqL K H a xs
  | .t a, xs => SqT K H a xs
  | .x z, xs => xs = signsV z
/-- as a value -/
inductive Mk : Sk → Value → Obj → Prop
  | l (a : Addr) : Mk (.l a) (.ref a) { cls := .type "list_iterator", data := .fields #[.ref a, .int 0 0] }
  | t (a : Addr) : Mk (.t a) (.ref a) { cls := .type "tuple_iterator", data := .fields #[.ref a, .int 0 0] }
  | x (z : Str) (t : Tok) : Mk (.x z) (.str z t) { cls := .type (strIterType z), data := .fields #[.str z t, .int 0 0] }
/-- its iterator at i, behind so many -/
def Sk.it (k : Sk) (h : Heap) (i : Addr) (n : Nat) : Prop :=
  match k with
  | .l a => h.IsListIter i a n
  | .t a => h.IsTupleIter i a n
  | .x z => ∃ t, h.IsStrIter i (strIterType z) z t n
def Sk.at? : Sk → Option Addr
  | .l a => some a
  | .t a => some a
  | .x _ => none
section
variable {X : Cx} {pins : List (Addr × Obj)} {σ : L2.St} {H : Hp} {s : Shared}
theorem Sk.mk {k : Sk} {u : Value} (r : RelV k.v u) : ∃ o, Mk k u o := by
  cases k with
  | l a => cases r; exact ⟨_, .l a⟩
  | t a => cases r; exact ⟨_, .t a⟩
  | x z => obtain ⟨t, rfl⟩ := r; exact ⟨_, .x z t⟩
theorem Sk.live {k : Sk} {h : Heap} {i : Addr} {n : Nat} (p : k.it h i n) : ∃ o, h.get? i = some o ∧ ∀ v, o.data ≠ .cell v := by
  cases k with
  | l a => obtain ⟨o, e, _, d⟩ := p; exact ⟨o, e, fun v q => by rw [d] at q; cases q⟩
  | t a => obtain ⟨o, e, _, d⟩ := p; exact ⟨o, e, fun v q => by rw [d] at q; cases q⟩
  | x z => obtain ⟨t, o, e, _, d⟩ := p; exact ⟨o, e, fun v q => by rw [d] at q; cases q⟩
theorem Sk.keep {k : Sk} {h h' : Heap} {i : Addr} {n : Nat} (p : k.it h i n) (q : ∀ o, h.get? i = some o → h'.get? i = some o) : k.it h' i n := by
  cases k with
  | l a => exact p.at q
  | t a => exact p.at q
  | x z => obtain ⟨t, o, e, r⟩ := p; exact ⟨t, o, q o e, r⟩
theorem Sk.inj (I : Inv X pins σ H s) {k : Sk} {xs ys : List V} (h : k.has X.K H xs) (h' : k.has X.K H ys) : xs = ys := by
  cases k with
  | l a => exact I.list_inj h h'
  | t a => exact I.tuple_inj h h'
  | x z => exact Eq.trans h (Eq.symm h')
/-- what its iterator draws -/
theorem Sk.draws (I : Inv X pins σ H s) {A : Around} (hA : A.handled = none) {k : Sk} {xs : List V} (g : k.has X.K H xs) (i : Addr) (hn : ∀ a, k.at? = some a → a ≠ i) :
    ∃ (fp : List Addr) (P : Nat → Value → Prop) (S : Heap → Prop), Draws X.prog X.w A i fp xs.length P (fun n h => k.it h i n ∧ S h) ∧ S s.heap ∧ i ∈ fp ∧ (∀ b ∈ fp, b = i ∨ k.at? = some b) ∧
      (∀ h h', S h → (∀ a, k.at? = some a → ∀ o, h.get? a = some o → h'.get? a = some o) → S h') ∧ ∀ n u, P n u → ∃ x, xs[n]? = some x ∧ RelV x u := by
  cases k with
  | l a =>
    obtain ⟨its, rv, p, _⟩ := I.list g
    have D := Draws.list (prog := X.prog) (w := X.w) hA i a (hn a rfl) its.toArray
    rw [List.size_toArray, ← rv.length] at D
    refine ⟨_, _, fun h => h.IsList a its.toArray, D, p.isList, by simp, fun b hb => ?_, fun h h' q f => q.at fun o e => f a rfl o e, fun n u hu => ?_⟩
    · simp only [List.mem_cons, List.not_mem_nil, or_false] at hb
      exact hb.imp id fun e => by rw [e]; rfl
    · have hu : its[n]? = some u := by simpa using hu
      exact vals_get' rv hu
  | t a =>
    obtain ⟨its, rv, p, _⟩ := I.tuple g
    have D := Draws.tuple (prog := X.prog) (w := X.w) hA i a (hn a rfl) its.toArray
    rw [List.size_toArray, ← rv.length] at D
    refine ⟨_, _, fun h => h.IsTuple a its.toArray, D, p, by simp, fun b hb => ?_, fun h h' q f => q.at fun o e => f a rfl o e, fun n u hu => ?_⟩
    · simp only [List.mem_cons, List.not_mem_nil, or_false] at hb
      exact hb.imp id fun e => by rw [e]; rfl
    · have hu : its[n]? = some u := by simpa using hu
      exact vals_get' rv hu
  | x z =>
    refine ⟨[i], fun n u => ∃ c t, z.cps[n]? = some c ∧ u = .str ⟨#[c]⟩ t, fun _ => True, ⟨fun n h st => ?_, fun n h h' st hk => ?_, fun n s Q E hi st hQ => ?_, fun s Q E st hE => ?_⟩, trivial, by simp, fun b hb => .inl (by simpa using hb), fun _ _ q _ => q, fun n u hu => ?_⟩
    · obtain ⟨⟨t, st⟩, _⟩ := st
      exact (Draws.text (prog := X.prog) (w := X.w) hA i z t).live n h st
    · obtain ⟨⟨t, st⟩, _⟩ := st
      exact ⟨⟨t, (Draws.text (prog := X.prog) (w := X.w) hA i z t).frame n h h' st hk⟩, trivial⟩
    · obtain ⟨⟨t, st⟩, _⟩ := st
      have e : xs.length = z.cps.size := by rw [show xs = signsV z from g]; simp [signsV]
      exact (Draws.text (prog := X.prog) (w := X.w) hA i z t).item n s Q E (by omega) st fun u h' tk p st' => hQ u h' tk p ⟨⟨t, st'⟩, trivial⟩
    · obtain ⟨⟨t, st⟩, _⟩ := st
      have e : xs.length = z.cps.size := by rw [show xs = signsV z from g]; simp [signsV]
      exact (Draws.text (prog := X.prog) (w := X.w) hA i z t).done s Q E (by rw [← e]; exact st) hE
    · obtain ⟨c, t, h1, rfl⟩ := hu
      refine ⟨.str ⟨#[c]⟩, ?_, ⟨t, rfl⟩⟩
      rw [show xs = signsV z from g]
      simp [signsV, h1]
/-- the cells of a zip lie apart, and apart from what is walked -/
structure Ap (z zi zo i1 i2 : Addr) (k1 k2 : Sk) : Prop where
  d : [z, zi, zo, i1, i2].Nodup
  o1 : ∀ a, k1.at? = some a → a ∉ [z, zi, zo, i1, i2]
  o2 : ∀ a, k2.at? = some a → a ∉ [z, zi, zo, i1, i2]
theorem Ap.sep {z zi zo i1 i2 : Addr} {k1 k2 : Sk} (a : Ap z zi zo i1 i2 k1 k2) {fp1 fp2 : List Addr} (m1 : i1 ∈ fp1) (m2 : i2 ∈ fp2) (f1 : ∀ b ∈ fp1, b = i1 ∨ k1.at? = some b) (f2 : ∀ b ∈ fp2, b = i2 ∨ k2.at? = some b) : ZipSep2 z zi zo i1 i2 fp1 fp2 := by
  have d := a.d
  simp only [List.nodup_cons, List.mem_cons, List.not_mem_nil, or_false, not_or, List.nodup_nil, and_true, not_false_eq_true] at d
  obtain ⟨⟨d1, d2, d3, d4⟩, ⟨d5, d6, d7⟩, ⟨d8, d9⟩, d10⟩ := d
  have n1 : ∀ c ∈ [z, zi, zo, i1, i2], c ≠ i1 → c ∉ fp1 := fun c hc h m => by
    rcases f1 c m with e | e
    · exact h e
    · exact a.o1 c e hc
  have n2 : ∀ c ∈ [z, zi, zo, i1, i2], c ≠ i2 → c ∉ fp2 := fun c hc h m => by
    rcases f2 c m with e | e
    · exact h e
    · exact a.o2 c e hc
  exact ⟨Ne.symm d1, Ne.symm d2, d5, d6, m1, n1 z (by simp) d3, n1 zo (by simp) d8, d7, m2, n2 z (by simp) d4, n2 zo (by simp) d9, n2 i1 (by simp) d10, n1 i2 (by simp) (Ne.symm d10)⟩
def ItG (K : PySem.W.Frag) (k1 k2 : Sk) : It :=
  ⟨fun i H => ∃ (xs ys : List V) (x y : V), k1.has K H xs ∧ k2.has K H ys ∧ xs[i]? = some x ∧ ys[i]? = some y,
    fun i H v H' => ∃ (T : Addr) (o : Obj) (x y : V), v = .ref T ∧ H T = none ∧ o.dict = none ∧ H' = upd H T (tupH o [x, y]) ∧ (∀ xs, k1.has K H xs → xs[i]? = some x) ∧ ∀ ys, k2.has K H ys → ys[i]? = some y,
    fun i H => ∃ xs ys : List V, k1.has K H xs ∧ k2.has K H ys ∧ i = min xs.length ys.length⟩
theorem tup_ok {T : Addr} {h : Heap} {x y : V} {u u2 : Value} (e : h.get? T = some { cls := .type "tuple", data := .seq #[u, u2] }) (r : RelV x u) (r2 : RelV y u2) (H : Hp) :
    ObjOk X.prog X.w (upd H T (tupH { cls := .type "tuple", data := .seq #[u, u2] } [x, y])) h T (tupH { cls := .type "tuple", data := .seq #[u, u2] } [x, y]) := by
  have z : [x, y].length ≤ sizeLine := by show 2 ≤ sizeLine; decide
  have g : ∀ o, o = tupH { cls := .type "tuple", data := .seq #[u, u2] } [x, y] → ObjOk X.prog X.w (upd H T o) h T o := by
    intro o ho
    unfold tupH at ho
    split at ho
    · subst ho
      exact ⟨z, [u, u2], .cons r (.cons r2 .nil), ⟨_, e, rfl, _, rfl⟩⟩
    · subst ho
      exact ⟨e, z, [u, u2], .cons r (.cons r2 .nil), ⟨_, e, rfl, _, rfl⟩⟩
  exact g _ rfl
theorem turn_zipG {P : Program} {w : World} {K : PySem.W.Frag} {elts : List Expr} {kk : Nat} {tpos : Pos} {k1 k2 : Sk} {z zi zo i1 i2 : Addr} (D : Ap z zi zo i1 i2 k1 k2) :
    Turn P w K (.Tuple elts kk tpos) (ItG K k1 k2) [z, zi, zo, i1, i2] z (fun i h => IsZip h z zi zo .none ∧ IsTupOf2 h zi (.ref i1) (.ref i2) ∧ (∃ x y, IsTupOf2 h zo x y) ∧ k1.it h i1 i ∧ k2.it h i2 i) where
  mem := by simp
  obj := fun i h st c hc => by
    obtain ⟨hz, hTI, ⟨x, y, hTO⟩, h1, h2⟩ := st
    have e' : c = z ∨ c = zi ∨ c = zo ∨ c = i1 ∨ c = i2 := by simpa using hc
    rcases e' with q | q | q | q | q
    · rw [q]; exact ⟨_, hz, fun v q => nomatch q⟩
    · rw [q]; exact ⟨_, hTI, fun v q => nomatch q⟩
    · rw [q]; exact ⟨_, hTO, fun v q => nomatch q⟩
    · rw [q]; exact Sk.live h1
    · rw [q]; exact Sk.live h2
  keep := fun i h h' st k => by
    obtain ⟨hz, hTI, ⟨x, y, hTO⟩, h1, h2⟩ := st
    exact ⟨k z (by simp) _ hz, k zi (by simp) _ hTI, ⟨x, y, k zo (by simp) _ hTO⟩, Sk.keep h1 fun o q => k i1 (by simp) o q, Sk.keep h2 fun o q => k i2 (by simp) o q⟩
  item := by
    intro X hP hw hK hc i pins s σ H E I hf st hg
    subst hP hw hK
    obtain ⟨hz, hTI, ⟨x0, y0, hTO⟩, h1, h2⟩ := st
    obtain ⟨xs, ys, x, y, hqx, hqy, hx, hy⟩ := hg
    have hA : X.A.in1.handled = none := I.ok.hd hc
    have d := D.d
    obtain ⟨fp1, P1, S1, D1, s1, m1, f1, kp1, v1⟩ := Sk.draws I hA hqx i1 fun a e q => D.o1 a e (by rw [q]; simp)
    obtain ⟨fp2, P2, S2, D2, s2, m2, f2, kp2, v2⟩ := Sk.draws I hA hqy i2 fun a e q => D.o2 a e (by rw [q]; simp)
    have S := D.sep m1 m2 f1 f2
    have l1 : i < xs.length := (List.getElem?_eq_some_iff.mp hx).1
    have l2 : i < ys.length := (List.getElem?_eq_some_iff.mp hy).1
    have hzl : z < s.heap.objs.size := Heap.lt_size hz
    refine wpAny_pyNext_zipD2_item S D1 D2 hz hTI hTO ⟨h1, s1⟩ ⟨h2, s2⟩ l1 l2 fun u u2 h' tk p1 p2 z' TO' t1 t2 hT hsz hk => ?_
    obtain ⟨x', ex, ru⟩ := v1 _ _ p1
    rw [hx] at ex
    cases ex
    obtain ⟨y', ey, ru2⟩ := v2 _ _ p2
    rw [hy] at ey
    cases ey
    refine ⟨_, rfl, wpAny_letOwnedTupleGo_zip (s := { s with heap := h', toks := tk }) z' fun h'' z'' sb => ?_⟩
    replace sb : Heap.SameBut z h' h'' := sb
    have hT2 : h''.get? s.heap.objs.size = some { cls := .type "tuple", data := .seq #[u, u2] } := (sb.2 _ (Nat.ne_of_gt hzl)).trans hT
    have I1 : Inv X pins σ (upd H s.heap.objs.size (tupH { cls := .type "tuple", data := .seq #[u, u2] } [x, y])) { s with heap := h'', toks := tk } :=
      I.turnedNew (t' := tk) (ch := [z, zi, zo, i1, i2]) (fun c o hb q => (sb.2 c (fun q' => hb (by simp [q']))).trans (hk c o (fun q' => hb (by simp [q'])) (fun q' => hb (by simp [q'])) (fun q' => hb (by simp [q'])) (fun q' => hb (by simp [q'])) q)) hf (Nat.le_refl _) (tup_ok hT2 ru ru2 H)
    have nz : ∀ {c : Addr}, c ∈ [zi, zo, i1, i2] → c ≠ z := fun {c} hc e => (List.nodup_cons.mp d).1 (e ▸ hc)
    refine ⟨.ref s.heap.objs.size, _, I1, rfl, ⟨_, _, x, y, rfl, I.hok.fresh (Nat.le_refl _), rfl, rfl, fun l hl => by rw [Sk.inj I hl hqx]; exact hx, fun l hl => by rw [Sk.inj I hl hqy]; exact hy⟩, ⟨z'', ?_, ⟨u, u2, ?_⟩, ?_, ?_⟩, fun c hcm => ?_⟩
    · exact (sb.2 _ (nz (by simp))).trans (hk _ _ S.TIz S.TITO S.TIi1 S.TIi2 hTI)
    · exact (sb.2 _ (nz (by simp))).trans TO'
    · exact Sk.keep t1.1 fun o q => (sb.2 _ (nz (by simp))).trans q
    · exact Sk.keep t2.1 fun o q => (sb.2 _ (nz (by simp))).trans q
    · have hlt : c < s.heap.objs.size := by
        have e' : c = z ∨ c = zi ∨ c = zo ∨ c = i1 ∨ c = i2 := by simpa using hcm
        rcases e' with q | q | q | q | q
        · rw [q]; exact hzl
        · rw [q]; exact Heap.lt_size hTI
        · rw [q]; exact Heap.lt_size hTO
        · rw [q]; obtain ⟨_, e1, _⟩ := Sk.live h1; exact Heap.lt_size e1
        · rw [q]; obtain ⟨_, e2, _⟩ := Sk.live h2; exact Heap.lt_size e2
      rw [upd_ne (Nat.ne_of_lt hlt)]
      exact (hf c hcm).1
  done := by
    intro X hP hw hK hc i pins s σ H E I hf st hg
    subst hP hw hK
    obtain ⟨hz, hTI, ⟨x0, y0, hTO⟩, h1, h2⟩ := st
    obtain ⟨xs, ys, hqx, hqy, hend⟩ := hg
    have hA : X.A.in1.handled = none := I.ok.hd hc
    obtain ⟨fp1, P1, S1, D1, s1, m1, f1, kp1, v1⟩ := Sk.draws I hA hqx i1 fun a e q => D.o1 a e (by rw [q]; simp)
    obtain ⟨fp2, P2, S2, D2, s2, m2, f2, kp2, v2⟩ := Sk.draws I hA hqy i2 fun a e q => D.o2 a e (by rw [q]; simp)
    have S := D.sep m1 m2 f1 f2
    exact wpAny_pyNext_zipD2_end S D1 D2 hz hTI hTO ⟨h1, s1⟩ ⟨h2, s2⟩ (by omega) (by omega) (by omega) fun h' tk hk => ⟨rfl, I.turnedL (t' := tk) (ch := [z, zi, zo, i1, i2]) (fun c o hb q =>
      hk c o (fun q' => hb (by simp [q'])) (fun q' => hb (by simp [q'])) (fun q' => hb (by simp [q'])) (fun q' => hb (by simp [q'])) q) hf⟩
  self := fun A i s Q E st h => wpAny_pyIter_zip st.1 h
/-- it begins: five new cells -/
theorem Mk.begins {k : Sk} {u : Value} {o : Obj} (m : Mk k u o) (I : Inv X pins σ H s) {xs : List V} (g : k.has X.K H xs) : ∃ S : Heap → Prop, Begins u o S ∧ S s.heap ∧ (∀ a, k.at? = some a → a < s.heap.objs.size) ∧ ∀ h i, h.get? i = some o → k.it h i 0 := by
  cases m with
  | l a =>
    obtain ⟨its, rv, p, _⟩ := I.list g
    exact ⟨_, begins_list a its.toArray, p.isList, fun b e => by cases e; exact p.lt, fun h i e => ⟨_, e, rfl, rfl⟩⟩
  | t a =>
    obtain ⟨its, rv, p, _⟩ := I.tuple g
    exact ⟨_, begins_tuple a its.toArray, p, fun b e => by cases e; exact p.lt, fun h i e => ⟨_, e, rfl, rfl⟩⟩
  | x z t => exact ⟨_, begins_text z t, trivial, (fun b e => by cases e), fun h i e => ⟨t, _, e, rfl, rfl⟩⟩
theorem five_nodup (n : Nat) : ([n + 4, n + 2, n + 3, n, n + 1] : List Nat).Nodup := by
  simp only [List.nodup_cons, List.mem_cons, List.not_mem_nil, or_false, not_or, List.nodup_nil, and_true, not_false_eq_true]
  omega
theorem five_le {n c : Nat} (h : c ∈ ([n + 4, n + 2, n + 3, n, n + 1] : List Nat)) : n ≤ c := by
  simp only [List.mem_cons, List.not_mem_nil, or_false] at h
  omega
theorem ap_new {n : Nat} {k1 k2 : Sk} (h1 : ∀ a, k1.at? = some a → a < n) (h2 : ∀ a, k2.at? = some a → a < n) : Ap (n + 4) (n + 2) (n + 3) n (n + 1) k1 k2 := by
  exact ⟨five_nodup n, fun a e m => absurd (h1 a e) (Nat.not_lt.mpr (five_le m)), fun a e m => absurd (h2 a e) (Nat.not_lt.mpr (five_le m))⟩
/-- zip(a, b) has come -/
theorem zip_comes (I : Inv X pins σ H s) {k1 k2 : Sk} {u1 u2 : Value} {xs ys : List V} (r1 : RelV k1.v u1) (r2 : RelV k2.v u2) (g1 : k1.has X.K H xs) (g2 : k2.has X.K H ys) {E : Value → Shared → Prop} {Q : Value → Shared → Prop}
    (h : ∀ h', Ap (s.heap.objs.size + 4) (s.heap.objs.size + 2) (s.heap.objs.size + 3) s.heap.objs.size (s.heap.objs.size + 1) k1 k2 → IsZip h' (s.heap.objs.size + 4) (s.heap.objs.size + 2) (s.heap.objs.size + 3) .none → IsTupOf2 h' (s.heap.objs.size + 2) (.ref s.heap.objs.size) (.ref (s.heap.objs.size + 1)) →
      IsTupOf2 h' (s.heap.objs.size + 3) .none .none → k1.it h' s.heap.objs.size 0 → k2.it h' (s.heap.objs.size + 1) 0 → h'.objs.size = s.heap.objs.size + 5 →
      (∀ c o, s.heap.get? c = some o → h'.get? c = some o) → Q (.ref (s.heap.objs.size + 4)) { s with heap := h' }) : wpAny (model X.prog X.w) X.A (call (.type "zip") [u1, u2]) Q E s := by
  obtain ⟨o1, m1⟩ := Sk.mk r1
  obtain ⟨o2, m2⟩ := Sk.mk r2
  obtain ⟨S1, B1, b1, a1, t1⟩ := m1.begins I g1
  obtain ⟨S2, B2, b2, a2, t2⟩ := m2.begins I g2
  exact zip_begins2 B1 B2 b1 b2 fun h' z1 z2 z3 e1 e2 z4 z5 => h h' (ap_new a1 a2) z1 z2 z3 (t1 _ _ e1) (t2 _ _ e2) z4 z5
def iZipG (K : PySem.W.Frag) (ta : TA) : TI := fun σ H R => ta σ H fun vs H1 => ∃ (k1 k2 : Sk) (xs ys : List V), vs = [k1.v, k2.v] ∧ k1.has K H1 xs ∧ k2.has K H1 ys ∧ R (ItG K k1 k2) H1
theorem pi_zipG {e e2 : Expr} {ta : TA} {p pos tpos : Pos} {elts : List Expr} {kk : Nat} (hg : Gl X "zip") (hm : X.mg "zip" = none) (ha : PA X [e, e2] ta)
    (hs : starEach [e, e2] X.env = (false, eval e X.env) :: starEach [e2] X.env := by rfl) (hpl : (backTo pos (starEach [e2] X.env)).any (·.1) = false := by rfl) :
    PI X (.Tuple elts kk tpos) (.Call (.Name "zip" p) [e, e2] [] pos) (iZipG X.K ta) := by
  refine ⟨fun pins s σ H R I h => ?_⟩
  refine Call_ (ld_blt I hg hm PyProof.Rows.boot_zip (PyProof.Rows.callWith_type1 (thn (ha.run pos pins s σ H _ I h) fun us s1 ⟨vs, H1, I1, r1, q1⟩ => ?_) hs hpl))
  obtain ⟨k1, k2, xs, ys, ex, g1, g2, q⟩ := q1
  subst ex
  obtain ⟨u1, u2, rfl, ru1, ru2⟩ := vals2 r1
  refine zip_comes I1 ru1 ru2 g1 g2 fun h' ap hz hTI hTO h1 h2 hsz hk => wpAny_pyIter_zip hz ?_
  have I2 : Inv X pins σ H1 { s1 with heap := h' } := I1.kept (t' := s1.toks) hk
  refine ⟨s1.heap.objs.size + 4, _, _, _, H1, rfl, I2, turn_zipG ap, ⟨hz, hTI, ⟨_, _, hTO⟩, h1, h2⟩, fun c hcm => ?_, q⟩
  have hle : s1.heap.objs.size ≤ c := five_le hcm
  exact I1.fpOk hle (I1.hok.fresh hle)
end
end Pf


namespace Pf
open PySem PySem.Spec L2 PyProof.Rows
theorem meets_enum_new1 {v : Value} {o : Obj} {H : Heap → Prop} (B : Begins v o H) :
    Meets (Builtin.«enumerate.__new__» ⟨[.type "enumerate", v], []⟩) (fun _ R s => H s.heap ∧
      R (.ok (.ret (.ref (s.heap.push o).objs.size))) { s with heap := (s.heap.push o).push { cls := .type "enumerate", data := .fields #[.none, .bool false, .ref s.heap.objs.size, rawInt 0, .none, .none] } }) :=
  .of_wp fun prog w A R s h => by
    obtain ⟨hp, g, d, tk, os⟩ := s; obtain ⟨h1, h⟩ := h
    have hsub := sub_enumerate
    have q1 : ∀ {A' : Around} {E : Value → Shared → Prop} {Q : Value → Shared → Prop}, Q (.ref hp.objs.size) ⟨hp.push o, g, d, tk, os⟩ → wpAny (model prog w) A' (pyIter v) Q E ⟨hp, g, d, tk, os⟩ :=
      fun q => B.iter prog w _ _ ⟨hp, g, d, tk, os⟩ _ h1 q
    wp_walk using q1
    refine wpAny_stack_any fun st => wpAny_pure ?_
    split
    · rename_i c _ _ _ _ _
      cases (c == Value.type "enumerate")
      · wp_walk using q1
        exact ⟨_, rfl, h⟩
      · wp_walk using q1
        exact ⟨_, rfl, h⟩
    · wp_walk using q1
      exact ⟨_, rfl, h⟩
section
variable {prog : Program} {w : World} {A : Around} {E : Value → Shared → Prop} {s : Shared}
/-- enumerate(v): its two new cells -/
theorem enum_begins1 {v : Value} {o : Obj} {H : Heap → Prop} {Q : Value → Shared → Prop} (B : Begins v o H) (h1 : H s.heap)
    (h : ∀ h', IsEnum h' (s.heap.objs.size + 1) s.heap.objs.size 0 .none → h'.get? s.heap.objs.size = some o → h'.objs.size = s.heap.objs.size + 2 →
      (∀ b o, s.heap.get? b = some o → h'.get? b = some o) → Q (.ref (s.heap.objs.size + 1)) { s with heap := h' }) :
    wpAny (model prog w) A (call (.type "enumerate") [v]) Q E s := by
  refine callType_new F.called_enumerate (by decide) (F.typeCall_enumerate_1 _) (F.newCall_enumerate_1 _) (fun obj => F.args_object_init_2 obj _) F.entry_enumerate_new
    (meets_enum_new1 B) ⟨h1, ?_⟩
  have hz : (s.heap.push o).objs.size = s.heap.objs.size + 1 := Heap.size_push ..
  show _ ∧ _
  rw [hz]
  have he : IsEnum ((s.heap.push o).push { cls := .type "enumerate", data := .fields #[.none, .bool false, .ref s.heap.objs.size, rawInt 0, .none, .none] }) (s.heap.objs.size + 1) s.heap.objs.size 0 .none := by
    have := Heap.get?_push_size (s.heap.push o) (o := { cls := .type "enumerate", data := .fields #[.none, .bool false, .ref s.heap.objs.size, rawInt 0, .none, .none] }) rfl
    rw [hz] at this; exact this
  refine ⟨⟨_, he, rfl⟩, h _ he (Heap.get?_push_of_some _ (Heap.get?_push_size _ B.free)) (by rw [Heap.size_push, hz]) fun b o x => Heap.get?_push_of_some _ (Heap.get?_push_of_some _ x)⟩
end
def ItEn (K : PySem.W.Frag) (k : Sk) : It :=
  ⟨fun i H => ∃ (xs : List V) (x : V), k.has K H xs ∧ xs[i]? = some x,
    fun i H v H' => ∃ (T : Addr) (o : Obj) (x : V), v = .ref T ∧ H T = none ∧ o.dict = none ∧ H' = upd H T (tupH o [.int (i : Nat), x]) ∧ ∀ xs, k.has K H xs → xs[i]? = some x,
    fun i H => ∃ xs : List V, k.has K H xs ∧ i = xs.length⟩
section
variable {X : Cx} {pins : List (Addr × Obj)} {σ : L2.St} {H : Hp} {s : Shared}
theorem turn_enumG {P : Program} {w : World} {K : PySem.W.Frag} {elts : List Expr} {kk : Nat} {tpos : Pos} {k : Sk} {e it : Addr} (ne : e ≠ it) (ha : ∀ a, k.at? = some a → a ≠ e ∧ a ≠ it) :
    Turn P w K (.Tuple elts kk tpos) (ItEn K k) [e, it] e (fun i h => (∃ old, IsEnum h e it ((i : Nat) : Int) old) ∧ k.it h it i) where
  mem := by simp
  obj := fun i h st c hc => by
    obtain ⟨⟨old, he⟩, h1⟩ := st
    have e' : c = e ∨ c = it := by simpa using hc
    rcases e' with q | q
    · rw [q]; exact ⟨_, he, fun v q => nomatch q⟩
    · rw [q]; exact Sk.live h1
  keep := fun i h h' st k => by
    obtain ⟨⟨old, he⟩, h1⟩ := st
    exact ⟨⟨old, k e (by simp) _ he⟩, Sk.keep h1 fun o q => k it (by simp) o q⟩
  item := by
    intro X hP hw hK hc i pins s σ H E I hf st hg
    subst hP hw hK
    obtain ⟨⟨old, he⟩, h1⟩ := st
    obtain ⟨xs, x, hqx, hx⟩ := hg
    have hA : X.A.in1.handled = none := I.ok.hd hc
    obtain ⟨fp1, P1, S1, D1, s1, m1, f1, kp1, v1⟩ := Sk.draws I hA hqx it fun a e q => (ha a e).2 q
    have hef : e ∉ fp1 := fun m => by
      rcases f1 e m with q | q
      · exact ne q
      · exact (ha e q).1 rfl
    have l1 : i < xs.length := (List.getElem?_eq_some_iff.mp hx).1
    have hel : e < s.heap.objs.size := Heap.lt_size he
    have hil : it < s.heap.objs.size := by obtain ⟨_, q, _⟩ := Sk.live h1; exact Heap.lt_size q
    refine wpAny_pyNext_enum_itemC D1 he ⟨h1, s1⟩ l1 ne hef fun u h' tk p1 ho t1 hT hsz hk => ?_
    obtain ⟨x', ex, ru⟩ := v1 _ _ p1
    rw [hx] at ex
    cases ex
    refine ⟨_, rfl, wpAny_letOwnedTupleGo_enum (s := { s with heap := h', toks := tk + 1 }) ho fun h'' he' sb => ?_⟩
    replace sb : Heap.SameBut e h' h'' := sb
    have hT2 : h''.get? s.heap.objs.size = some { cls := .type "tuple", data := .seq #[.int i tk, u] } := (sb.2 _ (Nat.ne_of_gt hel)).trans hT
    have I1 : Inv X pins σ (upd H s.heap.objs.size (tupH { cls := .type "tuple", data := .seq #[.int i tk, u] } [.int (i : Nat), x])) { s with heap := h'', toks := tk + 1 } :=
      I.turnedNew (t' := tk + 1) (ch := [e, it]) (fun b ob hb q => (sb.2 b (fun z => hb (by simp [z]))).trans (hk b ob (fun z => hb (by simp [z])) (fun z => hb (by simp [z])) q)) hf (Nat.le_refl _) (tup_ok hT2 (show RelV (.int (i : Nat)) _ from ⟨_, rfl⟩) ru H)
    refine ⟨.ref s.heap.objs.size, _, I1, rfl, ⟨_, _, x, rfl, I.hok.fresh (Nat.le_refl _), rfl, rfl, fun l hl => by rw [Sk.inj I hl hqx]; exact hx⟩, ⟨⟨u, ?_⟩, Sk.keep t1.1 fun o q => (sb.2 it (Ne.symm ne)).trans q⟩, fun b hb => ?_⟩
    · have e1 : ((i + 1 : Nat) : Int) = (i : Int) + 1 := by omega
      rw [e1]; exact he'
    · have hb' : b < s.heap.objs.size := by
        have e' : b = e ∨ b = it := by simpa using hb
        rcases e' with z | z
        · rw [z]; exact hel
        · rw [z]; exact hil
      rw [upd_ne (Nat.ne_of_lt hb')]
      exact (hf b hb).1
  done := by
    intro X hP hw hK hc i pins s σ H E I hf st hg
    subst hP hw hK
    obtain ⟨⟨old, he⟩, h1⟩ := st
    obtain ⟨xs, hqx, hend⟩ := hg
    have hA : X.A.in1.handled = none := I.ok.hd hc
    obtain ⟨fp1, P1, S1, D1, s1, m1, f1, kp1, v1⟩ := Sk.draws I hA hqx it fun a e q => (ha a e).2 q
    exact wpAny_pyNext_enum_endD D1 he (by rw [← hend]; exact ⟨h1, s1⟩) fun h' eb => ⟨rfl, I.turnedL (t' := s.toks) (ch := [e, it]) (fun b o hb q => eb b o (fun z => hb (by simp [z])) q) hf⟩
  self := fun A i s Q E st h => by
    obtain ⟨⟨old, he⟩, _⟩ := st
    exact wpAny_pyIter_enum he h
theorem two_le {n c : Nat} (h : c ∈ ([n + 1, n] : List Nat)) : n ≤ c := by
  simp only [List.mem_cons, List.not_mem_nil, or_false] at h
  omega
def iEnumG (K : PySem.W.Frag) (ta : TA) : TI := fun σ H R => ta σ H fun vs H1 => ∃ (k : Sk) (xs : List V), vs = [k.v] ∧ k.has K H1 xs ∧ R (ItEn K k) H1
theorem pi_enumG {e : Expr} {ta : TA} {p pos tpos : Pos} {elts : List Expr} {kk : Nat} (hg : Gl X "enumerate") (hm : X.mg "enumerate" = none) (ha : PA X [e] ta)
    (hs : starEach [e] X.env = [(false, eval e X.env)] := by rfl) :
    PI X (.Tuple elts kk tpos) (.Call (.Name "enumerate" p) [e] [] pos) (iEnumG X.K ta) := by
  refine ⟨fun pins s σ H R I h => ?_⟩
  refine Call_ (ld_blt I hg hm PyProof.Rows.boot_enumerate (PyProof.Rows.callWith_type1 (thn (ha.run pos pins s σ H _ I h) fun us s1 ⟨vs, H1, I1, r1, q1⟩ => ?_) hs rfl))
  obtain ⟨k, xs, ex, g1, q⟩ := q1
  subst ex
  obtain ⟨u1, rfl, ru1⟩ := vals1 r1
  obtain ⟨o1, m1⟩ := Sk.mk ru1
  obtain ⟨S1, B1, b1, a1, t1⟩ := m1.begins I1 g1
  refine enum_begins1 B1 b1 fun h' he hit hsz hk => wpAny_pyIter_enum he ?_
  have I2 : Inv X pins σ H1 { s1 with heap := h' } := I1.kept (t' := s1.toks) hk
  refine ⟨s1.heap.objs.size + 1, [s1.heap.objs.size + 1, s1.heap.objs.size], _, _, H1, rfl, I2, turn_enumG (k := k) (Nat.succ_ne_self _) (fun a e => ⟨Nat.ne_of_lt (Nat.lt_succ_of_lt (a1 a e)), Nat.ne_of_lt (a1 a e)⟩), ⟨⟨.none, he⟩, t1 _ _ hit⟩, fun b hb => ?_, q⟩
  have hle : s1.heap.objs.size ≤ b := two_le hb
  exact I1.fpOk hle (I1.hok.fresh hle)
end
end Pf


namespace Pf
open PySem PySem.Spec L2 PyProof.Rows
/-! ## list(zip(a, b)) -/
/-- the pairs that a zip hands out -/
def Prs (H G : Hp) (xs ys vs : List V) : Prop := Same H G ∧ ∀ (j : Nat) (v : V), vs[j]? = some v → ∃ (T : Addr) (o : Obj) (x y : V), v = V.ref T ∧ H T = none ∧ o.dict = none ∧ G T = some (tupH o [x, y]) ∧ xs[j]? = some x ∧ ys[j]? = some y
theorem Same.rd {H G : Hp} (s : Same H G) {a : Addr} {u : HO} (h : Rd H a u) : Rd G a u := h.elim (fun e => .inl (s _ _ e)) fun ⟨o, e⟩ => .inr ⟨o, s _ _ e⟩
theorem Sk.same {K : PySem.W.Frag} {H G : Hp} (s : Same H G) {k : Sk} {xs : List V} (h : k.has K H xs) : k.has K G xs := by
  cases k with
  | l a => exact h.elim (fun r => .inl (Same.rd s r)) .inr
  | t a => exact h.elim (fun r => .inl (Same.rd s r)) .inr
  | x z => exact h
theorem upd_comm {H : Hp} {a b : Addr} {o u : HO} (h : a ≠ b) : upd (upd H a o) b u = upd (upd H b u) a o := by
  funext c
  by_cases e1 : c = a
  · subst e1
    rw [upd_ne h, upd_same, upd_same]
  · by_cases e2 : c = b
    · subst e2
      rw [upd_same, upd_ne e1, upd_same]
    · rw [upd_ne e2, upd_ne e1, upd_ne e1, upd_ne e2]
section
variable {X : Cx} {pins : List (Addr × Obj)} {σ : L2.St} {H : Hp}
theorem lst_written {s : Shared} {G : Hp} {S : Addr} {vs ws : List V} {f : Array Value → Array Value} {t : Nat} (I : Inv X pins σ (upd G S (.lst vs)) s) (hf : ∀ us, Vals vs us → Vals ws (f us.toArray).toList) (hw : ws.length ≤ sizeLine) :
    ∃ (its : List Value) (n : Nat), Vals vs its ∧ s.heap.get? S = some { cls := .type "list", data := .seq its.toArray n } ∧ Inv X pins σ (upd G S (.lst ws)) { s with heap := s.heap.update S (Obj.mapSeq f), toks := t } := by
  obtain ⟨hz, its, n, rv, e⟩ := (show ObjOk X.prog X.w (upd G S (.lst vs)) s.heap S (.lst vs) from I.hok S _ upd_same)
  refine ⟨its, n, rv, e, ?_⟩
  have e2 := Heap.get?_update_self (Obj.mapSeq f) e rfl
  have q := I.write (x := S) (e := S) (o := .lst ws) (t' := t) (h' := s.heap.update S (Obj.mapSeq f)) (by rw [upd_same]; trivial) (.inl rfl) (fun b u hb q => (Heap.get?_update_other _ _ (Ne.symm hb)).trans q) ⟨_, e2⟩
    (by rw [upd_upd]; exact ⟨hw, (f its.toArray).toList, _, hf its rv, by rw [e2]; rfl⟩)
  rw [upd_upd] at q
  exact q
theorem extend_zip {A : Around} (hA : A.handled = none) {k1 k2 : Sk} {z zi zo i1 i2 S : Addr} (ap : Ap z zi zo i1 i2 k1 k2) (hS : S ∉ [z, zi, zo, i1, i2]) {xs ys : List V} (g1 : k1.has X.K H xs) (g2 : k2.has X.K H ys) (hf0 : H S = none)
    (hsz : min xs.length ys.length ≤ sizeLine) {R : Result → Shared → Prop} (res : Value) : ∀ (n i : Nat) (s : Shared) (G : Hp) (vs : List V), min xs.length ys.length = i + n →
    Inv X pins σ (upd G S (.lst vs)) s → G S = none → Prs H G xs ys vs → vs.length = i → (∀ b ∈ [z, zi, zo, i1, i2], FpOk X pins (upd G S (.lst vs)) b) →
    IsTupOf2 s.heap zi (.ref i1) (.ref i2) → (∃ o, s.heap.get? zo = some o) → k1.it s.heap i1 i → k2.it s.heap i2 i →
    ((IsZip s.heap z zi zo .none ∧ ∃ a b, IsTupOf2 s.heap zo a b) ∨ ∃ T f oT, IsZipHeld s.heap z zi zo T f ∧ s.heap.get? T = some oT ∧ T ≠ z ∧ T ≠ i1 ∧ T ≠ i2 ∧ T ≠ S) →
    (∀ s' G' vs', Inv X pins σ (upd G' S (.lst vs')) s' → G' S = none → Prs H G' xs ys vs' → vs'.length = min xs.length ys.length → R (.ok (.ret res)) s') →
    codeAny (model X.prog X.w) A (.builtin "list.extend.loop" ⟨[.ref S, .ref z, res], []⟩) R s := by
  intro n
  induction n with
  | zero =>
    intro i s G vs hm I hG pr hl hf hI hzo' h1 h2 hz hR
    have sm : Same H (upd G S (.lst vs)) := fun b u e => by
      have : b ≠ S := fun q => by rw [q, hf0] at e; cases e
      rw [upd_ne this]
      exact pr.1 b u e
    obtain ⟨fp1, P1, S1, D1, s1, m1, f1, kp1, v1⟩ := Sk.draws I (A := A.in1.in1) hA (Sk.same sm g1) i1 fun a e q => ap.o1 a e (by rw [q]; simp)
    obtain ⟨fp2, P2, S2, D2, s2, m2, f2, kp2, v2⟩ := Sk.draws I (A := A.in1.in1) hA (Sk.same sm g2) i2 fun a e q => ap.o2 a e (by rw [q]; simp)
    have Sp := ap.sep m1 m2 f1 f2
    refine codeAny_builtin PySem.F.entry_extend_loop ?_
    rw [Around.under_plainId PySem.F.plain_extend_loop _]
    show wpAny _ A.in1 (pyNext (.ref z) >>= _) _ _ s
    have fin : ∀ h' tk, (∀ c o, c ∉ [z, zi, zo, i1, i2] → s.heap.get? c = some o → h'.get? c = some o) → R (.ok (.ret res)) { s with heap := h', toks := tk } := fun h' tk k =>
      hR _ G vs (I.turnedL (t' := tk) (ch := [z, zi, zo, i1, i2]) k hf) hG pr (by omega)
    rcases hz with ⟨hz, a, b, hzo⟩ | ⟨T, f, oT, hz, hT, n1, n2, n3, n4⟩
    · refine wpAny_bind (wpAny_pyNext_zipD2_end Sp D1 D2 hz hI hzo ⟨h1, s1⟩ ⟨h2, s2⟩ (by omega) (by omega) (by omega) fun h' tk hk => ?_)
      exact wpAny_pure (fin h' tk fun c o hc e => hk c o (fun q => hc (by simp [q])) (fun q => hc (by simp [q])) (fun q => hc (by simp [q])) (fun q => hc (by simp [q])) e)
    · refine wpAny_bind (end_zip_held Sp D1 D2 hz hT hI ⟨h1, s1⟩ ⟨h2, s2⟩ (by omega) (by omega) (by omega) fun h' tk hk => ?_)
      exact wpAny_pure (fin h' tk fun c o hc e => hk c o (fun q => hc (by simp [q])) (fun q => hc (by simp [q])) (fun q => hc (by simp [q])) e)
  | succ n ih =>
    intro i s G vs hm I hG pr hl hf hI hzo' h1 h2 hz hR
    have sm : Same H (upd G S (.lst vs)) := fun b u e => by
      have : b ≠ S := fun q => by rw [q, hf0] at e; cases e
      rw [upd_ne this]
      exact pr.1 b u e
    obtain ⟨fp1, P1, S1, D1, s1, m1, f1, kp1, v1⟩ := Sk.draws I (A := A.in1.in1) hA (Sk.same sm g1) i1 fun a e q => ap.o1 a e (by rw [q]; simp)
    obtain ⟨fp2, P2, S2, D2, s2, m2, f2, kp2, v2⟩ := Sk.draws I (A := A.in1.in1) hA (Sk.same sm g2) i2 fun a e q => ap.o2 a e (by rw [q]; simp)
    have Sp := ap.sep m1 m2 f1 f2
    refine codeAny_builtin PySem.F.entry_extend_loop ?_
    rw [Around.under_plainId PySem.F.plain_extend_loop _]
    show wpAny _ A.in1 (pyNext (.ref z) >>= _) _ _ s
    obtain ⟨oz, hzo, _⟩ : ∃ o, s.heap.get? z = some o ∧ True := by
      rcases hz with ⟨hz, _⟩ | ⟨_, _, _, hz, _⟩
      · exact ⟨_, hz, trivial⟩
      · exact ⟨_, hz, trivial⟩
    have lt : ∀ c, (∃ o, s.heap.get? c = some o) → s.heap.objs.size ≠ c := fun c ⟨o, e⟩ => Nat.ne_of_gt (Heap.lt_size e)
    have lz := lt z ⟨_, hzo⟩
    have li1 := lt i1 (let ⟨o, e, _⟩ := Sk.live h1; ⟨o, e⟩)
    have li2 := lt i2 (let ⟨o, e, _⟩ := Sk.live h2; ⟨o, e⟩)
    have lzi := lt zi ⟨_, hI⟩
    have lzo := lt zo hzo'
    obtain ⟨_, itS, nS, _, eS⟩ := (show ObjOk X.prog X.w (upd G S (.lst vs)) s.heap S (.lst vs) from I.hok S _ upd_same)
    have lS := lt S ⟨_, eS⟩
    have nS' : ∀ c ∈ [z, zi, zo, i1, i2], c ≠ S := fun c hc e => hS (e ▸ hc)
    -- what follows the next pair
    have step : ∀ u1 u2 h' tk, P1 i u1 → P2 i u2 → IsTupOf2 h' s.heap.objs.size u1 u2 → (∀ c o, c ∉ [z, zi, zo, i1, i2] → s.heap.get? c = some o → h'.get? c = some o) → IsTupOf2 h' zi (.ref i1) (.ref i2) → (∃ o, h'.get? zo = some o) → k1.it h' i1 (i + 1) → k2.it h' i2 (i + 1) →
        (∃ T f oT, IsZipHeld h' z zi zo T f ∧ h'.get? T = some oT ∧ T ≠ z ∧ T ≠ i1 ∧ T ≠ i2 ∧ T ≠ S) → (∀ c ∈ [z, zi, zo, i1, i2], c ≠ s.heap.objs.size) →
        wpAny (model X.prog X.w) A.in1 (updateSeq S (·.push (.ref s.heap.objs.size)) >>= fun _ => again (.builtin "list.extend.loop" ⟨[.ref S, .ref z, res], []⟩))
          (fun fin s' => match fin with | .done f => R (.ok f) s' | .again c' => c'.quiet = true ∧ codeAny (model X.prog X.w) A c' R s') (fun e s' => R (.error e) s') { s with heap := h', toks := tk } := by
      intro u1 u2 h' tk p1 p2 hT hk hI' hzn t1 t2 hh ne
      obtain ⟨x, ex, ru⟩ := v1 _ _ p1
      obtain ⟨y, ey, ru2⟩ := v2 _ _ p2
      have I1 : Inv X pins σ (upd (upd G S (.lst vs)) s.heap.objs.size (tupH { cls := .type "tuple", data := .seq #[u1, u2] } [x, y])) { s with heap := h', toks := tk } :=
        I.turnedNew (t' := tk) (ch := [z, zi, zo, i1, i2]) hk hf (Nat.le_refl _) (tup_ok hT ru ru2 _)
      rw [upd_comm (Ne.symm lS)] at I1
      have hHT : H s.heap.objs.size = none := by
        cases e : H s.heap.objs.size with
        | none => rfl
        | some u =>
          have := I.hok.fresh (Nat.le_refl s.heap.objs.size)
          rw [sm _ _ e] at this
          cases this
      obtain ⟨its, n0, rv, e0, I2⟩ := lst_written (t := tk) (ws := vs ++ [.ref s.heap.objs.size]) (f := (·.push (.ref s.heap.objs.size))) I1 (fun us r => by simp only [Array.toList_push]; exact r.append (.cons rfl .nil)) (by simp; omega)
      have oth : ∀ c, c ≠ S → ∀ o, h'.get? c = some o → (h'.update S (Obj.mapSeq (·.push (.ref s.heap.objs.size)))).get? c = some o := fun c hc o e => (Heap.get?_update_other _ _ (Ne.symm hc)).trans e
      have il : its.length = i := by rw [← rv.length, hl]
      refine wpAny_bind (wpAny_updateSeq e0 rfl (wpAny_pure ⟨plainId_quiet PySem.F.plain_extend_loop _, ?_⟩) (by first | (simp; done) | (simp; omega)) (by first | (simp; done) | (simp; omega)))
      refine ih (i + 1) _ _ (vs ++ [.ref s.heap.objs.size]) (by omega) I2 ?_ ?_ (by simp [hl]) (fun b hb => ?_) ?_ (let ⟨o, e⟩ := hzn; ⟨o, oth zo (nS' zo (by simp)) o e⟩) ?_ ?_ (.inr ?_) hR
      · rw [upd_ne (Ne.symm lS)]; exact hG
      · refine ⟨fun b u e => ?_, fun j v e => ?_⟩
        · have : b ≠ s.heap.objs.size := fun q => by rw [q, hHT] at e; cases e
          rw [upd_ne this]
          exact pr.1 b u e
        · rw [List.getElem?_append] at e
          split at e
          · obtain ⟨T, o, x', y', e1, e2, e3, e4, e5, e6⟩ := pr.2 j v e
            have : T ≠ s.heap.objs.size := fun q => by
              have h0 := I.hok.fresh (Nat.le_refl s.heap.objs.size)
              rw [upd_ne lS] at h0
              rw [q, h0] at e4; cases e4
            exact ⟨T, o, x', y', e1, e2, e3, by rw [upd_ne this]; exact e4, e5, e6⟩
          · have hj : j = vs.length := by
              have := (List.getElem?_eq_some_iff.mp e).1
              simp at this
              omega
            subst hj
            rw [Nat.sub_self] at e
            cases (Option.some.inj e : V.ref s.heap.objs.size = v)
            exact ⟨_, _, x, y, rfl, hHT, rfl, upd_same, by rw [hl]; exact ex, by rw [hl]; exact ey⟩
      · obtain ⟨q1, q2⟩ := hf b hb
        refine ⟨?_, q2⟩
        rw [upd_ne (nS' b hb)] at q1 ⊢
        rw [upd_ne (ne b hb)]
        exact q1
      · exact oth zi (nS' zi (by simp)) _ hI'
      · exact Sk.keep t1 fun o e => oth i1 (nS' i1 (by simp)) o e
      · exact Sk.keep t2 fun o e => oth i2 (nS' i2 (by simp)) o e
      · obtain ⟨T, f, oT, a1, a2, a3, a4, a5, a6⟩ := hh
        exact ⟨T, f, oT, oth z (nS' z (by simp)) _ a1, oth T a6 _ a2, a3, a4, a5, a6⟩
    rcases hz with ⟨hz, a, b, hzo⟩ | ⟨T, f, oT, hz, hT, n1, n2, n3, n4⟩
    · refine wpAny_bind (wpAny_pyNext_zipD2_item Sp D1 D2 hz hI hzo ⟨h1, s1⟩ ⟨h2, s2⟩ (by omega) (by omega) fun u u2 h' tk p1 p2 z' TO' t1 t2 hT hsz' hk => ?_)
      refine step u u2 h' tk p1 p2 hT (fun c o hc e => hk c o (fun q => hc (by simp [q])) (fun q => hc (by simp [q])) (fun q => hc (by simp [q])) (fun q => hc (by simp [q])) e) (hk _ _ Sp.TIz Sp.TITO Sp.TIi1 Sp.TIi2 hI) ⟨_, TO'⟩ t1.1 t2.1 ⟨_, false, _, z', hT, lz, li1, li2, lS⟩ fun c hc => ?_
      simp only [List.mem_cons, List.not_mem_nil, or_false] at hc
      rcases hc with rfl | rfl | rfl | rfl | rfl
      · exact Ne.symm lz
      · exact Ne.symm lzi
      · exact Ne.symm lzo
      · exact Ne.symm li1
      · exact Ne.symm li2
    · refine wpAny_bind (next_zip_held Sp D1 D2 hz hT hI ⟨h1, s1⟩ ⟨h2, s2⟩ (by omega) (by omega) fun u u2 h' tk p1 p2 z' t1 t2 hT' hsz' hk => ?_)
      have zoz : z ≠ zo := fun q => (List.nodup_cons.mp ap.d).1 (by rw [q]; simp)
      refine step u u2 h' tk p1 p2 hT' (fun c o hc e => hk c o (fun q => hc (by simp [q])) (fun q => hc (by simp [q])) (fun q => hc (by simp [q])) e) (hk _ _ Sp.TIz Sp.TIi1 Sp.TIi2 hI) (let ⟨o, e⟩ := hzo'; ⟨o, hk zo o (Ne.symm zoz) Sp.Ti1 Sp.Ti2 e⟩) t1.1 t2.1 ⟨T, true, oT, z', hk _ _ n1 n2 n3 hT, n1, n2, n3, n4⟩ fun c hc => ?_
      simp only [List.mem_cons, List.not_mem_nil, or_false] at hc
      rcases hc with rfl | rfl | rfl | rfl | rfl
      · exact Ne.symm lz
      · exact Ne.symm lzi
      · exact Ne.symm lzo
      · exact Ne.symm li1
      · exact Ne.symm li2
end
end Pf
namespace Pf
open PySem PySem.Spec L2 PyProof.Rows
theorem zip_no_len : typeLookup (.type "zip") "__len__" = pure none := by rw [typeLookup_type, builtinLookup_eq_fast]; kernel_rfl
theorem zip_no_hint : typeLookup (.type "zip") "__length_hint__" = pure none := by rw [typeLookup_type, builtinLookup_eq_fast]; kernel_rfl
section
variable {X : Cx} {pins : List (Addr × Obj)} {σ : L2.St} {H : Hp}
theorem init_zip {A : Around} (hA : A.handled = none) {k1 k2 : Sk} {z zi zo i1 i2 S : Addr} (ap : Ap z zi zo i1 i2 k1 k2) (hS : S ∉ [z, zi, zo, i1, i2]) {xs ys : List V} (g1 : k1.has X.K H xs) (g2 : k2.has X.K H ys) (hf0 : H S = none)
    (hsz : min xs.length ys.length ≤ sizeLine) {R : Result → Shared → Prop} (s : Shared)
    (I : Inv X pins σ (upd H S (.lst [])) s) (hf : ∀ b ∈ [z, zi, zo, i1, i2], FpOk X pins (upd H S (.lst [])) b)
    (hI : IsTupOf2 s.heap zi (.ref i1) (.ref i2)) (h1 : k1.it s.heap i1 0) (h2 : k2.it s.heap i2 0)
    (hz : IsZip s.heap z zi zo .none) (hzo : IsTupOf2 s.heap zo .none .none)
    (hR : ∀ s' G' vs', Inv X pins σ (upd G' S (.lst vs')) s' → G' S = none → Prs H G' xs ys vs' → vs'.length = min xs.length ys.length → R (.ok (.ret .none)) s') :
    wpAny (model X.prog X.w) A.in1 (Builtin.«list.__init__» ⟨[.ref S, .ref z], []⟩)
      (fun fin s' => match fin with | .done f => R (.ok f) s' | .again c' => c'.quiet = true ∧ codeAny (model X.prog X.w) A c' R s') (fun e s' => R (.error e) s') s := by
  have zS : ∀ c ∈ [z, zi, zo, i1, i2], c ≠ S := fun c hc e => hS (e ▸ hc)
  have Szz : S ≠ z := Ne.symm (zS z (by simp))
  obtain ⟨it0, n0, rv0, e0, I1⟩ := lst_written (t := s.toks) (ws := []) (f := fun _ => (#[] : Array Value)) I (fun us r => .nil) (by simp)
  cases rv0
  show wpAny _ _ (do let old ← Builtin.List.listItems (.ref S); Builtin.List.listUpdate (.ref S) (fun _ => #[]); letGo old.toList.reverse; Builtin.List.listExtendWith (.ref S) (.ref z) .none) _ _ s
  refine wpAny_bind ?_
  unfold Builtin.List.listItems
  refine wpAny_bind (wpAny_seqItems e0 rfl (wpAny_pure ?_))
  show wpAny _ _ (updateSeq S (fun _ => #[]) >>= fun _ => letGo _ >>= fun _ => Builtin.List.listExtendWith (.ref S) (.ref z) .none) _ _ s
  refine wpAny_bind (wpAny_updateSeq e0 rfl ?_)
  refine wpAny_bind (wpAny_letGo ?_)
  have oth : ∀ c, c ≠ S → ∀ o, s.heap.get? c = some o → (s.heap.update S (Obj.mapSeq (fun _ => (#[] : Array Value)))).get? c = some o := fun c hc o e => (Heap.get?_update_other _ _ (Ne.symm hc)).trans e
  replace hI := oth zi (zS zi (by simp)) _ hI
  replace h1 := Sk.keep h1 fun o e => oth i1 (zS i1 (by simp)) o e
  replace h2 := Sk.keep h2 fun o e => oth i2 (zS i2 (by simp)) o e
  replace hz := oth z (zS z (by simp)) _ hz
  replace hzo := oth zo (zS zo (by simp)) _ hzo
  have hT : ({ s with heap := s.heap.update S (Obj.mapSeq (fun _ => (#[] : Array Value))) } : Shared).TypeIs (.ref z) "zip" := ⟨_, hz, rfl⟩
  unfold Builtin.List.listExtendWith
  refine wpAny_bind (wpAny_typeOf (T := "zip") hT ?_)
  have q1 : Builtin.List.listSameRef (.ref S) (.ref z) = false := by simp [Builtin.List.listSameRef, Szz]
  have q2 : (Value.type "zip" == Value.type "list") = false := by decide
  have q3 : (Value.type "zip" == Value.type "tuple") = false := by decide
  simp only [q1, q2, q3, Bool.or_false, Bool.false_eq_true, if_false]
  refine wpAny_bind (wpAny_pyIter_zip hz ?_)
  refine wpAny_bind (wpAny_holding ?_)
  unfold Builtin.List.listLengthHint
  refine wpAny_bind (wpAny_specialOf hT zip_no_len ?_)
  show wpAny _ _ (specialOf (Value.ref z) (Str.ofString "__length_hint__") >>= _) _ _ _
  refine wpAny_bind (wpAny_specialOf hT zip_no_hint ?_)
  refine wpAny_pure ?_
  show wpAny _ _ (rule "list.extend.makes-room" >>= fun _ => Builtin.List.listTouch (.ref S) >>= fun _ =>
    again (.builtin "list.extend.loop" ⟨[.ref S, .ref z, .none], []⟩)) _ _ _
  refine wpAny_bind (wpAny_rule ?_)
  refine wpAny_bind ?_
  obtain ⟨it1, n1, rv1, e1, I2⟩ := lst_written (t := s.toks) (ws := [.non]) (f := (·.push .none)) I1 (fun us r => by cases r; exact .cons rfl .nil) (by decide)
  cases rv1
  obtain ⟨it2, n2, rv2, e2, I3⟩ := lst_written (t := s.toks) (ws := []) (f := (·.pop)) I2 (fun us r => by cases r with | cons a b => cases b; exact .nil) (by simp)
  cases rv2 with
  | cons a b =>
  cases b
  show wpAny _ _ (updateSeq S (·.push .none) >>= fun _ => updateSeq S (·.pop)) _ _ _
  refine wpAny_bind (wpAny_updateSeq e1 rfl ?_)
  refine wpAny_updateSeq e2 rfl ?_
  have oth2 : ∀ c, c ≠ S → ∀ o, (s.heap.update S (Obj.mapSeq (fun _ => (#[] : Array Value)))).get? c = some o → ((((s.heap.update S (Obj.mapSeq (fun _ => (#[] : Array Value)))).update S (Obj.mapSeq (·.push .none)))).update S (Obj.mapSeq (·.pop))).get? c = some o := fun c hc o e =>
    (Heap.get?_update_other _ _ (Ne.symm hc)).trans ((Heap.get?_update_other _ _ (Ne.symm hc)).trans e)
  refine wpAny_pure ⟨plainId_quiet PySem.F.plain_extend_loop _, ?_⟩
  refine extend_zip hA ap hS g1 g2 hf0 hsz .none (min xs.length ys.length) 0 _ H [] (by omega) I3 hf0 ⟨fun b u e => e, fun j v e => by simp at e⟩ rfl (fun b hb => hf b hb) ?_ ?_ ?_ ?_ (.inl ⟨?_, ?_⟩) hR
  · exact oth2 zi (zS zi (by simp)) _ hI
  · exact ⟨_, oth2 zo (zS zo (by simp)) _ hzo⟩
  · exact Sk.keep h1 fun o e => oth2 i1 (zS i1 (by simp)) o e
  · exact Sk.keep h2 fun o e => oth2 i2 (zS i2 (by simp)) o e
  · exact oth2 z (zS z (by simp)) _ hz
  · exact ⟨_, _, oth2 zo (zS zo (by simp)) _ hzo⟩
end
end Pf
namespace Pf
open PySem PySem.Spec L2 PyProof.Rows
section
variable {X : Cx}
theorem six_nodup {n S : Nat} (h : S = n + 5) : S ∉ ([n + 4, n + 2, n + 3, n, n + 1] : List Nat) := by
  simp only [List.mem_cons, List.not_mem_nil, or_false]
  omega
theorem pe_list_zip {e e2 : Expr} {ta : TA} {p p2 pos pos2 : Pos} (hgl : Gl X "list") (hml : X.mg "list" = none) (hgz : Gl X "zip") (hmz : X.mg "zip" = none) (hcalm : X.calm = true) (ha : PA X [e, e2] ta)
    (hs : starEach [e, e2] X.env = (false, eval e X.env) :: starEach [e2] X.env := by rfl) (hpl : (backTo pos2 (starEach [e2] X.env)).any (·.1) = false := by rfl) :
    PE X (.Call (.Name "list" p) [.Call (.Name "zip" p2) [e, e2] [] pos2] [] pos) (fun σ H Q => ta σ H fun vs H1 => ∃ (k1 k2 : Sk) (xs ys : List V), vs = [k1.v, k2.v] ∧ k1.has X.K H1 xs ∧ k2.has X.K H1 ys ∧ min xs.length ys.length ≤ sizeLine ∧
      ∀ G ws p, Prs H1 G xs ys ws → ws.length = min xs.length ys.length → H1 p = none → G p = none → Q (.ref p) (upd G p (.lst ws))) := by
  refine ⟨fun pins s σ H Q I h => ?_⟩
  refine Call_ (ld_blt I hgl hml PyProof.Rows.boot_list (PyProof.Rows.callWith_type1 (e := .Call (.Name "zip" p2) [e, e2] [] pos2) (rest := []) ?_))
  refine Calls.spliced_cons (Call_ (ld_blt I hgz hmz PyProof.Rows.boot_zip (PyProof.Rows.callWith_type1 (thn (ha.run pos2 pins s σ H _ I h) fun us s1 ⟨vs, H1, I1, r1, q1⟩ => ?_) hs hpl)))
  obtain ⟨k1, k2, xs, ys, ex, g1, g2, hsz, q⟩ := q1
  subst ex
  obtain ⟨u1, u2, rfl, ru1, ru2⟩ := vals2 r1
  refine zip_comes I1 ru1 ru2 g1 g2 fun h' ap hz hI hzo h1 h2 hsz' hk => Calls.spliced_nil ?_
  have I2 : Inv X pins σ H1 { s1 with heap := h' } := I1.kept (t' := s1.toks) hk
  have hfp : ∀ b ∈ [s1.heap.objs.size + 4, s1.heap.objs.size + 2, s1.heap.objs.size + 3, s1.heap.objs.size, s1.heap.objs.size + 1], s1.heap.objs.size ≤ b := fun b hb => five_le hb
  generalize s1.heap.objs.size + 4 = z at *
  refine callType_codes (Q₁ := fun obj s₁ => obj = .ref h'.objs.size ∧ s₁ = { s1 with heap := h'.push { cls := .type "list", data := .seq #[] } }) PySem.F.called_list (PySem.F.typeCall_list_1 _) PySem.F.entry_list_init
    (code_list_new _ ⟨rfl, rfl⟩) fun obj s₁ h₁ => ?_
  obtain ⟨rfl, rfl⟩ := h₁
  have hS : (h'.push { cls := .type "list", data := .seq #[] }).get? h'.objs.size = some { cls := .type "list", data := .seq #[] } := Heap.get?_push_size _ rfl
  have hf0 : H1 h'.objs.size = none := I2.hok.fresh (Nat.le_refl _)
  have I3 : Inv X pins σ (upd H1 h'.objs.size (.lst [])) { s1 with heap := h'.push { cls := .type "list", data := .seq #[] } } :=
    I2.laid (t' := s1.toks) (fun b o x => Heap.get?_push_of_some _ x) (Nat.le_refl _) ⟨by simp, [], _, .nil, hS⟩
  have lt : ∀ c, (∃ o, h'.get? c = some o) → h'.objs.size ≠ c := fun c ⟨o, x⟩ => Nat.ne_of_gt (Heap.lt_size x)
  have live : ∀ b ∈ [z, s1.heap.objs.size + 2, s1.heap.objs.size + 3, s1.heap.objs.size, s1.heap.objs.size + 1], ∃ o, h'.get? b = some o := fun b hb => by
    simp only [List.mem_cons, List.not_mem_nil, or_false] at hb
    rcases hb with rfl | rfl | rfl | rfl | rfl
    · exact ⟨_, hz⟩
    · exact ⟨_, hI⟩
    · exact ⟨_, hzo⟩
    · obtain ⟨o, x, _⟩ := Sk.live h1; exact ⟨o, x⟩
    · obtain ⟨o, x, _⟩ := Sk.live h2; exact ⟨o, x⟩
  refine ⟨⟨_, hS, rfl⟩, PySem.F.args_list_init_2 _ _, init_zip (A := X.A.in1) (I.ok.hd hcalm) ap (fun m => lt _ (live _ m) rfl) g1 g2 hf0 hsz _ I3 (fun b hb => ?_) (Heap.get?_push_of_some _ hI) (Sk.keep h1 fun o x => Heap.get?_push_of_some _ x) (Sk.keep h2 fun o x => Heap.get?_push_of_some _ x) (Heap.get?_push_of_some _ hz) (Heap.get?_push_of_some _ hzo) fun s' G' vs' I' hG pr hl => ?_⟩
  · have := I1.fpOk (hfp b hb) (I1.hok.fresh (hfp b hb))
    obtain ⟨a1, a2⟩ := this
    exact ⟨by rw [upd_ne (Ne.symm (lt b (live b hb)))]; exact a1, a2⟩
  · exact ⟨rfl, .ref h'.objs.size, _, I', rfl, q G' vs' _ pr hl hf0 hG⟩
end
end Pf


namespace Pf
open PySem PySem.Spec L2 PyProof.Rows
/-! ## sum(xs, start) of lists, of tuples -/
theorem sub_list_str : isSubtype (.type "list") (.type "str") = pure false := by rw [isSubtype_type]; kernel_rfl
theorem sub_list_bytes : isSubtype (.type "list") (.type "bytes") = pure false := by rw [isSubtype_type]; kernel_rfl
theorem sub_list_bytearray : isSubtype (.type "list") (.type "bytearray") = pure false := by rw [isSubtype_type]; kernel_rfl
theorem sub_tuple_str : isSubtype (.type "tuple") (.type "str") = pure false := by rw [isSubtype_type]; kernel_rfl
theorem sub_tuple_bytes : isSubtype (.type "tuple") (.type "bytes") = pure false := by rw [isSubtype_type]; kernel_rfl
theorem sub_tuple_bytearray : isSubtype (.type "tuple") (.type "bytearray") = pure false := by rw [isSubtype_type]; kernel_rfl
theorem args_sum2 (a b : Value) : argsOk "sum" ⟨[a, b], []⟩ := by unfold argsOk; kernel_rfl
def withA (X : Cx) (A : Around) (E : Value → Shared → Prop) : Cx := { X with A := A, xe := E }
section
variable {X : Cx} {pins : List (Addr × Obj)} {σ : L2.St} {H : Hp} {s : Shared}
theorem ok_with (ok : X.Ok) {A : Around} (E : Value → Shared → Prop) (h1 : A.handled = none) (h2 : A.frames = X.A.frames) : (withA X A E).Ok :=
  ⟨ok.mod, ok.kind, ok.glob, ok.blt, ok.above, ok.inj, ok.has, ok.cab, fun _ => h1, h2.trans ok.frames, ok.stk, ok.exf, ok.bs, ok.bsz, ok.noex, ok.exfs, ok.funs, ok.frf⟩
theorem inv_with (I : Inv X pins σ H s) {A : Around} (E : Value → Shared → Prop) (h1 : A.handled = none) (h2 : A.frames = X.A.frames) : Inv (withA X A E) pins σ H s :=
  ⟨ok_with I.ok E h1 h2, I.os, I.bare, I.base, I.loc, I.cell, I.free, I.freeC, I.pin, I.hok, I.len⟩
theorem inv_back {A : Around} {E : Value → Shared → Prop} (ok : X.Ok) (I : Inv (withA X A E) pins σ H s) : Inv X pins σ H s :=
  ⟨ok, I.os, I.bare, I.base, I.loc, I.cell, I.free, I.freeC, I.pin, I.hok, I.len⟩
theorem rep_ref {K : PySem.W.Frag} {U : Addr → Prop} {v : V} {d : PyData} (r : Rep K H U v d) (h : seqB d = true) : ∃ a, v = .ref a := by
  cases d with
  | list xs => obtain ⟨a, _, e, _⟩ := r.lst_inv; exact ⟨a, e⟩
  | tuple xs => obtain ⟨a, _, e, _⟩ := r.tup_inv; exact ⟨a, e⟩
  | _ => cases h
theorem add_seq {a b d : PyData} (h : addD a b = some d) (s : seqB a = true) : seqB d = true := by
  unfold addD at h
  split at h
  · cases s
  · cases s
  · split at h
    · cases h; rfl
    · cases h
  · split at h
    · cases h; rfl
    · cases h
  · cases h
/-- a step: the sum goes on -/
theorem sum_add {A : Around} (hA : A.handled = none) (hfr : A.frames = X.A.frames) {U : Addr → Prop} {G : Hp} (hU : ∀ a, U a → G a ≠ none) (I : Inv X pins σ G s) {x y : V} {u v : Value} (rx : RelV x u) (ry : RelV y v) {a b d : PyData} (ha : Rep X.K G U x a) (hb : Rep X.K G U y b)
    (h : addD a b = some d) (hs : seqB a = true) {S it : Addr} {oS oI : Obj} (fS : FpOk X pins G S) (fI : FpOk X pins G it) (eS : s.heap.get? S = some oS) (eI : s.heap.get? it = some oI) (cS : ∀ v, oS.data ≠ .cell v) (cI : ∀ v, oI.data ≠ .cell v) {Q : Value → Shared → Prop} {E : Value → Shared → Prop}
    (q : ∀ w z G' s', Inv X pins σ G' s' → RelV z w → Same G G' → Rep X.K G' U z d → FpOk X pins G' S → FpOk X pins G' it → s'.heap.get? S = some oS → s'.heap.get? it = some oI → Q w s') : wpAny (model X.prog X.w) A (binaryOp .Add u v) Q E s := by
  have I1 : Inv X ((S, oS) :: (it, oI) :: pins) σ G s := I.pins_of fun p hp => by
    rcases List.mem_cons.mp hp with rfl | hp
    · exact ⟨eS, fS.1, fS.2.1, fS.2.2.1, cS⟩
    · rcases List.mem_cons.mp hp with rfl | hp
      · exact ⟨eI, fI.1, fI.2.1, fI.2.2.1, cI⟩
      · exact I.pin p (List.mem_append_right _ hp)
  have I2 := inv_with I1 E hA hfr
  have fin : ∀ {z : V} {G' : Hp}, Same G G' → Rep X.K G' U z d → Same G G' ∧ Rep X.K G' U z d := fun h1 h2 => ⟨h1, h2⟩
  refine wpAny_mono (add_ok (X := withA X A E) _ s σ G x y u v (fun z G' => Same G G' ∧ Rep X.K G' U z d) I2 rx ry ⟨U, a, b, d, .rep ha, .rep hb, h, ?_⟩) (fun w s' hw => ?_) fun _ _ e => e
  · have hd := add_seq h hs
    cases d with
    | list ds => exact fun vs p r hp => ⟨same_upd hp, .lst ⟨upd_same, fun u => hU p u hp⟩ (r.pre (Pre.same (same_upd hp)))⟩
    | tuple ds => exact ⟨fun vs p o r hp ho => ⟨same_upd hp, .tup (.inl ⟨⟨o, ho, upd_same⟩, fun u => hU p u hp⟩) (r.pre (Pre.same (same_upd hp)))⟩, fun v r => ⟨fun _ _ e => e, r⟩⟩
    | _ => cases hd
  · obtain ⟨z, G', I', rz, hsm, hr⟩ := hw
    have I3 := inv_back I.ok I'
    have pS := I3.pin (S, oS) (by simp)
    have pI := I3.pin (it, oI) (by simp)
    have I4 : Inv X pins σ G' s' := I3.pins_of fun p hp => I3.pin p (by simp [hp])
    exact q w z G' s' I4 rz hsm hr ⟨pS.2.1, fS.2⟩ ⟨pI.2.1, fI.2⟩ pS.1 pI.1
theorem sum_loopX {A : Around} (hA : A.handled = none) (hfr : A.frames = X.A.frames) {U : Addr → Prop} (hU : ∀ a, U a → H a ≠ none) {a : Addr} {xs : List V} {ds : List PyData} (g : SqL X.K H a xs) (rs : RepAll X.K H U xs ds) {S it : Addr} (hSi : S ≠ it) (hai : a ≠ it) {R : Result → Shared → Prop} {dz : PyData}
    (hR : ∀ w z G' s', Inv X pins σ G' s' → RelV z w → Same H G' → Rep X.K G' U z dz → R (.ok (.ret w)) s') :
    ∀ (n i : Nat) (s : Shared) (G : Hp) (acc : PyData) (w : Value) (z : V) (c : Nat), xs.length = i + n → Inv X pins σ G s → Same H G → RelV z w → Rep X.K G U z acc → seqB acc = true → addsD acc (ds.drop i) = some dz →
    FpOk X pins G S → FpOk X pins G it → s.heap.IsListIter it a i → s.heap.get? S = some { cls := .type "list", dict := none, data := .seq #[w] c, slots := #[] } →
    codeAny (model X.prog X.w) A (.builtin "sum.loop" ⟨[.ref it, .ref S, rawInt 2, rawInt 0], []⟩) R s := by
  intro n
  induction n with
  | zero =>
    intro i s G acc w z c hn I sm rz ra hs hd fS fI hit hS
    obtain ⟨its, rv, p, _⟩ := I.list (show SqL X.K G a xs from g.elim (fun r => .inl (Same.rd sm r)) .inr)
    have W := Walks.list (prog := X.prog) (w := X.w) (A := A.in1) hA it a hai its.toArray
    refine codeAny_builtin PySem.F.entry_sum_loop ?_
    rw [Around.under_plainId PySem.F.plain_sum_loop _]
    show wpAny _ A.in1 (seqItems? (.ref S) >>= _) _ _ s
    refine wpAny_bind (wpAny_seqItems hS rfl ?_)
    show wpAny _ A.in1 (tryCatch (pyNext (.ref it)) _ >>= _) _ _ s
    have hi : i = its.toArray.size := by rw [List.size_toArray, ← rv.length]; omega
    refine wpAny_bind (wpAny_tryCatch (W.done s _ _ (by rw [← hi]; exact ⟨hit, p.isList⟩) fun h' tk hk => ?_))
    obtain ⟨t, rfl⟩ := rep_ref ra hs
    obtain rfl : w = .ref t := rz
    have hl : ds.drop i = [] := List.drop_eq_nil_iff.mpr (by rw [← rs.length]; omega)
    rw [hl] at hd
    cases hd
    have I1 : Inv X pins σ G { s with heap := h', toks := tk } := I.turnedL (t' := tk) (ch := [it]) hk fun b hb => by
      rw [List.mem_singleton.mp hb]; exact fI
    exact wpAny_pure (hR (.ref t) (.ref t) G _ I1 rfl sm ra)
  | succ n ih =>
    intro i s G acc w z c hn I sm rz ra hs hd fS fI hit hS
    obtain ⟨its, rv, p, _⟩ := I.list (show SqL X.K G a xs from g.elim (fun r => .inl (Same.rd sm r)) .inr)
    have W := Walks.list (prog := X.prog) (w := X.w) (A := A.in1) hA it a hai its.toArray
    refine codeAny_builtin PySem.F.entry_sum_loop ?_
    rw [Around.under_plainId PySem.F.plain_sum_loop _]
    show wpAny _ A.in1 (seqItems? (.ref S) >>= _) _ _ s
    refine wpAny_bind (wpAny_seqItems hS rfl ?_)
    show wpAny _ A.in1 (tryCatch (pyNext (.ref it)) _ >>= _) _ _ s
    have hi : i < its.toArray.size := by rw [List.size_toArray, ← rv.length]; omega
    refine wpAny_bind (wpAny_tryCatch (W.item i s _ _ hi ⟨hit, p.isList⟩ fun v h' tk hP st' hk => ?_))
    obtain ⟨hit', _⟩ := st'
    obtain ⟨t, rfl⟩ := rep_ref ra hs
    obtain rfl : w = .ref t := rz
    obtain ⟨y, ey, ry⟩ := vals_get' rv (show its[i]? = some v by simpa using hP)
    obtain ⟨e, ed, re⟩ := rs.get' ey
    have hdr : ds.drop i = e :: ds.drop (i + 1) := by
      have hl : i < ds.length := (List.getElem?_eq_some_iff.mp ed).1
      rw [List.drop_eq_getElem_cons hl]
      rw [List.getElem?_eq_getElem hl] at ed
      cases ed
      rfl
    rw [hdr] at hd
    simp only [addsD, hs, if_true] at hd
    obtain ⟨d, h1, h2⟩ : ∃ d, addD acc e = some d ∧ addsD d (ds.drop (i + 1)) = some dz := by
      cases hx : addD acc e with
      | none => rw [hx] at hd; cases hd
      | some d => rw [hx] at hd; exact ⟨d, rfl, hd⟩
    have I1 : Inv X pins σ G { s with heap := h', toks := tk } := I.turnedL (t' := tk) (ch := [it]) hk fun b hb => by
      rw [List.mem_singleton.mp hb]; exact fI
    have hS1 := hk S _ (by simpa using hSi) hS
    obtain ⟨oI, eI, _, dI⟩ := id hit'
    show wpAny _ A.in1 ((holding [v] (binaryOp .Add (.ref t) v)).attempt >>= _) _ _ _
    refine wpAny_bind (wpAny_attempt (wpAny_holding (sum_add (A := A.in1) hA hfr (fun b u => ?_) I1 (x := .ref t) (u := .ref t) rfl ry ra (re.pre (Pre.same sm)) h1 hs fS fI hS1 eI (fun v q => nomatch q) (fun v q => by rw [dI] at q; cases q) fun w' z' G' s' I' rz' sm' ra' fS' fI' eS' eI' => ?_)))
    · cases hb : H b with
      | none => exact (hU b u hb).elim
      | some o => rw [sm b o hb]; exact fun q => by cases q
    show wpAny _ A.in1 (updateSeq S (fun _ => #[w']) >>= _) _ _ _
    have hsd := add_seq h1 hs
    obtain ⟨t', rfl⟩ := rep_ref ra' hsd
    obtain rfl : w' = .ref t' := rz'
    refine wpAny_bind (wpAny_updateSeq eS' rfl ?_)
    have hS₂ := Heap.get?_update_self (Obj.mapSeq fun _ => #[Value.ref t']) eS' rfl
    refine wpAny_bind (wpAny_letGo ?_)
    have hS₃ := Heap.get?_update_self (Obj.mapSeq fun _ => #[Value.ref t']) hS₂ rfl
    have oth : ∀ b o, b ≠ S → s'.heap.get? b = some o → ((s'.heap.update S (Obj.mapSeq fun _ => #[Value.ref t'])).update S (Obj.mapSeq fun _ => #[Value.ref t'])).get? b = some o := fun b o hb q =>
      (Heap.get?_update_other _ _ (Ne.symm hb)).trans ((Heap.get?_update_other _ _ (Ne.symm hb)).trans q)
    have I2 : Inv X pins σ G' { s' with heap := (s'.heap.update S (Obj.mapSeq fun _ => #[Value.ref t'])).update S (Obj.mapSeq fun _ => #[Value.ref t']), toks := s'.toks } :=
      I'.turnedL (t' := s'.toks) (ch := [S]) (fun b o hb q => oth b o (by simpa using hb) q) fun b hb => by
        rw [List.mem_singleton.mp hb]; exact fS'
    refine wpAny_bind (wpAny_updateSeq hS₂ rfl (wpAny_pure ⟨plainId_quiet PySem.F.plain_sum_loop _, ?_⟩))
    have : oI.data = .fields #[.ref a, .int ((i + 1 : Nat) : Int) 0] := dI
    refine ih (i + 1) _ G' d (.ref t') (.ref t') _ (by omega) I2 (fun b o q => sm' b o (sm b o q)) rfl ra' hsd h2 fS' fI' ?_ hS₃
    exact ⟨oI, oth it oI (Ne.symm hSi) eI', by assumption, dI⟩
end
end Pf
namespace Pf
open PySem PySem.Spec L2 PyProof.Rows
section
variable {X : Cx}
theorem call_sumX (hcalm : X.calm = true) : CallR X (.builtin "sum") (fun xs H Q => ∃ (U : Addr → Prop) (ds : List PyData) (d : PyData), (∀ a, U a → H a ≠ none) ∧ RepAll X.K H U xs ds ∧ sumS ds = some d ∧ ∀ v G, Same H G → Rep X.K G U v d → Q v G) := by
  intro pins s σ H xs us Q I rv h
  obtain ⟨U, ds, d, hU, rs, e, q⟩ := h
  unfold sumS at e
  split at e
  · rename_i es sd
    split at e
    · rename_i hs
      cases rs with
      | cons r1 rs =>
      cases rs with
      | cons r2 rs =>
      cases rs
      obtain ⟨a, vs, rfl, h1, r1⟩ := r1.lst_inv
      obtain ⟨t, rfl⟩ := rep_ref r2 hs
      obtain ⟨u1, u2, rfl, ru1, ru2⟩ := vals2 rv
      obtain rfl : u1 = .ref a := ru1
      obtain rfl : u2 = .ref t := ru2
      obtain ⟨its, rvs, p, _⟩ := I.list h1.sq
      have ty : ∃ T : String, s.TypeIs (.ref t) T ∧ isSubtype (.type T) (.type "str") = pure false ∧ isSubtype (.type T) (.type "bytes") = pure false ∧ isSubtype (.type T) (.type "bytearray") = pure false := by
        cases sd with
        | list xs =>
          obtain ⟨b, ys, eb, h2, _⟩ := r2.lst_inv
          cases eb
          obtain ⟨its2, _, p2, _⟩ := I.list h2.sq
          exact ⟨"list", p2.isList.typeIs, sub_list_str, sub_list_bytes, sub_list_bytearray⟩
        | tuple xs =>
          obtain ⟨b, ys, eb, h2, _⟩ := r2.tup_inv
          cases eb
          obtain ⟨its2, _, p2, _⟩ := I.tuple h2.sq
          exact ⟨"tuple", p2.typeIs, sub_tuple_str, sub_tuple_bytes, sub_tuple_bytearray⟩
        | _ => cases hs
      obtain ⟨T, hT, n1, n2, n3⟩ := ty
      refine call_function_tree PySem.F.kind_sum PySem.F.plain_sum PySem.F.entry_sum (args_sum2 _ _) ?_
      unfold Builtin.«sum»
      simp only [List.length_cons, List.length_nil]
      rw [if_neg (by decide)]
      refine wpAny_bind (wpAny_of_eq (show Builtin.Builtins.bindParams "sum" ["start"] 0 ⟨[.ref t], []⟩ = pure [some (.ref t)] from rfl) ?_)
      refine wpAny_bind (wpAny_pyIter_list p.isList ?_)
      generalize hoI : ({ cls := .type "list_iterator", data := .fields #[.ref a, .int 0 0] } : Obj) = oI
      have hT1 : ({ s with heap := s.heap.push oI } : Shared).TypeIs (.ref t) T := by
        obtain ⟨o, ho, hc⟩ := hT
        exact ⟨o, Heap.get?_push_of_some _ ho, hc⟩
      refine wpAny_bind (wpAny_pure ?_)
      simp only [List.forIn_cons, List.forIn_nil]
      refine wpAny_bind (wpAny_bind (wpAny_bind (wpAny_isInstance (T := T) (b := false) hT1 n1 ?_)))
      simp only [Bool.false_eq_true, if_false]
      refine wpAny_pure (wpAny_bind (wpAny_bind (wpAny_isInstance (T := T) (b := false) hT1 n2 ?_)))
      simp only [Bool.false_eq_true, if_false]
      refine wpAny_pure (wpAny_bind (wpAny_bind (wpAny_isInstance (T := T) (b := false) hT1 n3 ?_)))
      simp only [Bool.false_eq_true, if_false]
      refine wpAny_pure (wpAny_pure ?_)
      refine wpAny_bind (wpAny_newObj_type ?_)
      have z1 : (s.heap.push oI).objs.size = s.heap.objs.size + 1 := Heap.size_push ..
      have eI : (s.heap.push oI).get? s.heap.objs.size = some oI := Heap.get?_push_size _ (by rw [← hoI]; rfl)
      have I2 : Inv X pins σ H { s with heap := (s.heap.push oI).push { cls := .type "list", data := .seq #[.ref t] } } := I.kept (t' := s.toks) fun b u e => Heap.get?_push_of_some _ (Heap.get?_push_of_some _ e)
      have hn : s.heap.objs.size ≤ (s.heap.push oI).objs.size := by rw [z1]; exact Nat.le_succ _
      have alt : a ≠ s.heap.objs.size := Nat.ne_of_lt p.lt
      refine wpAny_pure ⟨plainId_quiet PySem.F.plain_sum_loop _, ?_⟩
      refine sum_loopX (A := _) (hA := I.ok.hd hcalm) rfl hU h1.sq r1 (S := (s.heap.push oI).objs.size) (it := s.heap.objs.size) (by rw [z1]; exact Nat.succ_ne_self _) alt (dz := d) (fun w z G' s' I' rz sm r => ?_) vs.length 0 _ H sd (.ref t) (.ref t) 0 (by omega) I2 (fun _ _ e => e) rfl r2 hs (by simpa using e)
        (I.fpOk hn (I.hok.fresh hn)) (I.fpOk (Nat.le_refl _) (I.hok.fresh (Nat.le_refl _))) ?_ (Heap.get?_push_size _ rfl)
      · exact ⟨z, G', I', rz, q z G' sm r⟩
      · exact ⟨oI, Heap.get?_push_of_some _ eI, by rw [← hoI], by rw [← hoI]; rfl⟩
    · cases e
  · cases e
end
end Pf


namespace Pf
open PySem PySem.Spec L2

theorem OAs.later {K : PySem.W.Frag} {P : List Bs} {Z : Addr → Prop} {ρ : En} {σ : St} {H : Hp} {ρ2 : En} {H2 : Hp} (x : Stt K (⟨H, OwnA ρ σ⟩ :: P) Z ρ2 σ H2) (sub : Shr ρ ρ2) : ∀ {os : List Opn} {vs : List V}, OAs K H ρ σ Z os vs → OAs K H2 ρ2 σ Z os vs
  | _, _, .nil => .nil
  | _, _, .cons h r => .cons (h.later x sub) (OAs.later x sub r)
theorem valEs_length {C : Ctx} {F : Fns} {B : Bk} : ∀ {es : List Expr} {ρ : En} {r : List PyData × En}, valEs C F B es ρ = some r → r.1.length = es.length
  | [], ρ, r, h => by
    simp only [valEs] at h
    cases h
    rfl
  | e :: es, ρ, r, h => by
    simp only [valEs] at h
    obtain ⟨_, h⟩ := ite_some' h
    obtain ⟨r1, h1, h⟩ := bind_some h
    obtain ⟨q, h2, h⟩ := bind_some h
    cases h
    simp [valEs_length h2]
section
variable {X : Cx} {C : Ctx} {B : Bk} {k : Nat} {F : Fns}
theorem pa_args (S : SoO X C F B) : ∀ (es : List Expr) (io : List Bool), PA X es (tOs X.K (argEs C F B io es))
  | [], io => by
    refine pa_nil.imp fun σ H Q h => ?_
    obtain ⟨P, Z, ρ, r, x, e, q⟩ := h
    have : r = ([], ρ) := by
      cases io with
      | nil => simp only [argEs] at e; cases e; rfl
      | cons b io => cases b <;> (simp only [argEs] at e; cases e; rfl)
    subst this
    exact q [] H x .nil (.refl ρ)
  | e :: es, [] => ⟨fun pos pins s σ H Q I h => by
    obtain ⟨P, Z, ρ, r, x, e1, q⟩ := h
    simp [argEs] at e1⟩
  | e :: es, true :: io => by
    by_cases hs : star e = true
    · refine ⟨fun pos pins s σ H Q I h => ?_⟩
      obtain ⟨P, Z, ρ, r, x, e1, q⟩ := h
      simp only [argEs, hs, if_true] at e1
      cases e1
    · have hs : star e = false := by simpa using hs
      refine (pa_cons (S.o e) (pa_args S es io) (star_no hs)).imp fun σ H Q h => ?_
      obtain ⟨P, Z, ρ, r, x, e1, q⟩ := h
      simp only [argEs, hs] at e1
      obtain ⟨r0, e0, e2⟩ := bind_some (by simpa using e1)
      split at e2
      · rename_i i hi
        obtain ⟨q0, e3, e4⟩ := bind_some e2
        cases e4
        refine ⟨P, Z, ρ, r0, x, e0, fun v H1 v1 sh => ?_⟩
        obtain ⟨s1, r1⟩ := v1.stt
        rw [hi] at r1
        refine ⟨_, Z, r0.2.2, q0, s1.push, e3, fun vs H2 s2 rs sh2 => ?_⟩
        exact q (v :: vs) H2 s2.pop (.cons r1 rs) (sh.trans sh2)
      · cases e2
  | e :: es, false :: io => by
    by_cases hs : star e = true
    · refine ⟨fun pos pins s σ H Q I h => ?_⟩
      obtain ⟨P, Z, ρ, r, x, e1, q⟩ := h
      simp only [argEs, hs, if_true] at e1
      cases e1
    · have hs : star e = false := by simpa using hs
      refine (pa_cons (S.v e) (pa_args S es io) (star_no hs)).imp fun σ H Q h => ?_
      obtain ⟨P, Z, ρ, r, x, e1, q⟩ := h
      simp only [argEs, hs] at e1
      obtain ⟨r0, e0, e2⟩ := bind_some (by simpa using e1)
      obtain ⟨q0, e3, e4⟩ := bind_some e2
      cases e4
      refine ⟨P, Z, ρ, r0, x, e0, fun v H1 v1 sh => ?_⟩
      obtain ⟨s1, r1⟩ := v1.share
      refine ⟨_, Z, r0.2.2, q0, s1.push, e3, fun vs H2 s2 rs sh2 => ?_⟩
      exact q (v :: vs) H2 s2.pop (.cons (Pf.later r1 s2 sh2) rs) (sh.trans sh2)
theorem pk_vals (S : SoO X C F B) : ∀ kws : List Keyword, PK X kws (tVs X.K (valEs C F B (kws.map (·.value))))
  | [] => ⟨fun pos pins s σ H Q I h => by
    obtain ⟨P, Z, ρ, r, x, e, q⟩ := h
    cases e
    exact pk_nil.run pos pins s σ H Q I (q [] H x .nil (.refl ρ))⟩
  | ⟨nm, e, kpos⟩ :: kws => by
    have p := pk_cons (nm := nm) (kpos := kpos) (S.v e) (pk_vals S kws)
    refine ⟨fun pos pins s σ H Q I h => p.run pos pins s σ H Q I ?_⟩
    obtain ⟨P, Z, ρ, r, x, e1, q⟩ := h
    simp only [List.map_cons, valEs] at e1
    obtain ⟨_, e1⟩ := ite_some' e1
    obtain ⟨r0, e0, e2⟩ := bind_some e1
    obtain ⟨q0, e3, e4⟩ := bind_some e2
    cases e4
    refine ⟨P, Z, ρ, r0, x, e0, fun v H1 v1 sh => ?_⟩
    obtain ⟨s1, r1⟩ := v1.share
    refine ⟨_, Z, r0.2.2, q0, s1.push, e3, fun vs H2 s2 rs sh2 => ?_⟩
    exact q (v :: vs) H2 s2.pop (.cons (Pf.later r1 s2 sh2) rs) (sh.trans sh2)
theorem kw_ok {env : Env} {pos : Pos} : ∀ {kws : List Keyword} {ks : List Str}, kwNames kws = some ks → (backToKw pos (keywordEach kws env)).all (·.1.isSome) = true ∧ (backToKw pos (keywordEach kws env)).filterMap (·.1) = ks ∧ (backToKw pos (keywordEach kws env)).any (·.1.isNone) = false ∧ ks.length = kws.length
  | [], ks, h => by
    simp only [kwNames] at h
    cases h
    exact ⟨rfl, rfl, rfl, rfl⟩
  | ⟨none, e, p⟩ :: r, ks, h => by cases h
  | ⟨some x, e, p⟩ :: r, ks, h => by
    simp only [kwNames] at h
    obtain ⟨ks', h1, h2⟩ := map_some h
    subst h2
    obtain ⟨a, b, c, d⟩ := kw_ok (env := env) (pos := pos) h1
    have e : backToKw pos (keywordEach (⟨some x, e, p⟩ :: r) env) = (some x, do let v ← eval e env; standAt pos; pure v) :: backToKw pos (keywordEach r env) := rfl
    rw [e]
    refine ⟨by simp only [List.all_cons, a]; rfl, by simp only [List.filterMap_cons, b], by simp only [List.any_cons, c]; rfl, by simp [d]⟩
theorem st_callU (T : Fits X C B k) (S : SoO X C F B) {e : FE} (he : e ∈ C.T) (f : Str) (hf : f = e.name) (args : List Expr) (kws : List Keyword) (p1 p : Pos) (hg : glB B.sc f = true) : PE X (.Call (.Name f p1) args kws p) (tO X.K (callU C F B e args kws)) := by
  refine ⟨fun pins s σ H Q I h => ?_⟩
  obtain ⟨P, Z, ρ, r, x, e1, q⟩ := h
  obtain ⟨ks, a1, e1⟩ := bind_some e1
  obtain ⟨pt, a2, e1⟩ := bind_some e1
  obtain ⟨cs, e1⟩ := ite_some e1
  obtain ⟨q1, a3, e1⟩ := bind_some e1
  obtain ⟨z, a4, e1⟩ := bind_some e1
  obtain ⟨us, a5, e1⟩ := bind_some e1
  obtain ⟨full, a6, e1⟩ := bind_some e1
  obtain ⟨cc, e1⟩ := ite_some e1
  obtain ⟨res, a7, e1⟩ := bind_some e1
  split at e1
  case isFalse => cases e1
  rename_i a8
  cases e1
  unfold ownAll at cc
  simp only [Bool.and_eq_true, decide_eq_true_eq, List.all_eq_true] at cs cc
  obtain ⟨⟨⟨⟨c2, c3⟩, c4⟩, c5⟩, c6⟩ := cs
  obtain ⟨c1, c7⟩ := cc
  obtain ⟨fa, fd, dvs, dus, Fk, hm, hk, vd, hd, hdl, hp⟩ := (T.tab e he).ex
  have hpt : pt ∈ e.pats ∧ pt.n = args.length ∧ pt.ks = ks := by
    have m := List.mem_of_find?_eq_some a2
    have := List.find?_some a2
    simp only [Bool.and_eq_true, beq_iff_eq] at this
    exact ⟨m, this.1, this.2⟩
  obtain ⟨pm, pn, pks⟩ := hpt
  have hn := glB_gl hg
  obtain ⟨hall, hks, hnone, hkl⟩ := kw_ok (env := X.env) (pos := p) a1
  have hst := argEs_star a3
  have fin : ∀ (us' : List Value) (ws : List Value) (vs zs : List V) (H2 : Hp) (s2 : Shared), Inv X pins σ H2 s2 → Vals vs us' → Vals zs ws → Stt X.K P Z z.2 σ H2 → OAs X.K H2 z.2 σ Z q1.1 vs → RepAll X.K H2 (UU z.2 σ Z) zs z.1 → Shr ρ z.2 →
      wpAny (model X.prog X.w) X.A (call (.ref fa) us' (ks.zip ws)) (EP X pins σ Q) X.xe s2 := fun us' ws vs zs H2 s2 I2 ru rw' x2 os rz sh => by
    obtain ⟨l1, g1⟩ := os.get
    obtain ⟨l2, g2⟩ := rdOs_get a5
    obtain ⟨l3, g3, g4⟩ := argEs_io a3
    obtain ⟨l4, g5⟩ := arr_get a6
    obtain ⟨fullU, b1, b2⟩ := hp pt pm s2 us' ws I2.kIn (by rw [pn, ← ru.length, l1, l3]) (by rw [c5, ← rw'.length, rz.length, valEs_length a4]; simp)
    obtain ⟨fv, b3⟩ := arr_len (us' := vs) (ws' := zs) (ds' := dvs) (by rw [l1, l2]) (by rw [rz.length]) (by rw [hdl]) a6
    obtain ⟨l5, g6⟩ := arr_get b3
    have rv : Vals fv fullU := arr_vals ru rw' vd b3 b1
    have L : Link e.io q1.1 full fv z.2 σ := by
      have pos : ∀ i : Nat, e.io[i]? = some true → i < args.length := fun i h => by
        rcases Nat.lt_or_ge i args.length with g | g
        · exact g
        · have : (e.io.drop args.length)[i - args.length]? = some true := by rw [List.getElem?_drop, ← h]; congr 1; omega
          have := c6 true (List.mem_of_getElem? this)
          cases this
      have place : ∀ i : Nat, i < args.length → i < e.io.length → pt.src[i]? = some (.pos i) := fun i h1 h2 => by
        have hl : i < pt.src.length := by rw [c3, ← c4]; exact h2
        have := posFirst_get (i := i) c2 (List.getElem?_eq_getElem hl) (by omega)
        rw [List.getElem?_eq_getElem hl, this]
        simp
      have slot : ∀ i t : Nat, q1.1[i]? = some (.slot t) → e.io[i]? = some true ∧ (∃ v, fv[i]? = some v ∧ σ[t]? = some (some v)) ∧ ∃ d, full[i]? = some d ∧ z.2[t]? = some (some (true, d)) := fun i t h => by
        have hio := g3 i t h
        have hl := pos i hio
        have hsrc := place i hl (List.getElem?_eq_some_iff.mp hio).1
        obtain ⟨d, d1, d2⟩ := g2 i _ h
        obtain ⟨v, v1, v2⟩ := g1 i _ h
        obtain ⟨d', d3, d4⟩ := g5 i _ hsrc
        obtain ⟨v', v3, v4⟩ := g6 i _ hsrc
        simp only [pickS] at d4 v4
        rw [d1] at d4
        cases d4
        rw [v1] at v4
        cases v4
        refine ⟨hio, ⟨v, v3, v2⟩, d, d3, ?_⟩
        have := c7 _ (List.mem_of_getElem? h)
        simp only [rdO] at d2
        dsimp only at this
        split at d2
        · rename_i b' d'' hz
          cases d2
          rw [hz] at this ⊢
          cases b' with
          | true => rfl
          | false => cases this
        · cases d2
      refine ⟨c1, fun i d h1 h2 => ?_, slot⟩
      obtain ⟨t, ht⟩ := g4 i (pos i h1) h1
      obtain ⟨_, _, d', h3, h4⟩ := slot i t ht
      rw [h2] at h3
      cases h3
      exact ⟨t, ht, h4⟩
    have lf : full.length = e.io.length := by rw [l4, c3, c4]
    have lv : fv.length = full.length := by rw [l5, l4]
    have hv : ∀ (i : Nat) (d : PyData), e.io[i]? = some false → full[i]? = some d → ∃ v, fv[i]? = some v ∧ Rep X.K H2 (UU z.2 σ Z) v d := fun i d h1 h2 => by
      have hl : i < pt.src.length := by rw [← l4]; exact (List.getElem?_eq_some_iff.mp h2).1
      obtain ⟨d', d3, d4⟩ := g5 i _ (List.getElem?_eq_getElem hl)
      obtain ⟨v', v3, v4⟩ := g6 i _ (List.getElem?_eq_getElem hl)
      rw [h2] at d3
      cases d3
      refine ⟨v', v3, ?_⟩
      rcases hs : pt.src[i] with j | j | j
      · rw [hs] at d4 v4
        have d4 : us[j]? = some d := d4
        have v4 : vs[j]? = some v' := v4
        have hj : j = i := by
          have hjl : j < q1.1.length := by rw [← l2]; exact (List.getElem?_eq_some_iff.mp d4).1
          have key : ∀ {src : List Src} {n a i : Nat} {j : Nat}, posFirst n a src = true → src[i]? = some (.pos j) → j = a + i := by
            intro src
            induction src with
            | nil => intro n a i j _ h; simp at h
            | cons s0 r ih =>
              intro n a i j h1 h2
              cases i with
              | zero =>
                simp at h2
                subst h2
                simp only [posFirst, Bool.and_eq_true, decide_eq_true_eq] at h1
                omega
              | succ i =>
                have hr : posFirst n (a + 1) r = true := by
                  cases s0 <;> (simp only [posFirst, Bool.and_eq_true, decide_eq_true_eq] at h1; exact h1.2)
                have := ih hr (by simpa using h2 : r[i]? = some (.pos j))
                omega
          have := key c2 (show pt.src[i]? = some (.pos j) by rw [List.getElem?_eq_getElem hl, hs])
          omega
        subst hj
        have hjl : j < q1.1.length := by rw [← l2]; exact (List.getElem?_eq_some_iff.mp d4).1
        obtain ⟨d5, d6, d7⟩ := g2 j _ (List.getElem?_eq_getElem hjl)
        obtain ⟨v5, v6, v7⟩ := g1 j _ (List.getElem?_eq_getElem hjl)
        rw [d4] at d6
        cases d6
        rw [v4] at v6
        cases v6
        rcases ho : q1.1[j] with t | d8
        · have := g3 j t (by rw [List.getElem?_eq_getElem hjl, ho])
          rw [h1] at this
          cases this
        · rw [ho] at d7 v7
          cases d7
          exact v7
      · rw [hs] at d4 v4
        obtain ⟨w, w1, w2⟩ := rz.get (show z.1[j]? = some d from d4)
        rw [show zs[j]? = some v' from v4] at w1
        cases w1
        exact w2
      · rw [hs] at d4 v4
        obtain ⟨w, w1, w2⟩ := hd j d d4
        rw [show dvs[j]? = some v' from v4] at w1
        cases w1
        exact w2 _ _
    rw [pks] at b2
    refine run_fk Fk T.room T.grd I2 b2 rv (E := fun _ _ _ => False) ⟨Zc e.io full fv z.2 σ Z, full, res.1, res.2.1, res.2.2, L.start x2 lf lv hv, lf, a7, a8, fun v H3 vl => ?_⟩
    exact q v H3 (L.back_val x2 a8 vl) (sh.trans (L.shr a8))
  refine wpAny_Call_Name_kw (ld_glob I (T.gl hg) (by rw [hf]; exact hm) ?_ hn.2.1)
  cases args with
  | nil =>
    refine PySem.W.callWith_KW0 (h₀ := X.base) I.ok.mod.kin hk hall ?_ (by rw [hnone]; rfl)
    have hq1 : q1 = ([], ρ) := by
      cases hio : e.io with
      | nil => rw [hio] at a3; simp only [argEs] at a3; cases a3; rfl
      | cons b io => rw [hio] at a3; cases b <;> (simp only [argEs] at a3; cases a3; rfl)
    subst hq1
    refine thn ((pk_vals S kws).run p pins s σ H (fun zs H2 => Stt X.K P Z z.2 σ H2 ∧ RepAll X.K H2 (UU z.2 σ Z) zs z.1 ∧ Shr ρ z.2) I ⟨P, Z, ρ, z, x, a4, fun vs H2 s2 rs sh2 => ⟨s2, rs, sh2⟩⟩) fun ws s2 ⟨zs, H2, I2, rw', x2, rz, sh⟩ => ⟨I2.kIn, ?_⟩
    rw [hks]
    exact fin [] ws [] zs H2 s2 I2 .nil rw' x2 .nil rz sh
  | cons a args =>
    refine PySem.W.callWith_KW (h₀ := X.base) I.ok.mod.kin hk hall ?_ (by rw [hnone, plain_args hst]; rfl) (star_no (hst a List.mem_cons_self))
    refine thn ((pa_args S (a :: args) e.io).run p pins s σ H (fun vs H1 => Stt X.K P Z q1.2 σ H1 ∧ OAs X.K H1 q1.2 σ Z q1.1 vs ∧ Shr ρ q1.2) I ⟨P, Z, ρ, q1, x, a3, fun vs H2 s2 rs sh2 => ⟨s2, rs, sh2⟩⟩) fun us1 s1 ⟨vs, H1, I1, ru, x1, os, sh1⟩ => ?_
    refine thn ((pk_vals S kws).run p pins s1 σ H1 (fun zs H2 => Stt X.K (⟨H1, OwnA q1.2 σ⟩ :: P) Z z.2 σ H2 ∧ RepAll X.K H2 (UU z.2 σ Z) zs z.1 ∧ Shr q1.2 z.2) I1 ⟨_, Z, q1.2, z, x1.push, a4, fun vs H2 s2 rs sh2 => ⟨s2, rs, sh2⟩⟩) fun ws s2 ⟨zs, H2, I2, rw', x2, rz, sh⟩ => ⟨I2.kIn, ?_⟩
    rw [hks]
    exact fin us1 ws vs zs H2 s2 I2 ru rw' x2.pop (os.later x2 sh) rz (sh1.trans sh)
/-! ### list(zip(a, b)), list(range(..)) -/
theorem sk_of {K : PySem.W.Frag} {H : Hp} {U : Addr → Prop} {v : V} {d : PyData} {ds : List PyData} (r : Rep K H U v d) (e : itemsD d = some ds) : ∃ (k : Sk) (vs : List V), v = k.v ∧ k.has K H vs ∧ RepAll K H U vs ds := by
  cases d with
  | list xs =>
    cases e
    obtain ⟨a, vs, rfl, h, r⟩ := r.lst_inv
    exact ⟨.l a, vs, rfl, h.sq, r⟩
  | tuple xs =>
    cases e
    obtain ⟨a, vs, rfl, h, r⟩ := r.tup_inv
    exact ⟨.t a, vs, rfl, h.sq, r⟩
  | str z =>
    cases e
    obtain rfl := r.str_inv
    refine ⟨.x z, signsV z, rfl, rfl, ?_⟩
    unfold signsV charsD
    induction z.cps.toList with
    | nil => exact .nil
    | cons c cs ih => exact .cons (.str _) ih
  | _ => cases e
theorem repAll_of {K : PySem.W.Frag} {H : Hp} {U : Addr → Prop} : ∀ {vs : List V} {ds : List PyData}, vs.length = ds.length → (∀ (j : Nat) (v : V), vs[j]? = some v → ∃ d, ds[j]? = some d ∧ Rep K H U v d) → RepAll K H U vs ds
  | [], [], _, _ => .nil
  | v :: vs, d :: ds, hl, h => by
    obtain ⟨d', e, r⟩ := h 0 v rfl
    cases (Option.some.inj e : d = d')
    exact .cons r (repAll_of (by simpa using hl) fun j w e => by simpa using h (j + 1) w (by simpa using e))
  | [], _ :: _, hl, _ => by simp at hl
  | _ :: _, [], hl, _ => by simp at hl
theorem zip_get {xs ys : List PyData} {j : Nat} {x y : PyData} (h1 : xs[j]? = some x) (h2 : ys[j]? = some y) : ((xs.zip ys).map pairD)[j]? = some (.tuple [x, y]) := by
  have e : (xs.zip ys)[j]? = some (x, y) := List.getElem?_zip_eq_some.mpr ⟨h1, h2⟩
  rw [List.getElem?_map, e]
  rfl
theorem tup_new {K : PySem.W.Frag} {P : List Bs} {Z : Addr → Prop} {ρ : En} {σ : St} {H G : Hp} (s : Stt K P Z ρ σ H) {T : Addr} {o : Obj} {vs : List V} {ds : List PyData} (hT : H T = none) (hd : o.dict = none) (e : G T = some (tupH o vs)) (r : RepAll K G (UU ρ σ Z) vs ds) : Rep K G (UU ρ σ Z) (.ref T) (.tuple ds) :=
  .tup (.inl ⟨⟨o, hd, e⟩, fun u => (u.hard s).1 hT⟩) r
theorem pi_two {es : List Expr} {C : Ctx} {F : Fns} {B : Bk} {ρ : En} {q : List PyData × En} {xs : List PyData} (e : valEs C F B es ρ = some q) (h : zeD true q.1 = some xs) : ∃ a b, es = [a, b] ∧ ∃ x y xa ya, q.1 = [x, y] ∧ itemsD x = some xa ∧ itemsD y = some ya ∧ xs = (xa.zip ya).map pairD := by
  have l := valEs_length e
  rcases hq : q.1 with _ | ⟨x, _ | ⟨y, _ | ⟨w, ws⟩⟩⟩
  · rw [hq] at h; cases h
  · rw [hq] at h; cases h
  · rw [hq] at h l
    simp only [zeD] at h
    obtain ⟨xa, h1, h⟩ := bind_some h
    obtain ⟨ya, h2, h⟩ := bind_some h
    cases h
    match es, l with
    | [a, b], _ => exact ⟨a, b, rfl, x, y, xa, ya, rfl, h1, h2, rfl⟩
  · rw [hq] at h; cases h
theorem two_star {a b : Expr} {env : Env} {pos : Pos} (h : ∀ e ∈ [a, b], star e = false) : starEach [a, b] env = (false, eval a env) :: starEach [b] env ∧ (backTo pos (starEach [b] env)).any (·.1) = false :=
  ⟨star_no (h a List.mem_cons_self), plain_args fun e he => h e (List.mem_cons_of_mem _ he)⟩
theorem st_lz (T : Fits X C B k) (S : SoO X C F B) (as : List Expr) (p p2 pos pos2 : Pos) (hl : glB B.sc "list" = true) (hz : glB B.sc "zip" = true) :
    PE X (.Call (.Name "list" p) [.Call (.Name "zip" p2) as [] pos2] [] pos) (tO X.K (nestE C F B (0, as))) := by
  have no : (∀ ρ r, nestE C F B (0, as) ρ = some r → False) → PE X (.Call (.Name "list" p) [.Call (.Name "zip" p2) as [] pos2] [] pos) (tO X.K (nestE C F B (0, as))) := fun h => .no fun σ H Q z => by
    obtain ⟨P, Z, ρ, r, x, e, q⟩ := z
    exact h ρ r e
  have shape : ∀ {ρ r}, nestE C F B (0, as) ρ = some r → ∃ q xs, valEs C F B as ρ = some q ∧ zeD true q.1 = some xs ∧ xs.length ≤ sizeLine ∧ r = (.val (.list xs), true, q.2) := fun {ρ r} e => by
    simp only [nestE] at e
    obtain ⟨q, e1, e⟩ := bind_some e
    obtain ⟨xs, e2, e⟩ := bind_some e
    obtain ⟨e3, e⟩ := ite_some e
    cases e
    exact ⟨q, xs, e1, e2, of_decide_eq_true e3, rfl⟩
  by_cases h2 : ∃ a b, as = [a, b]
  · obtain ⟨a, b, rfl⟩ := h2
    rcases all_star [a, b] with hs | ⟨e', m1, m2⟩
    · refine (pe_list_zip (T.gl hl) T.btx.2.2.2.2.2.2 (T.gl hz) (T.btz "zip" (by decide)) T.calm (pa_vals S [a, b]) (two_star (pos := pos2) hs).1 (two_star hs).2).imp fun σ H Q z => ?_
      obtain ⟨P, Z, ρ, r, x, e, q⟩ := z
      obtain ⟨q0, xs, e1, e2, e3, rfl⟩ := shape e
      refine ⟨P, Z, ρ, q0, x, e1, fun vs H1 s1 rs sh => ?_⟩
      obtain ⟨_, _, _, dx, dy, xa, ya, hq, i1, i2, rfl⟩ := pi_two e1 e2
      rw [hq] at rs
      cases rs with
      | cons r1 rs =>
      cases rs with
      | cons r2 rs =>
      cases rs
      obtain ⟨k1, us, rfl, g1, ra⟩ := sk_of r1 i1
      obtain ⟨k2, ws, rfl, g2, rb⟩ := sk_of r2 i2
      have hmin : min us.length ws.length = ((xa.zip ya).map pairD).length := by rw [ra.length, rb.length]; simp
      refine ⟨k1, k2, us, ws, rfl, g1, g2, by rw [hmin]; exact e3, fun G zs pp pr hlz hp hG => ?_⟩
      refine q (.ref pp) _ (Val.newLst (s1.grow pr.1) hG (repAll_of (by rw [hlz, hmin]) fun j v ev => ?_)) sh
      obtain ⟨T', o, y1, y2, rfl, f1, f2, f3, f4, f5⟩ := pr.2 j v ev
      obtain ⟨d1, g1', g2'⟩ := ra.get' f4
      obtain ⟨d2, g3', g4'⟩ := rb.get' f5
      exact ⟨_, zip_get g1' g3', tup_new s1 f1 f2 f3 (.cons (g2'.pre (Pre.same pr.1)) (.cons (g4'.pre (Pre.same pr.1)) .nil))⟩
    · refine no fun ρ r e => ?_
      obtain ⟨q0, xs, e1, _⟩ := shape e
      have := valEs_star e1 e' m1
      rw [m2] at this
      cases this
  · refine no fun ρ r e => ?_
    obtain ⟨q0, xs, e1, e2, _⟩ := shape e
    obtain ⟨a, b, h, _⟩ := pi_two e1 e2
    exact h2 ⟨a, b, h⟩
theorem smallI_ok {i : Int} (h : smallI i = true) : -(2 ^ 62) ≤ i ∧ i < 2 ^ 62 := by
  have h : i.natAbs < 2 ^ 62 := of_decide_eq_true h
  omega
theorem rg_rep {K : PySem.W.Frag} {H : Hp} {U : Addr → Prop} : ∀ (n : Nat) (lo : Int), RepAll K H U ((List.range n).map fun i => V.int (lo + (i : Nat))) (intsFrom lo n)
  | 0, _ => .nil
  | n + 1, lo => by
    have ih := rg_rep (K := K) (H := H) (U := U) n (lo + 1)
    rw [List.range_succ_eq_map, List.map_cons, List.map_map]
    show RepAll K H U _ (.int lo :: intsFrom (lo + 1) n)
    refine .cons (by simpa using Rep.int (K := K) (H := H) (U := U) lo) ?_
    have : (fun i => V.int (lo + (i : Nat))) ∘ Nat.succ = fun i : Nat => V.int (lo + 1 + (i : Nat)) := by
      funext i
      simp only [Function.comp, Nat.succ_eq_add_one]
      congr 1
      push_cast
      omega
    rw [this]
    exact ih
theorem st_lr (T : Fits X C B k) (S : SoO X C F B) (as : List Expr) (p p2 pos pos2 : Pos) (hl : glB B.sc "list" = true) (hz : glB B.sc "range" = true) :
    PE X (.Call (.Name "list" p) [.Call (.Name "range" p2) as [] pos2] [] pos) (tO X.K (nestE C F B (1, as))) := by
  have no : (∀ ρ r, nestE C F B (1, as) ρ = some r → False) → PE X (.Call (.Name "list" p) [.Call (.Name "range" p2) as [] pos2] [] pos) (tO X.K (nestE C F B (1, as))) := fun h => .no fun σ H Q z => by
    obtain ⟨P, Z, ρ, r, x, e, q⟩ := z
    exact h ρ r e
  have shape : ∀ {ρ r}, nestE C F B (1, as) ρ = some r → ∃ q ds xs, opnEs F B as ρ = some q ∧ rdOs q.2 q.1 = some ds ∧ rangeD ds = some xs ∧ xs.length ≤ sizeLine ∧ r = (.val (.list xs), true, q.2) := fun {ρ r} e => by
    simp only [nestE] at e
    obtain ⟨q, e1, e⟩ := bind_some e
    obtain ⟨ds, e2, e⟩ := bind_some e
    obtain ⟨xs, e3, e⟩ := bind_some e
    obtain ⟨e4, e⟩ := ite_some e
    cases e
    exact ⟨q, ds, xs, e1, e2, e3, of_decide_eq_true e4, rfl⟩
  have fin : ∀ {P : List Bs} {Z : Addr → Prop} {ρ : En} {σ : St} {H : Hp} {Q : VK} {lo hi : Int}, Stt X.K P Z ρ σ H → smallI lo = true → smallI hi = true → (intsFrom lo (hi - lo).toNat).length ≤ sizeLine → (∀ v H', Val X.K P Z ρ σ true v (.list (intsFrom lo (hi - lo).toNat)) H' → Q v H') →
      RgOk lo hi ∧ ∀ q, H q = none → Q (.ref q) (upd H q (.lst (rgV lo hi))) := fun {P Z ρ σ H Q lo hi} s h1 h2 h3 h => by
    have il : ∀ n lo, (intsFrom lo n).length = n := by
      intro n
      induction n with
      | zero => intro lo; rfl
      | succ n ih => intro lo; simp [intsFrom, ih]
    rw [il, show sizeLine = 16777216 from rfl] at h3
    obtain ⟨a1, a2⟩ := smallI_ok h1
    obtain ⟨b1, b2⟩ := smallI_ok h2
    exact ⟨⟨a1, a2, b1, b2, by omega⟩, fun q hq => h _ _ (Val.newLst s hq (rg_rep _ _))⟩
  match as with
  | [a] =>
    rcases all_star [a] with hs | ⟨e', m1, m2⟩
    · refine (pe_listRg T.calm (T.gl hl) T.btx.2.2.2.2.2.2 (prg_1 (T.gl hz) T.btx.1 (S.o a) (star_no (hs a List.mem_cons_self))) rfl).imp fun σ H Q z => ?_
      obtain ⟨P, Z, ρ, r, x, e, q⟩ := z
      obtain ⟨q0, ds, xs, e1, e2, e3, e4, rfl⟩ := shape e
      simp only [opnEs, hs a List.mem_cons_self] at e1
      obtain ⟨r0, e0, e1⟩ := bind_some (by simpa using e1)
      cases e1
      refine ⟨P, Z, ρ, r0, x, e0, fun v H1 ov sh => ?_⟩
      obtain ⟨s1, oa⟩ := ov.stt
      have od := (OAs.cons oa .nil).opd s1 e2
      unfold rangeD at e3
      split at e3
      · obtain ⟨c1, e3⟩ := ite_some e3
        cases e3
        rename_i j
        have : v = .int j := by
          cases od with
          | cons o _ => exact o.int_inv
        refine ⟨j, this, ?_⟩
        rw [← Int.sub_zero j] at e4
        have := fin (lo := 0) (hi := j) (Q := Q) s1 (by decide) c1 (by simpa using e4) fun v' H' vl => q v' H' (show Val X.K P Z r0.2.2 σ true v' _ H' by simpa using vl) sh
        simpa using this
      · cases od with
        | cons _ od => cases od
      · cases e3
    · refine no fun ρ r e => ?_
      obtain ⟨q0, ds, xs, e1, _⟩ := shape e
      have := opnEs_star e1 e' m1
      rw [m2] at this
      cases this
  | [a, b] =>
    rcases all_star [a, b] with hs | ⟨e', m1, m2⟩
    · refine (pe_listRg T.calm (T.gl hl) T.btx.2.2.2.2.2.2 (prg_2 (T.gl hz) T.btx.1 (S.o a) (S.o b) (two_star (pos := pos2) hs).1 (star_no (hs b (by simp))) (two_star hs).2) rfl).imp fun σ H Q z => ?_
      obtain ⟨P, Z, ρ, r, x, e, q⟩ := z
      obtain ⟨q0, ds, xs, e1, e2, e3, e4, rfl⟩ := shape e
      simp only [opnEs, hs a (by simp), hs b (by simp)] at e1
      obtain ⟨r0, e0, e1⟩ := bind_some (by simpa using e1)
      obtain ⟨q1, e1, e5⟩ := bind_some e1
      obtain ⟨r1, e6, e1⟩ := bind_some e1
      obtain rfl : (([r1.1], r1.2.2) : List Opn × En) = q1 := Option.some.inj (by simpa using e1)
      cases e5
      refine ⟨P, Z, ρ, r0, x, e0, fun v H1 ov sh => ?_⟩
      obtain ⟨s1, oa⟩ := ov.stt
      refine ⟨_, Z, r0.2.2, r1, s1.push, e6, fun w H2 ov2 sh2 => ?_⟩
      obtain ⟨s2, oa2⟩ := ov2.stt
      have od := (OAs.cons (oa.later s2 sh2) (.cons oa2 .nil)).opd s2.pop e2
      unfold rangeD at e3
      split at e3
      · cases od with
        | cons _ od => cases od
      · rename_i i j
        obtain ⟨c1, e3⟩ := ite_some e3
        cases e3
        simp only [Bool.and_eq_true] at c1
        cases od with
        | cons o1 od =>
        cases od with
        | cons o2 od =>
        exact ⟨i, j, o1.int_inv, o2.int_inv, fin (Q := Q) s2.pop c1.1 c1.2 e4 fun v' H' vl => q v' H' vl (sh.trans sh2)⟩
      · cases e3
    · refine no fun ρ r e => ?_
      obtain ⟨q0, ds, xs, e1, _⟩ := shape e
      have := opnEs_star e1 e' m1
      rw [m2] at this
      cases this
  | [] => 
    refine no fun ρ r e => ?_
    obtain ⟨q0, ds, xs, e1, e2, e3, _⟩ := shape e
    simp only [opnEs] at e1
    cases e1
    cases e2
    cases e3
  | a :: b :: c :: es =>
    refine no fun ρ r e => ?_
    obtain ⟨q0, ds, xs, e1, e2, e3, _⟩ := shape e
    have l1 := (rdOs_get e2).1
    have l2 : ∀ {es : List Expr} {ρ : En} {r : List Opn × En}, opnEs F B es ρ = some r → r.1.length = es.length := by
      intro es
      induction es with
      | nil => intro ρ r h; simp only [opnEs] at h; cases h; rfl
      | cons e es ih =>
        intro ρ r h
        simp only [opnEs] at h
        obtain ⟨_, h⟩ := ite_some' h
        obtain ⟨r1, h1, h⟩ := bind_some h
        obtain ⟨q, h2, h⟩ := bind_some h
        cases h
        simp [ih h2]
    have := l2 e1
    unfold rangeD at e3
    split at e3
    · simp at l1 this; omega
    · simp at l1 this; omega
    · cases e3
theorem st_sumS (T : Fits X C B k) (S : SoO X C F B) (a b : Expr) (p pos : Pos) (hg : glB B.sc "sum" = true) : PE X (.Call (.Name "sum" p) [a, b] [] pos) (tO X.K (nestE C F B (2, [a, b]))) := by
  rcases all_star [a, b] with hs | ⟨e', m1, m2⟩
  · refine (pe_callB (call_sumX T.calm) (T.gl hg) (T.blt .sum (by simp [bis])) (by decide +kernel) (pa_vals S [a, b]) (by decide) (by decide) (two_star (pos := pos) hs).1 (two_star hs).2).imp fun σ H Q z => ?_
    obtain ⟨P, Z, ρ, r, x, e, q⟩ := z
    simp only [nestE] at e
    obtain ⟨r1, e1, e⟩ := bind_some e
    obtain ⟨d, e2, e⟩ := bind_some e
    cases e
    exact ⟨P, Z, ρ, r1, x, e1, fun vs H1 s1 rs sh => ⟨_, _, d, fun a u => (UU.hard s1 u).1, rs, e2, fun v G sm r => q v G ⟨s1.grow sm, r⟩ sh⟩⟩
  · refine .no fun σ H Q z => ?_
    obtain ⟨P, Z, ρ, r, x, e, q⟩ := z
    simp only [nestE] at e
    obtain ⟨r1, e1, e⟩ := bind_some e
    have := valEs_star e1 e' m1
    rw [m2] at this
    cases this
theorem nestZ_some {sc : Scope} {f : Str} {args : List Expr} {kws : List Keyword} {z : Nat × List Expr} (h : nestZ sc f args kws = some z) : (∃ g p2 pos2, f = "list" ∧ kws = [] ∧ args = [.Call (.Name g p2) z.2 [] pos2] ∧ glB sc "list" = true ∧ glB sc g = true ∧ ((z.1 = 0 ∧ g = "zip") ∨ (z.1 = 1 ∧ g = "range"))) ∨
    ∃ a b, f = "sum" ∧ kws = [] ∧ args = [a, b] ∧ z = (2, [a, b]) ∧ glB sc "sum" = true := by
  unfold nestZ at h
  split at h
  · split at h
    · rename_i hc
      simp only [Bool.and_eq_true, beq_iff_eq] at hc
      obtain ⟨⟨rfl, h1⟩, h2⟩ := hc
      split at h
      · rename_i hz
        cases h
        exact .inl ⟨_, _, _, rfl, rfl, rfl, h1, h2, .inl ⟨rfl, by simpa using hz⟩⟩
      · split at h
        · rename_i hz
          cases h
          exact .inl ⟨_, _, _, rfl, rfl, rfl, h1, h2, .inr ⟨rfl, by simpa using hz⟩⟩
        · cases h
    · cases h
  · split at h
    · rename_i hc
      simp only [Bool.and_eq_true, beq_iff_eq] at hc
      obtain ⟨rfl, h1⟩ := hc
      cases h
      exact .inr ⟨_, _, rfl, rfl, rfl, rfl, h1⟩
    · cases h
  · cases h
/-- a call by a name -/
theorem st_callN (T : Fits X C B k) (S : SoO X C F B) (f : Str) (args : List Expr) (kws : List Keyword) (p1 p : Pos) : PE X (.Call (.Name f p1) args kws p) (tO X.K (callN C F B f args kws)) := by
  have no : (∀ ρ r, callN C F B f args kws ρ = some r → False) → PE X (.Call (.Name f p1) args kws p) (tO X.K (callN C F B f args kws)) := fun h => .no fun σ H Q z => by
    obtain ⟨P, Z, ρ, r, x, e, q⟩ := z
    exact h ρ r e
  cases hz : nestZ B.sc f args kws with
  | some z =>
    have this : callN C F B f args kws = nestE C F B z := by
      funext ρ
      unfold callN
      rw [hz]
    rw [this]
    rcases nestZ_some hz with ⟨g, p2, pos2, rfl, rfl, rfl, h1, h2, hgz⟩ | ⟨a, b, rfl, rfl, rfl, rfl, h1⟩
    · obtain ⟨b, as⟩ := z
      rcases hgz with ⟨h3, rfl⟩ | ⟨h3, rfl⟩
      · obtain rfl : b = 0 := h3
        exact st_lz T S as p1 p2 p pos2 h1 h2
      · obtain rfl : b = 1 := h3
        exact st_lr T S as p1 p2 p pos2 h1 h2
    · exact st_sumS T S a b p1 p h1
  | none =>
  by_cases hg : glB B.sc f = true
  · cases hfi : C.T.find? (fun e => e.name == f) with
    | some e =>
      have hm := List.mem_of_find?_eq_some hfi
      have hn := List.find?_some hfi
      have : callN C F B f args kws = callU C F B e args kws := by
        funext ρ
        unfold callN
        rw [hz]
        dsimp only
        rw [if_pos hg, hfi]
      rw [this]
      exact st_callU T S hm f (beq_iff_eq.mp hn).symm args kws p1 p hg
    | none =>
      cases hb : biOf f with
      | some b =>
        have hbm := List.mem_of_find?_eq_some hb
        have hbn := List.find?_some hb
        cases kws with
        | cons kw kws => exact no fun ρ r e => by simp [callN, hz, hg, hfi, hb] at e
        | nil =>
          cases args with
          | nil => exact no fun ρ r e => by simp [callN, hz, hg, hfi, hb] at e
          | cons a args =>
            refine (st_bi T S b hbm f (beq_iff_eq.mp hbn).symm a args p1 p hg).imp fun σ H Q z => ?_
            obtain ⟨P, Z, ρ, r, x, e, q⟩ := z
            refine ⟨P, Z, ρ, r, x, ?_, q⟩
            simpa [callN, hz, hg, hfi, hb] using e
      | none =>
        cases kws with
        | cons kw kws => exact no fun ρ r e => by simp [callN, hz, hg, hfi, hb] at e
        | nil =>
          cases args with
          | nil => exact no fun ρ r e => by simp [callN, hz, hg, hfi, hb] at e
          | cons a args =>
            cases args with
            | nil => exact no fun ρ r e => by simp [callN, hz, hg, hfi, hb] at e
            | cons b args =>
              cases args with
              | cons c args => exact no fun ρ r e => by cases b <;> simp [callN, hz, hg, hfi, hb] at e
              | nil =>
                cases b with
                | Name t p2 =>
                  by_cases hs : star a = true
                  · refine no fun ρ r e => ?_
                    simp [callN, hz, hg, hfi, hb, hs] at e
                  · refine (st_isi T S f a t p1 p2 p hg (by simpa using hs)).imp fun σ H Q z => ?_
                    obtain ⟨P, Z, ρ, r, x, e, q⟩ := z
                    refine ⟨P, Z, ρ, r, x, ?_, q⟩
                    simpa [callN, hz, hg, hfi, hb, isiE, hs] using e
                | _ => exact no fun ρ r e => by simp [callN, hz, hg, hfi, hb] at e
  · refine no fun ρ r e => ?_
    unfold callN at e
    rw [hz] at e
    dsimp only at e
    rw [if_neg hg] at e
    cases e
end
end Pf


namespace Pf
open PySem PySem.Spec L2

/-! ## what is walked -/
structure WalkD (K : PySem.W.Frag) (J : It) (H0 : Hp) (U : Addr → Prop) (xs : List PyData) : Prop where
  ex : ∃ (G : Hp → Prop) (Y : Nat → Hp → V → Hp → Prop), Walk J xs.length G Y ∧ (∀ H, Pre U H0 H → G H) ∧
    ∀ (i : Nat) (H : Hp) (x : V) (H' : Hp) (P : List Bs) (Z : Addr → Prop) (ρ : En) (σ : St), i < xs.length → Pre U H0 H → Y i H x H' → Stt K P Z ρ σ H → (∀ a, UU ρ σ Z a → U a ∨ H0 a = none) →
      ∃ d, xs[i]? = some d ∧ Stt K P Z ρ σ H' ∧ Rep K H' (UU ρ σ Z) x d
theorem rep_now {K : PySem.W.Frag} {H0 H : Hp} {U U' : Addr → Prop} {v : V} {d : PyData} (r : Rep K H0 U v d) (p : Pre U H0 H) (h : ∀ a, U' a → U a ∨ H0 a = none) : Rep K H U' v d :=
  (r.offs.pre (p.mono fun a u => .inl u)).mono h
theorem walkD_at {K : PySem.W.Frag} {J : It} {H0 : Hp} {U : Addr → Prop} {vs : List V} {xs : List PyData} {G : Hp → Prop} (r : RepAll K H0 U vs xs) (w : Walk J vs.length G (YAt vs)) (g : ∀ H, Pre U H0 H → G H) : WalkD K J H0 U xs := by
  refine ⟨G, YAt vs, by rw [← r.length]; exact w, g, fun i H x H' P Z ρ σ hi p y s h => ?_⟩
  obtain ⟨rfl, e⟩ := y
  obtain ⟨d, e1, e2⟩ := r.get' e
  exact ⟨d, e1, s, rep_now e2 p h⟩
theorem walkD_list {K : PySem.W.Frag} {H0 : Hp} {U : Addr → Prop} {a : Addr} {vs : List V} {xs : List PyData} (h : LstU K H0 U a vs) (r : RepAll K H0 U vs xs) : WalkD K (Itl K a) H0 U xs :=
  walkD_at r walk_list fun H p => (h.pre p).sq
theorem walkD_tup {K : PySem.W.Frag} {H0 : Hp} {U : Addr → Prop} {a : Addr} {vs : List V} {xs : List PyData} (h : TupU K H0 U a vs) (r : RepAll K H0 U vs xs) : WalkD K (Itt K a) H0 U xs :=
  walkD_at r walk_tup fun H p => (h.pre p).sq
theorem intsFrom_length : ∀ {n : Nat} {lo : Int}, (intsFrom lo n).length = n
  | 0, _ => rfl
  | n + 1, lo => by simp [intsFrom, intsFrom_length]
theorem intsFrom_get : ∀ {n i : Nat} {lo : Int}, i < n → (intsFrom lo n)[i]? = some (.int (lo + (i : Nat)))
  | n + 1, 0, lo, h => by simp [intsFrom]
  | n + 1, i + 1, lo, h => by
    have := intsFrom_get (n := n) (i := i) (lo := lo + 1) (by omega)
    simp only [intsFrom, List.getElem?_cons_succ, this]
    congr 2
    push_cast
    omega
theorem walkD_range {K : PySem.W.Frag} {H0 : Hp} {U : Addr → Prop} {lo : Int} {n : Nat} : WalkD K (Itr lo n) H0 U (intsFrom lo n) := by
  refine ⟨_, _, by rw [intsFrom_length]; exact walk_range, fun H p => trivial, fun i H x H' P Z ρ σ hi p y s h => ?_⟩
  obtain ⟨rfl, rfl⟩ := y
  rw [intsFrom_length] at hi
  exact ⟨_, intsFrom_get hi, s, .int _⟩
theorem walkD_str {K : PySem.W.Frag} {H0 : Hp} {U : Addr → Prop} {z : Str} : WalkD K (Its z) H0 U (charsD z) := by
  refine ⟨_, _, by simp only [charsD, List.length_map, Array.length_toList]; exact walk_str, fun H p => trivial, fun i H x H' P Z ρ σ hi p y s h => ?_⟩
  obtain ⟨rfl, c, e, rfl⟩ := y
  refine ⟨.str ⟨#[c]⟩, ?_, s, .str _⟩
  simp [charsD, e]
theorem Sk.pre {K : PySem.W.Frag} {H H' : Hp} {U : Addr → Prop} {k : Sk} {v : V} {d : PyData} {ds : List PyData} {vs : List V} (r : Rep K H U k.v d) (e : itemsD d = some ds) (h : k.has K H vs) (ra : RepAll K H U vs ds) : True := trivial
/-- as sk_of, and it stands while the heap is kept -/
theorem sk_at {K : PySem.W.Frag} {H : Hp} {U : Addr → Prop} {v : V} {d : PyData} {ds : List PyData} (r : Rep K H U v d) (e : itemsD d = some ds) : ∃ (k : Sk) (vs : List V), v = k.v ∧ k.has K H vs ∧ RepAll K H U vs ds ∧ ∀ H', Pre U H H' → k.has K H' vs := by
  cases d with
  | list xs =>
    cases e
    obtain ⟨a, vs, rfl, h, r⟩ := r.lst_inv
    exact ⟨.l a, vs, rfl, h.sq, r, fun H' p => (h.pre p).sq⟩
  | tuple xs =>
    cases e
    obtain ⟨a, vs, rfl, h, r⟩ := r.tup_inv
    exact ⟨.t a, vs, rfl, h.sq, r, fun H' p => (h.pre p).sq⟩
  | str z =>
    obtain ⟨k, vs, h1, h2, h3⟩ := sk_of r e
    obtain rfl := r.str_inv
    cases k with
    | l a => cases h1
    | t a => cases h1
    | x w => exact ⟨.x w, vs, h1, h2, h3, fun H' p => h2⟩
  | _ => cases e
theorem walkD_zip {K : PySem.W.Frag} {H0 : Hp} {U : Addr → Prop} {k1 k2 : Sk} {us ws : List V} {xa ya : List PyData} (hx : ∀ H', Pre U H0 H' → k1.has K H' us) (hy : ∀ H', Pre U H0 H' → k2.has K H' ws) (ra : RepAll K H0 U us xa) (rb : RepAll K H0 U ws ya) : WalkD K (ItG K k1 k2) H0 U ((xa.zip ya).map pairD) := by
  have hl : ((xa.zip ya).map pairD).length = min us.length ws.length := by rw [ra.length, rb.length]; simp
  refine ⟨fun H => k1.has K H us ∧ k2.has K H ws, (ItG K k1 k2).yld, ⟨fun i H hi g => ?_, fun H g => ⟨us, ws, g.1, g.2, hl⟩, fun i H x H' _ _ y => y⟩, fun H p => ⟨hx H p, hy H p⟩, fun i H x H' P Z ρ σ hi p y s h => ?_⟩
  · rw [hl] at hi
    have l1 : i < us.length := by omega
    have l2 : i < ws.length := by omega
    exact ⟨us, ws, us[i], ws[i], g.1, g.2, by simp [l1], by simp [l2]⟩
  · obtain ⟨T, o, x', y', rfl, hT, hd, rfl, f4, f5⟩ := y
    obtain ⟨d1, g1', g2'⟩ := ra.get' (f4 us (hx H p))
    obtain ⟨d2, g3', g4'⟩ := rb.get' (f5 ws (hy H p))
    refine ⟨_, zip_get g1' g3', s.grow (same_upd hT), tup_new s hT hd upd_same ?_⟩
    exact .cons ((rep_now g2' p h).pre (Pre.same (same_upd hT))) (.cons ((rep_now g4' p h).pre (Pre.same (same_upd hT))) .nil)
theorem numD_get : ∀ {xs : List PyData} {n i : Nat} {x : PyData}, xs[i]? = some x → (numD n xs)[i]? = some (.tuple [.int ((n + i : Nat) : Int), x])
  | [], n, i, x, h => by simp at h
  | y :: ys, n, 0, x, h => by simp at h; subst h; rfl
  | y :: ys, n, i + 1, x, h => by
    have := numD_get (n := n + 1) (i := i) (xs := ys) (x := x) (by simpa using h)
    rw [show n + (i + 1) = n + 1 + i by omega]
    simpa [numD] using this
theorem numD_length : ∀ {xs : List PyData} {n : Nat}, (numD n xs).length = xs.length
  | [], _ => rfl
  | x :: xs, n => by simp [numD, numD_length (xs := xs)]
theorem walkD_enum {K : PySem.W.Frag} {H0 : Hp} {U : Addr → Prop} {k : Sk} {us : List V} {xa : List PyData} (hx : ∀ H', Pre U H0 H' → k.has K H' us) (ra : RepAll K H0 U us xa) : WalkD K (ItEn K k) H0 U (numD 0 xa) := by
  have hl : (numD 0 xa).length = us.length := by rw [numD_length, ra.length]
  refine ⟨fun H => k.has K H us, (ItEn K k).yld, ⟨fun i H hi g => ?_, fun H g => ⟨us, g, hl⟩, fun i H x H' _ _ y => y⟩, fun H p => hx H p, fun i H x H' P Z ρ σ hi p y s h => ?_⟩
  · rw [hl] at hi
    exact ⟨us, us[i], g, by simp [hi]⟩
  · obtain ⟨T, o, x', rfl, hT, hd, rfl, f4⟩ := y
    obtain ⟨d1, g1', g2'⟩ := ra.get' (f4 us (hx H p))
    refine ⟨_, numD_get g1', s.grow (same_upd hT), tup_new s hT hd upd_same ?_⟩
    rw [Nat.zero_add]
    exact .cons (.int _) (.cons ((rep_now g2' p h).pre (Pre.same (same_upd hT))) .nil)
def tI (K : PySem.W.Frag) (f : En → Option (List PyData × En)) : TI := fun σ H R => ∃ P Z ρ r, Stt K P Z ρ σ H ∧ f ρ = some r ∧ ∀ J H1, WalkD K J H1 (UU r.2 σ Z) r.1 → Stt K P Z r.2 σ H1 → Shr ρ r.2 → R J H1
section
variable {X : Cx} {C : Ctx} {B : Bk} {k : Nat} {F : Fns} {tg : Expr}
theorem _root_.L2.PI.no {X : Cx} {tg e : Expr} {t : TI} (h : ∀ σ H Q, t σ H Q → False) : PI X tg e t := ⟨fun pins s σ H Q I q => (h _ _ _ q).elim⟩
theorem OpdAll.int1 {K : PySem.W.Frag} {H : Hp} {U : Addr → Prop} {vs : List V} {i : Int} (h : OpdAll K H U vs [.int i]) : vs = [.int i] := by
  obtain ⟨v, rfl, o⟩ := h.one
  rw [o.int_inv]
theorem OpdAll.int2 {K : PySem.W.Frag} {H : Hp} {U : Addr → Prop} {vs : List V} {i j : Int} (h : OpdAll K H U vs [.int i, .int j]) : vs = [.int i, .int j] := by
  cases h with
  | cons o h =>
    rw [o.int_inv, h.int1]
theorem isRange_some {sc : Scope} {e : Expr} {args : List Expr} (h : isRange sc e = some args) : ∃ p1 p, e = .Call (.Name "range" p1) args [] p ∧ glB sc "range" = true := by
  unfold isRange at h
  split at h
  · split at h
    · rename_i hc
      cases h
      simp only [Bool.and_eq_true, beq_iff_eq] at hc
      obtain ⟨rfl, h2⟩ := hc
      exact ⟨_, _, rfl, h2⟩
    · cases h
  · cases h
theorem isZE_some {sc : Scope} {tg e : Expr} {z : Bool × List Expr} (h : isZE sc tg e = some z) : ∃ es kk tpos g p pos, tg = .Tuple es kk tpos ∧ e = .Call (.Name g p) z.2 [] pos ∧ glB sc g = true ∧ g = (if z.1 then "zip" else "enumerate") := by
  unfold isZE at h
  split at h
  · split at h
    · rename_i hc
      simp only [Bool.and_eq_true, beq_iff_eq] at hc
      cases h
      exact ⟨_, _, _, _, _, _, rfl, rfl, hc.2, hc.1⟩
    · split at h
      · rename_i hc
        simp only [Bool.and_eq_true, beq_iff_eq] at hc
        cases h
        exact ⟨_, _, _, _, _, _, rfl, rfl, hc.2, hc.1⟩
      · cases h
  · cases h
theorem st_iter (T : Fits X C B k) (S : SoO X C F B) (tg e : Expr) : PI X tg e (tI X.K (iterE C F B tg e)) := by
  cases hr : isRange B.sc e with
  | some args =>
    obtain ⟨p1, p, rfl, hg⟩ := isRange_some hr
    have read : ∀ {σ : St} {H : Hp} {R : It → Hp → Prop}, tI X.K (iterE C F B tg (.Call (.Name "range" p1) args [] p)) σ H R → ∃ P Z ρ r0 ds xs, Stt X.K P Z ρ σ H ∧ opnEs F B args ρ = some r0 ∧ rdOs r0.2 r0.1 = some ds ∧ rangeD ds = some xs ∧
        ∀ J H1, WalkD X.K J H1 (UU r0.2 σ Z) xs → Stt X.K P Z r0.2 σ H1 → Shr ρ r0.2 → R J H1 := fun {σ H R} h => by
      obtain ⟨P, Z, ρ, r, x, e, q⟩ := h
      unfold iterE at e
      rw [hr] at e
      obtain ⟨r0, e1, e⟩ := bind_some e
      obtain ⟨ds, e2, e⟩ := bind_some e
      obtain ⟨xs, e3, e⟩ := bind_some e
      cases e
      exact ⟨P, Z, ρ, r0, ds, xs, x, e1, e2, e3, q⟩
    have two : ∀ {ds xs : List PyData}, rangeD ds = some xs → ds.length = args.length → (∃ a, args = [a]) ∨ ∃ a b, args = [a, b] := fun {ds xs} h l => by
      unfold rangeD at h
      split at h
      · match args, l with
        | [a], _ => exact .inl ⟨a, rfl⟩
      · match args, l with
        | [a, b], _ => exact .inr ⟨a, b, rfl⟩
      · cases h
    have len : ∀ {es : List Expr} {ρ : En} {r : List Opn × En}, opnEs F B es ρ = some r → r.1.length = es.length := by
      intro es
      induction es with
      | nil => intro ρ r h; simp only [opnEs] at h; cases h; rfl
      | cons e es ih =>
        intro ρ r h
        simp only [opnEs] at h
        obtain ⟨_, h⟩ := ite_some' h
        obtain ⟨r1, h1, h⟩ := bind_some h
        obtain ⟨q, h2, h⟩ := bind_some h
        cases h
        simp [ih h2]
    by_cases h1 : ∃ a, args = [a]
    · obtain ⟨a, rfl⟩ := h1
      rcases all_star [a] with hs | ⟨e', m1, m2⟩
      · refine (pi_range1 (T.gl hg) T.btx.1 (pa_opns S [a]) (by rw [star_no (hs a List.mem_cons_self)]; rfl)).imp fun σ H R h => ?_
        obtain ⟨P, Z, ρ, r0, ds, xs, x, e1, e2, e3, q⟩ := read h
        refine ⟨P, Z, ρ, r0, x, e1, fun vs H1 s1 os sh => ?_⟩
        have od := os.opd s1 e2
        unfold rangeD at e3
        split at e3
        · rename_i j
          obtain ⟨hc, e3⟩ := ite_some e3
          cases e3
          obtain rfl := od.int1
          exact ⟨j, rfl, (smallI_ok hc).1, (smallI_ok hc).2, q _ _ walkD_range s1 sh⟩
        · exfalso
          have h1 := (rdOs_get e2).1
          have h2 := len e1
          simp at h1 h2
          omega
        · cases e3
      · refine .no fun σ H R h => ?_
        obtain ⟨P, Z, ρ, r0, ds, xs, x, e1, e2, e3, q⟩ := read h
        have := opnEs_star e1 e' m1
        rw [m2] at this
        cases this
    · by_cases h2 : ∃ a b, args = [a, b]
      · obtain ⟨a, b, rfl⟩ := h2
        rcases all_star [a, b] with hs | ⟨e', m1, m2⟩
        · have s2 : starEach [b] X.env = [(false, eval b X.env)] := by rw [star_no (hs b (List.mem_cons_of_mem _ List.mem_cons_self))]; rfl
          refine (pi_range2 (T.gl hg) T.btx.1 (pa_opns S [a, b]) (by rw [star_no (hs a List.mem_cons_self), s2]) s2).imp fun σ H R h => ?_
          obtain ⟨P, Z, ρ, r0, ds, xs, x, e1, e2, e3, q⟩ := read h
          refine ⟨P, Z, ρ, r0, x, e1, fun vs H1 s1 os sh => ?_⟩
          have od := os.opd s1 e2
          unfold rangeD at e3
          split at e3
          · exfalso
            have h1 := (rdOs_get e2).1
            have h2 := len e1
            simp at h1 h2
            omega
          · rename_i i j
            obtain ⟨hc, e3⟩ := ite_some e3
            cases e3
            simp only [Bool.and_eq_true] at hc
            obtain rfl := od.int2
            exact ⟨i, j, rfl, ⟨(smallI_ok hc.1).1, (smallI_ok hc.1).2, (smallI_ok hc.2).1, (smallI_ok hc.2).2⟩, q _ _ walkD_range s1 sh⟩
          · cases e3
        · refine .no fun σ H R h => ?_
          obtain ⟨P, Z, ρ, r0, ds, xs, x, e1, e2, e3, q⟩ := read h
          have := opnEs_star e1 e' m1
          rw [m2] at this
          cases this
      · refine .no fun σ H R h => ?_
        obtain ⟨P, Z, ρ, r0, ds, xs, x, e1, e2, e3, q⟩ := read h
        exact (two e3 (by rw [(rdOs_get e2).1, len e1])).elim h1 h2
  | none =>
    cases hz : isZE B.sc tg e with
    | some z =>
      obtain ⟨es, kk, tpos, g, p, pos, rfl, rfl, hg, hgz⟩ := isZE_some hz
      have read : ∀ {σ : St} {H : Hp} {R : It → Hp → Prop}, tI X.K (iterE C F B (.Tuple es kk tpos) (.Call (.Name g p) z.2 [] pos)) σ H R → ∃ P Z ρ r0 xs, Stt X.K P Z ρ σ H ∧ valEs C F B z.2 ρ = some r0 ∧ zeD z.1 r0.1 = some xs ∧
          ∀ J H1, WalkD X.K J H1 (UU r0.2 σ Z) xs → Stt X.K P Z r0.2 σ H1 → Shr ρ r0.2 → R J H1 := fun {σ H R} h => by
        obtain ⟨P, Z, ρ, r, x, e, q⟩ := h
        unfold iterE at e
        rw [hr] at e
        dsimp only at e
        rw [hz] at e
        obtain ⟨r0, e1, e⟩ := bind_some e
        obtain ⟨xs, e2, e⟩ := bind_some e
        cases e
        exact ⟨P, Z, ρ, r0, xs, x, e1, e2, q⟩
      have stars : (∀ e ∈ z.2, star e = false) ∨ PI X (.Tuple es kk tpos) (.Call (.Name g p) z.2 [] pos) (tI X.K (iterE C F B (.Tuple es kk tpos) (.Call (.Name g p) z.2 [] pos))) := by
        rcases all_star z.2 with hs | ⟨e', m1, m2⟩
        · exact .inl hs
        · refine .inr (.no fun σ H R h => ?_)
          obtain ⟨P, Z, ρ, r0, xs, x, e1, _⟩ := read h
          have := valEs_star e1 e' m1
          rw [m2] at this
          cases this
      rcases stars with hs | done
      · obtain ⟨b, as⟩ := z
        cases b with
        | true =>
          obtain rfl := hgz
          by_cases h2 : ∃ a b, as = [a, b]
          · obtain ⟨a, b, rfl⟩ := h2
            refine (pi_zipG (T.gl hg) (T.btz "zip" (by decide)) (pa_vals S [a, b]) (two_star (pos := pos) hs).1 (two_star hs).2).imp fun σ H R h => ?_
            obtain ⟨P, Z, ρ, r0, xs, x, e1, e2, q⟩ := read h
            refine ⟨P, Z, ρ, r0, x, e1, fun vs H1 s1 rs sh => ?_⟩
            obtain ⟨_, _, _, dx, dy, xa, ya, hq, i1, i2, rfl⟩ := pi_two e1 e2
            rw [hq] at rs
            cases rs with
            | cons r1 rs =>
            cases rs with
            | cons r2 rs =>
            cases rs
            obtain ⟨k1, us, rfl, g1, ra, w1⟩ := sk_at r1 i1
            obtain ⟨k2, ws, rfl, g2, rb, w2⟩ := sk_at r2 i2
            exact ⟨k1, k2, us, ws, rfl, g1, g2, q _ _ (walkD_zip w1 w2 ra rb) s1 sh⟩
          · refine .no fun σ H R h => ?_
            obtain ⟨P, Z, ρ, r0, xs, x, e1, e2, _⟩ := read h
            obtain ⟨a, b, h, _⟩ := pi_two e1 e2
            exact h2 ⟨a, b, h⟩
        | false =>
          obtain rfl := hgz
          match as with
          | [a] =>
            refine (pi_enumG (T.gl hg) (T.btz "enumerate" (by decide)) (pa_vals S [a]) (by rw [star_no (hs a (by simp))]; rfl)).imp fun σ H R h => ?_
            obtain ⟨P, Z, ρ, r0, xs, x, e1, e2, q⟩ := read h
            refine ⟨P, Z, ρ, r0, x, e1, fun vs H1 s1 rs sh => ?_⟩
            have l := valEs_length e1
            match hq : r0.1, l with
            | [dx], _ =>
              rw [hq] at rs e2
              obtain ⟨xa, i1, rfl⟩ := map_some e2
              cases rs with
              | cons r1 rs =>
              cases rs
              obtain ⟨k1, us, rfl, g1, ra, w1⟩ := sk_at r1 i1
              exact ⟨k1, us, rfl, g1, q _ _ (walkD_enum w1 ra) s1 sh⟩
          | [] =>
            refine .no fun σ H R h => ?_
            obtain ⟨P, Z, ρ, r0, xs, x, e1, e2, _⟩ := read h
            simp only [valEs] at e1
            cases e1
            cases e2
          | a :: b :: as =>
            refine .no fun σ H R h => ?_
            obtain ⟨P, Z, ρ, r0, xs, x, e1, e2, _⟩ := read h
            have l := valEs_length e1
            rcases hq : r0.1 with _ | ⟨x, _ | ⟨y, ws⟩⟩
            · rw [hq] at l; simp at l
            · rw [hq] at l; simp at l
            · rw [hq] at e2; cases e2
      · exact done
    | none =>
    refine ⟨fun pins s σ H R I h => ?_⟩
    obtain ⟨P, Z, ρ, r, x, e1, q⟩ := h
    unfold iterE at e1
    rw [hr] at e1
    dsimp only at e1
    rw [hz] at e1
    obtain ⟨r0, e0, e1⟩ := bind_some e1
    obtain ⟨xs, e2, e1⟩ := bind_some e1
    cases e1
    obtain ⟨b0, d0, ρ0⟩ := r0
    cases d0 with
    | list ds =>
      cases e2
      refine (pi_list (S.v e)).run pins s σ H R I ⟨P, Z, ρ, _, x, e0, fun v H1 vl sh => ?_⟩
      obtain ⟨s1, r1⟩ := vl.share
      obtain ⟨a, vs, rfl, h1, h2⟩ := r1.lst_inv
      exact ⟨a, rfl, ⟨vs, h1.sq⟩, q _ _ (walkD_list h1 h2) s1 sh⟩
    | tuple ds =>
      cases e2
      refine (pi_tup (S.v e)).run pins s σ H R I ⟨P, Z, ρ, _, x, e0, fun v H1 vl sh => ?_⟩
      obtain ⟨s1, r1⟩ := vl.share
      obtain ⟨a, vs, rfl, h1, h2⟩ := r1.tup_inv
      exact ⟨a, rfl, ⟨vs, h1.sq⟩, q _ _ (walkD_tup h1 h2) s1 sh⟩
    | str z =>
      cases e2
      refine (pi_str (S.v e)).run pins s σ H R I ⟨P, Z, ρ, _, x, e0, fun v H1 vl sh => ?_⟩
      obtain ⟨s1, r1⟩ := vl.share
      obtain rfl := r1.str_inv
      exact ⟨z, rfl, q _ _ walkD_str s1 sh⟩
    | _ => cases e2

/-! ## targets -/
def Keep (io : List Nat) (σ σ' : St) : Prop := ∀ i ∈ io, σ'[i]? = σ[i]?
theorem Keep.refl (io : List Nat) (σ : St) : Keep io σ σ := fun _ _ => rfl
theorem Keep.trans {io : List Nat} {σ σ1 σ2 : St} (a : Keep io σ σ1) (b : Keep io σ1 σ2) : Keep io σ σ2 := fun i h => (b i h).trans (a i h)
theorem Keep.set {io : List Nat} {σ : St} {i : Nat} {v : Option V} (h : io.contains i = false) : Keep io σ (σ.set i v) := fun j hj => by
  refine List.getElem?_set_ne fun e => ?_
  subst e
  have := List.contains_iff_mem.mpr hj
  rw [h] at this
  cases this
theorem uu_setSh {ρ : En} {σ : St} {Z : Addr → Prop} {i : Nat} {d : PyData} {v : V} (a : Addr) (u : UU (ρ.set i (some (false, d))) (σ.set i (some v)) Z a) : UU ρ σ Z a := by
  rcases u with u | ⟨j, e, g1, g2⟩
  · exact .inl u
  · rcases set_get g1 with ⟨_, q⟩ | ⟨hn, q⟩
    · cases q
    · rw [List.getElem?_set_ne hn] at g2
      exact .inr ⟨j, e, q, g2⟩
theorem Stt.setS {K : PySem.W.Frag} {P : List Bs} {Z : Addr → Prop} {ρ : En} {σ : St} {H : Hp} (x : Stt K P Z ρ σ H) {i : Nat} {d : PyData} {v : V} (r : Rep K H (UU ρ σ Z) v d) : Stt K P Z (ρ.set i (some (false, d))) (σ.set i (some v)) H := by
  by_cases hi : i < σ.length
  · exact x.setSh r hi
  · rw [List.set_eq_of_length_le (by rw [x.len]; omega), List.set_eq_of_length_le (by omega)]
    exact x
theorem shr_set {ρ : En} {i : Nat} {d : PyData} : Shr ρ (ρ.set i (some (false, d))) := ⟨by simp, fun j e h => by
  rcases set_get h with ⟨_, q⟩ | ⟨_, q⟩
  · cases q
  · exact ⟨e, q⟩⟩
theorem wipe_set {σ : St} {i : Nat} {w : Option V} : ∀ {vs : List Nat}, i ∈ vs → wipe (σ.set i w) vs = wipe σ vs
  | [], h => by cases h
  | v :: vs, h => by
    unfold wipe
    by_cases hv : i ∈ vs
    · rw [wipe_set hv]
    · have : i = v := (List.mem_cons.mp h).resolve_right hv
      subst this
      have out : ∀ {vs : List Nat}, i ∉ vs → wipe (σ.set i w) vs = (wipe σ vs).set i w := by
        intro vs
        induction vs with
        | nil => intro _; rfl
        | cons u us ih =>
          intro hn
          simp only [List.mem_cons, not_or] at hn
          unfold wipe
          rw [ih hn.2, List.set_comm _ _ hn.1]
      rw [out hv, List.set_set]
/-- what a target's reading promises of the slots -/
def Tg (C : Ctx) (sl : List Nat) (σ σ' : St) : Prop := Keep C.io σ σ' ∧ ∀ vs : List Nat, (∀ i ∈ sl, i ∈ vs) → wipe σ' vs = wipe σ vs
def gN (K : PySem.W.Frag) (C : Ctx) (B : Bk) (es : List Expr) : TGs := fun vs σ H Q => ∃ P Z ρ ds ρ', Stt K P Z ρ σ H ∧ RepAll K H (UU ρ σ Z) vs ds ∧ tgsD C B es ds ρ = some ρ' ∧ ∀ σ', Stt K P Z ρ' σ' H → Shr ρ ρ' → Tg C (nmSlots C es) σ σ' → Q σ' H
def gT (K : PySem.W.Frag) (C : Ctx) (B : Bk) (e : Expr) : TG := fun v σ H Q => ∃ P Z ρ d ρ', Stt K P Z ρ σ H ∧ Rep K H (UU ρ σ Z) v d ∧ tgD C B e d ρ = some ρ' ∧ ∀ σ', Stt K P Z ρ' σ' H → Shr ρ ρ' → Tg C (tgSlots C e) σ σ' → Q σ' H
theorem _root_.L2.PG.imp {X : Cx} {e : Expr} {t t' : TG} (h : PG X e t) (i : ∀ v σ H Q, t' v σ H Q → t v σ H Q) : PG X e t' := ⟨fun pins s σ H v u Q I r q => h.run pins s σ H v u Q I r (i _ _ _ _ q)⟩
theorem _root_.L2.PGs.imp {X : Cx} {e : List Expr} {t t' : TGs} (h : PGs X e t) (i : ∀ v σ H Q, t' v σ H Q → t v σ H Q) : PGs X e t' := ⟨fun pins s σ H v u Q I r q => h.run pins s σ H v u Q I r (i _ _ _ _ q)⟩
theorem names_plain (env : Env) : ∀ es : List Expr, (∀ e ∈ es, ∃ x p, e = .Name x p) → (assignEach es env).length = es.length ∧ (assignEach es env).findIdx? (·.1) = none
  | [], _ => ⟨rfl, rfl⟩
  | e :: es, h => by
    obtain ⟨x, p, rfl⟩ := h e List.mem_cons_self
    obtain ⟨h1, h2⟩ := names_plain env es fun e he => h e (List.mem_cons_of_mem _ he)
    have : assignEach (.Name x p :: es) env = (false, assign (.Name x p) env) :: assignEach es env := rfl
    rw [this]
    refine ⟨by simp [h1], ?_⟩
    rw [List.findIdx?_cons]
    simp [h2]
theorem st_names (T : Fits X C B k) : ∀ es : List Expr, PGs X es (gN X.K C B es)
  | [] => pgs_nil.imp fun vs σ H Q h => by
    obtain ⟨P, Z, ρ, ds, ρ', x, r, e, q⟩ := h
    cases r with
    | nil =>
      cases e
      exact ⟨rfl, q σ x (.refl ρ) ⟨.refl _ _, fun _ _ => rfl⟩⟩
    | cons _ _ => cases e
  | e :: es => by
    by_cases hn : ∃ y p, e = .Name y p
    · obtain ⟨y, p, rfl⟩ := hn
      by_cases hl : B.loc y = true
      · cases hix : ixOf y C.N with
        | none => exact ⟨fun pins s σ H vs us Q I r h => by
            obtain ⟨P, Z, ρ, ds, ρ', x, r, e, q⟩ := h
            cases r with
            | nil => cases e
            | cons _ _ => simp only [tgsD, hix, hl, if_true] at e; cases e⟩
        | some i =>
          have hx := T.fn y hl
          refine (pgs_cons (pg_name T.ndX (T.name hix) (by rw [T.hsc]; exact hx.1) (by rw [T.hsc]; exact hx.2)) (st_names T es)).imp fun vs σ H Q h => ?_
          obtain ⟨P, Z, ρ, ds, ρ', x, r, e, q⟩ := h
          cases r with
          | nil => cases e
          | cons r rs =>
            simp only [tgsD, hix, hl, if_true] at e
            obtain ⟨hio, e⟩ := ite_some' (by simpa only [Option.bind_some] using e)
            refine ⟨_, _, rfl, P, Z, _, _, ρ', x.setS r, rs.mono uu_setSh, e, fun σ' s' sh tgk => q σ' s' (shr_set.trans sh) ⟨(Keep.set hio).trans tgk.1, fun ws hw => ?_⟩⟩
            have hi : i ∈ ws := hw i (by simp [nmSlots, hix])
            rw [tgk.2 ws fun j hj => hw j (by simp [nmSlots, hj]), wipe_set hi]
      · exact ⟨fun pins s σ H vs us Q I r h => by
          obtain ⟨P, Z, ρ, ds, ρ', x, r, e, q⟩ := h
          cases r with
          | nil => cases e
          | cons _ _ => simp only [tgsD, hl] at e; cases e⟩
    · exact ⟨fun pins s σ H vs us Q I r h => by
        obtain ⟨P, Z, ρ, ds, ρ', x, r, e, q⟩ := h
        exfalso
        cases r with
        | nil => unfold tgsD at e; split at e <;> simp_all
        | cons _ _ =>
          unfold tgsD at e
          split at e
          · simp_all
          · exact hn ⟨_, _, (List.cons.inj ‹_ = Expr.Name _ _ :: _›).1⟩
          · cases e⟩
theorem tgsD_names {es : List Expr} {ds : List PyData} {ρ ρ' : En} (h : tgsD C B es ds ρ = some ρ') : (∀ e ∈ es, ∃ x p, e = .Name x p) ∧ ds.length = es.length := by
  induction es generalizing ds ρ with
  | nil =>
    cases ds with
    | nil => exact ⟨fun e he => (List.not_mem_nil he).elim, rfl⟩
    | cons _ _ => cases h
  | cons e es ih =>
    cases ds with
    | nil => unfold tgsD at h; split at h <;> simp_all
    | cons d ds =>
      cases e with
      | Name x p =>
        simp only [tgsD] at h
        obtain ⟨_, h⟩ := ite_some h
        obtain ⟨i, _, h⟩ := bind_some h
        obtain ⟨_, h⟩ := ite_some' h
        obtain ⟨h1, h2⟩ := ih h
        refine ⟨fun e he => ?_, by simp [h2]⟩
        rcases List.mem_cons.mp he with rfl | he
        · exact ⟨_, _, rfl⟩
        · exact h1 e he
      | _ => cases h
theorem st_tg (T : Fits X C B k) (e : Expr) : PG X e (gT X.K C B e) := by
  refine ⟨fun pins s σ H v u Q I rv h => ?_⟩
  obtain ⟨P, Z, ρ, d, ρ', x, r, e1, q⟩ := h
  cases e with
  | Name y p =>
    simp only [tgD, tgsD] at e1
    obtain ⟨hl, e1⟩ := ite_some e1
    obtain ⟨i, hix, e1⟩ := bind_some e1
    obtain ⟨hio, e1⟩ := ite_some' e1
    cases e1
    have hx := T.fn y hl
    refine (pg_name T.ndX (T.name hix) (by rw [T.hsc]; exact hx.1) (by rw [T.hsc]; exact hx.2)).run pins s σ H v u Q I rv ?_
    exact q _ (x.setS r) shr_set ⟨Keep.set hio, fun ws hw => wipe_set (hw i (by simp [tgSlots, nmSlots, hix]))⟩
  | Tuple es kk p =>
    simp only [tgD] at e1
    obtain ⟨ds, e2, e1⟩ := bind_some e1
    obtain ⟨hn, hl⟩ := tgsD_names e1
    obtain ⟨n1, n2⟩ := names_plain X.env es hn
    cases d with
    | tuple xs =>
      cases e2
      obtain ⟨a, vs, rfl, g1, g2⟩ := r.tup_inv
      exact (pg_tup T.calm (st_names T es) n1 n2).run pins s σ H _ u Q I rv ⟨a, vs, rfl, g1.sq, by rw [g2.length, hl], P, Z, ρ, _, ρ', x, g2, e1, q⟩
    | list xs =>
      cases e2
      obtain ⟨a, vs, rfl, g1, g2⟩ := r.lst_inv
      exact (pg_unl T.calm (st_names T es) n1 n2).run pins s σ H _ u Q I rv ⟨a, vs, rfl, g1.sq, by rw [g2.length, hl], P, Z, ρ, _, ρ', x, g2, e1, q⟩
    | _ => cases e2
  | _ => cases e1
end
end Pf


namespace Pf
open PySem PySem.Spec L2

/-! ## comprehensions -/
section
variable {K : PySem.W.Frag} {P : List Bs} {Z : Addr → Prop} {ρ ρ0 : En} {σ : St} {H : Hp}
theorem get_set_none {α : Type} {l : List (Option α)} {i j : Nat} {w : α} (h : (l.set i none)[j]? = some (some w)) : l[j]? = some (some w) ∧ i ≠ j := by
  by_cases hj : i = j
  · subst hj
    by_cases hi : i < l.length
    · rw [List.getElem?_set_self hi] at h
      cases h
    · rw [List.getElem?_eq_none (by simpa using hi)] at h; cases h
  · rw [List.getElem?_set_ne hj] at h
    exact ⟨h, hj⟩
theorem uu_drop {i : Nat} (a : Addr) (u : UU (ρ.set i none) (σ.set i none) Z a) : UU ρ σ Z a := by
  rcases u with u | ⟨j, e, g1, g2⟩
  · exact .inl u
  · exact .inr ⟨j, e, (get_set_none g1).1, (get_set_none g2).1⟩
theorem Stt.drop (x : Stt K P Z ρ σ H) (i : Nat) : Stt K P Z (ρ.set i none) (σ.set i none) H where
  len := by simp [x.len]
  sh := fun j d h => by
    obtain ⟨h, hn⟩ := get_set_none h
    obtain ⟨v, h1, r⟩ := x.sh j d h
    exact ⟨v, by rw [List.getElem?_set_ne hn]; exact h1, r.mono uu_drop⟩
  ow := fun j d h => by
    obtain ⟨h, hn⟩ := get_set_none h
    obtain ⟨p, h1, c, z, b⟩ := x.ow j d h
    exact ⟨p, by rw [List.getElem?_set_ne hn]; exact h1, c.mono uu_drop, z, b⟩
  dis := fun j k d e p h1 h2 h3 h4 => x.dis j k d e p (get_set_none h1).1 (get_set_none h2).1 (get_set_none h3).1 (get_set_none h4).1
  zd := x.zd
  pre := x.pre
theorem shr_drop {i : Nat} : Shr ρ (ρ.set i none) := ⟨by simp, fun j d h => ⟨d, (get_set_none h).1⟩⟩
theorem Stt.wipe (x : Stt K P Z ρ σ H) : ∀ is : List Nat, Stt K P Z (wipeE ρ is) (L2.wipe σ is) H
  | [] => x
  | i :: is => (x.wipe is).drop i
theorem uu_wipe : ∀ {is : List Nat} (a : Addr), UU (wipeE ρ is) (L2.wipe σ is) Z a → UU ρ σ Z a
  | [], a, u => u
  | i :: is, a, u => uu_wipe (is := is) a (uu_drop a u)
theorem shr_wipe : ∀ {is : List Nat}, Shr ρ (wipeE ρ is)
  | [] => .refl ρ
  | i :: is => shr_wipe.trans shr_drop
theorem Stt.frzs (x : Stt K P Z ρ σ H) : ∀ is : List Nat, Stt K P Z (frzs ρ is) σ H
  | [] => x
  | i :: is => (x.frzs is).frz i
theorem shr_frzs : ∀ {is : List Nat}, Shr ρ (frzs ρ is)
  | [] => .refl ρ
  | i :: is => shr_frzs.trans (frz_shr _ _)
theorem frz_own {i j : Nat} {d : PyData} (h : (Pf.frz ρ i)[j]? = some (some (true, d))) : ρ[j]? = some (some (true, d)) ∧ i ≠ j := by
  unfold Pf.frz at h
  split at h
  · rcases set_get h with ⟨_, q⟩ | ⟨hn, q⟩
    · cases q
    · exact ⟨q, hn⟩
  · rename_i hno
    refine ⟨h, fun e => ?_⟩
    subst e
    exact hno _ h
theorem frzs_own : ∀ {is : List Nat} {j : Nat} {d : PyData}, (frzs ρ is)[j]? = some (some (true, d)) → j ∉ is
  | [], _, _, _ => by simp
  | i :: is, j, d, h => by
    obtain ⟨h, hn⟩ := frz_own h
    simp only [List.mem_cons, not_or]
    exact ⟨fun e => hn e.symm, frzs_own h⟩
/-- a hidden container is written -/
theorem Stt.zwrite {p : Addr} {o : HO} (x : Stt K P (ZP Z p) ρ σ H) (hb : ∀ b ∈ P, b.H0 p = none) (ho : ∀ xs, o ≠ .tup xs) : Stt K P (ZP Z p) ρ σ (upd H p o) := by
  have up : ∀ {ρ : En} {σ : St}, UU ρ σ (ZP Z p) p := .inl (.inr rfl)
  have keep : Pre (UU ρ σ (ZP Z p)) H (upd H p o) := pre_upd.mono fun a e => by subst e; exact up
  have nn : ∀ a, H a ≠ none → upd H p o a ≠ none := fun a h => by
    by_cases z : a = p
    · subst z; rw [upd_same]; intro q; cases q
    · rw [upd_ne z]; exact h
  refine ⟨x.len, fun i d h => ?_, fun i d h => ?_, x.dis, fun a z => hard_upd ho (x.zd a z), fun b hb' => ⟨fun a u h n => ?_, fun a z => nn a ((x.pre b hb').2.1 a z), fun a u z h => ?_⟩⟩
  · obtain ⟨v, h1, r⟩ := x.sh i d h
    exact ⟨v, h1, r.pre keep⟩
  · obtain ⟨q, h1, c, z, b⟩ := x.ow i d h
    have qp : q ≠ p := fun w => z (.inr w)
    exact ⟨q, h1, c.pre keep fun u e => by rw [upd_ne qp]; exact e, z, b⟩
  · have hap : a ≠ p := fun w => by subst w; rw [hb b hb'] at h; cases h
    obtain ⟨v, h1, l⟩ := (x.pre b hb').1 a u h n
    exact ⟨v, by rw [upd_ne hap]; exact h1, l⟩
  · have hap : a ≠ p := fun w => by subst w; rw [hb b hb'] at h; cases h
    rw [upd_ne hap]
    exact (x.pre b hb').2.2 a u z h
/-- the block's names as they were -/
theorem backE_length {ρ1 : En} : ∀ {is : List Nat}, (backE ρ0 ρ1 is).length = ρ1.length
  | [] => rfl
  | i :: is => by
    unfold backE
    split
    · rw [List.length_set, backE_length]
    · exact backE_length
theorem backE_get {ρ1 : En} (hl : ρ1.length = ρ0.length) : ∀ {is : List Nat} {j : Nat} {w : Bool × PyData}, (backE ρ0 ρ1 is)[j]? = some (some w) → (j ∈ is ∧ ρ0[j]? = some (some w)) ∨ (j ∉ is ∧ ρ1[j]? = some (some w))
  | [], j, w, h => .inr ⟨by simp, h⟩
  | i :: is, j, w, h => by
    unfold backE at h
    split at h
    · rename_i w' hw
      rcases set_get h with ⟨rfl, q⟩ | ⟨hn, q⟩
      · subst q
        exact .inl ⟨List.mem_cons_self, hw⟩
      · rcases backE_get hl q with ⟨h1, h2⟩ | ⟨h1, h2⟩
        · exact .inl ⟨List.mem_cons_of_mem _ h1, h2⟩
        · exact .inr ⟨by simp only [List.mem_cons, not_or]; exact ⟨fun e => hn e.symm, h1⟩, h2⟩
    · rename_i hno
      rcases backE_get hl h with ⟨h1, h2⟩ | ⟨h1, h2⟩
      · exact .inl ⟨List.mem_cons_of_mem _ h1, h2⟩
      · refine .inr ⟨?_, h2⟩
        simp only [List.mem_cons, not_or]
        refine ⟨fun e => ?_, h1⟩
        subst e
        have : j < ρ0.length := by rw [← hl]; exact (List.getElem?_eq_some_iff.mp h2).1
        rw [List.getElem?_eq_getElem this] at hno
        cases hno
theorem wipe_get {σ : St} {i : Nat} {w : Option V} : ∀ {vs : List Nat}, i ∉ vs → (L2.wipe σ vs)[i]? = σ[i]?
  | [], _ => rfl
  | v :: vs, h => by
    simp only [List.mem_cons, not_or] at h
    unfold L2.wipe
    rw [List.getElem?_set_ne (fun e => h.1 e.symm), wipe_get (w := w) h.2]
theorem Stt.backE {Z' : Addr → Prop} {ρ1 : En} {is : List Nat} {H0 : Hp} (x : Stt K P Z ρ0 σ H0) (y : Stt K (⟨H0, OwnA ρ0 σ⟩ :: P) Z' ρ1 (L2.wipe σ is) H) (hz : ∀ a, Z' a → Z a ∨ H0 a = none) (hn : ∀ (i : Nat) (d : PyData), i ∈ is → ρ0[i]? ≠ some (some (true, d))) :
    Stt K P Z' (Pf.backE ρ0 ρ1 is) σ H ∧ ∀ (Zq : Addr → Prop) (a : Addr), UU (Pf.backE ρ0 ρ1 is) σ Zq a → UU ρ1 (L2.wipe σ is) Zq a := by
  have hl : ρ1.length = ρ0.length := by rw [y.len, wipe_length, x.len]
  obtain ⟨y1, y2, y3⟩ := y.pre _ List.mem_cons_self
  have own : ∀ {j : Nat} {d : PyData}, (Pf.backE ρ0 ρ1 is)[j]? = some (some (true, d)) → j ∉ is ∧ ρ1[j]? = some (some (true, d)) := fun {j d} h => by
    rcases backE_get hl h with ⟨h1, h2⟩ | h
    · exact (hn j d h1 h2).elim
    · exact h
  have sub : ∀ (Zq : Addr → Prop) (a : Addr), UU (Pf.backE ρ0 ρ1 is) σ Zq a → UU ρ1 (L2.wipe σ is) Zq a := fun Zq a u => by
    rcases u with u | ⟨j, d, h1, h2⟩
    · exact .inl u
    · obtain ⟨g1, g2⟩ := own h1
      exact .inr ⟨j, d, g2, by rw [wipe_get (w := none) g1]; exact h2⟩
  refine ⟨⟨by rw [backE_length, hl, x.len], fun j d h => ?_, fun j d h => ?_, fun j k d e p h1 h2 h3 h4 => ?_, y.zd, fun b hb => y.pre b (List.mem_cons_of_mem _ hb)⟩, sub⟩
  · rcases backE_get hl h with ⟨_, h2⟩ | ⟨h1, h2⟩
    · obtain ⟨v, g1, r⟩ := x.sh j d h2
      refine ⟨v, g1, (r.offs.pre (y1.mono fun a u => .inl (.inr u))).mono fun a u => ?_⟩
      rcases u with u | ⟨i, e, q1, q2⟩
      · rcases hz a u with z | z
        · exact .inl (.inl z)
        · exact .inr z
      · obtain ⟨q3, q4⟩ := own q1
        obtain ⟨p, q5, _, _, bb⟩ := y.ow i e q4
        rw [wipe_get (w := none) q3, q2] at q5
        cases q5
        rcases bb _ List.mem_cons_self with z | z
        · exact .inl (.inr z)
        · exact .inr z
    · obtain ⟨v, g1, r⟩ := y.sh j d h2
      exact ⟨v, (wipe_some g1).1, r.mono fun a u => sub _ a u⟩
  · obtain ⟨h1, h2⟩ := own h
    obtain ⟨p, g1, c, z, bb⟩ := y.ow j d h2
    exact ⟨p, (wipe_some g1).1, c.mono fun a u => sub _ a u, z, fun b hb => bb b (List.mem_cons_of_mem _ hb)⟩
  · obtain ⟨g1, g2⟩ := own h1
    obtain ⟨g3, g4⟩ := own h2
    exact y.dis j k d e p g2 g4 (by rw [wipe_get (w := none) g1]; exact h3) (by rw [wipe_get (w := none) g3]; exact h4)
end

section
variable {X : Cx} {C : Ctx} {B : Bk} {k : Nat} {F : Fns}
theorem Fits.blk (T : Fits X C B k) (s : Shared) (H : Hp) (scope : Scope) (cl : List (Str × Addr)) (c : Addr) (fp : List Addr) : Fits (X.blk s H scope (compEnvC scope cl c X.env) fp) C (blkOf B scope) k where
  hN := T.hN
  nd := T.nd
  hsc := by show relS scope X.env.scope = _; rw [T.hsc]; rfl
  calm := T.calm
  room := T.room
  grd := T.grd
  xe := rfl
  fn := fun x h => by
    have h : (match scope.names.lookup x with | some .local => true | some .cell => true | _ => false) = true := h
    split at h
    · rename_i e
      have := lookup_relS_keep (sc := B.sc) (by simp) e
      exact ⟨.inl this, .inr this⟩
    · rename_i e
      have := lookup_relS_keep (sc := B.sc) (by simp) e
      exact ⟨.inr this, .inl (by show (scope.names.lookup x == some .cell) = true; rw [e]; rfl)⟩
    · cases h
  blt := T.blt
  btx := T.btx
  btz := T.btz
  tab := T.tab
  glb := T.glb
theorem _root_.L2.PTs.no {X : Cx} {e : List Expr} {t : TT} (h : ∀ σ H Q, t σ H Q → False) : PTs X e t := ⟨fun pins s σ H Q I q => (h _ _ _ q).elim⟩
theorem _root_.L2.PTs.imp {X : Cx} {e : List Expr} {t t' : TT} (h : PTs X e t) (i : ∀ σ H Q, t' σ H Q → t σ H Q) : PTs X e t' := ⟨fun pins s σ H Q I q => h.run pins s σ H Q I (i _ _ _ q)⟩
theorem st_tests (S : SoO X C F B) : ∀ es : List Expr, PTs X es (tT X.K (testsT F B es))
  | [] => pts_nil.imp fun σ H Q h => by
    obtain ⟨P, Z, ρ, r, x, e, q⟩ := h
    cases e
    exact q H x (.refl ρ)
  | [e] => pts_one (S.t e)
  | _ :: _ :: _ => .no fun σ H Q h => by
    obtain ⟨P, Z, ρ, r, x, e, q⟩ := h
    cases e
theorem own_snd {N : List Str} {scope : Scope} {i : Nat} (h : i ∈ (ownOf N scope).map (·.2)) : True := trivial
theorem folded_no {e : Expr} {env : Env} (h : notSet e = true) (x : Value) : foldedSetIterable e env x = pure x := by
  cases e <;> first | rfl | (simp [notSet] at h)
/-- what the block comes to -/
theorem lc_read {tg elt : Expr} {ifs : List Expr} {is : List Nat} {B' : Bk} {xs : List PyData} {P : List Bs} {Z : Addr → Prop} {ρ : En} {σ : St} {J : It} {H1 : Hp} {q0 : List PyData × En} {D : Addr} {Qd : Hp → Prop} {K : PySem.W.Frag}
    (wd : WalkD K J H1 (UU ρ σ Z) xs) (s1 : Stt K P Z ρ σ H1) (hD : H1 D = none) (htg : (tgSlots C tg).all is.contains = true)
    (e : lcLoop C F B' elt tg ifs is xs [] (wipeE (frzs ρ is) is) = some q0)
    (q : ∀ H', Val K P Z (backE (frzs ρ is) q0.2 is) σ true (.ref D) (.list q0.1) H' → Shr ρ (backE (frzs ρ is) q0.2 is) → Qd H') :
    ∃ W : Nat → Nat → Hp → Prop, (∃ m, W 0 m (upd H1 D (.lst []))) ∧ ∀ i m H, W i m H →
      (J.stop i H ∧ Qd H) ∨ (J.go i H ∧ ∃ Nx : Hp → Prop, (∀ H', Nx H' → ∃ m', m' < m ∧ W (i + 1) m' H') ∧ ∀ x H', J.yld i H x H' → (gT K C B' tg) x (wipe σ is) H' fun σ2 H2 => wipe σ2 is = wipe σ is ∧ (tT K (testsT F B' ifs)) σ2 H2 fun b H3 =>
        if b = true then (tV K (valE C F B' elt)) σ2 H3 fun y H4 => ∃ acc, H4 D = some (.lst acc) ∧ acc.length < sizeLine ∧ Nx (upd H4 D (.lst (acc ++ [y]))) else Nx H3) := by
  obtain ⟨G, Y, w, hG, hY⟩ := wd.ex
  have s0 : Stt K P Z (frzs ρ is) σ H1 := s1.frzs is
  have hn : ∀ (i : Nat) (d : PyData), i ∈ is → (frzs ρ is)[i]? ≠ some (some (true, d)) := fun i d h z => frzs_own z h
  generalize hρ0 : frzs ρ is = ρ0 at s0 hn e q
  have sh0 : Shr ρ ρ0 := by rw [← hρ0]; exact shr_frzs
  have v0 : Val K (⟨H1, OwnA ρ0 σ⟩ :: P) Z ρ0 σ true (.ref D) (.list []) (upd H1 D (.lst [])) := Val.newLst s0.push hD .nil
  let Pv : Nat → Hp → Prop := fun i H => ∃ acc ρ', lcLoop C F B' elt tg ifs is (xs.drop i) acc ρ' = some q0 ∧ Shr (wipeE ρ0 is) ρ' ∧ Stt K (⟨H1, OwnA ρ0 σ⟩ :: P) (ZP Z D) ρ' (wipe σ is) H ∧ Cont K H (ZP (UU ρ' (wipe σ is) Z) D) D (.list acc)
  obtain ⟨p, ep, nz, sv, cv, hb⟩ := v0
  cases ep
  have sub0 : ∀ {ρ' : En}, Shr (wipeE ρ0 is) ρ' → ∀ a, UU ρ' (wipe σ is) Z a → UU ρ σ Z a := fun sh a u => UU.shr sh0 (uu_wipe (is := is) a (UU.shr sh u))
  refine lc_it w Pv ⟨[], _, e, .refl _, sv.wipe is, cv.mono fun a u => u.elim (fun u => .inl (uu_wipe a u)) .inr⟩ (fun i H hi pv => ?_) (fun i x H H' hi pv y => ?_) fun H pv => ?_
  · obtain ⟨acc, ρ', _, sh, s2, c2⟩ := pv
    exact hG H ((s2.pre _ List.mem_cons_self).1.mono fun a u => UU.shr sh0 (.inr u))
  · obtain ⟨acc, ρ', e2, sh, s2, c2⟩ := pv
    have pre0 : Pre (UU ρ σ Z) H1 H := (s2.pre _ List.mem_cons_self).1.mono fun a u => UU.shr sh0 (.inr u)
    obtain ⟨d, ed, s3, r3⟩ := hY i H x H' _ _ ρ' (wipe σ is) hi pre0 y s2.push fun a u => by
      rcases u with (u | u) | u
      · exact .inl (.inl u)
      · subst u; exact .inr hD
      · exact .inl (sub0 sh a (.inr u))
    have hdrop : xs.drop i = d :: xs.drop (i + 1) := by
      rw [List.drop_eq_getElem_cons hi]
      rw [List.getElem?_eq_getElem hi] at ed
      cases ed
      rfl
    rw [hdrop] at e2
    simp only [lcLoop, lcG] at e2
    obtain ⟨ρ1, a1, e2⟩ := bind_some e2
    obtain ⟨kk, a2, e2⟩ := bind_some e2
    refine ⟨_, _, ρ', d, ρ1, s3, r3, a1, fun σ2 s4 sh4 tgk => ?_⟩
    have hw : wipe σ2 is = wipe σ is := by
      rw [tgk.2 is fun j hj => by simpa using (List.all_eq_true.mp htg) j hj]
      have : ∀ (vs ws : List Nat), (∀ v ∈ vs, v ∈ ws) → wipe (wipe σ vs) ws = wipe σ ws := by
        intro vs ws
        induction vs with
        | nil => intro _; rfl
        | cons v vs ih =>
          intro h
          show wipe ((wipe σ vs).set v none) ws = _
          rw [wipe_set (h v List.mem_cons_self), ih fun u hu => h u (List.mem_cons_of_mem _ hu)]
      exact this is is fun _ h => h
    refine ⟨hw, _, _, ρ1, kk, s4, a2, fun H3 s5 sh5 => ?_⟩
    -- what the list holds, behind
    have later : ∀ {ρ2 : En} {H4 : Hp}, Stt K (⟨H, OwnA ρ' (wipe σ is)⟩ :: ⟨H1, OwnA ρ0 σ⟩ :: P) (ZP Z D) ρ2 σ2 H4 → Shr ρ' ρ2 → ∃ vs, H4 D = some (.lst vs) ∧ RepAll K H4 (ZP (UU (wipeE ρ2 is) (wipe σ is) Z) D) vs acc := fun {ρ2 H4} s6 sh6 => by
      cases c2 with
      | lst c3 c4 =>
        obtain ⟨b1, b2, b3⟩ := s6.pre _ List.mem_cons_self
        refine ⟨_, b3 D _ (.inr rfl) c3, (c4.pre (b1.mono fun a u => .inl (.inr u))).mono fun a u => ?_⟩
        rcases u with u | u
        · exact .inl (UU.shr (sh6.trans shr_wipe) u)
        · exact .inr u
    show if kk.1 = true then _ else _
    by_cases hk : kk.1 = true
    · rw [if_pos hk]
      rw [if_pos hk] at e2
      obtain ⟨rv, a3, e2⟩ := bind_some e2
      refine ⟨_, _, kk.2, rv, s5, a3, fun y H4 vl sh6 => ?_⟩
      split at e2
      case isFalse => cases e2
      rename_i hlen
      obtain ⟨s6, r6⟩ := vl.share
      obtain ⟨vs, g1, g2⟩ := later s6 ((sh4.trans sh5).trans sh6)
      refine ⟨vs, g1, by rw [g2.length]; exact hlen, acc ++ [rv.2.1], wipeE rv.2.2 is, e2, ((sh.trans sh4).trans (sh5.trans sh6)).trans shr_wipe, ?_, ?_⟩
      · have := (s6.pop.wipe is)
        rw [hw] at this
        exact this.zwrite hb (fun _ z => by cases z)
      · refine .lst upd_same ((g2.append (.cons (r6.mono fun a u => ?_) .nil)).pre (pre_upd.mono fun a e => .inr e))
        have : UU (wipeE rv.2.2 is) (wipe σ2 is) (ZP Z D) a := by
          rw [hw]
          rcases u with (u | u) | u
          · exact .inl (.inl u)
          · exact .inr u
          · exact .inl (.inr u)
        exact uu_wipe a this
    · rw [if_neg hk]
      rw [if_neg hk] at e2
      obtain ⟨vs, g1, g2⟩ := later s5 (sh4.trans sh5)
      refine ⟨acc, wipeE kk.2 is, e2, ((sh.trans sh4).trans sh5).trans shr_wipe, ?_, .lst g1 g2⟩
      have := (s5.pop.wipe is)
      rw [hw] at this
      exact this
  · obtain ⟨acc, ρ', e2, sh, s2, c2⟩ := pv
    rw [List.drop_length] at e2
    simp only [lcLoop, lcG] at e2
    cases e2
    obtain ⟨s3, sub⟩ := s0.backE s2 (fun a z => z.elim .inl fun z => .inr (z ▸ hD)) hn
    refine q H ⟨D, rfl, nz, s3, c2.mono fun a u => u.elim (fun u => .inl (sub Z a u)) .inr, fun b h => hb b (List.mem_cons_of_mem _ h)⟩ ?_
    have hl : ρ'.length = ρ0.length := by rw [s2.len, wipe_length, s0.len]
    refine ⟨by rw [backE_length, hl]; exact sh0.1, fun j d h => ?_⟩
    rcases backE_get hl h with ⟨h1, h2⟩ | ⟨_, h2⟩
    · exact (hn j d h1 h2).elim
    · obtain ⟨d1, h3⟩ := (shr_wipe.trans sh).2 j d h2
      exact sh0.2 j d1 h3
/-- [..] : its pieces -/
structure LcOk (X : Cx) (C : Ctx) (F : Fns) (B : Bk) (elt tg iter : Expr) (ifs : List Expr) (scope : Scope) : Prop where
  blk : BlkOk X.N X.env.scope scope (ownOf C.N scope)
  ns : notSet iter = true
  read : ∀ σ H Q, (∃ P Z ρ r, Stt X.K P Z ρ σ H ∧ lcE C F B elt [⟨tg, iter, ifs, 0⟩] scope ρ = some r ∧ ∀ v H', Val X.K P Z r.2 σ true v (.list r.1) H' → Shr ρ r.2 → Q v H') →
    tLc (tI X.K (iterE C F B tg iter)) (gT X.K C (blkOf B scope) tg) (tT X.K (testsT F (blkOf B scope) ifs)) (tV X.K (valE C F (blkOf B scope) elt)) ((ownOf C.N scope).map (·.2)) σ H Q
theorem lc_ok (T : Fits X C B k) {elt tg iter : Expr} {ifs : List Expr} {scope : Scope} : LcOk X C F B elt tg iter ifs scope ∨ ∀ ρ r, lcE C F B elt [⟨tg, iter, ifs, 0⟩] scope ρ = some r → False := by
  by_cases hc : (notSet iter && blkC C.N B.sc scope (ownOf C.N scope) && (tgSlots C tg).all ((ownOf C.N scope).map (·.2)).contains && ((ownOf C.N scope).map (·.2)).all (fun i => !C.io.contains i)) = true
  · refine .inl ?_
    have hc' := hc
    simp only [Bool.and_eq_true] at hc
    obtain ⟨⟨⟨h1, h2⟩, h3⟩, h4⟩ := hc
    refine ⟨by rw [T.hN, T.hsc]; exact blkOk_by h2, h1, fun σ H Q h => ?_⟩
    obtain ⟨P, Z, ρ, r, x, e, q⟩ := h
    simp only [lcE] at e
    rw [if_pos hc'] at e
    obtain ⟨r1, e1, e⟩ := bind_some e
    obtain ⟨q0, e2, e⟩ := bind_some e
    cases e
    exact ⟨P, Z, ρ, r1, x, e1, fun J H1 wd s1 sh1 D hD => lc_read wd s1 hD h3 e2 fun H' vl sh => q _ H' vl (sh1.trans sh)⟩
  · refine .inr fun ρ r e => ?_
    simp only [lcE] at e
    rw [if_neg hc] at e
    cases e
theorem lcE_one {elt : Expr} {gs : List Comprehension} {scope : Scope} {ρ : En} {r : List PyData × En} (h : lcE C F B elt gs scope ρ = some r) : ∃ tg iter ifs, gs = [⟨tg, iter, ifs, 0⟩] := by
  unfold lcE at h
  split at h
  · exact ⟨_, _, _, rfl⟩
  · cases h
abbrev AllO (C : Ctx) (F : Fns) (k : Nat) : Prop := ∀ (X : Cx) (B : Bk), Fits X C B k → SoO X C F B
theorem st_lc (T : Fits X C B k) (A : AllO C F k) (elt : Expr) (gs : List Comprehension) (scope : Scope) (pos : Pos) : PE X (.ListComp elt gs scope pos) (tO X.K fun ρ => (lcE C F B elt gs scope ρ).bind fun q => some (.val (.list q.1), true, q.2)) := by
  have no : (∀ ρ r, lcE C F B elt gs scope ρ = some r → False) → PE X (.ListComp elt gs scope pos) (tO X.K fun ρ => (lcE C F B elt gs scope ρ).bind fun q => some (.val (.list q.1), true, q.2)) := fun h => .no fun σ H Q z => by
    obtain ⟨P, Z, ρ, r, x, e, q⟩ := z
    obtain ⟨r1, e1, _⟩ := bind_some e
    exact h ρ r1 e1
  by_cases hg : ∃ tg iter ifs, gs = [⟨tg, iter, ifs, 0⟩]
  · obtain ⟨tg, iter, ifs, rfl⟩ := hg
    rcases lc_ok (F := F) T (elt := elt) (tg := tg) (iter := iter) (ifs := ifs) (scope := scope) with L | L
    · have S' := fun s H c cl fp => A _ _ (T.blk s H scope cl c fp)
      refine (pe_lc (wi := tI X.K (iterE C F B tg iter)) (g := gT X.K C (blkOf B scope) tg) (tt := tT X.K (testsT F (blkOf B scope) ifs)) (te := tV X.K (valE C F (blkOf B scope) elt)) T.calm T.ndX (st_iter T (A X B T) tg iter) L.blk (fun s H c cl fp => st_tg (T.blk s H scope cl c fp) tg) (fun s H c cl fp => st_tests (S' s H c cl fp) ifs) (fun s H c cl fp => (S' s H c cl fp).v elt) (folded_no L.ns)).imp fun σ H Q z => ?_
      obtain ⟨P, Z, ρ, r, x, e, q⟩ := z
      obtain ⟨r1, e1, e⟩ := bind_some e
      cases e
      exact L.read σ H Q ⟨P, Z, ρ, r1, x, e1, fun v H' vl sh => q v H' vl sh⟩
    · exact no L
  · exact no fun ρ r e => hg (lcE_one e)
end
end Pf


namespace Pf
open PySem PySem.Spec L2

/-! ## statements -/
def OutOk (K : PySem.W.Frag) (io : List Nat) (P : List Bs) (Z : Addr → Prop) (σ : St) (r : Out) (D : Ends) : Prop :=
  match r with
  | .nx ρ => ∀ σ' H', Stt K P Z ρ σ' H' → Keep io σ σ' → D.nx σ' H'
  | .bk ρ => ∀ σ' H', Stt K P Z ρ σ' H' → Keep io σ σ' → D.bk σ' H'
  | .ct ρ => ∀ σ' H', Stt K P Z ρ σ' H' → Keep io σ σ' → D.ct σ' H'
  | .rt o b ρ => ∀ σ' v H', OV K P Z σ' (o, b, ρ) v H' → Keep io σ σ' → D.rt v H'
def tS (K : PySem.W.Frag) (C : Ctx) (f : En → Option Out) : TS := fun D σ H => ∃ P Z ρ r, Stt K P Z ρ σ H ∧ f ρ = some r ∧ OutOk K C.io P Z σ r D
theorem OutOk.keep {K : PySem.W.Frag} {io : List Nat} {P : List Bs} {Z : Addr → Prop} {σ σ1 : St} {r : Out} {D : Ends} (h : OutOk K io P Z σ r D) (e : Keep io σ σ1) : OutOk K io P Z σ1 r D := by
  cases r with
  | nx ρ => exact fun σ' H' s k => h σ' H' s (e.trans k)
  | bk ρ => exact fun σ' H' s k => h σ' H' s (e.trans k)
  | ct ρ => exact fun σ' H' s k => h σ' H' s (e.trans k)
  | rt o b ρ => exact fun σ' v H' s k => h σ' v H' s (e.trans k)
theorem OV.pop {K : PySem.W.Frag} {b : Bs} {P : List Bs} {Z : Addr → Prop} {σ : St} {r : Opn × Bool × En} {v : V} {H : Hp} (h : OV K (b :: P) Z σ r v H) : OV K P Z σ r v H := by
  obtain ⟨o, c, ρ⟩ := r
  cases o with
  | slot i => exact ⟨h.1.pop, h.2⟩
  | val d => exact Val.pop h
theorem OutOk.push {K : PySem.W.Frag} {io : List Nat} {b : Bs} {P : List Bs} {Z : Addr → Prop} {σ : St} {r : Out} {D : Ends} (h : OutOk K io P Z σ r D) : OutOk K io (b :: P) Z σ r D := by
  cases r with
  | nx ρ => exact fun σ' H' s k => h σ' H' s.pop k
  | bk ρ => exact fun σ' H' s k => h σ' H' s.pop k
  | ct ρ => exact fun σ' H' s k => h σ' H' s.pop k
  | rt o b ρ => exact fun σ' v H' s k => h σ' v H' s.pop k
section
variable {X : Cx} {C : Ctx} {B : Bk} {k : Nat} {F : Fns}
theorem _root_.L2.PSs.no {X : Cx} {e : List Stmt} {t : TS} (h : ∀ D σ H, t D σ H → False) : PSs X e t := ⟨fun pins s σ H D I q => (h _ _ _ q).elim⟩
abbrev SoS (X : Cx) (C : Ctx) (F : Fns) (B : Bk) : Prop := ∀ st, PS X st (tS X.K C (F.s B st))
theorem st_stmts (S : SoS X C F B) : ∀ ss, PSs X ss (tS X.K C (stmts F B ss))
  | [] => pss_nil.imp fun D σ H h => by
    obtain ⟨P, Z, ρ, r, x, e, q⟩ := h
    cases e
    exact q σ H x (.refl _ _)
  | s :: ss => by
    refine (pss_cons (S s) (st_stmts S ss)).imp fun D σ H h => ?_
    obtain ⟨P, Z, ρ, r, x, e, q⟩ := h
    simp only [stmts] at e
    obtain ⟨r1, e1, e⟩ := bind_some e
    refine ⟨P, Z, ρ, r1, x, e1, ?_⟩
    cases r1 with
    | nx ρ1 => exact fun σ' H' s1 k1 => ⟨P, Z, ρ1, r, s1, e, q.keep k1⟩
    | bk ρ1 => cases e; exact q
    | ct ρ1 => cases e; exact q
    | rt o b ρ1 => cases e; exact q
theorem ss_if (S : SoO X C F B) (R : SoS X C F B) (t : Expr) (a b : List Stmt) (p : Pos) : PS X (.If t a b p) (tS X.K C fun ρ => (F.t B t ρ).bind fun r => if r.1 then stmts F B a r.2 else stmts F B b r.2) := by
  refine (ps_if (S.t t) (st_stmts R a) (st_stmts R b)).imp fun D σ H h => ?_
  obtain ⟨P, Z, ρ, r, x, e, q⟩ := h
  obtain ⟨r1, e1, e⟩ := bind_some e
  refine ⟨P, Z, ρ, r1, x, e1, fun H1 s1 sh => ?_⟩
  by_cases hk : r1.1 = true
  · rw [if_pos hk] at e
    rw [if_pos hk]
    exact ⟨P, Z, r1.2, r, s1, e, q⟩
  · rw [if_neg hk] at e
    rw [if_neg hk]
    exact ⟨P, Z, r1.2, r, s1, e, q⟩
theorem ss_while (T : Fits X C B k) (S : SoO X C F B) (R : SoS X C F B) (t : Expr) (b : List Stmt) (p : Pos) : PS X (.While t b [] p) (tS X.K C (whileD (F.t B t) (stmts F B b) C.w)) := by
  refine (ps_while T.own (S.t t) (st_stmts R b)).imp fun D σ H h => ?_
  obtain ⟨P, Z, ρ, r, x, e, q⟩ := h
  refine ⟨fun m σ' H' => ∃ ρ', Stt X.K P Z ρ' σ' H' ∧ Keep C.io σ σ' ∧ whileD (F.t B t) (stmts F B b) m ρ' = some r, ⟨C.w, ρ, x, .refl _ _, e⟩, fun m σ' H' w => ?_⟩
  obtain ⟨ρ', s1, k1, e1⟩ := w
  cases m with
  | zero => cases e1
  | succ m =>
    simp only [whileD] at e1
    obtain ⟨r1, a1, e1⟩ := bind_some e1
    refine ⟨P, Z, ρ', r1, s1, a1, fun H1 s2 sh => ?_⟩
    by_cases hk : r1.1 = true
    · rw [if_pos hk] at e1
      rw [if_pos hk]
      obtain ⟨r2, a2, e1⟩ := bind_some e1
      refine ⟨fun σ2 H2 => ∃ ρ', Stt X.K P Z ρ' σ2 H2 ∧ Keep C.io σ σ2 ∧ whileD (F.t B t) (stmts F B b) m ρ' = some r, fun σ2 H2 n => ⟨m, Nat.lt_succ_self m, n⟩, P, Z, r1.2, r2, s2, a2, ?_⟩
      cases r2 with
      | nx ρ1 => exact fun σ2 H2 s3 k2 => ⟨ρ1, s3, k1.trans k2, e1⟩
      | ct ρ1 => exact fun σ2 H2 s3 k2 => ⟨ρ1, s3, k1.trans k2, e1⟩
      | bk ρ1 => cases e1; exact fun σ2 H2 s3 k2 => q σ2 H2 s3 (k1.trans k2)
      | rt o b ρ1 => cases e1; exact fun σ2 v H2 s3 k2 => q σ2 v H2 s3 (k1.trans k2)
    · rw [if_neg hk] at e1
      rw [if_neg hk]
      cases e1
      exact q σ' H1 s2 k1
theorem ss_for (T : Fits X C B k) (S : SoO X C F B) (R : SoS X C F B) (tg it : Expr) (b : List Stmt) (p : Pos) (hns : notSet it = true) : PS X (.For tg it b [] p) (tS X.K C fun ρ => (iterE C F B tg it ρ).bind fun r => forD (tgD C B tg) (stmts F B b) r.1 r.2) := by
  refine (ps_for T.own T.calm (st_iter T S tg it) (st_tg T tg) (st_stmts R b) (folded_no hns)).imp fun D σ H h => ?_
  obtain ⟨P, Z, ρ, r, x, e, q⟩ := h
  obtain ⟨r1, e1, e⟩ := bind_some e
  refine ⟨P, Z, ρ, r1, x, e1, fun J H1 wd s1 sh => ?_⟩
  obtain ⟨G, Y, w, hG, hY⟩ := wd.ex
  let Pv : Nat → St → Hp → Prop := fun i σ' H' => ∃ ρ', Stt X.K (⟨H1, OwnA r1.2 σ⟩ :: P) Z ρ' σ' H' ∧ Keep C.io σ σ' ∧ forD (tgD C B tg) (stmts F B b) (r1.1.drop i) ρ' = some r
  have pre0 : ∀ {ρ' : En} {σ' : St} {H' : Hp}, Stt X.K (⟨H1, OwnA r1.2 σ⟩ :: P) Z ρ' σ' H' → Pre (UU r1.2 σ Z) H1 H' := fun {ρ' σ' H'} s => (s.pre _ List.mem_cons_self).1.mono fun a u => .inr u
  refine for_it w Pv ⟨r1.2, s1.push, .refl _ _, e⟩ (fun i σ' H' hi pv => ?_) (fun i y σ' H' H2 hi pv yy => ?_) fun σ' H' pv => ?_
  · obtain ⟨ρ', s2, k2, e2⟩ := pv
    exact hG H' (pre0 s2)
  · obtain ⟨ρ', s2, k2, e2⟩ := pv
    obtain ⟨d, ed, s3, r3⟩ := hY i H' y H2 _ _ ρ' σ' hi (pre0 s2) yy s2 fun a u => by
      rcases u with u | ⟨j, d, u1, u2⟩
      · exact .inl (.inl u)
      · obtain ⟨p, u3, _, _, bb⟩ := s2.ow j d u1
        rw [u2] at u3
        cases u3
        rcases bb _ List.mem_cons_self with z | z
        · exact .inl (.inr z)
        · exact .inr z
    have hdrop : r1.1.drop i = d :: r1.1.drop (i + 1) := by
      rw [List.drop_eq_getElem_cons hi]
      rw [List.getElem?_eq_getElem hi] at ed
      cases ed
      rfl
    rw [hdrop] at e2
    simp only [forD] at e2
    obtain ⟨ρ0, a1, e2⟩ := bind_some e2
    obtain ⟨r2, a2, e2⟩ := bind_some e2
    refine ⟨_, Z, ρ', d, ρ0, s3, r3, a1, fun σ2 s4 sh4 tgk => ?_⟩
    refine ⟨_, Z, ρ0, r2, s4, a2, ?_⟩
    have k3 := k2.trans tgk.1
    cases r2 with
    | nx ρ1 => exact fun σ3 H3 s5 k5 => ⟨ρ1, s5, k3.trans k5, e2⟩
    | ct ρ1 => exact fun σ3 H3 s5 k5 => ⟨ρ1, s5, k3.trans k5, e2⟩
    | bk ρ1 => cases e2; exact fun σ3 H3 s5 k5 => q σ3 H3 s5.pop (k3.trans k5)
    | rt o b ρ1 => cases e2; exact fun σ3 v H3 s5 k5 => q σ3 v H3 s5.pop (k3.trans k5)
  · obtain ⟨ρ', s2, k2, e2⟩ := pv
    rw [List.drop_length] at e2
    simp only [forD] at e2
    cases e2
    exact q σ' H' s2.pop k2
theorem Stt.setO {K : PySem.W.Frag} {P : List Bs} {Z : Addr → Prop} {ρ : En} {σ : St} {H : Hp} {b : Bool} {v : V} {d : PyData} (x : Val K P Z ρ σ b v d H) (i : Nat) : Stt K P Z (ρ.set i (some (b, d))) (σ.set i (some v)) H := by
  cases b with
  | false => exact Stt.setS x.1 x.2
  | true =>
    obtain ⟨p, rfl, nz, s, c, hb⟩ := x
    by_cases hi : i < σ.length
    · exact s.setOwn c nz hb hi
    · rw [List.set_eq_of_length_le (by rw [s.len]; omega), List.set_eq_of_length_le (by omega)]
      exact s.zmono fun a z => .inl z
theorem noComp_sw {e : Expr} {t : Option Expr} {l : Nat} {env : Env} (h : noComp e = true) : swapsWith e t l env = pure false := by
  cases e <;> first | rfl | (simp [noComp] at h)
theorem setE_some {x : Str} {r : Bool × PyData × En} {ρ : En} (h : setE C B x r = some ρ) : B.loc x = true ∧ ∃ i, ixOf x C.N = some i ∧ C.io.contains i = false ∧ ρ = r.2.2.set i (some (r.1, r.2.1)) := by
  unfold setE at h
  obtain ⟨h1, h⟩ := ite_some h
  obtain ⟨i, h2, h⟩ := bind_some h
  obtain ⟨h3, h⟩ := ite_some' h
  cases h
  exact ⟨h1, i, h2, h3, rfl⟩
/-- name = e, e's meaning f -/
theorem ss_setG (T : Fits X C B k) {x : Str} {px pos : Pos} {e : Expr} {f : En → Option (Bool × PyData × En)} {te : TE} (hp : ∀ i, X.N[i]? = some x → Loc X.env.scope x → (X.fn x = true ∨ X.env.scope.names.lookup x = some .local) → PS X (.Assign [.Name x px] e pos) (tAsg te (gName i)))
    (ht : ∀ σ H Q, tV X.K f σ H Q → te σ H Q) : PS X (.Assign [.Name x px] e pos) (tS X.K C fun ρ => (f ρ).bind fun r => (setE C B x r).bind fun ρ1 => some (.nx ρ1)) := by
  by_cases hl : B.loc x = true
  · cases hix : ixOf x C.N with
    | none =>
      refine .no fun D σ H h => ?_
      obtain ⟨P, Z, ρ, r, s, e1, q⟩ := h
      obtain ⟨r1, _, e1⟩ := bind_some e1
      obtain ⟨ρ1, e2, _⟩ := bind_some e1
      obtain ⟨_, i, h, _⟩ := setE_some e2
      rw [hix] at h
      cases h
    | some i =>
      have hx := T.fn x hl
      refine (hp i (T.name hix) (by rw [T.hsc]; exact hx.1) (by rw [T.hsc]; exact hx.2)).imp fun D σ H h => ?_
      obtain ⟨P, Z, ρ, r, s, e1, q⟩ := h
      obtain ⟨r1, e3, e1⟩ := bind_some e1
      obtain ⟨ρ1, e2, e1⟩ := bind_some e1
      cases e1
      obtain ⟨_, j, h1, h2, rfl⟩ := setE_some e2
      rw [hix] at h1
      cases h1
      refine ht _ _ _ ⟨P, Z, ρ, r1, s, e3, fun v H1 vl sh => ?_⟩
      exact q _ H1 (Stt.setO vl i) (Keep.set h2)
  · refine .no fun D σ H h => ?_
    obtain ⟨P, Z, ρ, r, s, e1, q⟩ := h
    obtain ⟨r1, _, e1⟩ := bind_some e1
    obtain ⟨ρ1, e2, _⟩ := bind_some e1
    exact hl (setE_some e2).1
theorem ss_set (T : Fits X C B k) (S : SoO X C F B) (x : Str) (px pos : Pos) (e : Expr) (hn : noComp e = true) : PS X (.Assign [.Name x px] e pos) (tS X.K C fun ρ => (valE C F B e ρ).bind fun r => (setE C B x r).bind fun ρ1 => some (.nx ρ1)) :=
  ss_setG T (fun i h1 h2 h3 => ps_set T.ndX h1 h2 (S.v e) (noComp_sw hn) h3) fun _ _ _ h => h
theorem sw_lc {elt : Expr} {gs : List Comprehension} {scope : Scope} {pos py : Pos} {y : Str} {l : Nat} {env : Env} : swapsWith (.ListComp elt gs scope pos) (some (.Name y py)) l env = pure true ∨ swapsWith (.ListComp elt gs scope pos) (some (.Name y py)) l env = pure false := by
  have : swapsWith (.ListComp elt gs scope pos) (some (.Name y py)) l env = pure (env.blockKind == .function && env.kindOf y == some .local && py.line == pos.line && !(scope.names.any fun (n, k) => n == y && (k == .local || k == .cell))) := rfl
  rw [this]
  cases (env.blockKind == .function && env.kindOf y == some .local && py.line == pos.line && !(scope.names.any fun (n, k) => n == y && (k == .local || k == .cell))) with
  | true => exact .inl rfl
  | false => exact .inr rfl
theorem sw_loc {elt : Expr} {gs : List Comprehension} {scope : Scope} {pos py : Pos} {y : Str} {l : Nat} {env : Env} (h : env.kindOf y ≠ some .local) : swapsWith (.ListComp elt gs scope pos) (some (.Name y py)) l env = pure false := by
  have : swapsWith (.ListComp elt gs scope pos) (some (.Name y py)) l env = pure (env.blockKind == .function && env.kindOf y == some .local && py.line == pos.line && !(scope.names.any fun (n, k) => n == y && (k == .local || k == .cell))) := rfl
  rw [this]
  have : (env.kindOf y == some .local) = false := by simpa using h
  rw [this]
  simp
theorem ss_setLc (T : Fits X C B k) (A : AllO C F k) (x : Str) (px pos p : Pos) (elt : Expr) (gs : List Comprehension) (scope : Scope) :
    PS X (.Assign [.Name x px] (.ListComp elt gs scope p) pos) (tS X.K C fun ρ => (lcE C F B elt gs scope ρ).bind fun q => (setE C B x (true, .list q.1, q.2)).bind fun ρ1 => some (.nx ρ1)) := by
  have no : (∀ ρ r, lcE C F B elt gs scope ρ = some r → False) → PS X (.Assign [.Name x px] (.ListComp elt gs scope p) pos) (tS X.K C fun ρ => (lcE C F B elt gs scope ρ).bind fun q => (setE C B x (true, .list q.1, q.2)).bind fun ρ1 => some (.nx ρ1)) := fun h => .no fun D σ H z => by
    obtain ⟨P, Z, ρ, r, s, e, q⟩ := z
    obtain ⟨r1, e1, _⟩ := bind_some e
    exact h ρ r1 e1
  by_cases hg : ∃ tg iter ifs, gs = [⟨tg, iter, ifs, 0⟩]
  · obtain ⟨tg, iter, ifs, rfl⟩ := hg
    rcases lc_ok (F := F) T (elt := elt) (tg := tg) (iter := iter) (ifs := ifs) (scope := scope) with L | L
    · have S' := fun s H c cl fp => A _ _ (T.blk s H scope cl c fp)
      have main := ss_setG (C := C) (B := B) T (x := x) (px := px) (pos := pos) (e := .ListComp elt [⟨tg, iter, ifs, 0⟩] scope p) (f := fun ρ => (lcE C F B elt [⟨tg, iter, ifs, 0⟩] scope ρ).map fun q => (true, .list q.1, q.2))
        (te := tLc (tI X.K (iterE C F B tg iter)) (gT X.K C (blkOf B scope) tg) (tT X.K (testsT F (blkOf B scope) ifs)) (tV X.K (valE C F (blkOf B scope) elt)) ((ownOf C.N scope).map (·.2)))
        (fun i h1 h2 h3 => by
          by_cases hk : X.env.kindOf x = some .local
          · rcases sw_lc (elt := elt) (gs := [⟨tg, iter, ifs, 0⟩]) (scope := scope) (pos := p) (py := px) (y := x) (l := pos.line) (env := X.env) with sw | sw
            · exact ps_setLc T.calm T.ndX h1 hk sw (st_iter T (A X B T) tg iter) L.blk (fun s H c cl fp => st_tg (T.blk s H scope cl c fp) tg) (fun s H c cl fp => st_tests (S' s H c cl fp) ifs) (fun s H c cl fp => (S' s H c cl fp).v elt) (folded_no L.ns)
            · exact ps_set T.ndX h1 h2 (pe_lc (wi := tI X.K (iterE C F B tg iter)) (g := gT X.K C (blkOf B scope) tg) (tt := tT X.K (testsT F (blkOf B scope) ifs)) (te := tV X.K (valE C F (blkOf B scope) elt)) T.calm T.ndX (st_iter T (A X B T) tg iter) L.blk (fun s H c cl fp => st_tg (T.blk s H scope cl c fp) tg) (fun s H c cl fp => st_tests (S' s H c cl fp) ifs) (fun s H c cl fp => (S' s H c cl fp).v elt) (folded_no L.ns)) sw h3
          · exact ps_set T.ndX h1 h2 (pe_lc (wi := tI X.K (iterE C F B tg iter)) (g := gT X.K C (blkOf B scope) tg) (tt := tT X.K (testsT F (blkOf B scope) ifs)) (te := tV X.K (valE C F (blkOf B scope) elt)) T.calm T.ndX (st_iter T (A X B T) tg iter) L.blk (fun s H c cl fp => st_tg (T.blk s H scope cl c fp) tg) (fun s H c cl fp => st_tests (S' s H c cl fp) ifs) (fun s H c cl fp => (S' s H c cl fp).v elt) (folded_no L.ns)) (sw_loc hk) h3)
        (fun σ H Q z => L.read σ H Q (by
          obtain ⟨P, Z, ρ, r, s, e, q⟩ := z
          obtain ⟨r1, e1, rfl⟩ := map_some e
          exact ⟨P, Z, ρ, r1, s, e1, fun v H' vl sh => q v H' vl sh⟩))
      refine main.imp fun D σ H z => ?_
      obtain ⟨P, Z, ρ, r, s, e, q⟩ := z
      obtain ⟨r1, e1, e⟩ := bind_some e
      exact ⟨P, Z, ρ, r, s, by dsimp only; rw [e1]; exact e, q⟩
    · exact no L
  · exact no fun ρ r e => hg (lcE_one e)
theorem ss_tup (T : Fits X C B k) (S : SoO X C F B) (es : List Expr) (kt : Nat) (p pos : Pos) (e : Expr) (hn : noComp e = true) (ht : ∀ vs k2 p2, e ≠ .Tuple vs k2 p2) :
    PS X (.Assign [.Tuple es kt p] e pos) (tS X.K C fun ρ => (valE C F B e ρ).bind fun r => (tgD C B (.Tuple es kt p) r.2.1 r.2.2).bind fun ρ1 => some (.nx ρ1)) := by
  refine (ps_asg (S.v e) (st_tg T (.Tuple es kt p)) (show swapsWith e (some (.Tuple es kt p)) pos.line X.env = pure false from noComp_sw hn) (by cases e <;> first | rfl | exact (ht _ _ _ rfl).elim)).imp fun D σ H h => ?_
  obtain ⟨P, Z, ρ, r, s, e1, q⟩ := h
  obtain ⟨r1, e3, e1⟩ := bind_some e1
  obtain ⟨ρ1, e2, e1⟩ := bind_some e1
  cases e1
  refine ⟨P, Z, ρ, r1, s, e3, fun v H1 vl sh => ?_⟩
  obtain ⟨s1, rv⟩ := vl.share
  exact ⟨P, Z, r1.2.2, r1.2.1, ρ1, s1, rv, e2, fun σ' s2 sh2 tgk => q σ' H1 s2 tgk.1⟩
end
end Pf


namespace Pf
open PySem PySem.Spec L2
section
variable {X : Cx} {C : Ctx} {B : Bk} {k : Nat} {F : Fns}
theorem _root_.L2.PSet.or {X : Cx} {r r' : V → V → V → Hp → (Hp → Prop) → Prop} (h : PSet X r) (h' : PSet X r') : PSet X (fun o i v H Q => r o i v H Q ∨ r' o i v H Q) := by
  intro pins s σ H o i v ov iv u Q I ro ri rv h0
  rcases h0 with h0 | h0
  · exact h pins s σ H o i v ov iv u Q I ro ri rv h0
  · exact h' pins s σ H o i v ov iv u Q I ro ri rv h0
/-- d[k] = x, one's own dict -/
theorem cont_put {K : PySem.W.Frag} {H : Hp} {U : Addr → Prop} {p : Addr} {es : Es} {kv v : V} {kd d : PyData} (c : Cont K H U p (.dict es)) (up : U p) (ok : Opd K H U kv kd) (rd : Rep K H U v d) (e : okKey es kd = true) (hz : es.length < sizeLine) :
    ∃ o, DPx H p kv v (upd H p o) ∧ Cont K (upd H p o) U p (.dict (putE es kd d)) := by
  have pre : ∀ {o : HO} {vs : List V} {ds : List PyData}, RepAll K H U vs ds → RepAll K (upd H p o) U vs ds := fun r => r.pre (pre_upd.mono fun a e => e ▸ up)
  generalize hd : PyData.dict es = dd at c
  cases c with
  | lst _ _ => cases hd
  | @dK ks vs ds l h r =>
    cases hd
    cases hk : keyOf kd with
    | some k =>
      have := keyOf_some hk
      subst this
      obtain ⟨ks', vs', ds', a1, a2, a3, a4, _⟩ := putE_rel (enc := keyD) (fun j => keq_K j k) rd l r
      refine ⟨.dK (putK (ks.zip vs) k v), .inl (.inl ⟨_, k, h, ok.key_inv, ?_, rfl⟩), ?_⟩
      · have := r.length
        simp at hz ⊢
        omega
      · rw [a3, a2]
        exact .dK a1 upd_same (pre a4)
    | none =>
      cases ks with
      | cons k0 ks =>
        cases vs with
        | nil => simp at l
        | cons v0 vs =>
          cases r with
          | cons r0 r => simp [okKey, keyOf_D, hk, tkOf_K] at e
      | nil =>
        cases vs with
        | cons _ _ => simp at l
        | nil =>
          cases r
          have e' : (tkOf kd).isSome = true := by simpa [okKey, hk] using e
          obtain ⟨kk, ht⟩ := Option.isSome_iff_exists.mp e'
          obtain ⟨rfl, hl⟩ := tkOf_some ht
          obtain ⟨b, rfl, hb⟩ := ok.tkey_inv hl
          refine ⟨.dT [(kk, v)], .inr ⟨kk, b, h, rfl, hb, rfl⟩, ?_⟩
          have e1 : putE (([] : List Key).map keyD |>.zip []) (keysD kk) d = ([kk].map keysD).zip [d] := rfl
          rw [e1]
          exact .dT (vs := [v]) ⟨rfl, by simp, by simpa using hl⟩ upd_same (pre (.cons rd .nil))
  | @dT ks vs ds l h r =>
    cases hd
    obtain ⟨l, hn, hk⟩ := l
    cases ks with
    | nil => exact (hn rfl).elim
    | cons k0 ks =>
      have e' : (tkOf kd).isSome = true := by
        cases r with
        | nil => simp at l
        | cons r0 r =>
          simp only [okKey, List.map_cons, List.zip_cons_cons, keyOf_T] at e
          simp only [Option.isSome_none, Bool.false_and, Bool.false_or, Bool.and_eq_true] at e
          exact e.2
      obtain ⟨kk, ht⟩ := Option.isSome_iff_exists.mp e'
      obtain ⟨rfl, hl⟩ := tkOf_some ht
      obtain ⟨b, rfl, hb⟩ := ok.tkey_inv hl
      obtain ⟨ks', vs', ds', a1, a2, a3, a4, a5, a6⟩ := putE_rel (enc := keysD) (fun j => keq_T hl) rd l r
      refine ⟨.dT (putK ((k0 :: ks).zip vs) kk v), .inl (.inr ⟨_, kk, b, h, rfl, hb, ?_, rfl⟩), ?_⟩
      · have := r.length
        simp at hz l ⊢
        omega
      · rw [a3, a2]
        refine .dT ⟨a1, a5, fun j hj => ?_⟩ upd_same (pre a4)
        rcases a6 j hj with h | rfl
        · exact hk j h
        · exact hl
theorem ss_sub (T : Fits X C B k) (S : SoO X C F B) (o i : Expr) (sp pos : Pos) (e : Expr) (hn : noComp e = true) (hi : isSl i = false) :
    PS X (.Assign [.Subscript o i sp] e pos) (tS X.K C (subE C F B o i e)) := by
  refine (ps_asg (S.v e) (pg_sub (pos := sp) (S.o o) (S.o i) (set_list.or (set_dx (by have := T.u64; omega))) (by intro v; cases i <;> first | rfl | (simp [isSl] at hi))) (show swapsWith e (some (.Subscript o i sp)) pos.line X.env = pure false from noComp_sw hn) (by cases e <;> rfl)).imp fun D σ H h => ?_
  obtain ⟨P, Z, ρ, r, s, e1, q⟩ := h
  unfold subE at e1
  obtain ⟨r1, a1, e1⟩ := bind_some e1
  obtain ⟨r2, a2, e1⟩ := bind_some e1
  split at e1
  · rename_i j hj
    obtain ⟨r3, a3, e1⟩ := bind_some e1
    obtain ⟨kd, a4, e1⟩ := bind_some e1
    split at e1
    · rename_i d hd
      obtain ⟨d', a5, e1⟩ := bind_some e1
      cases e1
      refine ⟨P, Z, ρ, r1, s, a1, fun v H1 vl sh1 => ?_⟩
      obtain ⟨s1, rv1⟩ := vl.share
      refine ⟨_, Z, r1.2.2, r2, s1.push, a2, fun ov H2 ovl sh2 => ?_⟩
      unfold OV at ovl
      rw [hj] at ovl
      obtain ⟨s2, hov, _⟩ := ovl
      have rv2 := later rv1 s2 sh2
      refine ⟨_, Z, r2.2.2, r3, s2.pop.push, a3, fun iv H3 ivl sh3 => ?_⟩
      obtain ⟨s3, o3⟩ := ivl.stt
      have rv3 := later rv2 s3 sh3
      have o3 := o3.opd s3 a4
      obtain ⟨p, g1, c, _⟩ := s3.ow j d hd
      rw [hov] at g1
      cases g1
      unfold setIx at a5
      split at a5
      · rename_i xs kk
        obtain ⟨jj, a6, rfl⟩ := map_some a5
        obtain rfl := o3.int_inv
        cases c with
        | lst c1 c2 =>
          refine .inl ⟨p, _, kk, jj, rfl, rfl, c1, by rw [c2.length]; exact a6, ?_⟩
          have up : UU r3.2.2 σ Z p := .inr ⟨j, _, hd, hov⟩
          refine q σ _ (s3.mut hd hov (.lst upd_same ?_)).pop (.refl _ _)
          exact (c2.set rv3 jj).pre (pre_upd.mono fun a e => by subst e; exact up)
      · obtain ⟨hc, a5⟩ := ite_some a5
        cases a5
        simp only [Bool.and_eq_true, decide_eq_true_eq] at hc
        have up : UU r3.2.2 σ Z p := .inr ⟨j, _, hd, hov⟩
        obtain ⟨o', g1, g2⟩ := cont_put c up o3 rv3 hc.1 hc.2
        exact .inr ⟨p, _, rfl, g1, q σ _ (s3.mut hd hov g2).pop (.refl _ _)⟩
      · cases a5
    · cases e1
  · cases e1
theorem aug_ok (X : Cx) (op : Operator) : ∃ ti : TIp, PIp X op ti ∧ ∀ (a b z : Int) (H : Hp) (Q : VK), augD op a b = some z → Q (.int z) H → ti (.int a) (.int b) H Q := by
  cases op with
  | Add => exact ⟨_, ip_add, fun a b z H Q h q => by cases h; exact ⟨a, b, rfl, rfl, q⟩⟩
  | Sub => exact ⟨_, ip_sub, fun a b z H Q h q => by cases h; exact ⟨a, b, rfl, rfl, q⟩⟩
  | Mult => exact ⟨_, iop_mul, fun a b z H Q h q => by
      simp only [augD] at h
      obtain ⟨hc, h⟩ := ite_some h
      cases h
      exact ⟨a, b, rfl, rfl, by simpa [CMul] using hc, q⟩⟩
  | FloorDiv => exact ⟨_, iop_fdiv, fun a b z H Q h q => by
      simp only [augD] at h
      obtain ⟨hc, h⟩ := ite_some h
      cases h
      exact ⟨a, b, rfl, rfl, by simpa [CDiv] using hc, q⟩⟩
  | _ => exact ⟨fun _ _ _ _ => False, fun _ _ _ _ _ _ _ _ _ _ _ _ h => h.elim, fun a b z H Q h q => by cases h⟩
theorem ss_aug (T : Fits X C B k) (S : SoO X C F B) (x : Str) (px pos : Pos) (op : Operator) (e : Expr) :
    PS X (.AugAssign (.Name x px) op e pos) (tS X.K C (stepS C F B (.AugAssign (.Name x px) op e pos))) := by
  by_cases hv : (visB B.sc x && B.loc x) = true
  · cases hix : ixOf x C.N with
    | none =>
      refine .no fun D σ H h => ?_
      obtain ⟨P, Z, ρ, r, s, e1, q⟩ := h
      simp only [stepS, if_pos hv, hix] at e1
      cases e1
    | some i =>
      have hl : B.loc x = true := by simp only [Bool.and_eq_true] at hv; exact hv.2
      have hx := T.fn x hl
      obtain ⟨ti, hp, ht⟩ := aug_ok X op
      refine (ps_aug T.ndX (T.name hix) (by rw [T.hsc]; exact hx.1) (S.o e) hp (by rw [T.hsc]; exact hx.2)).imp fun D σ H h => ?_
      obtain ⟨P, Z, ρ, r, s, e1, q⟩ := h
      simp only [stepS, if_pos hv, hix, Option.bind_some] at e1
      obtain ⟨hio, e1⟩ := ite_some' e1
      split at e1
      · rename_i a ha
        obtain ⟨r1, a1, e1⟩ := bind_some e1
        split at e1
        · rename_i b hb
          obtain ⟨z, a2, e1⟩ := bind_some e1
          cases e1
          obtain ⟨v, g1, g2⟩ := s.sh i _ ha
          obtain rfl := g2.int_inv
          refine ⟨.int a, g1, P, Z, ρ, r1, s, a1, fun v H1 ov sh => ?_⟩
          obtain ⟨s1, o1⟩ := ov.stt
          rw [hb] at o1
          have o1 : Rep X.K H1 (UU r1.2.2 σ Z) v (.int b) := o1
          obtain rfl := o1.int_inv
          exact ht a b z H1 _ a2 (q _ H1 (s1.setS (.int z)) (Keep.set hio))
        · cases e1
      · cases e1
  · refine .no fun D σ H h => ?_
    obtain ⟨P, Z, ρ, r, s, e1, q⟩ := h
    simp only [stepS, if_neg hv] at e1
    cases e1
theorem eraseDups_two {x y : Str} (h : (x == y) = false) : ([x, y] : List Str).eraseDups = [x, y] := by
  have h' : ¬ y = x := fun e => by subst e; simp at h
  have h2 : (y == x) = false := by simpa using h'
  simp [List.eraseDups, List.eraseDupsBy, List.eraseDupsBy.loop, h2]
theorem sw_par {x y : Str} {px py p : Pos} {kt : Nat} {a b : Expr} {k2 : Nat} {p2 : Pos} {env : Env} (hk : env.scope.kind = .function) (hx : env.scope.names.lookup x = some .local) (hy : env.scope.names.lookup y = some .local) (h : swB x y px py a b = true) :
    swappedStores [.Tuple [.Name x px, .Name y py] kt p] (.Tuple [a, b] k2 p2) env = pure (some [x, y]) := by
  unfold swB at h
  simp only [Bool.and_eq_true, Bool.not_eq_true'] at h
  obtain ⟨⟨⟨⟨⟨h1, h2⟩, h3⟩, h4⟩, h5⟩, h6⟩ := h
  have kx : env.kindOf x = some .local := hx
  have ky : env.kindOf y = some .local := hy
  have hb : env.blockKind = .function := by unfold Env.blockKind; rw [hk]; rfl
  have hl : (py.line == px.line) = true := by
    rw [beq_iff_eq] at h1 ⊢
    exact h1.symm
  unfold swappedStores
  simp only [hb, List.length_cons, List.length_nil, List.any_cons, List.any_nil, List.head?_cons, Option.map_some, Option.getD_some, Expr.pos, List.filterMap_cons, List.filterMap_nil, kx, ky, hl, h5, h6]
  simp
  rw [if_neg]
  · rw [eraseDups_two h2]
    simp
  · rintro (h | h)
    · split at h
      · simp [star] at h3
      · cases h
    · split at h
      · simp [star] at h4
      · cases h
theorem ss_par (T : Fits X C B k) (S : SoO X C F B) (hkind : X.env.scope.kind = .function) (x y : Str) (px py p : Pos) (kt : Nat) (a b : Expr) (k2 : Nat) (p2 pos : Pos) :
    PS X (.Assign [.Tuple [.Name x px, .Name y py] kt p] (.Tuple [a, b] k2 p2) pos) (tS X.K C (stepS C F B (.Assign [.Tuple [.Name x px, .Name y py] kt p] (.Tuple [a, b] k2 p2) pos))) := by
  have no : (∀ ρ r, stepS C F B (.Assign [.Tuple [.Name x px, .Name y py] kt p] (.Tuple [a, b] k2 p2) pos) ρ = some r → False) → PS X (.Assign [.Tuple [.Name x px, .Name y py] kt p] (.Tuple [a, b] k2 p2) pos) (tS X.K C (stepS C F B (.Assign [.Tuple [.Name x px, .Name y py] kt p] (.Tuple [a, b] k2 p2) pos))) := fun h => .no fun D σ H z => by
    obtain ⟨P, Z, ρ, r, s, e, q⟩ := z
    exact h ρ r e
  by_cases hc : ((B.sc.names.lookup x == some .local) && (B.sc.names.lookup y == some .local) && B.loc x && B.loc y && swB x y px py a b) = true
  · have hc' := hc
    simp only [Bool.and_eq_true, beq_iff_eq] at hc
    obtain ⟨⟨⟨⟨hx, hy⟩, lx⟩, ly⟩, hs⟩ := hc
    cases hix : ixOf x C.N with
    | none =>
      refine no fun ρ r e => ?_
      simp only [stepS, if_pos hc', hix] at e
      obtain ⟨q, e1, e⟩ := bind_some e
      split at e <;> cases e
    | some i =>
      cases hiy : ixOf y C.N with
      | none =>
        refine no fun ρ r e => ?_
        simp only [stepS, if_pos hc', hix, hiy] at e
        obtain ⟨q, e1, e⟩ := bind_some e
        split at e <;> cases e
      | some j =>
        by_cases hij : i = j
        · refine no fun ρ r e => ?_
          simp only [stepS, if_pos hc', hix, hiy, Option.bind_some] at e
          obtain ⟨q, e1, e⟩ := bind_some e
          split at e
          · simp [hij] at e
          · cases e
        · refine (ps_par T.calm T.ndX (T.name hix) (T.name hiy) hij (by rw [T.hsc]; exact hx) (by rw [T.hsc]; exact hy) (pa_vals S [a, b]) (sw_par hkind (by rw [T.hsc]; exact hx) (by rw [T.hsc]; exact hy) hs)).imp fun D σ H h => ?_
          obtain ⟨P, Z, ρ, r, s, e, q⟩ := h
          simp only [stepS, if_pos hc', hix, hiy, Option.bind_some] at e
          obtain ⟨q1, e1, e⟩ := bind_some e
          split at e
          · rename_i d d' hq
            obtain ⟨hio, e⟩ := ite_some' e
            cases e
            simp only [Bool.or_eq_false_iff] at hio
            refine ⟨P, Z, ρ, q1, s, e1, fun vs H1 s1 rs sh => ?_⟩
            rw [hq] at rs
            cases rs with
            | cons r1 rs =>
              cases rs with
              | cons r2 rs =>
                cases rs
                refine ⟨_, _, rfl, q _ H1 ((s1.setS r1).setS (r2.mono uu_setSh)) ((Keep.set hio.1.1).trans (Keep.set hio.1.2))⟩
          · cases e
  · refine no fun ρ r e => ?_
    simp only [stepS, if_neg hc] at e
    cases e
end
end Pf


namespace Pf
open PySem PySem.Spec L2
section
variable {X : Cx} {C : Ctx} {B : Bk} {k : Nat} {F : Fns}
/-! ### a dict's display -/
def dTrs (X : Cx) (C : Ctx) (F : Fns) (B : Bk) : List (Option Expr) → List Expr → List (TE × TE)
  | some k :: ks, v :: vs => (tV X.K (valE C F B k), tV X.K (valE C F B v)) :: dTrs X C F B ks vs
  | _, _ => []
theorem pps_vals (S : SoO X C F B) (pos : Pos) : ∀ (ks : List (Option Expr)) (vs : List Expr), ks.length = vs.length → ks.all (·.isSome) = true → PPs X pos ks vs (dTrs X C F B ks vs)
  | [], [], _, _ => pps_nil
  | [], _ :: _, h, _ => by simp at h
  | _ :: _, [], h, _ => by simp at h
  | none :: _, _ :: _, _, h => by simp at h
  | some k :: ks, v :: vs, h, h2 => pps_cons (S.v k) (S.v v) (pps_vals S pos ks vs (by simpa using h) (by simpa using h2))
theorem disp_shape : ∀ {ks : List (Option Expr)} {vs : List Expr} {ρ : En} {q : Es × En}, dispE C F B ks vs ρ = some q → ks.length = vs.length ∧ ks.all (·.isSome) = true ∧ q.1.length = ks.length
  | [], [], ρ, q, h => by
    simp only [dispE] at h
    cases h
    exact ⟨rfl, rfl, rfl⟩
  | [], _ :: _, ρ, q, h => by simp [dispE] at h
  | none :: _, _, ρ, q, h => by simp [dispE] at h
  | some _ :: _, [], ρ, q, h => by simp [dispE] at h
  | some k :: ks, v :: vs, ρ, q, h => by
    simp only [dispE] at h
    obtain ⟨r, _, h⟩ := bind_some h
    obtain ⟨z, _, h⟩ := bind_some h
    obtain ⟨q', h1, h⟩ := bind_some h
    cases h
    obtain ⟨a, b, c⟩ := disp_shape h1
    exact ⟨by simp [a], by simpa using b, by simp [c]⟩
theorem disp_run : ∀ {ks : List (Option Expr)} {vs : List Expr} {P : List Bs} {Z : Addr → Prop} {ρ : En} {q : Es × En} {σ : St} {H : Hp} {R : List (V × V) → Hp → Prop}, Stt X.K P Z ρ σ H → dispE C F B ks vs ρ = some q →
    (∀ ps H2, Stt X.K P Z q.2 σ H2 → RepAll X.K H2 (UU q.2 σ Z) (ps.map (·.1)) (q.1.map (·.1)) → RepAll X.K H2 (UU q.2 σ Z) (ps.map (·.2)) (q.1.map (·.2)) → Shr ρ q.2 → R ps H2) → tPairs (dTrs X C F B ks vs) σ H R
  | [], [], P, Z, ρ, q, σ, H, R, x, h, f => by
    simp only [dispE] at h
    cases h
    exact f [] H x .nil .nil (.refl ρ)
  | [], _ :: _, _, _, ρ, q, _, _, _, _, h, _ => by simp [dispE] at h
  | none :: _, _, _, _, ρ, q, _, _, _, _, h, _ => by simp [dispE] at h
  | some _ :: _, [], _, _, ρ, q, _, _, _, _, h, _ => by simp [dispE] at h
  | some k :: ks, v :: vs, P, Z, ρ, q, σ, H, R, x, h, f => by
    simp only [dispE] at h
    obtain ⟨r, e1, h⟩ := bind_some h
    obtain ⟨z, e2, h⟩ := bind_some h
    obtain ⟨q', e3, h⟩ := bind_some h
    cases h
    refine ⟨P, Z, ρ, r, x, e1, fun u H1 u1 sh1 => ?_⟩
    obtain ⟨s1, rk⟩ := u1.share
    refine ⟨_, Z, _, z, s1.push, e2, fun w H2 w2 sh2 => ?_⟩
    obtain ⟨s2, rv⟩ := w2.share
    have rk2 := Pf.later rk s2 sh2
    refine disp_run s2.push e3 fun ps H3 s3 g1 g2 sh3 => ?_
    exact f ((u, w) :: ps) H3 s3.pop.pop (.cons (Pf.later rk2 s3 sh3) g1) (.cons (Pf.later rv s3 sh3) g2) (sh1.trans (sh2.trans sh3))
theorem keys_of : ∀ {ps : List (V × V)} {es : Es} {K : PySem.W.Frag} {H : Hp} {U : Addr → Prop}, (es.all fun e => (keyOf e.1).isSome) = true → RepAll K H U (ps.map (·.1)) (es.map (·.1)) → RepAll K H U (ps.map (·.2)) (es.map (·.2)) →
    ∃ ks : List Key, ks.length = (ps.map (·.2)).length ∧ ps = (ks.zip (ps.map (·.2))).map (fun kv => (kV kv.1, kv.2)) ∧ es = (ks.map keyD).zip (es.map (·.2))
  | [], [], _, _, _, _, _, _ => ⟨[], rfl, rfl, rfl⟩
  | [], _ :: _, _, _, _, _, h, _ => by cases h
  | _ :: _, [], _, _, _, _, h, _ => by cases h
  | (u, w) :: ps, (kd, d) :: es, _, _, _, ha, h1, h2 => by
    simp only [List.all_cons, Bool.and_eq_true] at ha
    cases h1 with
    | cons r1 t1 =>
      cases h2 with
      | cons r2 t2 =>
        obtain ⟨ks, a, b, c⟩ := keys_of ha.2 t1 t2
        obtain ⟨k, hk⟩ := Option.isSome_iff_exists.mp ha.1
        have e := keyOf_some hk
        subst e
        have e2 := r1.key_inv
        dsimp only at e2
        subst e2
        refine ⟨k :: ks, by simpa using a, ?_, ?_⟩
        · simp only [List.map_cons, List.zip_cons_cons, List.cons.injEq, true_and]
          exact b
        · simp only [List.map_cons, List.zip_cons_cons, List.cons.injEq, true_and]
          exact c
theorem st_dict (S : SoO X C F B) (ks : List (Option Expr)) (vs : List Expr) (p : Pos) : PE X (.Dict ks vs p) (tO X.K (stepO C F B (.Dict ks vs p))) := by
  have no : (∀ ρ r, stepO C F B (.Dict ks vs p) ρ = some r → False) → PE X (.Dict ks vs p) (tO X.K (stepO C F B (.Dict ks vs p))) := fun h => .no fun σ H Q z => by
    obtain ⟨P, Z, ρ, r, x, e, q⟩ := z
    exact h ρ r e
  by_cases h15 : ks.length ≤ 15
  · by_cases hl : ks.length = vs.length
    · by_cases ha : ks.all (·.isSome) = true
      · by_cases h0 : ks = []
        · subst h0
          cases vs with
          | cons _ _ => simp at hl
          | nil =>
            refine pe_dnewK.imp fun σ H Q h => ?_
            obtain ⟨P, Z, ρ, r, x, e, q⟩ := h
            simp only [stepO, dictE, List.length_nil, Nat.zero_le, if_true, dispE, Option.bind_some, List.all_nil] at e
            cases e
            intro a hp
            exact q _ _ (Val.newDic x hp (.inl ⟨[], [], [], rfl, rfl, rfl, .nil⟩)) (.refl ρ)
        · refine (pe_disp (pps_vals S p ks vs hl ha) ha hl h0 h15).imp fun σ H Q h => ?_
          obtain ⟨P, Z, ρ, r, x, e, q⟩ := h
          simp only [stepO, dictE, if_pos h15] at e
          obtain ⟨r1, e1, e⟩ := bind_some e
          cases e
          obtain ⟨r2, e2, e1⟩ := bind_some e1
          obtain ⟨hk, e1⟩ := ite_some e1
          cases e1
          intro a hp
          obtain ⟨f1, f2, f3⟩ := x.fresh hp
          have y := x.newZ (o := .dK []) hp (fun _ z => by cases z)
          refine disp_run y.push e2 fun ps H2 s2 g1 g2 sh => ?_
          have hH : H2 a = some (.dK []) := (s2.pre _ List.mem_cons_self).2.2 a _ (.inr rfl) upd_same
          obtain ⟨kk, a1, a2, a3⟩ := keys_of hk g1 g2
          obtain ⟨ks', vs', ds', b1, b2, b3, b4⟩ := merge_rel (ks0 := []) (ws0 := []) (ds0 := []) a1 g2 rfl .nil
          refine ⟨hH, kk.zip (ps.map (·.2)), a2, ?_, ?_⟩
          · have l1 := (disp_shape e2).2.2
            have l2 := g2.length
            simp at l2 ⊢
            omega
          · have b2' : mergeK [] (kk.zip (ps.map (·.2))) = ks'.zip vs' := b2
            rw [b2']
            have s3 := s2.pop.zwrite (o := .dK (ks'.zip vs')) f1 (fun _ z => by cases z)
            refine q _ _ ⟨a, rfl, f2, s3, ?_, f1⟩ sh
            have b3' : mergeE [] r2.1 = (ks'.map keyD).zip ds' := by
              rw [a3]
              exact b3
            rw [b3']
            refine .dK b1 upd_same ((b4.pre (pre_upd.mono fun c e => ?_)).mono fun c u => ?_)
            · subst e
              exact .inl (.inr rfl)
            · rcases u with u | u
              · exact UU.zm (fun c z => .inl z) u
              · exact .inl (.inr u)
      · refine no fun ρ r e => ?_
        simp only [stepO, dictE, if_pos h15] at e
        obtain ⟨r1, e1, e⟩ := bind_some e
        obtain ⟨r2, e2, e1⟩ := bind_some e1
        exact ha (disp_shape e2).2.1
    · refine no fun ρ r e => ?_
      simp only [stepO, dictE, if_pos h15] at e
      obtain ⟨r1, e1, e⟩ := bind_some e
      obtain ⟨r2, e2, e1⟩ := bind_some e1
      exact hl (disp_shape e2).1
  · refine no fun ρ r e => ?_
    simp only [stepO, dictE, if_neg h15] at e
    cases e
/-! ### f-strings -/
def fTp (X : Cx) (C : Ctx) (F : Fns) (B : Bk) : Expr → TE
  | .Constant (.str y) _ _ => fun σ H Q => Q (.str y) H
  | .FormattedValue e (-1) none _ => tFmt (tO X.K (F.o B e))
  | _ => fun _ _ _ => False
theorem pe_ftp (S : SoO X C F B) (e : Expr) : PE X e (fTp X C F B e) := by
  unfold fTp
  split
  · exact pe_str
  · exact pe_fmt (S.o _)
  · exact .no fun _ _ _ h => h
theorem pj_all (S : SoO X C F B) : ∀ es, PJ X es (es.map (fTp X C F B))
  | [] => .nil
  | e :: es => .cons (pe_ftp S e) (pj_all S es)
theorem fstr_run : ∀ {es : List Expr} {acc : Str} {P : List Bs} {Z : Addr → Prop} {ρ : En} {q : Str × En} {σ : St} {H : Hp} {R : Str → Hp → Prop}, Stt X.K P Z ρ σ H → fstrE F B es acc ρ = some q →
    (∀ H2, Stt X.K P Z q.2 σ H2 → Shr ρ q.2 → R q.1 H2) → tJs (es.map (fTp X C F B)) acc σ H R
  | [], acc, P, Z, ρ, q, σ, H, R, x, h, f => by
    simp only [fstrE] at h
    cases h
    exact f H x (.refl ρ)
  | e :: es, acc, P, Z, ρ, q, σ, H, R, x, h, f => by
    unfold fstrE at h
    split at h
    · rename_i h0
      cases h0
    · rename_i a0 ρ0 y j p es' h0
      cases h0
      split at h
      · rename_i hz
        exact ⟨y, rfl, hz, fstr_run x h f⟩
      · cases h
    · rename_i a0 ρ0 e1 p es' h0
      cases h0
      obtain ⟨r, g1, h⟩ := bind_some h
      refine ⟨P, Z, _, r, x, g1, fun v H1 ov sh => ?_⟩
      obtain ⟨s1, o1⟩ := ov.stt
      split at h
      · rename_i y hr
        rw [hr] at o1
        have o1 : Rep X.K H1 _ v (.str y) := o1
        obtain rfl := o1.str_inv
        split at h
        · rename_i hz
          exact .inl ⟨y, rfl, hz.1, y, rfl, hz.2, fstr_run s1 h fun H2 s2 sh2 => f H2 s2 (sh.trans sh2)⟩
        · cases h
      · rename_i i hr
        rw [hr] at o1
        have o1 : Rep X.K H1 _ v (.int i) := o1
        obtain rfl := o1.int_inv
        split at h
        · rename_i hz
          exact .inr ⟨i, rfl, hz.1, _, rfl, hz.2, fstr_run s1 h fun H2 s2 sh2 => f H2 s2 (sh.trans sh2)⟩
        · cases h
      · cases h
    · cases h
theorem st_fstr (S : SoO X C F B) (es : List Expr) (p : Pos) : PE X (.JoinedStr es p) (tO X.K (stepO C F B (.JoinedStr es p))) := by
  have no : (∀ ρ r, stepO C F B (.JoinedStr es p) ρ = some r → False) → PE X (.JoinedStr es p) (tO X.K (stepO C F B (.JoinedStr es p))) := fun h => .no fun σ H Q z => by
    obtain ⟨P, Z, ρ, r, x, e, q⟩ := z
    exact h ρ r e
  match es with
  | [] => exact no fun ρ r e => by simp [stepO] at e
  | [_] => exact no fun ρ r e => by simp [stepO] at e
  | e1 :: e2 :: es =>
    refine (pe_joined (pj_all (C := C) S (e1 :: e2 :: es))).imp fun σ H Q h => ?_
    obtain ⟨P, Z, ρ, r, x, e, q⟩ := h
    simp only [stepO] at e
    obtain ⟨r1, a1, e⟩ := bind_some e
    cases e
    exact fstr_run x a1 fun H2 s2 sh => q _ H2 ⟨s2, .str _⟩ sh
end
end Pf


namespace Pf
open PySem PySem.Spec L2
section
variable {X : Cx} {C : Ctx} {B : Bk} {k : Nat} {F : Fns}
theorem tO_no {e : Expr} {f : En → Option (Opn × Bool × En)} (h : ∀ ρ r, f ρ = some r → False) : PE X e (tO X.K f) := .no fun σ H Q z => by
  obtain ⟨P, Z, ρ, r, x, e, q⟩ := z
  exact h ρ r e
theorem tT_no {e : Expr} {f : En → Option (Bool × En)} (h : ∀ ρ r, f ρ = some r → False) : PT X e (tT X.K f) := .no fun σ H Q z => by
  obtain ⟨P, Z, ρ, r, x, e, q⟩ := z
  exact h ρ r e
theorem tS_no {e : Stmt} {f : En → Option Out} (h : ∀ ρ r, f ρ = some r → False) : PS X e (tS X.K C f) := .no fun D σ H z => by
  obtain ⟨P, Z, ρ, r, x, e, q⟩ := z
  exact h ρ r e
theorem step_o (T : Fits X C B k) (A : AllO C F k) (e : Expr) : PE X e (tO X.K (stepO C F B e)) := by
  have S := A X B T
  cases e with
  | Constant c j p => exact st_const c j p
  | Name x p => exact st_name T x p
  | BinOp a op b p => exact st_bin S a op b p
  | UnaryOp op a p => exact st_un S op a p
  | IfExp t a b p => exact st_ifx S t a b p
  | Tuple es j p => exact st_tup S es j p
  | List es p => exact st_lst S es p
  | Subscript a i p =>
    by_cases hi : isSl i = true
    · cases i with
      | Slice lo hi2 st p2 =>
        cases st with
        | none => exact st_sl S a lo hi2 p2 p
        | some z => exact st_rev S a lo hi2 z p2 p
      | _ => simp [isSl] at hi
    · exact st_ix T S a i p (by simpa using hi)
  | ListComp elt gs scope p => exact st_lc T A elt gs scope p
  | Dict ks vs p => exact st_dict S ks vs p
  | JoinedStr es p => exact st_fstr S es p
  | BoolOp op es p => exact st_bool S op p es
  | Compare a ops es p =>
    refine (st_cmp T S a ops es p).1.imp fun σ H Q h => ?_
    obtain ⟨P, Z, ρ, r, x, e, q⟩ := h
    obtain ⟨r1, e1, e⟩ := bind_some e
    cases e
    exact ⟨P, Z, ρ, r1, x, e1, fun H1 s1 sh => q _ H1 ⟨s1, .bl _⟩ sh⟩
  | Call f args kws p =>
    cases f with
    | Name f p1 => exact st_callN T S f args kws p1 p
    | Attribute o m ap =>
      cases kws with
      | cons kw kws => exact tO_no fun ρ r h => by simp [stepO] at h
      | nil =>
        by_cases hl : (ap.endLine == p.line) = true
        · refine (st_met T S o m args ap p hl).imp fun σ H Q h => ?_
          obtain ⟨P, Z, ρ, r, x, e, q⟩ := h
          refine ⟨P, Z, ρ, r, x, ?_, q⟩
          simpa [stepO, hl] using e
        · exact tO_no fun ρ r h => by simp [stepO, hl] at h
    | _ => exact tO_no fun ρ r h => by simp [stepO] at h
  | _ => exact tO_no fun ρ r h => by simp [stepO] at h
theorem step_t (T : Fits X C B k) (S : SoO X C F B) (e : Expr) : PT X e (tT X.K (stepT C F B e)) := by
  have go : (∀ whole, isTrue e X.env whole = (do let v ← whole; standAt e.pos; holding [v] (truthy v))) → stepT C F B e = (fun ρ => (F.o B e ρ).bind fun r => (rdO r.2.2 r.1).bind fun d => (truthD d).bind fun k => some (k, r.2.2)) → PT X e (tT X.K (stepT C F B e)) := fun he hs => by
    rw [hs]
    refine (pt_truth (S.o e) he).imp fun σ H Q h => ?_
    obtain ⟨P, Z, ρ, r, x, e1, q⟩ := h
    obtain ⟨r1, a1, e1⟩ := bind_some e1
    obtain ⟨d, a2, e1⟩ := bind_some e1
    obtain ⟨kk, a3, e1⟩ := bind_some e1
    cases e1
    refine ⟨P, Z, ρ, r1, x, a1, fun v H1 ov sh => ?_⟩
    obtain ⟨s1, o1⟩ := ov.stt
    exact ⟨kk, tru_of (o1.opd s1 a2) a3, q H1 s1 sh⟩
  cases e with
  | UnaryOp op a p =>
    cases op with
    | Not =>
      refine (pt_not (S.t a)).imp fun σ H Q h => ?_
      obtain ⟨P, Z, ρ, r, x, e1, q⟩ := h
      simp only [stepT] at e1
      obtain ⟨r1, a1, e1⟩ := bind_some e1
      cases e1
      exact ⟨P, Z, ρ, r1, x, a1, fun H1 s1 sh => q H1 s1 sh⟩
    | _ => exact go (fun _ => rfl) rfl
  | BoolOp op es p => exact st_boolT S op p es
  | IfExp t a b p => exact tT_no fun ρ r h => by simp [stepT] at h
  | Compare a ops es p => exact (st_cmp T S a ops es p).2
  | _ => exact go (fun _ => rfl) rfl
theorem ss_doc (S : SoO X C F B) (e : Expr) (p : Pos) : PS X (.Expr e p) (tS X.K C (stepS C F B (.Expr e p))) := by
  have go : stepS C F B (.Expr e p) = (fun ρ => if noComp e then (F.o B e ρ).bind fun r => some (.nx r.2.2) else none) → PS X (.Expr e p) (tS X.K C (stepS C F B (.Expr e p))) := fun hs => by
    rw [hs]
    by_cases hn : noComp e = true
    · refine (ps_expr (S.o e) (noComp_sw hn)).imp fun D σ H h => ?_
      obtain ⟨P, Z, ρ, r, x, e1, q⟩ := h
      replace e1 : (if noComp e = true then (F.o B e ρ).bind fun r => some (Out.nx r.2.2) else none) = some r := e1
      rw [if_pos hn] at e1
      obtain ⟨r1, a1, e1⟩ := bind_some e1
      cases e1
      exact ⟨P, Z, ρ, r1, x, a1, fun v H1 ov sh => q σ H1 ov.stt.1 (.refl _ _)⟩
    · exact tS_no fun ρ r h => by
        replace h : (if noComp e = true then (F.o B e ρ).bind fun r => some (Out.nx r.2.2) else none) = some r := h
        rw [if_neg hn] at h
        cases h
  cases e with
  | Constant c j p2 =>
    cases c with
    | str z =>
      refine ps_doc.imp fun D σ H h => ?_
      obtain ⟨P, Z, ρ, r, x, e1, q⟩ := h
      simp only [stepS] at e1
      cases e1
      exact q σ H x (.refl _ _)
    | _ => exact go rfl
  | _ => exact go rfl
theorem ss_ret (S : SoO X C F B) (e : Option Expr) (p : Pos) : PS X (.Return e p) (tS X.K C (stepS C F B (.Return e p))) := by
  cases e with
  | none =>
    refine ps_retN.imp fun D σ H h => ?_
    obtain ⟨P, Z, ρ, r, x, e1, q⟩ := h
    simp only [stepS] at e1
    cases e1
    exact q σ .non H ⟨x, .non⟩ (.refl _ _)
  | some e =>
    refine (ps_ret (S.o e)).imp fun D σ H h => ?_
    obtain ⟨P, Z, ρ, r, x, e1, q⟩ := h
    simp only [stepS] at e1
    obtain ⟨r1, a1, e1⟩ := bind_some e1
    obtain ⟨o, b, ρ1⟩ := r1
    refine ⟨P, Z, ρ, _, x, a1, fun v H1 ov sh => ?_⟩
    cases o with
    | slot i =>
      obtain ⟨_, e1⟩ := ite_some' e1
      cases e1
      exact q σ v H1 ov (.refl _ _)
    | val d =>
      cases e1
      exact q σ v H1 ov (.refl _ _)
theorem step_s (T : Fits X C B k) (A : AllO C F k) (R : SoS X C F B) (st : Stmt) : PS X st (tS X.K C (stepS C F B st)) := by
  have S := A X B T
  cases st with
  | Pass p =>
    refine ps_pass.imp fun D σ H h => ?_
    · obtain ⟨P, Z, ρ, r, x, e1, q⟩ := h
      cases e1
      exact q σ H x (.refl _ _)
  | Break p =>
    refine ps_break.imp fun D σ H h => ?_
    · obtain ⟨P, Z, ρ, r, x, e1, q⟩ := h
      cases e1
      exact q σ H x (.refl _ _)
  | Continue p =>
    refine ps_continue.imp fun D σ H h => ?_
    · obtain ⟨P, Z, ρ, r, x, e1, q⟩ := h
      cases e1
      exact q σ H x (.refl _ _)
  | Expr e p => exact ss_doc S e p
  | Return e p => exact ss_ret S e p
  | If t a b p => exact ss_if S R t a b p
  | While t b el p =>
    cases el with
    | nil => exact ss_while T S R t b p
    | cons _ _ => exact tS_no fun ρ r h => by simp [stepS] at h
  | For tg it b el p =>
    cases el with
    | cons _ _ => exact tS_no fun ρ r h => by simp [stepS] at h
    | nil =>
      by_cases hn : notSet it = true
      · refine (ss_for T S R tg it b p hn).imp fun D σ H h => ?_
        obtain ⟨P, Z, ρ, r, x, e1, q⟩ := h
        refine ⟨P, Z, ρ, r, x, ?_, q⟩
        simpa [stepS, hn] using e1
      · exact tS_no fun ρ r h => by simp [stepS, hn] at h
  | AugAssign tg op e p =>
    cases tg with
    | Name x px => exact ss_aug T S x px p op e
    | _ => exact tS_no fun ρ r h => by simp [stepS] at h
  | Assign tgs e p =>
    cases tgs with
    | nil => exact tS_no fun ρ r h => by simp [stepS] at h
    | cons tg tgs =>
      cases tgs with
      | cons _ _ => exact tS_no fun ρ r h => by cases tg <;> simp [stepS] at h
      | nil =>
        cases tg with
        | Name x px =>
          by_cases hn : noComp e = true
          · refine (ss_set T S x px p e hn).imp fun D σ H h => ?_
            obtain ⟨P, Z, ρ, r, s, e1, q⟩ := h
            refine ⟨P, Z, ρ, r, s, ?_, q⟩
            cases e <;> first | (simp [noComp] at hn; done) | simpa [stepS, noComp] using e1
          · cases e with
            | ListComp elt gs scope p2 => exact ss_setLc T A x px p p2 elt gs scope
            | _ => exact tS_no fun ρ r h => by simp [stepS, hn] at h
        | Tuple es kt p1 =>
          by_cases ht : ∃ vs k2 p2, e = .Tuple vs k2 p2
          · obtain ⟨vs, k2, p2, rfl⟩ := ht
            by_cases hs : ∃ x px y py a b, es = [.Name x px, .Name y py] ∧ vs = [a, b]
            · obtain ⟨x, px, y, py, a, b, rfl, rfl⟩ := hs
              exact ⟨fun pins s σ H D I h => (ss_par T S I.ok.kind x y px py p1 kt a b k2 p2 p).run pins s σ H D I h⟩
            · refine tS_no fun ρ r h => ?_
              simp only [stepS] at h
              split at h
              · exact hs ⟨_, _, _, _, _, _, rfl, rfl⟩
              · cases h
          · by_cases hn : noComp e = true
            · refine (ss_tup T S es kt p1 p e hn fun vs k2 p2 z => ht ⟨vs, k2, p2, z⟩).imp fun D σ H h => ?_
              obtain ⟨P, Z, ρ, r, s, e1, q⟩ := h
              refine ⟨P, Z, ρ, r, s, ?_, q⟩
              cases e <;> first | (exfalso; exact ht ⟨_, _, _, rfl⟩) | (simp [noComp] at hn; done) | simpa [stepS, noComp] using e1
            · refine tS_no fun ρ r h => ?_
              cases e <;> first | (simp [noComp] at hn; done) | (simp [stepS, noComp] at h; done)
        | Subscript o i sp =>
          by_cases hc : (noComp e && isSl i == false) = true
          · have hc' := hc
            simp only [Bool.and_eq_true, beq_iff_eq] at hc
            refine (ss_sub T S o i sp p e hc.1 hc.2).imp fun D σ H h => ?_
            obtain ⟨P, Z, ρ, r, s, e1, q⟩ := h
            refine ⟨P, Z, ρ, r, s, ?_, q⟩
            simpa [stepS, hc.1, hc.2] using e1
          · refine tS_no fun ρ r h => ?_
            simp only [stepS] at h
            rw [if_neg hc] at h
            cases h
        | _ => exact tS_no fun ρ r h => by simp [stepS] at h
  | _ => exact tS_no fun ρ r h => by simp [stepS] at h
end
theorem all_ok (C : Ctx) (k : Nat) : ∀ n : Nat, AllO C (fns C n) k ∧ ∀ (X : Cx) (B : Bk), Fits X C B k → SoS X C (fns C n) B
  | 0 => ⟨fun X B T => ⟨fun e => tO_no fun ρ r h => (nomatch (show (none : Option _) = some r from h)), fun e => tT_no fun ρ r h => (nomatch (show (none : Option _) = some r from h))⟩, fun X B T st => tS_no fun ρ r h => (nomatch (show (none : Option _) = some r from h))⟩
  | n + 1 => by
    obtain ⟨A, R⟩ := all_ok C k n
    exact ⟨fun X B T => ⟨fun e => step_o T A e, fun e => step_t T (A X B T) e⟩, fun X B T st => step_s T A (R X B T) st⟩
end Pf


namespace Pf
open PySem PySem.Spec L2

/-! ## the text's defs -/
structure DefE where
  fe : FE
  N : List Str
  scope : Scope
  body : List Stmt
def ioIx : Nat → List Bool → List Nat
  | _, [] => []
  | j, true :: r => j :: ioIx (j + 1) r
  | j, false :: r => ioIx (j + 1) r
def afterIo : Nat → List Bool → List PyData → En → Option (List PyData)
  | _, [], [], _ => some []
  | j, true :: io, _ :: ds, ρ => match ρ[j]? with
    | some (some (true, d)) => (afterIo (j + 1) io ds ρ).map (d :: ·)
    | _ => none
  | j, false :: io, d :: ds, ρ => (afterIo (j + 1) io ds ρ).map (d :: ·)
  | _, _, _, _ => none
def outD (C : Ctx) (io : List Bool) (ds : List PyData) (r : Out) : Option (Bool × PyData × List PyData) :=
  match r with
  | .nx ρ => (afterIo 0 io ds ρ).map fun ds' => (false, .none, ds')
  | .rt (.val d) b ρ => (afterIo 0 io ds ρ).map fun ds' => (b, d, ds')
  | .rt (.slot i) _ ρ => if C.io.contains i then none else match ρ[i]? with
    | some (some (true, d)) => (afterIo 0 io ds ρ).map fun ds' => (true, d, ds')
    | _ => none
  | _ => none
def runDef (C : Ctx) (B : Bk) (fuel : Nat) (body : List Stmt) (io : List Bool) (ds : List PyData) : Option (Bool × PyData × List PyData) :=
  (stmts (fns C fuel) B body (ag io ds ++ List.replicate (C.N.length - ds.length) none)).bind (outD C io ds)
def bkOf (e : DefE) : Bk := ⟨e.scope, fun x => match e.scope.names.lookup x with | some .local => true | some .cell => true | _ => false⟩
def ctxOf (T : List FE) (G : List (Str × PyData)) (w : Nat) (Γ : Sem3) (e : DefE) : Ctx := ⟨e.N, ioIx 0 e.fe.io, T, G, Γ, w⟩
def Gam (D : List DefE) (G : List (Str × PyData)) (w fuel : Nat) : Nat → Sem3
  | 0 => fun _ _ => none
  | k + 1 => fun name ds => (D.find? fun e => e.fe.name == name).bind fun e => if ds.length = e.fe.io.length then runDef (ctxOf (D.map (·.fe)) G w (Gam D G w fuel k) e) (bkOf e) fuel e.body e.fe.io ds else none

theorem ioIx_mem : ∀ {io : List Bool} {j i : Nat}, i ∈ ioIx j io ↔ ∃ m, i = j + m ∧ io[m]? = some true
  | [], j, i => by simp [ioIx]
  | true :: io, j, i => by
    simp only [ioIx, List.mem_cons, ioIx_mem (io := io)]
    constructor
    · rintro (rfl | ⟨m, rfl, h⟩)
      · exact ⟨0, rfl, rfl⟩
      · exact ⟨m + 1, by omega, by simpa using h⟩
    · rintro ⟨m, rfl, h⟩
      cases m with
      | zero => exact .inl rfl
      | succ m => exact .inr ⟨m, by omega, by simpa using h⟩
  | false :: io, j, i => by
    simp only [ioIx, ioIx_mem (io := io)]
    constructor
    · rintro ⟨m, rfl, h⟩
      exact ⟨m + 1, by omega, by simpa using h⟩
    · rintro ⟨m, rfl, h⟩
      cases m with
      | zero => simp at h
      | succ m => exact ⟨m, by omega, by simpa using h⟩
theorem afterIo_get : ∀ {io : List Bool} {ds ds' : List PyData} {j : Nat} {ρ : En}, afterIo j io ds ρ = some ds' → ds'.length = ds.length ∧ ds.length = io.length ∧ (∀ (i : Nat) (d : PyData), io[i]? = some true → ds'[i]? = some d → ρ[j + i]? = some (some (true, d))) ∧ ∀ (i : Nat), io[i]? = some false → ds'[i]? = ds[i]?
  | [], [], ds', j, ρ, h => by
    simp only [afterIo] at h
    cases h
    exact ⟨rfl, rfl, fun i d h => by simp at h, fun i h => rfl⟩
  | [], _ :: _, ds', j, ρ, h => by simp [afterIo] at h
  | true :: _, [], ds', j, ρ, h => by simp [afterIo] at h
  | false :: _, [], ds', j, ρ, h => by simp [afterIo] at h
  | true :: io, d0 :: ds, ds', j, ρ, h => by
    simp only [afterIo] at h
    split at h
    · rename_i d hd
      obtain ⟨q, h1, h2⟩ := map_some h
      subst h2
      obtain ⟨l1, l2, g1, g2⟩ := afterIo_get h1
      refine ⟨by simp [l1], by simp [l2], fun i e h3 h4 => ?_, fun i h3 => ?_⟩
      · cases i with
        | zero =>
          simp at h4
          subst h4
          exact hd
        | succ i =>
          have := g1 i e (by simpa using h3) (by simpa using h4)
          rw [← this]
          congr 1
          omega
      · cases i with
        | zero => simp at h3
        | succ i => simpa using g2 i (by simpa using h3)
    · cases h
  | false :: io, d0 :: ds, ds', j, ρ, h => by
    simp only [afterIo] at h
    obtain ⟨q, h1, h2⟩ := map_some h
    subst h2
    obtain ⟨l1, l2, g1, g2⟩ := afterIo_get h1
    refine ⟨by simp [l1], by simp [l2], fun i e h3 h4 => ?_, fun i h3 => ?_⟩
    · cases i with
      | zero => simp at h3
      | succ i =>
        have := g1 i e (by simpa using h3) (by simpa using h4)
        rw [← this]
        congr 1
        omega
    · cases i with
      | zero => rfl
      | succ i => simpa using g2 i (by simpa using h3)
section
variable {K : PySem.W.Frag} {P : List Bs} {Z Z' : Addr → Prop} {ρ : En} {σ : St} {H H' : Hp} {io : List Bool} {ds ds' : List PyData} {vs : List V}
theorem ext_get {α : Type} {l : List (Option α)} {n i : Nat} {x : α} : (l ++ List.replicate n none)[i]? = some (some x) ↔ l[i]? = some (some x) := by
  rcases Nat.lt_or_ge i l.length with h | h
  · rw [List.getElem?_append_left h]
  · rw [List.getElem?_append_right h, List.getElem?_eq_none h, List.getElem?_replicate]
    constructor
    · intro e
      split at e <;> cases e
    · intro e; cases e
theorem own_ext {n m : Nat} : OwnA (ρ ++ List.replicate n none) (σ ++ List.replicate m none) = OwnA ρ σ := by
  funext a
  apply propext
  constructor
  · rintro ⟨i, d, h1, h2⟩
    exact ⟨i, d, ext_get.mp h1, ext_get.mp h2⟩
  · rintro ⟨i, d, h1, h2⟩
    exact ⟨i, d, ext_get.mpr h1, ext_get.mpr h2⟩
theorem uu_ext {n m : Nat} : UU (ρ ++ List.replicate n none) (σ ++ List.replicate m none) Z = UU ρ σ Z := by
  unfold UU
  rw [own_ext]
theorem Stt.ext (x : Stt K P Z ρ σ H) (n : Nat) : Stt K P Z (ρ ++ List.replicate n none) (σ ++ List.replicate n none) H where
  len := by simp [x.len]
  sh := fun i d h => by
    obtain ⟨v, h1, r⟩ := x.sh i d (ext_get.mp h)
    exact ⟨v, ext_get.mpr h1, by rw [uu_ext]; exact r⟩
  ow := fun i d h => by
    obtain ⟨p, h1, c, z, b⟩ := x.ow i d (ext_get.mp h)
    exact ⟨p, ext_get.mpr h1, by rw [uu_ext]; exact c, z, b⟩
  dis := fun i j d e p h1 h2 h3 h4 => x.dis i j d e p (ext_get.mp h1) (ext_get.mp h2) (ext_get.mp h3) (ext_get.mp h4)
  zd := x.zd
  pre := x.pre
/-- the frame's end: the parameters alone -/
theorem Stt.leave (x0 : Stt K [] Z (ag io ds) (sv vs) H) (hl : ds.length = io.length) (y : Stt K [⟨H, OwnA (ag io ds) (sv vs)⟩] Z' ρ σ H') (hz : ∀ a, Z' a → Z a ∨ H a = none) (ha : afterIo 0 io ds ρ = some ds') (hk : ∀ (i : Nat), io[i]? = some true → σ[i]? = (sv vs)[i]?) :
    Stt K [⟨H, OwnA (ag io ds) (sv vs)⟩] Z' (ag io ds') (sv vs) H' ∧ ∀ (Zq : Addr → Prop) (a : Addr), UU (ag io ds') (sv vs) Zq a → UU ρ σ Zq a := by
  obtain ⟨l1, l2, g1, g2⟩ := afterIo_get ha
  have g1 : ∀ (i : Nat) (d : PyData), io[i]? = some true → ds'[i]? = some d → ρ[i]? = some (some (true, d)) := fun i d h1 h2 => by
    have := g1 i d h1 h2
    rwa [Nat.zero_add] at this
  obtain ⟨y1, y2, y3⟩ := y.pre _ List.mem_cons_self
  have own : ∀ {i : Nat} {d : PyData}, (ag io ds')[i]? = some (some (true, d)) → ρ[i]? = some (some (true, d)) ∧ σ[i]? = (sv vs)[i]? := fun {i d} h => by
    obtain ⟨h1, h2⟩ := ag_get.mp h
    exact ⟨g1 i d h1 h2, hk i h1⟩
  have own0 : ∀ a, OwnA (ag io ds') (sv vs) a → OwnA (ag io ds) (sv vs) a := fun a u => ag_own (fv := vs) (full := ds') (full' := ds) l1.symm u
  have sub : ∀ (Zq : Addr → Prop) (a : Addr), UU (ag io ds') (sv vs) Zq a → UU ρ σ Zq a := fun Zq a u => by
    rcases u with u | ⟨i, d, h1, h2⟩
    · exact .inl u
    · obtain ⟨h3, h4⟩ := own h1
      exact .inr ⟨i, d, h3, by rw [h4]; exact h2⟩
  refine ⟨⟨by rw [ag_length (by rw [l1, hl]), ← x0.len, ag_length hl], fun i d h => ?_, fun i d h => ?_, fun i j d e p h1 h2 h3 h4 => ?_, y.zd, y.pre⟩, sub⟩
  · obtain ⟨h1, h2⟩ := ag_get.mp h
    rw [g2 i h1] at h2
    obtain ⟨v, h3, r⟩ := x0.sh i d (ag_get.mpr ⟨h1, h2⟩)
    refine ⟨v, h3, rep_now r (y1.mono fun a u => .inr u) fun a u => ?_⟩
    rcases u with u | u
    · rcases hz a u with z | z
      · exact .inl (.inl z)
      · exact .inr z
    · exact .inl (.inr (own0 a u))
  · obtain ⟨h1, h2⟩ := own h
    obtain ⟨p, h3, c, z, b⟩ := y.ow i d h1
    exact ⟨p, by rw [← h2]; exact h3, c.mono fun a u => sub _ a u, z, b⟩
  · obtain ⟨a1, a2⟩ := own h1
    obtain ⟨b1, b2⟩ := own h2
    exact y.dis i j d e p a1 b1 (by rw [a2]; exact h3) (by rw [b2]; exact h4)
/-- one's own container is given away -/
theorem Stt.give {i : Nat} {p : Addr} {d : PyData} (x : Stt K P Z ρ σ H) (hi : ρ[i]? = some (some (true, d))) (e : σ[i]? = some (some (V.ref p))) (hb : ∀ b ∈ P, b.H0 p = none) : Val K P Z (ρ.set i none) (σ.set i none) true (.ref p) d H := by
  obtain ⟨q, h1, c, nz, _⟩ := x.ow i d hi
  rw [e] at h1
  cases h1
  have sub : ∀ a, UU (ρ.set i none) (σ.set i none) (ZP Z p) a → UU ρ σ Z a := fun a u => by
    rcases u with (u | rfl) | u
    · exact .inl u
    · exact .inr ⟨i, d, hi, e⟩
    · exact uu_drop (Z := Z) a (.inr u)
  have y := x.drop i
  refine ⟨p, rfl, nz, ⟨y.len, fun j f h => ?_, fun j f h => ?_, y.dis, fun a z => ?_, fun b hb' => ⟨(x.pre b hb').1, (x.pre b hb').2.1, fun a o z g => ?_⟩⟩, c.mono fun a u => ?_, hb⟩
  · obtain ⟨h, hn⟩ := get_set_none h
    obtain ⟨v, h2, r⟩ := x.sh j f h
    exact ⟨v, by rw [List.getElem?_set_ne hn]; exact h2, r.mono sub⟩
  · obtain ⟨h, hn⟩ := get_set_none h
    obtain ⟨q, h2, c2, z2, b2⟩ := x.ow j f h
    refine ⟨q, by rw [List.getElem?_set_ne hn]; exact h2, c2.mono sub, fun z => ?_, b2⟩
    rcases z with z | z
    · exact z2 z
    · exact hn (x.dis i j d f p hi h e (z ▸ h2))
  · rcases z with z | rfl
    · exact x.zd a z
    · exact c.hard
  · rcases z with z | rfl
    · exact (x.pre b hb').2.2 a o z g
    · rw [hb b hb'] at g
      cases g
  · rcases u with u | rfl
    · exact uu_drop a u
    · exact .inr ⟨i, d, hi, e⟩
end

/-! ### a def by its body -/
section
variable {P : Program} {w : World} {K : PySem.W.Frag} {mg : Str → Option Value} {base : Heap}
theorem fk_of {k : Nat} {f : Addr} {name qual : Str} {params : Arguments} {body : List Stmt} {scope : Scope} {dV kV doc pm cdv ct oc : Value} {an od : Option Addr} {osl : Array (Option Value)} {N ps : List Str} {sp : Sp}
    (lk : K.lookup f = some ⟨oc, od, .func (PySem.W.fnOf name qual params body scope dV kV doc pm an cdv ct), osl⟩) (hcd : PySem.W.codeIn K cdv qual = true) (S : FnScope N ps scope) (len : ∀ vs H Q E, sp vs H Q E → vs.length = ps.length)
    (hbody : ∀ (A : Around) (outer : List Env) (s : Shared) (H : Hp) (vs : List V) (Q : VK) (E : XK), A.guards = some [] → Room k (A.deeper (PyProof.Rows.envOfC qual scope s.heap.objs.size f cdv)) → sp vs H Q E →
      ∃ t, PSs (cxOf CX0 P w K mg base N qual scope f cdv A outer s H E).nox body t ∧ t { nx := fun _ H' => Q .non H', rt := Q } (start N vs) H) :
    Fk P w K mg base (k + 1) f (PySem.W.fnOf name qual params body scope dV kV doc pm an cdv ct) ps sp where
  lens := len
  runs A outer s H args us vs Q E hg hr e0 hb r hsp := by
    have kp : ∀ b o, base.get? b = some o → s.heap.get? b = some o := fun b o e => (e0.bs b o e).1
    have KX : K.In s.heap := e0.mod.kin.keeps kp
    obtain ⟨t, ht, hq⟩ := hbody A outer s H vs Q E hg (hr.deeper _) hsp
    have hall : ∀ y ∈ ps.zip us, scope.names.lookup y.1 = some .local ∨ (scope.names.lookup y.1 = some .cell ∧ ((cellsFrom (s.heap.objs.size + 1) scope.names []).lookup y.1).isSome = true) := by
      rintro ⟨n, v⟩ hy
      exact (S.par n (List.of_mem_zip hy).1).imp id fun q => ⟨q, PySem.W.cellsFrom_some _ _ _ (.inl q)⟩
    apply codeAny_call_function hr.depth (KX _ _ lk) rfl S.co S.gen rfl (PySem.W.codeRec_of KX hcd)
    apply hb
    refine wpAny_newFunctionEnv_cells S.kind hall ?_
    rintro env rfl s1 x
    refine ⟨(e0.mod.nolimit.keeps kp).keeps x.toInCall.keep, codeAny_func ?_⟩
    have I := inv_start (CX := CX0) (qual := qual) (f := f) (cd := cdv) (E := E) S hr.hd e0 (len _ _ _ _ hsp) r x
    refine wpAny_mono ((PSs.nox ht).run [] s1 (start N vs) H _ I hq) (fun fl s' hs => ?_) fun _ _ z => z
    cases fl with
    | ret u =>
      obtain ⟨v, σ', H', J, rv, q⟩ := hs
      exact ⟨v, H', J.os, J.bare, J.base, J.hok, rv, q⟩
    | next =>
      obtain ⟨σ', H', J, q⟩ := hs
      exact ⟨.non, H', J.os, J.bare, J.base, J.hok, rfl, q⟩
    | brk => exact hs.choose_spec.choose_spec.2.elim
    | cont => exact hs.choose_spec.choose_spec.2.elim
/-- what is known of a def as the top has left it -/
structure DefOk (K : PySem.W.Frag) (mg : Str → Option Value) (e : DefE) : Prop where
  sc : FnScope e.N e.fe.ps e.scope
  io : e.fe.io.length = e.fe.ps.length
  ex : ∃ (f : Addr) (oc : Value) (od : Option Addr) (dV kV doc pm : Value) (an : Option Addr) (cdv ct : Value) (osl : Array (Option Value)) (params : Arguments) (qual : Str) (dvs : List V) (dus : List Value),
    K.lookup f = some ⟨oc, od, .func (PySem.W.fnOf e.fe.name qual params e.body e.scope dV kV doc pm an cdv ct), osl⟩ ∧ PySem.W.codeIn K cdv qual = true ∧ mg e.fe.name = some (.ref f) ∧ PySem.W.keepIn K (.ref f) = true ∧ Vals dvs dus ∧
    (∀ (i : Nat) (d : PyData), e.fe.dfl[i]? = some d → ∃ v, dvs[i]? = some v ∧ ∀ (H : Hp) (U : Addr → Prop), Rep K H U v d) ∧ dvs.length = e.fe.dfl.length ∧
    ∀ p ∈ e.fe.pats, ∀ (s : Shared) (us ws : List Value), K.In s.heap → us.length = p.n → ws.length = p.ks.length → ∃ full, arr us ws dus p.src = some full ∧
      BindsTo s (PySem.W.fnOf e.fe.name qual params e.body e.scope dV kV doc pm an cdv ct) ⟨us, p.ks.zip ws⟩ (e.fe.ps.zip full)
/-- what is known of the module -/
structure TopOk (K : PySem.W.Frag) (mg : Str → Option Value) (D : List DefE) (G : List (Str × PyData)) : Prop where
  defs : ∀ e ∈ D, DefOk K mg e
  uniq : (D.map fun e => e.fe.name).Nodup
  blt : ∀ b ∈ bis, mg b.name = none
  btx : mg "range" = none ∧ mg "isinstance" = none ∧ mg "int" = none ∧ mg "bool" = none ∧ mg "str" = none ∧ mg "tuple" = none ∧ mg "list" = none
  btz : ∀ x ∈ bnz, mg x = none
  glb : ∀ p ∈ G, ∃ v u, mg p.1 = some u ∧ RelV v u ∧ ∀ (H : Hp) (U : Addr → Prop), Rep K H U v p.2
theorem spF_lens {Γ : Sem3} {name : Str} {io : List Bool} {ps : List Str} (hio : io.length = ps.length) : ∀ vs H Q E, spF K Γ name io vs H Q E → vs.length = ps.length := fun vs H Q E h => by
  obtain ⟨Z, ds, b, r, ds', x, l, _⟩ := h
  have := x.len
  rw [ag_length l] at this
  simpa [hio] using this.symm
theorem fkAt_of {Γ : Sem3} {k : Nat} {e : DefE} (d : DefOk K mg e) (h : ∀ (f : Addr) (oc : Value) (od : Option Addr) (dV kV doc pm : Value) (an : Option Addr) (cdv ct : Value) (osl : Array (Option Value)) (params : Arguments) (qual : Str),
    K.lookup f = some ⟨oc, od, .func (PySem.W.fnOf e.fe.name qual params e.body e.scope dV kV doc pm an cdv ct), osl⟩ → PySem.W.codeIn K cdv qual = true → Fk P w K mg base k f (PySem.W.fnOf e.fe.name qual params e.body e.scope dV kV doc pm an cdv ct) e.fe.ps (spF K Γ e.fe.name e.fe.io)) :
    FkAt P w K mg base Γ k e.fe := by
  obtain ⟨f, oc, od, dV, kV, doc, pm, an, cdv, ct, osl, params, qual, dvs, dus, h1, h2, h3, h4, h5, h6, h7, h8⟩ := d.ex
  exact ⟨f, _, dvs, dus, h f oc od dV kV doc pm an cdv ct osl params qual h1 h2, h3, h4, h5, h6, h7, h8⟩
theorem keep_io {io : List Bool} {σ : St} {vs : List V} {n : Nat} (h : Keep (ioIx 0 io) (vs.map some ++ List.replicate n none) σ) (hl : vs.length = io.length) : ∀ (i : Nat), io[i]? = some true → σ[i]? = (sv vs)[i]? := fun i hi => by
  rw [h i (ioIx_mem.mpr ⟨i, by omega, hi⟩), List.getElem?_append_left (by
    have := (List.getElem?_eq_some_iff.mp hi).1
    rw [List.length_map]
    omega)]
theorem find_uniq : ∀ {D : List DefE} {e : DefE}, (D.map fun e => e.fe.name).Nodup → e ∈ D → D.find? (fun e' => e'.fe.name == e.fe.name) = some e
  | [], e, _, h => by cases h
  | a :: D, e, hn, h => by
    rw [List.map_cons, List.nodup_cons] at hn
    rcases List.mem_cons.mp h with rfl | h
    · simp
    · have : ¬ a.fe.name = e.fe.name := fun z => hn.1 (by rw [z]; exact List.mem_map.mpr ⟨e, h, rfl⟩)
      rw [List.find?_cons_of_neg (by simpa using this)]
      exact find_uniq hn.2 h
theorem fk_zero (D : List DefE) (G : List (Str × PyData)) (wf fuel : Nat) (T : TopOk K mg D G) {e : DefE} (he : e ∈ D) (f : Addr) (fd : FuncData) : Fk P w K mg base 0 f fd e.fe.ps (spF K (Gam D G wf fuel 0) e.fe.name e.fe.io) :=
  ⟨spF_lens (T.defs e he).io, fun A outer s H args us vs Q E hg hr e0 hb r h => by
    obtain ⟨Z, ds, b, r, ds', x, l, g, _⟩ := h
    cases g⟩
theorem fk_step (D : List DefE) (G : List (Str × PyData)) (wf fuel : Nat) (T : TopOk K mg D G) (k : Nat) (tb : ∀ e ∈ D, FkAt P w K mg base (Gam D G wf fuel k) k e.fe) {e : DefE} (he : e ∈ D) (f : Addr) (oc : Value) (od : Option Addr) (dV kV doc pm : Value) (an : Option Addr) (cdv ct : Value) (osl : Array (Option Value)) (params : Arguments) (qual : Str)
    (h1 : K.lookup f = some ⟨oc, od, .func (PySem.W.fnOf e.fe.name qual params e.body e.scope dV kV doc pm an cdv ct), osl⟩) (h2 : PySem.W.codeIn K cdv qual = true) :
    Fk P w K mg base (k + 1) f (PySem.W.fnOf e.fe.name qual params e.body e.scope dV kV doc pm an cdv ct) e.fe.ps (spF K (Gam D G wf fuel (k + 1)) e.fe.name e.fe.io) := by
  have S := (T.defs e he).sc
  have hio := (T.defs e he).io
  refine fk_of h1 h2 S (spF_lens hio) fun A outer s H vs Q E hg hr h => ?_
  obtain ⟨Z, ds, b, r, ds', x, l, g, l2, q⟩ := h
  have hvl : vs.length = e.fe.io.length := by
    have := x.len
    rw [ag_length l] at this
    simpa using this.symm
  simp only [Gam, find_uniq T.uniq he, Option.bind_some, l, if_true] at g
  generalize hC : ctxOf (D.map (·.fe)) G wf (Gam D G wf fuel k) e = C at g
  have hCN : C.N = e.N := by rw [← hC]; rfl
  have hCio : C.io = ioIx 0 e.fe.io := by rw [← hC]; rfl
  have F : Fits (cxOf CX0 P w K mg base e.N qual e.scope f cdv A outer s H E).nox C (bkOf e) k := by
    refine ⟨hCN.symm, by rw [hCN]; exact S.nd, rfl, rfl, hr, hg, rfl, fun x hx => ⟨?_, .inl rfl⟩, T.blt, T.btx, T.btz, ?_, ?_⟩
    · have hx : (match e.scope.names.lookup x with | some .local => true | some .cell => true | _ => false) = true := hx
      split at hx
      · exact .inl (by assumption)
      · exact .inr (by assumption)
      · cases hx
    · rw [← hC]
      intro fe hfe
      obtain ⟨e2, he2, rfl⟩ := List.mem_map.mp hfe
      exact tb e2 he2
    · rw [← hC]
      exact T.glb
  refine ⟨_, st_stmts ((all_ok C k fuel).2 _ _ F) e.body, ?_⟩
  unfold runDef at g
  obtain ⟨o, g1, g⟩ := bind_some g
  have hst : start e.N vs = sv vs ++ List.replicate (C.N.length - ds.length) none := by
    unfold L2.start
    rw [hCN, l, hvl]
  have s0 := (x.ext (C.N.length - ds.length)).push
  rw [own_ext, ← hst] at s0
  refine ⟨_, Z, _, o, s0, g1, ?_⟩
  -- the end of it
  have fin : ∀ {Z' : Addr → Prop} {ρ' : En} {σ' : St} {H' : Hp} {dsf : List PyData}, afterIo 0 e.fe.io ds ρ' = some dsf → Keep C.io (start e.N vs) σ' → (∀ a, Z' a → Z a ∨ H a = none) → Stt K [⟨H, OwnA (ag e.fe.io ds) (sv vs)⟩] Z' ρ' σ' H' →
      Stt K [⟨H, OwnA (ag e.fe.io ds) (sv vs)⟩] Z' (ag e.fe.io dsf) (sv vs) H' ∧ ∀ (Zq : Addr → Prop) (a : Addr), UU (ag e.fe.io dsf) (sv vs) Zq a → UU ρ' σ' Zq a := fun {Z' ρ' σ' H' dsf} ha hk hz y => by
    rw [hCio, hst] at hk
    exact Stt.leave x l y hz ha (keep_io hk hvl)
  have finV : ∀ {ρ' : En} {σ' : St} {H' : Hp} {dsf : List PyData} {b' : Bool} {v : V} {d : PyData}, afterIo 0 e.fe.io ds ρ' = some dsf → Keep C.io (start e.N vs) σ' → Val K [⟨H, OwnA (ag e.fe.io ds) (sv vs)⟩] Z ρ' σ' b' v d H' →
      Val K [⟨H, OwnA (ag e.fe.io ds) (sv vs)⟩] Z (ag e.fe.io dsf) (sv vs) b' v d H' := fun {ρ' σ' H' dsf b' v d} ha hk y => by
    cases b' with
    | false =>
      obtain ⟨y1, y2⟩ := y
      obtain ⟨s1, sub⟩ := fin ha hk (fun a z => .inl z) y1
      exact ⟨s1, y2.mono fun a u => sub Z a u⟩
    | true =>
      obtain ⟨p, rfl, nz, y1, c, hb⟩ := y
      obtain ⟨s1, sub⟩ := fin ha hk (fun a z => z.elim .inl fun z => .inr (z ▸ hb _ List.mem_cons_self)) y1
      exact ⟨p, rfl, nz, s1, c.mono fun a u => u.elim (fun u => .inl (sub Z a u)) .inr, hb⟩
  cases o with
  | nx ρ' =>
    simp only [outD] at g
    obtain ⟨dsf, h3, h4⟩ := map_some g
    cases h4
    exact fun σ' H' y hk => q _ _ (finV h3 hk ⟨y, .non⟩)
  | rt o b' ρ' =>
    cases o with
    | val d =>
      simp only [outD] at g
      obtain ⟨dsf, h3, h4⟩ := map_some g
      cases h4
      exact fun σ' v H' y hk => q _ _ (finV h3 hk y)
    | slot i =>
      simp only [outD] at g
      obtain ⟨hio2, g⟩ := ite_some' g
      split at g
      · rename_i d hd
        obtain ⟨dsf, h3, h4⟩ := map_some g
        cases h4
        refine fun σ' v H' y hk => ?_
        obtain ⟨y1, hv, _⟩ := y
        obtain ⟨p, hv2, c, nz, bb⟩ := y1.ow i r hd
        rw [hv] at hv2
        cases hv2
        have hp : H p = none := by
          rcases bb _ List.mem_cons_self with z | z
          · exfalso
            obtain ⟨j, dj, a1, a2⟩ := z
            obtain ⟨a1, a3⟩ := ag_get.mp a1
            obtain ⟨l1, l2, g2, g3⟩ := afterIo_get h3
            have hjl : j < ds'.length := by rw [l1]; exact (List.getElem?_eq_some_iff.mp a3).1
            have a4 := g2 j _ a1 (List.getElem?_eq_getElem hjl)
            rw [Nat.zero_add] at a4
            have hk' := hk
            rw [hCio, hst] at hk'
            have a5 := keep_io hk' hvl j a1
            have := y1.dis i j _ _ p hd a4 hv (by rw [a5]; exact a2)
            subst this
            have : i ∈ C.io := by rw [hCio]; exact ioIx_mem.mpr ⟨i, by omega, a1⟩
            rw [List.contains_iff_mem.mpr this] at hio2
            cases hio2
          · exact z
        have gv := y1.give hd hv fun b hb => by
          rcases List.mem_cons.mp hb with rfl | hb
          · exact hp
          · cases hb
        have ha2 : afterIo 0 e.fe.io ds (ρ'.set i none) = some ds' := by
          have gen : ∀ (io : List Bool) (ds : List PyData) (j : Nat) (dsf : List PyData), i ∉ ioIx j io → afterIo j io ds ρ' = some dsf → afterIo j io ds (ρ'.set i none) = some dsf := by
            intro io
            induction io with
            | nil => intro ds j dsf h1 h2; cases ds <;> exact h2
            | cons b io ih =>
              intro ds j dsf h1 h2
              cases ds with
              | nil => cases b <;> exact h2
              | cons d0 ds =>
                cases b with
                | true =>
                  simp only [ioIx, List.mem_cons, not_or] at h1
                  simp only [afterIo] at h2 ⊢
                  rw [List.getElem?_set_ne h1.1]
                  split at h2
                  · rename_i hd'
                    obtain ⟨q', e1, e2⟩ := map_some h2
                    rw [hd']
                    simp only [ih _ _ _ h1.2 e1]
                    subst e2
                    rfl
                  · cases h2
                | false =>
                  simp only [ioIx] at h1
                  simp only [afterIo] at h2 ⊢
                  obtain ⟨q', e1, e2⟩ := map_some h2
                  rw [ih _ _ _ h1 e1]
                  subst e2
                  rfl
          refine gen _ _ _ _ (fun z => ?_) h3
          rw [← hCio] at z
          rw [List.contains_iff_mem.mpr z] at hio2
          cases hio2
        refine q _ _ (finV ha2 (hk.trans (Keep.set hio2)) gv)
      · cases g
  | bk ρ' => cases g
  | ct ρ' => cases g
theorem table (D : List DefE) (G : List (Str × PyData)) (wf fuel : Nat) (T : TopOk K mg D G) : ∀ k, ∀ e ∈ D, FkAt P w K mg base (Gam D G wf fuel k) k e.fe
  | 0, e, he => fkAt_of (T.defs e he) fun f oc od dV kV doc pm an cdv ct osl params qual _ _ => fk_zero D G wf fuel T he f _
  | k + 1, e, he => fkAt_of (T.defs e he) (fk_step D G wf fuel T k (table D G wf fuel T k) he)
theorem fk_any (D : List DefE) (G : List (Str × PyData)) (wf fuel : Nat) (T : TopOk K mg D G) (k : Nat) {e : DefE} (he : e ∈ D) (f : Addr) (oc : Value) (od : Option Addr) (dV kV doc pm : Value) (an : Option Addr) (cdv ct : Value) (osl : Array (Option Value)) (params : Arguments) (qual : Str)
    (h1 : K.lookup f = some ⟨oc, od, .func (PySem.W.fnOf e.fe.name qual params e.body e.scope dV kV doc pm an cdv ct), osl⟩) (h2 : PySem.W.codeIn K cdv qual = true) :
    Fk P w K mg base k f (PySem.W.fnOf e.fe.name qual params e.body e.scope dV kV doc pm an cdv ct) e.fe.ps (spF K (Gam D G wf fuel k) e.fe.name e.fe.io) := by
  cases k with
  | zero => exact fk_zero D G wf fuel T he f _
  | succ k => exact fk_step D G wf fuel T k (table D G wf fuel T k) he f oc od dV kV doc pm an cdv ct osl params qual h1 h2
end
end Pf


namespace Pf
open PySem PySem.Spec PySem.W PySem.Calls PyProof.Rows L2

/-! ## the law's call -/
/-- the heap in which the script alone is known -/
def scriptH (a : Addr) (o : Obj) (ns : List Int) : Hp := fun b => if b = a then some (.frz o (.lst (ns.map V.int))) else none
structure Lone (P : Program) (w : World) (K : PySem.W.Frag) (h : Heap) (a : Addr) (ns : List Int) (H : Hp) : Prop where
  hok : HOk P w H h
  off : ∀ b, b ≠ a → H b = none
  mine : H a ≠ none → K.lookup a = none
  form : ∀ u, H a = some u → ∃ o xs, u = .frz o (.lst xs)
  rep : ∀ U : Addr → Prop, (∀ b, ¬ U b) → Rep K H U (.ref a) (scrD (ns.map .int))
theorem lone_ex {P : Program} {w : World} {K : PySem.W.Frag} {h : Heap} {a : Addr} {ns : List Int} {vs : List Value} (KX : K.In h) (ha : h.get? a = some { cls := .type "list", data := .seq vs.toArray }) (hi : IntsAre vs ns) (hl : ns.length ≤ sizeLine) : ∃ H, Lone P w K h a ns H := by
  have rv := vals_ints hi
  cases hk : K.lookup a with
  | none =>
    refine ⟨scriptH a { cls := .type "list", data := .seq vs.toArray } ns, fun b u e => ?_, fun b hb => if_neg hb, fun _ => hk, fun u e => ?_, fun U hU => .scr (.inl ⟨if_pos rfl, hU a⟩)⟩
    · unfold scriptH at e
      split at e
      · rename_i hb
        subst hb
        cases e
        exact ⟨ha, by simpa using hl, vs, _, rv, ha⟩
      · cases e
    · unfold scriptH at e
      rw [if_pos rfl] at e
      cases e
      exact ⟨_, _, rfl⟩
  | some o =>
    have e := KX a o hk
    rw [ha] at e
    cases e
    refine ⟨fun _ => none, fun b u e => ?_, fun b hb => rfl, fun z => (z rfl).elim, fun u e => ?_, fun U hU => .scr (o := { cls := .type "list", data := .seq vs.toArray }) (.inr ?_)⟩
    · have e : (none : Option HO) = some u := e
      cases e
    · have e : (none : Option HO) = some u := e
      cases e
    · have hz : vs.toArray.size ≤ sizeLine := by
        rw [List.size_toArray, hi.length]
        exact hl
      exact .inr ⟨_, vs.toArray, _, hk, rfl, rfl, rfl, hz, rv⟩
theorem call_law {P : Program} {w : World} {K : PySem.W.Frag} {mg mb : Str → Option Value} {k : Nat} {fa a : Addr} {fd : FuncData} {x name : Str} {Γ : Sem3} {s : Shared} {vs : List Value} {ns : List Int} {r0 : Bool} {ds0 : List PyData}
    (KX : K.In s.heap) (hg : s.heap.Ns mainGlobals mg) (hb : s.heap.Ns builtinsNs mb) (hbb : ∀ y : Str, y ≠ "__name__" → mb y = bootBuiltins y) (hlim : s.heap.NoLimit) (hgen : s.gens = #[])
    (ha : s.heap.get? a = some { cls := .type "list", data := .seq vs.toArray }) (hi : IntsAre vs ns) (hl : ns.length ≤ sizeLine) (hr : Room k callerA)
    (F : ∀ base : Heap, K.In base → base.Ns mainGlobals mg → Fk P w K mg base k fa fd [x] (spF K Γ name [false])) (hbind : ∀ u : Value, BindsTo s fd ⟨[u], []⟩ [(x, u)])
    (hΓ : Γ name [scrD (ns.map .int)] = some (r0, .bool true, ds0)) (hds : ds0.length = 1) :
    codeAny (model P w) callerA (.call (.ref fa) ⟨[.ref a], []⟩) (fun r s' => r = .ok (.ret (.bool true)) ∧ OldK s.heap s'.heap ∧ s'.os = s.os ∧ AllBare s'.gens) s := by
  obtain ⟨H, L⟩ := lone_ex (P := P) (w := w) KX ha hi hl
  -- off the script all is as it was
  have dict_off : ∀ (b : Addr) (o : Obj) (es : Array DictEntry) (ep : Nat), s.heap.get? b = some o → o.data = .dict es ep → H b = none := fun b o es ep e d => by
    by_cases hb : b = a
    · subst hb
      rw [ha] at e
      cases e
      cases d
    · exact L.off b hb
  have ns_off : ∀ (b : Addr) (m : Str → Option Value), s.heap.Ns b m → (hidT s.heap H).Ns b m := fun b m z => by
    obtain ⟨o, es, ep, e, d, q⟩ := z
    exact ⟨o, es, ep, hidT_get e (dict_off b o es ep e d), d, q⟩
  have kin : K.In (hidT s.heap H) := fun b o e => hidT_get (KX b o e) (by
    by_cases hb : b = a
    · subst hb
      cases q : H b with
      | none => rfl
      | some u =>
        rw [L.mine (by rw [q]; exact Option.some_ne_none u)] at e
        cases e
    · exact L.off b hb)
  obtain ⟨mc, lim1, lim2⟩ := hlim
  have e0 : Env0 P w K mg (hidT s.heap H) callerA [] s H := by
    refine ⟨rfl, ⟨kin, ns_off _ _ hg, ⟨mb, ns_off _ _ hb, hbb⟩, ⟨mc, ns_off _ _ lim1, lim2⟩⟩, fun b o e => of_hidT e, ?_, trivial, fun b z => ?_, L.hok, .of_eq hgen⟩
    · rw [hidT_size]
      exact Nat.le_refl _
    · cases z
  have x0 : Stt K [] (fun _ => False) (ag [false] [scrD (ns.map .int)]) (sv [.ref a]) H := by
    refine ⟨rfl, fun i d h => ?_, fun i d h => ?_, fun i j d e p h => ?_, fun b z => z.elim, fun b z => by cases z⟩
    · obtain ⟨h1, h2⟩ := ag_get.mp h
      cases i with
      | zero =>
        cases h2
        refine ⟨.ref a, rfl, L.rep _ fun b u => ?_⟩
        rcases u with u | ⟨j, e, u, _⟩
        · exact u
        · obtain ⟨u1, _⟩ := ag_get.mp u
          cases j with
          | zero => cases u1
          | succ j => simp at u1
      | succ i => simp at h1
    · obtain ⟨h1, h2⟩ := ag_get.mp h
      cases i with
      | zero => cases h1
      | succ i => simp at h1
    · obtain ⟨h1, h2⟩ := ag_get.mp h
      cases i with
      | zero => cases h1
      | succ i => simp at h1
  have run := (F _ kin (ns_off _ _ hg)).runs callerA [] s H ⟨[.ref a], []⟩ [.ref a] [.ref a] (fun v _ => v = .bl true) (fun _ _ _ => False) rfl hr e0 (hbind (.ref a)) (.cons rfl .nil)
    ⟨_, _, r0, .bool true, ds0, x0, rfl, hΓ, hds, fun v H' y => by
      cases r0 with
      | false => exact y.2.bl_inv
      | true =>
        obtain ⟨p, _, _, _, c, _⟩ := y
        cases c⟩
  refine codeAny_mono run fun r s' z => ?_
  rcases r with e | fl
  · exact False.elim z
  · cases fl with
    | ret u =>
      obtain ⟨v, H', os, bare, un, hok', rv', q⟩ := z
      have q : v = .bl true := q
      subst q
      have rv' : u = Value.bool true := rv'
      subst rv'
      refine ⟨rfl, OldK.of_keep fun b o e => ?_, os, bare⟩
      cases q : H b with
      | none => exact un.keep b o e q (fun z => by cases z) (fun z => by cases z)
      | some u =>
        have hb : b = a := Classical.byContradiction fun n => by
          rw [L.off b n] at q
          cases q
        subst hb
        obtain ⟨ob, xs, rfl⟩ := L.form u q
        have g1 := (L.hok b _ q).1
        have g2 := (hok' b _ (un.frzs b ob _ q)).1
        rw [e] at g1
        cases g1
        exact g2
    | next => exact False.elim z
    | brk => exact False.elim z
    | cont => exact False.elim z
/-- the law's end: what the top has left, and what the law's def comes to -/
theorem walk_end {l : PySem.W.OpenLaw} {n k : Nat} {q : Program} {loose : List Str} {XP : (Str → Option Value) → Heap → Prop} {YP : World → Heap → Prop} {d : DefRec} {K : Params → PySem.W.Frag} {x : Str} {D : List DefE} {G : List (Str × PyData)} {e : DefE} {wf fuel : Nat}
    (hn : l.most = some n) (hn2 : n ≤ sizeLine) (hdf : d.params.defaults = []) (hr : Room k callerA)
    (hY : ∀ (w : World) (h : Heap), YP w h → (K w.params).In h)
    (T : ∀ (w : World) (mg : Str → Option Value) (fa : Addr) (h : Heap), (K w.params).In h → h.Ns mainGlobals mg → mg d.name = some (.ref fa) → TopOk (K w.params) mg D G)
    (he : e ∈ D) (hname : e.fe.name = d.name) (hps : e.fe.ps = [x]) (hio : e.fe.io = [false]) (hpat : ⟨1, [], [.pos 0]⟩ ∈ e.fe.pats)
    (law : ∀ ns : List Int, ns.length ≤ n → ∃ r0 ds0, Gam D G wf fuel k e.fe.name [scrD (ns.map .int)] = some (r0, .bool true, ds0) ∧ ds0.length = 1) :
    PySem.W.WalkO q loose XP YP l.row.toRowW d [] (fun f vs => PySem.call f vs) := by
  refine Att.attach_call hn hdf fun w s₀ s mg mb fa o pm cd doc a vs ns G0 Y ho hd hcd hmg hobj hints hlen hg => ?_
  have KX := hY w _ Y
  have TT := T w mg fa _ KX G0.T.g hmg
  obtain ⟨r0, ds0, h1, h2⟩ := law ns hlen
  obtain ⟨f, oc, od, dV, kV, doc', pm', an, cdv, ct, osl, params, qual, dvs, dus, b1, b2, b3, b4, b5, b6, b7, b8⟩ := (TT.defs e he).ex
  rw [hname, hmg] at b3
  cases b3
  have F : ∀ base : Heap, (K w.params).In base → base.Ns mainGlobals mg → Fk l.prog w (K w.params) mg base k fa (PySem.W.fnOf e.fe.name qual params e.body e.scope dV kV doc' pm' an cdv ct) [x] (spF (K w.params) (Gam D G wf fuel k) e.fe.name [false]) := fun base kb nb => by
    have := fk_any (P := l.prog) (w := w) (base := base) D G wf fuel TT k he fa oc od dV kV doc' pm' an cdv ct osl params qual b1 b2
    rw [hps, hio] at this
    exact this
  refine call_law KX G0.T.g G0.T.b G0.T.builtins G0.T.nolimit hg hobj hints (Nat.le_trans hlen hn2) hr F (fun u => ?_) h1 h2
  obtain ⟨full, c1, c2⟩ := b8 _ hpat s [u] [] KX rfl rfl
  cases c1
  rw [hps] at c2
  exact c2
end Pf


namespace Pf
open PySem PySem.Spec L2

/-! ## the texts' meaning, names resolved -/
abbrev Ex := En → Option (Opn × Bool × En)
abbrev Tx := En → Option (Bool × En)
abbrev Vx := En → Option (Bool × PyData × En)
abbrev Sx := En → Option Out
def xC (d : PyData) (ρ : En) : Option (Opn × Bool × En) := some (.val d, false, ρ)
def xS (i : Nat) (ρ : En) : Option (Opn × Bool × En) := match ρ[i]? with
  | some (some (true, _)) => some (.slot i, false, ρ)
  | some (some (false, d)) => some (.val d, false, ρ)
  | _ => none
def xV (io : List Nat) (f : Ex) (ρ : En) : Option (Bool × PyData × En) := (f ρ).bind fun r => match r.1 with
  | .val d => some (r.2.1, d, r.2.2)
  | .slot i => if io.contains i then none else match r.2.2[i]? with
    | some (some (_, d)) => some (false, d, frz r.2.2 i)
    | _ => none
def xVs : List Vx → En → Option (List PyData × En)
  | [], ρ => some ([], ρ)
  | f :: fs, ρ => (f ρ).bind fun r => (xVs fs r.2.2).bind fun q => some (r.2.1 :: q.1, q.2)
def xOs : List Ex → En → Option (List Opn × En)
  | [], ρ => some ([], ρ)
  | f :: fs, ρ => (f ρ).bind fun r => (xOs fs r.2.2).bind fun q => some (r.1 :: q.1, q.2)
def xBin (op : Operator) (f g : Ex) (ρ : En) : Option (Opn × Bool × En) := (f ρ).bind fun r => (g r.2.2).bind fun q => (rdO q.2.2 r.1).bind fun x => (rdO q.2.2 q.1).bind fun y => (binD op x y).bind fun d => some (resD q.2.2 d)
def xUn (op : UnaryOp) (f : Ex) (ρ : En) : Option (Opn × Bool × En) := (f ρ).bind fun r => (rdO r.2.2 r.1).bind fun x => (unD op x).bind fun d => some (resD r.2.2 d)
def xIf (t : Tx) (f g : Ex) (ρ : En) : Option (Opn × Bool × En) := (t ρ).bind fun r => if r.1 then f r.2 else g r.2
def xTup (fs : List Vx) (ρ : En) : Option (Opn × Bool × En) := (xVs fs ρ).bind fun q => if q.1.length ≤ sizeLine then some (.val (.tuple q.1), false, q.2) else none
def xLst (fs : List Vx) (ρ : En) : Option (Opn × Bool × En) := (xVs fs ρ).bind fun q => if q.1.length ≤ sizeLine then some (.val (.list q.1), true, q.2) else none
def xIx (f g : Ex) (ρ : En) : Option (Opn × Bool × En) := (f ρ).bind fun r => (g r.2.2).bind fun q => (rdO q.2.2 r.1).bind fun x => (rdO q.2.2 q.1).bind fun y => (idxD x y).bind fun d => some (.val d, false, q.2.2)
def xRv (f : Ex) (ρ : En) : Option (Opn × Bool × En) := (f ρ).bind fun r => (rdO r.2.2 r.1).bind fun d => (revD d).bind fun z => some (resD r.2.2 z)
def xPt : Option Ex → En → Option (Option Int × En)
  | none, ρ => some (none, ρ)
  | some f, ρ => (f ρ).bind fun r => match r.1 with
    | .val (.int i) => some (some i, r.2.2)
    | _ => none
def xCut (f : Ex) (lo hi : Option Ex) (ρ : En) : Option (Opn × Bool × En) := (f ρ).bind fun r => (xPt lo r.2.2).bind fun l => (xPt hi l.2).bind fun h => (rdO h.2 r.1).bind fun d => (cutD d l.1 h.1).bind fun z => some (resD h.2 z)
def xAnd : List Ex → Ex
  | [], _ => none
  | [f], ρ => f ρ
  | f :: fs, ρ => (f ρ).bind fun r => (rdO r.2.2 r.1).bind fun d => (truthD d).bind fun k => if k then xAnd fs r.2.2 else some r
def xOr : List Ex → Ex
  | [], _ => none
  | [f], ρ => f ρ
  | f :: fs, ρ => (f ρ).bind fun r => (rdO r.2.2 r.1).bind fun d => (truthD d).bind fun k => if !k then xOr fs r.2.2 else some r
def tAn : List Tx → Tx
  | [], _ => none
  | [f], ρ => f ρ
  | f :: fs, ρ => (f ρ).bind fun r => if r.1 then tAn fs r.2 else some r
def tOrr : List Tx → Tx
  | [], _ => none
  | [f], ρ => f ρ
  | f :: fs, ρ => (f ρ).bind fun r => if !r.1 then tOrr fs r.2 else some r
def tNt (f : Tx) (ρ : En) : Option (Bool × En) := (f ρ).bind fun r => some (!r.1, r.2)
def tC1 (op : CmpOp) (f g : Ex) (ρ : En) : Option (Bool × En) := (f ρ).bind fun r => (g r.2.2).bind fun q => (rdO q.2.2 r.1).bind fun x => (rdO q.2.2 q.1).bind fun y => (cmpD op x y).bind fun k => some (k, q.2.2)
def tCC (op op' : CmpOp) (f g h : Vx) (ρ : En) : Option (Bool × En) := (f ρ).bind fun r => (g r.2.2).bind fun q => (cmpD op r.2.1 q.2.1).bind fun k =>
  if k then (h q.2.2).bind fun z => (cmpD op' q.2.1 z.2.1).bind fun k' => some (k', z.2.2) else some (false, q.2.2)
def tX (f : Ex) (ρ : En) : Option (Bool × En) := (f ρ).bind fun r => (rdO r.2.2 r.1).bind fun d => (truthD d).bind fun k => some (k, r.2.2)
def xT (t : Tx) (ρ : En) : Option (Opn × Bool × En) := (t ρ).bind fun r => some (.val (.bool r.1), false, r.2)
def xBi (b : Bi) (fs : List Ex) (ρ : En) : Option (Opn × Bool × En) := (xOs fs ρ).bind fun q => (rdOs q.2 q.1).bind fun ds => (biD b ds).bind fun d => some (resD q.2 d)
def xIsi (t : Str) (f : Ex) (ρ : En) : Option (Opn × Bool × En) := (f ρ).bind fun r => (rdO r.2.2 r.1).bind fun d => if notDictD d then (isiT d t).bind fun k => some (.val (.bool k), false, r.2.2) else none
def xMut (m : Str) (f : Ex) (fs : List Vx) (ρ : En) : Option (Opn × Bool × En) := (f ρ).bind fun r => match r.1 with
  | .slot i => match r.2.2[i]? with
    | some (some (true, .list _)) => (xVs fs r.2.2).bind fun q => match q.2[i]? with
      | some (some (true, d)) => (mutD m d q.1).bind fun z => some (.val z.2, false, q.2.set i (some (true, z.1)))
      | _ => none
    | _ => none
  | _ => none
def xMet (m : Str) (f : Ex) (fs : List Ex) (ρ : En) : Option (Opn × Bool × En) := (f ρ).bind fun r => match r.1 with
  | .val d => (xOs fs r.2.2).bind fun q => (rdOs q.2 q.1).bind fun ds => (metD m d ds).bind fun z => some (resD q.2 z)
  | _ => none
def xGet (f : Ex) (fs : List Vx) (ρ : En) : Option (Opn × Bool × En) := (f ρ).bind fun r => (rdO r.2.2 r.1).bind fun d0 => if isDicB d0 then (xVs fs r.2.2).bind fun q => (rdO q.2 r.1).bind fun d => (dgetM d q.1).bind fun z => some (.val z, false, q.2) else none
def xPs : List (Vx × Vx) → En → Option (Es × En)
  | [], ρ => some ([], ρ)
  | p :: ps, ρ => (p.1 ρ).bind fun r => (p.2 r.2.2).bind fun z => (xPs ps z.2.2).bind fun q => some ((r.2.1, z.2.1) :: q.1, q.2)
def xDic (ps : List (Vx × Vx)) (ρ : En) : Option (Opn × Bool × En) := (if ps.length ≤ 15 then (xPs ps ρ).bind fun q => if q.1.all fun e => (keyOf e.1).isSome then some (mergeE [] q.1, q.2) else none else none).bind fun q => some (.val (.dict q.1), true, q.2)
inductive Fp where
  | tx (y : Str) | vl (f : Ex)
def xFs : List Fp → Str → En → Option (Str × En)
  | [], acc, ρ => some (acc, ρ)
  | .tx y :: es, acc, ρ => if (acc ++ y).length ≤ sizeLine then xFs es (acc ++ y) ρ else none
  | .vl f :: es, acc, ρ => (f ρ).bind fun r => match r.1 with
    | .val (.str y) => if y.length ≤ sizeLine ∧ (acc ++ y).length ≤ sizeLine then xFs es (acc ++ y) r.2.2 else none
    | .val (.int i) => if i.natAbs.log2 < 1920 ∧ (acc ++ (toString i : Str)).length ≤ sizeLine then xFs es (acc ++ (toString i : Str)) r.2.2 else none
    | _ => none
def xFst (ps : List Fp) (ρ : En) : Option (Opn × Bool × En) := (xFs ps Str.empty ρ).bind fun q => some (.val (.str q.1), false, q.2)
inductive Ag where
  | mine (f : Ex) | shr (f : Vx)
def xAgs : List Ag → En → Option (List Opn × En)
  | [], ρ => some ([], ρ)
  | .mine f :: fs, ρ => (f ρ).bind fun r => match r.1 with
    | .slot i => (xAgs fs r.2.2).bind fun q => some (.slot i :: q.1, q.2)
    | _ => none
  | .shr f :: fs, ρ => (f ρ).bind fun r => (xAgs fs r.2.2).bind fun q => some (.val r.2.1 :: q.1, q.2)
def xCall (Γ : Sem3) (name : Str) (dfl : List PyData) (src : List Src) (as : List Ag) (ks : List Vx) (ρ : En) : Option (Opn × Bool × En) :=
  (xAgs as ρ).bind fun q => (xVs ks q.2).bind fun z => (rdOs z.2 q.1).bind fun us => (arr us z.1 dfl src).bind fun full =>
  if nodupB (slotsOf q.1) && ownAll q.1 z.2 then (Γ name full).bind fun r => if r.2.2.length = full.length then some (.val r.2.1, r.1, putBack z.2 q.1 r.2.2) else none else none
def xRng (fs : List Ex) (ρ : En) : Option (List PyData × En) := (xOs fs ρ).bind fun q => (rdOs q.2 q.1).bind fun ds => (rangeD ds).bind fun xs => some (xs, q.2)
def xIt (f : Vx) (ρ : En) : Option (List PyData × En) := (f ρ).bind fun r => (itemsD r.2.1).bind fun xs => some (xs, r.2.2)
def xZp (b : Bool) (fs : List Vx) (ρ : En) : Option (List PyData × En) := (xVs fs ρ).bind fun q => (zeD b q.1).bind fun xs => some (xs, q.2)
def xLz (fs : List Vx) (ρ : En) : Option (Opn × Bool × En) := (xVs fs ρ).bind fun q => (zeD true q.1).bind fun xs => if decide (xs.length ≤ sizeLine) then some (.val (.list xs), true, q.2) else none
def xLr (fs : List Ex) (ρ : En) : Option (Opn × Bool × En) := (xOs fs ρ).bind fun q => (rdOs q.2 q.1).bind fun ds => (rangeD ds).bind fun xs => if decide (xs.length ≤ sizeLine) then some (.val (.list xs), true, q.2) else none
def xSum (fs : List Vx) (ρ : En) : Option (Opn × Bool × En) := (xVs fs ρ).bind fun q => (sumS q.1).bind fun d => some (.val d, false, q.2)
def g1 (i : Nat) (d : PyData) (ρ : En) : Option En := some (ρ.set i (some (false, d)))
def setsD : List Nat → List PyData → En → Option En
  | [], [], ρ => some ρ
  | i :: is, d :: ds, ρ => setsD is ds (ρ.set i (some (false, d)))
  | _, _, _ => none
def gN' (is : List Nat) (d : PyData) (ρ : En) : Option En := (seqD d).bind fun xs => setsD is xs ρ
def tTr (ρ : En) : Option (Bool × En) := some (true, ρ)
def xLcL (is : List Nat) (it : En → Option (List PyData × En)) (g : PyData → En → Option En) (t : Tx) (v : Vx) (ρ : En) : Option (List PyData × En) :=
  (it ρ).bind fun r => (lcG g t v is r.1 [] (wipeE (frzs r.2 is) is)).bind fun q => some (q.1, backE (frzs r.2 is) q.2 is)
def xLc (is : List Nat) (it : En → Option (List PyData × En)) (g : PyData → En → Option En) (t : Tx) (v : Vx) (ρ : En) : Option (Opn × Bool × En) := (xLcL is it g t v ρ).bind fun q => some (.val (.list q.1), true, q.2)
/-! statements -/
def kSq : List Sx → Sx
  | [], ρ => some (.nx ρ)
  | s :: ss, ρ => (s ρ).bind fun r => match r with
    | .nx ρ1 => kSq ss ρ1
    | r => some r
/-- no way goes through -/
def kNo (ρ : En) : Option Out := none
def kNx (ρ : En) : Option Out := some (.nx ρ)
def kBk (ρ : En) : Option Out := some (.bk ρ)
def kCt (ρ : En) : Option Out := some (.ct ρ)
def kEx (f : Ex) (ρ : En) : Option Out := (f ρ).bind fun r => some (.nx r.2.2)
def kRtN (ρ : En) : Option Out := some (.rt (.val .none) false ρ)
def kRt (io : List Nat) (f : Ex) (ρ : En) : Option Out := (f ρ).bind fun r => match r.1 with
  | .slot i => if io.contains i then none else some (.rt r.1 false r.2.2)
  | .val _ => some (.rt r.1 r.2.1 r.2.2)
def kIf (t : Tx) (a b : List Sx) (ρ : En) : Option Out := (t ρ).bind fun r => if r.1 then kSq a r.2 else kSq b r.2
def kWh (w : Nat) (t : Tx) (b : List Sx) (ρ : En) : Option Out := whileD t (kSq b) w ρ
def kLoop (g : PyData → En → Option En) (b : List Sx) (xs : List PyData) (ρ : En) : Option Out := forD g (kSq b) xs ρ
def kFor (it : En → Option (List PyData × En)) (g : PyData → En → Option En) (b : List Sx) (ρ : En) : Option Out := (it ρ).bind fun r => kLoop g b r.1 r.2
def kSet (i : Nat) (f : Vx) (ρ : En) : Option Out := (f ρ).bind fun r => some (.nx (r.2.2.set i (some (r.1, r.2.1))))
def kSetL (i : Nat) (f : En → Option (List PyData × En)) (ρ : En) : Option Out := (f ρ).bind fun q => some (.nx (q.2.set i (some (true, .list q.1))))
def kPar (i j : Nat) (f g : Vx) (ρ : En) : Option Out := (xVs [f, g] ρ).bind fun q => match q.1 with
  | [d, d'] => some (.nx ((q.2.set i (some (false, d))).set j (some (false, d'))))
  | _ => none
def kTpl (g : PyData → En → Option En) (f : Vx) (ρ : En) : Option Out := (f ρ).bind fun r => (g r.2.1 r.2.2).bind fun ρ1 => some (.nx ρ1)
def kSub (f g : Ex) (v : Vx) (ρ : En) : Option Out := (v ρ).bind fun r => (f r.2.2).bind fun z => match z.1 with
  | .slot j => (g z.2.2).bind fun q => (rdO q.2.2 q.1).bind fun k => match q.2.2[j]? with
    | some (some (true, d)) => (setIx d k r.2.1).bind fun d' => some (.nx (q.2.2.set j (some (true, d'))))
    | _ => none
  | _ => none
def kAug (i : Nat) (op : Operator) (f : Ex) (ρ : En) : Option Out := match ρ[i]? with
  | some (some (false, .int a)) => (f ρ).bind fun r => match r.1 with
    | .val (.int b) => (augD op a b).bind fun z => some (.nx (r.2.2.set i (some (false, .int z))))
    | _ => none
  | _ => none
theorem kLoop_nil {g : PyData → En → Option En} {b : List Sx} {ρ : En} : kLoop g b [] ρ = some (.nx ρ) := rfl
theorem kLoop_cons {g : PyData → En → Option En} {b : List Sx} {x : PyData} {xs : List PyData} {ρ : En} : kLoop g b (x :: xs) ρ = (g x ρ).bind fun ρ0 => (kSq b ρ0).bind fun q => match q with
      | .nx ρ1 => kLoop g b xs ρ1
      | .ct ρ1 => kLoop g b xs ρ1
      | .bk ρ1 => some (.nx ρ1)
      | .rt o k ρ1 => some (.rt o k ρ1) := rfl
theorem kWh_zero {t : Tx} {b : List Sx} {ρ : En} : kWh 0 t b ρ = none := rfl
theorem kWh_succ {t : Tx} {b : List Sx} {w : Nat} {ρ : En} : kWh (w + 1) t b ρ = (t ρ).bind fun r => if r.1 then (kSq b r.2).bind fun q => match q with
      | .nx ρ1 => kWh w t b ρ1
      | .ct ρ1 => kWh w t b ρ1
      | .bk ρ1 => some (.nx ρ1)
      | .rt o k ρ1 => some (.rt o k ρ1)
    else some (.nx r.2) := rfl
/-- what is bound waits (from above: simp only [↓bind_m]) -/
theorem bind_m {α β : Type} (x : Option α) (f : α → Option β) : x.bind f = match x with | some a => f a | none => none := by cases x <;> rfl
def outI (cio : List Nat) (io : List Bool) (ds : List PyData) (r : Out) : Option (Bool × PyData × List PyData) :=
  match r with
  | .nx ρ => (afterIo 0 io ds ρ).map fun ds' => (false, .none, ds')
  | .rt (.val d) b ρ => (afterIo 0 io ds ρ).map fun ds' => (b, d, ds')
  | .rt (.slot i) _ ρ => if cio.contains i then none else match ρ[i]? with
    | some (some (true, d)) => (afterIo 0 io ds ρ).map fun ds' => (true, d, ds')
    | _ => none
  | _ => none
end Pf


namespace Pf
open PySem PySem.Spec L2

/-! ## plain tools -/
theorem eqD_int (a b : Int) : eqD (.int a) (.int b) = some (decide (a = b)) := by
  simp [eqD, PyData.plain, depOk, PyData.depth, PyData.eqv]
  rw [Bool.eq_iff_iff]
  simp
theorem eqD_str (a b : Str) : eqD (.str a) (.str b) = some (decide (a = b)) := by
  simp [eqD, PyData.plain, depOk, PyData.depth, PyData.eqv]
  rw [Bool.eq_iff_iff]
  simp
theorem eqD_bool (a b : Bool) : eqD (.bool a) (.bool b) = some (decide (a = b)) := by
  cases a <;> cases b <;> decide
theorem ltD_int (a b : Int) : ltD (.int a) (.int b) = some (decide (a < b)) := by
  simp [ltD, PyData.plain, depOk, PyData.depth, PySem.W.alike, isNoneD, PySem.W.dataLt_int]
theorem le_int (a b : Int) : (!PySem.W.dataLt (.int b) (.int a)) = decide (a ≤ b) := by
  rw [PySem.W.dataLt_int]
  by_cases h : a ≤ b
  · simp [h, Int.not_lt.mpr h]
  · simp [h, Int.not_le.mp h]
mutual
/-- how long a datum's text may be -/
def wt : PyData → Nat
  | .none => 4
  | .bool _ => 5
  | .int _ => 1922
  | .str x => 10 * x.length + 2
  | .list xs => 2 + wtAll xs
  | .tuple xs => 3 + wtAll xs
  | .dict _ => 0
def wtAll : List PyData → Nat
  | [] => 0
  | x :: xs => wt x + 2 + wtAll xs
end
mutual
/-- no dicts, no strange signs -/
def lowD : PyData → Bool
  | .str x => x.cps.toList.all fun c => decide (c < 16 ^ 8)
  | .list xs => lowAll xs
  | .tuple xs => lowAll xs
  | .dict _ => false
  | _ => true
def lowAll : List PyData → Bool
  | [] => true
  | x :: xs => lowD x && lowAll xs
end
theorem listText_le : ∀ ts : List Str, (listText ts).length ≤ 2 + piled ts
  | [] => by decide
  | t :: ts => by
    have h : (listText (t :: ts)).length = (textFrom 1 (("[" : Str) ++ ("" : Str) ++ t) ts).length + 1 := by
      show (textFrom 1 _ ts ++ ("]" : Str)).length = _
      rw [Str.length_append]
      rfl
    rw [h, textFrom_length_pos _ _ _ (by decide), Str.length_append, Str.length_append]
    have : piled (t :: ts) = (t.length + 2) + piled ts := piled_cons t ts
    have e1 : (("[" : Str)).length = 1 := by decide
    have e2 : (("" : Str)).length = 0 := by decide
    omega
theorem tupleText_le : ∀ ts : List Str, (tupleText ts).length ≤ 3 + piled ts
  | [] => by decide
  | t :: ts => by
    have h := join_length_add (t :: ts) (by simp)
    have h1 : (tupleText (t :: ts)).length = ((("(" : Str)).length + (Str.join ", " (t :: ts)).length) + (Str.ofString (if ((t :: ts).length == 1) = true then ",)" else ")")).length := by
      unfold tupleText
      rw [Str.length_append, Str.length_append]
    have e1 : (("(" : Str)).length = 1 := by decide
    have e2 : (Str.ofString (if ((t :: ts).length == 1) = true then ",)" else ")")).length ≤ 2 := by
      split <;> decide
    omega
mutual
theorem shown_le : ∀ d : PyData, d.showable = true → lowD d = true → d.shown.length ≤ wt d
  | .none, _, _ => by decide
  | .bool b, _, _ => by cases b <;> decide
  | .int i, h, _ => by
    have h : i.natAbs.log2 < 1920 := by simpa [PyData.showable] using h
    have := int_text_length_le (by decide) h
    have e : (Str.ofString (toString i)).length = (toString i).length := PySem.ofString_length _
    show (Str.ofString (toString i)).length ≤ 1922
    omega
  | .str x, _, h => by
    have h : ∀ c ∈ x.cps.toList, c < 16 ^ 8 := fun c hc => of_decide_eq_true (List.all_eq_true.mp (show (x.cps.toList.all fun c => decide (c < 16 ^ 8)) = true from h) c hc)
    exact PySem.StrLaws.reprText_len x h
  | .list xs, h, l => by
    have := showns_le xs (by simpa [PyData.showable] using h) (by simpa [lowD] using l)
    have h2 := listText_le (PyData.shownAll xs)
    show (listText (PyData.shownAll xs)).length ≤ 2 + wtAll xs
    omega
  | .tuple xs, h, l => by
    have := showns_le xs (by simpa [PyData.showable] using h) (by simpa [lowD] using l)
    have h2 := tupleText_le (PyData.shownAll xs)
    show (tupleText (PyData.shownAll xs)).length ≤ 3 + wtAll xs
    omega
  | .dict _, _, l => by simp [lowD] at l
theorem showns_le : ∀ ds : List PyData, PyData.showableAll ds = true → lowAll ds = true → piled (PyData.shownAll ds) ≤ wtAll ds
  | [], _, _ => by decide
  | d :: ds, h, l => by
    simp only [PyData.showableAll, Bool.and_eq_true] at h
    simp only [lowAll, Bool.and_eq_true] at l
    have h1 := shown_le d h.1 l.1
    have h2 := showns_le ds h.2 l.2
    have : piled (PyData.shownAll (d :: ds)) = (d.shown.length + 2) + piled (PyData.shownAll ds) := by rw [PyData.shownAll, piled_cons]
    simp only [wtAll]
    omega
end
theorem reprOk_of {d : PyData} (h1 : d.showable = true) (h2 : d.plain = true) (h3 : d.depth ≤ 60) (h4 : lowD d = true) (h5 : wt d ≤ sizeLine) : reprOk d = true := by
  have := shown_le d h1 h4
  simp [reprOk, h1, h2, h3]
  omega
theorem ixN_zero (n : Nat) : ixN n 0 = if 0 < n then some 0 else none := by
  simp [ixN]
theorem ixN_nat (n k : Nat) : ixN n (k : Int) = if k < n then some k else none := by
  unfold ixN
  rw [if_pos (by omega)]
  by_cases h : k < n
  · rw [if_pos h, if_pos (by omega)]
    rfl
  · rw [if_neg h, if_neg (by omega)]
theorem ixN_1 (n : Nat) : ixN n 1 = if 1 < n then some 1 else none := ixN_nat n 1
theorem ixN_2 (n : Nat) : ixN n 2 = if 2 < n then some 2 else none := ixN_nat n 2
theorem ixN_3 (n : Nat) : ixN n 3 = if 3 < n then some 3 else none := ixN_nat n 3
theorem ixN_4 (n : Nat) : ixN n 4 = if 4 < n then some 4 else none := ixN_nat n 4
theorem ixN_5 (n : Nat) : ixN n 5 = if 5 < n then some 5 else none := ixN_nat n 5
theorem ixN_6 (n : Nat) : ixN n 6 = if 6 < n then some 6 else none := ixN_nat n 6
theorem ixN_7 (n : Nat) : ixN n 7 = if 7 < n then some 7 else none := ixN_nat n 7
theorem ixN_8 (n : Nat) : ixN n 8 = if 8 < n then some 8 else none := ixN_nat n 8
theorem ixN_9 (n : Nat) : ixN n 9 = if 9 < n then some 9 else none := ixN_nat n 9
theorem ixN_10 (n : Nat) : ixN n 10 = if 10 < n then some 10 else none := ixN_nat n 10
theorem ixN_11 (n : Nat) : ixN n 11 = if 11 < n then some 11 else none := ixN_nat n 11
theorem ixN_12 (n : Nat) : ixN n 12 = if 12 < n then some 12 else none := ixN_nat n 12
theorem ixN_neg (n k : Nat) (h : 0 < k) : ixN n (-(k : Int)) = if k ≤ n then some (n - k) else none := by
  unfold ixN
  rw [if_neg (by omega)]
  by_cases h : k ≤ n
  · rw [if_pos h, if_pos (by omega)]
    congr 1
    omega
  · rw [if_neg h, if_neg (by omega)]
theorem ixN_m1 (n : Nat) : ixN n (-1) = if 1 ≤ n then some (n - 1) else none := ixN_neg n 1 (by decide)
theorem ixN_m2 (n : Nat) : ixN n (-2) = if 2 ≤ n then some (n - 2) else none := ixN_neg n 2 (by decide)
theorem eqD_int' (a b : Int) : eqD (.int a) (.int b) = some (decide (a = b)) := eqD_int a b
/-- Euclid's way, in whatever slots -/
theorem euclid {t : Tx} {b : List Sx} (f : Int → Int → En) (hz : ∀ (a : Nat) (w : Nat), kWh (w + 1) t b (f a 0) = some (.nx (f a 0)))
    (hs : ∀ (a c : Nat) (w : Nat), c ≠ 0 → kWh (w + 1) t b (f a c) = kWh w t b (f c ((a : Int).fmod (c : Int)))) : ∀ (m a c : Nat), c < 2 ^ m → ∀ w, 2 * m + 1 ≤ w → kWh w t b (f a c) = some (.nx (f (Nat.gcd a c) 0))
  | 0, a, c, hc, w, hw => by
    obtain rfl : c = 0 := by simpa using hc
    obtain ⟨w, rfl⟩ : ∃ v, w = v + 1 := ⟨w - 1, by omega⟩
    rw [Nat.gcd_zero_right]
    exact hz _ _
  | m + 1, a, c, hc, w, hw => by
    obtain ⟨w, rfl⟩ : ∃ v, w = v + 1 := ⟨w - 1, by omega⟩
    by_cases h0 : c = 0
    · subst h0
      rw [Nat.gcd_zero_right]
      exact hz _ _
    · have e1 : (a : Int).fmod (c : Int) = ((a % c : Nat) : Int) := by rw [Int.fmod_eq_emod_of_nonneg _ (by omega)]; rfl
      rw [hs _ _ _ (by omega), e1]
      obtain ⟨w, rfl⟩ : ∃ v, w = v + 1 := ⟨w - 1, by omega⟩
      have g1 : Nat.gcd a c = Nat.gcd c (a % c) := by rw [Nat.gcd_comm a c, Nat.gcd_rec c a, Nat.gcd_comm]
      by_cases h1 : a % c = 0
      · rw [g1, h1, Nat.gcd_zero_right]
        exact hz _ _
      · have e2 : (c : Int).fmod ((a % c : Nat) : Int) = ((c % (a % c) : Nat) : Int) := by rw [Int.fmod_eq_emod_of_nonneg _ (by omega)]; rfl
        rw [hs _ _ _ (by omega), e2]
        have g2 : Nat.gcd c (a % c) = Nat.gcd (a % c) (c % (a % c)) := by rw [Nat.gcd_comm c, Nat.gcd_rec (a % c) c, Nat.gcd_comm]
        rw [g1, g2]
        refine euclid f hz hs m _ _ ?_ w (by omega)
        have l1 : a % c < c := Nat.mod_lt _ (by omega)
        have l2 : c % (a % c) < a % c := Nat.mod_lt _ (by omega)
        have l3 := Nat.div_add_mod c (a % c)
        have l4 : 1 ≤ c / (a % c) := Nat.div_pos (by omega) (by omega)
        have l5 : a % c * 1 ≤ a % c * (c / (a % c)) := Nat.mul_le_mul_left _ l4
        rw [Nat.pow_succ] at hc
        omega
theorem sz_ok {n : Nat} (h : n ≤ 16777216) : (n ≤ sizeLine) = True := eq_true (by rw [show sizeLine = 16777216 from rfl]; exact h)
theorem sz_lt {n : Nat} (h : n < 16777216) : (n < sizeLine) = True := eq_true (by rw [show sizeLine = 16777216 from rfl]; exact h)
/-- what a def may not change comes back as it went -/
theorem afterIo_all : ∀ {j : Nat} {io : List Bool} {ds ds' : List PyData} {ρ : En}, io.all (!·) = true → afterIo j io ds ρ = some ds' → ds' = ds
  | _, [], [], _, _, _, h => by cases h; rfl
  | _, [], _ :: _, _, _, _, h => by simp [afterIo] at h
  | _, true :: _, _, _, _, h, _ => by simp at h
  | _, false :: _, [], _, _, _, h => by simp [afterIo] at h
  | j, false :: io, d :: ds, ds', ρ, h, e => by
    simp only [afterIo] at e
    obtain ⟨r, h1, rfl⟩ := Option.map_eq_some_iff.mp e
    rw [afterIo_all (by simpa using h) h1]
theorem afterIo_pen {j : Nat} {io : List Bool} {p x : PyData} {ds ys : List PyData} {ρ : En} (h : io.all (!·) = true) (e : afterIo j (true :: io) (p :: ds) ρ = some (x :: ys)) : ys = ds := by
  simp only [afterIo] at e
  split at e
  · obtain ⟨r, h1, h2⟩ := Option.map_eq_some_iff.mp e
    cases h2
    exact afterIo_all h h1
  · cases e
theorem io_pen {o : Option Out} {cio : List Nat} {io : List Bool} {p x d : PyData} {ds ys : List PyData} {b : Bool} (e : o.bind (outI cio (true :: io) (p :: ds)) = some (b, d, x :: ys)) (h : io.all (!·) = true := by rfl) : ys = ds := by
  obtain ⟨r, _, e⟩ := Option.bind_eq_some_iff.mp e
  unfold outI at e
  split at e
  · obtain ⟨z, h1, h2⟩ := Option.map_eq_some_iff.mp e
    cases h2
    exact afterIo_pen h h1
  · obtain ⟨z, h1, h2⟩ := Option.map_eq_some_iff.mp e
    cases h2
    exact afterIo_pen h h1
  · split at e
    · cases e
    · split at e
      · obtain ⟨z, h1, h2⟩ := Option.map_eq_some_iff.mp e
        cases h2
        exact afterIo_pen h h1
      · cases e
  · cases e
end Pf


namespace Pf
open PySem PySem.Spec L2

/-! ## comprehensions, plainly -/
theorem set_back {ρ : En} {i : Nat} {w : Option (Bool × PyData)} (h : ρ[i]? = some none) : (ρ.set i w).set i none = ρ := by
  rw [List.set_set]
  refine List.ext_getElem? fun j => ?_
  by_cases hj : i = j
  · subst hj
    rw [List.getElem?_set_self (List.getElem?_eq_some_iff.mp h).1, h]
  · rw [List.getElem?_set_ne hj]
/-- nothing but the turn's own name is touched -/
theorem lc_pure {t : Tx} {v : Vx} {i : Nat} {ρ : En} {p : PyData → Bool} {f : PyData → PyData} (hi : ρ[i]? = some none) : ∀ (xs acc : List PyData),
    (∀ x ∈ xs, t (ρ.set i (some (false, x))) = some (p x, ρ.set i (some (false, x)))) →
    (∀ x ∈ xs, p x = true → ∃ b, v (ρ.set i (some (false, x))) = some (b, f x, ρ.set i (some (false, x)))) → acc.length + xs.length ≤ sizeLine →
    lcG (g1 i) t v [i] xs acc ρ = some (acc ++ (xs.filter p).map f, ρ)
  | [], acc, _, _, _ => by simp [lcG]
  | x :: xs, acc, ht, hv, hl => by
    have h1 := ht x List.mem_cons_self
    have ih := fun acc' h => lc_pure hi xs acc' (fun y hy => ht y (List.mem_cons_of_mem _ hy)) (fun y hy => hv y (List.mem_cons_of_mem _ hy)) h
    simp only [List.length_cons] at hl
    cases hp : p x with
    | false =>
      rw [hp] at h1
      have e : lcG (g1 i) t v [i] (x :: xs) acc ρ = lcG (g1 i) t v [i] xs acc (wipeE (ρ.set i (some (false, x))) [i]) := by
        simp only [lcG, g1, Option.bind_some, h1, Bool.false_eq_true, if_false]
      rw [e, show wipeE (ρ.set i (some (false, x))) [i] = ρ from set_back hi, ih acc (by omega), List.filter_cons_of_neg (by simp [hp])]
    | true =>
      rw [hp] at h1
      obtain ⟨b, h2⟩ := hv x List.mem_cons_self hp
      have e : lcG (g1 i) t v [i] (x :: xs) acc ρ = lcG (g1 i) t v [i] xs (acc ++ [f x]) (wipeE (ρ.set i (some (false, x))) [i]) := by
        simp only [lcG, g1, Option.bind_some, h1, h2, if_true]
        rw [if_pos (by omega)]
      rw [e, show wipeE (ρ.set i (some (false, x))) [i] = ρ from set_back hi, ih _ (by simp; omega), List.filter_cons_of_pos hp]
      simp
/-- the turns draw: st is what is handed on -/
theorem lc_draw {v : Vx} {i : Nat} {S : Nat → En → Prop} {R : PyData → Prop} {c M : Nat} (wp : ∀ n ρ x, n ≤ M → S n ρ → ∃ b y ρ', v (ρ.set i (some (false, x))) = some (b, y, ρ') ∧ R y ∧ S (n + c) (wipeE ρ' [i])) : ∀ (xs acc : List PyData) (n : Nat) (ρ : En), S n ρ → n + c * xs.length ≤ M → acc.length + xs.length ≤ sizeLine →
    ∃ ys ρ', lcG (g1 i) tTr v [i] xs acc ρ = some (acc ++ ys, ρ') ∧ ys.length = xs.length ∧ (∀ y ∈ ys, R y) ∧ S (n + c * xs.length) ρ'
  | [], acc, n, ρ, hs, _, _ => ⟨[], ρ, by simp [lcG], rfl, fun y hy => (List.not_mem_nil hy).elim, hs⟩
  | x :: xs, acc, n, ρ, hs, hM, hl => by
    simp only [List.length_cons] at hl hM
    rw [Nat.mul_add, Nat.mul_one] at hM
    obtain ⟨b, y, ρ1, e1, r1, s1⟩ := wp n ρ x (by omega) hs
    obtain ⟨ys, ρ2, e2, l2, r2, s2⟩ := lc_draw wp xs (acc ++ [y]) (n + c) _ s1 (by omega) (by simp; omega)
    refine ⟨y :: ys, ρ2, ?_, by simp [l2], fun z hz => ?_, ?_⟩
    · simp only [lcG, g1, Option.bind_some, tTr, if_true, e1]
      rw [if_pos (by omega), e2]
      simp
    · rcases List.mem_cons.mp hz with rfl | hz
      · exact r1
      · exact r2 z hz
    · have : n + c * (xs.length + 1) = n + c + c * xs.length := by rw [Nat.mul_add]; omega
      rw [List.length_cons, this]
      exact s2
end Pf


namespace Pf
open PySem PySem.Spec L2

/-! ## resolved texts, as data -/
inductive RG where
  | one (i : Nat) | many (is : List Nat)
inductive RE where
  | c (d : PyData) | s (i : Nat)
  | bin (op : Operator) (a b : RE) | un (op : UnaryOp) (a : RE) | ife (t a b : RE)
  | tup (es : List RE) | lst (es : List RE) | ix (a b : RE) | cut (a : RE) (lo hi : Option RE)
  | van (es : List RE) | vor (es : List RE) | t (t : RE)
  | bi (b : Bi) (es : List RE) | isi (ty : Str) (a : RE)
  | mut (m : Str) (a : RE) (es : List RE) | met (m : Str) (a : RE) (es : List RE)
  | call (f : Nat) (dfl : List PyData) (src : List Src) (as : List (Bool × RE)) (ks : List RE)
  | lc (is : List Nat) (it : RE) (g : RG) (t v : RE)
  | pick (x : RE) (f p : Nat) | sel (a b t : RE) | emp (i : Nat) (d : PyData)
  | tsp (k i : Nat) (op : CmpOp) (n : Int)
  | tr | tan (ts : List RE) | tor (ts : List RE) | tnt (t : RE) | tc1 (op : CmpOp) (a b : RE) | tcc (op op' : CmpOp) (a b c : RE) | tx (a : RE)
  | rng (es : List RE) | itr (a : RE)
inductive RS where
  | nx | bk | ct | ex (a : RE) | rtN | rt (a : RE) | iff (t : RE) (a b : List RS) | wh (w : Nat) (t : RE) (b : List RS) | for (it : RE) (g : RG) (b : List RS)
  | set (i : Nat) (a : RE) | setL (i : Nat) (is : List Nat) (it : RE) (g : RG) (t v : RE) | par (i j : Nat) (a b : RE) | tupG (g : RG) (a : RE) | sub (a b v : RE) | aug (i : Nat) (op : Operator) (a : RE)
abbrev Ix := En → Option (List PyData × En)
structure DF where
  o : RE → Ex
  t : RE → Tx
  i : RE → Ix
def RG.den : RG → PyData → En → Option En
  | .one i => g1 i
  | .many is => gN' is
def agOf (io : List Nat) (F : DF) (p : Bool × RE) : Ag := if p.1 then .mine (F.o p.2) else .shr (xV io (F.o p.2))
def roOf (F : DF) : Option RE → Option Ex
  | none => none
  | some e => some (F.o e)
/-- what may be read twice -/
def pX : RE → Ex
  | .s i => xS i
  | .c d => xC d
  | .ix (.s i) (.c d) => xIx (xS i) (xC d)
  | _ => fun _ => none
def spL (k i : Nat) : Ex := match k with
  | 0 => xBi .len [xS i]
  | _ => xS i
def spR (k : Nat) (n : Int) : Ex := match k with
  | 0 => xC (.int n)
  | 1 => xC (.int n)
  | 2 => xC (.str ⟨#[]⟩)
  | 3 => xLst []
  | 4 => xTup []
  | _ => xC .none
def dO (nm : Nat → Str) (io : List Nat) (Γ : Sem3) (F : DF) : RE → Ex
  | .c d => xC d
  | .s i => xS i
  | .bin op a b => xBin op (F.o a) (F.o b)
  | .un op a => xUn op (F.o a)
  | .ife t a b => xIf (F.t t) (F.o a) (F.o b)
  | .tup es => xTup (es.map fun e => xV io (F.o e))
  | .lst es => xLst (es.map fun e => xV io (F.o e))
  | .ix a b => xIx (F.o a) (F.o b)
  | .cut a lo hi => xCut (F.o a) (roOf F lo) (roOf F hi)
  | .van es => xAnd (es.map F.o)
  | .vor es => xOr (es.map F.o)
  | .t t => xT (F.t t)
  | .bi b es => xBi b (es.map F.o)
  | .isi ty a => xIsi ty (F.o a)
  | .mut m a es => xMut m (F.o a) (es.map fun e => xV io (F.o e))
  | .met m a es => xMet m (F.o a) (es.map F.o)
  | .call f dfl src as ks => xCall Γ (nm f) dfl src (as.map (agOf io F)) (ks.map fun e => xV io (F.o e))
  | .lc is it g t v => xLc is (F.i it) g.den (F.t t) (xV io (F.o v))
  | .pick x f p => xIx (pX x) (xCall Γ (nm f) [] [.pos 0, .pos 1] [.mine (xS p), .shr (xV io (xBi .len [pX x]))] [])
  | .sel a b t => xIx (xLst [xV io (F.o a), xV io (F.o b)]) (xBi .int [xT (F.t t)])
  | .emp i d => xIx (xLst [xV io (xS i), xV io (xC d)]) (xBi .int [xT (tC1 .Eq (xS i) (xC (.str ⟨#[]⟩)))])
  | _ => fun _ => none
def dT (io : List Nat) (F : DF) : RE → Tx
  | .tr => tTr
  | .tsp k i op n => tC1 op (spL k i) (spR k n)
  | .tan ts => tAn (ts.map F.t)
  | .tor ts => tOrr (ts.map F.t)
  | .tnt t => tNt (F.t t)
  | .tc1 op a b => tC1 op (F.o a) (F.o b)
  | .tcc op op' a b c => tCC op op' (xV io (F.o a)) (xV io (F.o b)) (xV io (F.o c))
  | .tx a => tX (F.o a)
  | _ => fun _ => none
def dI (io : List Nat) (F : DF) : RE → Ix
  | .rng es => xRng (es.map F.o)
  | .itr a => xIt (xV io (F.o a))
  | _ => fun _ => none
def den (nm : Nat → Str) (io : List Nat) (Γ : Sem3) : Nat → DF
  | 0 => ⟨fun _ _ => none, fun _ _ => none, fun _ _ => none⟩
  | n + 1 => ⟨dO nm io Γ (den nm io Γ n), dT io (den nm io Γ n), dI io (den nm io Γ n)⟩
def dS1 (nm : Nat → Str) (io : List Nat) (Γ : Sem3) (n : Nat) (S : RS → Sx) : RS → Sx
  | .nx => kNx
  | .bk => kBk
  | .ct => kCt
  | .ex a => kEx ((den nm io Γ n).o a)
  | .rtN => kRtN
  | .rt a => kRt io ((den nm io Γ n).o a)
  | .iff t a b => kIf ((den nm io Γ n).t t) (a.map S) (b.map S)
  | .wh w t b => kWh w ((den nm io Γ n).t t) (b.map S)
  | .for it g b => kFor ((den nm io Γ n).i it) g.den (b.map S)
  | .set i a => kSet i (xV io ((den nm io Γ n).o a))
  | .setL i is it g t v => kSetL i (xLcL is ((den nm io Γ n).i it) g.den ((den nm io Γ n).t t) (xV io ((den nm io Γ n).o v)))
  | .par i j a b => kPar i j (xV io ((den nm io Γ n).o a)) (xV io ((den nm io Γ n).o b))
  | .tupG g a => kTpl g.den (xV io ((den nm io Γ n).o a))
  | .sub a b v => kSub ((den nm io Γ n).o a) ((den nm io Γ n).o b) (xV io ((den nm io Γ n).o v))
  | .aug i op a => kAug i op ((den nm io Γ n).o a)
/-- n: how deep expressions, m: how deep statements -/
def dS (nm : Nat → Str) (io : List Nat) (Γ : Sem3) (n : Nat) : Nat → RS → Sx
  | 0 => fun _ _ => none
  | m + 1 => dS1 nm io Γ n (dS nm io Γ n m)
def dSs (nm : Nat → Str) (io : List Nat) (Γ : Sem3) (n m : Nat) (ss : List RS) : Sx := kSq (ss.map (dS nm io Γ n m))
/-- a def: its own slots, its statements -/
structure RD where
  name : Str
  io : List Bool
  N : Nat
  body : List RS
end Pf


namespace Pf
open PySem PySem.Spec L2

/-! ## what data are like -/
inductive AV where
  | any | con (d : PyData) | bln | int (lo hi : Int) | str (lo hi : Nat) (cs : List (Nat × Nat))
  | sq (t : Bool) (lo hi : Nat) (a : AV) | ex (t : Bool) (as : List AV) | pen (k : Nat) | pr (n : Nat) | or (a b : AV)
structure Am where
  Pen : Nat → PyData → Prop
  Pr : Nat → PyData → Prop
  mono : ∀ (j k : Nat) (d : PyData), j ≤ k → Pen j d → Pen k d
def inC (c : Nat) (cs : List (Nat × Nat)) : Prop := ∃ p ∈ cs, p.1 ≤ c ∧ c ≤ p.2
mutual
inductive Ga (M : Am) : AV → PyData → Prop
  | any {d : PyData} : Ga M .any d
  | con {d : PyData} : Ga M (.con d) d
  | bln {b : Bool} : Ga M .bln (.bool b)
  | int {lo hi i : Int} : lo ≤ i → i ≤ hi → Ga M (.int lo hi) (.int i)
  | str {lo hi : Nat} {cs : List (Nat × Nat)} {z : Str} : lo ≤ z.length → z.length ≤ hi → (∀ c ∈ z.cps.toList, inC c cs) → Ga M (.str lo hi cs) (.str z)
  | sqL {lo hi : Nat} {a : AV} {ds : List PyData} : lo ≤ ds.length → ds.length ≤ hi → (∀ d ∈ ds, Ga M a d) → Ga M (.sq false lo hi a) (.list ds)
  | sqT {lo hi : Nat} {a : AV} {ds : List PyData} : lo ≤ ds.length → ds.length ≤ hi → (∀ d ∈ ds, Ga M a d) → Ga M (.sq true lo hi a) (.tuple ds)
  | exL {as : List AV} {ds : List PyData} : Gas M as ds → Ga M (.ex false as) (.list ds)
  | exT {as : List AV} {ds : List PyData} : Gas M as ds → Ga M (.ex true as) (.tuple ds)
  | pen {k : Nat} {d : PyData} : M.Pen k d → Ga M (.pen k) d
  | pr {n : Nat} {d : PyData} : M.Pr n d → Ga M (.pr n) d
  | orl {a b : AV} {d : PyData} : Ga M a d → Ga M (.or a b) d
  | orr {a b : AV} {d : PyData} : Ga M b d → Ga M (.or a b) d
inductive Gas (M : Am) : List AV → List PyData → Prop
  | nil : Gas M [] []
  | cons {a : AV} {as : List AV} {d : PyData} {ds : List PyData} : Ga M a d → Gas M as ds → Gas M (a :: as) (d :: ds)
end
section
variable {M : Am}
theorem Gas.con : ∀ {ds : List PyData}, Gas M (ds.map .con) ds
  | [] => .nil
  | _ :: _ => .cons .con Gas.con
theorem Gas.length : ∀ {as : List AV} {ds : List PyData}, Gas M as ds → as.length = ds.length
  | _, _, .nil => rfl
  | _, _, .cons _ t => by simp [Gas.length t]
theorem Gas.get : ∀ {as : List AV} {ds : List PyData} {i : Nat} {a : AV}, Gas M as ds → as[i]? = some a → ∃ d, ds[i]? = some d ∧ Ga M a d
  | _, _, _, _, .nil, h => by simp at h
  | _, _, 0, _, .cons g _, h => by simp at h; subst h; exact ⟨_, rfl, g⟩
  | _, _, i + 1, a, .cons _ t, h => by
    obtain ⟨d, h1, h2⟩ := Gas.get (i := i) t (by simpa using h)
    exact ⟨d, by simpa using h1, h2⟩
theorem Gas.mem : ∀ {as : List AV} {ds : List PyData} {d : PyData}, Gas M as ds → d ∈ ds → ∃ a ∈ as, Ga M a d
  | _, _, _, .nil, h => by cases h
  | _, _, _, .cons g t, h => by
    rcases List.mem_cons.mp h with rfl | h
    · exact ⟨_, List.mem_cons_self, g⟩
    · obtain ⟨a, h1, h2⟩ := t.mem h
      exact ⟨a, List.mem_cons_of_mem _ h1, h2⟩
theorem Gas.append : ∀ {as bs : List AV} {ds es : List PyData}, Gas M as ds → Gas M bs es → Gas M (as ++ bs) (ds ++ es)
  | _, _, _, _, .nil, h => h
  | _, _, _, _, .cons g t, h => .cons g (t.append h)
theorem Gas.all {a : AV} : ∀ {as : List AV} {ds : List PyData}, Gas M as ds → (∀ b ∈ as, ∀ d, Ga M b d → Ga M a d) → ∀ d ∈ ds, Ga M a d := fun g h d hd => by
  obtain ⟨b, h1, h2⟩ := g.mem hd
  exact h b h1 d h2
def csOf (l : List Nat) : List (Nat × Nat) := if l.all fun c => decide (97 ≤ c) && decide (c ≤ 122) then [(97, 122)] else l.map fun c => (c, c)
theorem csOf_ok {l : List Nat} {c : Nat} (h : c ∈ l) : inC c (csOf l) := by
  unfold csOf
  split
  · rename_i g
    have := List.all_eq_true.mp g c h
    simp only [Bool.and_eq_true, decide_eq_true_eq] at this
    exact ⟨(97, 122), List.mem_singleton.mpr rfl, this⟩
  · exact ⟨(c, c), List.mem_map.mpr ⟨c, h, rfl⟩, Nat.le_refl _, Nat.le_refl _⟩
def shp : AV → AV
  | .con (.int i) => .int i i
  | .con (.str z) => .str z.length z.length (csOf z.cps.toList)
  | .con (.list ds) => .ex false (ds.map .con)
  | .con (.tuple ds) => .ex true (ds.map .con)
  | a => a
theorem shp_ok {a : AV} {d : PyData} (h : Ga M a d) : Ga M (shp a) d := by
  unfold shp
  split
  · cases h; exact .int (Int.le_refl _) (Int.le_refl _)
  · cases h
    exact .str (Nat.le_refl _) (Nat.le_refl _) fun c hc => csOf_ok hc
  · cases h; exact .exL .con
  · cases h; exact .exT .con
  · exact h
def csLe (cs ds : List (Nat × Nat)) : Bool := cs.all fun p => ds.any fun q => decide (q.1 ≤ p.1) && decide (p.2 ≤ q.2)
def csU (cs ds : List (Nat × Nat)) : List (Nat × Nat) := ds ++ cs.filter fun p => !(ds.any fun q => decide (q.1 ≤ p.1) && decide (p.2 ≤ q.2))
theorem csLe_ok {cs ds : List (Nat × Nat)} {c : Nat} (h : csLe cs ds = true) (hc : inC c cs) : inC c ds := by
  obtain ⟨p, h1, h2, h3⟩ := hc
  have := List.all_eq_true.mp h p h1
  obtain ⟨q, g1, g2⟩ := List.any_eq_true.mp this
  simp only [Bool.and_eq_true, decide_eq_true_eq] at g2
  exact ⟨q, g1, by omega, by omega⟩
theorem csU_l {cs ds : List (Nat × Nat)} {c : Nat} (hc : inC c cs) : inC c (csU cs ds) := by
  obtain ⟨p, h1, h2, h3⟩ := hc
  by_cases h : (ds.any fun q => decide (q.1 ≤ p.1) && decide (p.2 ≤ q.2)) = true
  · obtain ⟨q, g1, g2⟩ := List.any_eq_true.mp h
    simp only [Bool.and_eq_true, decide_eq_true_eq] at g2
    exact ⟨q, List.mem_append_left _ g1, by omega, by omega⟩
  · exact ⟨p, List.mem_append_right _ (List.mem_filter.mpr ⟨h1, by simpa using h⟩), h2, h3⟩
theorem csU_r {cs ds : List (Nat × Nat)} {c : Nat} (hc : inC c ds) : inC c (csU cs ds) := by
  obtain ⟨p, h1, h2⟩ := hc
  exact ⟨p, List.mem_append_left _ h1, h2⟩
/-- the same datum, surely -/
def deq : Nat → PyData → PyData → Bool
  | 0, _, _ => false
  | n + 1, a, b => match a, b with
    | .none, .none => true
    | .bool x, .bool y => x == y
    | .int x, .int y => decide (x = y)
    | .str x, .str y => decide (x.cps.toList = y.cps.toList)
    | .list xs, .list ys => xs.length == ys.length && (xs.zip ys).all fun p => deq n p.1 p.2
    | .tuple xs, .tuple ys => xs.length == ys.length && (xs.zip ys).all fun p => deq n p.1 p.2
    | _, _ => false
theorem zip_eq {n : Nat} (ih : ∀ a b, deq n a b = true → a = b) : ∀ {xs ys : List PyData}, xs.length = ys.length → ((xs.zip ys).all fun p => deq n p.1 p.2) = true → xs = ys
  | [], [], _, _ => rfl
  | [], _ :: _, h, _ => by simp at h
  | _ :: _, [], h, _ => by simp at h
  | x :: xs, y :: ys, h, g => by
    simp only [List.zip_cons_cons, List.all_cons, Bool.and_eq_true] at g
    rw [ih _ _ g.1, zip_eq ih (by simpa using h) g.2]
theorem deq_ok : ∀ (n : Nat) (a b : PyData), deq n a b = true → a = b
  | 0, _, _, h => by cases h
  | n + 1, a, b, h => by
    unfold deq at h
    split at h
    · rfl
    · rw [eq_of_beq h]
    · rw [of_decide_eq_true h]
    · have := of_decide_eq_true h
      rename_i x y
      cases x with
      | mk x => cases y with
        | mk y =>
          have : x = y := Array.toList_inj.mp this
          rw [this]
    · simp only [Bool.and_eq_true, beq_iff_eq] at h
      rw [zip_eq (deq_ok n) h.1 h.2]
    · simp only [Bool.and_eq_true, beq_iff_eq] at h
      rw [zip_eq (deq_ok n) h.1 h.2]
    · cases h
def les (f : AV → AV → Bool) : List AV → List AV → Bool
  | [], [] => true
  | a :: as, b :: bs => f a b && les f as bs
  | _, _ => false
def leS (f : AV → AV → Bool) (a b : AV) : Bool :=
  match a, b with
  | .int l h, .int l' h' => decide (l' ≤ l) && decide (h ≤ h')
  | .str l h cs, .str l' h' cs' => decide (l' ≤ l) && decide (h ≤ h') && csLe cs cs'
  | .sq t l h x, .sq t' l' h' y => (t == t') && decide (l' ≤ l) && decide (h ≤ h') && (decide (h = 0) || f x y)
  | .ex t as, .sq t' l h y => (t == t') && decide (l ≤ as.length) && decide (as.length ≤ h) && as.all fun x => f x y
  | .ex t as, .ex t' bs => (t == t') && les f as bs
  | _, _ => false
def le : Nat → AV → AV → Bool
  | 0, _, _ => false
  | n + 1, a, b => match a, b with
    | _, .any => true
    | .or x y, b => le n x b && le n y b
    | .con d, .con e => deq n d e
    | a, .or x y => le n a x || le n a y
    | .pen j, .pen k => decide (j ≤ k)
    | .pr j, .pr k => decide (j = k)
    | .bln, .bln => true
    | .con (.bool _), .bln => true
    | a, b => leS (le n) (shp a) b
theorem les_ok {f : AV → AV → Bool} (hf : ∀ a b, f a b = true → ∀ d, Ga M a d → Ga M b d) : ∀ {as bs : List AV} {ds : List PyData}, les f as bs = true → Gas M as ds → Gas M bs ds
  | [], [], _, _, g => g
  | _ :: _, [], _, h, _ => by simp [les] at h
  | [], _ :: _, _, h, _ => by simp [les] at h
  | a :: as, b :: bs, _, h, .cons g t => by
    simp only [les, Bool.and_eq_true] at h
    exact .cons (hf _ _ h.1 _ g) (les_ok hf h.2 t)
theorem leS_ok {f : AV → AV → Bool} (hf : ∀ a b, f a b = true → ∀ d, Ga M a d → Ga M b d) {a b : AV} (h : leS f a b = true) {d : PyData} (g : Ga M a d) : Ga M b d := by
  unfold leS at h
  split at h
  · simp only [Bool.and_eq_true, decide_eq_true_eq] at h
    cases g with
    | int g1 g2 => exact .int (by omega) (by omega)
  · simp only [Bool.and_eq_true, decide_eq_true_eq] at h
    cases g with
    | str g1 g2 g3 => exact .str (by omega) (by omega) fun c hc => csLe_ok h.2 (g3 c hc)
  · simp only [Bool.and_eq_true, decide_eq_true_eq, beq_iff_eq, Bool.or_eq_true] at h
    obtain ⟨⟨⟨rfl, h1⟩, h2⟩, h3⟩ := h
    cases g with
    | sqL g1 g2 g3 =>
      refine .sqL (by omega) (by omega) fun d hd => ?_
      rcases h3 with h3 | h3
      · have : 0 < List.length _ := List.length_pos_of_mem hd
        omega
      · exact hf _ _ h3 _ (g3 d hd)
    | sqT g1 g2 g3 =>
      refine .sqT (by omega) (by omega) fun d hd => ?_
      rcases h3 with h3 | h3
      · have : 0 < List.length _ := List.length_pos_of_mem hd
        omega
      · exact hf _ _ h3 _ (g3 d hd)
  · simp only [Bool.and_eq_true, decide_eq_true_eq, beq_iff_eq, List.all_eq_true] at h
    obtain ⟨⟨⟨rfl, h1⟩, h2⟩, h3⟩ := h
    cases g with
    | exL g1 => exact .sqL (by rw [← g1.length]; omega) (by rw [← g1.length]; omega) (g1.all fun b hb d gb => hf _ _ (h3 b hb) d gb)
    | exT g1 => exact .sqT (by rw [← g1.length]; omega) (by rw [← g1.length]; omega) (g1.all fun b hb d gb => hf _ _ (h3 b hb) d gb)
  · simp only [Bool.and_eq_true, beq_iff_eq] at h
    obtain ⟨rfl, h1⟩ := h
    cases g with
    | exL g1 => exact .exL (les_ok hf h1 g1)
    | exT g1 => exact .exT (les_ok hf h1 g1)
  · cases h
theorem le_ok : ∀ (n : Nat) (a b : AV), le n a b = true → ∀ d, Ga M a d → Ga M b d
  | 0, _, _, h, _, _ => by cases h
  | n + 1, a, b, h, d, g => by
    unfold le at h
    split at h
    · exact .any
    · simp only [Bool.and_eq_true] at h
      cases g with
      | orl g => exact le_ok n _ _ h.1 _ g
      | orr g => exact le_ok n _ _ h.2 _ g
    · rw [deq_ok _ _ _ h] at g
      exact g
    · simp only [Bool.or_eq_true] at h
      rcases h with h | h
      · exact .orl (le_ok n _ _ h _ g)
      · exact .orr (le_ok n _ _ h _ g)
    · cases g with
      | pen g => exact .pen (M.mono _ _ _ (of_decide_eq_true h) g)
    · rw [← of_decide_eq_true h]
      exact g
    · exact g
    · cases g
      exact .bln
    · exact leS_ok (le_ok n) h (shp_ok g)
/-- an or of two -/
def joins (f : AV → AV → AV) : List AV → List AV → List AV
  | a :: as, b :: bs => f a b :: joins f as bs
  | _, _ => []
def fold1 (f : AV → AV → AV) (as : List AV) : AV :=
  match as with
  | [] => .any
  | a :: r => r.foldl f a
def joinS (f : AV → AV → AV) (a b : AV) : Option AV :=
  match a, b with
  | .int l h, .int l' h' => some (.int (if l ≤ l' then l else l') (if h ≤ h' then h' else h))
  | .str l h cs, .str l' h' cs' => some (.str (min l l') (max h h') (csU cs cs'))
  | .sq t l h x, .sq t' l' h' y => if t == t' then some (.sq t (min l l') (max h h') (f x y)) else none
  | .ex t as, .sq t' l h y => if t == t' then some (.sq t (min as.length l) (max as.length h) (as.foldl f y)) else none
  | .sq t' l h y, .ex t as => if t == t' then some (.sq t (min as.length l) (max as.length h) (as.foldl f y)) else none
  | .ex t as, .ex t' bs => if t == t' then some (if as.length == bs.length then .ex t (joins f as bs) else .sq t (min as.length bs.length) (max as.length bs.length) (fold1 f (as ++ bs))) else none
  | .bln, .bln => some .bln
  | .con (.bool _), .bln => some .bln
  | .bln, .con (.bool _) => some .bln
  | .con (.bool _), .con (.bool _) => some .bln
  | .pen j, .pen k => some (.pen (max j k))
  | _, _ => none
def join : Nat → AV → AV → AV
  | 0, _, _ => .any
  | n + 1, a, b => if le n a b then b else if le n b a then a else (joinS (join n) (shp a) (shp b)).getD (.or a b)
theorem foldl_l {f : AV → AV → AV} (hf : ∀ a b d, (Ga M a d → Ga M (f a b) d) ∧ (Ga M b d → Ga M (f a b) d)) : ∀ (as : List AV) (y : AV) (d : PyData), (Ga M y d → Ga M (as.foldl f y) d) ∧ ∀ a ∈ as, Ga M a d → Ga M (as.foldl f y) d
  | [], y, d => ⟨id, fun a ha => by cases ha⟩
  | a :: as, y, d => by
    obtain ⟨h1, h2⟩ := foldl_l hf as (f y a) d
    refine ⟨fun g => h1 ((hf y a d).1 g), fun b hb g => ?_⟩
    rcases List.mem_cons.mp hb with rfl | hb
    · exact h1 ((hf y b d).2 g)
    · exact h2 b hb g
theorem fold1_ok {f : AV → AV → AV} (hf : ∀ a b d, (Ga M a d → Ga M (f a b) d) ∧ (Ga M b d → Ga M (f a b) d)) {as : List AV} {a : AV} {d : PyData} (ha : a ∈ as) (g : Ga M a d) : Ga M (fold1 f as) d := by
  unfold fold1
  split
  · cases ha
  · rcases List.mem_cons.mp ha with rfl | ha
    · exact (foldl_l hf _ _ _).1 g
    · exact (foldl_l hf _ _ _).2 _ ha g
theorem joins_l {f : AV → AV → AV} (hf : ∀ a b d, (Ga M a d → Ga M (f a b) d) ∧ (Ga M b d → Ga M (f a b) d)) : ∀ {as bs : List AV} {ds : List PyData}, as.length = bs.length → Gas M as ds → Gas M (joins f as bs) ds
  | _, [], _, _, .nil => .nil
  | _, _ :: _, _, h, .nil => by simp at h
  | _, [], _, h, .cons _ _ => by simp at h
  | _, b :: bs, _, h, .cons g t => .cons ((hf _ _ _).1 g) (joins_l hf (by simpa using h) t)
theorem joins_r {f : AV → AV → AV} (hf : ∀ a b d, (Ga M a d → Ga M (f a b) d) ∧ (Ga M b d → Ga M (f a b) d)) : ∀ {as bs : List AV} {ds : List PyData}, as.length = bs.length → Gas M bs ds → Gas M (joins f as bs) ds
  | [], _, _, _, .nil => .nil
  | _ :: _, _, _, h, .nil => by simp at h
  | [], _, _, h, .cons _ _ => by simp at h
  | a :: as, _, _, h, .cons g t => .cons ((hf _ _ _).2 g) (joins_r hf (by simpa using h) t)
theorem joinS_ok {f : AV → AV → AV} (hf : ∀ a b d, (Ga M a d → Ga M (f a b) d) ∧ (Ga M b d → Ga M (f a b) d)) {a b c : AV} (h : joinS f a b = some c) (d : PyData) : (Ga M a d → Ga M c d) ∧ (Ga M b d → Ga M c d) := by
  unfold joinS at h
  split at h
  · cases h
    constructor
    · intro g
      cases g with
      | int g1 g2 => exact .int (by split <;> omega) (by split <;> omega)
    · intro g
      cases g with
      | int g1 g2 => exact .int (by split <;> omega) (by split <;> omega)
  · cases h
    constructor
    · intro g
      cases g with
      | str g1 g2 g3 => exact .str (by omega) (by omega) fun c hc => csU_l (g3 c hc)
    · intro g
      cases g with
      | str g1 g2 g3 => exact .str (by omega) (by omega) fun c hc => csU_r (g3 c hc)
  · split at h
    · rename_i ht
      cases h
      rw [beq_iff_eq] at ht
      subst ht
      constructor
      · intro g
        cases g with
        | sqL g1 g2 g3 => exact .sqL (by omega) (by omega) fun d hd => (hf _ _ _).1 (g3 d hd)
        | sqT g1 g2 g3 => exact .sqT (by omega) (by omega) fun d hd => (hf _ _ _).1 (g3 d hd)
      · intro g
        cases g with
        | sqL g1 g2 g3 => exact .sqL (by omega) (by omega) fun d hd => (hf _ _ _).2 (g3 d hd)
        | sqT g1 g2 g3 => exact .sqT (by omega) (by omega) fun d hd => (hf _ _ _).2 (g3 d hd)
    · cases h
  · split at h
    · rename_i ht
      cases h
      rw [beq_iff_eq] at ht
      subst ht
      constructor
      · intro g
        cases g with
        | exL g1 => exact .sqL (by have := g1.length; omega) (by have := g1.length; omega) (g1.all fun b hb d gb => (foldl_l hf _ _ _).2 b hb gb)
        | exT g1 => exact .sqT (by have := g1.length; omega) (by have := g1.length; omega) (g1.all fun b hb d gb => (foldl_l hf _ _ _).2 b hb gb)
      · intro g
        cases g with
        | sqL g1 g2 g3 => exact .sqL (by omega) (by omega) fun d hd => (foldl_l hf _ _ _).1 (g3 d hd)
        | sqT g1 g2 g3 => exact .sqT (by omega) (by omega) fun d hd => (foldl_l hf _ _ _).1 (g3 d hd)
    · cases h
  · split at h
    · rename_i ht
      cases h
      rw [beq_iff_eq] at ht
      subst ht
      constructor
      · intro g
        cases g with
        | sqL g1 g2 g3 => exact .sqL (by omega) (by omega) fun d hd => (foldl_l hf _ _ _).1 (g3 d hd)
        | sqT g1 g2 g3 => exact .sqT (by omega) (by omega) fun d hd => (foldl_l hf _ _ _).1 (g3 d hd)
      · intro g
        cases g with
        | exL g1 => exact .sqL (by have := g1.length; omega) (by have := g1.length; omega) (g1.all fun b hb d gb => (foldl_l hf _ _ _).2 b hb gb)
        | exT g1 => exact .sqT (by have := g1.length; omega) (by have := g1.length; omega) (g1.all fun b hb d gb => (foldl_l hf _ _ _).2 b hb gb)
    · cases h
  · split at h
    · rename_i ht
      cases h
      rw [beq_iff_eq] at ht
      subst ht
      split
      · rename_i hl
        rw [beq_iff_eq] at hl
        constructor
        · intro g
          cases g with
          | exL g1 => exact .exL (joins_l hf hl g1)
          | exT g1 => exact .exT (joins_l hf hl g1)
        · intro g
          cases g with
          | exL g1 => exact .exL (joins_r hf hl g1)
          | exT g1 => exact .exT (joins_r hf hl g1)
      · constructor
        · intro g
          cases g with
          | exL g1 => exact .sqL (by have := g1.length; omega) (by have := g1.length; omega) (g1.all fun b hb d gb => fold1_ok hf (List.mem_append_left _ hb) gb)
          | exT g1 => exact .sqT (by have := g1.length; omega) (by have := g1.length; omega) (g1.all fun b hb d gb => fold1_ok hf (List.mem_append_left _ hb) gb)
        · intro g
          cases g with
          | exL g1 => exact .sqL (by have := g1.length; omega) (by have := g1.length; omega) (g1.all fun b hb d gb => fold1_ok hf (List.mem_append_right _ hb) gb)
          | exT g1 => exact .sqT (by have := g1.length; omega) (by have := g1.length; omega) (g1.all fun b hb d gb => fold1_ok hf (List.mem_append_right _ hb) gb)
    · cases h
  · cases h; exact ⟨id, id⟩
  · cases h; exact ⟨fun g => by cases g; exact .bln, id⟩
  · cases h; exact ⟨id, fun g => by cases g; exact .bln⟩
  · cases h; exact ⟨fun g => by cases g; exact .bln, fun g => by cases g; exact .bln⟩
  · cases h
    exact ⟨fun g => by cases g with | pen g => exact .pen (M.mono _ _ _ (Nat.le_max_left _ _) g), fun g => by cases g with | pen g => exact .pen (M.mono _ _ _ (Nat.le_max_right _ _) g)⟩
  · cases h
theorem join_ok : ∀ (n : Nat) (a b : AV) (d : PyData), (Ga M a d → Ga M (join n a b) d) ∧ (Ga M b d → Ga M (join n a b) d)
  | 0, _, _, _ => ⟨fun _ => .any, fun _ => .any⟩
  | n + 1, a, b, d => by
    unfold join
    split
    · rename_i h
      exact ⟨le_ok n _ _ h d, id⟩
    · split
      · rename_i h
        exact ⟨id, le_ok n _ _ h d⟩
      · cases e : joinS (join n) (shp a) (shp b) with
        | none => exact ⟨.orl, .orr⟩
        | some c =>
          have := joinS_ok (join_ok n) e d
          exact ⟨fun g => this.1 (shp_ok g), fun g => this.2 (shp_ok g)⟩
end
/-! ## slots -/
abbrev AE := List (Option (Bool × AV))
inductive GE (M : Am) : AE → En → Prop
  | nil : GE M [] []
  | top {A : AE} {ρ : En} {x : Option (Bool × PyData)} : GE M A ρ → GE M (none :: A) (x :: ρ)
  | val {A : AE} {ρ : En} {b : Bool} {a : AV} {d : PyData} : Ga M a d → GE M A ρ → GE M (some (b, a) :: A) (some (b, d) :: ρ)
def jF : Nat := 40
def joinE : AE → AE → Option AE
  | [], [] => some []
  | x :: A, y :: B => (joinE A B).map fun C => (match x, y with
    | some (b, a), some (b', a') => if b == b' then some (b, join jF a a') else none
    | _, _ => none) :: C
  | _, _ => none
def leE : AE → AE → Bool
  | [], [] => true
  | x :: A, y :: B => (match x, y with
    | _, none => true
    | some (b, a), some (b', a') => (b == b') && le jF a a'
    | none, some _ => false) && leE A B
  | _, _ => false
section
variable {M : Am}
theorem GE.length : ∀ {A : AE} {ρ : En}, GE M A ρ → A.length = ρ.length
  | _, _, .nil => rfl
  | _, _, .top t => by simp [GE.length t]
  | _, _, .val _ t => by simp [GE.length t]
theorem GE.get : ∀ {A : AE} {ρ : En} {i : Nat} {b : Bool} {a : AV}, GE M A ρ → A[i]? = some (some (b, a)) → ∃ d, ρ[i]? = some (some (b, d)) ∧ Ga M a d
  | _, _, _, _, _, .nil, h => by simp at h
  | _, _, 0, _, _, .top _, h => by simp at h
  | _, _, i + 1, b, a, .top t, h => by
    obtain ⟨d, h1, h2⟩ := GE.get (i := i) t (by simpa using h)
    exact ⟨d, by simpa using h1, h2⟩
  | _, _, 0, _, _, .val g _, h => by
    simp at h
    obtain ⟨rfl, rfl⟩ := h
    exact ⟨_, rfl, g⟩
  | _, _, i + 1, b, a, .val _ t, h => by
    obtain ⟨d, h1, h2⟩ := GE.get (i := i) t (by simpa using h)
    exact ⟨d, by simpa using h1, h2⟩
theorem GE.set : ∀ {A : AE} {ρ : En} (i : Nat) {b : Bool} {a : AV} {d : PyData}, GE M A ρ → Ga M a d → GE M (A.set i (some (b, a))) (ρ.set i (some (b, d)))
  | _, _, _, _, _, _, .nil, _ => .nil
  | _, _, 0, _, _, _, .top t, g => .val g t
  | _, _, i + 1, _, _, _, .top t, g => .top (GE.set i t g)
  | _, _, 0, _, _, _, .val _ t, g => .val g t
  | _, _, i + 1, _, _, _, .val h t, g => .val h (GE.set i t g)
theorem GE.drop : ∀ {A : AE} {ρ : En} (i : Nat) (w : Option (Bool × PyData)), GE M A ρ → GE M (A.set i none) (ρ.set i w)
  | _, _, _, _, .nil => .nil
  | _, _, 0, _, .top t => .top t
  | _, _, i + 1, _, .top t => .top (GE.drop i _ t)
  | _, _, 0, _, .val _ t => .top t
  | _, _, i + 1, _, .val h t => .val h (GE.drop i _ t)
theorem joinE_ok : ∀ {A B C : AE} {ρ : En}, joinE A B = some C → (GE M A ρ → GE M C ρ) ∧ (GE M B ρ → GE M C ρ)
  | [], [], C, ρ, h => by cases h; exact ⟨id, id⟩
  | [], _ :: _, _, _, h => by cases h
  | _ :: _, [], _, _, h => by cases h
  | x :: A, y :: B, C, ρ, h => by
    simp only [joinE] at h
    obtain ⟨D, h1, h2⟩ := map_some h
    subst h2
    constructor
    · intro g
      cases g with
      | top t => exact .top ((joinE_ok h1).1 t)
      | val g t =>
        cases y with
        | none => exact .top ((joinE_ok h1).1 t)
        | some y =>
          obtain ⟨b', a'⟩ := y
          dsimp only
          split
          · exact .val ((join_ok _ _ _ _).1 g) ((joinE_ok h1).1 t)
          · exact .top ((joinE_ok h1).1 t)
    · intro g
      cases g with
      | top t => cases x <;> exact .top ((joinE_ok h1).2 t)
      | val g t =>
        cases x with
        | none => exact .top ((joinE_ok h1).2 t)
        | some x =>
          obtain ⟨b', a'⟩ := x
          dsimp only
          split
          · rename_i hb
            rw [beq_iff_eq] at hb
            subst hb
            exact .val ((join_ok _ _ _ _).2 g) ((joinE_ok h1).2 t)
          · exact .top ((joinE_ok h1).2 t)
theorem leE_ok : ∀ {A B : AE} {ρ : En}, leE A B = true → GE M A ρ → GE M B ρ
  | [], [], _, _, g => g
  | [], _ :: _, _, h, _ => by cases h
  | _ :: _, [], _, h, _ => by cases h
  | x :: A, y :: B, _, h, g => by
    simp only [leE, Bool.and_eq_true] at h
    cases y with
    | none => cases g <;> exact .top (leE_ok h.2 ‹_›)
    | some y =>
      obtain ⟨b', a'⟩ := y
      cases x with
      | none => cases h.1
      | some x =>
        obtain ⟨b, a⟩ := x
        have h1 := h.1
        simp only [Bool.and_eq_true, beq_iff_eq] at h1
        obtain ⟨rfl, h1⟩ := h1
        cases g with
        | val g t => exact .val (le_ok _ _ _ h1 _ g) (leE_ok h.2 t)
end
end Pf


namespace Pf
open PySem PySem.Spec L2

/-! ## operations upon what data are like -/
section
variable {M : Am}
theorem sl16 : sizeLine = 16777216 := rfl
/-- a new list? -/
def nbA : AV → Option Bool
  | .con d => some (newB d)
  | .bln => some false
  | .int _ _ => some false
  | .str _ _ _ => some false
  | .sq t _ _ _ => some (!t)
  | .ex t _ => some (!t)
  | _ => none
theorem nbA_ok {a : AV} {b : Bool} {d : PyData} (h : nbA a = some b) (g : Ga M a d) : newB d = b := by
  unfold nbA at h
  split at h <;> cases h <;> cases g <;> rfl
def aAdd (a b : AV) : Option AV :=
  match a, b with
  | .int l h, .int l' h' => some (.int (l + l') (h + h'))
  | .str l h cs, .str l' h' cs' => if h + h' ≤ 16777216 then some (.str (l + l') (h + h') (csU cs cs')) else none
  | .ex t as, .ex t' bs => if (t == t') && decide (as.length + bs.length ≤ 16777216) then some (.ex t (as ++ bs)) else none
  | .sq t l h x, .sq t' l' h' y => if (t == t') && decide (h + h' ≤ 16777216) then some (.sq t (l + l') (h + h') (join jF x y)) else none
  | .ex t as, .sq t' l h y => if (t == t') && decide (as.length + h ≤ 16777216) then some (.sq t (as.length + l) (as.length + h) (as.foldl (join jF) y)) else none
  | .sq t' l h y, .ex t as => if (t == t') && decide (as.length + h ≤ 16777216) then some (.sq t (as.length + l) (as.length + h) (as.foldl (join jF) y)) else none
  | _, _ => none
theorem str_app {x y : Str} {c : Nat} : c ∈ (x ++ y).cps.toList ↔ c ∈ x.cps.toList ∨ c ∈ y.cps.toList := by
  have : (x ++ y).cps.toList = x.cps.toList ++ y.cps.toList := by
    show (x.cps ++ y.cps).toList = _
    simp
  rw [this, List.mem_append]
theorem aAdd_ok {a b c : AV} {x y : PyData} (h : aAdd a b = some c) (ga : Ga M a x) (gb : Ga M b y) : ∃ z, addD x y = some z ∧ Ga M c z := by
  unfold aAdd at h
  split at h
  · cases h
    cases ga with | int a1 a2 => cases gb with | int b1 b2 => exact ⟨_, rfl, .int (by omega) (by omega)⟩
  · split at h
    · cases h
      cases ga with | str a1 a2 a3 => cases gb with | str b1 b2 b3 =>
        refine ⟨_, if_pos (by rw [sl16]; omega), .str (by rw [Str.length_append]; omega) (by rw [Str.length_append]; omega) fun c hc => ?_⟩
        rcases str_app.mp hc with hc | hc
        · exact csU_l (a3 c hc)
        · exact csU_r (b3 c hc)
    · cases h
  · obtain ⟨hc, h⟩ := ite_some h
    cases h
    simp only [Bool.and_eq_true, beq_iff_eq, decide_eq_true_eq] at hc
    obtain ⟨rfl, hc⟩ := hc
    cases ga with
    | exL a1 => cases gb with | exL b1 => exact ⟨_, if_pos (by rw [sl16, ← a1.length, ← b1.length]; omega), .exL (a1.append b1)⟩
    | exT a1 => cases gb with | exT b1 => exact ⟨_, if_pos (by rw [sl16, ← a1.length, ← b1.length]; omega), .exT (a1.append b1)⟩
  · obtain ⟨hc, h⟩ := ite_some h
    cases h
    simp only [Bool.and_eq_true, beq_iff_eq, decide_eq_true_eq] at hc
    obtain ⟨rfl, hc⟩ := hc
    cases ga with
    | sqL a1 a2 a3 => cases gb with
      | sqL b1 b2 b3 =>
        refine ⟨_, if_pos (by rw [sl16]; omega), .sqL (by rw [List.length_append]; omega) (by rw [List.length_append]; omega) fun d hd => ?_⟩
        rcases List.mem_append.mp hd with hd | hd
        · exact (join_ok _ _ _ _).1 (a3 d hd)
        · exact (join_ok _ _ _ _).2 (b3 d hd)
    | sqT a1 a2 a3 => cases gb with
      | sqT b1 b2 b3 =>
        refine ⟨_, if_pos (by rw [sl16]; omega), .sqT (by rw [List.length_append]; omega) (by rw [List.length_append]; omega) fun d hd => ?_⟩
        rcases List.mem_append.mp hd with hd | hd
        · exact (join_ok _ _ _ _).1 (a3 d hd)
        · exact (join_ok _ _ _ _).2 (b3 d hd)
  · obtain ⟨hc, h⟩ := ite_some h
    cases h
    simp only [Bool.and_eq_true, beq_iff_eq, decide_eq_true_eq] at hc
    obtain ⟨rfl, hc⟩ := hc
    cases ga with
    | exL a1 => cases gb with
      | sqL b1 b2 b3 =>
        have := a1.length
        refine ⟨_, if_pos (by rw [sl16]; omega), .sqL (by rw [List.length_append]; omega) (by rw [List.length_append]; omega) fun d hd => ?_⟩
        rcases List.mem_append.mp hd with hd | hd
        · exact a1.all (fun b hb d gb => (foldl_l (join_ok jF) _ _ _).2 b hb gb) d hd
        · exact (foldl_l (join_ok jF) _ _ _).1 (b3 d hd)
    | exT a1 => cases gb with
      | sqT b1 b2 b3 =>
        have := a1.length
        refine ⟨_, if_pos (by rw [sl16]; omega), .sqT (by rw [List.length_append]; omega) (by rw [List.length_append]; omega) fun d hd => ?_⟩
        rcases List.mem_append.mp hd with hd | hd
        · exact a1.all (fun b hb d gb => (foldl_l (join_ok jF) _ _ _).2 b hb gb) d hd
        · exact (foldl_l (join_ok jF) _ _ _).1 (b3 d hd)
  · obtain ⟨hc, h⟩ := ite_some h
    cases h
    simp only [Bool.and_eq_true, beq_iff_eq, decide_eq_true_eq] at hc
    obtain ⟨rfl, hc⟩ := hc
    cases ga with
    | sqL b1 b2 b3 => cases gb with
      | exL a1 =>
        have := a1.length
        refine ⟨_, if_pos (by rw [sl16]; omega), .sqL (by rw [List.length_append]; omega) (by rw [List.length_append]; omega) fun d hd => ?_⟩
        rcases List.mem_append.mp hd with hd | hd
        · exact (foldl_l (join_ok jF) _ _ _).1 (b3 d hd)
        · exact a1.all (fun b hb d gb => (foldl_l (join_ok jF) _ _ _).2 b hb gb) d hd
    | sqT b1 b2 b3 => cases gb with
      | exT a1 =>
        have := a1.length
        refine ⟨_, if_pos (by rw [sl16]; omega), .sqT (by rw [List.length_append]; omega) (by rw [List.length_append]; omega) fun d hd => ?_⟩
        rcases List.mem_append.mp hd with hd | hd
        · exact (foldl_l (join_ok jF) _ _ _).1 (b3 d hd)
        · exact a1.all (fun b hb d gb => (foldl_l (join_ok jF) _ _ _).2 b hb gb) d hd
  · cases h
def aSub (a b : AV) : Option AV :=
  match a, b with
  | .int l h, .int l' h' => some (.int (l - h') (h - l'))
  | _, _ => none
theorem aSub_ok {a b c : AV} {x y : PyData} (h : aSub a b = some c) (ga : Ga M a x) (gb : Ga M b y) : ∃ z, subD x y = some z ∧ Ga M c z := by
  unfold aSub at h
  split at h
  · cases h
    cases ga with | int a1 a2 => cases gb with | int b1 b2 => exact ⟨_, rfl, .int (by omega) (by omega)⟩
  · cases h
def minI (a b : Int) : Int := if a ≤ b then a else b
def maxI (a b : Int) : Int := if a ≤ b then b else a
def iSmall (l h : Int) : Bool := decide (-18446744073709551616 < l) && decide (h < 18446744073709551616)
theorem mul_lin {l x h y : Int} (h1 : l ≤ x) (h2 : x ≤ h) : minI (l * y) (h * y) ≤ x * y ∧ x * y ≤ maxI (l * y) (h * y) := by
  unfold minI maxI
  rcases Int.le_total 0 y with hy | hy
  · have a := Int.mul_le_mul_of_nonneg_right h1 hy
    have b := Int.mul_le_mul_of_nonneg_right h2 hy
    constructor <;> split <;> omega
  · have a := Int.mul_le_mul_of_nonpos_right h1 hy
    have b := Int.mul_le_mul_of_nonpos_right h2 hy
    constructor <;> split <;> omega
theorem mul_lin' {l x h y : Int} (h1 : l ≤ x) (h2 : x ≤ h) : minI (y * l) (y * h) ≤ y * x ∧ y * x ≤ maxI (y * l) (y * h) := by
  rw [Int.mul_comm y l, Int.mul_comm y h, Int.mul_comm y x]
  exact mul_lin h1 h2
theorem minI_le {a b : Int} : minI a b ≤ a ∧ minI a b ≤ b := by unfold minI; split <;> omega
theorem le_maxI {a b : Int} : a ≤ maxI a b ∧ b ≤ maxI a b := by unfold maxI; split <;> omega
theorem le_minI {a b c : Int} (h1 : c ≤ a) (h2 : c ≤ b) : c ≤ minI a b := by unfold minI; split <;> omega
theorem maxI_le {a b c : Int} (h1 : a ≤ c) (h2 : b ≤ c) : maxI a b ≤ c := by unfold maxI; split <;> omega
def mulLo (l h l' h' : Int) : Int := minI (minI (l * l') (l * h')) (minI (h * l') (h * h'))
def mulHi (l h l' h' : Int) : Int := maxI (maxI (l * l') (l * h')) (maxI (h * l') (h * h'))
theorem mul_rng {l x h l' y h' : Int} (h1 : l ≤ x) (h2 : x ≤ h) (h3 : l' ≤ y) (h4 : y ≤ h') : mulLo l h l' h' ≤ x * y ∧ x * y ≤ mulHi l h l' h' := by
  obtain ⟨a1, a2⟩ := mul_lin (y := y) h1 h2
  obtain ⟨b1, b2⟩ := mul_lin' (y := l) h3 h4
  obtain ⟨c1, c2⟩ := mul_lin' (y := h) h3 h4
  unfold mulLo mulHi
  constructor
  · refine Int.le_trans ?_ a1
    exact le_minI (Int.le_trans minI_le.1 b1) (Int.le_trans minI_le.2 c1)
  · refine Int.le_trans a2 ?_
    exact maxI_le (Int.le_trans b2 le_maxI.1) (Int.le_trans c2 le_maxI.2)
def aMul (a b : AV) : Option AV :=
  match a, b with
  | .int l h, .int l' h' => if iSmall l h || iSmall l' h' then some (.int (mulLo l h l' h') (mulHi l h l' h')) else none
  | .ex false as, .int l h => if decide (l = h) && decide (0 ≤ l) && decide (l < 1000000) && decide (as.length * l.toNat ≤ 16777216) then some (.ex false (List.replicate l.toNat as).flatten) else none
  | _, _ => none
theorem Gas.rep {as : List AV} {ds : List PyData} (g : Gas M as ds) : ∀ n : Nat, Gas M (List.replicate n as).flatten (List.replicate n ds).flatten
  | 0 => .nil
  | n + 1 => by
    rw [List.replicate_succ, List.replicate_succ, List.flatten_cons, List.flatten_cons]
    exact g.append (g.rep n)
theorem iSmall_ok {l h x : Int} (hs : iSmall l h = true) (h1 : l ≤ x) (h2 : x ≤ h) : x.natAbs < 2 ^ 64 := by
  unfold iSmall at hs
  simp only [Bool.and_eq_true, decide_eq_true_eq] at hs
  omega
theorem aMul_ok {a b c : AV} {x y : PyData} (h : aMul a b = some c) (ga : Ga M a x) (gb : Ga M b y) : ∃ z, mulD x y = some z ∧ Ga M c z := by
  unfold aMul at h
  split at h
  · obtain ⟨hc, h⟩ := ite_some h
    cases h
    cases ga with | int a1 a2 => cases gb with | int b1 b2 =>
      obtain ⟨r1, r2⟩ := mul_rng a1 a2 b1 b2
      refine ⟨_, if_pos ?_, .int r1 r2⟩
      unfold mulOk
      rw [Bool.or_eq_true] at hc
      rcases hc with hc | hc
      · rw [decide_eq_true (iSmall_ok hc a1 a2)]
        rfl
      · rw [decide_eq_true (iSmall_ok hc b1 b2), Bool.or_true]
        rfl
  · obtain ⟨hc, h⟩ := ite_some h
    cases h
    simp only [Bool.and_eq_true, decide_eq_true_eq] at hc
    obtain ⟨⟨⟨rfl, c1⟩, c2⟩, c3⟩ := hc
    cases ga with | exL a1 => cases gb with | int b1 b2 =>
      obtain rfl := Int.le_antisymm b1 b2
      exact ⟨_, if_pos ⟨by omega, by omega, by rw [sl16, ← a1.length]; exact c3⟩, .exL (a1.rep _)⟩
  · cases h
def aDiv (a b : AV) : Option AV :=
  match a, b with
  | .int l h, .int l' h' => if decide (1 ≤ l') && decide (h' < 18446744073709551616) then (if l' = h' then some (.int (l / l') (h / l')) else if 0 ≤ l then some (.int 0 h) else none) else none
  | _, _ => none
theorem log_small {y : Int} (h0 : 0 < y) (h : y < 18446744073709551616) : y.natAbs.log2 < 9000 := by
  have : y.natAbs.log2 < 64 := by
    rw [Nat.log2_lt (by omega)]
    omega
  omega
theorem aDiv_ok {a b c : AV} {x y : PyData} (h : aDiv a b = some c) (ga : Ga M a x) (gb : Ga M b y) : ∃ z, divD x y = some z ∧ Ga M c z := by
  unfold aDiv at h
  split at h
  · obtain ⟨hc, h⟩ := ite_some h
    simp only [Bool.and_eq_true, decide_eq_true_eq] at hc
    cases ga with | @int l h0 x a1 a2 => cases gb with | @int l' h' y b1 b2 =>
      refine ⟨_, if_pos ⟨by omega, log_small (by omega) (by omega)⟩, ?_⟩
      rw [Int.fdiv_eq_ediv_of_nonneg _ (by omega)]
      split at h
      · rename_i e
        cases h
        subst e
        obtain rfl := Int.le_antisymm b1 b2
        exact .int (Int.ediv_le_ediv (by omega) a1) (Int.ediv_le_ediv (by omega) a2)
      · split at h
        · cases h
          have h1 : 0 ≤ x / y := Int.ediv_nonneg (by omega) (by omega)
          have h2 : x / y ≤ x := Int.ediv_le_self _ (by omega)
          exact .int h1 (by omega)
        · cases h
  · cases h
def aMod (a b : AV) : Option AV :=
  match a, b with
  | .int l h, .int l' h' => if 1 ≤ l' then some (.int 0 (h' - 1)) else none
  | _, _ => none
theorem aMod_ok {a b c : AV} {x y : PyData} (h : aMod a b = some c) (ga : Ga M a x) (gb : Ga M b y) : ∃ z, modD x y = some z ∧ Ga M c z := by
  unfold aMod at h
  split at h
  · split at h
    · cases h
      cases ga with | @int l h0 x a1 a2 => cases gb with | @int l' h' y b1 b2 =>
        refine ⟨_, if_pos (by omega), ?_⟩
        rw [Int.fmod_eq_emod_of_nonneg _ (by omega)]
        have h1 := Int.emod_nonneg x (show y ≠ 0 by omega)
        have h2 := Int.emod_lt_of_pos x (show 0 < y by omega)
        exact .int h1 (by omega)
    · cases h
  · cases h
def aBin (op : Operator) (a b : AV) : Option AV :=
  match op with
  | .Add => aAdd (shp a) (shp b)
  | .Sub => aSub (shp a) (shp b)
  | .Mult => aMul (shp a) (shp b)
  | .FloorDiv => aDiv (shp a) (shp b)
  | .Mod => aMod (shp a) (shp b)
  | op => match a, b with
    | .con x, .con y => (binD op x y).map .con
    | _, _ => none
theorem aBin_ok {op : Operator} {a b c : AV} {x y : PyData} (h : aBin op a b = some c) (ga : Ga M a x) (gb : Ga M b y) : ∃ z, binD op x y = some z ∧ Ga M c z := by
  have fin : ∀ op, (match a, b with | .con x, .con y => (binD op x y).map AV.con | _, _ => none) = some c → ∃ z, binD op x y = some z ∧ Ga M c z := fun op h => by
    split at h
    · obtain ⟨z, h1, rfl⟩ := map_some h
      cases ga
      cases gb
      exact ⟨z, h1, .con⟩
    · cases h
  cases op with
  | Add => exact aAdd_ok h (shp_ok ga) (shp_ok gb)
  | Sub => exact aSub_ok h (shp_ok ga) (shp_ok gb)
  | Mult => exact aMul_ok h (shp_ok ga) (shp_ok gb)
  | FloorDiv => exact aDiv_ok h (shp_ok ga) (shp_ok gb)
  | Mod => exact aMod_ok h (shp_ok ga) (shp_ok gb)
  | _ => exact fin _ h
/-! truth: none where it isn't known -/
def aTru (a : AV) : Option (Option Bool) :=
  match a with
  | .con d => (truthD d).map some
  | .bln => some none
  | .int l h => some (if 0 < l ∨ h < 0 then some true else if l = 0 ∧ h = 0 then some false else none)
  | .str l h _ => if h ≤ 16777216 then some (if 0 < l then some true else if h = 0 then some false else none) else none
  | .sq _ l h _ => some (if 0 < l then some true else if h = 0 then some false else none)
  | .ex _ as => some (some (!as.isEmpty))
  | _ => none
theorem emp_len {α : Type} {xs : List α} : (!xs.isEmpty) = decide (0 < xs.length) := by cases xs <;> simp
theorem aTru_ok {a : AV} {o : Option Bool} {d : PyData} (h : aTru a = some o) (g : Ga M a d) : ∃ b, truthD d = some b ∧ ∀ c, o = some c → b = c := by
  unfold aTru at h
  split at h
  · obtain ⟨b, h1, h2⟩ := map_some h
    cases g
    exact ⟨b, h1, fun c hc => by rw [← h2] at hc; exact Option.some.inj hc⟩
  · cases h
    cases g
    exact ⟨_, rfl, fun c hc => by cases hc⟩
  · cases h
    cases g with | int g1 g2 =>
      refine ⟨_, rfl, fun c hc => ?_⟩
      split at hc
      · cases hc
        simp
        omega
      · split at hc
        · cases hc
          simp
          omega
        · cases hc
  · split at h
    · cases h
      cases g with | str g1 g2 g3 =>
        refine ⟨_, if_pos (by rw [sl16]; omega), fun c hc => ?_⟩
        split at hc
        · cases hc
          simp
          omega
        · split at hc
          · cases hc
            simp
            omega
          · cases hc
    · cases h
  · cases h
    have fin : ∀ {l h : Nat} {xs : List PyData}, l ≤ xs.length → xs.length ≤ h → ∀ c, (if 0 < l then some true else if h = 0 then some false else none) = some c → (!xs.isEmpty) = c := fun {l h xs} g1 g2 c hc => by
      rw [emp_len]
      split at hc
      · cases hc
        simp
        omega
      · split at hc
        · rename_i h0
          cases hc
          rw [h0] at g2
          rw [Nat.le_zero.mp g2]
          rfl
        · cases hc
    cases g with
    | sqL g1 g2 _ => exact ⟨_, rfl, fin g1 g2⟩
    | sqT g1 g2 _ => exact ⟨_, rfl, fin g1 g2⟩
  · cases h
    cases g with
    | exL g1 =>
      refine ⟨_, rfl, fun c hc => ?_⟩
      cases hc
      rw [emp_len, emp_len, g1.length]
    | exT g1 =>
      refine ⟨_, rfl, fun c hc => ?_⟩
      cases hc
      rw [emp_len, emp_len, g1.length]
  · cases h
def blA : Option Bool → AV
  | none => .bln
  | some b => .con (.bool b)
theorem blA_ok {o : Option Bool} {b : Bool} (h : ∀ c, o = some c → b = c) : Ga M (blA o) (.bool b) := by
  cases o with
  | none => exact .bln
  | some c => rw [h c rfl]; exact .con
def aUn (op : UnaryOp) (a : AV) : Option AV :=
  match op with
  | .USub => match shp a with
    | .int l h => some (.int (-h) (-l))
    | _ => none
  | .Not => (aTru a).map fun o => blA (o.map (!·))
  | _ => none
theorem aUn_ok {op : UnaryOp} {a c : AV} {x : PyData} (h : aUn op a = some c) (g : Ga M a x) : ∃ z, unD op x = some z ∧ Ga M c z := by
  unfold aUn at h
  split at h
  · split at h
    · rename_i e
      cases h
      have g := shp_ok g
      rw [e] at g
      cases g with | int g1 g2 => exact ⟨_, rfl, .int (by omega) (by omega)⟩
    · cases h
  · obtain ⟨o, h1, rfl⟩ := map_some h
    obtain ⟨b, h2, h3⟩ := aTru_ok h1 g
    refine ⟨.bool (!b), ?_, blA_ok fun c hc => ?_⟩
    · show (truthD x).map _ = _
      rw [h2]
      rfl
    · obtain ⟨c', h4, h5⟩ := map_some hc
      rw [h3 c' h4]
      exact h5
  · cases h
/-! items -/
def hullF (as : List AV) : AV := fold1 (join jF) as
def aIx (a i : AV) : Option AV :=
  match shp a, shp i with
  | .ex _ as, .int l h => if l = h then (atI as l) else if 0 ≤ l ∧ h < as.length then some (hullF ((as.drop l.toNat).take (h - l + 1).toNat)) else none
  | .sq _ lo _ x, .int l h => if (0 ≤ l ∧ h < lo) ∨ (h < 0 ∧ -(lo : Int) ≤ l) then some x else none
  | .str lo hi cs, .int l h => if (hi ≤ 16777216) ∧ ((0 ≤ l ∧ h < lo) ∨ (h < 0 ∧ -(lo : Int) ≤ l)) then some (.str 1 1 cs) else none
  | _, _ => none
theorem ixN_in {n : Nat} {i l h lo : Int} (hn : lo ≤ n) (h1 : l ≤ i) (h2 : i ≤ h) (hc : (0 ≤ l ∧ h < lo) ∨ (h < 0 ∧ -lo ≤ l)) : ∃ j, ixN n i = some j ∧ j < n := by
  unfold ixN
  rcases hc with hc | hc
  · rw [if_pos (by omega), if_pos (by omega)]
    exact ⟨_, rfl, by omega⟩
  · rw [if_neg (by omega), if_pos (by omega)]
    exact ⟨_, rfl, by omega⟩
theorem atI_len {α β : Type} {xs : List α} {ys : List β} {i : Int} {a : α} (hl : xs.length = ys.length) (h : atI xs i = some a) : ∃ j, ixN ys.length i = some j ∧ xs[j]? = some a := by
  unfold atI at h
  rw [hl] at h
  exact bind_some h
theorem aIx_ok {a i c : AV} {x y : PyData} (h : aIx a i = some c) (ga : Ga M a x) (gi : Ga M i y) : ∃ z, idxD x y = some z ∧ Ga M c z := by
  unfold aIx at h
  have ga := shp_ok ga
  have gi := shp_ok gi
  split at h
  · rename_i as l h0 e1 e2
    rw [e1] at ga
    rw [e2] at gi
    cases gi with | @int _ _ k i1 i2 =>
      have main : ∀ {ds : List PyData}, Gas M as ds → ∃ z, atI ds k = some z ∧ Ga M c z := fun {ds} g => by
        split at h
        · rename_i e
          subst e
          obtain rfl := Int.le_antisymm i1 i2
          obtain ⟨j, h1, h2⟩ := atI_len g.length h
          obtain ⟨d, h3, h4⟩ := g.get h2
          exact ⟨d, by unfold atI; rw [h1]; exact h3, h4⟩
        · split at h
          · rename_i hc
            cases h
            have hl := g.length
            have hk : k.toNat < ds.length := by omega
            refine ⟨ds[k.toNat], ?_, ?_⟩
            · unfold atI ixN
              rw [if_pos (by omega), if_pos (by omega)]
              exact List.getElem?_eq_getElem hk
            · have hka : k.toNat < as.length := by omega
              obtain ⟨d, h3, h4⟩ := g.get (List.getElem?_eq_getElem hka)
              rw [List.getElem?_eq_getElem hk] at h3
              cases h3
              refine fold1_ok (join_ok jF) (a := as[k.toNat]) ?_ h4
              rw [List.mem_iff_getElem?]
              refine ⟨k.toNat - l.toNat, ?_⟩
              rw [List.getElem?_take_of_lt (by omega), List.getElem?_drop]
              rw [show l.toNat + (k.toNat - l.toNat) = k.toNat by omega]
              exact List.getElem?_eq_getElem hka
          · cases h
      cases ga with
      | exL g => exact main g
      | exT g => exact main g
  · rename_i lo hi x' l h0 e1 e2
    rw [e1] at ga
    rw [e2] at gi
    split at h
    · rename_i hc
      cases h
      cases gi with | @int _ _ k i1 i2 =>
        cases ga with
        | sqL g1 g2 g3 =>
          obtain ⟨j, j1, j2⟩ := ixN_in (by exact_mod_cast g1) i1 i2 hc
          refine ⟨_, ?_, g3 _ (List.getElem_mem j2)⟩
          show atI _ _ = _
          unfold atI
          rw [j1]
          exact List.getElem?_eq_getElem j2
        | sqT g1 g2 g3 =>
          obtain ⟨j, j1, j2⟩ := ixN_in (by exact_mod_cast g1) i1 i2 hc
          refine ⟨_, ?_, g3 _ (List.getElem_mem j2)⟩
          show atI _ _ = _
          unfold atI
          rw [j1]
          exact List.getElem?_eq_getElem j2
    · cases h
  · rename_i lo hi cs l h0 e1 e2
    rw [e1] at ga
    rw [e2] at gi
    split at h
    · rename_i hc
      cases h
      cases gi with | @int _ _ k i1 i2 =>
        cases ga with
        | @str _ _ _ z g1 g2 g3 =>
          have hz : z.length = z.cps.toList.length := by simp [Str.length]
          obtain ⟨j, j1, j2⟩ := ixN_in (n := z.cps.toList.length) (by rw [← hz]; exact_mod_cast g1) i1 i2 hc.2
          refine ⟨.str ⟨#[z.cps.toList[j]]⟩, ?_, .str (by simp [Str.length]) (by simp [Str.length]) fun c hc => ?_⟩
          · show (if z.length ≤ sizeLine then (atI z.cps.toList k).map fun c => PyData.str ⟨#[c]⟩ else none) = _
            rw [if_pos (by rw [sl16]; omega)]
            unfold atI
            rw [j1, Option.bind_some, List.getElem?_eq_getElem j2]
            rfl
          · have : c = z.cps.toList[j] := by simpa using hc
            subst this
            exact g3 _ (List.getElem_mem j2)
    · cases h
  · cases h
/-! pieces -/
def cutA (xs : List AV) (lo hi : Option Int) : List AV := (xs.drop (HT.sIx xs.length 0 lo)).take (HT.sIx xs.length xs.length hi - HT.sIx xs.length 0 lo)
theorem Gas.drop : ∀ {as : List AV} {ds : List PyData} (n : Nat), Gas M as ds → Gas M (as.drop n) (ds.drop n)
  | _, _, 0, g => g
  | _, _, _ + 1, .nil => .nil
  | _, _, n + 1, .cons _ t => t.drop n
theorem Gas.take : ∀ {as : List AV} {ds : List PyData} (n : Nat), Gas M as ds → Gas M (as.take n) (ds.take n)
  | _, _, 0, _ => .nil
  | _, _, _ + 1, .nil => .nil
  | _, _, n + 1, .cons g t => .cons g (t.take n)
theorem cutA_ok {as : List AV} {ds : List PyData} {lo hi : Option Int} (g : Gas M as ds) : Gas M (cutA as lo hi) (cutP ds lo hi) := by
  unfold cutA cutP
  rw [g.length]
  exact (g.drop _).take _
/-- a bound: none written, or between two -/
abbrev PB := Option (Int × Int)
def PbOk : PB → Option Int → Prop
  | none, o => o = none
  | some p, o => ∃ i, o = some i ∧ p.1 ≤ i ∧ i ≤ p.2
def pbX : PB → Option (Option Int)
  | none => some none
  | some p => if p.1 = p.2 then some (some p.1) else none
theorem pbX_ok {p : PB} {o o' : Option Int} (h : pbX p = some o) (g : PbOk p o') : o' = o := by
  cases p with
  | none => cases h; exact g
  | some p =>
    have h : (if p.1 = p.2 then some (some p.1) else none) = some o := h
    split at h
    · rename_i e
      cases h
      obtain ⟨i, rfl, g1, g2⟩ := g
      rw [show i = p.1 by omega]
    · cases h
def aCut (a : AV) (lo hi : PB) : Option AV :=
  match shp a with
  | .ex t as => match pbX lo, pbX hi with
    | some l, some h => some (.ex t (cutA as l h))
    | _, _ => some (.sq t 0 as.length (hullF as))
  | .sq t _ h x => some (.sq t 0 h x)
  | .str _ h cs => if h ≤ 16777216 then some (.str 0 h cs) else none
  | _ => none
theorem cutP_sub {ds : List PyData} {lo hi : Option Int} : (∀ d ∈ cutP ds lo hi, d ∈ ds) ∧ (cutP ds lo hi).length ≤ ds.length := by
  unfold cutP
  refine ⟨fun d hd => List.mem_of_mem_drop (List.mem_of_mem_take hd), ?_⟩
  rw [List.length_take, List.length_drop]
  omega
theorem cutS_sub {z : Str} {lo hi : Option Int} : (∀ c ∈ (cutS z lo hi).cps.toList, c ∈ z.cps.toList) ∧ (cutS z lo hi).length ≤ z.length := by
  have e : (cutS z lo hi).cps.toList = (z.cps.toList.drop (HT.sIx z.length 0 lo)).take (HT.sIx z.length z.length hi - HT.sIx z.length 0 lo) := by
    unfold cutS
    simp [Str.length]
  constructor
  · intro c hc
    rw [e] at hc
    exact List.mem_of_mem_drop (List.mem_of_mem_take hc)
  · have h1 : (cutS z lo hi).length = (cutS z lo hi).cps.toList.length := by simp [Str.length]
    have h2 : z.length = z.cps.toList.length := by simp [Str.length]
    rw [h1, e, List.length_take, List.length_drop]
    omega
theorem aCut_ok {a c : AV} {p q : PB} {lo hi : Option Int} {x : PyData} (h : aCut a p q = some c) (ga : Ga M a x) (gp : PbOk p lo) (gq : PbOk q hi) : ∃ z, cutD x lo hi = some z ∧ Ga M c z := by
  unfold aCut at h
  have ga := shp_ok ga
  split at h
  · rename_i t as e
    rw [e] at ga
    split at h
    · rename_i l h0 e1 e2
      cases h
      rw [pbX_ok e1 gp, pbX_ok e2 gq]
      cases ga with
      | exL g => exact ⟨_, rfl, .exL (cutA_ok g)⟩
      | exT g => exact ⟨_, rfl, .exT (cutA_ok g)⟩
    · cases h
      cases ga with
      | exL g =>
        obtain ⟨s1, s2⟩ := cutP_sub (ds := _) (lo := lo) (hi := hi)
        exact ⟨_, rfl, .sqL (Nat.zero_le _) (by rw [g.length]; exact s2) fun d hd => g.all (fun b hb d gb => fold1_ok (join_ok jF) hb gb) d (s1 d hd)⟩
      | exT g =>
        obtain ⟨s1, s2⟩ := cutP_sub (ds := _) (lo := lo) (hi := hi)
        exact ⟨_, rfl, .sqT (Nat.zero_le _) (by rw [g.length]; exact s2) fun d hd => g.all (fun b hb d gb => fold1_ok (join_ok jF) hb gb) d (s1 d hd)⟩
  · rename_i t l h0 y e
    rw [e] at ga
    cases h
    cases ga with
    | sqL g1 g2 g3 =>
      obtain ⟨s1, s2⟩ := cutP_sub (ds := _) (lo := lo) (hi := hi)
      exact ⟨_, rfl, .sqL (Nat.zero_le _) (Nat.le_trans s2 g2) fun d hd => g3 d (s1 d hd)⟩
    | sqT g1 g2 g3 =>
      obtain ⟨s1, s2⟩ := cutP_sub (ds := _) (lo := lo) (hi := hi)
      exact ⟨_, rfl, .sqT (Nat.zero_le _) (Nat.le_trans s2 g2) fun d hd => g3 d (s1 d hd)⟩
  · rename_i l h0 cs e
    rw [e] at ga
    split at h
    · cases h
      cases ga with
      | str g1 g2 g3 =>
        obtain ⟨s1, s2⟩ := cutS_sub (z := _) (lo := lo) (hi := hi)
        exact ⟨_, if_pos (by rw [sl16]; omega), .str (Nat.zero_le _) (Nat.le_trans s2 g2) fun c hc => g3 c (s1 c hc)⟩
    · cases h
  · cases h
end
end Pf


namespace Pf
open PySem PySem.Spec L2
section
variable {M : Am}
/-! ### plain data, not deep -/
def plA : Nat → AV → Bool
  | 0, a => match a with
    | .con d => d.plain && decide (d.depth ≤ 0)
    | .bln => true
    | .int _ _ => true
    | .str _ _ _ => true
    | _ => false
  | n + 1, a => match a with
    | .con d => d.plain && decide (d.depth ≤ n + 1)
    | .bln => true
    | .int _ _ => true
    | .str _ _ _ => true
    | .sq _ _ _ x => plA n x
    | .ex _ as => as.all (plA n)
    | .or x y => plA n x && plA n y
    | _ => false
theorem pl_all {n : Nat} : ∀ {ds : List PyData}, (∀ d ∈ ds, d.plain = true ∧ d.depth ≤ n) → PyData.plainAll ds = true ∧ PyData.depthAll ds ≤ n
  | [], _ => ⟨rfl, Nat.zero_le _⟩
  | d :: ds, h => by
    obtain ⟨h1, h2⟩ := h d List.mem_cons_self
    obtain ⟨h3, h4⟩ := pl_all fun e he => h e (List.mem_cons_of_mem _ he)
    refine ⟨by simp [PyData.plainAll, h1, h3], ?_⟩
    simp only [PyData.depthAll]
    omega
theorem plA_ok : ∀ (n : Nat) (a : AV) (d : PyData), plA n a = true → Ga M a d → d.plain = true ∧ d.depth ≤ n
  | 0, a, d, h, g => by
    unfold plA at h
    split at h
    · cases g
      simp only [Bool.and_eq_true, decide_eq_true_eq] at h
      exact h
    · cases g; exact ⟨rfl, Nat.le_refl _⟩
    · cases g; exact ⟨rfl, Nat.le_refl _⟩
    · cases g; exact ⟨rfl, Nat.le_refl _⟩
    · cases h
  | n + 1, a, d, h, g => by
    unfold plA at h
    split at h
    · cases g
      simp only [Bool.and_eq_true, decide_eq_true_eq] at h
      exact h
    · cases g; exact ⟨rfl, Nat.zero_le _⟩
    · cases g; exact ⟨rfl, Nat.zero_le _⟩
    · cases g; exact ⟨rfl, Nat.zero_le _⟩
    · cases g with
      | sqL _ _ g3 =>
        obtain ⟨h1, h2⟩ := pl_all (n := n) fun d hd => plA_ok n _ d h (g3 d hd)
        exact ⟨by simpa [PyData.plain] using h1, by simp only [PyData.depth]; omega⟩
      | sqT _ _ g3 =>
        obtain ⟨h1, h2⟩ := pl_all (n := n) fun d hd => plA_ok n _ d h (g3 d hd)
        exact ⟨by simpa [PyData.plain] using h1, by simp only [PyData.depth]; omega⟩
    · have h := List.all_eq_true.mp h
      cases g with
      | exL g1 =>
        obtain ⟨h1, h2⟩ := pl_all (n := n) fun d hd => by
          obtain ⟨b, hb, gb⟩ := g1.mem hd
          exact plA_ok n b d (h b hb) gb
        exact ⟨by simpa [PyData.plain] using h1, by simp only [PyData.depth]; omega⟩
      | exT g1 =>
        obtain ⟨h1, h2⟩ := pl_all (n := n) fun d hd => by
          obtain ⟨b, hb, gb⟩ := g1.mem hd
          exact plA_ok n b d (h b hb) gb
        exact ⟨by simpa [PyData.plain] using h1, by simp only [PyData.depth]; omega⟩
    · simp only [Bool.and_eq_true] at h
      cases g with
      | orl g =>
        obtain ⟨h1, h2⟩ := plA_ok n _ d h.1 g
        exact ⟨h1, by omega⟩
      | orr g =>
        obtain ⟨h1, h2⟩ := plA_ok n _ d h.2 g
        exact ⟨h1, by omega⟩
    · cases h
/-! ### comparisons: none where it isn't known -/
def Kn (o : Option Bool) (k : Bool) : Prop := ∀ c, o = some c → k = c
theorem Kn.none {k : Bool} : Kn none k := fun _ h => by cases h
theorem Kn.some {k : Bool} : Kn (some k) k := fun _ h => by cases h; rfl
def aEqI (a b : AV) : Option Bool :=
  match a, b with
  | .int l h, .int l' h' => if h < l' ∨ h' < l then some false else if l = h ∧ l' = h' then some true else none
  | _, _ => none
def aEq (a b : AV) : Option (Option Bool) := if plA 60 a && plA 60 b then some (aEqI (shp a) (shp b)) else none
theorem aEq_ok {a b : AV} {o : Option Bool} {x y : PyData} (h : aEq a b = some o) (ga : Ga M a x) (gb : Ga M b y) : ∃ k, eqD x y = some k ∧ Kn o k := by
  unfold aEq at h
  obtain ⟨hc, h⟩ := ite_some h
  cases h
  simp only [Bool.and_eq_true] at hc
  obtain ⟨p1, p2⟩ := plA_ok _ _ _ hc.1 ga
  obtain ⟨q1, q2⟩ := plA_ok _ _ _ hc.2 gb
  have e : eqD x y = some (PyData.eqv x y) := by
    unfold eqD depOk
    rw [if_pos (by simp [p1, q1, p2])]
  refine ⟨_, e, fun c hc => ?_⟩
  replace ga := shp_ok ga
  replace gb := shp_ok gb
  unfold aEqI at hc
  split at hc
  · rename_i l h l' h' e1 e2
    rw [e1] at ga
    rw [e2] at gb
    cases ga with | @int _ _ i a1 a2 => cases gb with | @int _ _ j b1 b2 =>
      have e3 := eqD_int i j
      rw [e] at e3
      rw [Option.some.inj e3]
      split at hc
      · cases hc
        exact decide_eq_false (by omega)
      · split at hc
        · cases hc
          exact decide_eq_true (by omega)
        · cases hc
  · cases hc
def aLtI (a b : AV) : Option (Option Bool) :=
  match a, b with
  | .int l h, .int l' h' => some (if h < l' then some true else if h' ≤ l then some false else none)
  | _, _ => none
theorem aLtI_ok {a b : AV} {o : Option Bool} {x y : PyData} (h : aLtI a b = some o) (ga : Ga M a x) (gb : Ga M b y) : ∃ i j : Int, x = .int i ∧ y = .int j ∧ Kn o (decide (i < j)) := by
  unfold aLtI at h
  split at h
  · cases h
    cases ga with | @int _ _ i a1 a2 => cases gb with | @int _ _ j b1 b2 =>
      refine ⟨i, j, rfl, rfl, fun c hc => ?_⟩
      split at hc
      · cases hc
        exact decide_eq_true (by omega)
      · split at hc
        · cases hc
          exact decide_eq_false (by omega)
        · cases hc
  · cases h
def isNonA : AV → Option Bool
  | .con d => some (isNoneD d)
  | .bln => some false
  | .int _ _ => some false
  | .str _ _ _ => some false
  | .sq _ _ _ _ => some false
  | .ex _ _ => some false
  | _ => none
theorem isNonA_ok {a : AV} {x : PyData} (g : Ga M a x) : Kn (isNonA a) (isNoneD x) := by
  intro c hc
  unfold isNonA at hc
  split at hc <;> cases hc <;> cases g <;> rfl
def aIs (a b : AV) : Option (Option Bool) :=
  match b with
  | .con .none => some (isNonA a)
  | .con (.bool k) => match a with
    | .con (.bool j) => some (some (decide (j = k)))
    | .bln => some none
    | _ => none
  | _ => none
theorem aIs_ok {a b : AV} {o : Option Bool} {x y : PyData} (h : aIs a b = some o) (ga : Ga M a x) (gb : Ga M b y) : ∃ k, isD x y = some k ∧ Kn o k := by
  unfold aIs at h
  split at h
  · cases h
    cases gb
    exact ⟨_, rfl, isNonA_ok ga⟩
  · split at h
    · cases h
      cases ga
      cases gb
      exact ⟨_, rfl, .some⟩
    · cases h
      cases ga
      cases gb
      exact ⟨_, rfl, .none⟩
    · cases h
  · cases h
def aIn (a b : AV) : Option (Option Bool) :=
  match shp b with
  | .ex _ bs => if plA 60 a && bs.all (plA 60) then some none else none
  | .sq _ _ _ x => if plA 60 a && plA 60 x then some none else none
  | .str _ _ _ => match shp a with
    | .str _ _ _ => some none
    | _ => none
  | _ => none
theorem aIn_ok {a b : AV} {o : Option Bool} {x y : PyData} (h : aIn a b = some o) (ga : Ga M a x) (gb : Ga M b y) : ∃ k, inD x y = some k ∧ Kn o k := by
  unfold aIn at h
  replace gb := shp_ok gb
  split at h
  · rename_i t bs e
    rw [e] at gb
    obtain ⟨hc, h⟩ := ite_some h
    cases h
    simp only [Bool.and_eq_true, List.all_eq_true] at hc
    obtain ⟨p1, p2⟩ := plA_ok _ _ _ hc.1 ga
    have main : ∀ {ds : List PyData}, Gas M bs ds → (PyData.plainAll ds && x.plain && (decide (x.depth ≤ 60) || decide (PyData.depthAll ds ≤ 60))) = true := fun {ds} g => by
      obtain ⟨h1, h2⟩ := pl_all (n := 60) fun d hd => by
        obtain ⟨b, hb, gb⟩ := g.mem hd
        exact plA_ok 60 b d (hc.2 b hb) gb
      simp [h1, p1, p2]
    cases gb with
    | exL g => exact ⟨_, if_pos (main g), .none⟩
    | exT g => exact ⟨_, if_pos (main g), .none⟩
  · rename_i t l h0 z e
    rw [e] at gb
    obtain ⟨hc, h⟩ := ite_some h
    cases h
    simp only [Bool.and_eq_true] at hc
    obtain ⟨p1, p2⟩ := plA_ok _ _ _ hc.1 ga
    have main : ∀ {ds : List PyData}, (∀ d ∈ ds, Ga M z d) → (PyData.plainAll ds && x.plain && (decide (x.depth ≤ 60) || decide (PyData.depthAll ds ≤ 60))) = true := fun {ds} g => by
      obtain ⟨h1, h2⟩ := pl_all (n := 60) fun d hd => plA_ok 60 z d hc.2 (g d hd)
      simp [h1, p1, p2]
    cases gb with
    | sqL _ _ g => exact ⟨_, if_pos (main g), .none⟩
    | sqT _ _ g => exact ⟨_, if_pos (main g), .none⟩
  · rename_i l h0 cs e
    rw [e] at gb
    split at h
    · rename_i e2
      replace ga := shp_ok ga
      rw [e2] at ga
      cases h
      cases ga
      cases gb
      exact ⟨_, rfl, .none⟩
    · cases h
  · cases h
def aCmp (op : CmpOp) (a b : AV) : Option (Option Bool) :=
  match a, b with
  | .con x, .con y => (cmpD op x y).map some
  | a, b => match op with
    | .Eq => aEq a b
    | .NotEq => (aEq a b).map fun o => o.map (!·)
    | .Lt => aLtI (shp a) (shp b)
    | .Gt => aLtI (shp b) (shp a)
    | .LtE => (aLtI (shp b) (shp a)).map fun o => o.map (!·)
    | .GtE => (aLtI (shp a) (shp b)).map fun o => o.map (!·)
    | .In => aIn a b
    | .NotIn => (aIn a b).map fun o => o.map (!·)
    | .Is => aIs a b
    | .IsNot => (aIs a b).map fun o => o.map (!·)
theorem Kn.not {o : Option Bool} {k : Bool} (h : Kn o k) : Kn (o.map (!·)) (!k) := fun c hc => by
  obtain ⟨c', h1, rfl⟩ := map_some hc
  rw [h c' h1]
theorem aCmp_ok {op : CmpOp} {a b : AV} {o : Option Bool} {x y : PyData} (h : aCmp op a b = some o) (ga : Ga M a x) (gb : Ga M b y) : ∃ k, cmpD op x y = some k ∧ Kn o k := by
  have lt : ∀ i j : Int, ltD (.int i) (.int j) = some (decide (i < j)) := ltD_int
  unfold aCmp at h
  split at h
  · obtain ⟨k, h1, rfl⟩ := map_some h
    cases ga
    cases gb
    exact ⟨k, h1, .some⟩
  · cases op with
    | Eq => exact aEq_ok h ga gb
    | NotEq =>
      obtain ⟨o', h1, rfl⟩ := map_some h
      obtain ⟨k, h2, h3⟩ := aEq_ok h1 ga gb
      exact ⟨!k, by simp only [cmpD, h2, Option.map_some], h3.not⟩
    | Lt =>
      obtain ⟨i, j, rfl, rfl, hk⟩ := aLtI_ok h (shp_ok ga) (shp_ok gb)
      exact ⟨_, lt i j, hk⟩
    | Gt =>
      obtain ⟨j, i, rfl, rfl, hk⟩ := aLtI_ok h (shp_ok gb) (shp_ok ga)
      exact ⟨_, by simp only [cmpD, lt, Option.map_some, PySem.W.dataLt_int], hk⟩
    | LtE =>
      obtain ⟨o', h1, rfl⟩ := map_some h
      obtain ⟨j, i, rfl, rfl, hk⟩ := aLtI_ok h1 (shp_ok gb) (shp_ok ga)
      exact ⟨_, by simp only [cmpD, lt, Option.map_some, PySem.W.dataLt_int], hk.not⟩
    | GtE =>
      obtain ⟨o', h1, rfl⟩ := map_some h
      obtain ⟨i, j, rfl, rfl, hk⟩ := aLtI_ok h1 (shp_ok ga) (shp_ok gb)
      exact ⟨_, by simp only [cmpD, lt, Option.map_some, PySem.W.dataLt_int], hk.not⟩
    | In => exact aIn_ok h ga gb
    | NotIn =>
      obtain ⟨o', h1, rfl⟩ := map_some h
      obtain ⟨k, h2, h3⟩ := aIn_ok h1 ga gb
      exact ⟨!k, by simp only [cmpD, h2, Option.map_some], h3.not⟩
    | Is => exact aIs_ok h ga gb
    | IsNot =>
      obtain ⟨o', h1, rfl⟩ := map_some h
      obtain ⟨k, h2, h3⟩ := aIs_ok h1 ga gb
      exact ⟨!k, by simp only [cmpD, h2, Option.map_some], h3.not⟩
/-! ### kinds -/
def aIsi (ty : Str) : AV → Option AV
  | .con d => if notDictD d then (isiT d ty).map fun k => .con (.bool k) else none
  | .bln => (isiT (.bool true) ty).map fun k => .con (.bool k)
  | .int _ _ => (isiT (.int 0) ty).map fun k => .con (.bool k)
  | .str _ _ _ => (isiT (.str ⟨#[]⟩) ty).map fun k => .con (.bool k)
  | .sq t _ _ _ => (isiT (if t then .tuple [] else .list []) ty).map fun k => .con (.bool k)
  | .ex t _ => (isiT (if t then .tuple [] else .list []) ty).map fun k => .con (.bool k)
  | _ => none
theorem isiT_kind {d e : PyData} {ty : Str} (h : tyName d = tyName e) : isiT d ty = isiT e ty := by
  unfold isiT
  cases d <;> cases e <;> simp_all [tyName]
theorem aIsi_ok {ty : Str} {a c : AV} {x : PyData} (h : aIsi ty a = some c) (g : Ga M a x) : ∃ k, notDictD x = true ∧ isiT x ty = some k ∧ Ga M c (.bool k) := by
  unfold aIsi at h
  split at h
  · obtain ⟨hc, h⟩ := ite_some h
    obtain ⟨k, h1, rfl⟩ := map_some h
    cases g
    exact ⟨k, hc, h1, .con⟩
  · obtain ⟨k, h1, rfl⟩ := map_some h
    cases g
    exact ⟨k, rfl, by rw [← h1]; exact isiT_kind rfl, .con⟩
  · obtain ⟨k, h1, rfl⟩ := map_some h
    cases g
    exact ⟨k, rfl, by rw [← h1]; exact isiT_kind rfl, .con⟩
  · obtain ⟨k, h1, rfl⟩ := map_some h
    cases g
    exact ⟨k, rfl, by rw [← h1]; exact isiT_kind rfl, .con⟩
  · obtain ⟨k, h1, rfl⟩ := map_some h
    cases g with
    | sqL _ _ _ => exact ⟨k, rfl, by rw [← h1]; exact isiT_kind rfl, .con⟩
    | sqT _ _ _ => exact ⟨k, rfl, by rw [← h1]; exact isiT_kind rfl, .con⟩
  · obtain ⟨k, h1, rfl⟩ := map_some h
    cases g with
    | exL _ => exact ⟨k, rfl, by rw [← h1]; exact isiT_kind rfl, .con⟩
    | exT _ => exact ⟨k, rfl, by rw [← h1]; exact isiT_kind rfl, .con⟩
  · cases h
/-! ### built-ins -/
def aLen (a : AV) : Option AV :=
  match shp a with
  | .str l h _ => if h ≤ 16777216 then some (.int l h) else none
  | .sq _ l h _ => some (.int l h)
  | .ex _ as => some (.int as.length as.length)
  | _ => none
theorem aLen_ok {a c : AV} {x : PyData} (h : aLen a = some c) (g : Ga M a x) : ∃ n, lenD x = some n ∧ Ga M c (.int n) := by
  unfold aLen at h
  replace g := shp_ok g
  split at h
  · rename_i e
    rw [e] at g
    split at h
    · cases h
      cases g with | str g1 g2 g3 => exact ⟨_, if_pos (by rw [sl16]; omega), .int (by omega) (by omega)⟩
    · cases h
  · rename_i e
    rw [e] at g
    cases h
    cases g with
    | sqL g1 g2 _ => exact ⟨_, rfl, .int (by omega) (by omega)⟩
    | sqT g1 g2 _ => exact ⟨_, rfl, .int (by omega) (by omega)⟩
  · rename_i e
    rw [e] at g
    cases h
    cases g with
    | exL g1 => exact ⟨_, rfl, by rw [g1.length]; exact .int (by omega) (by omega)⟩
    | exT g1 => exact ⟨_, rfl, by rw [g1.length]; exact .int (by omega) (by omega)⟩
  · cases h
def toT (t : Bool) (a : AV) : Option AV :=
  match shp a with
  | .sq _ l h x => some (.sq t l h x)
  | .ex _ as => some (.ex t as)
  | _ => none
/-- a list of ints, between two -/
def intsA : List AV → Option (Int × Int)
  | [] => some (0, 0)
  | a :: r => match shp a with
    | .int l h => (intsA r).map fun p => (l + p.1, h + p.2)
    | _ => none
theorem intsA_ok : ∀ {as : List AV} {ds : List PyData} {p : Int × Int}, intsA as = some p → Gas M as ds → ∃ ns, intsOf ds = some ns ∧ p.1 ≤ ns.sum ∧ ns.sum ≤ p.2
  | [], _, p, h, .nil => by cases h; exact ⟨[], rfl, Int.le_refl _, Int.le_refl _⟩
  | a :: r, _, p, h, .cons g t => by
    unfold intsA at h
    split at h
    · rename_i l h0 e
      obtain ⟨q, h1, rfl⟩ := map_some h
      obtain ⟨ns, h2, h3, h4⟩ := intsA_ok h1 t
      replace g := shp_ok g
      rw [e] at g
      cases g with | @int _ _ i g1 g2 =>
        refine ⟨i :: ns, by simp [intsOf, h2], ?_, ?_⟩
        · rw [List.sum_cons]; dsimp only; omega
        · rw [List.sum_cons]; dsimp only; omega
    · cases h
theorem ints_all {l h : Int} : ∀ {ds : List PyData}, (∀ d ∈ ds, Ga M (.int l h) d) → ∃ ns, intsOf ds = some ns ∧ ns.length = ds.length ∧ (∀ n ∈ ns, l ≤ n ∧ n ≤ h)
  | [], _ => ⟨[], rfl, rfl, fun n hn => by cases hn⟩
  | d :: ds, g => by
    obtain ⟨ns, h1, h2, h3⟩ := ints_all fun e he => g e (List.mem_cons_of_mem _ he)
    have g1 := g d List.mem_cons_self
    cases g1 with | @int _ _ i a b =>
      refine ⟨i :: ns, by simp [intsOf, h1], by simp [h2], fun n hn => ?_⟩
      rcases List.mem_cons.mp hn with rfl | hn
      · exact ⟨a, b⟩
      · exact h3 n hn
theorem sum_rng {l h : Int} : ∀ {ns : List Int} {m : Nat}, (∀ n ∈ ns, l ≤ n ∧ n ≤ h) → ns.length ≤ m → minI 0 (m * l) ≤ ns.sum ∧ ns.sum ≤ maxI 0 (m * h)
  | [], m, _, _ => ⟨minI_le.1, le_maxI.1⟩
  | n :: ns, 0, _, hl => by simp at hl
  | n :: ns, m + 1, g, hl => by
    obtain ⟨h1, h2⟩ := sum_rng (m := m) (fun n hn => g n (List.mem_cons_of_mem _ hn)) (by simpa using hl)
    obtain ⟨g1, g2⟩ := g n List.mem_cons_self
    have e1 : ((m + 1 : Nat) : Int) * l = m * l + l := by push_cast; rw [Int.add_mul, Int.one_mul]
    have e2 : ((m + 1 : Nat) : Int) * h = m * h + h := by push_cast; rw [Int.add_mul, Int.one_mul]
    have s1 : (0 : Int) ≤ m := by omega
    have s2 : (0 ≤ l ∧ 0 ≤ (m : Int) * l) ∨ (l < 0 ∧ (m : Int) * l ≤ 0) := by
      rcases Int.lt_or_le l 0 with q | q
      · exact .inr ⟨q, Int.mul_nonpos_of_nonneg_of_nonpos s1 (by omega)⟩
      · exact .inl ⟨q, Int.mul_nonneg s1 q⟩
    have s3 : (0 ≤ h ∧ 0 ≤ (m : Int) * h) ∨ (h < 0 ∧ (m : Int) * h ≤ 0) := by
      rcases Int.lt_or_le h 0 with q | q
      · exact .inr ⟨q, Int.mul_nonpos_of_nonneg_of_nonpos s1 (by omega)⟩
      · exact .inl ⟨q, Int.mul_nonneg s1 q⟩
    rw [List.sum_cons, e1, e2]
    unfold minI at h1 ⊢
    unfold maxI at h2 ⊢
    generalize (m : Int) * l = ml at *
    generalize (m : Int) * h = mh at *
    constructor
    · split at h1 <;> split <;> omega
    · split at h2 <;> split <;> omega
def aSum (a : AV) : Option AV :=
  match shp a with
  | .ex false as => (intsA as).map fun p => .int p.1 p.2
  | .sq false _ h x => match shp x with
    | .int p q => some (.int (minI 0 (h * p)) (maxI 0 (h * q)))
    | _ => none
  | _ => none
theorem aSum_ok {a c : AV} {x : PyData} (h : aSum a = some c) (g : Ga M a x) : ∃ z, sumB [x] = some z ∧ Ga M c z := by
  unfold aSum at h
  replace g := shp_ok g
  split at h
  · rename_i as e
    rw [e] at g
    obtain ⟨p, h1, rfl⟩ := map_some h
    cases g with | exL g =>
      obtain ⟨ns, h2, h3, h4⟩ := intsA_ok h1 g
      exact ⟨_, by simp only [sumB, h2, Option.map_some], .int h3 h4⟩
  · rename_i l h0 y e
    rw [e] at g
    split at h
    · rename_i p q e2
      cases h
      cases g with | sqL g1 g2 g3 =>
        obtain ⟨ns, h2, h3, h4⟩ := ints_all (M := M) (l := p) (h := q) fun d hd => by
          have := shp_ok (g3 d hd)
          rwa [e2] at this
        obtain ⟨h5, h6⟩ := sum_rng (m := h0) h4 (by omega)
        exact ⟨_, by simp only [sumB, h2, Option.map_some], .int h5 h6⟩
    · cases h
  · cases h
def blsA (a : AV) : Bool :=
  match a with
  | .bln => true
  | .con (.bool _) => true
  | _ => false
theorem bls_all : ∀ {ds : List PyData}, (∀ d ∈ ds, ∃ b, d = .bool b) → ∃ bs, blsOf ds = some bs
  | [], _ => ⟨[], rfl⟩
  | d :: ds, g => by
    obtain ⟨bs, h1⟩ := bls_all fun e he => g e (List.mem_cons_of_mem _ he)
    obtain ⟨b, rfl⟩ := g d List.mem_cons_self
    exact ⟨b :: bs, by simp [blsOf, h1]⟩
theorem blsA_ok {a : AV} {x : PyData} (h : blsA a = true) (g : Ga M a x) : ∃ b, x = .bool b := by
  unfold blsA at h
  split at h
  · cases g; exact ⟨_, rfl⟩
  · cases g; exact ⟨_, rfl⟩
  · cases h
def aBls (a : AV) : Bool :=
  match shp a with
  | .ex false as => as.all blsA
  | .sq false _ _ x => blsA x
  | _ => false
theorem aBls_ok {a : AV} {x : PyData} (h : aBls a = true) (g : Ga M a x) : ∃ ds bs, x = .list ds ∧ blsOf ds = some bs := by
  unfold aBls at h
  replace g := shp_ok g
  split at h
  · rename_i as e
    rw [e] at g
    have h := List.all_eq_true.mp h
    cases g with | exL g =>
      obtain ⟨bs, h1⟩ := bls_all fun d hd => by
        obtain ⟨b, hb, gb⟩ := g.mem hd
        exact blsA_ok (h b hb) gb
      exact ⟨_, bs, rfl, h1⟩
  · rename_i e
    rw [e] at g
    cases g with | sqL _ _ g =>
      obtain ⟨bs, h1⟩ := bls_all fun d hd => blsA_ok h (g d hd)
      exact ⟨_, bs, rfl, h1⟩
  · cases h
def consA : List AV → Option (List PyData)
  | [] => some []
  | .con d :: r => (consA r).map (d :: ·)
  | _ => none
theorem consA_ok : ∀ {as : List AV} {xs ds : List PyData}, consA as = some xs → Gas M as ds → ds = xs
  | [], _, _, h, .nil => by cases h; rfl
  | a :: r, xs, _, h, .cons g t => by
    unfold consA at h
    split at h
    · cases ‹_ = []›
    · rename_i e
      cases e
      obtain ⟨ys, h1, rfl⟩ := map_some h
      cases g
      rw [consA_ok h1 t]
    · cases h
def aBi1 (b : Bi) (as : List AV) : Option AV :=
  match b, as with
  | .len, [a] => aLen a
  | .tuple, [a] => toT true a
  | .list, [a] => toT false a
  | .int, [a] => match shp a with
    | .int l h => some (.int l h)
    | .bln => some (.int 0 1)
    | .con (.bool k) => some (if k then .int 1 1 else .int 0 0)
    | _ => none
  | .str, [a] => match shp a with
    | .str l h cs => some (.str l h cs)
    | _ => none
  | .sum, [a] => aSum a
  | .any, [a] => if aBls a then some .bln else none
  | .all, [a] => if aBls a then some .bln else none
  | .max, [a, b] => match shp a, shp b with
    | .int l h, .int l' h' => some (.int (maxI l l') (maxI h h'))
    | _, _ => none
  | .min, [a, b] => match shp a, shp b with
    | .int l h, .int l' h' => some (.int (minI l l') (minI h h'))
    | _, _ => none
  | .abs, [a] => match shp a with
    | .int l h => some (.int 0 (maxI (-l) h))
    | _ => none
  | _, _ => none
def aBi (b : Bi) (as : List AV) : Option AV :=
  match aBi1 b as with
  | some c => some c
  | none => (consA as).bind fun xs => (biD b xs).map .con
theorem toT_ok {t : Bool} {a c : AV} {x : PyData} (h : toT t a = some c) (g : Ga M a x) : ∃ ds, (x = .list ds ∨ x = .tuple ds) ∧ Ga M c (if t then .tuple ds else .list ds) := by
  unfold toT at h
  replace g := shp_ok g
  split at h
  · rename_i e
    rw [e] at g
    cases h
    cases g with
    | sqL g1 g2 g3 =>
      refine ⟨_, .inl rfl, ?_⟩
      cases t
      · exact .sqL g1 g2 g3
      · exact .sqT g1 g2 g3
    | sqT g1 g2 g3 =>
      refine ⟨_, .inr rfl, ?_⟩
      cases t
      · exact .sqL g1 g2 g3
      · exact .sqT g1 g2 g3
  · rename_i e
    rw [e] at g
    cases h
    cases g with
    | exL g =>
      refine ⟨_, .inl rfl, ?_⟩
      cases t
      · exact .exL g
      · exact .exT g
    | exT g =>
      refine ⟨_, .inr rfl, ?_⟩
      cases t
      · exact .exL g
      · exact .exT g
  · cases h
theorem Gas.one {a : AV} {ds : List PyData} (g : Gas M [a] ds) : ∃ d, ds = [d] ∧ Ga M a d := by
  cases g with | cons g t => cases t; exact ⟨_, rfl, g⟩
theorem Gas.two {a b : AV} {ds : List PyData} (g : Gas M [a, b] ds) : ∃ d e, ds = [d, e] ∧ Ga M a d ∧ Ga M b e := by
  cases g with | cons g t =>
    obtain ⟨e, rfl, h⟩ := t.one
    exact ⟨_, e, rfl, g, h⟩
theorem aBi1_ok {b : Bi} {as : List AV} {c : AV} {ds : List PyData} (h : aBi1 b as = some c) (gg : Gas M as ds) : ∃ z, biD b ds = some z ∧ Ga M c z := by
  unfold aBi1 at h
  split at h
  · obtain ⟨d, rfl, g⟩ := gg.one
    obtain ⟨n, h1, h2⟩ := aLen_ok h g
    exact ⟨.int n, by simp only [biD, lenB, h1, Option.map_some], h2⟩
  · obtain ⟨d, rfl, g⟩ := gg.one
    obtain ⟨xs, h1, h2⟩ := toT_ok h g
    rcases h1 with rfl | rfl
    · exact ⟨_, rfl, h2⟩
    · exact ⟨_, rfl, h2⟩
  · obtain ⟨d, rfl, g⟩ := gg.one
    obtain ⟨xs, h1, h2⟩ := toT_ok h g
    rcases h1 with rfl | rfl
    · exact ⟨_, rfl, h2⟩
    · exact ⟨_, rfl, h2⟩
  · obtain ⟨d, rfl, g⟩ := gg.one
    replace g := shp_ok g
    split at h
    · rename_i e
      rw [e] at g
      cases h
      cases g with | int g1 g2 => exact ⟨_, rfl, .int g1 g2⟩
    · rename_i e
      rw [e] at g
      cases h
      cases g with | @bln b => exact ⟨_, rfl, .int (by split <;> omega) (by split <;> omega)⟩
    · rename_i k e
      rw [e] at g
      cases h
      cases g
      refine ⟨_, rfl, ?_⟩
      cases k
      · exact .int (Int.le_refl _) (Int.le_refl _)
      · exact .int (Int.le_refl _) (Int.le_refl _)
    · cases h
  · obtain ⟨d, rfl, g⟩ := gg.one
    replace g := shp_ok g
    split at h
    · rename_i e
      rw [e] at g
      cases h
      cases g with | str g1 g2 g3 => exact ⟨_, rfl, .str g1 g2 g3⟩
    · cases h
  · obtain ⟨d, rfl, g⟩ := gg.one
    exact aSum_ok h g
  · obtain ⟨d, rfl, g⟩ := gg.one
    obtain ⟨hc, h⟩ := ite_some h
    cases h
    obtain ⟨xs, bs, rfl, h1⟩ := aBls_ok hc g
    exact ⟨.bool (bs.any id), by simp only [biD, anyB, h1, Option.map_some], .bln⟩
  · obtain ⟨d, rfl, g⟩ := gg.one
    obtain ⟨hc, h⟩ := ite_some h
    cases h
    obtain ⟨xs, bs, rfl, h1⟩ := aBls_ok hc g
    exact ⟨.bool (bs.all id), by simp only [biD, allB, h1, Option.map_some], .bln⟩
  · obtain ⟨d, e, rfl, g1, g2⟩ := gg.two
    replace g1 := shp_ok g1
    replace g2 := shp_ok g2
    split at h
    · rename_i e1 e2
      rw [e1] at g1
      rw [e2] at g2
      cases h
      cases g1 with | int a1 a2 => cases g2 with | int b1 b2 =>
        refine ⟨_, rfl, .int ?_ ?_⟩
        · unfold maxI; split <;> split <;> omega
        · unfold maxI; split <;> split <;> omega
    · cases h
  · obtain ⟨d, e, rfl, g1, g2⟩ := gg.two
    replace g1 := shp_ok g1
    replace g2 := shp_ok g2
    split at h
    · rename_i e1 e2
      rw [e1] at g1
      rw [e2] at g2
      cases h
      cases g1 with | int a1 a2 => cases g2 with | int b1 b2 =>
        refine ⟨_, rfl, .int ?_ ?_⟩
        · unfold minI; split <;> split <;> omega
        · unfold minI; split <;> split <;> omega
    · cases h
  · obtain ⟨d, rfl, g⟩ := gg.one
    replace g := shp_ok g
    split at h
    · rename_i e
      rw [e] at g
      cases h
      cases g with | int g1 g2 =>
        refine ⟨_, rfl, .int ?_ ?_⟩
        · split <;> omega
        · unfold maxI; split <;> split <;> omega
    · cases h
  · cases h
theorem aBi_ok {b : Bi} {as : List AV} {c : AV} {ds : List PyData} (h : aBi b as = some c) (g : Gas M as ds) : ∃ z, biD b ds = some z ∧ Ga M c z := by
  unfold aBi at h
  split at h
  · rename_i e
    cases h
    exact aBi1_ok e g
  · obtain ⟨xs, h1, h2⟩ := bind_some h
    obtain ⟨z, h3, rfl⟩ := map_some h2
    rw [consA_ok h1 g]
    exact ⟨z, h3, .con⟩
end
end Pf


namespace Pf
open PySem PySem.Spec L2
/-! ### texts joined -/
theorem join_len (z : Str) : ∀ xs : List Str, (Txt.join z xs).length ≤ (xs.map (·.length)).sum + xs.length * z.length := by
  intro xs
  rw [TL.join_eq]
  induction xs with
  | nil => exact Nat.zero_le _
  | cons x xs ih =>
    cases xs with
    | nil => simp [Str.join]
    | cons y ys =>
      have e : Str.join z (x :: y :: ys) = x ++ z ++ Str.join z (y :: ys) := rfl
      rw [e, Str.length_append, Str.length_append, List.map_cons, List.sum_cons, List.length_cons, Nat.add_mul, Nat.one_mul]
      omega
theorem join_len0 (z : Str) : ∀ xs : List Str, (xs.map (·.length)).sum ≤ (Txt.join z xs).length := by
  intro xs
  rw [TL.join_eq]
  induction xs with
  | nil => exact Nat.zero_le _
  | cons x xs ih =>
    cases xs with
    | nil => simp [Str.join]
    | cons y ys =>
      have e : Str.join z (x :: y :: ys) = x ++ z ++ Str.join z (y :: ys) := rfl
      rw [e, Str.length_append, Str.length_append, List.map_cons, List.sum_cons]
      omega
theorem strsOf_map (xs : List Str) : strsOf (xs.map PyData.str) = some xs := by
  induction xs with
  | nil => rfl
  | cons x xs ih => simp only [List.map_cons, strsOf, ih, Option.map_some]
section
variable {M : Am}
theorem strs_all {l h : Nat} {cs : List (Nat × Nat)} : ∀ {ds : List PyData}, (∀ d ∈ ds, Ga M (.str l h cs) d) → ∃ xs, strsOf ds = some xs ∧ xs.length = ds.length ∧ ∀ x ∈ xs, l ≤ x.length ∧ x.length ≤ h ∧ ∀ c ∈ x.cps.toList, inC c cs
  | [], _ => ⟨[], rfl, rfl, fun x hx => by cases hx⟩
  | d :: ds, g => by
    obtain ⟨xs, h1, h2, h3⟩ := strs_all fun e he => g e (List.mem_cons_of_mem _ he)
    have g1 := g d List.mem_cons_self
    cases g1 with | @str _ _ _ z a b c =>
      refine ⟨z :: xs, by simp [strsOf, h1], by simp [h2], fun x hx => ?_⟩
      rcases List.mem_cons.mp hx with rfl | hx
      · exact ⟨a, b, c⟩
      · exact h3 x hx
theorem len_sum {l h : Nat} : ∀ {xs : List Str}, (∀ x ∈ xs, l ≤ x.length ∧ x.length ≤ h) → xs.length * l ≤ (xs.map (·.length)).sum ∧ (xs.map (·.length)).sum ≤ xs.length * h
  | [], _ => by simp
  | x :: xs, g => by
    obtain ⟨h1, h2⟩ := len_sum fun y hy => g y (List.mem_cons_of_mem _ hy)
    obtain ⟨g1, g2⟩ := g x List.mem_cons_self
    simp only [List.map_cons, List.sum_cons, List.length_cons, Nat.add_mul, Nat.one_mul]
    omega
/-- a list of texts: how many, how long -/
def aStrs (a : AV) : Option (Nat × Nat × Nat × Nat × List (Nat × Nat)) :=
  match shp a with
  | .sq false lo hi x => match shp x with
    | .str l h cs => some (lo, hi, l, h, cs)
    | _ => if hi = 0 then some (0, 0, 0, 0, []) else none
  | .ex false as => match shp (fold1 (join jF) as) with
    | .str l h cs => some (as.length, as.length, l, h, cs)
    | _ => if as.isEmpty then some (0, 0, 0, 0, []) else none
  | _ => none
theorem aStrs_ok {a : AV} {lo hi l h : Nat} {cs : List (Nat × Nat)} {x : PyData} (e : aStrs a = some (lo, hi, l, h, cs)) (g : Ga M a x) : ∃ ds xs, x = .list ds ∧ strsOf ds = some xs ∧ lo ≤ xs.length ∧ xs.length ≤ hi ∧ ∀ x ∈ xs, l ≤ x.length ∧ x.length ≤ h ∧ ∀ c ∈ x.cps.toList, inC c cs := by
  unfold aStrs at e
  replace g := shp_ok g
  split at e
  · rename_i e1
    rw [e1] at g
    cases g with | sqL g1 g2 g3 =>
      split at e
      · rename_i e2
        cases e
        obtain ⟨xs, h1, h2, h3⟩ := strs_all (M := M) (l := l) (h := h) (cs := cs) fun d hd => by
          have := shp_ok (g3 d hd)
          rwa [e2] at this
        exact ⟨_, xs, rfl, h1, by omega, by omega, h3⟩
      · split at e
        · rename_i e0
          cases e
          rw [e0] at g2
          rw [List.eq_nil_of_length_eq_zero (Nat.le_zero.mp g2)]
          exact ⟨[], [], rfl, rfl, Nat.le_refl _, Nat.le_refl _, fun x hx => by cases hx⟩
        · cases e
  · rename_i as e1
    rw [e1] at g
    cases g with | exL g1 =>
      split at e
      · rename_i e2
        cases e
        obtain ⟨xs, h1, h2, h3⟩ := strs_all (M := M) (l := l) (h := h) (cs := cs) fun d hd => by
          have := shp_ok (g1.all (a := fold1 (join jF) as) (fun b hb d gb => fold1_ok (join_ok jF) hb gb) d hd)
          rwa [e2] at this
        have := g1.length
        exact ⟨_, xs, rfl, h1, by omega, by omega, h3⟩
      · split at e
        · rename_i e0
          cases e
          have : as = [] := List.isEmpty_iff.mp e0
          subst this
          cases g1
          exact ⟨[], [], rfl, rfl, Nat.le_refl _, Nat.le_refl _, fun x hx => by cases hx⟩
        · cases e
  · cases e
def aMet (m : Str) (a : AV) (as : List AV) : Option AV :=
  if m = "join" then match shp a, as with
    | .str ls hs cs, [b] => match aStrs b with
      | some (lo, hi, l, h, ds) => if hi * h + hi * hs ≤ 16777216 then some (.str (lo * l) (hi * h + hi * hs) (csU cs ds)) else none
      | none => none
    | _, _ => none
  else none
theorem aMet_ok {m : Str} {a c : AV} {as : List AV} {x : PyData} {ds : List PyData} (e : aMet m a as = some c) (g : Ga M a x) (gs : Gas M as ds) : ∃ z, metD m x ds = some z ∧ Ga M c z := by
  unfold aMet at e
  split at e
  · rename_i hm
    subst hm
    replace g := shp_ok g
    split at e
    · rename_i ls hs cs b e1
      rw [e1] at g
      obtain ⟨d, rfl, gb⟩ := gs.one
      split at e
      · rename_i lo hi l h cs' e2
        split at e
        · rename_i hc
          cases e
          obtain ⟨ds, xs, rfl, h1, h2, h3, h4⟩ := aStrs_ok e2 gb
          cases g with | @str _ _ _ z z1 z2 z3 =>
            obtain ⟨s1, s2⟩ := len_sum (l := l) (h := h) fun x hx => ⟨(h4 x hx).1, (h4 x hx).2.1⟩
            have a1 : xs.length * h ≤ hi * h := Nat.mul_le_mul_right _ h3
            have a2 : xs.length * z.length ≤ hi * hs := Nat.mul_le_mul h3 z2
            have a3 : lo * l ≤ xs.length * l := Nat.mul_le_mul_right _ h2
            have l1 := join_len z xs
            have l0 := join_len0 z xs
            refine ⟨.str (Txt.join z xs), ?_, .str (by omega) (by omega) fun c hc => ?_⟩
            · unfold metD
              simp only [if_true, h1, Option.bind_some]
              rw [if_pos (by omega)]
            · rw [TL.join_eq] at hc
              rcases (PyProof.Rows.mem_join z c xs).mp hc with ⟨t, t1, t2⟩ | ⟨_, t2⟩
              · exact csU_r ((h4 t t1).2.2 c t2)
              · exact csU_l (z3 c t2)
        · cases e
      · cases e
    · cases e
  · cases e
/-! ### one's own list is changed -/
def aMut (m : Str) (a : AV) (as : List AV) : Option (AV × AV) :=
  if m = "append" then match shp a, as with
    | .ex false xs, [y] => if xs.length < 16777216 then some (.ex false (xs ++ [y]), .con .none) else none
    | .sq false l h x, [y] => if h < 16777216 then some (.sq false (l + 1) (h + 1) (join jF x y), .con .none) else none
    | _, _ => none
  else if m = "pop" then match shp a, as with
    | .ex false xs, [] => (xs[xs.length - 1]?).map fun y => (.ex false xs.dropLast, y)
    | .sq false l h x, [] => if 0 < l then some (.sq false (l - 1) (h - 1) x, x) else none
    | _, _ => none
  else if m = "reverse" then match shp a, as with
    | .ex false xs, [] => some (.ex false xs.reverse, .con .none)
    | .sq false l h x, [] => some (.sq false l h x, .con .none)
    | _, _ => none
  else none
theorem Gas.reverse : ∀ {as : List AV} {ds : List PyData}, Gas M as ds → Gas M as.reverse ds.reverse
  | _, _, .nil => .nil
  | _, _, .cons g t => by
    rw [List.reverse_cons, List.reverse_cons]
    exact t.reverse.append (.cons g .nil)
theorem aMut_ok {m : Str} {a a' r : AV} {as : List AV} {x : PyData} {ds : List PyData} (e : aMut m a as = some (a', r)) (g : Ga M a x) (gs : Gas M as ds) : ∃ z xs, x = .list xs ∧ mutD m x ds = some z ∧ Ga M a' z.1 ∧ Ga M r z.2 := by
  have n1 : ¬ (("pop" : Str) = "append") := by decide +kernel
  have n2 : ¬ (("reverse" : Str) = "append") := by decide +kernel
  have n3 : ¬ (("reverse" : Str) = "pop") := by decide +kernel
  have n4 : ¬ (("reverse" : Str) = "extend") := by decide +kernel
  unfold aMut at e
  replace g := shp_ok g
  split at e
  · rename_i hm
    subst hm
    split at e
    · rename_i xs y e1
      rw [e1] at g
      split at e
      · rename_i hl
        cases e
        obtain ⟨d, rfl, gy⟩ := gs.one
        cases g with | exL g =>
          refine ⟨(.list (_ ++ [d]), .none), _, rfl, ?_, .exL (g.append (.cons gy .nil)), .con⟩
          simp only [mutD, if_true, appM]
          rw [if_pos (by rw [sl16, ← g.length]; exact hl)]
      · cases e
    · rename_i l h z y e1
      rw [e1] at g
      split at e
      · rename_i hl
        cases e
        obtain ⟨d, rfl, gy⟩ := gs.one
        cases g with | sqL g1 g2 g3 =>
          refine ⟨(.list (_ ++ [d]), .none), _, rfl, ?_, .sqL (by rw [List.length_append]; simp; omega) (by rw [List.length_append]; simp; omega) fun w hw => ?_, .con⟩
          · simp only [mutD, if_true, appM]
            rw [if_pos (by rw [sl16]; omega)]
          · rcases List.mem_append.mp hw with hw | hw
            · exact (join_ok _ _ _ _).1 (g3 w hw)
            · rw [List.mem_singleton.mp hw]
              exact (join_ok _ _ _ _).2 gy
      · cases e
    · cases e
  · split at e
    · rename_i hm
      subst hm
      split at e
      · rename_i xs e1
        rw [e1] at g
        obtain ⟨y, h1, h2⟩ := map_some e
        cases h2
        cases gs
        cases g with | @exL _ xs' g =>
          obtain ⟨d, h3, h4⟩ := g.get h1
          rw [g.length] at h3
          refine ⟨(.list xs'.dropLast, d), _, rfl, by simp only [mutD, if_neg n1, if_true, popM, h3, Option.map_some], ?_, h4⟩
          rw [List.dropLast_eq_take, List.dropLast_eq_take, g.length]
          exact .exL (g.take _)
      · rename_i l h z e1
        rw [e1] at g
        split at e
        · rename_i hl
          cases e
          cases gs
          cases g with | @sqL _ _ _ ds g1 g2 g3 =>
            have hp : ds.length - 1 < ds.length := by omega
            refine ⟨(.list ds.dropLast, ds[ds.length - 1]), _, rfl, ?_, .sqL (by simp; omega) (by simp; omega) fun w hw => g3 w (List.dropLast_subset _ hw), g3 _ (List.getElem_mem hp)⟩
            simp only [mutD, if_neg n1, if_true, popM, List.getElem?_eq_getElem hp, Option.map_some]
        · cases e
      · cases e
    · split at e
      · rename_i hm
        subst hm
        split at e
        · rename_i xs e1
          rw [e1] at g
          cases e
          cases gs
          cases g with | exL g => exact ⟨(.list _, .none), _, rfl, by simp only [mutD, if_neg n2, if_neg n3, if_neg n4, if_true, revM], .exL g.reverse, .con⟩
        · rename_i l h z e1
          rw [e1] at g
          cases e
          cases gs
          cases g with | sqL g1 g2 g3 => exact ⟨(.list _, .none), _, rfl, by simp only [mutD, if_neg n2, if_neg n3, if_neg n4, if_true, revM], .sqL (by simpa using g1) (by simpa using g2) fun w hw => g3 w (List.mem_reverse.mp hw), .con⟩
        · cases e
      · cases e
/-! ### what is walked -/
inductive AI where
  | ls (as : List AV) | rp (lo hi : Nat) (a : AV)
def GI (M : Am) : AI → List PyData → Prop
  | .ls as, ds => Gas M as ds
  | .rp lo hi a, ds => lo ≤ ds.length ∧ ds.length ≤ hi ∧ ∀ d ∈ ds, Ga M a d
def aItems (a : AV) : Option AI :=
  match shp a with
  | .ex _ as => some (.ls as)
  | .sq _ l h x => some (.rp l h x)
  | .str l h cs => some (.rp l h (.str 1 1 cs))
  | _ => none
theorem aItems_ok {a : AV} {i : AI} {x : PyData} (h : aItems a = some i) (g : Ga M a x) : ∃ ds, itemsD x = some ds ∧ GI M i ds := by
  unfold aItems at h
  replace g := shp_ok g
  split at h
  · rename_i e
    rw [e] at g
    cases h
    cases g with
    | exL g => exact ⟨_, rfl, g⟩
    | exT g => exact ⟨_, rfl, g⟩
  · rename_i e
    rw [e] at g
    cases h
    cases g with
    | sqL g1 g2 g3 => exact ⟨_, rfl, g1, g2, g3⟩
    | sqT g1 g2 g3 => exact ⟨_, rfl, g1, g2, g3⟩
  · rename_i e
    rw [e] at g
    cases h
    cases g with | @str _ _ _ z g1 g2 g3 =>
      have hz : z.length = (charsD z).length := by simp [charsD, Str.length]
      refine ⟨_, rfl, by rw [← hz]; exact g1, by rw [← hz]; exact g2, fun d hd => ?_⟩
      obtain ⟨c, hc, rfl⟩ := List.mem_map.mp hd
      refine .str (by simp [Str.length]) (by simp [Str.length]) fun c' hc' => ?_
      have : c' = c := by simpa using hc'
      subst this
      exact g3 _ hc
  · cases h
def conI (lo : Int) : Nat → List AV
  | 0 => []
  | n + 1 => .con (.int lo) :: conI (lo + 1) n
theorem conI_ok : ∀ {n : Nat} {lo : Int}, Gas M (conI lo n) (intsFrom lo n)
  | 0, _ => .nil
  | _ + 1, _ => .cons .con conI_ok
def iMid (l h : Int) : Bool := decide (-4611686018427387904 < l) && decide (h < 4611686018427387904)
theorem iMid_ok {l h i : Int} (hc : iMid l h = true) (h1 : l ≤ i) (h2 : i ≤ h) : smallI i = true := by
  unfold iMid at hc
  simp only [Bool.and_eq_true, decide_eq_true_eq] at hc
  unfold smallI
  exact decide_eq_true (by omega)
theorem intsFrom_mem : ∀ {n : Nat} {lo : Int} {d : PyData}, d ∈ intsFrom lo n → ∃ i, d = .int i ∧ lo ≤ i ∧ i < lo + n
  | 0, _, _, h => by cases h
  | n + 1, lo, d, h => by
    rcases List.mem_cons.mp h with rfl | h
    · exact ⟨lo, rfl, by omega, by omega⟩
    · obtain ⟨i, rfl, h1, h2⟩ := intsFrom_mem h
      exact ⟨i, rfl, by omega, by omega⟩
def rngA (l h l' h' : Int) : Option AI :=
  if iMid l h && iMid l' h' then some (if l = h ∧ l' = h' ∧ (l' - l) ≤ 100 then .ls (conI l (l' - l).toNat) else .rp (l' - h).toNat (h' - l).toNat (.int l (h' - 1))) else none
theorem rngA_ok {l h l' h' i j : Int} {c : AI} (e : rngA l h l' h' = some c) (h1 : l ≤ i) (h2 : i ≤ h) (h3 : l' ≤ j) (h4 : j ≤ h') : smallI i = true ∧ smallI j = true ∧ GI M c (intsFrom i (j - i).toNat) := by
  unfold rngA at e
  obtain ⟨hc, e⟩ := ite_some e
  simp only [Bool.and_eq_true] at hc
  refine ⟨iMid_ok hc.1 h1 h2, iMid_ok hc.2 h3 h4, ?_⟩
  cases e
  split
  · rename_i q
    obtain ⟨rfl, rfl, _⟩ := q
    obtain rfl := Int.le_antisymm h1 h2
    obtain rfl := Int.le_antisymm h3 h4
    exact conI_ok
  · refine ⟨by rw [intsFrom_length]; omega, by rw [intsFrom_length]; omega, fun d hd => ?_⟩
    obtain ⟨k, rfl, k1, k2⟩ := intsFrom_mem hd
    exact .int (by omega) (by omega)
def aRng (as : List AV) : Option AI :=
  match as with
  | [b] => match shp b with
    | .int l h => rngA 0 0 l h
    | _ => none
  | [a, b] => match shp a, shp b with
    | .int l h, .int l' h' => rngA l h l' h'
    | _, _ => none
  | _ => none
theorem aRng_ok {as : List AV} {c : AI} {ds : List PyData} (h : aRng as = some c) (g : Gas M as ds) : ∃ xs, rangeD ds = some xs ∧ GI M c xs := by
  unfold aRng at h
  split at h
  · obtain ⟨d, rfl, g1⟩ := g.one
    replace g1 := shp_ok g1
    split at h
    · rename_i e
      rw [e] at g1
      cases g1 with | @int _ _ j a1 a2 =>
        obtain ⟨s1, s2, s3⟩ := rngA_ok (M := M) h (Int.le_refl 0) (Int.le_refl 0) a1 a2
        exact ⟨_, if_pos s2, by simpa using s3⟩
    · cases h
  · obtain ⟨d, e, rfl, g1, g2⟩ := g.two
    replace g1 := shp_ok g1
    replace g2 := shp_ok g2
    split at h
    · rename_i e1 e2
      rw [e1] at g1
      rw [e2] at g2
      cases g1 with | @int _ _ i a1 a2 => cases g2 with | @int _ _ j b1 b2 =>
        obtain ⟨s1, s2, s3⟩ := rngA_ok (M := M) h a1 a2 b1 b2
        exact ⟨_, if_pos (by rw [s1, s2]; rfl), s3⟩
    · cases h
  · cases h
/-! ### targets -/
def setsA : List Nat → List AV → AE → Option AE
  | [], [], A => some A
  | i :: is, a :: as, A => setsA is as (A.set i (some (false, a)))
  | _, _, _ => none
theorem setsA_ok : ∀ {is : List Nat} {as : List AV} {A B : AE} {ds : List PyData} {ρ : En}, setsA is as A = some B → Gas M as ds → GE M A ρ → ∃ ρ', setsD is ds ρ = some ρ' ∧ GE M B ρ'
  | [], [], _, _, _, ρ, h, .nil, g => by cases h; exact ⟨ρ, rfl, g⟩
  | [], _ :: _, _, _, _, _, h, _, _ => by cases h
  | _ :: _, [], _, _, _, _, h, _, _ => by cases h
  | i :: is, a :: as, _, _, _, _, h, .cons ga t, g => setsA_ok (is := is) h t (g.set i ga)
def aSeq (n : Nat) (a : AV) : Option (List AV) :=
  match shp a with
  | .ex _ as => some as
  | .sq _ l h x => if l = h ∧ l = n then some (List.replicate n x) else none
  | _ => none
theorem Gas.repl {a : AV} : ∀ {ds : List PyData}, (∀ d ∈ ds, Ga M a d) → Gas M (List.replicate ds.length a) ds
  | [], _ => .nil
  | d :: ds, h => .cons (h d List.mem_cons_self) (Gas.repl fun e he => h e (List.mem_cons_of_mem _ he))
theorem aSeq_ok {n : Nat} {a : AV} {as : List AV} {x : PyData} (h : aSeq n a = some as) (g : Ga M a x) : ∃ ds, seqD x = some ds ∧ Gas M as ds := by
  unfold aSeq at h
  replace g := shp_ok g
  split at h
  · rename_i e
    rw [e] at g
    cases h
    cases g with
    | exL g => exact ⟨_, rfl, g⟩
    | exT g => exact ⟨_, rfl, g⟩
  · rename_i e
    rw [e] at g
    split at h
    · rename_i hc
      obtain ⟨rfl, rfl⟩ := hc
      cases h
      cases g with
      | sqL g1 g2 g3 => rw [Nat.le_antisymm g1 g2]; exact ⟨_, rfl, .repl g3⟩
      | sqT g1 g2 g3 => rw [Nat.le_antisymm g1 g2]; exact ⟨_, rfl, .repl g3⟩
    · cases h
  · cases h
def aTg (g : RG) (a : AV) (A : AE) : Option AE :=
  match g with
  | .one i => some (A.set i (some (false, a)))
  | .many is => (aSeq is.length a).bind fun as => setsA is as A
theorem aTg_ok {g : RG} {a : AV} {A B : AE} {x : PyData} {ρ : En} (h : aTg g a A = some B) (ga : Ga M a x) (gA : GE M A ρ) : ∃ ρ', g.den x ρ = some ρ' ∧ GE M B ρ' := by
  cases g with
  | one i => cases h; exact ⟨_, rfl, gA.set i ga⟩
  | many is =>
    obtain ⟨as, h1, h2⟩ := bind_some h
    obtain ⟨ds, h3, h4⟩ := aSeq_ok h1 ga
    obtain ⟨ρ', h5, h6⟩ := setsA_ok h2 h4 gA
    exact ⟨ρ', by simp only [RG.den, gN', h3, Option.bind_some, h5], h6⟩
/-! ### op= and items stored -/
def aAug (op : Operator) (a b : AV) : Option AV :=
  match op, shp a, shp b with
  | .Add, .int l h, .int l' h' => some (.int (l + l') (h + h'))
  | .Sub, .int l h, .int l' h' => some (.int (l - h') (h - l'))
  | _, _, _ => none
theorem aAug_ok {op : Operator} {a b c : AV} {x y : PyData} (h : aAug op a b = some c) (ga : Ga M a x) (gb : Ga M b y) : ∃ i j z : Int, x = .int i ∧ y = .int j ∧ augD op i j = some z ∧ Ga M c (.int z) := by
  unfold aAug at h
  replace ga := shp_ok ga
  replace gb := shp_ok gb
  split at h
  · rename_i e1 e2
    rw [e1] at ga
    rw [e2] at gb
    cases h
    cases ga with | @int _ _ i a1 a2 => cases gb with | @int _ _ j b1 b2 => exact ⟨i, j, _, rfl, rfl, rfl, .int (by omega) (by omega)⟩
  · rename_i e1 e2
    rw [e1] at ga
    rw [e2] at gb
    cases h
    cases ga with | @int _ _ i a1 a2 => cases gb with | @int _ _ j b1 b2 => exact ⟨i, j, _, rfl, rfl, rfl, .int (by omega) (by omega)⟩
  · cases h
def aSetIx (a i v : AV) : Option AV :=
  match shp a, shp i with
  | .ex false as, .int l h => if l = h then (ixN as.length l).map fun j => .ex false (as.set j v) else if 0 ≤ l ∧ h < as.length then some (.sq false as.length as.length (as.foldl (join jF) v)) else none
  | .sq false lo hi x, .int l h => if (0 ≤ l ∧ h < lo) ∨ (h < 0 ∧ -(lo : Int) ≤ l) then some (.sq false lo hi (join jF x v)) else none
  | _, _ => none
theorem Gas.set {v : AV} {d : PyData} (g : Ga M v d) : ∀ {as : List AV} {ds : List PyData} (i : Nat), Gas M as ds → Gas M (as.set i v) (ds.set i d)
  | _, _, _, .nil => .nil
  | _, _, 0, .cons _ t => .cons g t
  | _, _, i + 1, .cons h t => .cons h (Gas.set g i t)
theorem mem_set' {α : Type} {xs : List α} {i : Nat} {v w : α} (h : w ∈ xs.set i v) : w = v ∨ w ∈ xs := by
  rcases List.mem_or_eq_of_mem_set h with h | h
  · exact .inr h
  · exact .inl h
theorem aSetIx_ok {a i v c : AV} {x k y : PyData} (h : aSetIx a i v = some c) (ga : Ga M a x) (gi : Ga M i k) (gv : Ga M v y) : ∃ z, setIx x k y = some z ∧ Ga M c z := by
  unfold aSetIx at h
  replace ga := shp_ok ga
  replace gi := shp_ok gi
  split at h
  · rename_i as l h0 e1 e2
    rw [e1] at ga
    rw [e2] at gi
    cases ga with | @exL _ ds g => cases gi with | @int _ _ n i1 i2 =>
      split at h
      · rename_i e
        subst e
        obtain rfl := Int.le_antisymm i1 i2
        obtain ⟨j, h1, rfl⟩ := map_some h
        rw [g.length] at h1
        exact ⟨_, by simp only [setIx, h1, Option.map_some], .exL (Gas.set gv j g)⟩
      · split at h
        · rename_i hc
          cases h
          have hl := g.length
          obtain ⟨j, j1, j2⟩ := ixN_in (n := ds.length) (lo := as.length) (by omega) i1 i2 (.inl hc)
          refine ⟨.list (ds.set j y), by simp only [setIx, j1, Option.map_some], .sqL (by simp; omega) (by simp; omega) fun w hw => ?_⟩
          rcases mem_set' hw with rfl | hw
          · exact (foldl_l (join_ok jF) _ _ _).1 gv
          · exact g.all (fun b hb d gb => (foldl_l (join_ok jF) _ _ _).2 b hb gb) w hw
        · cases h
  · rename_i lo hi z l h0 e1 e2
    rw [e1] at ga
    rw [e2] at gi
    split at h
    · rename_i hc
      cases h
      cases ga with | @sqL _ _ _ ds g1 g2 g3 => cases gi with | @int _ _ n i1 i2 =>
        obtain ⟨j, j1, j2⟩ := ixN_in (n := ds.length) (lo := lo) (by exact_mod_cast g1) i1 i2 hc
        refine ⟨.list (ds.set j y), by simp only [setIx, j1, Option.map_some], .sqL (by simp; omega) (by simp; omega) fun w hw => ?_⟩
        rcases mem_set' hw with rfl | hw
        · exact (join_ok _ _ _ _).2 gv
        · exact (join_ok _ _ _ _).1 (g3 w hw)
    · cases h
  · cases h
end
end Pf


namespace Pf
open PySem PySem.Spec L2

/-! ## a text upon what data are like -/
inductive AOp where
  | slot (i : Nat) | val (a : AV)
abbrev AR := AOp × Bool × AE
abbrev AT := Option AE × Option AE
abbrev KA := Nat → List AV → Option (Bool × AV × List AV)
structure AF where
  o : RE → AE → Option AR
  t : RE → AE → Option AT
  i : RE → AE → Option (AI × AE)
def rdA (A : AE) : AOp → Option AV
  | .val a => some a
  | .slot i => match A[i]? with
    | some (some (_, a)) => some a
    | _ => none
def rdAs (A : AE) : List AOp → Option (List AV)
  | [] => some []
  | o :: os => (rdA A o).bind fun d => (rdAs A os).bind fun ds => some (d :: ds)
def resA (A : AE) (a : AV) : Option AR := (nbA a).map fun b => (.val a, b, A)
def frzA (A : AE) (i : Nat) : AE := match A[i]? with
  | some (some (true, a)) => A.set i (some (false, a))
  | _ => A
def frzsA (A : AE) : List Nat → AE
  | [] => A
  | i :: is => frzA (frzsA A is) i
def wipeA (A : AE) : List Nat → AE
  | [] => A
  | i :: is => (wipeA A is).set i none
def backA (A0 A : AE) : List Nat → AE
  | [] => A
  | i :: is => match A0[i]? with
    | some w => (backA A0 A is).set i w
    | none => backA A0 A is
def toVA (io : List Nat) (r : AR) : Option (Bool × AV × AE) := match r.1 with
  | .val a => some (r.2.1, a, r.2.2)
  | .slot i => if io.contains i then none else match r.2.2[i]? with
    | some (some (_, a)) => some (false, a, frzA r.2.2 i)
    | _ => none
def aV (io : List Nat) (f : AE → Option AR) (A : AE) : Option (Bool × AV × AE) := (f A).bind (toVA io)
def aVs (io : List Nat) (F : RE → AE → Option AR) : List RE → AE → Option (List AV × AE)
  | [], A => some ([], A)
  | e :: es, A => (aV io (F e) A).bind fun r => (aVs io F es r.2.2).bind fun q => some (r.2.1 :: q.1, q.2)
def aOs (F : RE → AE → Option AR) : List RE → AE → Option (List AOp × AE)
  | [], A => some ([], A)
  | e :: es, A => (F e A).bind fun r => (aOs F es r.2.2).bind fun q => some (r.1 :: q.1, q.2)
def joinR (r q : AR) : Option AR :=
  if r.2.1 == q.2.1 then (joinE r.2.2 q.2.2).bind fun A => match r.1, q.1 with
    | .val a, .val b => some (.val (join jF a b), r.2.1, A)
    | .slot i, .slot j => if i = j then some (.slot i, r.2.1, A) else none
    | _, _ => none
  else none
/-- what may be none -/
def jO {α : Type} (f : α → α → Option α) : Option α → Option α → Option (Option α)
  | none, y => some y
  | x, none => some x
  | some x, some y => (f x y).map some
def aBr (T E : Option AE) (f g : AE → Option AR) : Option AR :=
  match T, E with
  | some A, some B => (f A).bind fun r => (g B).bind fun q => joinR r q
  | some A, none => f A
  | none, some B => g B
  | none, none => none
def aAnd (F : RE → AE → Option AR) (neg : Bool) : List RE → AE → Option AR
  | [], _ => none
  | [e], A => F e A
  | e :: es, A => (F e A).bind fun r => (rdA r.2.2 r.1).bind fun d => (aTru d).bind fun o => match o with
    | some k => if (k != neg) then aAnd F neg es r.2.2 else some r
    | none => (aAnd F neg es r.2.2).bind fun q => joinR r q
def aTan (F : RE → AE → Option AT) : List RE → AE → Option AT
  | [], _ => none
  | [e], A => F e A
  | e :: es, A => (F e A).bind fun r => match r.1 with
    | none => some r
    | some A1 => (aTan F es A1).bind fun q => (jO joinE r.2 q.2).map fun z => (q.1, z)
def aTor (F : RE → AE → Option AT) : List RE → AE → Option AT
  | [], _ => none
  | [e], A => F e A
  | e :: es, A => (F e A).bind fun r => match r.2 with
    | none => some r
    | some A1 => (aTor F es A1).bind fun q => (jO joinE r.1 q.1).map fun z => (z, q.2)
def kn2 (o : Option Bool) (A : AE) : AT := match o with
  | some true => (some A, none)
  | some false => (none, some A)
  | none => (some A, some A)
/-! ### what a test tells -/
def opRng (op : CmpOp) (n : Int) (b : Bool) : Option Int × Option Int :=
  match op, b with
  | .Lt, true => (none, some (n - 1))
  | .Lt, false => (some n, none)
  | .Gt, true => (some (n + 1), none)
  | .Gt, false => (none, some n)
  | .LtE, true => (none, some n)
  | .LtE, false => (some (n + 1), none)
  | .GtE, true => (some n, none)
  | .GtE, false => (none, some (n - 1))
  | .Eq, true => (some n, some n)
  | .NotEq, false => (some n, some n)
  | _, _ => (none, none)
/-- unlike n -/
def opNe (op : CmpOp) (b : Bool) : Bool :=
  match op, b with
  | .Eq, false => true
  | .NotEq, true => true
  | _, _ => false
def loI (l : Int) (o : Option Int) : Int := match o with
  | some x => if l ≤ x then x else l
  | none => l
def hiI (h : Int) (o : Option Int) : Int := match o with
  | some x => if x ≤ h then x else h
  | none => h
/-- between l and h, so limited -/
def limI (op : CmpOp) (n : Int) (b : Bool) (l h : Int) : Int × Int :=
  let l1 := loI l (opRng op n b).1
  let h1 := hiI h (opRng op n b).2
  let l2 := if opNe op b && decide (l1 = n) then l1 + 1 else l1
  let h2 := if opNe op b && decide (h1 = n) then h1 - 1 else h1
  (l2, h2)
def limLen (op : CmpOp) (n : Int) (b : Bool) (a : AV) : Option AV :=
  match shp a with
  | .sq t l h x => let p := limI op n b l h; if p.1 ≤ p.2 then some (.sq t p.1.toNat p.2.toNat x) else none
  | .str l h cs => let p := limI op n b l h; if p.1 ≤ p.2 then some (.str p.1.toNat p.2.toNat cs) else none
  | .ex t as => let p := limI op n b as.length as.length; if p.1 ≤ p.2 then some a else none
  | _ => some a
def limNone (b : Bool) : Nat → AV → Option AV
  | 0, a => some a
  | n + 1, a => match a with
    | .or x y => match limNone b n x, limNone b n y with
      | none, r => r
      | r, none => r
      | some x', some y' => some (.or x' y')
    | a => match isNonA a with
      | some c => if c == b then some a else none
      | none => some a
def kindA : Nat → AV → Bool
  | 0, a => match a with
    | .sq _ _ _ _ => true
    | .str _ _ _ => true
    | .ex _ _ => true
    | _ => false
  | 2, a => match a with | .str _ _ _ => true | _ => false
  | 3, a => match a with | .sq t _ _ _ => !t | .ex t _ => !t | _ => false
  | 4, a => match a with | .sq t _ _ _ => t | .ex t _ => t | _ => false
  | _, _ => false
def limSp (k : Nat) (op : CmpOp) (n : Int) (b : Bool) (a : AV) : Option AV :=
  match k with
  | 0 => limLen op n b a
  | 1 => match shp a with
    | .int l h => let p := limI op n b l h; if p.1 ≤ p.2 then some (.int p.1 p.2) else none
    | _ => some a
  | 5 => match op with
    | .Is => limNone b 8 a
    | .IsNot => limNone (!b) 8 a
    | _ => some a
  | k => if kindA k (shp a) then (match op with
    | .Eq => limLen .Eq 0 b a
    | .NotEq => limLen .NotEq 0 b a
    | _ => some a) else some a
def spA (k : Nat) (n : Int) : AV := match k with
  | 0 => .con (.int n)
  | 1 => .con (.int n)
  | 2 => .con (.str ⟨#[]⟩)
  | 3 => .con (.list [])
  | 4 => .con (.tuple [])
  | _ => .con .none
def aTsp (k i : Nat) (op : CmpOp) (n : Int) (A : AE) : Option AT :=
  match A[i]? with
  | some (some (b, a)) => (match k with | 0 => aLen a | _ => some a).bind fun x => (aCmp op x (spA k n)).bind fun o =>
    some (if o == some false then none else (limSp k op n true a).map fun a' => A.set i (some (b, a')), if o == some true then none else (limSp k op n false a).map fun a' => A.set i (some (b, a')))
  | _ => none
def aTest (io : List Nat) (F : AF) : RE → AE → Option AT
  | .tr, A => some (some A, none)
  | .tsp k i op n, A => aTsp k i op n A
  | .tan ts, A => aTan F.t ts A
  | .tor ts, A => aTor F.t ts A
  | .tnt t, A => (F.t t A).map fun r => (r.2, r.1)
  | .tc1 op a b, A => (F.o a A).bind fun r => (F.o b r.2.2).bind fun q => (rdA q.2.2 r.1).bind fun x => (rdA q.2.2 q.1).bind fun y => (aCmp op x y).bind fun o => some (kn2 o q.2.2)
  | .tcc op op' a b c, A => (aV io (F.o a) A).bind fun r => (aV io (F.o b) r.2.2).bind fun q => (aCmp op r.2.1 q.2.1).bind fun o =>
    if o == some false then some (none, some q.2.2) else (aV io (F.o c) q.2.2).bind fun z => (aCmp op' q.2.1 z.2.1).bind fun o' =>
      let p := kn2 o' z.2.2
      if o == some true then some p else (jO joinE p.2 (some q.2.2)).map fun z => (p.1, z)
  | .tx a, A => (F.o a A).bind fun r => (rdA r.2.2 r.1).bind fun d => (aTru d).bind fun o => some (kn2 o r.2.2)
  | _, _ => none
/-! ### calls -/
def aAgs (io : List Nat) (F : AF) : List (Bool × RE) → AE → Option (List AOp × AE)
  | [], A => some ([], A)
  | (m, e) :: es, A => if m then (F.o e A).bind fun r => match r.1 with
      | .slot i => (aAgs io F es r.2.2).bind fun q => some (.slot i :: q.1, q.2)
      | _ => none
    else (aV io (F.o e) A).bind fun r => (aAgs io F es r.2.2).bind fun q => some (.val r.2.1 :: q.1, q.2)
def slotsA : List AOp → List Nat
  | [] => []
  | .slot i :: r => i :: slotsA r
  | .val _ :: r => slotsA r
def ownA (os : List AOp) (A : AE) : Bool := os.all fun o => match o with
  | .slot i => (match A[i]? with | some (some (true, _)) => true | _ => false)
  | _ => true
def putA (A : AE) : List AOp → List AV → AE
  | .slot i :: os, a :: as => putA (A.set i (some (true, a))) os as
  | .val _ :: os, _ :: as => putA A os as
  | _, _ => A
def aCall (io : List Nat) (K : KA) (F : AF) (f : Nat) (dfl : List PyData) (src : List Src) (as : List (Bool × RE)) (ks : List RE) (A : AE) : Option AR :=
  (aAgs io F as A).bind fun q => (aVs io F.o ks q.2).bind fun z => (rdAs z.2 q.1).bind fun us => (arr us z.1 (dfl.map .con) src).bind fun full =>
  if nodupB (slotsA q.1) && ownA q.1 z.2 then (K f full).bind fun r => if r.2.2.length = full.length then some (.val r.2.1, r.1, putA z.2 q.1 r.2.2) else none else none
/-- an item drawn, of what may be read twice -/
def pXA : RE → AE → Option AR
  | .s i, A => match A[i]? with
    | some (some (true, _)) => some (.slot i, false, A)
    | some (some (false, a)) => some (.val a, false, A)
    | _ => none
  | .c d, A => some (.val (.con d), false, A)
  | .ix (.s i) (.c d), A => match A[i]? with
    | some (some (_, a)) => (aIx a (.con d)).bind fun x => some (.val x, false, A)
    | _ => none
  | _, _ => none
def itemsOf (a : AV) : Option (Nat × Nat × AV) :=
  match shp a with
  | .ex _ as => some (as.length, as.length, hullF as)
  | .sq _ l h x => some (l, h, x)
  | .str l h cs => if h ≤ 16777216 then some (l, h, .str 1 1 cs) else none
  | _ => none
def aPick (Dr : Nat → Bool) (B : Nat) (x : RE) (f p : Nat) (A : AE) : Option AR :=
  (pXA x A).bind fun r => (rdA r.2.2 r.1).bind fun a => (itemsOf a).bind fun q => match A[p]? with
    | some (some (true, .pen k)) => if Dr f && decide (0 < q.1) && decide (q.2.1 < 1000000) && decide (k + 1 ≤ B) && (match r.1 with | .slot i => decide (i ≠ p) | _ => true) then some (.val q.2.2, false, A.set p (some (true, .pen (k + 1)))) else none
    | _ => none
def aSel (io : List Nat) (F : AF) (a b t : RE) (A : AE) : Option AR :=
  (aV io (F.o a) A).bind fun x => (aV io (F.o b) x.2.2).bind fun y => (F.t t y.2.2).bind fun z => match z.1, z.2 with
    | some T, some E => (joinE T E).map fun C => (.val (join jF x.2.1 y.2.1), false, C)
    | some T, none => some (.val y.2.1, false, T)
    | none, some E => some (.val x.2.1, false, E)
    | none, none => none
def aEmp (i : Nat) (d : PyData) (A : AE) : Option AR :=
  match A[i]? with
  | some (some (false, a)) => match shp a with
    | .str l h cs => some (.val (if h = 0 then .con d else if 0 < l then .str l h cs else join jF (.str 1 h cs) (.con d)), false, A)
    | _ => none
  | _ => none
/-! ### lists made -/
def pushA (acc y : AV) : Option AV :=
  match acc with
  | .ex false as => if as.length < 16777216 then some (.ex false (as ++ [y])) else none
  | .sq false l h x => if h < 16777216 then some (.sq false (l + 1) (h + 1) (join jF x y)) else none
  | _ => none
abbrev LS := AV × AE
def joinL (x y : LS) : Option LS := (joinE x.2 y.2).map fun A => (join jF x.1 y.1, A)
/-- a turn -/
def lcT (g : RG) (t : AE → Option AT) (v : AE → Option (Bool × AV × AE)) (is : List Nat) (a : AV) (s : LS) : Option LS :=
  (aTg g a s.2).bind fun A1 => (t A1).bind fun z =>
  (match z.1 with
    | none => some none
    | some T => (v T).bind fun r => (pushA s.1 r.2.1).bind fun acc => some (some ((acc, wipeA r.2.2 is) : LS))).bind fun x =>
  (jO joinL x (z.2.map fun E => (s.1, wipeA E is))).bind id
def lcLs (f : AV → LS → Option LS) : List AV → LS → Option LS
  | [], s => some s
  | a :: as, s => (f a s).bind (lcLs f as)
def lcRp (f : AV → LS → Option LS) (a : AV) : Nat → Nat → LS → Option LS
  | _, 0, s => some s
  | lo, hi + 1, s => (f a s).bind fun s1 => (lcRp f a (lo - 1) hi s1).bind fun s2 => if lo = 0 then joinL s s2 else some s2
def lcAll (f : AV → LS → Option LS) (i : AI) (s : LS) : Option LS := match i with
  | .ls as => lcLs f as s
  | .rp lo hi a => lcRp f a lo hi s
def aLcL (io : List Nat) (F : AF) (is : List Nat) (it : RE) (g : RG) (t v : RE) (A : AE) : Option (AV × AE) :=
  (F.i it A).bind fun r => (lcAll (lcT g (F.t t) (aV io (F.o v)) is) r.1 (.ex false [], wipeA (frzsA r.2 is) is)).bind fun s => some (s.1, backA (frzsA r.2 is) s.2 is)
structure Dra where
  is : Nat → Bool
  B : Nat
def aO (D : Dra) (io : List Nat) (K : KA) (F : AF) : RE → AE → Option AR
  | .c d, A => some (.val (.con d), false, A)
  | .s i, A => match A[i]? with
    | some (some (true, _)) => some (.slot i, false, A)
    | some (some (false, a)) => some (.val a, false, A)
    | _ => none
  | .bin op a b, A => (F.o a A).bind fun r => (F.o b r.2.2).bind fun q => (rdA q.2.2 r.1).bind fun x => (rdA q.2.2 q.1).bind fun y => (aBin op x y).bind (resA q.2.2)
  | .un op a, A => (F.o a A).bind fun r => (rdA r.2.2 r.1).bind fun x => (aUn op x).bind (resA r.2.2)
  | .ife t a b, A => (F.t t A).bind fun z => aBr z.1 z.2 (F.o a) (F.o b)
  | .tup es, A => (aVs io F.o es A).bind fun q => if q.1.length ≤ 16777216 then some (.val (.ex true q.1), false, q.2) else none
  | .lst es, A => (aVs io F.o es A).bind fun q => if q.1.length ≤ 16777216 then some (.val (.ex false q.1), true, q.2) else none
  | .ix a b, A => (F.o a A).bind fun r => (F.o b r.2.2).bind fun q => (rdA q.2.2 r.1).bind fun x => (rdA q.2.2 q.1).bind fun y => (aIx x y).bind fun d => some (.val d, false, q.2.2)
  | .cut a lo hi, A => (F.o a A).bind fun r => (aPt lo r.2.2).bind fun l => (aPt hi l.2).bind fun h => (rdA h.2 r.1).bind fun d => (aCut d l.1 h.1).bind (resA h.2)
  | .van es, A => aAnd F.o false es A
  | .vor es, A => aAnd F.o true es A
  | .t t, A => (F.t t A).bind fun z => match z.1, z.2 with
    | some T, some E => (joinE T E).map fun C => (.val .bln, false, C)
    | some T, none => some (.val (.con (.bool true)), false, T)
    | none, some E => some (.val (.con (.bool false)), false, E)
    | none, none => none
  | .bi b es, A => (aOs F.o es A).bind fun q => (rdAs q.2 q.1).bind fun ds => (aBi b ds).bind (resA q.2)
  | .isi ty a, A => (F.o a A).bind fun r => (rdA r.2.2 r.1).bind fun d => (aIsi ty d).bind fun x => some (.val x, false, r.2.2)
  | .mut m a es, A => (F.o a A).bind fun r => match r.1 with
    | .slot i => match r.2.2[i]? with
      | some (some (true, x)) => if kindA 3 (shp x) then (aVs io F.o es r.2.2).bind fun q => match q.2[i]? with
        | some (some (true, y)) => (aMut m y q.1).bind fun z => some (.val z.2, false, q.2.set i (some (true, z.1)))
        | _ => none else none
      | _ => none
    | _ => none
  | .met m a es, A => (F.o a A).bind fun r => match r.1 with
    | .val d => (aOs F.o es r.2.2).bind fun q => (rdAs q.2 q.1).bind fun ds => (aMet m d ds).bind (resA q.2)
    | _ => none
  | .call f dfl src as ks, A => aCall io K F f dfl src as ks A
  | .lc is it g t v, A => (aLcL io F is it g t v A).bind fun q => some (.val q.1, true, q.2)
  | .pick x f p, A => aPick D.is D.B x f p A
  | .sel a b t, A => aSel io F a b t A
  | .emp i d, A => aEmp i d A
  | _, _ => none
where
  aPt : Option RE → AE → Option (PB × AE)
    | none, A => some (none, A)
    | some e, A => (F.o e A).bind fun r => match r.1 with
      | .val a => match shp a with
        | .int l h => some (some (l, h), r.2.2)
        | _ => none
      | _ => none
def aIt (io : List Nat) (F : AF) : RE → AE → Option (AI × AE)
  | .rng es, A => (aOs F.o es A).bind fun q => (rdAs q.2 q.1).bind fun ds => (aRng ds).bind fun xs => some (xs, q.2)
  | .itr a, A => (aV io (F.o a) A).bind fun r => (aItems r.2.1).bind fun xs => some (xs, r.2.2)
  | _, _ => none
def ab (D : Dra) (io : List Nat) (K : KA) : Nat → AF
  | 0 => ⟨fun _ _ => none, fun _ _ => none, fun _ _ => none⟩
  | n + 1 => ⟨aO D io K (ab D io K n), aTest io (ab D io K n), aIt io (ab D io K n)⟩
/-! ## statements -/
structure AO where
  nx : Option AE
  bk : Option AE
  ct : Option AE
  rt : Option LS
  rf : Option LS
def noO : AO := ⟨none, none, none, none, none⟩
def joinO (x y : AO) : Option AO := (jO joinE x.nx y.nx).bind fun a => (jO joinE x.bk y.bk).bind fun b => (jO joinE x.ct y.ct).bind fun c => (jO joinL x.rt y.rt).bind fun d => (jO joinL x.rf y.rf).bind fun e => some ⟨a, b, c, d, e⟩
def aSq (S : RS → AE → Option AO) : List RS → AE → Option AO
  | [], A => some { noO with nx := some A }
  | s :: ss, A => (S s A).bind fun o => match o.nx with
    | none => some o
    | some A1 => (aSq S ss A1).bind fun o2 => joinO { o with nx := none } o2
/-- a turn of a walk: what goes on, what leaves -/
def fT (g : RG) (b : AE → Option AO) (a : AV) (A : AE) : Option (Option AE × AO) :=
  (aTg g a A).bind fun A0 => (b A0).bind fun o => (jO joinE o.nx o.ct).bind fun n => some (n, ⟨o.bk, none, none, o.rt, o.rf⟩)
def fLs (f : AV → AE → Option (Option AE × AO)) : List AV → AE → Option AO
  | [], A => some { noO with nx := some A }
  | a :: as, A => (f a A).bind fun z => match z.1 with
    | none => some z.2
    | some A1 => (fLs f as A1).bind fun o => joinO z.2 o
def fRp (f : AV → AE → Option (Option AE × AO)) (a : AV) : Nat → Nat → AE → Option AO
  | _, 0, A => some { noO with nx := some A }
  | lo, hi + 1, A => (f a A).bind fun z => match z.1 with
    | none => if lo = 0 then joinO z.2 { noO with nx := some A } else some z.2
    | some A1 => if leE A1 A then joinO z.2 { noO with nx := some A } else
      (fRp f a (lo - 1) hi A1).bind fun o => (joinO z.2 o).bind fun o2 => if lo = 0 then joinO o2 { noO with nx := some A } else some o2
def fAll (f : AV → AE → Option (Option AE × AO)) (i : AI) (A : AE) : Option AO := match i with
  | .ls as => fLs f as A
  | .rp lo hi a => fRp f a lo hi A
def aWh (t : AE → Option AT) (b : AE → Option AO) : Nat → AE → Option AO
  | 0, _ => none
  | n + 1, A => (t A).bind fun z => match z.1 with
    | none => match z.2 with
      | some E => some { noO with nx := some E }
      | none => none
    | some T => (b T).bind fun o => (jO joinE o.nx o.ct).bind fun m =>
      let left : AO := ⟨o.bk, none, none, o.rt, o.rf⟩
      (joinO left { noO with nx := z.2 }).bind fun l2 => match m with
      | none => some l2
      | some A1 => (aWh t b n A1).bind fun o2 => joinO l2 o2
def aS1 (D : Dra) (io : List Nat) (K : KA) (n : Nat) (S : RS → AE → Option AO) : RS → AE → Option AO
  | .nx, A => some { noO with nx := some A }
  | .bk, A => some { noO with bk := some A }
  | .ct, A => some { noO with ct := some A }
  | .ex a, A => ((ab D io K n).o a A).map fun r => { noO with nx := some r.2.2 }
  | .rtN, A => some { noO with rf := some (.con .none, A) }
  | .rt a, A => ((ab D io K n).o a A).bind fun r => match r.1 with
    | .slot i => if io.contains i then none else match r.2.2[i]? with
      | some (some (true, x)) => some { noO with rt := some (x, r.2.2) }
      | _ => none
    | .val x => if r.2.1 then some { noO with rt := some (x, r.2.2) } else some { noO with rf := some (x, r.2.2) }
  | .iff t a b, A => ((ab D io K n).t t A).bind fun z => match z.1, z.2 with
    | some T, some E => (aSq S a T).bind fun o => (aSq S b E).bind fun o2 => joinO o o2
    | some T, none => aSq S a T
    | none, some E => aSq S b E
    | none, none => none
  | .wh w t b, A => aWh ((ab D io K n).t t) (aSq S b) (min w 60) A
  | .for it g b, A => ((ab D io K n).i it A).bind fun r => fAll (fT g (aSq S b)) r.1 r.2
  | .set i a, A => (aV io ((ab D io K n).o a) A).map fun r => { noO with nx := some (r.2.2.set i (some (r.1, r.2.1))) }
  | .setL i is it g t v, A => (aLcL io (ab D io K n) is it g t v A).map fun q => { noO with nx := some (q.2.set i (some (true, q.1))) }
  | .par i j a b, A => (aV io ((ab D io K n).o a) A).bind fun r => (aV io ((ab D io K n).o b) r.2.2).bind fun q => some { noO with nx := some ((q.2.2.set i (some (false, r.2.1))).set j (some (false, q.2.1))) }
  | .tupG g a, A => (aV io ((ab D io K n).o a) A).bind fun r => (aTg g r.2.1 r.2.2).map fun A1 => { noO with nx := some A1 }
  | .sub a b v, A => (aV io ((ab D io K n).o v) A).bind fun r => ((ab D io K n).o a r.2.2).bind fun z => match z.1 with
    | .slot j => ((ab D io K n).o b z.2.2).bind fun q => (rdA q.2.2 q.1).bind fun k => match q.2.2[j]? with
      | some (some (true, d)) => (aSetIx d k r.2.1).map fun d' => { noO with nx := some (q.2.2.set j (some (true, d'))) }
      | _ => none
    | _ => none
  | .aug i op a, A => match A[i]? with
    | some (some (false, x)) => ((ab D io K n).o a A).bind fun r => match r.1 with
      | .val y => (aAug op x y).map fun z => { noO with nx := some (r.2.2.set i (some (false, z))) }
      | _ => none
    | _ => none
def aS (D : Dra) (io : List Nat) (K : KA) (n : Nat) : Nat → RS → AE → Option AO
  | 0 => fun _ _ => none
  | m + 1 => aS1 D io K n (aS D io K n m)
/-- a def's call -/
def afterA : Nat → List Bool → List AV → AE → Option (List AV)
  | _, [], [], _ => some []
  | j, true :: io, _ :: ds, A => match A[j]? with
    | some (some (true, d)) => (afterA (j + 1) io ds A).map (d :: ·)
    | _ => none
  | j, false :: io, d :: ds, A => (afterA (j + 1) io ds A).map (d :: ·)
  | _, _, _, _ => none
def argA (io : List Bool) (as : List AV) (N : Nat) : AE := (io.zip as).map some ++ List.replicate (N - as.length) none
def ixs : Nat → List Bool → List Nat := ioIx
def aEnd (io : List Bool) (as : List AV) (o : AO) : Option (Bool × AV × List AV) :=
  (jO joinL o.rf (o.nx.map fun A => (.con .none, A))).bind fun f =>
  match o.rt, f with
  | some r, none => (afterA 0 io as r.2).map fun as' => (true, r.1, as')
  | none, some r => (afterA 0 io as r.2).map fun as' => (false, r.1, as')
  | _, _ => none
def aRun (D : Dra) (K : KA) (d : RD) (as : List AV) : Option (Bool × AV × List AV) :=
  if as.length = d.io.length then (aSq (aS D (ioIx 0 d.io) K 40 40) d.body (argA d.io as d.N)).bind (aEnd d.io as) else none
/-- calls by the text, as deep as told -/
def aK (D : Dra) (K : KA) (ds : List RD) : Nat → KA
  | 0 => K
  | n + 1 => fun f as => match K f as with
    | some r => some r
    | none => (ds[f]?).bind fun d => aRun D (aK D K ds n) d as
end Pf


namespace Pf
open PySem PySem.Spec L2
section
variable {M : Am} {io : List Nat} {Γ : Sem3} {nm : Nat → Str} {F : AF} {G : DF} {K : KA} {D : Dra}
def GOp (M : Am) : AOp → Opn → Prop
  | .slot i, .slot j => i = j
  | .val a, .val d => Ga M a d
  | _, _ => False
def GR (M : Am) (r : AR) (q : Opn × Bool × En) : Prop := r.2.1 = q.2.1 ∧ GE M r.2.2 q.2.2 ∧ GOp M r.1 q.1
def GT (M : Am) (z : AT) (k : Bool) (ρ : En) : Prop := ∃ A, (if k then z.1 else z.2) = some A ∧ GE M A ρ
def SO (M : Am) (f : AE → Option AR) (f' : Ex) : Prop := ∀ A r, f A = some r → ∀ ρ, GE M A ρ → ∃ q, f' ρ = some q ∧ GR M r q
def ST (M : Am) (f : AE → Option AT) (f' : Tx) : Prop := ∀ A z, f A = some z → ∀ ρ, GE M A ρ → ∃ k ρ', f' ρ = some (k, ρ') ∧ GT M z k ρ'
def SI (M : Am) (f : AE → Option (AI × AE)) (f' : Ix) : Prop := ∀ A r, f A = some r → ∀ ρ, GE M A ρ → ∃ q, f' ρ = some q ∧ GI M r.1 q.1 ∧ GE M r.2 q.2
def SV (M : Am) (f : AE → Option (Bool × AV × AE)) (f' : Vx) : Prop := ∀ A r, f A = some r → ∀ ρ, GE M A ρ → ∃ q, f' ρ = some q ∧ r.1 = q.1 ∧ Ga M r.2.1 q.2.1 ∧ GE M r.2.2 q.2.2
structure SoF (M : Am) (F : AF) (G : DF) : Prop where
  o : ∀ e, SO M (F.o e) (G.o e)
  t : ∀ e, ST M (F.t e) (G.t e)
  i : ∀ e, SI M (F.i e) (G.i e)
def KOk (M : Am) (Γ : Sem3) (nm : Nat → Str) (K : KA) : Prop := ∀ f as r, K f as = some r → ∀ ds, Gas M as ds → ∃ d ds', Γ (nm f) ds = some (r.1, d, ds') ∧ Ga M r.2.1 d ∧ Gas M r.2.2 ds'
def DrOk (M : Am) (Γ : Sem3) (nm : Nat → Str) (D : Dra) : Prop := ∀ f, D.is f = true → ∀ (k : Nat) (p : PyData) (m : Int), k + 1 ≤ D.B → M.Pen k p → 1 ≤ m → m < 1000000 → ∃ (v : Int) (p' : PyData), Γ (nm f) [p, .int m] = some (false, .int v, [p', .int m]) ∧ 0 ≤ v ∧ v < m ∧ M.Pen (k + 1) p'
/-! ### slots -/
theorem GE.topset : ∀ {A : AE} {ρ : En} {i : Nat} {w : Option (Bool × PyData)}, GE M A ρ → A[i]? = some none → GE M A (ρ.set i w)
  | _, _, _, _, .nil, h => by simp at h
  | _, _, 0, _, .top t, _ => .top t
  | _, _, i + 1, _, .top t, h => .top (t.topset (by simpa using h))
  | _, _, 0, _, .val _ _, h => by simp at h
  | _, _, i + 1, _, .val g t, h => .val g (t.topset (by simpa using h))
theorem GE.frz {A : AE} {ρ : En} (g : GE M A ρ) (i : Nat) : GE M (frzA A i) (frz ρ i) := by
  unfold frzA
  split
  · rename_i a ha
    obtain ⟨d, h1, h2⟩ := g.get ha
    unfold Pf.frz
    rw [h1]
    exact g.set i h2
  · rename_i hn
    unfold Pf.frz
    split
    · rename_i d hd
      cases hA : A[i]? with
      | none =>
        have h1 := List.getElem?_eq_none_iff.mp hA
        have h2 := (List.getElem?_eq_some_iff.mp hd).1
        have := g.length
        omega
      | some x =>
        cases x with
        | none => exact g.topset hA
        | some x =>
          obtain ⟨b, a⟩ := x
          obtain ⟨d', h1, h2⟩ := g.get hA
          rw [hd] at h1
          cases h1
          exact (hn a hA).elim
    · exact g
theorem GE.frzs {A : AE} {ρ : En} (g : GE M A ρ) : ∀ is : List Nat, GE M (frzsA A is) (frzs ρ is)
  | [] => g
  | i :: is => (g.frzs is).frz i
theorem GE.wipe {A : AE} {ρ : En} (g : GE M A ρ) : ∀ is : List Nat, GE M (wipeA A is) (wipeE ρ is)
  | [] => g
  | i :: is => (g.wipe is).drop i none
theorem GE.back {A0 A : AE} {ρ0 ρ : En} (g0 : GE M A0 ρ0) (g : GE M A ρ) : ∀ is : List Nat, GE M (backA A0 A is) (backE ρ0 ρ is)
  | [] => g
  | i :: is => by
    have ih := GE.back g0 g is
    unfold backA backE
    have hl := g0.length
    cases h : A0[i]? with
    | none =>
      have h1 := List.getElem?_eq_none_iff.mp h
      rw [List.getElem?_eq_none (by omega)]
      exact ih
    | some w =>
      have h1 := (List.getElem?_eq_some_iff.mp h).1
      rw [List.getElem?_eq_getElem (by omega : i < ρ0.length)]
      dsimp only
      cases w with
      | none => exact ih.drop i _
      | some w =>
        obtain ⟨b, a⟩ := w
        obtain ⟨d, h2, h3⟩ := g0.get h
        rw [List.getElem?_eq_getElem (by omega : i < ρ0.length)] at h2
        rw [Option.some.inj h2]
        exact ih.set i h3
theorem rdA_ok {A : AE} {ρ : En} {o : AOp} {q : Opn} {a : AV} (h : rdA A o = some a) (g : GE M A ρ) (go : GOp M o q) : ∃ d, rdO ρ q = some d ∧ Ga M a d := by
  cases o with
  | val x =>
    cases q with
    | slot j => exact go.elim
    | val d => cases h; exact ⟨d, rfl, go⟩
  | slot i =>
    cases q with
    | val d => exact go.elim
    | slot j =>
      cases (show i = j from go)
      simp only [rdA] at h
      split at h
      · rename_i b x hx
        cases h
        obtain ⟨d, h1, h2⟩ := g.get hx
        exact ⟨d, by simp only [rdO, h1], h2⟩
      · cases h
theorem resA_ok {A : AE} {ρ : En} {a : AV} {r : AR} {d : PyData} (h : resA A a = some r) (g : GE M A ρ) (ga : Ga M a d) : GR M r (resD ρ d) := by
  obtain ⟨b, h1, rfl⟩ := map_some h
  exact ⟨(nbA_ok h1 ga).symm, g, ga⟩
theorem aV_ok {f : AE → Option AR} {f' : Ex} (S : SO M f f') : SV M (aV io f) (xV io f') := by
  intro A r h ρ g
  obtain ⟨x, h1, h2⟩ := bind_some h
  obtain ⟨q, h3, h4, h5, h6⟩ := S A x h1 ρ g
  obtain ⟨o, b, A1⟩ := x
  obtain ⟨o', b', ρ1⟩ := q
  cases o with
  | val a =>
    cases o' with
    | slot j => exact h6.elim
    | val d =>
      cases h2
      refine ⟨(b', d, ρ1), ?_, h4, h6, h5⟩
      simp only [xV, h3, Option.bind_some]
  | slot i =>
    cases o' with
    | val d => exact h6.elim
    | slot j =>
      cases (show i = j from h6)
      obtain ⟨hio, h2⟩ := ite_some' h2
      dsimp only at h2
      split at h2
      · rename_i b2 a ha
        cases h2
        obtain ⟨d, g1, g2⟩ := h5.get ha
        refine ⟨(false, d, Pf.frz ρ1 i), ?_, rfl, g2, h5.frz i⟩
        simp only [xV, h3, Option.bind_some, hio, g1]
        rfl
      · cases h2
theorem aVs_ok (S : ∀ e, SO M (F.o e) (G.o e)) : ∀ (es : List RE) (A : AE) (r : List AV × AE), aVs io F.o es A = some r → ∀ ρ, GE M A ρ → ∃ q, xVs (es.map fun e => xV io (G.o e)) ρ = some q ∧ Gas M r.1 q.1 ∧ GE M r.2 q.2
  | [], A, r, h, ρ, g => by cases h; exact ⟨([], ρ), rfl, .nil, g⟩
  | e :: es, A, r, h, ρ, g => by
    obtain ⟨x, h1, h2⟩ := bind_some h
    obtain ⟨y, h3, h4⟩ := bind_some h2
    cases h4
    obtain ⟨q, q1, _, q2, q3⟩ := aV_ok (io := io) (S e) A x h1 ρ g
    obtain ⟨p, p1, p2, p3⟩ := aVs_ok S es x.2.2 y h3 q.2.2 q3
    exact ⟨(q.2.1 :: p.1, p.2), by simp only [List.map_cons, xVs, q1, Option.bind_some, p1], .cons q2 p2, p3⟩
inductive GOps (M : Am) : List AOp → List Opn → Prop
  | nil : GOps M [] []
  | cons {o : AOp} {q : Opn} {os : List AOp} {qs : List Opn} : GOp M o q → GOps M os qs → GOps M (o :: os) (q :: qs)
theorem aOs_ok (S : ∀ e, SO M (F.o e) (G.o e)) : ∀ (es : List RE) (A : AE) (r : List AOp × AE), aOs F.o es A = some r → ∀ ρ, GE M A ρ → ∃ q, xOs (es.map G.o) ρ = some q ∧ GOps M r.1 q.1 ∧ GE M r.2 q.2
  | [], A, r, h, ρ, g => by cases h; exact ⟨([], ρ), rfl, .nil, g⟩
  | e :: es, A, r, h, ρ, g => by
    obtain ⟨x, h1, h2⟩ := bind_some h
    obtain ⟨y, h3, h4⟩ := bind_some h2
    cases h4
    obtain ⟨q, q1, _, q2, q3⟩ := S e A x h1 ρ g
    obtain ⟨p, p1, p2, p3⟩ := aOs_ok S es x.2.2 y h3 q.2.2 q2
    exact ⟨(q.1 :: p.1, p.2), by simp only [List.map_cons, xOs, q1, Option.bind_some, p1], .cons q3 p2, p3⟩
theorem rdAs_ok {A : AE} {ρ : En} (g : GE M A ρ) : ∀ {os : List AOp} {qs : List Opn} {as : List AV}, rdAs A os = some as → GOps M os qs → ∃ ds, rdOs ρ qs = some ds ∧ Gas M as ds
  | [], _, _, h, .nil => by cases h; exact ⟨[], rfl, .nil⟩
  | o :: os, _, _, h, .cons g1 t => by
    obtain ⟨a, h1, h2⟩ := bind_some h
    obtain ⟨as, h3, h4⟩ := bind_some h2
    cases h4
    obtain ⟨d, d1, d2⟩ := rdA_ok h1 g g1
    obtain ⟨ds, e1, e2⟩ := rdAs_ok g h3 t
    exact ⟨d :: ds, by simp only [rdOs, d1, Option.bind_some, e1], .cons d2 e2⟩
/-! ### one of two -/
theorem GOp.jn {a b : AV} {d : PyData} (h : Ga M a d ∨ Ga M b d) : Ga M (join jF a b) d := h.elim (join_ok _ _ _ _).1 (join_ok _ _ _ _).2
theorem joinR_ok {r q s : AR} {z : Opn × Bool × En} (h : joinR r q = some s) (g : GR M r z ∨ GR M q z) : GR M s z := by
  unfold joinR at h
  obtain ⟨hb, h⟩ := ite_some h
  rw [beq_iff_eq] at hb
  obtain ⟨A, h1, h2⟩ := bind_some h
  obtain ⟨o1, b1, A1⟩ := r
  obtain ⟨o2, b2, A2⟩ := q
  obtain ⟨oz, bz, ρz⟩ := z
  cases hb
  have hA : GE M A ρz := by
    rcases g with g | g
    · exact (joinE_ok h1).1 g.2.1
    · exact (joinE_ok h1).2 g.2.1
  have hb : b1 = bz := by rcases g with g | g <;> exact g.1
  dsimp only at h2
  split at h2
  · cases h2
    cases oz with
    | slot j => rcases g with g | g <;> exact g.2.2.elim
    | val d => exact ⟨hb, hA, GOp.jn (g.elim (fun g => .inl g.2.2) fun g => .inr g.2.2)⟩
  · split at h2
    · rename_i e
      cases h2
      cases oz with
      | val d => rcases g with g | g <;> exact g.2.2.elim
      | slot j =>
        refine ⟨hb, hA, ?_⟩
        rcases g with g | g
        · exact g.2.2
        · exact e.trans g.2.2
    · cases h2
  · cases h2
theorem jO_l {α : Type} {f : α → α → Option α} {x y z : Option α} {a : α} {P : α → Prop} (hf : ∀ a b c, f a b = some c → P a → P c) (h : jO f x y = some z) (e : x = some a) (p : P a) : ∃ c, z = some c ∧ P c := by
  subst e
  cases y with
  | none => cases h; exact ⟨a, rfl, p⟩
  | some b =>
    obtain ⟨c, h1, rfl⟩ := map_some h
    exact ⟨c, rfl, hf a b c h1 p⟩
theorem jO_r {α : Type} {f : α → α → Option α} {x y z : Option α} {b : α} {P : α → Prop} (hf : ∀ a b c, f a b = some c → P b → P c) (h : jO f x y = some z) (e : y = some b) (p : P b) : ∃ c, z = some c ∧ P c := by
  subst e
  cases x with
  | none => cases h; exact ⟨b, rfl, p⟩
  | some a =>
    obtain ⟨c, h1, rfl⟩ := map_some h
    exact ⟨c, rfl, hf a b c h1 p⟩
theorem aBr_ok {z : AT} {f g : AE → Option AR} {f' g' : Ex} (Sf : SO M f f') (Sg : SO M g g') {r : AR} (h : aBr z.1 z.2 f g = some r) {k : Bool} {ρ : En} (gt : GT M z k ρ) : ∃ q, (if k then f' ρ else g' ρ) = some q ∧ GR M r q := by
  obtain ⟨A, h1, h2⟩ := gt
  obtain ⟨T, E⟩ := z
  cases k with
  | true =>
    simp only [if_true] at h1 ⊢
    subst h1
    cases E with
    | none => exact Sf A r h ρ h2
    | some B =>
      obtain ⟨x, e1, h⟩ := bind_some h
      obtain ⟨y, e2, h⟩ := bind_some h
      obtain ⟨q, q1, q2⟩ := Sf A x e1 ρ h2
      exact ⟨q, q1, joinR_ok h (.inl q2)⟩
  | false =>
    simp only [Bool.false_eq_true, if_false] at h1 ⊢
    subst h1
    cases T with
    | none => exact Sg A r h ρ h2
    | some B =>
      obtain ⟨x, e1, h⟩ := bind_some h
      obtain ⟨y, e2, h⟩ := bind_some h
      obtain ⟨q, q1, q2⟩ := Sg A y e2 ρ h2
      exact ⟨q, q1, joinR_ok h (.inr q2)⟩
theorem aAnd_ok (S : ∀ e, SO M (F.o e) (G.o e)) : ∀ es : List RE, SO M (aAnd F.o false es) (xAnd (es.map G.o))
  | [] => fun A r h => by cases h
  | [e] => S e
  | e :: e2 :: es => fun A r h ρ g => by
    obtain ⟨x, h1, h⟩ := bind_some h
    obtain ⟨d, h2, h⟩ := bind_some h
    obtain ⟨o, h3, h⟩ := bind_some h
    obtain ⟨q, q1, q2⟩ := S e A x h1 ρ g
    obtain ⟨y, y1, y2⟩ := rdA_ok h2 q2.2.1 q2.2.2
    obtain ⟨b, b1, b2⟩ := aTru_ok h3 y2
    have main : xAnd ((e :: e2 :: es).map G.o) ρ = if b then xAnd ((e2 :: es).map G.o) q.2.2 else some q := by
      simp only [List.map_cons, xAnd, q1, Option.bind_some, y1, b1]
    rw [main]
    cases o with
    | some k =>
      rw [b2 k rfl]
      cases k with
      | true => exact aAnd_ok S (e2 :: es) _ _ h _ q2.2.1
      | false => cases h; exact ⟨q, rfl, q2⟩
    | none =>
      obtain ⟨w, w1, h⟩ := bind_some h
      cases b with
      | true =>
        obtain ⟨q', q3, q4⟩ := aAnd_ok S (e2 :: es) _ _ w1 _ q2.2.1
        exact ⟨q', q3, joinR_ok h (.inr q4)⟩
      | false => exact ⟨q, rfl, joinR_ok h (.inl q2)⟩
theorem aOr_ok (S : ∀ e, SO M (F.o e) (G.o e)) : ∀ es : List RE, SO M (aAnd F.o true es) (xOr (es.map G.o))
  | [] => fun A r h => by cases h
  | [e] => S e
  | e :: e2 :: es => fun A r h ρ g => by
    obtain ⟨x, h1, h⟩ := bind_some h
    obtain ⟨d, h2, h⟩ := bind_some h
    obtain ⟨o, h3, h⟩ := bind_some h
    obtain ⟨q, q1, q2⟩ := S e A x h1 ρ g
    obtain ⟨y, y1, y2⟩ := rdA_ok h2 q2.2.1 q2.2.2
    obtain ⟨b, b1, b2⟩ := aTru_ok h3 y2
    have main : xOr ((e :: e2 :: es).map G.o) ρ = if !b then xOr ((e2 :: es).map G.o) q.2.2 else some q := by
      simp only [List.map_cons, xOr, q1, Option.bind_some, y1, b1]
    rw [main]
    cases o with
    | some k =>
      rw [b2 k rfl]
      cases k with
      | false => exact aOr_ok S (e2 :: es) _ _ h _ q2.2.1
      | true => cases h; exact ⟨q, rfl, q2⟩
    | none =>
      obtain ⟨w, w1, h⟩ := bind_some h
      cases b with
      | false =>
        obtain ⟨q', q3, q4⟩ := aOr_ok S (e2 :: es) _ _ w1 _ q2.2.1
        exact ⟨q', q3, joinR_ok h (.inr q4)⟩
      | true => exact ⟨q, rfl, joinR_ok h (.inl q2)⟩
theorem aTan_ok (S : ∀ e, ST M (F.t e) (G.t e)) : ∀ es : List RE, ST M (aTan F.t es) (tAn (es.map G.t))
  | [] => fun A r h => by cases h
  | [e] => S e
  | e :: e2 :: es => fun A r h ρ g => by
    obtain ⟨x, h1, h⟩ := bind_some h
    obtain ⟨k, ρ1, q1, B, q2, q3⟩ := S e A x h1 ρ g
    have main : tAn ((e :: e2 :: es).map G.t) ρ = if k then tAn ((e2 :: es).map G.t) ρ1 else some (k, ρ1) := by
      simp only [List.map_cons, tAn, q1, Option.bind_some]
    rw [main]
    obtain ⟨T, E⟩ := x
    cases T with
    | none =>
      cases h
      cases k with
      | true => cases q2
      | false => exact ⟨false, ρ1, rfl, B, q2, q3⟩
    | some A1 =>
      obtain ⟨w, w1, h⟩ := bind_some h
      obtain ⟨z, z1, rfl⟩ := map_some h
      cases k with
      | true =>
        cases q2
        obtain ⟨k', ρ', a1, C, a2, a3⟩ := aTan_ok S (e2 :: es) _ _ w1 _ q3
        refine ⟨k', ρ', a1, ?_⟩
        cases k' with
        | true => exact ⟨C, a2, a3⟩
        | false =>
          obtain ⟨c, c1, c2⟩ := jO_r (P := fun A => GE M A ρ') (fun a b c hj p => (joinE_ok hj).2 p) z1 (show w.2 = some C from a2) a3
          exact ⟨c, c1, c2⟩
      | false =>
        obtain ⟨c, c1, c2⟩ := jO_l (P := fun A => GE M A ρ1) (fun a b c hj p => (joinE_ok hj).1 p) z1 (show E = some B from q2) q3
        exact ⟨false, ρ1, rfl, c, c1, c2⟩
theorem aTor_ok (S : ∀ e, ST M (F.t e) (G.t e)) : ∀ es : List RE, ST M (aTor F.t es) (tOrr (es.map G.t))
  | [] => fun A r h => by cases h
  | [e] => S e
  | e :: e2 :: es => fun A r h ρ g => by
    obtain ⟨x, h1, h⟩ := bind_some h
    obtain ⟨k, ρ1, q1, B, q2, q3⟩ := S e A x h1 ρ g
    have main : tOrr ((e :: e2 :: es).map G.t) ρ = if !k then tOrr ((e2 :: es).map G.t) ρ1 else some (k, ρ1) := by
      simp only [List.map_cons, tOrr, q1, Option.bind_some]
    rw [main]
    obtain ⟨T, E⟩ := x
    cases E with
    | none =>
      cases h
      cases k with
      | false => cases q2
      | true => exact ⟨true, ρ1, rfl, B, q2, q3⟩
    | some A1 =>
      obtain ⟨w, w1, h⟩ := bind_some h
      obtain ⟨z, z1, rfl⟩ := map_some h
      cases k with
      | false =>
        cases q2
        obtain ⟨k', ρ', a1, C, a2, a3⟩ := aTor_ok S (e2 :: es) _ _ w1 _ q3
        refine ⟨k', ρ', a1, ?_⟩
        cases k' with
        | false => exact ⟨C, a2, a3⟩
        | true =>
          obtain ⟨c, c1, c2⟩ := jO_r (P := fun A => GE M A ρ') (fun a b c hj p => (joinE_ok hj).2 p) z1 (show w.1 = some C from a2) a3
          exact ⟨c, c1, c2⟩
      | true =>
        obtain ⟨c, c1, c2⟩ := jO_l (P := fun A => GE M A ρ1) (fun a b c hj p => (joinE_ok hj).1 p) z1 (show T = some B from q2) q3
        exact ⟨true, ρ1, rfl, c, c1, c2⟩
theorem kn2_ok {o : Option Bool} {k : Bool} {A : AE} {ρ : En} (h : Kn o k) (g : GE M A ρ) : GT M (kn2 o A) k ρ := by
  cases o with
  | none => exact ⟨A, by cases k <;> rfl, g⟩
  | some c =>
    rw [h c rfl]
    exact ⟨A, by cases c <;> rfl, g⟩
/-! ### what a test tells -/
theorem rng_ok {op : CmpOp} {n x : Int} {b : Bool} (h : cmpD op (.int x) (.int n) = some b) : (∀ l, (opRng op n b).1 = some l → l ≤ x) ∧ (∀ l, (opRng op n b).2 = some l → x ≤ l) ∧ (opNe op b = true → x ≠ n) := by
  have lt : ∀ i j : Int, ltD (.int i) (.int j) = some (decide (i < j)) := ltD_int
  cases op <;> simp only [cmpD, lt, eqD_int, Option.map_some, PySem.W.dataLt_int, Option.some.injEq, inD, isD, reduceCtorEq, Option.map_none] at h
  all_goals subst h
  all_goals
    refine ⟨fun l hl => ?_, fun l hl => ?_, fun hn => ?_⟩
  all_goals
    first
      | (by_cases hx : x < n <;> by_cases hy : n < x <;> by_cases hz : x = n <;> simp_all [opRng, opNe] <;> omega)
theorem loI_le {l x : Int} {o : Option Int} (h1 : l ≤ x) (h2 : ∀ m, o = some m → m ≤ x) : loI l o ≤ x := by
  unfold loI
  split
  · rename_i m
    have := h2 m rfl
    split <;> omega
  · exact h1
theorem hiI_ge {l x : Int} {o : Option Int} (h1 : x ≤ l) (h2 : ∀ m, o = some m → x ≤ m) : x ≤ hiI l o := by
  unfold hiI
  split
  · rename_i m
    have := h2 m rfl
    split <;> omega
  · exact h1
theorem limI_ok {op : CmpOp} {n x l h : Int} {b : Bool} (e : cmpD op (.int x) (.int n) = some b) (h1 : l ≤ x) (h2 : x ≤ h) : (limI op n b l h).1 ≤ x ∧ x ≤ (limI op n b l h).2 := by
  obtain ⟨r1, r2, r3⟩ := rng_ok e
  have a := loI_le h1 r1
  have c := hiI_ge h2 r2
  unfold limI
  dsimp only
  constructor
  · split
    · rename_i hc
      simp only [Bool.and_eq_true, decide_eq_true_eq] at hc
      have := r3 hc.1
      omega
    · exact a
  · split
    · rename_i hc
      simp only [Bool.and_eq_true, decide_eq_true_eq] at hc
      have := r3 hc.1
      omega
    · exact c
def rawLen : PyData → Option Int
  | .list ds => some ds.length
  | .tuple ds => some ds.length
  | .str z => some z.length
  | _ => none
theorem rawLen_of {x : PyData} {m : Int} (h : lenD x = some m) : rawLen x = some m := by
  unfold lenD at h
  split at h
  · exact h
  · exact h
  · split at h
    · exact h
    · cases h
  · cases h
theorem limLen_ok {op : CmpOp} {n m : Int} {b : Bool} {a : AV} {x : PyData} (g : Ga M a x) (hl : rawLen x = some m) (e : cmpD op (.int m) (.int n) = some b) : ∃ a', limLen op n b a = some a' ∧ Ga M a' x := by
  unfold limLen
  have g' := shp_ok g
  split
  · rename_i t l h y es
    rw [es] at g'
    cases g' with
    | @sqL _ _ _ ds g1 g2 g3 =>
      cases (show some ((ds.length : Nat) : Int) = some m from hl)
      obtain ⟨p1, p2⟩ := limI_ok e (l := l) (h := h) (by omega) (by omega)
      dsimp only
      rw [if_pos (by omega)]
      exact ⟨_, rfl, .sqL (by omega) (by omega) g3⟩
    | @sqT _ _ _ ds g1 g2 g3 =>
      cases (show some ((ds.length : Nat) : Int) = some m from hl)
      obtain ⟨p1, p2⟩ := limI_ok e (l := l) (h := h) (by omega) (by omega)
      dsimp only
      rw [if_pos (by omega)]
      exact ⟨_, rfl, .sqT (by omega) (by omega) g3⟩
  · rename_i l h cs es
    rw [es] at g'
    cases g' with
    | @str _ _ _ z g1 g2 g3 =>
      cases (show some ((z.length : Nat) : Int) = some m from hl)
      obtain ⟨p1, p2⟩ := limI_ok e (l := l) (h := h) (by omega) (by omega)
      dsimp only
      rw [if_pos (by omega)]
      exact ⟨_, rfl, .str (by omega) (by omega) g3⟩
  · rename_i t as es
    rw [es] at g'
    have hm : m = as.length := by
      cases g' with
      | exL gg => cases hl; rw [gg.length]
      | exT gg => cases hl; rw [gg.length]
    obtain ⟨p1, p2⟩ := limI_ok e (l := as.length) (h := as.length) (by omega) (by omega)
    dsimp only
    rw [if_pos (by omega)]
    exact ⟨_, rfl, g⟩
  · exact ⟨a, rfl, g⟩
theorem limNone_ok : ∀ (n : Nat) {b : Bool} {a : AV} {x : PyData}, Ga M a x → isNoneD x = b → ∃ a', limNone b n a = some a' ∧ Ga M a' x
  | 0, b, a, x, g, h => ⟨a, rfl, g⟩
  | n + 1, b, a, x, g, h => by
    unfold limNone
    split
    · rename_i y z
      cases g with
      | orl g =>
        obtain ⟨y', h1, h2⟩ := limNone_ok n g h
        rw [h1]
        cases limNone b n z with
        | none => exact ⟨y', rfl, h2⟩
        | some z' => exact ⟨_, rfl, .orl h2⟩
      | orr g =>
        obtain ⟨z', h1, h2⟩ := limNone_ok n g h
        rw [h1]
        cases limNone b n y with
        | none => exact ⟨z', rfl, h2⟩
        | some y' => exact ⟨_, rfl, .orr h2⟩
    · have := isNonA_ok g
      cases hc : isNonA a with
      | none => exact ⟨a, rfl, g⟩
      | some c =>
        rw [hc] at this
        dsimp only
        rw [if_pos (by rw [beq_iff_eq, ← h, this c rfl])]
        exact ⟨a, rfl, g⟩
theorem kind_len {k : Nat} {a : AV} {x : PyData} (hk : kindA k a = true) (g : Ga M a x) (h2 : k = 2 ∨ k = 3 ∨ k = 4) : (k = 2 ∧ ∃ z, x = .str z) ∨ (k = 3 ∧ ∃ ds, x = .list ds) ∨ (k = 4 ∧ ∃ ds, x = .tuple ds) := by
  rcases h2 with rfl | rfl | rfl
  · cases g <;> simp [kindA] at hk
    exact .inl ⟨rfl, _, rfl⟩
  · cases g <;> simp [kindA] at hk
    · exact .inr (.inl ⟨rfl, _, rfl⟩)
    · exact .inr (.inl ⟨rfl, _, rfl⟩)
  · cases g <;> simp [kindA] at hk
    · exact .inr (.inr ⟨rfl, _, rfl⟩)
    · exact .inr (.inr ⟨rfl, _, rfl⟩)
theorem set_self {ρ : En} {i : Nat} {w : Option (Bool × PyData)} (h : ρ[i]? = some w) : ρ.set i w = ρ := by
  refine List.ext_getElem? fun j => ?_
  by_cases hj : i = j
  · subst hj
    rw [List.getElem?_set_self (List.getElem?_eq_some_iff.mp h).1, h]
  · rw [List.getElem?_set_ne hj]
theorem eqv_nil (ds : List PyData) : PyData.eqv (.list ds) (.list []) = decide ((ds.length : Int) = 0) ∧ PyData.eqv (.tuple ds) (.tuple []) = decide ((ds.length : Int) = 0) := by
  cases ds with
  | nil => exact ⟨by decide, by decide⟩
  | cons d ds =>
    have h : decide (((d :: ds).length : Int) = 0) = false := decide_eq_false (by simp; omega)
    rw [h]
    constructor
    · simp [PyData.eqv, PyData.eqvAll]
    · simp [PyData.eqv, PyData.eqvAll]
def spY (k : Nat) (d : PyData) : PyData := match k with
  | 0 => match lenD d with
    | some m => .int m
    | none => .none
  | _ => d
def spW (k : Nat) (n : Int) : PyData := match k with
  | 0 => .int n
  | 1 => .int n
  | 2 => .str ⟨#[]⟩
  | 3 => .list []
  | 4 => .tuple []
  | _ => .none
theorem limSp_ok {k : Nat} {op : CmpOp} {n : Int} {b : Bool} {a : AV} {d x : PyData} (g : Ga M a d) (hx : x = spY k d) (h0 : k = 0 → (lenD d).isSome = true)
    (e : cmpD op x (spW k n) = some b) : ∃ a', limSp k op n b a = some a' ∧ Ga M a' d := by
  have two : ∀ k, (k = 2 ∨ k = 3 ∨ k = 4) → cmpD op d (spW k n) = some b →
      ∃ a', (if kindA k (shp a) then (match op with | .Eq => limLen .Eq 0 b a | .NotEq => limLen .NotEq 0 b a | _ => some a) else some a) = some a' ∧ Ga M a' d := by
    intro k hk e
    split
    · rename_i hc
      have hl : ∃ m, rawLen d = some m ∧ (op = .Eq → cmpD .Eq (.int m) (.int 0) = some b) ∧ (op = .NotEq → cmpD .NotEq (.int m) (.int 0) = some b) := by
        have both : ∀ (m : Int) (w : PyData) (q : Bool), eqD d w = some q → q = decide (m = 0) → cmpD op d w = some b → (op = .Eq → cmpD .Eq (.int m) (.int 0) = some b) ∧ (op = .NotEq → cmpD .NotEq (.int m) (.int 0) = some b) := by
          intro m w q h1 h2 h3
          constructor
          · rintro rfl
            simp only [cmpD, h1] at h3
            simp only [cmpD, eqD_int, ← h2]
            exact h3
          · rintro rfl
            simp only [cmpD, h1] at h3
            simp only [cmpD, eqD_int, ← h2]
            exact h3
        have none_of : ∀ w, eqD d w = none → cmpD op d w = some b → (op = .Eq → False) ∧ (op = .NotEq → False) := by
          intro w h1 h3
          constructor
          · rintro rfl
            simp only [cmpD, h1] at h3
            cases h3
          · rintro rfl
            simp only [cmpD, h1] at h3
            cases h3
        have fin : ∀ (m : Int) (w : PyData), rawLen d = some m → (∀ q, eqD d w = some q → q = decide (m = 0)) → cmpD op d w = some b → ∃ m, rawLen d = some m ∧ (op = .Eq → cmpD .Eq (.int m) (.int 0) = some b) ∧ (op = .NotEq → cmpD .NotEq (.int m) (.int 0) = some b) := by
          intro m w h1 h2 h3
          cases hq : eqD d w with
          | none =>
            obtain ⟨f1, f2⟩ := none_of w hq h3
            exact ⟨m, h1, fun z => (f1 z).elim, fun z => (f2 z).elim⟩
          | some q => exact ⟨m, h1, both m w q hq (h2 q hq) h3⟩
        rcases kind_len hc (shp_ok g) hk with ⟨rfl, z, rfl⟩ | ⟨rfl, ds, rfl⟩ | ⟨rfl, ds, rfl⟩
        · refine fin z.length (.str ⟨#[]⟩) rfl (fun q hq => ?_) e
          rw [eqD_str] at hq
          cases hq
          cases z with
          | mk c =>
            have : ({ cps := c } : Str).length = c.size := rfl
            rw [this, Bool.eq_iff_iff]
            simp
        · refine fin ds.length (.list []) rfl (fun q hq => ?_) e
          unfold eqD at hq
          split at hq
          · cases hq
            exact (eqv_nil ds).1
          · cases hq
        · refine fin ds.length (.tuple []) rfl (fun q hq => ?_) e
          unfold eqD at hq
          split at hq
          · cases hq
            exact (eqv_nil ds).2
          · cases hq
      obtain ⟨m, m1, m2, m3⟩ := hl
      split
      · exact limLen_ok g m1 (m2 rfl)
      · exact limLen_ok g m1 (m3 rfl)
      · exact ⟨a, rfl, g⟩
    · exact ⟨a, rfl, g⟩
  match k, hx, h0, e, two with
  | 0, hx, h0, e, _ =>
    have h0 := h0 rfl
    cases hl : lenD d with
    | none => rw [hl] at h0; cases h0
    | some m =>
      simp only [spY, hl] at hx
      subst hx
      exact limLen_ok g (rawLen_of hl) e
  | 1, hx, _, e, _ =>
    replace hx : x = d := hx
    subst hx
    have e1 : limSp 1 op n b a = (match shp a with | .int l h => (let p := limI op n b l h; if p.1 ≤ p.2 then some (.int p.1 p.2) else none) | _ => some a) := rfl
    rw [e1]
    split
    · rename_i l h es
      have g' := shp_ok g
      rw [es] at g'
      cases g' with | @int _ _ i g1 g2 =>
        obtain ⟨p1, p2⟩ := limI_ok e g1 g2
        dsimp only
        rw [if_pos (by omega)]
        exact ⟨_, rfl, .int p1 p2⟩
    · exact ⟨a, rfl, g⟩
  | 2, hx, _, e, two => replace hx : x = d := hx; subst hx; exact two 2 (.inl rfl) e
  | 3, hx, _, e, two => replace hx : x = d := hx; subst hx; exact two 3 (.inr (.inl rfl)) e
  | 4, hx, _, e, two => replace hx : x = d := hx; subst hx; exact two 4 (.inr (.inr rfl)) e
  | 5, hx, _, e, _ =>
    replace hx : x = d := hx
    subst hx
    have key : ∀ op', cmpD op' x .none = some b → ∃ a', limSp 5 op' n b a = some a' ∧ Ga M a' x := fun op' e => by
      cases op' with
      | Is =>
        simp only [cmpD, isD, Option.some.injEq] at e
        exact limNone_ok 8 g e
      | IsNot =>
        simp only [cmpD, isD, Option.map_some, Option.some.injEq] at e
        exact limNone_ok 8 g (by rw [← e, Bool.not_not])
      | _ => exact ⟨a, rfl, g⟩
    exact key op e
  | k + 6, hx, _, e, _ =>
    have e1 : limSp (k + 6) op n b a = if kindA (k + 6) (shp a) then (match op with | .Eq => limLen .Eq 0 b a | .NotEq => limLen .NotEq 0 b a | _ => some a) else some a := rfl
    have : kindA (k + 6) (shp a) = false := by cases shp a <;> rfl
    rw [e1, this]
    exact ⟨a, rfl, g⟩
theorem aTsp_ok (k i : Nat) (op : CmpOp) (n : Int) : ST M (aTsp k i op n) (tC1 op (spL k i) (spR k n)) := by
  intro A z h ρ g
  unfold aTsp at h
  split at h
  · rename_i b a hA
    obtain ⟨x, h1, h⟩ := bind_some h
    obtain ⟨o, h2, h⟩ := bind_some h
    cases h
    obtain ⟨d, d1, d2⟩ := g.get hA
    have rd : ∀ o, xS i ρ = some o → o.2.2 = ρ ∧ rdO ρ o.1 = some d := by
      intro o ho
      unfold xS at ho
      rw [d1] at ho
      cases b with
      | true => cases ho; exact ⟨rfl, by simp only [rdO, d1]⟩
      | false => cases ho; exact ⟨rfl, rfl⟩
    obtain ⟨o1, ho1⟩ : ∃ o, xS i ρ = some o := by
      unfold xS
      rw [d1]
      cases b with
      | true => exact ⟨_, rfl⟩
      | false => exact ⟨_, rfl⟩
    obtain ⟨e1, e2⟩ := rd o1 ho1
    -- the left side
    have left : ∃ (q : Opn × Bool × En) (y : PyData), spL k i ρ = some q ∧ q.2.2 = ρ ∧ rdO ρ q.1 = some y ∧ Ga M x y ∧ y = spY k d ∧ (k = 0 → (lenD d).isSome = true) := by
      match k, h1 with
      | 0, h1 =>
        obtain ⟨m, m1, m2⟩ := aLen_ok h1 d2
        refine ⟨(.val (.int m), false, ρ), .int m, ?_, rfl, rfl, m2, by simp only [spY, m1], fun _ => by rw [m1]; rfl⟩
        simp only [spL, xBi, xOs, ho1, Option.bind_some, e1, rdOs, e2, biD, lenB, m1, Option.map_some, resD, newB]
      | k + 1, h1 =>
        cases h1
        exact ⟨o1, d, ho1, e1, e2, d2, rfl, fun z => by cases z⟩
    obtain ⟨q, y, q1, q2, q3, q4, q5, q6⟩ := left
    have right : ∃ (r : Opn × Bool × En) (w : PyData), spR k n ρ = some r ∧ r.2.2 = ρ ∧ rdO ρ r.1 = some w ∧ Ga M (spA k n) w ∧ w = spW k n := by
      match k with
      | 0 => exact ⟨_, _, rfl, rfl, rfl, .con, rfl⟩
      | 1 => exact ⟨_, _, rfl, rfl, rfl, .con, rfl⟩
      | 2 => exact ⟨_, _, rfl, rfl, rfl, .con, rfl⟩
      | 3 => exact ⟨_, _, rfl, rfl, rfl, .con, rfl⟩
      | 4 => exact ⟨_, _, rfl, rfl, rfl, .con, rfl⟩
      | k + 5 => exact ⟨_, _, rfl, rfl, rfl, .con, rfl⟩
    obtain ⟨r, w, r1, r2, r3, r4, r5⟩ := right
    obtain ⟨c, c1, c2⟩ := aCmp_ok h2 q4 r4
    refine ⟨c, ρ, ?_, ?_⟩
    · simp only [tC1, q1, Option.bind_some, q2, r1, r2, q3, r3, c1]
    · rw [r5] at c1
      obtain ⟨a', a1, a2⟩ := limSp_ok (k := k) (n := n) d2 q5 q6 c1
      have gs := g.set i a2 (b := b)
      rw [set_self d1] at gs
      refine ⟨_, ?_, gs⟩
      cases c with
      | true =>
        rw [if_pos rfl]
        have : (o == some false) = false := by
          cases o with
          | none => rfl
          | some v =>
            have := c2 v rfl
            subst this
            rfl
        simp only [this, Bool.false_eq_true, if_false, a1, Option.map_some]
      | false =>
        rw [if_neg (by simp)]
        have : (o == some true) = false := by
          cases o with
          | none => rfl
          | some v =>
            have := c2 v rfl
            subst this
            rfl
        simp only [this, Bool.false_eq_true, if_false, a1, Option.map_some]
  · cases h
end
end Pf


namespace Pf
open PySem PySem.Spec L2
section
variable {M : Am} {io : List Nat} {Γ : Sem3} {nm : Nat → Str} {F : AF} {G : DF} {K : KA} {D : Dra}
/-! ### calls -/
theorem aAgs_ok (S : SoF M F G) : ∀ (as : List (Bool × RE)) (A : AE) (r : List AOp × AE), aAgs io F as A = some r → ∀ ρ, GE M A ρ → ∃ q, xAgs (as.map (agOf io G)) ρ = some q ∧ GOps M r.1 q.1 ∧ GE M r.2 q.2
  | [], A, r, h, ρ, g => by cases h; exact ⟨([], ρ), rfl, .nil, g⟩
  | (true, e) :: es, A, r, h, ρ, g => by
    simp only [aAgs, if_true] at h
    obtain ⟨x, h1, h2⟩ := bind_some h
    obtain ⟨o, b, A1⟩ := x
    obtain ⟨q, q1, q2, q3, q4⟩ := S.o e A _ h1 ρ g
    obtain ⟨o', b', ρ1⟩ := q
    cases o with
    | val a => cases h2
    | slot i =>
      cases o' with
      | val d => exact q4.elim
      | slot j =>
        cases (show i = j from q4)
        obtain ⟨y, h3, h4⟩ := bind_some h2
        cases h4
        obtain ⟨p, p1, p2, p3⟩ := aAgs_ok S es A1 y h3 ρ1 q3
        refine ⟨(.slot i :: p.1, p.2), ?_, .cons rfl p2, p3⟩
        simp only [List.map_cons, agOf, if_true, xAgs, q1, Option.bind_some, p1]
  | (false, e) :: es, A, r, h, ρ, g => by
    simp only [aAgs, Bool.false_eq_true, if_false] at h
    obtain ⟨x, h1, h2⟩ := bind_some h
    obtain ⟨y, h3, h4⟩ := bind_some h2
    cases h4
    obtain ⟨q, q1, _, q2, q3⟩ := aV_ok (io := io) (S.o e) A x h1 ρ g
    obtain ⟨p, p1, p2, p3⟩ := aAgs_ok S es x.2.2 y h3 q.2.2 q3
    refine ⟨(.val q.2.1 :: p.1, p.2), ?_, .cons q2 p2, p3⟩
    simp only [List.map_cons, agOf, Bool.false_eq_true, if_false, xAgs, q1, Option.bind_some, p1]
theorem slots_eq : ∀ {os : List AOp} {qs : List Opn}, GOps M os qs → slotsOf qs = slotsA os
  | _, _, .nil => rfl
  | _, _, .cons (o := o) (q := q) h t => by
    cases o <;> cases q
    · cases (show _ = _ from h)
      simp only [slotsOf, slotsA, slots_eq t]
    · exact h.elim
    · exact h.elim
    · simp only [slotsOf, slotsA, slots_eq t]
theorem own_ok {A : AE} {ρ : En} (g : GE M A ρ) : ∀ {os : List AOp} {qs : List Opn}, GOps M os qs → ownA os A = true → ownAll qs ρ = true
  | _, _, .nil, _ => rfl
  | _, _, .cons (o := o) (q := q) h t, hc => by
    unfold ownA at hc
    unfold ownAll
    simp only [List.all_cons, Bool.and_eq_true] at hc ⊢
    refine ⟨?_, own_ok g t hc.2⟩
    cases o <;> cases q
    · cases (show _ = _ from h)
      have h1 := hc.1
      dsimp only at h1 ⊢
      split at h1
      · rename_i a ha
        obtain ⟨d, d1, _⟩ := g.get ha
        rw [d1]
      · cases h1
    · exact h.elim
    · exact h.elim
    · rfl
theorem put_ok : ∀ {os : List AOp} {qs : List Opn} {as : List AV} {ds : List PyData} {A : AE} {ρ : En}, GOps M os qs → Gas M as ds → GE M A ρ → GE M (putA A os as) (putBack ρ qs ds)
  | _, _, _, _, _, _, .nil, .nil, g => g
  | _, _, _, _, _, _, .nil, .cons _ _, g => g
  | _, _, _, _, _, _, .cons (o := o) (q := q) h t, .nil, g => by
    cases o <;> cases q <;> first | exact g | exact h.elim
  | _, _, _, _, _, _, .cons (o := o) (q := q) h t, .cons ga ta, g => by
    cases o <;> cases q
    · cases (show _ = _ from h)
      simp only [putA, putBack]
      exact put_ok t ta (g.set _ ga)
    · exact h.elim
    · exact h.elim
    · simp only [putA, putBack]
      exact put_ok t ta g
theorem pickS_ok {us ws ds : List AV} {us' ws' ds' : List PyData} {s : Src} {a : AV} (g1 : Gas M us us') (g2 : Gas M ws ws') (g3 : Gas M ds ds') (h : pickS us ws ds s = some a) : ∃ d, pickS us' ws' ds' s = some d ∧ Ga M a d := by
  cases s with
  | pos i => exact g1.get h
  | kw i => exact g2.get h
  | dfl i => exact g3.get h
theorem arr_ok {us ws ds : List AV} {us' ws' ds' : List PyData} (g1 : Gas M us us') (g2 : Gas M ws ws') (g3 : Gas M ds ds') : ∀ {src : List Src} {as : List AV}, arr us ws ds src = some as → ∃ xs, arr us' ws' ds' src = some xs ∧ Gas M as xs
  | [], _, h => by cases h; exact ⟨[], rfl, .nil⟩
  | s :: src, _, h => by
    obtain ⟨a, h1, h2⟩ := bind_some h
    obtain ⟨as, h3, h4⟩ := bind_some h2
    cases h4
    obtain ⟨d, d1, d2⟩ := pickS_ok g1 g2 g3 h1
    obtain ⟨xs, e1, e2⟩ := arr_ok g1 g2 g3 h3
    exact ⟨d :: xs, by simp only [arr, d1, Option.bind_some, e1], .cons d2 e2⟩
theorem aCall_ok (S : SoF M F G) (KK : KOk M Γ nm K) (f : Nat) (dfl : List PyData) (src : List Src) (as : List (Bool × RE)) (ks : List RE) :
    SO M (aCall io K F f dfl src as ks) (xCall Γ (nm f) dfl src (as.map (agOf io G)) (ks.map fun e => xV io (G.o e))) := by
  intro A r h ρ g
  obtain ⟨q, h1, h⟩ := bind_some h
  obtain ⟨z, h2, h⟩ := bind_some h
  obtain ⟨us, h3, h⟩ := bind_some h
  obtain ⟨full, h4, h⟩ := bind_some h
  obtain ⟨hc, h⟩ := ite_some h
  obtain ⟨w, h5, h⟩ := bind_some h
  split at h
  · rename_i hl
    cases h
    simp only [Bool.and_eq_true] at hc
    obtain ⟨p, p1, p2, p3⟩ := aAgs_ok S as A q h1 ρ g
    obtain ⟨y, y1, y2, y3⟩ := aVs_ok S.o ks q.2 z h2 p.2 p3
    obtain ⟨us', u1, u2⟩ := rdAs_ok y3 h3 p2
    obtain ⟨full', f1, f2⟩ := arr_ok u2 y2 Gas.con h4
    obtain ⟨d, ds', k1, k2, k3⟩ := KK f full w h5 full' f2
    refine ⟨(.val d, w.1, putBack y.2 p.1 ds'), ?_, rfl, put_ok p2 k3 y3, k2⟩
    have hl' : ds'.length = full'.length := by rw [← k3.length, ← f2.length]; exact hl
    unfold xCall
    simp only [p1, Option.bind_some, y1, u1, f1, slots_eq p2, hc.1, own_ok y3 p2 hc.2, Bool.and_self, if_true, k1, hl']
  · cases h
/-! ### an item drawn -/
theorem pXA_ok (x : RE) : ∀ A r, pXA x A = some r → ∀ ρ, GE M A ρ → ∃ q, pX x ρ = some q ∧ GR M r q ∧ r.2.2 = A ∧ q.2.2 = ρ ∧ ∀ ρ', (∀ i, r.1 = .slot i → ρ'[i]? = ρ[i]?) → rdO ρ' q.1 = rdO ρ q.1 := by
  intro A r h ρ g
  unfold pXA at h
  split at h
  · rename_i i
    split at h
    · rename_i a ha
      cases h
      obtain ⟨d, d1, d2⟩ := g.get ha
      refine ⟨(.slot i, false, ρ), by simp only [pX, xS, d1], ⟨rfl, g, rfl⟩, rfl, rfl, fun ρ' hp => ?_⟩
      simp only [rdO, hp i rfl]
    · rename_i a ha
      cases h
      obtain ⟨d, d1, d2⟩ := g.get ha
      exact ⟨(.val d, false, ρ), by simp only [pX, xS, d1], ⟨rfl, g, d2⟩, rfl, rfl, fun ρ' hp => rfl⟩
    · cases h
  · cases h
    exact ⟨_, rfl, ⟨rfl, g, .con⟩, rfl, rfl, fun ρ' hp => rfl⟩
  · rename_i i d
    split at h
    · rename_i b a ha
      obtain ⟨c, h1, h2⟩ := bind_some h
      cases h2
      obtain ⟨y, y1, y2⟩ := g.get ha
      obtain ⟨z, z1, z2⟩ := aIx_ok h1 y2 (.con : Ga M (.con d) d)
      refine ⟨(.val z, false, ρ), ?_, ⟨rfl, g, z2⟩, rfl, rfl, fun ρ' hp => rfl⟩
      cases b with
      | true => simp only [pX, xIx, xS, y1, Option.bind_some, xC, rdO, z1]
      | false => simp only [pX, xIx, xS, y1, Option.bind_some, xC, rdO, z1]
    · cases h
  · cases h
theorem itemsOf_ok {a : AV} {lo hi : Nat} {y : AV} {d : PyData} (h : itemsOf a = some (lo, hi, y)) (g : Ga M a d) : ∃ n : Nat, lenD d = some (n : Int) ∧ lo ≤ n ∧ n ≤ hi ∧ ∀ v : Int, 0 ≤ v → v < n → ∃ z, idxD d (.int v) = some z ∧ Ga M y z := by
  unfold itemsOf at h
  replace g := shp_ok g
  have at_in : ∀ {xs : List PyData} {v : Int}, 0 ≤ v → v < xs.length → ∃ hk : v.toNat < xs.length, atI xs v = some xs[v.toNat] := fun {xs v} h0 h1 => by
    refine ⟨by omega, ?_⟩
    unfold atI ixN
    rw [if_pos h0, if_pos h1]
    exact List.getElem?_eq_getElem _
  split at h
  · rename_i t as e
    rw [e] at g
    cases h
    cases g with
    | exL gg =>
      refine ⟨_, rfl, by rw [gg.length]; exact Nat.le_refl _, by rw [gg.length]; exact Nat.le_refl _, fun v h0 h1 => ?_⟩
      obtain ⟨hk, h2⟩ := at_in h0 h1
      exact ⟨_, h2, gg.all (fun b hb d gb => fold1_ok (join_ok jF) hb gb) _ (List.getElem_mem hk)⟩
    | exT gg =>
      refine ⟨_, rfl, by rw [gg.length]; exact Nat.le_refl _, by rw [gg.length]; exact Nat.le_refl _, fun v h0 h1 => ?_⟩
      obtain ⟨hk, h2⟩ := at_in h0 h1
      exact ⟨_, h2, gg.all (fun b hb d gb => fold1_ok (join_ok jF) hb gb) _ (List.getElem_mem hk)⟩
  · rename_i e
    rw [e] at g
    cases h
    cases g with
    | sqL g1 g2 g3 =>
      refine ⟨_, rfl, g1, g2, fun v h0 h1 => ?_⟩
      obtain ⟨hk, h2⟩ := at_in h0 h1
      exact ⟨_, h2, g3 _ (List.getElem_mem hk)⟩
    | sqT g1 g2 g3 =>
      refine ⟨_, rfl, g1, g2, fun v h0 h1 => ?_⟩
      obtain ⟨hk, h2⟩ := at_in h0 h1
      exact ⟨_, h2, g3 _ (List.getElem_mem hk)⟩
  · rename_i l h0 cs e
    rw [e] at g
    split at h
    · cases h
      cases g with
      | @str _ _ _ z g1 g2 g3 =>
        have hz : z.length = z.cps.toList.length := by simp [Str.length]
        have sz : z.length ≤ sizeLine := by rw [sl16]; omega
        refine ⟨z.length, if_pos sz, g1, g2, fun v v0 v1 => ?_⟩
        have hk : v.toNat < z.cps.toList.length := by omega
        refine ⟨.str ⟨#[z.cps.toList[v.toNat]]⟩, ?_, .str (by simp [Str.length]) (by simp [Str.length]) fun c hc => ?_⟩
        · show (if z.length ≤ sizeLine then (atI z.cps.toList v).map fun c => PyData.str ⟨#[c]⟩ else none) = _
          rw [if_pos sz]
          unfold atI ixN
          rw [if_pos v0, if_pos (by omega), Option.bind_some, List.getElem?_eq_getElem hk]
          rfl
        · have : c = z.cps.toList[v.toNat] := by simpa using hc
          subst this
          exact g3 _ (List.getElem_mem hk)
    · cases h
  · cases h
theorem aPick_ok (DD : DrOk M Γ nm D) (x : RE) (f p : Nat) : SO M (aPick D.is D.B x f p) (xIx (pX x) (xCall Γ (nm f) [] [.pos 0, .pos 1] [.mine (xS p), .shr (xV io (xBi .len [pX x]))] [])) := by
  intro A r h ρ g
  obtain ⟨w, h1, h⟩ := bind_some h
  obtain ⟨a, h2, h⟩ := bind_some h
  obtain ⟨⟨lo, hi, y⟩, h3, h⟩ := bind_some h
  obtain ⟨q, q1, q2, q3, q4, q5⟩ := pXA_ok x A w h1 ρ g
  rw [q3] at h2
  have gop := q2.2.2
  obtain ⟨d, d1, d2⟩ := rdA_ok h2 g gop
  obtain ⟨n, n1, n2, n3, n4⟩ := itemsOf_ok h3 d2
  split at h
  · rename_i k hk
    obtain ⟨hc, h⟩ := ite_some h
    cases h
    simp only [Bool.and_eq_true, decide_eq_true_eq] at hc
    obtain ⟨⟨⟨⟨c1, c2⟩, c3⟩, c4⟩, c5⟩ := hc
    obtain ⟨pd, p1, p2⟩ := g.get hk
    cases p2 with | pen p2 =>
      obtain ⟨v, p', e1, e2, e3, e4⟩ := DD f c1 k pd n c4 p2 (by omega) (by omega)
      obtain ⟨z, z1, z2⟩ := n4 v e2 e3
      have nD : newB d = false ∨ True := .inr trivial
      refine ⟨(.val z, false, ρ.set p (some (true, p'))), ?_, rfl, g.set p (.pen e4), z2⟩
      have xp : xS p ρ = some (.slot p, false, ρ) := by simp only [xS, p1]
      have xb : xV io (xBi .len [pX x]) ρ = some (false, .int n, ρ) := by
        simp only [xV, xBi, xOs, q1, Option.bind_some, q4, rdOs, d1, biD, lenB, n1, Option.map_some, resD, newB]
      have own : ownAll [Opn.slot p, Opn.val (.int n)] ρ = true := by simp only [ownAll, List.all_cons, List.all_nil, p1, Bool.and_self]
      have cl : xCall Γ (nm f) [] [.pos 0, .pos 1] [.mine (xS p), .shr (xV io (xBi .len [pX x]))] [] ρ = some (.val (.int v), false, ρ.set p (some (true, p'))) := by
        unfold xCall
        have nb : nodupB (slotsOf [Opn.slot p, Opn.val (.int n)]) = true := rfl
        simp only [xAgs, xp, Option.bind_some, xb, xVs, rdOs, rdO, p1, arr, pickS, List.getElem?_cons_zero, List.getElem?_cons_succ, nb, own, Bool.and_self, if_true, e1, List.length_cons, List.length_nil, putBack]
      have rd : rdO (ρ.set p (some (true, p'))) q.1 = some d := by
        rw [q5 _ fun i hi => ?_, d1]
        rw [hi] at c5
        simp only [decide_eq_true_eq] at c5
        exact List.getElem?_set_ne (Ne.symm c5)
      have rv : ∀ ρ', rdO ρ' (.val (.int v)) = some (.int v) := fun _ => rfl
      unfold xIx
      simp only [q1, Option.bind_some, q4, cl, rd, rv, z1]
  · cases h
/-! ### one of two, by a truth -/
theorem aSel_ok (S : SoF M F G) (a b t : RE) : SO M (aSel io F a b t) (xIx (xLst [xV io (G.o a), xV io (G.o b)]) (xBi .int [xT (G.t t)])) := by
  intro A r h ρ g
  obtain ⟨x, h1, h⟩ := bind_some h
  obtain ⟨y, h2, h⟩ := bind_some h
  obtain ⟨z, h3, h⟩ := bind_some h
  obtain ⟨q, q1, _, q2, q3⟩ := aV_ok (io := io) (S.o a) A x h1 ρ g
  obtain ⟨p, p1, _, p2, p3⟩ := aV_ok (io := io) (S.o b) x.2.2 y h2 q.2.2 q3
  obtain ⟨k, ρ', t1, B, t2, t3⟩ := S.t t y.2.2 z h3 p.2.2 p3
  have main : xIx (xLst [xV io (G.o a), xV io (G.o b)]) (xBi .int [xT (G.t t)]) ρ = some (.val (if k then p.2.1 else q.2.1), false, ρ') := by
    have hl : (xVs [xV io (G.o a), xV io (G.o b)] ρ) = some ([q.2.1, p.2.1], p.2.2) := by simp only [xVs, q1, Option.bind_some, p1]
    have hz : ([q.2.1, p.2.1] : List PyData).length ≤ sizeLine := by rw [sl16]; simp
    have hi : idxD (.list [q.2.1, p.2.1]) (.int (if k then 1 else 0)) = some (if k then p.2.1 else q.2.1) := by cases k <;> rfl
    simp only [xIx, xLst, hl, Option.bind_some, if_pos hz, xBi, xOs, xT, t1, rdOs, rdO, biD, intB, resD, newB, hi]
  refine ⟨_, main, ?_⟩
  obtain ⟨T, E⟩ := z
  cases T with
  | none => cases E with
    | none => cases h
    | some E =>
      cases h
      cases k with
      | true => cases t2
      | false => cases t2; exact ⟨rfl, t3, q2⟩
  | some T => cases E with
    | none =>
      cases h
      cases k with
      | false => cases t2
      | true => cases t2; exact ⟨rfl, t3, p2⟩
    | some E =>
      obtain ⟨C, c1, rfl⟩ := map_some h
      cases k with
      | true => cases t2; exact ⟨rfl, (joinE_ok c1).1 t3, (join_ok _ _ _ _).2 p2⟩
      | false => cases t2; exact ⟨rfl, (joinE_ok c1).2 t3, (join_ok _ _ _ _).1 q2⟩
theorem aEmp_ok (i : Nat) (d : PyData) : SO M (aEmp i d) (xIx (xLst [xV io (xS i), xV io (xC d)]) (xBi .int [xT (tC1 .Eq (xS i) (xC (.str ⟨#[]⟩)))])) := by
  intro A r h ρ g
  unfold aEmp at h
  split at h
  · rename_i a ha
    split at h
    · rename_i l hh cs e
      cases h
      obtain ⟨x, x1, x2⟩ := g.get ha
      replace x2 := shp_ok x2
      rw [e] at x2
      cases x2 with | @str _ _ _ z z1 z2 z3 =>
        have hz : ([.str z, d] : List PyData).length ≤ sizeLine := by rw [sl16]; simp
        have main : xIx (xLst [xV io (xS i), xV io (xC d)]) (xBi .int [xT (tC1 .Eq (xS i) (xC (.str ⟨#[]⟩)))]) ρ = some (.val (if decide (z = ⟨#[]⟩) then d else .str z), false, ρ) := by
          have hi : idxD (.list [.str z, d]) (.int (if decide (z = ⟨#[]⟩) = true then 1 else 0)) = some (if decide (z = ⟨#[]⟩) then d else .str z) := by
            cases decide (z = (⟨#[]⟩ : Str)) <;> rfl
          simp only [xIx, xLst, xVs, xV, xS, x1, Option.bind_some, xC, if_pos hz, xBi, xOs, xT, tC1, rdO, cmpD, eqD_str, rdOs, biD, intB, resD, newB, hi]
        refine ⟨_, main, rfl, g, ?_⟩
        have hlen : z = ⟨#[]⟩ ↔ z.length = 0 := by
          cases z with
          | mk c =>
            have : ({ cps := c } : Str).length = c.size := rfl
            rw [this]
            simp
        show Ga M (if hh = 0 then .con d else if 0 < l then .str l hh cs else join jF (.str 1 hh cs) (.con d)) _
        by_cases h0 : z.length = 0
        · have hc : (if decide (z = ⟨#[]⟩) = true then d else PyData.str z) = d := by rw [decide_eq_true (hlen.mpr h0)]; rfl
          rw [hc]
          by_cases hh0 : hh = 0
          · rw [if_pos hh0]; exact .con
          · rw [if_neg hh0, if_neg (by omega)]
            exact (join_ok _ _ _ _).2 .con
        · have hc : (if decide (z = ⟨#[]⟩) = true then d else PyData.str z) = .str z := by rw [decide_eq_false (fun q => h0 (hlen.mp q))]; rfl
          rw [hc, if_neg (by omega)]
          split
          · exact .str z1 z2 z3
          · exact (join_ok _ _ _ _).1 (.str (by omega) z2 z3)
    · cases h
  · cases h
/-! ### lists made -/
def GS (M : Am) (s : LS) (acc : List PyData) (ρ : En) : Prop := Ga M s.1 (.list acc) ∧ GE M s.2 ρ
theorem pushA_ok {a y c : AV} {acc : List PyData} {d : PyData} (h : pushA a y = some c) (g : Ga M a (.list acc)) (gy : Ga M y d) : acc.length < sizeLine ∧ Ga M c (.list (acc ++ [d])) := by
  unfold pushA at h
  split at h
  · split at h
    · cases h
      cases g with | exL gg => exact ⟨by rw [sl16, ← gg.length]; assumption, .exL (gg.append (.cons gy .nil))⟩
    · cases h
  · split at h
    · cases h
      cases g with | sqL g1 g2 g3 =>
        refine ⟨by rw [sl16]; omega, .sqL (by simp; omega) (by simp; omega) fun w hw => ?_⟩
        rcases List.mem_append.mp hw with hw | hw
        · exact (join_ok _ _ _ _).1 (g3 w hw)
        · rw [List.mem_singleton.mp hw]
          exact (join_ok _ _ _ _).2 gy
    · cases h
  · cases h
theorem joinL_ok {x y z : LS} (h : joinL x y = some z) {acc : List PyData} {ρ : En} : (GS M x acc ρ → GS M z acc ρ) ∧ (GS M y acc ρ → GS M z acc ρ) := by
  obtain ⟨A, h1, rfl⟩ := map_some h
  exact ⟨fun g => ⟨(join_ok _ _ _ _).1 g.1, (joinE_ok h1).1 g.2⟩, fun g => ⟨(join_ok _ _ _ _).2 g.1, (joinE_ok h1).2 g.2⟩⟩
theorem lcT_ok {g : RG} {t : AE → Option AT} {t' : Tx} {v : AE → Option (Bool × AV × AE)} {v' : Vx} {is : List Nat} {a : AV} {s s' : LS} (St : ST M t t') (Sv : SV M v v') (h : lcT g t v is a s = some s') {x : PyData} {xs acc : List PyData} {ρ : En} (gs : GS M s acc ρ) (ga : Ga M a x) :
    ∃ acc' ρ', lcG g.den t' v' is (x :: xs) acc ρ = lcG g.den t' v' is xs acc' ρ' ∧ GS M s' acc' ρ' := by
  obtain ⟨A1, h1, h⟩ := bind_some h
  obtain ⟨z, h2, h⟩ := bind_some h
  obtain ⟨y, h3, h⟩ := bind_some h
  obtain ⟨w, h4, h⟩ := bind_some h
  have h : w = some s' := h
  subst h
  obtain ⟨ρ1, r1, r2⟩ := aTg_ok h1 ga gs.2
  obtain ⟨k, ρ2, k1, B, k2, k3⟩ := St A1 z h2 ρ1 r2
  cases k with
  | true =>
    have k2 : z.1 = some B := k2
    rw [k2] at h3
    obtain ⟨r, h5, h3⟩ := bind_some h3
    obtain ⟨c, h6, h3⟩ := bind_some h3
    obtain ⟨q, q1, _, q2, q3⟩ := Sv B r h5 ρ2 k3
    obtain ⟨p1, p2⟩ := pushA_ok h6 gs.1 q2
    refine ⟨acc ++ [q.2.1], wipeE q.2.2 is, ?_, ?_⟩
    · rw [lcG]
      simp only [r1, Option.bind_some, k1, if_true, q1, if_pos p1]
    · obtain ⟨s2, e1, e2⟩ := jO_l (P := fun s => GS M s (acc ++ [q.2.1]) (wipeE q.2.2 is)) (fun a b c hj p => (joinL_ok hj).1 p) h4 (Option.some.inj h3).symm ⟨p2, q3.wipe is⟩
      cases e1
      exact e2
  | false =>
    have k2 : z.2 = some B := k2
    refine ⟨acc, wipeE ρ2 is, ?_, ?_⟩
    · rw [lcG]
      simp only [r1, Option.bind_some, k1, Bool.false_eq_true, if_false]
    · obtain ⟨s2, e1, e2⟩ := jO_r (P := fun s => GS M s acc (wipeE ρ2 is)) (fun a b c hj p => (joinL_ok hj).2 p) h4 (b := (s.1, wipeA B is)) (by rw [k2]; rfl) ⟨gs.1, k3.wipe is⟩
      cases e1
      exact e2
section
variable {f : AV → LS → Option LS} {g : RG} {t' : Tx} {v' : Vx} {is : List Nat}
theorem lcLs_ok (hf : ∀ a s s', f a s = some s' → ∀ x xs acc ρ, GS M s acc ρ → Ga M a x → ∃ acc' ρ', lcG g.den t' v' is (x :: xs) acc ρ = lcG g.den t' v' is xs acc' ρ' ∧ GS M s' acc' ρ') :
    ∀ (as : List AV) (s s' : LS), lcLs f as s = some s' → ∀ ds acc ρ, Gas M as ds → GS M s acc ρ → ∃ r, lcG g.den t' v' is ds acc ρ = some r ∧ GS M s' r.1 r.2
  | [], s, s', h, _, acc, ρ, .nil, gs => by cases h; exact ⟨(acc, ρ), rfl, gs⟩
  | a :: as, s, s', h, _, acc, ρ, .cons ga t, gs => by
    obtain ⟨s1, h1, h2⟩ := bind_some h
    obtain ⟨acc', ρ', e1, e2⟩ := hf a s s1 h1 _ _ acc ρ gs ga
    obtain ⟨r, r1, r2⟩ := lcLs_ok hf as s1 s' h2 _ acc' ρ' t e2
    exact ⟨r, by rw [e1]; exact r1, r2⟩
theorem lcRp_ok (hf : ∀ a s s', f a s = some s' → ∀ x xs acc ρ, GS M s acc ρ → Ga M a x → ∃ acc' ρ', lcG g.den t' v' is (x :: xs) acc ρ = lcG g.den t' v' is xs acc' ρ' ∧ GS M s' acc' ρ') (a : AV) :
    ∀ (hi lo : Nat) (s s' : LS), lcRp f a lo hi s = some s' → ∀ ds acc ρ, lo ≤ ds.length → ds.length ≤ hi → (∀ d ∈ ds, Ga M a d) → GS M s acc ρ → ∃ r, lcG g.den t' v' is ds acc ρ = some r ∧ GS M s' r.1 r.2
  | 0, lo, s, s', h, ds, acc, ρ, _, h2, _, gs => by
    rw [List.eq_nil_of_length_eq_zero (Nat.le_zero.mp h2)]
    have h : some s = some s' := by simpa [lcRp] using h
    cases h
    exact ⟨(acc, ρ), rfl, gs⟩
  | hi + 1, lo, s, s', h, ds, acc, ρ, h1, h2, h3, gs => by
    simp only [lcRp] at h
    obtain ⟨s1, e1, h⟩ := bind_some h
    obtain ⟨s2, e2, h⟩ := bind_some h
    cases ds with
    | nil =>
      have : lo = 0 := by simpa using h1
      rw [if_pos this] at h
      exact ⟨(acc, ρ), rfl, (joinL_ok h).1 gs⟩
    | cons d ds =>
      obtain ⟨acc', ρ', a1, a2⟩ := hf a s s1 e1 d ds acc ρ gs (h3 d List.mem_cons_self)
      obtain ⟨r, r1, r2⟩ := lcRp_ok hf a hi (lo - 1) s1 s2 e2 ds acc' ρ' (by simp at h1; omega) (by simpa using h2) (fun e he => h3 e (List.mem_cons_of_mem _ he)) a2
      refine ⟨r, by rw [a1]; exact r1, ?_⟩
      split at h
      · exact (joinL_ok h).2 r2
      · cases h; exact r2
end
theorem aLcL_ok (S : SoF M F G) (is : List Nat) (it : RE) (g : RG) (t v : RE) : ∀ A r, aLcL io F is it g t v A = some r → ∀ ρ, GE M A ρ → ∃ q, xLcL is (G.i it) g.den (G.t t) (xV io (G.o v)) ρ = some q ∧ Ga M r.1 (.list q.1) ∧ GE M r.2 q.2 := by
  intro A r h ρ gA
  obtain ⟨x, h1, h⟩ := bind_some h
  obtain ⟨s, h2, h⟩ := bind_some h
  cases h
  obtain ⟨q, q1, q2, q3⟩ := S.i it A x h1 ρ gA
  have gs : GS M (.ex false [], wipeA (frzsA x.2 is) is) [] (wipeE (frzs q.2 is) is) := ⟨.exL .nil, (q3.frzs is).wipe is⟩
  have hf : ∀ a s s', lcT g (F.t t) (aV io (F.o v)) is a s = some s' → ∀ x xs acc ρ, GS M s acc ρ → Ga M a x → ∃ acc' ρ', lcG g.den (G.t t) (xV io (G.o v)) is (x :: xs) acc ρ = lcG g.den (G.t t) (xV io (G.o v)) is xs acc' ρ' ∧ GS M s' acc' ρ' :=
    fun a s s' h x xs acc ρ gs ga => lcT_ok (S.t t) (aV_ok (S.o v)) h gs ga
  have : ∃ r, lcG g.den (G.t t) (xV io (G.o v)) is q.1 [] (wipeE (frzs q.2 is) is) = some r ∧ GS M s r.1 r.2 := by
    obtain ⟨xi, xA⟩ := x
    cases xi with
    | ls as => exact lcLs_ok hf as _ _ h2 _ _ _ q2 gs
    | rp lo hi a => exact lcRp_ok hf a hi lo _ _ h2 _ _ _ q2.1 q2.2.1 q2.2.2 gs
  obtain ⟨w, w1, w2⟩ := this
  exact ⟨(w.1, backE (frzs q.2 is) w.2 is), by unfold xLcL; simp only [q1, Option.bind_some, w1], w2.1, GE.back (q3.frzs is) w2.2 is⟩
end
end Pf


namespace Pf
open PySem PySem.Spec L2
section
variable {M : Am} {io : List Nat} {Γ : Sem3} {nm : Nat → Str} {F : AF} {G : DF} {K : KA} {D : Dra}
theorem aPt_ok (S : SoF M F G) (e : Option RE) : ∀ A r, aO.aPt F e A = some r → ∀ ρ, GE M A ρ → ∃ q, xPt (roOf G e) ρ = some q ∧ PbOk r.1 q.1 ∧ GE M r.2 q.2 := by
  intro A r h ρ g
  cases e with
  | none => cases h; exact ⟨(none, ρ), rfl, rfl, g⟩
  | some e =>
    obtain ⟨x, h1, h⟩ := bind_some h
    obtain ⟨q, q1, q2, q3, q4⟩ := S.o e A x h1 ρ g
    obtain ⟨o, b, A1⟩ := x
    obtain ⟨o', b', ρ1⟩ := q
    cases o with
    | slot i => cases h
    | val a =>
      cases o' with
      | slot j => exact q4.elim
      | val d =>
        dsimp only at h
        split at h
        · rename_i l hh e1
          cases h
          have q4 : Ga M a d := q4
          have q5 := shp_ok q4
          rw [e1] at q5
          cases q5 with | @int _ _ i i1 i2 =>
            exact ⟨(some i, ρ1), by simp only [roOf, xPt, q1, Option.bind_some], ⟨i, rfl, i1, i2⟩, q3⟩
        · cases h
theorem GR.rd {r : AR} {q : Opn × Bool × En} {a : AV} (g : GR M r q) (h : rdA r.2.2 r.1 = some a) : ∃ d, rdO q.2.2 q.1 = some d ∧ Ga M a d := rdA_ok h g.2.1 g.2.2
/-- what was reckoned earlier is read later -/
theorem aO_ok (S : SoF M F G) (KK : KOk M Γ nm K) (DD : DrOk M Γ nm D) (e : RE) : SO M (aO D io K F e) (dO nm io Γ G e) := by
  cases e with
  | c d => exact fun A r h ρ g => by cases h; exact ⟨(.val d, false, ρ), rfl, rfl, g, Ga.con⟩
  | s i =>
    intro A r h ρ g
    simp only [aO] at h
    split at h
    · rename_i a ha
      cases h
      obtain ⟨d, d1, d2⟩ := g.get ha
      exact ⟨(.slot i, false, ρ), by simp only [dO, xS, d1], rfl, g, rfl⟩
    · rename_i a ha
      cases h
      obtain ⟨d, d1, d2⟩ := g.get ha
      exact ⟨(.val d, false, ρ), by simp only [dO, xS, d1], rfl, g, d2⟩
    · cases h
  | bin op a b =>
    intro A r h ρ g
    obtain ⟨x, h1, h⟩ := bind_some h
    obtain ⟨y, h2, h⟩ := bind_some h
    obtain ⟨u, h3, h⟩ := bind_some h
    obtain ⟨v, h4, h⟩ := bind_some h
    obtain ⟨w, h5, h⟩ := bind_some h
    obtain ⟨q, q1, q2⟩ := S.o a A x h1 ρ g
    obtain ⟨p, p1, p2⟩ := S.o b _ y h2 _ q2.2.1
    obtain ⟨d, d1, d2⟩ := rdA_ok h3 p2.2.1 q2.2.2
    obtain ⟨e, e1, e2⟩ := p2.rd h4
    obtain ⟨z, z1, z2⟩ := aBin_ok h5 d2 e2
    exact ⟨_, by simp only [dO, xBin, q1, Option.bind_some, p1, d1, e1, z1], resA_ok h p2.2.1 z2⟩
  | un op a =>
    intro A r h ρ g
    obtain ⟨x, h1, h⟩ := bind_some h
    obtain ⟨u, h3, h⟩ := bind_some h
    obtain ⟨w, h5, h⟩ := bind_some h
    obtain ⟨q, q1, q2⟩ := S.o a A x h1 ρ g
    obtain ⟨d, d1, d2⟩ := q2.rd h3
    obtain ⟨z, z1, z2⟩ := aUn_ok h5 d2
    exact ⟨_, by simp only [dO, xUn, q1, Option.bind_some, d1, z1], resA_ok h q2.2.1 z2⟩
  | ife t a b =>
    intro A r h ρ g
    obtain ⟨z, h1, h⟩ := bind_some h
    obtain ⟨k, ρ', k1, k2⟩ := S.t t A z h1 ρ g
    obtain ⟨q, q1, q2⟩ := aBr_ok (S.o a) (S.o b) h k2
    exact ⟨q, by simp only [dO, xIf, k1, Option.bind_some, q1], q2⟩
  | tup es =>
    intro A r h ρ g
    obtain ⟨x, h1, h⟩ := bind_some h
    split at h
    · cases h
      obtain ⟨q, q1, q2, q3⟩ := aVs_ok S.o es A x h1 ρ g
      have hl : q.1.length ≤ sizeLine := by rw [sl16, ← q2.length]; assumption
      exact ⟨(.val (.tuple q.1), false, q.2), by simp only [dO, xTup, q1, Option.bind_some, if_pos hl], rfl, q3, Ga.exT q2⟩
    · cases h
  | lst es =>
    intro A r h ρ g
    obtain ⟨x, h1, h⟩ := bind_some h
    split at h
    · cases h
      obtain ⟨q, q1, q2, q3⟩ := aVs_ok S.o es A x h1 ρ g
      have hl : q.1.length ≤ sizeLine := by rw [sl16, ← q2.length]; assumption
      exact ⟨(.val (.list q.1), true, q.2), by simp only [dO, xLst, q1, Option.bind_some, if_pos hl], rfl, q3, Ga.exL q2⟩
    · cases h
  | ix a b =>
    intro A r h ρ g
    obtain ⟨x, h1, h⟩ := bind_some h
    obtain ⟨y, h2, h⟩ := bind_some h
    obtain ⟨u, h3, h⟩ := bind_some h
    obtain ⟨v, h4, h⟩ := bind_some h
    obtain ⟨w, h5, h⟩ := bind_some h
    cases h
    obtain ⟨q, q1, q2⟩ := S.o a A x h1 ρ g
    obtain ⟨p, p1, p2⟩ := S.o b _ y h2 _ q2.2.1
    obtain ⟨d, d1, d2⟩ := rdA_ok h3 p2.2.1 q2.2.2
    obtain ⟨e, e1, e2⟩ := p2.rd h4
    obtain ⟨z, z1, z2⟩ := aIx_ok h5 d2 e2
    exact ⟨(.val z, false, p.2.2), by simp only [dO, xIx, q1, Option.bind_some, p1, d1, e1, z1], rfl, p2.2.1, z2⟩
  | cut a lo hi =>
    intro A r h ρ g
    obtain ⟨x, h1, h⟩ := bind_some h
    obtain ⟨y, h2, h⟩ := bind_some h
    obtain ⟨y', h2', h⟩ := bind_some h
    obtain ⟨u, h3, h⟩ := bind_some h
    obtain ⟨w, h5, h⟩ := bind_some h
    obtain ⟨q, q1, q2⟩ := S.o a A x h1 ρ g
    obtain ⟨p, p1, p2, p3⟩ := aPt_ok S lo _ y h2 _ q2.2.1
    obtain ⟨p', p1', p2', p3'⟩ := aPt_ok S hi _ y' h2' _ p3
    obtain ⟨d, d1, d2⟩ := rdA_ok h3 p3' q2.2.2
    obtain ⟨z, z1, z2⟩ := aCut_ok h5 d2 p2 p2'
    exact ⟨_, by simp only [dO, xCut, q1, Option.bind_some, p1, p1', d1, z1], resA_ok h p3' z2⟩
  | van es => exact aAnd_ok S.o es
  | vor es => exact aOr_ok S.o es
  | t t =>
    intro A r h ρ g
    obtain ⟨z, h1, h⟩ := bind_some h
    obtain ⟨k, ρ', k1, B, k2, k3⟩ := S.t t A z h1 ρ g
    refine ⟨(.val (.bool k), false, ρ'), by simp only [dO, xT, k1, Option.bind_some], ?_⟩
    obtain ⟨T, E⟩ := z
    cases T with
    | none => cases E with
      | none => cases h
      | some E =>
        cases h
        cases k with
        | true => cases k2
        | false => cases k2; exact ⟨rfl, k3, Ga.con⟩
    | some T => cases E with
      | none =>
        cases h
        cases k with
        | false => cases k2
        | true => cases k2; exact ⟨rfl, k3, Ga.con⟩
      | some E =>
        obtain ⟨C, c1, rfl⟩ := map_some h
        cases k with
        | true => cases k2; exact ⟨rfl, (joinE_ok c1).1 k3, Ga.bln⟩
        | false => cases k2; exact ⟨rfl, (joinE_ok c1).2 k3, Ga.bln⟩
  | bi b es =>
    intro A r h ρ g
    obtain ⟨x, h1, h⟩ := bind_some h
    obtain ⟨u, h3, h⟩ := bind_some h
    obtain ⟨w, h5, h⟩ := bind_some h
    obtain ⟨q, q1, q2, q3⟩ := aOs_ok S.o es A x h1 ρ g
    obtain ⟨ds, d1, d2⟩ := rdAs_ok q3 h3 q2
    obtain ⟨z, z1, z2⟩ := aBi_ok h5 d2
    exact ⟨_, by simp only [dO, xBi, q1, Option.bind_some, d1, z1], resA_ok h q3 z2⟩
  | isi ty a =>
    intro A r h ρ g
    obtain ⟨x, h1, h⟩ := bind_some h
    obtain ⟨u, h3, h⟩ := bind_some h
    obtain ⟨w, h5, h⟩ := bind_some h
    cases h
    obtain ⟨q, q1, q2⟩ := S.o a A x h1 ρ g
    obtain ⟨d, d1, d2⟩ := q2.rd h3
    obtain ⟨k, k1, k2, k3⟩ := aIsi_ok h5 d2
    exact ⟨(.val (.bool k), false, q.2.2), by simp only [dO, xIsi, q1, Option.bind_some, d1, k1, if_true, k2], rfl, q2.2.1, k3⟩
  | «mut» m a es =>
    intro A r h ρ g
    obtain ⟨x, h1, h⟩ := bind_some h
    obtain ⟨q, q1, q2, q3, q4⟩ := S.o a A x h1 ρ g
    obtain ⟨o, b, A1⟩ := x
    obtain ⟨o', b', ρ1⟩ := q
    cases o with
    | val a => cases h
    | slot i =>
      cases o' with
      | val d => exact q4.elim
      | slot j =>
        cases (show i = j from q4)
        dsimp only at h q3
        split at h
        · rename_i av hav
          obtain ⟨hk, h⟩ := ite_some h
          obtain ⟨y, h2, h⟩ := bind_some h
          split at h
          · rename_i av2 hav2
            obtain ⟨z, h3, h⟩ := bind_some h
            cases h
            obtain ⟨d, d1, d2⟩ := q3.get hav
            obtain ⟨p, p1, p2, p3⟩ := aVs_ok S.o es A1 y h2 ρ1 q3
            obtain ⟨d', e1, e2⟩ := p3.get hav2
            obtain ⟨w, xs, w0, w1, w2, w3⟩ := aMut_ok h3 e2 p2
            rcases kind_len hk (shp_ok d2) (.inr (.inl rfl)) with ⟨h, _⟩ | ⟨_, ds, rfl⟩ | ⟨h, _⟩
            · cases h
            · exact ⟨(.val w.2, false, p.2.set i (some (true, w.1))), by simp only [dO, xMut, q1, Option.bind_some, d1, p1, e1, w1], rfl, p3.set i w2, w3⟩
            · cases h
          · cases h
        · cases h
  | met m a es =>
    intro A r h ρ g
    obtain ⟨x, h1, h⟩ := bind_some h
    obtain ⟨q, q1, q2, q3, q4⟩ := S.o a A x h1 ρ g
    obtain ⟨o, b, A1⟩ := x
    obtain ⟨o', b', ρ1⟩ := q
    cases o with
    | slot i => cases h
    | val av =>
      cases o' with
      | slot j => exact q4.elim
      | val d =>
        obtain ⟨y, h2, h⟩ := bind_some h
        obtain ⟨u, h3, h⟩ := bind_some h
        obtain ⟨w, h5, h⟩ := bind_some h
        obtain ⟨p, p1, p2, p3⟩ := aOs_ok S.o es A1 y h2 ρ1 q3
        obtain ⟨ds, d1, d2⟩ := rdAs_ok p3 h3 p2
        obtain ⟨z, z1, z2⟩ := aMet_ok h5 q4 d2
        exact ⟨_, by simp only [dO, xMet, q1, Option.bind_some, p1, d1, z1], resA_ok h p3 z2⟩
  | call f dfl src as ks => exact aCall_ok S KK f dfl src as ks
  | lc is it g t v =>
    intro A r h ρ gA
    obtain ⟨x, h1, h⟩ := bind_some h
    cases h
    obtain ⟨q, q1, q2, q3⟩ := aLcL_ok S is it g t v A x h1 ρ gA
    exact ⟨(.val (.list q.1), true, q.2), by simp only [dO, xLc, q1, Option.bind_some], rfl, q3, q2⟩
  | pick x f p => exact aPick_ok DD x f p
  | sel a b t => exact aSel_ok S a b t
  | emp i d => exact aEmp_ok i d
  | _ => exact fun A r h => by cases h
theorem aTest_ok (S : SoF M F G) (e : RE) : ST M (aTest io F e) (dT io G e) := by
  cases e with
  | tr => exact fun A z h ρ g => by cases h; exact ⟨true, ρ, rfl, A, rfl, g⟩
  | tsp k i op n => exact aTsp_ok k i op n
  | tan ts => exact aTan_ok S.t ts
  | tor ts => exact aTor_ok S.t ts
  | tnt t =>
    intro A z h ρ g
    obtain ⟨w, h1, rfl⟩ := map_some h
    obtain ⟨k, ρ', k1, B, k2, k3⟩ := S.t t A w h1 ρ g
    refine ⟨!k, ρ', by simp only [dT, tNt, k1, Option.bind_some], B, ?_, k3⟩
    cases k <;> exact k2
  | tc1 op a b =>
    intro A r h ρ g
    obtain ⟨x, h1, h⟩ := bind_some h
    obtain ⟨y, h2, h⟩ := bind_some h
    obtain ⟨u, h3, h⟩ := bind_some h
    obtain ⟨v, h4, h⟩ := bind_some h
    obtain ⟨w, h5, h⟩ := bind_some h
    cases h
    obtain ⟨q, q1, q2⟩ := S.o a A x h1 ρ g
    obtain ⟨p, p1, p2⟩ := S.o b _ y h2 _ q2.2.1
    obtain ⟨d, d1, d2⟩ := rdA_ok h3 p2.2.1 q2.2.2
    obtain ⟨e, e1, e2⟩ := p2.rd h4
    obtain ⟨k, k1, k2⟩ := aCmp_ok h5 d2 e2
    exact ⟨k, p.2.2, by simp only [dT, tC1, q1, Option.bind_some, p1, d1, e1, k1], kn2_ok k2 p2.2.1⟩
  | tcc op op' a b c =>
    intro A r h ρ g
    obtain ⟨x, h1, h⟩ := bind_some h
    obtain ⟨y, h2, h⟩ := bind_some h
    obtain ⟨o, h3, h⟩ := bind_some h
    obtain ⟨q, q1, _, q2, q3⟩ := aV_ok (io := io) (S.o a) A x h1 ρ g
    obtain ⟨p, p1, _, p2, p3⟩ := aV_ok (io := io) (S.o b) _ y h2 _ q3
    obtain ⟨k, k1, k2⟩ := aCmp_ok h3 q2 p2
    by_cases ho : (o == some false) = true
    · rw [if_pos ho] at h
      cases h
      rw [beq_iff_eq] at ho
      have := k2 false ho
      subst this
      exact ⟨false, p.2.2, by simp only [dT, tCC, q1, Option.bind_some, p1, k1, Bool.false_eq_true, if_false], _, rfl, p3⟩
    · rw [if_neg ho] at h
      obtain ⟨z, h4, h⟩ := bind_some h
      obtain ⟨o', h5, h⟩ := bind_some h
      obtain ⟨w, w1, _, w2, w3⟩ := aV_ok (io := io) (S.o c) _ z h4 _ p3
      obtain ⟨k', k1', k2'⟩ := aCmp_ok h5 p2 w2
      have gt := kn2_ok k2' w3
      have run : dT io G (.tcc op op' a b c) ρ = if k then some (k', w.2.2) else some (false, p.2.2) := by
        cases k with
        | true => simp only [dT, tCC, q1, Option.bind_some, p1, k1, if_true, w1, k1']
        | false => simp only [dT, tCC, q1, Option.bind_some, p1, k1, Bool.false_eq_true, if_false]
      rw [run]
      by_cases ho2 : (o == some true) = true
      · rw [if_pos ho2] at h
        cases h
        rw [beq_iff_eq] at ho2
        have := k2 true ho2
        subst this
        exact ⟨k', w.2.2, rfl, gt⟩
      · rw [if_neg ho2] at h
        obtain ⟨j, j1, rfl⟩ := map_some h
        cases k with
        | true =>
          refine ⟨k', w.2.2, rfl, ?_⟩
          obtain ⟨B, b1, b2⟩ := gt
          cases k' with
          | true => exact ⟨B, b1, b2⟩
          | false =>
            obtain ⟨C, c1, c2⟩ := jO_l (P := fun A => GE M A w.2.2) (fun a b c hj p => (joinE_ok hj).1 p) j1 b1 b2
            exact ⟨C, c1, c2⟩
        | false =>
          obtain ⟨C, c1, c2⟩ := jO_r (P := fun A => GE M A p.2.2) (fun a b c hj p => (joinE_ok hj).2 p) j1 rfl p3
          exact ⟨false, p.2.2, rfl, C, c1, c2⟩
  | tx a =>
    intro A r h ρ g
    obtain ⟨x, h1, h⟩ := bind_some h
    obtain ⟨u, h3, h⟩ := bind_some h
    obtain ⟨o, h5, h⟩ := bind_some h
    cases h
    obtain ⟨q, q1, q2⟩ := S.o a A x h1 ρ g
    obtain ⟨d, d1, d2⟩ := q2.rd h3
    obtain ⟨k, k1, k2⟩ := aTru_ok h5 d2
    exact ⟨k, q.2.2, by simp only [dT, tX, q1, Option.bind_some, d1, k1], kn2_ok k2 q2.2.1⟩
  | _ => exact fun A r h => by cases h
theorem aIt_ok (S : SoF M F G) (e : RE) : SI M (aIt io F e) (dI io G e) := by
  cases e with
  | rng es =>
    intro A r h ρ g
    obtain ⟨x, h1, h⟩ := bind_some h
    obtain ⟨u, h3, h⟩ := bind_some h
    obtain ⟨w, h5, h⟩ := bind_some h
    cases h
    obtain ⟨q, q1, q2, q3⟩ := aOs_ok S.o es A x h1 ρ g
    obtain ⟨ds, d1, d2⟩ := rdAs_ok q3 h3 q2
    obtain ⟨xs, x1, x2⟩ := aRng_ok h5 d2
    exact ⟨(xs, q.2), by simp only [dI, xRng, q1, Option.bind_some, d1, x1], x2, q3⟩
  | itr a =>
    intro A r h ρ g
    obtain ⟨x, h1, h⟩ := bind_some h
    obtain ⟨w, h5, h⟩ := bind_some h
    cases h
    obtain ⟨q, q1, _, q2, q3⟩ := aV_ok (io := io) (S.o a) A x h1 ρ g
    obtain ⟨xs, x1, x2⟩ := aItems_ok h5 q2
    exact ⟨(xs, q.2.2), by simp only [dI, xIt, q1, Option.bind_some, x1], x2, q3⟩
  | _ => exact fun A r h => by cases h
theorem ab_ok (KK : KOk M Γ nm K) (DD : DrOk M Γ nm D) : ∀ n : Nat, SoF M (ab D io K n) (den nm io Γ n)
  | 0 => ⟨fun e A r h => (by cases h), fun e A r h => (by cases h), fun e A r h => (by cases h)⟩
  | n + 1 => ⟨fun e => aO_ok (ab_ok KK DD n) KK DD e, fun e => aTest_ok (ab_ok KK DD n) e, fun e => aIt_ok (ab_ok KK DD n) e⟩
/-! ## statements -/
/-- what a statement leaves -/
def GO (M : Am) (io : List Nat) (o : AO) : Out → Prop
  | .nx ρ => ∃ A, o.nx = some A ∧ GE M A ρ
  | .bk ρ => ∃ A, o.bk = some A ∧ GE M A ρ
  | .ct ρ => ∃ A, o.ct = some A ∧ GE M A ρ
  | .rt (.val d) b ρ => ∃ s, (if b then o.rt else o.rf) = some s ∧ Ga M s.1 d ∧ GE M s.2 ρ
  | .rt (.slot i) _ ρ => io.contains i = false ∧ ∃ d s, ρ[i]? = some (some (true, d)) ∧ o.rt = some s ∧ Ga M s.1 d ∧ GE M s.2 ρ
theorem joinO_ok {x y z : AO} (h : joinO x y = some z) {r : Out} : (GO M io x r → GO M io z r) ∧ (GO M io y r → GO M io z r) := by
  obtain ⟨a, h1, h⟩ := bind_some h
  obtain ⟨b, h2, h⟩ := bind_some h
  obtain ⟨c, h3, h⟩ := bind_some h
  obtain ⟨d, h4, h⟩ := bind_some h
  obtain ⟨e, h5, h⟩ := bind_some h
  cases h
  have el : ∀ {u v w : Option AE} {ρ : En}, jO joinE u v = some w → (∃ A, u = some A ∧ GE M A ρ) → ∃ A, w = some A ∧ GE M A ρ := fun {u v w ρ} hj ⟨A, a1, a2⟩ => jO_l (P := fun A => GE M A ρ) (fun a b c hj p => (joinE_ok hj).1 p) hj a1 a2
  have er : ∀ {u v w : Option AE} {ρ : En}, jO joinE u v = some w → (∃ A, v = some A ∧ GE M A ρ) → ∃ A, w = some A ∧ GE M A ρ := fun {u v w ρ} hj ⟨A, a1, a2⟩ => jO_r (P := fun A => GE M A ρ) (fun a b c hj p => (joinE_ok hj).2 p) hj a1 a2
  have jl : ∀ {u v w : LS} {ρ : En} {d : PyData}, joinL u v = some w → (Ga M u.1 d ∧ GE M u.2 ρ → Ga M w.1 d ∧ GE M w.2 ρ) ∧ (Ga M v.1 d ∧ GE M v.2 ρ → Ga M w.1 d ∧ GE M w.2 ρ) := fun {u v w ρ d} hj => by
    obtain ⟨A, a1, rfl⟩ := map_some hj
    exact ⟨fun g => ⟨(join_ok _ _ _ _).1 g.1, (joinE_ok a1).1 g.2⟩, fun g => ⟨(join_ok _ _ _ _).2 g.1, (joinE_ok a1).2 g.2⟩⟩
  have ll : ∀ {u v w : Option LS} {ρ : En} {d : PyData}, jO joinL u v = some w → (∃ s, u = some s ∧ Ga M s.1 d ∧ GE M s.2 ρ) → ∃ s, w = some s ∧ Ga M s.1 d ∧ GE M s.2 ρ := fun {u v w ρ d} hj ⟨A, a1, a2⟩ => jO_l (P := fun s => Ga M s.1 d ∧ GE M s.2 ρ) (fun a b c hj p => (jl hj).1 p) hj a1 a2
  have lr : ∀ {u v w : Option LS} {ρ : En} {d : PyData}, jO joinL u v = some w → (∃ s, v = some s ∧ Ga M s.1 d ∧ GE M s.2 ρ) → ∃ s, w = some s ∧ Ga M s.1 d ∧ GE M s.2 ρ := fun {u v w ρ d} hj ⟨A, a1, a2⟩ => jO_r (P := fun s => Ga M s.1 d ∧ GE M s.2 ρ) (fun a b c hj p => (jl hj).2 p) hj a1 a2
  cases r with
  | nx ρ => exact ⟨el h1, er h1⟩
  | bk ρ => exact ⟨el h2, er h2⟩
  | ct ρ => exact ⟨el h3, er h3⟩
  | rt o b ρ =>
    cases o with
    | val d =>
      cases b with
      | true => exact ⟨ll h4, lr h4⟩
      | false => exact ⟨ll h5, lr h5⟩
    | slot i =>
      constructor
      · rintro ⟨g0, d, s, g1, g2⟩
        obtain ⟨s', s1, s2⟩ := ll h4 ⟨s, g2⟩
        exact ⟨g0, d, s', g1, s1, s2⟩
      · rintro ⟨g0, d, s, g1, g2⟩
        obtain ⟨s', s1, s2⟩ := lr h4 ⟨s, g2⟩
        exact ⟨g0, d, s', g1, s1, s2⟩
def SS (M : Am) (io : List Nat) (f : AE → Option AO) (f' : Sx) : Prop := ∀ A o, f A = some o → ∀ ρ, GE M A ρ → ∃ r, f' ρ = some r ∧ GO M io o r
theorem aSq_ok {S : RS → AE → Option AO} {S' : RS → Sx} (hS : ∀ s, SS M io (S s) (S' s)) : ∀ ss : List RS, SS M io (aSq S ss) (kSq (ss.map S'))
  | [] => fun A o h ρ g => by cases h; exact ⟨.nx ρ, rfl, A, rfl, g⟩
  | s :: ss => fun A o h ρ g => by
    obtain ⟨x, h1, h⟩ := bind_some h
    obtain ⟨r, r1, r2⟩ := hS s A x h1 ρ g
    cases hx : x.nx with
    | none =>
      rw [hx] at h
      cases h
      cases r with
      | nx ρ1 => obtain ⟨B, b1, _⟩ := r2; rw [hx] at b1; cases b1
      | bk ρ1 => exact ⟨_, by simp only [List.map_cons, kSq, r1, Option.bind_some], r2⟩
      | ct ρ1 => exact ⟨_, by simp only [List.map_cons, kSq, r1, Option.bind_some], r2⟩
      | rt v b ρ1 => exact ⟨_, by simp only [List.map_cons, kSq, r1, Option.bind_some], r2⟩
    | some A1 =>
      rw [hx] at h
      obtain ⟨o2, h2, h⟩ := bind_some h
      cases r with
      | nx ρ1 =>
        obtain ⟨B, b1, b2⟩ := r2
        rw [hx] at b1
        cases b1
        obtain ⟨r', a1, a2⟩ := aSq_ok hS ss A1 o2 h2 ρ1 b2
        exact ⟨r', by simp only [List.map_cons, kSq, r1, Option.bind_some, a1], (joinO_ok h).2 a2⟩
      | bk ρ1 => exact ⟨.bk ρ1, by simp only [List.map_cons, kSq, r1, Option.bind_some], (joinO_ok h).1 (show GO M io { x with nx := none } (.bk ρ1) from r2)⟩
      | ct ρ1 => exact ⟨.ct ρ1, by simp only [List.map_cons, kSq, r1, Option.bind_some], (joinO_ok h).1 (show GO M io { x with nx := none } (.ct ρ1) from r2)⟩
      | rt v b ρ1 =>
        refine ⟨.rt v b ρ1, by simp only [List.map_cons, kSq, r1, Option.bind_some], (joinO_ok h).1 (show GO M io { x with nx := none } (.rt v b ρ1) from ?_)⟩
        cases v <;> exact r2
/-- a turn -/
theorem turn_ok {b : AE → Option AO} {b' : Sx} (hb : SS M io b b') {A : AE} {o : AO} {n : Option AE} (h : b A = some o) (hn : jO joinE o.nx o.ct = some n) {ρ : En} (g : GE M A ρ) :
    ∃ r, b' ρ = some r ∧ match r with
      | .nx ρ1 => ∃ A1, n = some A1 ∧ GE M A1 ρ1
      | .ct ρ1 => ∃ A1, n = some A1 ∧ GE M A1 ρ1
      | .bk ρ1 => GO M io ⟨o.bk, none, none, o.rt, o.rf⟩ (.nx ρ1)
      | .rt v k ρ1 => GO M io ⟨o.bk, none, none, o.rt, o.rf⟩ (.rt v k ρ1) := by
  obtain ⟨r, r1, r2⟩ := hb A o h ρ g
  refine ⟨r, r1, ?_⟩
  cases r with
  | nx ρ1 =>
    obtain ⟨B, b1, b2⟩ := r2
    exact jO_l (P := fun A => GE M A ρ1) (fun a b c hj p => (joinE_ok hj).1 p) hn b1 b2
  | ct ρ1 =>
    obtain ⟨B, b1, b2⟩ := r2
    exact jO_r (P := fun A => GE M A ρ1) (fun a b c hj p => (joinE_ok hj).2 p) hn b1 b2
  | bk ρ1 => exact r2
  | rt v k ρ1 => cases v <;> exact r2
/-- a turn of a walk -/
def FT (M : Am) (io : List Nat) (g : PyData → En → Option En) (b : Sx) (f : AV → AE → Option (Option AE × AO)) : Prop := ∀ a A z, f a A = some z → ∀ x ρ, Ga M a x → GE M A ρ →
  ∃ ρ0 r, g x ρ = some ρ0 ∧ b ρ0 = some r ∧ match r with
      | .nx ρ1 => ∃ A1, z.1 = some A1 ∧ GE M A1 ρ1
      | .ct ρ1 => ∃ A1, z.1 = some A1 ∧ GE M A1 ρ1
      | .bk ρ1 => GO M io z.2 (.nx ρ1)
      | .rt v k ρ1 => GO M io z.2 (.rt v k ρ1)
theorem fT_ok {g : RG} {b : AE → Option AO} {b' : Sx} (hb : SS M io b b') : FT M io g.den b' (fT g b) := by
  intro a A z h x ρ ga gA
  obtain ⟨A0, h1, h⟩ := bind_some h
  obtain ⟨o, h2, h⟩ := bind_some h
  obtain ⟨n, h3, h⟩ := bind_some h
  cases h
  obtain ⟨ρ0, r1, r2⟩ := aTg_ok h1 ga gA
  obtain ⟨r, q1, q2⟩ := turn_ok hb h2 h3 r2
  exact ⟨ρ0, r, r1, q1, q2⟩
section
variable {f : AV → AE → Option (Option AE × AO)} {g : PyData → En → Option En} {b : Sx}
theorem forD_cons {x : PyData} {xs : List PyData} {ρ ρ0 : En} {r : Out} (h1 : g x ρ = some ρ0) (h2 : b ρ0 = some r) : forD g b (x :: xs) ρ = match r with
      | .nx ρ1 => forD g b xs ρ1
      | .ct ρ1 => forD g b xs ρ1
      | .bk ρ1 => some (.nx ρ1)
      | .rt o k ρ1 => some (.rt o k ρ1) := by
  rw [forD]
  simp only [h1, Option.bind_some, h2]
  cases r <;> rfl
theorem fLs_ok (hf : FT M io g b f) : ∀ (as : List AV) (A : AE) (o : AO), fLs f as A = some o → ∀ ds ρ, Gas M as ds → GE M A ρ → ∃ r, forD g b ds ρ = some r ∧ GO M io o r
  | [], A, o, h, _, ρ, .nil, gA => by cases h; exact ⟨.nx ρ, rfl, A, rfl, gA⟩
  | a :: as, A, o, h, _, ρ, .cons ga t, gA => by
    obtain ⟨z, h1, h⟩ := bind_some h
    obtain ⟨ρ0, r, r1, r2, r3⟩ := hf a A z h1 _ ρ ga gA
    rw [forD_cons r1 r2]
    cases hz : z.1 with
    | none =>
      rw [hz] at h
      cases h
      cases r with
      | nx ρ1 => obtain ⟨B, b1, _⟩ := r3; rw [hz] at b1; cases b1
      | ct ρ1 => obtain ⟨B, b1, _⟩ := r3; rw [hz] at b1; cases b1
      | bk ρ1 => exact ⟨_, rfl, r3⟩
      | rt v k ρ1 => exact ⟨_, rfl, r3⟩
    | some A1 =>
      rw [hz] at h
      obtain ⟨o2, h2, h⟩ := bind_some h
      cases r with
      | nx ρ1 =>
        obtain ⟨B, b1, b2⟩ := r3
        rw [hz] at b1
        cases b1
        obtain ⟨r', a1, a2⟩ := fLs_ok hf as A1 o2 h2 _ ρ1 t b2
        exact ⟨r', a1, (joinO_ok h).2 a2⟩
      | ct ρ1 =>
        obtain ⟨B, b1, b2⟩ := r3
        rw [hz] at b1
        cases b1
        obtain ⟨r', a1, a2⟩ := fLs_ok hf as A1 o2 h2 _ ρ1 t b2
        exact ⟨r', a1, (joinO_ok h).2 a2⟩
      | bk ρ1 => exact ⟨_, rfl, (joinO_ok h).1 r3⟩
      | rt v k ρ1 => exact ⟨_, rfl, (joinO_ok h).1 r3⟩
/-- nothing new -/
theorem stay_ok (hf : FT M io g b f) {a : AV} {A A1 : AE} {o : AO} {z : Option AE × AO} (h1 : f a A = some z) (hz : z.1 = some A1) (hle : leE A1 A = true) (h : joinO z.2 { noO with nx := some A } = some o) :
    ∀ (ds : List PyData) ρ, (∀ d ∈ ds, Ga M a d) → GE M A ρ → ∃ r, forD g b ds ρ = some r ∧ GO M io o r
  | [], ρ, _, gA => ⟨.nx ρ, rfl, (joinO_ok h).2 ⟨A, rfl, gA⟩⟩
  | d :: ds, ρ, hd, gA => by
    obtain ⟨ρ0, r, r1, r2, r3⟩ := hf a A z h1 _ ρ (hd d List.mem_cons_self) gA
    rw [forD_cons r1 r2]
    cases r with
    | nx ρ1 =>
      obtain ⟨B, b1, b2⟩ := r3
      rw [hz] at b1
      cases b1
      exact stay_ok hf h1 hz hle h ds ρ1 (fun e he => hd e (List.mem_cons_of_mem _ he)) (leE_ok hle b2)
    | ct ρ1 =>
      obtain ⟨B, b1, b2⟩ := r3
      rw [hz] at b1
      cases b1
      exact stay_ok hf h1 hz hle h ds ρ1 (fun e he => hd e (List.mem_cons_of_mem _ he)) (leE_ok hle b2)
    | bk ρ1 => exact ⟨_, rfl, (joinO_ok h).1 r3⟩
    | rt v k ρ1 => exact ⟨_, rfl, (joinO_ok h).1 r3⟩
theorem fRp_ok (hf : FT M io g b f) (a : AV) : ∀ (hi lo : Nat) (A : AE) (o : AO), fRp f a lo hi A = some o → ∀ ds ρ, lo ≤ ds.length → ds.length ≤ hi → (∀ d ∈ ds, Ga M a d) → GE M A ρ → ∃ r, forD g b ds ρ = some r ∧ GO M io o r
  | 0, lo, A, o, h, ds, ρ, _, h2, _, gA => by
    rw [List.eq_nil_of_length_eq_zero (Nat.le_zero.mp h2)]
    have h : some ({ noO with nx := some A } : AO) = some o := by simpa [fRp] using h
    cases h
    exact ⟨.nx ρ, rfl, A, rfl, gA⟩
  | hi + 1, lo, A, o, h, ds, ρ, l1, l2, hd, gA => by
    simp only [fRp] at h
    obtain ⟨z, h1, h⟩ := bind_some h
    cases hz : z.1 with
    | none =>
      rw [hz] at h
      dsimp only at h
      cases ds with
      | nil =>
        have : lo = 0 := by simpa using l1
        rw [if_pos this] at h
        exact ⟨.nx ρ, rfl, (joinO_ok h).2 ⟨A, rfl, gA⟩⟩
      | cons d ds =>
        obtain ⟨ρ0, r, r1, r2, r3⟩ := hf a A z h1 _ ρ (hd d List.mem_cons_self) gA
        rw [forD_cons r1 r2]
        have out : ∀ {q : Out}, GO M io z.2 q → GO M io o q := fun {q} gq => by
          split at h
          · exact (joinO_ok h).1 gq
          · cases h; exact gq
        cases r with
        | nx ρ1 => obtain ⟨B, b1, _⟩ := r3; rw [hz] at b1; cases b1
        | ct ρ1 => obtain ⟨B, b1, _⟩ := r3; rw [hz] at b1; cases b1
        | bk ρ1 => exact ⟨_, rfl, out r3⟩
        | rt v k ρ1 => exact ⟨_, rfl, out r3⟩
    | some A1 =>
      rw [hz] at h
      dsimp only at h
      split at h
      · rename_i hle
        exact stay_ok hf h1 hz hle h ds ρ hd gA
      · obtain ⟨o1, h2, h⟩ := bind_some h
        obtain ⟨o2, h3, h⟩ := bind_some h
        have out : ∀ {q : Out}, GO M io o2 q → GO M io o q := fun {q} gq => by
          split at h
          · exact (joinO_ok h).1 gq
          · cases h; exact gq
        cases ds with
        | nil =>
          have : lo = 0 := by simpa using l1
          rw [if_pos this] at h
          exact ⟨.nx ρ, rfl, (joinO_ok h).2 ⟨A, rfl, gA⟩⟩
        | cons d ds =>
          obtain ⟨ρ0, r, r1, r2, r3⟩ := hf a A z h1 _ ρ (hd d List.mem_cons_self) gA
          rw [forD_cons r1 r2]
          have rest : ∀ {ρ1 : En}, GE M A1 ρ1 → ∃ r, forD g b ds ρ1 = some r ∧ GO M io o r := fun {ρ1} g1 => by
            obtain ⟨r', a1, a2⟩ := fRp_ok hf a hi (lo - 1) A1 o1 h2 ds ρ1 (by simp at l1; omega) (by simpa using l2) (fun e he => hd e (List.mem_cons_of_mem _ he)) g1
            exact ⟨r', a1, out ((joinO_ok h3).2 a2)⟩
          cases r with
          | nx ρ1 =>
            obtain ⟨B, b1, b2⟩ := r3
            rw [hz] at b1
            cases b1
            exact rest b2
          | ct ρ1 =>
            obtain ⟨B, b1, b2⟩ := r3
            rw [hz] at b1
            cases b1
            exact rest b2
          | bk ρ1 => exact ⟨_, rfl, out ((joinO_ok h3).1 r3)⟩
          | rt v k ρ1 => exact ⟨_, rfl, out ((joinO_ok h3).1 r3)⟩
end
theorem aWh_ok {t : AE → Option AT} {t' : Tx} {b : AE → Option AO} {b' : Sx} (ht : ST M t t') (hb : SS M io b b') : ∀ (n w : Nat), n ≤ w → SS M io (aWh t b n) (whileD t' b' w)
  | 0, _, _ => fun A o h => by cases h
  | n + 1, 0, hw => absurd hw (by omega)
  | n + 1, w + 1, hw => fun A o h ρ g => by
    obtain ⟨z, h1, h⟩ := bind_some h
    obtain ⟨k, ρ1, k1, B, k2, k3⟩ := ht A z h1 ρ g
    cases k with
    | false =>
      have k2 : z.2 = some B := k2
      refine ⟨.nx ρ1, by rw [whileD]; simp only [k1, Option.bind_some, Bool.false_eq_true, if_false], ?_⟩
      cases hz : z.1 with
      | none =>
        rw [hz, k2] at h
        cases h
        exact ⟨B, rfl, k3⟩
      | some T =>
        rw [hz] at h
        obtain ⟨x, h2, h⟩ := bind_some h
        obtain ⟨m, h3, h⟩ := bind_some h
        obtain ⟨l2, h4, h⟩ := bind_some h
        have base : GO M io l2 (.nx ρ1) := (joinO_ok h4).2 ⟨B, k2, k3⟩
        cases m with
        | none => cases h; exact base
        | some A1 =>
          obtain ⟨o2, h5, h⟩ := bind_some h
          exact (joinO_ok h).1 base
    | true =>
      have k2 : z.1 = some B := k2
      rw [k2] at h
      obtain ⟨x, h2, h⟩ := bind_some h
      obtain ⟨m, h3, h⟩ := bind_some h
      obtain ⟨l2, h4, h⟩ := bind_some h
      obtain ⟨r, r1, r2⟩ := turn_ok hb h2 h3 k3
      have main : whileD t' b' (w + 1) ρ = match r with
          | .nx ρ1 => whileD t' b' w ρ1
          | .ct ρ1 => whileD t' b' w ρ1
          | .bk ρ1 => some (.nx ρ1)
          | .rt o k ρ1 => some (.rt o k ρ1) := by
        rw [whileD]
        simp only [k1, Option.bind_some, if_true, r1]
        cases r <;> rfl
      rw [main]
      have out : ∀ {q : Out}, GO M io ⟨x.bk, none, none, x.rt, x.rf⟩ q → GO M io o q := fun {q} gq => by
        have := (joinO_ok h4).1 gq
        cases m with
        | none => cases h; exact this
        | some A1 =>
          obtain ⟨o2, h5, h⟩ := bind_some h
          exact (joinO_ok h).1 this
      have rest : ∀ {ρ2 : En} {A1 : AE}, m = some A1 → GE M A1 ρ2 → ∃ r, whileD t' b' w ρ2 = some r ∧ GO M io o r := fun {ρ2 A1} hm g2 => by
        subst hm
        obtain ⟨o2, h5, h⟩ := bind_some h
        obtain ⟨r', a1, a2⟩ := aWh_ok ht hb n w (by omega) A1 o2 h5 ρ2 g2
        exact ⟨r', a1, (joinO_ok h).2 a2⟩
      cases r with
      | nx ρ2 => obtain ⟨A1, a1, a2⟩ := r2; exact rest a1 a2
      | ct ρ2 => obtain ⟨A1, a1, a2⟩ := r2; exact rest a1 a2
      | bk ρ2 => exact ⟨_, rfl, out r2⟩
      | rt v k ρ2 => exact ⟨_, rfl, out r2⟩
end
end Pf


namespace Pf
open PySem PySem.Spec L2
section
variable {M : Am} {io : List Nat} {Γ : Sem3} {nm : Nat → Str} {K : KA} {D : Dra} {n : Nat}
theorem aS1_ok (KK : KOk M Γ nm K) (DD : DrOk M Γ nm D) {S : RS → AE → Option AO} {S' : RS → Sx} (hS : ∀ s, SS M io (S s) (S' s)) (s : RS) : SS M io (aS1 D io K n S s) (dS1 nm io Γ n S' s) := by
  have B := ab_ok (io := io) KK DD n
  cases s with
  | nx => exact fun A o h ρ g => by cases h; exact ⟨.nx ρ, rfl, A, rfl, g⟩
  | bk => exact fun A o h ρ g => by cases h; exact ⟨.bk ρ, rfl, A, rfl, g⟩
  | ct => exact fun A o h ρ g => by cases h; exact ⟨.ct ρ, rfl, A, rfl, g⟩
  | ex a =>
    intro A o h ρ g
    obtain ⟨r, h1, rfl⟩ := map_some h
    obtain ⟨q, q1, q2⟩ := B.o a A r h1 ρ g
    exact ⟨.nx q.2.2, by simp only [dS1, kEx, q1, Option.bind_some], _, rfl, q2.2.1⟩
  | rtN => exact fun A o h ρ g => by cases h; exact ⟨.rt (.val .none) false ρ, rfl, _, rfl, .con, g⟩
  | rt a =>
    intro A o h ρ g
    obtain ⟨r, h1, h⟩ := bind_some h
    obtain ⟨q, q1, q2, q3, q4⟩ := B.o a A r h1 ρ g
    obtain ⟨op, b, A1⟩ := r
    obtain ⟨oq, b', ρ1⟩ := q
    cases op with
    | slot i =>
      cases oq with
      | val d => exact q4.elim
      | slot j =>
        cases (show i = j from q4)
        obtain ⟨hio, h⟩ := ite_some' h
        dsimp only at h
        split at h
        · rename_i x hx
          cases h
          obtain ⟨d, d1, d2⟩ := q3.get hx
          refine ⟨.rt (.slot i) false ρ1, ?_, hio, d, _, d1, rfl, d2, q3⟩
          simp only [dS1, kRt, q1, Option.bind_some, hio]
          rfl
        · cases h
    | val x =>
      cases oq with
      | slot j => exact q4.elim
      | val d =>
        cases (show b = b' from q2)
        refine ⟨.rt (.val d) b ρ1, by simp only [dS1, kRt, q1, Option.bind_some], (x, A1), ?_, q4, q3⟩
        cases b with
        | true => cases h; rfl
        | false => cases h; rfl
  | iff t a b =>
    intro A o h ρ g
    obtain ⟨z, h1, h⟩ := bind_some h
    obtain ⟨k, ρ', k1, C, k2, k3⟩ := B.t t A z h1 ρ g
    obtain ⟨T, E⟩ := z
    have run : dS1 nm io Γ n S' (.iff t a b) ρ = if k then kSq (a.map S') ρ' else kSq (b.map S') ρ' := by
      simp only [dS1, kIf, k1, Option.bind_some]
    rw [run]
    cases k with
    | true =>
      have k2 : T = some C := k2
      subst k2
      cases E with
      | none => exact aSq_ok hS a C o h ρ' k3
      | some E =>
        obtain ⟨o1, e1, h⟩ := bind_some h
        obtain ⟨o2, e2, h⟩ := bind_some h
        obtain ⟨r, r1, r2⟩ := aSq_ok hS a C o1 e1 ρ' k3
        exact ⟨r, r1, (joinO_ok h).1 r2⟩
    | false =>
      have k2 : E = some C := k2
      subst k2
      cases T with
      | none => exact aSq_ok hS b C o h ρ' k3
      | some T =>
        obtain ⟨o1, e1, h⟩ := bind_some h
        obtain ⟨o2, e2, h⟩ := bind_some h
        obtain ⟨r, r1, r2⟩ := aSq_ok hS b C o2 e2 ρ' k3
        exact ⟨r, r1, (joinO_ok h).2 r2⟩
  | wh w t b => exact aWh_ok (B.t t) (aSq_ok hS b) (min w 60) w (Nat.min_le_left _ _)
  | «for» it g b =>
    intro A o h ρ gA
    obtain ⟨r, h1, h⟩ := bind_some h
    obtain ⟨q, q1, q2, q3⟩ := B.i it A r h1 ρ gA
    have hf : FT M io g.den (kSq (b.map S')) (fT g (aSq S b)) := fT_ok (aSq_ok hS b)
    have : ∃ r, forD g.den (kSq (b.map S')) q.1 q.2 = some r ∧ GO M io o r := by
      obtain ⟨ri, rA⟩ := r
      cases ri with
      | ls as => exact fLs_ok hf as _ _ h _ _ q2 q3
      | rp lo hi a => exact fRp_ok hf a hi lo _ _ h _ _ q2.1 q2.2.1 q2.2.2 q3
    obtain ⟨w, w1, w2⟩ := this
    exact ⟨w, by simp only [dS1, kFor, kLoop, q1, Option.bind_some, w1], w2⟩
  | set i a =>
    intro A o h ρ g
    obtain ⟨r, h1, rfl⟩ := map_some h
    obtain ⟨q, q1, q2, q3, q4⟩ := aV_ok (io := io) (B.o a) A r h1 ρ g
    exact ⟨.nx (q.2.2.set i (some (q.1, q.2.1))), by simp only [dS1, kSet, q1, Option.bind_some], _, rfl, by rw [q2]; exact q4.set i q3⟩
  | setL i is it g t v =>
    intro A o h ρ gA
    obtain ⟨r, h1, rfl⟩ := map_some h
    obtain ⟨q, q1, q2, q3⟩ := aLcL_ok B is it g t v A r h1 ρ gA
    exact ⟨.nx (q.2.set i (some (true, .list q.1))), by simp only [dS1, kSetL, q1, Option.bind_some], _, rfl, q3.set i q2⟩
  | par i j a b =>
    intro A o h ρ g
    obtain ⟨r, h1, h⟩ := bind_some h
    obtain ⟨r2, h2, h⟩ := bind_some h
    cases h
    obtain ⟨q, q1, _, q3, q4⟩ := aV_ok (io := io) (B.o a) A r h1 ρ g
    obtain ⟨p, p1, _, p3, p4⟩ := aV_ok (io := io) (B.o b) _ r2 h2 _ q4
    exact ⟨.nx ((p.2.2.set i (some (false, q.2.1))).set j (some (false, p.2.1))), by simp only [dS1, kPar, xVs, q1, Option.bind_some, p1], _, rfl, (p4.set i q3).set j p3⟩
  | tupG g a =>
    intro A o h ρ gA
    obtain ⟨r, h1, h⟩ := bind_some h
    obtain ⟨A1, h2, rfl⟩ := map_some h
    obtain ⟨q, q1, _, q3, q4⟩ := aV_ok (io := io) (B.o a) A r h1 ρ gA
    obtain ⟨ρ', p1, p2⟩ := aTg_ok h2 q3 q4
    exact ⟨.nx ρ', by simp only [dS1, kTpl, q1, Option.bind_some, p1], _, rfl, p2⟩
  | sub a b v =>
    intro A o h ρ g
    obtain ⟨r, h1, h⟩ := bind_some h
    obtain ⟨z, h2, h⟩ := bind_some h
    obtain ⟨q, q1, _, q3, q4⟩ := aV_ok (io := io) (B.o v) A r h1 ρ g
    obtain ⟨w, w1, w2, w3, w4⟩ := B.o a _ z h2 _ q4
    obtain ⟨op, bz, A1⟩ := z
    obtain ⟨oq, bw, ρ1⟩ := w
    cases op with
    | val x => cases h
    | slot i =>
      cases oq with
      | val d => exact w4.elim
      | slot j =>
        cases (show i = j from w4)
        obtain ⟨y, h3, h⟩ := bind_some h
        obtain ⟨k, h4, h⟩ := bind_some h
        split at h
        · rename_i d hd
          obtain ⟨d', h5, rfl⟩ := map_some h
          obtain ⟨u, u1, u2⟩ := B.o b _ y h3 _ w3
          obtain ⟨kd, k1, k2⟩ := u2.rd h4
          obtain ⟨dd, d1, d2⟩ := u2.2.1.get hd
          obtain ⟨e, e1, e2⟩ := aSetIx_ok h5 d2 k2 q3
          exact ⟨.nx (u.2.2.set i (some (true, e))), by simp only [dS1, kSub, q1, Option.bind_some, w1, u1, k1, d1, e1], _, rfl, u2.2.1.set i e2⟩
        · cases h
  | aug i op a =>
    intro A o h ρ g
    simp only [aS1] at h
    split at h
    · rename_i x hx
      obtain ⟨r, h1, h⟩ := bind_some h
      obtain ⟨q, q1, q2, q3, q4⟩ := B.o a A r h1 ρ g
      obtain ⟨ov, bv, A1⟩ := r
      obtain ⟨oq, bq, ρ1⟩ := q
      cases ov with
      | slot j => cases h
      | val y =>
        cases oq with
        | slot j => exact q4.elim
        | val d =>
          obtain ⟨z, h2, rfl⟩ := map_some h
          obtain ⟨e, e1, e2⟩ := g.get hx
          obtain ⟨i1, i2, i3, rfl, rfl, a1, a2⟩ := aAug_ok h2 e2 q4
          exact ⟨.nx (ρ1.set i (some (false, .int i3))), by simp only [dS1, kAug, e1, q1, Option.bind_some, a1], _, rfl, q3.set i a2⟩
    · cases h
theorem aS_ok (KK : KOk M Γ nm K) (DD : DrOk M Γ nm D) : ∀ (m : Nat) (s : RS), SS M io (aS D io K n m s) (dS nm io Γ n m s)
  | 0, _ => fun A o h => by cases h
  | m + 1, s => aS1_ok KK DD (aS_ok KK DD m) s
theorem aSs_ok (KK : KOk M Γ nm K) (DD : DrOk M Γ nm D) (m : Nat) (ss : List RS) : SS M io (aSq (aS D io K n m) ss) (dSs nm io Γ n m ss) := aSq_ok (aS_ok KK DD m) ss
/-! ## defs -/
theorem argA_ok : ∀ {io : List Bool} {as : List AV} {ds : List PyData}, Gas M as ds → GE M ((io.zip as).map some) (ag io ds)
  | [], _, _, _ => .nil
  | _ :: _, _, _, .nil => .nil
  | b :: io, _, _, .cons g t => .val g (argA_ok t)
theorem GE.app {A : AE} {ρ : En} (g : GE M A ρ) : ∀ n : Nat, GE M (A ++ List.replicate n none) (ρ ++ List.replicate n none) := by
  intro n
  induction g with
  | nil =>
    induction n with
    | zero => exact .nil
    | succ n ih => exact .top ih
  | top t ih => exact .top ih
  | val g t ih => exact .val g ih
theorem afterA_ok : ∀ {j : Nat} {io : List Bool} {as as' : List AV} {A : AE} {ds : List PyData} {ρ : En}, afterA j io as A = some as' → Gas M as ds → GE M A ρ → ∃ ds', afterIo j io ds ρ = some ds' ∧ Gas M as' ds'
  | j, [], [], _, A, _, ρ, h, .nil, g => by
    simp only [afterA] at h
    cases h
    exact ⟨[], rfl, .nil⟩
  | j, [], _ :: _, _, _, _, _, h, _, _ => by simp [afterA] at h
  | j, true :: _, [], _, _, _, _, h, _, _ => by simp [afterA] at h
  | j, false :: _, [], _, _, _, _, h, _, _ => by simp [afterA] at h
  | j, true :: io, a :: as, _, A, _, ρ, h, .cons ga t, g => by
    simp only [afterA] at h
    split at h
    · rename_i x hx
      obtain ⟨bs, h1, rfl⟩ := map_some h
      obtain ⟨d, d1, d2⟩ := g.get hx
      obtain ⟨ds', e1, e2⟩ := afterA_ok h1 t g
      exact ⟨d :: ds', by simp only [afterIo, d1, e1, Option.map_some], .cons d2 e2⟩
    · cases h
  | j, false :: io, a :: as, _, A, _, ρ, h, .cons ga t, g => by
    simp only [afterA] at h
    obtain ⟨bs, h1, rfl⟩ := map_some h
    obtain ⟨ds', e1, e2⟩ := afterA_ok h1 t g
    exact ⟨_ :: ds', by simp only [afterIo, e1, Option.map_some], .cons ga e2⟩
theorem aEnd_ok {iob : List Bool} {as : List AV} {o : AO} {r : Bool × AV × List AV} {ds : List PyData} {q : Out} (h : aEnd iob as o = some r) (gs : Gas M as ds) (g : GO M io o q) (hn : ∀ ρ, q ≠ .bk ρ ∧ q ≠ .ct ρ) :
    ∃ d ds', outI io iob ds q = some (r.1, d, ds') ∧ Ga M r.2.1 d ∧ Gas M r.2.2 ds' := by
  obtain ⟨f, h1, h⟩ := bind_some h
  have jl : ∀ {u v w : LS} {ρ : En} {d : PyData}, joinL u v = some w → (Ga M u.1 d ∧ GE M u.2 ρ → Ga M w.1 d ∧ GE M w.2 ρ) ∧ (Ga M v.1 d ∧ GE M v.2 ρ → Ga M w.1 d ∧ GE M w.2 ρ) := fun {u v w ρ d} hj => by
    obtain ⟨A, a1, rfl⟩ := map_some hj
    exact ⟨fun g => ⟨(join_ok _ _ _ _).1 g.1, (joinE_ok a1).1 g.2⟩, fun g => ⟨(join_ok _ _ _ _).2 g.1, (joinE_ok a1).2 g.2⟩⟩
  have fls : ∀ {s : LS} {d : PyData} {ρ : En}, f = some s → Ga M s.1 d → GE M s.2 ρ → ∃ ds', afterIo 0 iob ds ρ = some ds' ∧ r.1 = false ∧ Ga M r.2.1 d ∧ Gas M r.2.2 ds' := fun {s d ρ} hf g1 g2 => by
    subst hf
    cases hr : o.rt with
    | none =>
      rw [hr] at h
      obtain ⟨as', e1, rfl⟩ := map_some h
      obtain ⟨ds', e2, e3⟩ := afterA_ok e1 gs g2
      exact ⟨ds', e2, rfl, g1, e3⟩
    | some s' => rw [hr] at h; cases h
  have tru : ∀ {s : LS} {d : PyData} {ρ : En}, o.rt = some s → Ga M s.1 d → GE M s.2 ρ → ∃ ds', afterIo 0 iob ds ρ = some ds' ∧ r.1 = true ∧ Ga M r.2.1 d ∧ Gas M r.2.2 ds' := fun {s d ρ} hr g1 g2 => by
    rw [hr] at h
    cases f with
    | none =>
      obtain ⟨as', e1, rfl⟩ := map_some h
      obtain ⟨ds', e2, e3⟩ := afterA_ok e1 gs g2
      exact ⟨ds', e2, rfl, g1, e3⟩
    | some s' => cases h
  cases q with
  | bk ρ => exact ((hn ρ).1 rfl).elim
  | ct ρ => exact ((hn ρ).2 rfl).elim
  | nx ρ =>
    obtain ⟨A, a1, a2⟩ := g
    obtain ⟨s, s1, s2, s3⟩ := jO_r (P := fun s : LS => Ga M s.1 .none ∧ GE M s.2 ρ) (fun a b c hj p => (jl hj).2 p) h1 (b := (.con .none, A)) (by rw [a1]; rfl) ⟨.con, a2⟩
    obtain ⟨ds', e1, e2, e3, e4⟩ := fls s1 s2 s3
    exact ⟨.none, ds', by simp only [outI, e1, Option.map_some, e2], e3, e4⟩
  | rt v b ρ =>
    cases v with
    | val d =>
      obtain ⟨s, s1, s2, s3⟩ := g
      cases b with
      | true =>
        obtain ⟨ds', e1, e2, e3, e4⟩ := tru s1 s2 s3
        exact ⟨d, ds', by simp only [outI, e1, Option.map_some, e2], e3, e4⟩
      | false =>
        obtain ⟨s', t1, t2, t3⟩ := jO_l (P := fun s : LS => Ga M s.1 d ∧ GE M s.2 ρ) (fun a b c hj p => (jl hj).1 p) h1 s1 ⟨s2, s3⟩
        obtain ⟨ds', e1, e2, e3, e4⟩ := fls t1 t2 t3
        exact ⟨d, ds', by simp only [outI, e1, Option.map_some, e2], e3, e4⟩
    | slot i =>
      obtain ⟨hio, d, s, d1, s1, s2, s3⟩ := g
      obtain ⟨ds', e1, e2, e3, e4⟩ := tru s1 s2 s3
      exact ⟨d, ds', by simp only [outI, hio, d1, e1, Option.map_some, e2]; rfl, e3, e4⟩
/-- what a def's text says of its calls -/
def DefRun (Γ Γ' : Sem3) (nm : Nat → Str) (d : RD) : Prop := ∀ ds : List PyData, ds.length = d.io.length → Γ' d.name ds = (dSs nm (ioIx 0 d.io) Γ 40 40 d.body (ag d.io ds ++ List.replicate (d.N - ds.length) none)).bind (outI (ioIx 0 d.io) d.io ds)
def noLeave (o : AO) : Bool := o.bk.isNone && o.ct.isNone
def aRunB (D : Dra) (K : KA) (d : RD) (as : List AV) : Option (Bool × AV × List AV) :=
  if as.length = d.io.length then (aSq (aS D (ioIx 0 d.io) K 40 40) d.body (argA d.io as d.N)).bind fun o => if noLeave o then aEnd d.io as o else none else none
theorem aRunB_ok {Γ' : Sem3} (KK : KOk M Γ nm K) (DD : DrOk M Γ nm D) {d : RD} (hd : DefRun Γ Γ' nm d) {as : List AV} {r : Bool × AV × List AV} (h : aRunB D K d as = some r) {ds : List PyData} (gs : Gas M as ds) :
    ∃ v ds', Γ' d.name ds = some (r.1, v, ds') ∧ Ga M r.2.1 v ∧ Gas M r.2.2 ds' := by
  unfold aRunB at h
  split at h
  · rename_i hl
    obtain ⟨o, h1, h⟩ := bind_some h
    obtain ⟨hn, h⟩ := ite_some h
    have hl2 : ds.length = d.io.length := by rw [← gs.length]; exact hl
    have ge : GE M (argA d.io as d.N) (ag d.io ds ++ List.replicate (d.N - ds.length) none) := by
      unfold argA
      rw [gs.length]
      exact (argA_ok gs).app _
    obtain ⟨q, q1, q2⟩ := aSs_ok (n := 40) KK DD 40 d.body _ o h1 _ ge
    simp only [noLeave, Bool.and_eq_true, Option.isNone_iff_eq_none] at hn
    obtain ⟨v, ds', e1, e2, e3⟩ := aEnd_ok h gs q2 fun ρ => ⟨fun z => (by subst z; obtain ⟨A, a1, _⟩ := q2; rw [hn.1] at a1; cases a1), fun z => (by subst z; obtain ⟨A, a1, _⟩ := q2; rw [hn.2] at a1; cases a1)⟩
    exact ⟨v, ds', by rw [hd ds hl2, q1]; exact e1, e2, e3⟩
  · cases h
/-- calls by the text, as deep as told -/
def aKs (D : Dra) (K : KA) (ds : List (Option RD)) : Nat → KA
  | 0 => K
  | n + 1 => fun f as => match K f as with
    | some r => some r
    | none => match ds[f]? with
      | some (some d) => aRunB D (aKs D K ds n) d as
      | _ => none
theorem aKs_ok {Γs : Nat → Sem3} {ds : List (Option RD)} {k0 : Nat} (KK : ∀ k, KOk M (Γs (k + k0)) nm K) (DD : ∀ k, DrOk M (Γs (k + k0)) nm D) (hd : ∀ (k f : Nat) (d : RD), ds[f]? = some (some d) → d.name = nm f ∧ DefRun (Γs k) (Γs (k + 1)) nm d) :
    ∀ n k : Nat, KOk M (Γs (k + k0 + n)) nm (aKs D K ds n)
  | 0, k => KK k
  | n + 1, k => by
    intro f as r h xs gs
    have up : k + k0 + (n + 1) = (k + (n + 1)) + k0 := by omega
    simp only [aKs] at h
    split at h
    · rename_i hr
      cases h
      rw [up]
      exact KK _ f as _ hr xs gs
    · split at h
      · rename_i d d1
        obtain ⟨e1, e2⟩ := hd (k + k0 + n) f d d1
        have ih := aKs_ok KK DD hd n k
        have dd : DrOk M (Γs (k + k0 + n)) nm D := by rw [show k + k0 + n = (k + n) + k0 by omega]; exact DD _
        rw [← e1]
        exact aRunB_ok ih dd e2 h gs
      · cases h
end
end Pf


namespace Pf
open PySem PySem.Spec L2
/-! ## drawing -/
def drK (D : Dra) : KA := fun f as => if D.is f then match as with
  | [.pen k, m] => match shp m with
    | .int l h => if decide (1 ≤ l) && decide (h < 1000000) && decide (k + 1 ≤ D.B) then some (false, .int 0 (h - 1), [.pen (k + 1), m]) else none
    | _ => none
  | _ => none else none
theorem drK_ok {M : Am} {Γ : Sem3} {nm : Nat → Str} {D : Dra} (DD : DrOk M Γ nm D) : KOk M Γ nm (drK D) := by
  intro f as r h ds gs
  unfold drK at h
  obtain ⟨hf, h⟩ := ite_some h
  split at h
  · rename_i k m _
    obtain ⟨p, x, rfl, g1, g2⟩ := gs.two
    have g3 := shp_ok g2
    split at h
    · rename_i l hh e
      rw [e] at g3
      obtain ⟨hc, h⟩ := ite_some h
      cases h
      simp only [Bool.and_eq_true, decide_eq_true_eq] at hc
      cases g3 with | @int _ _ i i1 i2 => cases g1 with | pen g1 =>
        obtain ⟨v, p', e1, e2, e3, e4⟩ := DD f hf k p i hc.2 g1 (by omega) (by omega)
        exact ⟨.int v, [p', .int i], e1, .int e2 (by omega), .cons (.pen e4) (.cons g2 .nil)⟩
    · cases h
  · cases h
/-- of what sort a call's answer is -/
def isSo (r : Option (Bool × AV × List AV)) (b : Bool) (a : AV) (as : List AV) : Bool := match r with
  | some (b', a', as') => (b == b') && le 60 a' a && les (le 60) as' as
  | none => false
theorem isSo_ok {M : Am} {Γ : Sem3} {nm : Nat → Str} {K : KA} (KK : KOk M Γ nm K) {f : Nat} {as as' : List AV} {b : Bool} {a : AV} (h : isSo (K f as) b a as' = true) {ds : List PyData} (gs : Gas M as ds) : ∃ d ds', Γ (nm f) ds = some (b, d, ds') ∧ Ga M a d ∧ Gas M as' ds' := by
  cases hr : K f as with
  | none => rw [hr] at h; cases h
  | some r =>
    rw [hr] at h
    obtain ⟨b1, a1, as1⟩ := r
    simp only [isSo, Bool.and_eq_true, beq_iff_eq] at h
    obtain ⟨⟨rfl, h2⟩, h3⟩ := h
    obtain ⟨d, ds', e1, e2, e3⟩ := KK f as _ hr ds gs
    exact ⟨d, ds', e1, le_ok _ _ _ h2 _ e2, les_ok (le_ok 60) h3 e3⟩
/-- a def of the table -/
theorem def_run {T : List DefE} {G0 : List (Str × PyData)} {wf fuel k : Nat} {e : DefE} {d : RD} {nm : Nat → Str} (hf : (T.find? fun x => x.fe.name == d.name) = some e) (hio : e.fe.io = d.io) (hN : e.N.length = d.N)
    (hb : stmts (fns (ctxOf (T.map (·.fe)) G0 wf (Gam T G0 wf fuel k) e) fuel) (bkOf e) e.body = dSs nm (ioIx 0 d.io) (Gam T G0 wf fuel k) 40 40 d.body) : DefRun (Gam T G0 wf fuel k) (Gam T G0 wf fuel (k + 1)) nm d := by
  intro ds hl
  show ((T.find? fun x => x.fe.name == d.name).bind fun e => if ds.length = e.fe.io.length then runDef (ctxOf (T.map (·.fe)) G0 wf (Gam T G0 wf fuel k) e) (bkOf e) fuel e.body e.fe.io ds else none) = _
  rw [hf]
  show (if ds.length = e.fe.io.length then runDef (ctxOf (T.map (·.fe)) G0 wf (Gam T G0 wf fuel k) e) (bkOf e) fuel e.body e.fe.io ds else none) = _
  rw [if_pos (by rw [hio]; exact hl)]
  unfold runDef
  rw [hb, hio]
  have hN2 : (ctxOf (T.map (·.fe)) G0 wf (Gam T G0 wf fuel k) e).N.length = d.N := hN
  rw [hN2]
  congr 1
  funext q
  have : (ctxOf (T.map (·.fe)) G0 wf (Gam T G0 wf fuel k) e).io = ioIx 0 d.io := by
    show ioIx 0 e.fe.io = _
    rw [hio]
  cases q with
  | nx ρ => rfl
  | bk ρ => rfl
  | ct ρ => rfl
  | rt o b ρ =>
    cases o with
    | val d => rfl
    | slot i =>
      simp only [outD, outI, this] <;> rfl
end Pf


namespace Pf
open PySem PySem.Spec L2
/-! ## more plain tools -/
/-- a comprehension whose turns leave all as it was -/
theorem lc_gen {g : PyData → En → Option En} {t : Tx} {v : Vx} {is : List Nat} {ρ : En} {p : PyData → Bool} {f : PyData → PyData} {ρx : PyData → En} : ∀ (xs acc : List PyData),
    (∀ x ∈ xs, g x ρ = some (ρx x) ∧ t (ρx x) = some (p x, ρx x) ∧ (p x = true → ∃ b, v (ρx x) = some (b, f x, ρx x)) ∧ wipeE (ρx x) is = ρ) → acc.length + xs.length ≤ sizeLine →
    lcG g t v is xs acc ρ = some (acc ++ (xs.filter p).map f, ρ)
  | [], acc, _, _ => by simp [lcG]
  | x :: xs, acc, h, hl => by
    obtain ⟨h1, h2, h3, h4⟩ := h x List.mem_cons_self
    have ih := fun acc' hz => lc_gen xs acc' (fun y hy => h y (List.mem_cons_of_mem _ hy)) hz
    simp only [List.length_cons] at hl
    cases hp : p x with
    | false =>
      rw [hp] at h2
      simp only [lcG, h1, Option.bind_some, h2, Bool.false_eq_true, if_false]
      rw [h4, ih acc (by omega), List.filter_cons_of_neg (by simp [hp])]
    | true =>
      rw [hp] at h2
      obtain ⟨b, h3⟩ := h3 hp
      simp only [lcG, h1, Option.bind_some, h2, if_true, h3]
      rw [if_pos (by omega), h4, ih _ (by simp; omega), List.filter_cons_of_pos hp]
      simp
theorem eqD_ss (a b c d : Str) : eqD (.tuple [.str a, .str b]) (.tuple [.str c, .str d]) = some (decide (a = c ∧ b = d)) := by
  have h : ((PyData.tuple [.str a, .str b]).plain && (PyData.tuple [.str c, .str d]).plain && depOk (.tuple [.str a, .str b]) (.tuple [.str c, .str d])) = true := by
    simp [PyData.plain, PyData.plainAll, depOk, PyData.depth, PyData.depthAll]
  unfold eqD
  rw [if_pos h]
  simp [PyData.eqv, PyData.eqvAll]
  rw [Bool.eq_iff_iff]
  simp
theorem reprB_int {i : Int} (h : i.natAbs.log2 < 1920) : reprB [.int i] = some (.str (PyData.int i).shown) := by
  have : reprOk (.int i) = true := reprOk_of (by simpa [PyData.showable] using h) rfl (show 0 ≤ 60 by decide) rfl (show 1922 ≤ sizeLine by decide)
  simp only [reprB, this, if_true]
theorem reprB_none : reprB [.none] = some (.str PyData.none.shown) := by
  have : reprOk .none = true := reprOk_of rfl rfl (by decide) rfl (by decide)
  simp only [reprB, this, if_true]
/-! ### dicts with texts as keys -/
abbrev kd (r : Str × PyData) : PyData × PyData := (.str r.1, r.2)
abbrev kt (r : Str × PyData) : PyData := .tuple [.str r.1, r.2]
theorem keq_str (a b : Str) : keq (.str a) (.str b) = decide (a = b) := by
  rw [show PyData.str a = keyD (.inr a) from rfl, show PyData.str b = keyD (.inr b) from rfl, keq_K]
  by_cases h : a = b
  · rw [decide_eq_true h, decide_eq_true (by rw [h])]
  · rw [decide_eq_false h, decide_eq_false fun e => h (Sum.inr.inj e)]
theorem putE_str {ks : List (Str × PyData)} {x : Str} {v : PyData} (h : x ∉ ks.map (·.1)) : putE (ks.map kd) (.str x) v = (ks ++ [(x, v)]).map kd := by
  unfold putE
  rw [if_neg]
  · simp
  · simp only [List.any_map, List.any_eq_true, Function.comp, keq_str, decide_eq_true_eq]
    rintro ⟨r, hr, e⟩
    exact h (List.mem_map.mpr ⟨r, hr, e⟩)
theorem merge_str : ∀ (ks ks0 : List (Str × PyData)), ((ks0 ++ ks).map (·.1)).Nodup → mergeE (ks0.map kd) (ks.map kd) = (ks0 ++ ks).map kd
  | [], ks0, _ => by simp [mergeE]
  | r :: ks, ks0, h => by
    have e : mergeE (ks0.map kd) ((r :: ks).map kd) = mergeE (putE (ks0.map kd) (.str r.1) r.2) (ks.map kd) := rfl
    have hn : r.1 ∉ ks0.map (·.1) := by
      rw [List.map_append, List.map_cons] at h
      exact fun hm => (List.nodup_append.mp h).2.2 _ hm _ List.mem_cons_self rfl
    rw [e, putE_str hn, merge_str ks (ks0 ++ [(r.1, r.2)]) (by simpa using h)]
    simp
theorem getE_str (ks : List (Str × PyData)) (x : Str) : getE (ks.map kd) (.str x) = (ks.find? fun r => decide (r.1 = x)).map (·.2) := by
  unfold getE
  induction ks with
  | nil => rfl
  | cons r ks ih =>
    rw [List.map_cons, List.find?_cons, List.find?_cons]
    dsimp only
    rw [keq_str]
    by_cases h : r.1 = x
    · rw [decide_eq_true h]
      rfl
    · rw [decide_eq_false h]
      exact ih
theorem okKey_str (ks : List (Str × PyData)) (x : Str) : okKey (ks.map kd) (.str x) = true := by
  cases ks <;> rfl
theorem notScr_str (ks : List (Str × PyData)) : notScr (ks.map kd) = true := by
  cases ks with
  | nil => rfl
  | cons r ks => rfl
theorem pairsOf_str : ∀ ks : List (Str × PyData), pairsOf (ks.map kt) = some (ks.map kd)
  | [] => rfl
  | r :: ks => by
    rw [List.map_cons, pairsOf, pairsOf_str ks]
    rfl
theorem dict_str {ks : List (Str × PyData)} (h : (ks.map (·.1)).Nodup) (hl : ks.length ≤ sizeLine) : dictB [.tuple (ks.map kt)] = some (.dict (ks.map kd)) := by
  simp only [dictB, List.length_map, hl, if_true, pairsOf_str, Option.map_some]
  rw [show mergeE [] (ks.map kd) = mergeE (([] : List (Str × PyData)).map kd) (ks.map kd) from rfl, merge_str ks [] (by simpa using h), List.nil_append]
theorem dget_str (ks : List (Str × PyData)) (x : Str) : dgetM (.dict (ks.map kd)) [.str x] = some (((ks.find? fun r => decide (r.1 = x)).map (·.2)).getD .none) := by
  simp only [dgetM, okKey_str, if_true, getE_str]
/-! ### ranges -/
def intsL (lo : Int) : Nat → List Int
  | 0 => []
  | n + 1 => lo :: intsL (lo + 1) n
theorem intsFrom_L : ∀ (n : Nat) (lo : Int), intsFrom lo n = (intsL lo n).map .int
  | 0, _ => rfl
  | n + 1, lo => by
    show PyData.int lo :: intsFrom (lo + 1) n = _
    rw [intsFrom_L n (lo + 1)]
    rfl
theorem intsL_len : ∀ (n : Nat) (lo : Int), (intsL lo n).length = n
  | 0, _ => rfl
  | n + 1, lo => by simp [intsL, intsL_len n]
theorem intsL_mem : ∀ {n : Nat} {lo x : Int}, x ∈ intsL lo n → lo ≤ x ∧ x < lo + n
  | 0, _, _, h => by cases h
  | n + 1, lo, x, h => by
    rcases List.mem_cons.mp h with rfl | h
    · omega
    · have := intsL_mem h
      omega
theorem range_1 {n : Nat} (h : n < 4611686018427387904) : rangeD [.int n] = some ((intsL 0 n).map .int) := by
  show (if smallI n then some (intsFrom 0 (n : Int).toNat) else none) = _
  have : smallI (n : Int) = true := by simp only [smallI, decide_eq_true_eq]; omega
  rw [if_pos this, Int.toNat_natCast, intsFrom_L]
theorem range_2 {i j : Int} (h : i.natAbs < 4611686018427387904) (h2 : j.natAbs < 4611686018427387904) : rangeD [.int i, .int j] = some ((intsL i (j - i).toNat).map .int) := by
  show (if smallI i && smallI j then some (intsFrom i (j - i).toNat) else none) = _
  have a : smallI i = true := by simp only [smallI, decide_eq_true_eq]; omega
  have b : smallI j = true := by simp only [smallI, decide_eq_true_eq]; omega
  rw [a, b]
  simp only [Bool.and_self, if_true, intsFrom_L]
/-- a sign of a text -/
theorem ix_str {z : Str} {i : Int} (h0 : 0 ≤ i) (h1 : i < z.length) (hz : z.length ≤ sizeLine) : ∃ c, c ∈ z.cps.toList ∧ idxD (.str z) (.int i) = some (.str ⟨#[c]⟩) ∧ z.cps.toList[i.toNat]? = some c := by
  have hl : z.cps.toList.length = z.length := Array.length_toList
  have hi : i.toNat < z.cps.toList.length := by omega
  refine ⟨z.cps.toList[i.toNat], List.getElem_mem hi, ?_, List.getElem?_eq_getElem hi⟩
  simp only [idxD, hz, if_true, atI]
  have e : ixN z.cps.toList.length i = some i.toNat := by
    unfold ixN
    rw [if_pos h0, if_pos (by omega)]
  rw [e, Option.bind_some, List.getElem?_eq_getElem hi]
  rfl
theorem reprB_bool (b : Bool) : ∃ w, reprB [.bool b] = some (.str w) := by
  cases b
  · exact ⟨(PyData.bool false).shown, by simp only [reprB, show reprOk (.bool false) = true from reprOk_of rfl rfl (by decide) rfl (by decide), if_true]⟩
  · exact ⟨(PyData.bool true).shown, by simp only [reprB, show reprOk (.bool true) = true from reprOk_of rfl rfl (by decide) rfl (by decide), if_true]⟩
/-- x in a list of texts -/
theorem in_strs (x : Str) (ks : List Str) : inD (.str x) (.list (ks.map .str)) = some (decide (x ∈ ks)) := by
  have hp : ∀ ks : List Str, PyData.plainAll (ks.map .str) = true := fun ks => by
    induction ks with
    | nil => rfl
    | cons k ks ih => simp only [List.map_cons, PyData.plainAll, PyData.plain, ih, Bool.and_self]
  have h : (PyData.plainAll (ks.map .str) && (PyData.str x).plain && (decide ((PyData.str x).depth ≤ 60) || decide (PyData.depthAll (ks.map .str) ≤ 60))) = true := by
    rw [hp]
    simp [PyData.plain, PyData.depth]
  simp only [inD, h, if_true]
  congr 1
  rw [Bool.eq_iff_iff, decide_eq_true_eq, List.any_map, List.any_eq_true]
  constructor
  · rintro ⟨k, hk, e⟩
    have : k = x := by simpa [PyData.eqv] using e
    exact this ▸ hk
  · exact fun hm => ⟨x, hm, by simp [PyData.eqv]⟩
theorem idxD_l (xs : List PyData) (i : Int) : idxD (.list xs) (.int i) = (ixN xs.length i).bind fun j => xs[j]? := rfl
theorem idxD_t (xs : List PyData) (i : Int) : idxD (.tuple xs) (.int i) = (ixN xs.length i).bind fun j => xs[j]? := rfl
theorem setIx_l (xs : List PyData) (k : Int) (v : PyData) : setIx (.list xs) (.int k) v = (ixN xs.length k).map fun j => .list (xs.set j v) := rfl
/-! ### a pen that is a dict -/
abbrev pend (c a l : PyData) : PyData := .dict [(.str "cells", c), (.str "at", a), (.str "left", l)]
theorem pend_c (c a l : PyData) : idxD (pend c a l) (.str "cells") = some c := rfl
theorem pend_a (c a l : PyData) : idxD (pend c a l) (.str "at") = some a := rfl
theorem pend_l (c a l : PyData) : idxD (pend c a l) (.str "left") = some l := rfl
theorem pend_sa (c a l v : PyData) : setIx (pend c a l) (.str "at") v = some (pend c v l) := rfl
theorem pend_sl (c a l v : PyData) : setIx (pend c a l) (.str "left") v = some (pend c a v) := rfl
theorem mulOk_l {a b : Int} (h : a.natAbs < 2 ^ 64) : mulOk a b = true := by
  unfold mulOk
  rw [decide_eq_true h]
  rfl
theorem mulOk_r {a b : Int} (h : b.natAbs < 2 ^ 64) : mulOk a b = true := by
  unfold mulOk
  rw [decide_eq_true h, Bool.or_true]
  rfl
theorem fmodR {a m : Int} (h : 0 < m) : 0 ≤ a.fmod m ∧ a.fmod m < m := by
  rw [Int.fmod_eq_emod_of_nonneg _ (by omega)]
  exact ⟨Int.emod_nonneg _ (by omega), Int.emod_lt_of_pos _ h⟩
theorem mulOk_fmod {a b m : Int} (h : 0 < m) (h2 : m < 2 ^ 63) : mulOk (a.fmod m) b = true := by
  obtain ⟨h3, h4⟩ := fmodR (a := a) h
  exact mulOk_l (by omega)
/-- a comprehension whose test draws -/
theorem lc_fil {t : Tx} {v : Vx} {i : Nat} {S : Nat → En → Prop} {c M : Nat} (wp : ∀ n ρ x, n ≤ M → S n ρ → ∃ b ρ', t (ρ.set i (some (false, x))) = some (b, ρ') ∧ (b = true → ∃ b', v ρ' = some (b', x, ρ')) ∧ S (n + c) (wipeE ρ' [i])) : ∀ (xs acc : List PyData) (n : Nat) (ρ : En), S n ρ → n + c * xs.length ≤ M → acc.length + xs.length ≤ sizeLine →
    ∃ ys ρ', lcG (g1 i) t v [i] xs acc ρ = some (acc ++ ys, ρ') ∧ ys.Sublist xs ∧ S (n + c * xs.length) ρ'
  | [], acc, n, ρ, hs, _, _ => ⟨[], ρ, by simp [lcG], .slnil, hs⟩
  | x :: xs, acc, n, ρ, hs, hM, hl => by
    simp only [List.length_cons] at hl hM
    rw [Nat.mul_add, Nat.mul_one] at hM
    obtain ⟨b, ρ1, e1, h1, s1⟩ := wp n ρ x (by omega) hs
    have hc : n + c * (x :: xs).length = n + c + c * xs.length := by rw [List.length_cons, Nat.mul_add]; omega
    cases b with
    | false =>
      obtain ⟨ys, ρ2, e2, l2, s2⟩ := lc_fil wp xs acc (n + c) _ s1 (by omega) (by omega)
      refine ⟨ys, ρ2, ?_, .cons _ l2, by rw [hc]; exact s2⟩
      simp only [lcG, g1, Option.bind_some, e1, Bool.false_eq_true, if_false]
      exact e2
    | true =>
      obtain ⟨b', e3⟩ := h1 rfl
      obtain ⟨ys, ρ2, e2, l2, s2⟩ := lc_fil wp xs (acc ++ [x]) (n + c) _ s1 (by omega) (by simp; omega)
      refine ⟨x :: ys, ρ2, ?_, .cons₂ _ l2, by rw [hc]; exact s2⟩
      simp only [lcG, g1, Option.bind_some, e1, if_true, e3]
      rw [if_pos (by omega), e2]
      simp
/-- .. whose turns draw, each item with what it came from -/
theorem lc_rel {v : Vx} {i : Nat} {S : Nat → En → Prop} {Q : PyData → Prop} {R : PyData → PyData → Prop} {c M : Nat} (wp : ∀ n ρ x, Q x → n ≤ M → S n ρ → ∃ b y ρ', v (ρ.set i (some (false, x))) = some (b, y, ρ') ∧ R x y ∧ S (n + c) (wipeE ρ' [i])) : ∀ (xs acc : List PyData) (n : Nat) (ρ : En), (∀ x ∈ xs, Q x) → S n ρ → n + c * xs.length ≤ M → acc.length + xs.length ≤ sizeLine →
    ∃ ys ρ', lcG (g1 i) tTr v [i] xs acc ρ = some (acc ++ ys, ρ') ∧ PySem.W.EachIs R xs ys ∧ S (n + c * xs.length) ρ'
  | [], acc, n, ρ, _, hs, _, _ => ⟨[], ρ, by simp [lcG], .nil, hs⟩
  | x :: xs, acc, n, ρ, hq, hs, hM, hl => by
    simp only [List.length_cons] at hl hM
    rw [Nat.mul_add, Nat.mul_one] at hM
    obtain ⟨b, y, ρ1, e1, r1, s1⟩ := wp n ρ x (hq x List.mem_cons_self) (by omega) hs
    obtain ⟨ys, ρ2, e2, r2, s2⟩ := lc_rel wp xs (acc ++ [y]) (n + c) _ (fun z hz => hq z (List.mem_cons_of_mem _ hz)) s1 (by omega) (by simp; omega)
    refine ⟨y :: ys, ρ2, ?_, .cons r1 r2, ?_⟩
    · simp only [lcG, g1, Option.bind_some, tTr, if_true, e1]
      rw [if_pos (by omega), e2]
      simp
    · have : n + c * (xs.length + 1) = n + c + c * xs.length := by rw [Nat.mul_add]; omega
      rw [List.length_cons, this]
      exact s2
/-! ### sorting -/
theorem sortD_perm (xs : List PyData) : (sortD xs).Perm xs := List.mergeSort_perm xs _
theorem map_perm {α : Type} {f : α → PyData} : ∀ {ys : List PyData} {xs : List α}, (∀ y ∈ ys, ∃ x ∈ xs, y = f x) → ∃ zs : List α, ys = zs.map f ∧ ∀ z ∈ zs, z ∈ xs
  | [], _, _ => ⟨[], rfl, fun z hz => by cases hz⟩
  | y :: ys, xs, h => by
    obtain ⟨x, hx, rfl⟩ := h y List.mem_cons_self
    obtain ⟨zs, rfl, hz⟩ := map_perm (f := f) fun z hz => h z (List.mem_cons_of_mem _ hz)
    exact ⟨x :: zs, rfl, fun z hz' => by
      rcases List.mem_cons.mp hz' with rfl | hz'
      · exact hx
      · exact hz z hz'⟩
theorem sort_map {α : Type} {f : α → PyData} (inj : ∀ a b, f a = f b → a = b) (xs : List α) : ∃ zs : List α, sortD (xs.map f) = zs.map f ∧ zs.Perm xs := by
  have p := sortD_perm (xs.map f)
  obtain ⟨zs, e, _⟩ := map_perm (f := f) (ys := sortD (xs.map f)) (xs := xs) fun y hy => by
    obtain ⟨x, hx, rfl⟩ := List.mem_map.mp (p.mem_iff.mp hy)
    exact ⟨x, hx, rfl⟩
  rw [e] at p
  refine ⟨zs, e, ?_⟩
  have pw : ∀ {l : List α} {m : List PyData}, (l.map f).Perm m → ∀ m', m = m'.map f → l.Perm m' := by
    intro l
    induction l with
    | nil =>
      intro m hm m' e
      subst e
      have := hm.length_eq
      simp at this
      rw [List.eq_nil_of_length_eq_zero this.symm]
    | cons a l ih =>
      intro m hm m' e
      subst e
      have ha : f a ∈ m'.map f := hm.mem_iff.mp (by simp)
      obtain ⟨b, hb, hbe⟩ := List.mem_map.mp ha
      have := inj _ _ hbe
      subst this
      obtain ⟨s1, s2, rfl⟩ := List.append_of_mem hb
      have h2 : (l.map f).Perm ((s1 ++ s2).map f) := by
        have h3 : ((s1 ++ b :: s2).map f).Perm (f b :: (s1 ++ s2).map f) := by
          rw [List.map_append, List.map_cons, List.map_append]
          exact List.perm_middle
        exact (hm.trans h3).cons_inv
      exact ((ih h2 _ rfl).cons b).trans List.perm_middle.symm
  exact pw p _ rfl
theorem sortOk_of {xs : List PyData} (h1 : ∀ a ∈ xs, ∀ b ∈ xs, PySem.W.alike a b = true) (h2 : (∀ a ∈ xs, tupNE a = true) ∨ ∀ a ∈ xs, notTN a = true) (h3 : ∀ a ∈ xs, a.depth ≤ 60 ∧ a.plain = true) (h4 : xs.length ≤ sizeLine) : sortOk xs = true := by
  have hp : ∀ {xs : List PyData}, (∀ a ∈ xs, a.depth ≤ 60 ∧ a.plain = true) → PyData.plainAll xs = true := by
    intro xs
    induction xs with
    | nil => intro _; rfl
    | cons x xs ih =>
      intro h
      rw [PyData.plainAll, (h x List.mem_cons_self).2, ih fun a ha => h a (List.mem_cons_of_mem _ ha)]
      rfl
  unfold sortOk
  simp only [Bool.and_eq_true, Bool.or_eq_true, List.all_eq_true, decide_eq_true_eq]
  exact ⟨⟨⟨⟨h1, h2⟩, fun a ha => (h3 a ha).1⟩, hp h3⟩, h4⟩
theorem sorted_strs (ks : List Str) (h : ks.length ≤ sizeLine) : ∃ zs : List Str, sortedB [.list (ks.map .str)] = some (.list (zs.map .str)) ∧ zs.Perm ks := by
  obtain ⟨zs, e, p⟩ := sort_map (f := PyData.str) (fun a b h => by cases h; rfl) ks
  refine ⟨zs, ?_, p⟩
  have ok : sortOk (ks.map .str) = true := by
    refine sortOk_of ?_ (.inr ?_) ?_ (by rw [List.length_map]; exact h)
    · intro a ha b hb
      obtain ⟨x, _, rfl⟩ := List.mem_map.mp ha
      obtain ⟨y, _, rfl⟩ := List.mem_map.mp hb
      simp [PySem.W.alike]
    · intro a ha
      obtain ⟨x, _, rfl⟩ := List.mem_map.mp ha
      rfl
    · intro a ha
      obtain ⟨x, _, rfl⟩ := List.mem_map.mp ha
      exact ⟨by simp [PyData.depth], by simp [PyData.plain]⟩
  simp only [sortedB, ok, if_true, e]
/-! ### dicts with two texts as a key -/
abbrev ss2 (r : Str × Str) : PyData := .tuple [.str r.1, .str r.2]
abbrev kd2 (r : Str × Str × PyData) : PyData × PyData := (ss2 (r.1, r.2.1), r.2.2)
theorem sorted_ss (ks : List (Str × Str)) (h : ks.length ≤ sizeLine) : ∃ zs : List (Str × Str), sortedB [.list (ks.map ss2)] = some (.list (zs.map ss2)) ∧ zs.Perm ks := by
  obtain ⟨zs, e, p⟩ := sort_map (f := ss2) (fun a b h => by
    cases a
    cases b
    simp only [ss2, PyData.tuple.injEq, List.cons.injEq, PyData.str.injEq, and_true] at h
    rw [h.1, h.2]) ks
  refine ⟨zs, ?_, p⟩
  have ok : sortOk (ks.map ss2) = true := by
    refine sortOk_of ?_ (.inl ?_) ?_ (by rw [List.length_map]; exact h)
    · intro a ha b hb
      obtain ⟨x, _, rfl⟩ := List.mem_map.mp ha
      obtain ⟨y, _, rfl⟩ := List.mem_map.mp hb
      simp [PySem.W.alike, PySem.W.alikeAll]
    · intro a ha
      obtain ⟨x, _, rfl⟩ := List.mem_map.mp ha
      rfl
    · intro a ha
      obtain ⟨x, _, rfl⟩ := List.mem_map.mp ha
      exact ⟨by simp [PyData.depth, PyData.depthAll], by simp [PyData.plain, PyData.plainAll]⟩
  simp only [sortedB, ok, if_true, e]
theorem keq_ss (a b c d : Str) : keq (ss2 (a, b)) (ss2 (c, d)) = decide (a = c ∧ b = d) := by
  rw [show ss2 (a, b) = keysD [.inr a, .inr b] from rfl, show ss2 (c, d) = keysD [.inr c, .inr d] from rfl, keq_T (by simp)]
  by_cases h : a = c ∧ b = d
  · rw [decide_eq_true h, decide_eq_true (by rw [h.1, h.2])]
  · rw [decide_eq_false h, decide_eq_false fun e => h (by simpa using e)]
theorem okKey_ss (ks : List (Str × Str × PyData)) (x y : Str) : okKey (ks.map kd2) (ss2 (x, y)) = true := by
  cases ks <;> rfl
theorem putE_ss (ks : List (Str × Str × PyData)) (x y : Str) (v : PyData) : ∃ ks' : List (Str × Str × PyData), putE (ks.map kd2) (ss2 (x, y)) v = ks'.map kd2 ∧ ks'.length ≤ ks.length + 1 ∧ (∀ r ∈ ks', r ∈ ks ∨ r = (x, y, v)) ∧ ((ks.map fun r => (r.1, r.2.1)).Nodup → (ks'.map fun r => (r.1, r.2.1)).Nodup) := by
  unfold putE
  by_cases h : ((ks.map kd2).any fun e => keq e.1 (ss2 (x, y))) = true
  · rw [if_pos h]
    refine ⟨ks.map fun r => if r.1 = x ∧ r.2.1 = y then (r.1, r.2.1, v) else r, ?_, by simp, ?_, ?_⟩
    · rw [List.map_map, List.map_map]
      refine List.map_congr_left fun r _ => ?_
      simp only [Function.comp, kd2, keq_ss]
      by_cases h : r.1 = x ∧ r.2.1 = y
      · rw [if_pos h, decide_eq_true h, if_pos rfl]
      · rw [if_neg h, decide_eq_false h, if_neg Bool.false_ne_true]
    · intro r hr
      obtain ⟨q, hq, rfl⟩ := List.mem_map.mp hr
      by_cases h : q.1 = x ∧ q.2.1 = y
      · rw [if_pos h, h.1, h.2]
        exact .inr rfl
      · rw [if_neg h]
        exact .inl hq
    · intro hn
      rw [List.map_map]
      have : ((fun r : Str × Str × PyData => (r.1, r.2.1)) ∘ fun r => if r.1 = x ∧ r.2.1 = y then (r.1, r.2.1, v) else r) = fun r => (r.1, r.2.1) := by
        funext r
        simp only [Function.comp]
        split <;> rfl
      rw [this]
      exact hn
  · rw [if_neg h]
    refine ⟨ks ++ [(x, y, v)], by simp, by simp, ?_, ?_⟩
    · intro r hr
      rcases List.mem_append.mp hr with hr | hr
      · exact .inl hr
      · exact .inr (List.mem_singleton.mp hr)
    · intro hn
      rw [List.map_append, List.nodup_append]
      refine ⟨hn, by simp, ?_⟩
      intro a ha b hb e
      subst e
      simp only [List.map_cons, List.map_nil, List.mem_singleton] at hb
      subst hb
      obtain ⟨r, hr, he⟩ := List.mem_map.mp ha
      refine h ?_
      simp only [List.any_map, List.any_eq_true, Function.comp, kd2, keq_ss, decide_eq_true_eq]
      simp only [Prod.mk.injEq] at he
      exact ⟨r, hr, he.1, he.2⟩
theorem getE_ss (ks : List (Str × Str × PyData)) {x y : Str} (h : (x, y) ∈ ks.map fun r => (r.1, r.2.1)) : ∃ v, getE (ks.map kd2) (ss2 (x, y)) = some v ∧ (x, y, v) ∈ ks := by
  unfold getE
  induction ks with
  | nil => cases h
  | cons r ks ih =>
    rw [List.map_cons, List.find?_cons]
    dsimp only
    rw [keq_ss]
    by_cases hr : r.1 = x ∧ r.2.1 = y
    · rw [decide_eq_true hr]
      refine ⟨r.2.2, rfl, ?_⟩
      rw [← hr.1, ← hr.2]
      exact List.mem_cons_self
    · rw [decide_eq_false hr]
      rw [List.map_cons] at h
      rcases List.mem_cons.mp h with h | h
      · simp only [Prod.mk.injEq] at h
        exact (hr ⟨h.1.symm, h.2.symm⟩).elim
      · obtain ⟨v, e, hm⟩ := ih h
        exact ⟨v, e, List.mem_cons_of_mem _ hm⟩
/-! ### single signs joined -/
theorem str_ext {a b : Str} (h : a.cps.toList = b.cps.toList) : a = b := by
  have hc : a.cps = b.cps := Array.toList_inj.mp h
  cases a
  cases b
  cases hc
  rfl
theorem join_nil : ∀ xs : List Str, (Str.join "" xs).cps.toList = (xs.map fun x => x.cps.toList).flatten
  | [] => by decide +kernel
  | [x] => by simp [Str.join]
  | x :: y :: xs => by
    have ih := join_nil (y :: xs)
    have e : Str.join "" (x :: y :: xs) = x ++ "" ++ Str.join "" (y :: xs) := rfl
    rw [e]
    show ((x.cps ++ Str.cps "") ++ (Str.join "" (y :: xs)).cps).toList = _
    have e0 : (Str.cps "").toList = [] := by decide +kernel
    rw [Array.toList_append, Array.toList_append, e0, ih]
    simp
theorem strsOf_chars : ∀ cs : List Nat, strsOf (cs.map fun c => PyData.str ⟨#[c]⟩) = some (cs.map fun c => (⟨#[c]⟩ : Str))
  | [] => rfl
  | c :: cs => by
    rw [List.map_cons, strsOf, strsOf_chars cs]
    rfl
theorem join_chars (cs : List Nat) (h : cs.length ≤ 1000000) : metD "join" (.str "") [.list (cs.map fun c => PyData.str ⟨#[c]⟩)] = some (.str ⟨cs.toArray⟩) := by
  unfold metD
  simp only [if_true, strsOf_chars, Option.bind_some]
  have e0 : (("" : Str)).length = 0 := by decide
  have e1 : ((cs.map fun c => (⟨#[c]⟩ : Str)).map (·.length)).sum = cs.length := by
    induction cs with
    | nil => rfl
    | cons c cs ih =>
      rw [List.map_cons, List.map_cons, List.sum_cons, ih (by simp at h; omega), List.length_cons]
      show 1 + _ = _
      omega
  rw [if_pos (by rw [e1, e0]; omega)]
  congr 2
  rw [TL.join_eq]
  refine str_ext ?_
  rw [join_nil, List.map_map]
  have : ∀ cs : List Nat, (cs.map ((fun x : Str => x.cps.toList) ∘ fun c => (⟨#[c]⟩ : Str))).flatten = cs := fun cs => by
    induction cs with
    | nil => rfl
    | cons c cs ih =>
      rw [List.map_cons, List.flatten_cons, ih]
      rfl
  rw [this]
/-- a comprehension gives no more than it walks -/
theorem lc_len {g : PyData → En → Option En} {t : Tx} {v : Vx} {is : List Nat} : ∀ {xs acc : List PyData} {ρ : En} {q : List PyData × En}, lcG g t v is xs acc ρ = some q → q.1.length ≤ acc.length + xs.length
  | [], acc, ρ, q, h => by
    simp only [lcG] at h
    cases h
    exact Nat.le_refl _
  | x :: xs, acc, ρ, q, h => by
    simp only [lcG] at h
    obtain ⟨ρ1, _, h⟩ := Option.bind_eq_some_iff.mp h
    obtain ⟨k, _, h⟩ := Option.bind_eq_some_iff.mp h
    split at h
    · obtain ⟨r, _, h⟩ := Option.bind_eq_some_iff.mp h
      split at h
      · have := lc_len h
        simp only [List.length_append, List.length_cons, List.length_nil] at this ⊢
        omega
      · cases h
    · have := lc_len h
      simp only [List.length_cons]
      omega
end Pf


namespace Pf
open PySem PySem.Spec L2
/-! ## comprehensions as they stand in a text -/
theorem xLcL_all {is : List Nat} {it : En → Option (List PyData × En)} {g : PyData → En → Option En} {t : Tx} {v : Vx} {ρ ρ1 : En} (xs : List PyData) (p : PyData → Bool) (f : PyData → PyData) (ρx : PyData → En) (hit : it ρ = some (xs, ρ1))
    (h : ∀ x ∈ xs, g x (wipeE (frzs ρ1 is) is) = some (ρx x) ∧ t (ρx x) = some (p x, ρx x) ∧ (p x = true → ∃ b, v (ρx x) = some (b, f x, ρx x)) ∧ wipeE (ρx x) is = wipeE (frzs ρ1 is) is) (hl : xs.length ≤ sizeLine) :
    xLcL is it g t v ρ = some ((xs.filter p).map f, backE (frzs ρ1 is) (wipeE (frzs ρ1 is) is) is) := by
  unfold xLcL
  rw [hit, Option.bind_some]
  dsimp only
  rw [lc_gen (p := p) (f := f) (ρx := ρx) xs [] h (by simpa using hl), Option.bind_some, List.nil_append]
theorem xLc_all {is : List Nat} {it : En → Option (List PyData × En)} {g : PyData → En → Option En} {t : Tx} {v : Vx} {ρ ρ1 : En} (xs : List PyData) (p : PyData → Bool) (f : PyData → PyData) (ρx : PyData → En) (hit : it ρ = some (xs, ρ1))
    (h : ∀ x ∈ xs, g x (wipeE (frzs ρ1 is) is) = some (ρx x) ∧ t (ρx x) = some (p x, ρx x) ∧ (p x = true → ∃ b, v (ρx x) = some (b, f x, ρx x)) ∧ wipeE (ρx x) is = wipeE (frzs ρ1 is) is) (hl : xs.length ≤ sizeLine) :
    xLc is it g t v ρ = some (.val (.list ((xs.filter p).map f)), true, backE (frzs ρ1 is) (wipeE (frzs ρ1 is) is) is) := by
  unfold xLc
  rw [xLcL_all xs p f ρx hit h hl, Option.bind_some]
/-- the same, the items told by a map -/
theorem lcL_map {α : Type} {is : List Nat} {it : En → Option (List PyData × En)} {g : PyData → En → Option En} {t : Tx} {v : Vx} {ρ ρ1 : En} (as : List α) (e : α → PyData) (p : α → Bool) (f : α → PyData) (ρx : α → En) (hit : it ρ = some (as.map e, ρ1))
    (h : ∀ a ∈ as, g (e a) (wipeE (frzs ρ1 is) is) = some (ρx a) ∧ t (ρx a) = some (p a, ρx a) ∧ (p a = true → ∃ b, v (ρx a) = some (b, f a, ρx a)) ∧ wipeE (ρx a) is = wipeE (frzs ρ1 is) is) (hl : as.length ≤ sizeLine) :
    xLcL is it g t v ρ = some ((as.filter p).map f, backE (frzs ρ1 is) (wipeE (frzs ρ1 is) is) is) := by
  unfold xLcL
  rw [hit, Option.bind_some]
  dsimp only
  have go : ∀ (as : List α) (acc : List PyData), (∀ a ∈ as, g (e a) (wipeE (frzs ρ1 is) is) = some (ρx a) ∧ t (ρx a) = some (p a, ρx a) ∧ (p a = true → ∃ b, v (ρx a) = some (b, f a, ρx a)) ∧ wipeE (ρx a) is = wipeE (frzs ρ1 is) is) → acc.length + as.length ≤ sizeLine →
      lcG g t v is (as.map e) acc (wipeE (frzs ρ1 is) is) = some (acc ++ (as.filter p).map f, wipeE (frzs ρ1 is) is) := by
    intro as
    induction as with
    | nil => intro acc _ _; simp [lcG]
    | cons a as ih =>
      intro acc h hl
      obtain ⟨h1, h2, h3, h4⟩ := h a List.mem_cons_self
      have ih := fun acc' hz => ih acc' (fun y hy => h y (List.mem_cons_of_mem _ hy)) hz
      simp only [List.length_cons] at hl
      cases hp : p a with
      | false =>
        rw [hp] at h2
        simp only [List.map_cons, lcG, h1, Option.bind_some, h2, Bool.false_eq_true, if_false]
        rw [h4, ih acc (by omega), List.filter_cons_of_neg (by simp [hp])]
      | true =>
        rw [hp] at h2
        obtain ⟨b, h3⟩ := h3 hp
        simp only [List.map_cons, lcG, h1, Option.bind_some, h2, if_true, h3]
        rw [if_pos (by omega), h4, ih _ (by simp; omega), List.filter_cons_of_pos hp]
        simp
  rw [go as [] h (by simpa using hl), Option.bind_some, List.nil_append]
theorem lc_map {α : Type} {is : List Nat} {it : En → Option (List PyData × En)} {g : PyData → En → Option En} {t : Tx} {v : Vx} {ρ ρ1 : En} (as : List α) (e : α → PyData) (p : α → Bool) (f : α → PyData) (ρx : α → En) (hit : it ρ = some (as.map e, ρ1))
    (h : ∀ a ∈ as, g (e a) (wipeE (frzs ρ1 is) is) = some (ρx a) ∧ t (ρx a) = some (p a, ρx a) ∧ (p a = true → ∃ b, v (ρx a) = some (b, f a, ρx a)) ∧ wipeE (ρx a) is = wipeE (frzs ρ1 is) is) (hl : as.length ≤ sizeLine) :
    xLc is it g t v ρ = some (.val (.list ((as.filter p).map f)), true, backE (frzs ρ1 is) (wipeE (frzs ρ1 is) is) is) := by
  unfold xLc
  rw [lcL_map as e p f ρx hit h hl, Option.bind_some]
/-! ### sums -/
theorem intsOf_map : ∀ ns : List Int, intsOf (ns.map .int) = some ns
  | [] => rfl
  | n :: ns => by rw [List.map_cons, intsOf, intsOf_map ns]; rfl
theorem sumB_ints (ns : List Int) : sumB [.list (ns.map .int)] = some (.int ns.sum) := by
  simp only [sumB, intsOf_map, Option.map_some]
theorem sumB_map {α : Type} (f : α → Int) (as : List α) : sumB [.list (as.map fun a => .int (f a))] = some (.int (as.map f).sum) := by
  have : (as.map fun a => PyData.int (f a)) = (as.map f).map .int := by rw [List.map_map]; rfl
  rw [this, sumB_ints]
theorem addsD_lists : ∀ (xss : List (List PyData)) (acc : List PyData), acc.length + xss.flatten.length ≤ sizeLine → addsD (.list acc) (xss.map .list) = some (.list (acc ++ xss.flatten))
  | [], acc, _ => by simp [addsD]
  | xs :: xss, acc, h => by
    simp only [List.flatten_cons, List.length_append] at h
    have h1 : acc.length + xs.length ≤ sizeLine := by omega
    have ih := addsD_lists xss (acc ++ xs) (by simp only [List.length_append]; omega)
    simp only [List.map_cons, addsD, seqB, if_true, addD, h1, Option.bind_some, ih, List.flatten_cons, List.append_assoc]
theorem sumS_lists (xss : List (List PyData)) (h : xss.flatten.length ≤ sizeLine) : sumS [.list (xss.map .list), .list []] = some (.list xss.flatten) := by
  simp only [sumS, seqB, if_true]
  rw [addsD_lists xss [] (by simpa using h), List.nil_append]
/-! ### == and in -/
theorem plains_ints (ns : List Int) : PyData.plainAll (ns.map .int) = true := by
  induction ns with
  | nil => rfl
  | cons n ns ih => simp only [List.map_cons, PyData.plainAll, PyData.plain, ih, Bool.and_self]
theorem in_ints (x : Int) (ks : List Int) : inD (.int x) (.list (ks.map .int)) = some (decide (x ∈ ks)) := by
  have h : (PyData.plainAll (ks.map .int) && (PyData.int x).plain && (decide ((PyData.int x).depth ≤ 60) || decide (PyData.depthAll (ks.map .int) ≤ 60))) = true := by
    rw [plains_ints]
    simp [PyData.plain, PyData.depth]
  simp only [inD, h, if_true]
  congr 1
  rw [Bool.eq_iff_iff, decide_eq_true_eq, List.any_map, List.any_eq_true]
  constructor
  · rintro ⟨k, hk, e⟩
    have : k = x := by simpa [PyData.eqv] using e
    exact this ▸ hk
  · exact fun hm => ⟨x, hm, by simp [PyData.eqv]⟩
theorem eq_nil (xs : List PyData) (h : PyData.plainAll xs = true) : eqD (.list xs) (.list []) = some xs.isEmpty := by
  have h2 : ((PyData.list xs).plain && (PyData.list []).plain && depOk (.list xs) (.list [])) = true := by
    simp [PyData.plain, PyData.plainAll, h, depOk, PyData.depth, PyData.depthAll]
  unfold eqD
  rw [if_pos h2]
  cases xs <;> rfl
theorem eq_nilT (xs : List PyData) (h : PyData.plainAll xs = true) : eqD (.tuple xs) (.tuple []) = some xs.isEmpty := by
  have h2 : ((PyData.tuple xs).plain && (PyData.tuple []).plain && depOk (.tuple xs) (.tuple [])) = true := by
    simp [PyData.plain, PyData.plainAll, h, depOk, PyData.depth, PyData.depthAll]
  unfold eqD
  rw [if_pos h2]
  cases xs <;> rfl
theorem dict_strL {ks : List (Str × PyData)} (h : (ks.map (·.1)).Nodup) (hl : ks.length ≤ sizeLine) : dictB [.list (ks.map kt)] = some (.dict (ks.map kd)) := by
  simp only [dictB, List.length_map, hl, if_true, pairsOf_str, Option.map_some]
  rw [show mergeE [] (ks.map kd) = mergeE (([] : List (Str × PyData)).map kd) (ks.map kd) from rfl, merge_str ks [] (by simpa using h), List.nil_append]
/-! ### what repr may show -/
structure Fine (n w : Nat) (d : PyData) : Prop where
  sh : d.showable = true
  pl : d.plain = true
  dp : d.depth ≤ n
  lo : lowD d = true
  wt : wt d ≤ w
structure Fines (n w : Nat) (ds : List PyData) : Prop where
  sh : PyData.showableAll ds = true
  pl : PyData.plainAll ds = true
  dp : PyData.depthAll ds ≤ n
  lo : lowAll ds = true
  wt : wtAll ds ≤ ds.length * (w + 2)
theorem Fine.mono {n w n' w' : Nat} {d : PyData} (h : Fine n w d) (hn : n ≤ n') (hw : w ≤ w') : Fine n' w' d := ⟨h.sh, h.pl, Nat.le_trans h.dp hn, h.lo, Nat.le_trans h.wt hw⟩
theorem fine_none {n w : Nat} (h : 4 ≤ w) : Fine n w .none := ⟨rfl, rfl, by simp [PyData.depth], rfl, by simpa [wt] using h⟩
theorem fine_bool {n w : Nat} (b : Bool) (h : 5 ≤ w) : Fine n w (.bool b) := ⟨rfl, rfl, by simp [PyData.depth], rfl, by simpa [wt] using h⟩
theorem logI_small {i : Int} (h : i.natAbs < 2 ^ 1000) : i.natAbs.log2 < 1920 := by
  by_cases h1 : i.natAbs = 0
  · rw [h1]
    decide
  · have := (Nat.log2_lt h1).mpr h
    omega
theorem fine_int {n w : Nat} {i : Int} (h : i.natAbs < 2 ^ 1000) (hw : 1922 ≤ w) : Fine n w (.int i) := ⟨by simpa [PyData.showable] using logI_small h, rfl, by simp [PyData.depth], rfl, by simpa [wt] using hw⟩
theorem fine_str {n w : Nat} {z : Str} (h : ∀ c ∈ z.cps.toList, c < 16 ^ 8) (hw : 10 * z.length + 2 ≤ w) : Fine n w (.str z) := ⟨rfl, rfl, by simp [PyData.depth], List.all_eq_true.mpr fun c hc => decide_eq_true (h c hc), by simpa [wt] using hw⟩
theorem fines_of {n w : Nat} : ∀ {ds : List PyData}, (∀ d ∈ ds, Fine n w d) → Fines n w ds
  | [], _ => ⟨rfl, rfl, by simp [PyData.depthAll], rfl, by simp [wtAll]⟩
  | d :: ds, h => by
    have h1 := h d List.mem_cons_self
    have h2 := fines_of fun e he => h e (List.mem_cons_of_mem _ he)
    refine ⟨by simp [PyData.showableAll, h1.sh, h2.sh], by simp [PyData.plainAll, h1.pl, h2.pl], ?_, by simp [lowAll, h1.lo, h2.lo], ?_⟩
    · have := h1.dp
      have := h2.dp
      simp only [PyData.depthAll]
      omega
    · have := h1.wt
      have := h2.wt
      simp only [wtAll, List.length_cons, Nat.succ_mul]
      omega
theorem fine_list {n w m v : Nat} {ds : List PyData} (h : ∀ d ∈ ds, Fine n w d) (hl : ds.length ≤ m) (hv : 3 + m * (w + 2) ≤ v) : Fine (n + 1) v (.list ds) := by
  have f := fines_of h
  refine ⟨by simpa [PyData.showable] using f.sh, by simpa [PyData.plain] using f.pl, ?_, by simpa [lowD] using f.lo, ?_⟩
  · have := f.dp
    simp only [PyData.depth]
    omega
  · have h1 := f.wt
    have h2 : ds.length * (w + 2) ≤ m * (w + 2) := Nat.mul_le_mul_right _ hl
    simp only [Pf.wt]
    omega
theorem fine_tuple {n w m v : Nat} {ds : List PyData} (h : ∀ d ∈ ds, Fine n w d) (hl : ds.length ≤ m) (hv : 3 + m * (w + 2) ≤ v) : Fine (n + 1) v (.tuple ds) := by
  have f := fines_of h
  refine ⟨by simpa [PyData.showable] using f.sh, by simpa [PyData.plain] using f.pl, ?_, by simpa [lowD] using f.lo, ?_⟩
  · have := f.dp
    simp only [PyData.depth]
    omega
  · have h1 := f.wt
    have h2 : ds.length * (w + 2) ≤ m * (w + 2) := Nat.mul_le_mul_right _ hl
    simp only [Pf.wt]
    omega
theorem Fine.repr {n w : Nat} {d : PyData} (h : Fine n w d) (hn : n ≤ 60) (hw : w ≤ 16777216) : ∃ s, reprB [d] = some (.str s) := by
  have ok : reprOk d = true := reprOk_of h.sh h.pl (Nat.le_trans h.dp hn) h.lo (Nat.le_trans h.wt (by rw [show sizeLine = 16777216 from rfl]; exact hw))
  exact ⟨d.shown, by simp only [reprB, ok, if_true]⟩
theorem all2 {P : PyData → Prop} {a b : PyData} (h1 : P a) (h2 : P b) : ∀ d ∈ [a, b], P d := fun d hd => by
  rcases List.mem_cons.mp hd with rfl | hd
  · exact h1
  · rw [List.mem_singleton.mp hd]; exact h2
theorem all3 {P : PyData → Prop} {a b c : PyData} (h1 : P a) (h2 : P b) (h3 : P c) : ∀ d ∈ [a, b, c], P d := fun d hd => by
  rcases List.mem_cons.mp hd with rfl | hd
  · exact h1
  · exact all2 h2 h3 d hd
theorem all5 {P : PyData → Prop} {a b c e f : PyData} (h1 : P a) (h2 : P b) (h3 : P c) (h4 : P e) (h5 : P f) : ∀ d ∈ [a, b, c, e, f], P d := fun d hd => by
  rcases List.mem_cons.mp hd with rfl | hd
  · exact h1
  · rcases List.mem_cons.mp hd with rfl | hd
    · exact h2
    · exact all3 h3 h4 h5 d hd
theorem all_map {α : Type} {P : PyData → Prop} {f : α → PyData} {as : List α} (h : ∀ a ∈ as, P (f a)) : ∀ d ∈ as.map f, P d := fun d hd => by
  obtain ⟨a, ha, rfl⟩ := List.mem_map.mp hd
  exact h a ha
/-! ### places -/
theorem intsL_add : ∀ (a b : Nat) (lo : Int), intsL lo (a + b) = intsL lo a ++ intsL (lo + a) b
  | 0, b, lo => by simp [intsL]
  | a + 1, b, lo => by
    rw [show a + 1 + b = (a + b) + 1 by omega, intsL, intsL_add a b (lo + 1), intsL, List.cons_append]
    congr 3
    push_cast
    omega
theorem intsL_iff {n : Nat} {lo x : Int} : x ∈ intsL lo n ↔ lo ≤ x ∧ x < lo + n := by
  refine ⟨intsL_mem, fun h => ?_⟩
  induction n generalizing lo with
  | zero => omega
  | succ n ih =>
    rw [intsL, List.mem_cons]
    by_cases hx : x = lo
    · exact .inl hx
    · exact .inr (ih (by omega))
/-- pairs one behind the other, between two places -/
def Chain : Int → Int → List (Int × Int) → Prop
  | _, _, [] => True
  | e, hi, f :: fs => e < f.1 ∧ f.1 ≤ f.2 ∧ f.2 < hi ∧ Chain f.2 hi fs
theorem Chain.mem : ∀ {fs : List (Int × Int)} {e hi : Int}, Chain e hi fs → ∀ f ∈ fs, e < f.1 ∧ f.1 ≤ f.2 ∧ f.2 < hi
  | f :: fs, e, hi, h, g, hg => by
    obtain ⟨a, b, c, d⟩ := h
    rcases List.mem_cons.mp hg with rfl | hg
    · exact ⟨a, b, c⟩
    · obtain ⟨p, q, r⟩ := Chain.mem d g hg
      exact ⟨by omega, q, r⟩
def spanOf (fs : List (Int × Int)) : Int := (fs.map fun f => f.2 - f.1 + 1).sum
def placesOf (fs : List (Int × Int)) : List Int := (fs.map fun f => intsL f.1 (f.2 + 1 - f.1).toNat).flatten
theorem mem_places {fs : List (Int × Int)} {x : Int} : x ∈ placesOf fs ↔ ∃ f ∈ fs, f.1 ≤ x ∧ x ≤ f.2 := by
  unfold placesOf
  rw [List.mem_flatten]
  constructor
  · rintro ⟨l, hl, hx⟩
    obtain ⟨f, hf, rfl⟩ := List.mem_map.mp hl
    have := intsL_mem hx
    exact ⟨f, hf, by omega, by omega⟩
  · rintro ⟨f, hf, h1, h2⟩
    exact ⟨_, List.mem_map.mpr ⟨f, hf, rfl⟩, intsL_iff.mpr (by omega)⟩
/-- the places that no pair of a chain covers -/
theorem chain_free : ∀ (fs : List (Int × Int)) (e hi : Int), e < hi → Chain e hi fs → (((intsL (e + 1) (hi - (e + 1)).toNat).filter fun x => !decide (x ∈ placesOf fs)).length : Int) = hi - e - 1 - spanOf fs
  | [], e, hi, h, _ => by
    rw [List.filter_eq_self.mpr (fun x _ => by simp [placesOf]), intsL_len]
    simp [spanOf]
    omega
  | f :: fs, e, hi, h, hc => by
    obtain ⟨a, b, c, d⟩ := hc
    have ih := chain_free fs f.2 hi c d
    have dm := Chain.mem d
    rw [show (hi - (e + 1)).toNat = (f.1 - (e + 1)).toNat + ((f.2 + 1 - f.1).toNat + (hi - (f.2 + 1)).toNat) by omega, intsL_add, intsL_add, List.filter_append, List.filter_append, List.length_append, List.length_append]
    have e1 : (intsL (e + 1) (f.1 - (e + 1)).toNat).filter (fun x => !decide (x ∈ placesOf (f :: fs))) = intsL (e + 1) (f.1 - (e + 1)).toNat := List.filter_eq_self.mpr fun x hx => by
      have := intsL_mem hx
      simp only [Bool.not_eq_true', decide_eq_false_iff_not, mem_places]
      rintro ⟨g, hg, g1, g2⟩
      rcases List.mem_cons.mp hg with rfl | hg
      · omega
      · have := dm g hg
        omega
    have e2 : (intsL (e + 1 + ((f.1 - (e + 1)).toNat : Int)) (f.2 + 1 - f.1).toNat).filter (fun x => !decide (x ∈ placesOf (f :: fs))) = [] := List.filter_eq_nil_iff.mpr fun x hx => by
      have := intsL_mem hx
      simp only [Bool.not_eq_true', decide_eq_false_iff_not, mem_places, Classical.not_not]
      exact ⟨f, List.mem_cons_self, by omega, by omega⟩
    have e3 : (intsL (e + 1 + ((f.1 - (e + 1)).toNat : Int) + ((f.2 + 1 - f.1).toNat : Int)) (hi - (f.2 + 1)).toNat).filter (fun x => !decide (x ∈ placesOf (f :: fs))) = (intsL (f.2 + 1) (hi - (f.2 + 1)).toNat).filter (fun x => !decide (x ∈ placesOf fs)) := by
      rw [show e + 1 + ((f.1 - (e + 1)).toNat : Int) + ((f.2 + 1 - f.1).toNat : Int) = f.2 + 1 by omega]
      refine List.filter_congr fun x hx => ?_
      have := intsL_mem hx
      congr 1
      rw [decide_eq_decide, mem_places, mem_places]
      constructor
      · rintro ⟨g, hg, g1, g2⟩
        rcases List.mem_cons.mp hg with rfl | hg
        · omega
        · exact ⟨g, hg, g1, g2⟩
      · rintro ⟨g, hg, g1, g2⟩
        exact ⟨g, List.mem_cons_of_mem _ hg, g1, g2⟩
    rw [e1, e2, e3, intsL_len]
    push_cast
    rw [ih]
    simp only [spanOf, List.map_cons, List.sum_cons, List.length_nil]
    omega
end Pf


namespace K09
open PySem PySem.Spec L2 Pf
/-! ### the text by places -/
def tp (i : Nat) : Stmt := PySem.Challenge.pw_pairfolds_k09_brackets_read.main.body.getD i (.Pass ⟨0, 0, 0, 0⟩)
def e0 : DefE := ⟨⟨"pairs_in", ["text"], [false], [⟨1, [], [.pos 0]⟩, ⟨0, ["text"], [.kw 0]⟩], []⟩, ["text", "found", "waiting", "place", "sign"], defScope (tp 4), defBody (tp 4)⟩
def e1 : DefE := ⟨⟨"_law_pen", ["_law_script"], [false], [⟨1, [], [.pos 0]⟩], []⟩, ["_law_script"], defScope (tp 6), defBody (tp 6)⟩
def e2 : DefE := ⟨⟨"_law_take", ["_law_pen_here", "_law_size"], [true, false], [⟨2, [], [.pos 0, .pos 1]⟩], []⟩, ["_law_pen_here", "_law_size", "_law_cells", "_law_found", "_law_at", "_law_raw", "_law_number"], defScope (tp 7), defBody (tp 7)⟩
def e3 : DefE := ⟨⟨"_law_pick", ["_law_pen_here", "_law_some"], [true, false], [⟨2, [], [.pos 0, .pos 1]⟩], []⟩, ["_law_pen_here", "_law_some"], defScope (tp 8), defBody (tp 8)⟩
def e4 : DefE := ⟨⟨"_law_worth", ["_law_pen_here"], [true], [⟨1, [], [.pos 0]⟩], []⟩, ["_law_pen_here", "_law_some"], defScope (tp 9), defBody (tp 9)⟩
def e5 : DefE := ⟨⟨"_law_code", ["_law_pen_here"], [true], [], []⟩, ["_law_pen_here", "_law_signs", "_law_every", "_law_one", "_law_other", "_law_few", "_law_some", "_law_both", "_law_alike", "_law_pairs_here", "_law_loops", "_law_k", "_law_stacks", "_law_rows", "_law_texts"], defScope (tp 10), defBody (tp 10)⟩
def e6 : DefE := ⟨⟨"_law_word", ["_law_pen_here", "_law_code_here", "_law_most"], [true, false, false], [], []⟩, ["_law_pen_here", "_law_code_here", "_law_most", "_law_size", "_law_found", "_law_k", "_law_both"], defScope (tp 11), defBody (tp 11)⟩
def e7 : DefE := ⟨⟨"_law_may", ["_law_code_here", "_law_word_here", "_law_i", "_law_j"], [false, false, false, false], [⟨4, [], [.pos 0, .pos 1, .pos 2, .pos 3]⟩], []⟩, ["_law_code_here", "_law_word_here", "_law_i", "_law_j", "_law_texts", "_law_both", "_law_much"], defScope (tp 12), defBody (tp 12)⟩
def e8 : DefE := ⟨⟨"_law_folded", ["_law_pen_here", "_law_code_here", "_law_word_here", "_law_first", "_law_last"], [true, false, false, false, false], [⟨5, [], [.pos 0, .pos 1, .pos 2, .pos 3, .pos 4]⟩], []⟩, ["_law_pen_here", "_law_code_here", "_law_word_here", "_law_first", "_law_last", "_law_found", "_law_place", "_law_some", "_law_j"], defScope (tp 13), defBody (tp 13)⟩
def e9 : DefE := ⟨⟨"_law_matched", ["_law_pen_here", "_law_left"], [true, false], [⟨2, [], [.pos 0, .pos 1]⟩], []⟩, ["_law_pen_here", "_law_left", "_law_way", "_law_inner"], defScope (tp 14), defBody (tp 14)⟩
def e10 : DefE := ⟨⟨"_law_pairs", ["_law_signs"], [false], [⟨1, [], [.pos 0]⟩], []⟩, ["_law_signs", "_law_left", "_law_place", "_law_sign", "_law_found", "_law_size", "_law_k"], defScope (tp 15), defBody (tp 15)⟩
def e11 : DefE := ⟨⟨"law", ["_law_script"], [false], [⟨1, [], [.pos 0]⟩], []⟩, ["_law_script", "_law_pen_here", "_law_turn", "_law_good", "_law_at", "_law_strange", "_law_sign", "_law_some", "_law_k", "_law_signs", "_law_due"], defScope (tp 16), defBody (tp 16)⟩
def D : List DefE := [e0, e1, e2, e3, e4, e5, e6, e7, e8, e9, e10, e11]
def G0 : List (Str × PyData) := [("OPENING", .str "("), ("SHUTTING", .str ")"), ("FREE", .str ".")]
/-! ### what the top has left -/
theorem all_mk {K : PySem.W.Frag} {h : Heap} {mg : Str → Option Value} (X : K.In h) (G : h.Ns mainGlobals mg)
    {f0 : Addr} {od0 an0 : Option Addr} {sl0 : Array (Option Value)} {oc0 kV0 dc0 pm0 cd0 ct0 : Value}
    {f1 : Addr} {od1 an1 : Option Addr} {sl1 : Array (Option Value)} {oc1 kV1 dc1 pm1 cd1 ct1 : Value}
    {f2 : Addr} {od2 an2 : Option Addr} {sl2 : Array (Option Value)} {oc2 kV2 dc2 pm2 cd2 ct2 : Value}
    {f3 : Addr} {od3 an3 : Option Addr} {sl3 : Array (Option Value)} {oc3 kV3 dc3 pm3 cd3 ct3 : Value}
    {f4 : Addr} {od4 an4 : Option Addr} {sl4 : Array (Option Value)} {oc4 kV4 dc4 pm4 cd4 ct4 : Value}
    {f5 : Addr} {od5 an5 : Option Addr} {sl5 : Array (Option Value)} {oc5 kV5 dc5 pm5 cd5 ct5 : Value}
    {f6 : Addr} {od6 an6 : Option Addr} {sl6 : Array (Option Value)} {oc6 kV6 dc6 pm6 cd6 ct6 : Value}
    {f7 : Addr} {od7 an7 : Option Addr} {sl7 : Array (Option Value)} {oc7 kV7 dc7 pm7 cd7 ct7 : Value}
    {f8 : Addr} {od8 an8 : Option Addr} {sl8 : Array (Option Value)} {oc8 kV8 dc8 pm8 cd8 ct8 : Value}
    {f9 : Addr} {od9 an9 : Option Addr} {sl9 : Array (Option Value)} {oc9 kV9 dc9 pm9 cd9 ct9 : Value}
    {f10 : Addr} {od10 an10 : Option Addr} {sl10 : Array (Option Value)} {oc10 kV10 dc10 pm10 cd10 ct10 : Value}
    {f11 : Addr} {od11 an11 : Option Addr} {sl11 : Array (Option Value)} {oc11 kV11 dc11 pm11 cd11 ct11 : Value}
    {gk0 : Tok}
    {gk1 : Tok}
    {gk2 : Tok}
    (a0 : PySem.W.nsIn K mainGlobals "pairs_in" = some (some (.ref f0)))
    (l0 : K.lookup f0 = some ⟨oc0, od0, .func (PySem.W.fnOf "pairs_in" "pairs_in" (defArgs (tp 4)) (defBody (tp 4)) (defScope (tp 4)) .none kV0 dc0 pm0 an0 cd0 ct0), sl0⟩)
    (c0 : PySem.W.codeIn K cd0 "pairs_in" = true)
    (q0 : PySem.W.keepIn K (.ref f0) = true)
    (a1 : PySem.W.nsIn K mainGlobals "_law_pen" = some (some (.ref f1)))
    (l1 : K.lookup f1 = some ⟨oc1, od1, .func (PySem.W.fnOf "_law_pen" "_law_pen" (defArgs (tp 6)) (defBody (tp 6)) (defScope (tp 6)) .none kV1 dc1 pm1 an1 cd1 ct1), sl1⟩)
    (c1 : PySem.W.codeIn K cd1 "_law_pen" = true)
    (q1 : PySem.W.keepIn K (.ref f1) = true)
    (a2 : PySem.W.nsIn K mainGlobals "_law_take" = some (some (.ref f2)))
    (l2 : K.lookup f2 = some ⟨oc2, od2, .func (PySem.W.fnOf "_law_take" "_law_take" (defArgs (tp 7)) (defBody (tp 7)) (defScope (tp 7)) .none kV2 dc2 pm2 an2 cd2 ct2), sl2⟩)
    (c2 : PySem.W.codeIn K cd2 "_law_take" = true)
    (q2 : PySem.W.keepIn K (.ref f2) = true)
    (a3 : PySem.W.nsIn K mainGlobals "_law_pick" = some (some (.ref f3)))
    (l3 : K.lookup f3 = some ⟨oc3, od3, .func (PySem.W.fnOf "_law_pick" "_law_pick" (defArgs (tp 8)) (defBody (tp 8)) (defScope (tp 8)) .none kV3 dc3 pm3 an3 cd3 ct3), sl3⟩)
    (c3 : PySem.W.codeIn K cd3 "_law_pick" = true)
    (q3 : PySem.W.keepIn K (.ref f3) = true)
    (a4 : PySem.W.nsIn K mainGlobals "_law_worth" = some (some (.ref f4)))
    (l4 : K.lookup f4 = some ⟨oc4, od4, .func (PySem.W.fnOf "_law_worth" "_law_worth" (defArgs (tp 9)) (defBody (tp 9)) (defScope (tp 9)) .none kV4 dc4 pm4 an4 cd4 ct4), sl4⟩)
    (c4 : PySem.W.codeIn K cd4 "_law_worth" = true)
    (q4 : PySem.W.keepIn K (.ref f4) = true)
    (a5 : PySem.W.nsIn K mainGlobals "_law_code" = some (some (.ref f5)))
    (l5 : K.lookup f5 = some ⟨oc5, od5, .func (PySem.W.fnOf "_law_code" "_law_code" (defArgs (tp 10)) (defBody (tp 10)) (defScope (tp 10)) .none kV5 dc5 pm5 an5 cd5 ct5), sl5⟩)
    (c5 : PySem.W.codeIn K cd5 "_law_code" = true)
    (q5 : PySem.W.keepIn K (.ref f5) = true)
    (a6 : PySem.W.nsIn K mainGlobals "_law_word" = some (some (.ref f6)))
    (l6 : K.lookup f6 = some ⟨oc6, od6, .func (PySem.W.fnOf "_law_word" "_law_word" (defArgs (tp 11)) (defBody (tp 11)) (defScope (tp 11)) .none kV6 dc6 pm6 an6 cd6 ct6), sl6⟩)
    (c6 : PySem.W.codeIn K cd6 "_law_word" = true)
    (q6 : PySem.W.keepIn K (.ref f6) = true)
    (a7 : PySem.W.nsIn K mainGlobals "_law_may" = some (some (.ref f7)))
    (l7 : K.lookup f7 = some ⟨oc7, od7, .func (PySem.W.fnOf "_law_may" "_law_may" (defArgs (tp 12)) (defBody (tp 12)) (defScope (tp 12)) .none kV7 dc7 pm7 an7 cd7 ct7), sl7⟩)
    (c7 : PySem.W.codeIn K cd7 "_law_may" = true)
    (q7 : PySem.W.keepIn K (.ref f7) = true)
    (a8 : PySem.W.nsIn K mainGlobals "_law_folded" = some (some (.ref f8)))
    (l8 : K.lookup f8 = some ⟨oc8, od8, .func (PySem.W.fnOf "_law_folded" "_law_folded" (defArgs (tp 13)) (defBody (tp 13)) (defScope (tp 13)) .none kV8 dc8 pm8 an8 cd8 ct8), sl8⟩)
    (c8 : PySem.W.codeIn K cd8 "_law_folded" = true)
    (q8 : PySem.W.keepIn K (.ref f8) = true)
    (a9 : PySem.W.nsIn K mainGlobals "_law_matched" = some (some (.ref f9)))
    (l9 : K.lookup f9 = some ⟨oc9, od9, .func (PySem.W.fnOf "_law_matched" "_law_matched" (defArgs (tp 14)) (defBody (tp 14)) (defScope (tp 14)) .none kV9 dc9 pm9 an9 cd9 ct9), sl9⟩)
    (c9 : PySem.W.codeIn K cd9 "_law_matched" = true)
    (q9 : PySem.W.keepIn K (.ref f9) = true)
    (a10 : PySem.W.nsIn K mainGlobals "_law_pairs" = some (some (.ref f10)))
    (l10 : K.lookup f10 = some ⟨oc10, od10, .func (PySem.W.fnOf "_law_pairs" "_law_pairs" (defArgs (tp 15)) (defBody (tp 15)) (defScope (tp 15)) .none kV10 dc10 pm10 an10 cd10 ct10), sl10⟩)
    (c10 : PySem.W.codeIn K cd10 "_law_pairs" = true)
    (q10 : PySem.W.keepIn K (.ref f10) = true)
    (a11 : PySem.W.nsIn K mainGlobals "law" = some (some (.ref f11)))
    (l11 : K.lookup f11 = some ⟨oc11, od11, .func (PySem.W.fnOf "law" "law" (defArgs (tp 16)) (defBody (tp 16)) (defScope (tp 16)) .none kV11 dc11 pm11 an11 cd11 ct11), sl11⟩)
    (c11 : PySem.W.codeIn K cd11 "law" = true)
    (q11 : PySem.W.keepIn K (.ref f11) = true)
    (z_len : PySem.W.nsIn K mainGlobals "len" = some none)
    (z_abs : PySem.W.nsIn K mainGlobals "abs" = some none)
    (z_int : PySem.W.nsIn K mainGlobals "int" = some none)
    (z_repr : PySem.W.nsIn K mainGlobals "repr" = some none)
    (z_str : PySem.W.nsIn K mainGlobals "str" = some none)
    (z_tuple : PySem.W.nsIn K mainGlobals "tuple" = some none)
    (z_list : PySem.W.nsIn K mainGlobals "list" = some none)
    (z_sum : PySem.W.nsIn K mainGlobals "sum" = some none)
    (z_max : PySem.W.nsIn K mainGlobals "max" = some none)
    (z_min : PySem.W.nsIn K mainGlobals "min" = some none)
    (z_any : PySem.W.nsIn K mainGlobals "any" = some none)
    (z_all : PySem.W.nsIn K mainGlobals "all" = some none)
    (z_dict : PySem.W.nsIn K mainGlobals "dict" = some none)
    (z_sorted : PySem.W.nsIn K mainGlobals "sorted" = some none)
    (z_range : PySem.W.nsIn K mainGlobals "range" = some none)
    (z_isinstance : PySem.W.nsIn K mainGlobals "isinstance" = some none)
    (z_bool : PySem.W.nsIn K mainGlobals "bool" = some none)
    (z_zip : PySem.W.nsIn K mainGlobals "zip" = some none)
    (z_enumerate : PySem.W.nsIn K mainGlobals "enumerate" = some none)
    (z_set : PySem.W.nsIn K mainGlobals "set" = some none)
    (z_reversed : PySem.W.nsIn K mainGlobals "reversed" = some none)
    (glo0 : PySem.W.nsIn K mainGlobals "OPENING" = some (some (.str "(" gk0)))
    (glo1 : PySem.W.nsIn K mainGlobals "SHUTTING" = some (some (.str ")" gk1)))
    (glo2 : PySem.W.nsIn K mainGlobals "FREE" = some (some (.str "." gk2)))
    : TopOk K mg D G0 := by
  have ms : ∀ {x : Str} {v : Value}, PySem.W.nsIn K mainGlobals x = some (some v) → mg x = some v := fun a => PySem.W.mg_of X G a
  have mn : ∀ {x : Str}, PySem.W.nsIn K mainGlobals x = some none → mg x = none := fun a => PySem.W.mg_none_of X G a
  have D0 : DefOk K mg e0 := by
    refine ⟨⟨rfl, rfl, rfl, by decide +kernel, rfl, by decide +kernel, by decide +kernel⟩, rfl, f0, oc0, od0, .none, kV0, dc0, pm0, an0, cd0, ct0, sl0, defArgs (tp 4), "pairs_in", [], [], l0, c0, ms a0, q0, .nil, ?_, rfl, ?_⟩
    · intro i d h
      cases h
    · intro p hp s us ws X2 h1 h2
      rcases List.mem_cons.mp hp with rfl | hp
      · exact match us, ws, h1, h2 with | [_], [], _, _ => ⟨_, rfl, .of_eq rfl⟩
      rcases List.mem_cons.mp hp with rfl | hp
      · exact match us, ws, h1, h2 with | [], [_], _, _ => ⟨_, rfl, .of_eq rfl⟩
      · cases hp
  have D1 : DefOk K mg e1 := by
    refine ⟨⟨rfl, rfl, rfl, by decide +kernel, rfl, by decide +kernel, by decide +kernel⟩, rfl, f1, oc1, od1, .none, kV1, dc1, pm1, an1, cd1, ct1, sl1, defArgs (tp 6), "_law_pen", [], [], l1, c1, ms a1, q1, .nil, ?_, rfl, ?_⟩
    · intro i d h
      cases h
    · intro p hp s us ws X2 h1 h2
      rcases List.mem_cons.mp hp with rfl | hp
      · exact match us, ws, h1, h2 with | [_], [], _, _ => ⟨_, rfl, .of_eq rfl⟩
      · cases hp
  have D2 : DefOk K mg e2 := by
    refine ⟨⟨rfl, rfl, rfl, by decide +kernel, rfl, by decide +kernel, by decide +kernel⟩, rfl, f2, oc2, od2, .none, kV2, dc2, pm2, an2, cd2, ct2, sl2, defArgs (tp 7), "_law_take", [], [], l2, c2, ms a2, q2, .nil, ?_, rfl, ?_⟩
    · intro i d h
      cases h
    · intro p hp s us ws X2 h1 h2
      rcases List.mem_cons.mp hp with rfl | hp
      · exact match us, ws, h1, h2 with | [_, _], [], _, _ => ⟨_, rfl, .of_eq rfl⟩
      · cases hp
  have D3 : DefOk K mg e3 := by
    refine ⟨⟨rfl, rfl, rfl, by decide +kernel, rfl, by decide +kernel, by decide +kernel⟩, rfl, f3, oc3, od3, .none, kV3, dc3, pm3, an3, cd3, ct3, sl3, defArgs (tp 8), "_law_pick", [], [], l3, c3, ms a3, q3, .nil, ?_, rfl, ?_⟩
    · intro i d h
      cases h
    · intro p hp s us ws X2 h1 h2
      rcases List.mem_cons.mp hp with rfl | hp
      · exact match us, ws, h1, h2 with | [_, _], [], _, _ => ⟨_, rfl, .of_eq rfl⟩
      · cases hp
  have D4 : DefOk K mg e4 := by
    refine ⟨⟨rfl, rfl, rfl, by decide +kernel, rfl, by decide +kernel, by decide +kernel⟩, rfl, f4, oc4, od4, .none, kV4, dc4, pm4, an4, cd4, ct4, sl4, defArgs (tp 9), "_law_worth", [], [], l4, c4, ms a4, q4, .nil, ?_, rfl, ?_⟩
    · intro i d h
      cases h
    · intro p hp s us ws X2 h1 h2
      rcases List.mem_cons.mp hp with rfl | hp
      · exact match us, ws, h1, h2 with | [_], [], _, _ => ⟨_, rfl, .of_eq rfl⟩
      · cases hp
  have D5 : DefOk K mg e5 := by
    refine ⟨⟨rfl, rfl, rfl, by decide +kernel, rfl, by decide +kernel, by decide +kernel⟩, rfl, f5, oc5, od5, .none, kV5, dc5, pm5, an5, cd5, ct5, sl5, defArgs (tp 10), "_law_code", [], [], l5, c5, ms a5, q5, .nil, ?_, rfl, ?_⟩
    · intro i d h
      cases h
    · intro p hp s us ws X2 h1 h2
      cases hp
  have D6 : DefOk K mg e6 := by
    refine ⟨⟨rfl, rfl, rfl, by decide +kernel, rfl, by decide +kernel, by decide +kernel⟩, rfl, f6, oc6, od6, .none, kV6, dc6, pm6, an6, cd6, ct6, sl6, defArgs (tp 11), "_law_word", [], [], l6, c6, ms a6, q6, .nil, ?_, rfl, ?_⟩
    · intro i d h
      cases h
    · intro p hp s us ws X2 h1 h2
      cases hp
  have D7 : DefOk K mg e7 := by
    refine ⟨⟨rfl, rfl, rfl, by decide +kernel, rfl, by decide +kernel, by decide +kernel⟩, rfl, f7, oc7, od7, .none, kV7, dc7, pm7, an7, cd7, ct7, sl7, defArgs (tp 12), "_law_may", [], [], l7, c7, ms a7, q7, .nil, ?_, rfl, ?_⟩
    · intro i d h
      cases h
    · intro p hp s us ws X2 h1 h2
      rcases List.mem_cons.mp hp with rfl | hp
      · exact match us, ws, h1, h2 with | [_, _, _, _], [], _, _ => ⟨_, rfl, .of_eq rfl⟩
      · cases hp
  have D8 : DefOk K mg e8 := by
    refine ⟨⟨rfl, rfl, rfl, by decide +kernel, rfl, by decide +kernel, by decide +kernel⟩, rfl, f8, oc8, od8, .none, kV8, dc8, pm8, an8, cd8, ct8, sl8, defArgs (tp 13), "_law_folded", [], [], l8, c8, ms a8, q8, .nil, ?_, rfl, ?_⟩
    · intro i d h
      cases h
    · intro p hp s us ws X2 h1 h2
      rcases List.mem_cons.mp hp with rfl | hp
      · exact match us, ws, h1, h2 with | [_, _, _, _, _], [], _, _ => ⟨_, rfl, .of_eq rfl⟩
      · cases hp
  have D9 : DefOk K mg e9 := by
    refine ⟨⟨rfl, rfl, rfl, by decide +kernel, rfl, by decide +kernel, by decide +kernel⟩, rfl, f9, oc9, od9, .none, kV9, dc9, pm9, an9, cd9, ct9, sl9, defArgs (tp 14), "_law_matched", [], [], l9, c9, ms a9, q9, .nil, ?_, rfl, ?_⟩
    · intro i d h
      cases h
    · intro p hp s us ws X2 h1 h2
      rcases List.mem_cons.mp hp with rfl | hp
      · exact match us, ws, h1, h2 with | [_, _], [], _, _ => ⟨_, rfl, .of_eq rfl⟩
      · cases hp
  have D10 : DefOk K mg e10 := by
    refine ⟨⟨rfl, rfl, rfl, by decide +kernel, rfl, by decide +kernel, by decide +kernel⟩, rfl, f10, oc10, od10, .none, kV10, dc10, pm10, an10, cd10, ct10, sl10, defArgs (tp 15), "_law_pairs", [], [], l10, c10, ms a10, q10, .nil, ?_, rfl, ?_⟩
    · intro i d h
      cases h
    · intro p hp s us ws X2 h1 h2
      rcases List.mem_cons.mp hp with rfl | hp
      · exact match us, ws, h1, h2 with | [_], [], _, _ => ⟨_, rfl, .of_eq rfl⟩
      · cases hp
  have D11 : DefOk K mg e11 := by
    refine ⟨⟨rfl, rfl, rfl, by decide +kernel, rfl, by decide +kernel, by decide +kernel⟩, rfl, f11, oc11, od11, .none, kV11, dc11, pm11, an11, cd11, ct11, sl11, defArgs (tp 16), "law", [], [], l11, c11, ms a11, q11, .nil, ?_, rfl, ?_⟩
    · intro i d h
      cases h
    · intro p hp s us ws X2 h1 h2
      rcases List.mem_cons.mp hp with rfl | hp
      · exact match us, ws, h1, h2 with | [_], [], _, _ => ⟨_, rfl, .of_eq rfl⟩
      · cases hp
  refine ⟨fun e he => ?_, by decide +kernel, fun b hb => ?_, ⟨mn z_range, mn z_isinstance, mn z_int, mn z_bool, mn z_str, mn z_tuple, mn z_list⟩, fun b hb => ?_, fun p hp => ?_⟩
  · simp only [D, List.mem_cons, List.not_mem_nil, or_false] at he
    rcases he with rfl | rfl | rfl | rfl | rfl | rfl | rfl | rfl | rfl | rfl | rfl | rfl
    · exact D0
    · exact D1
    · exact D2
    · exact D3
    · exact D4
    · exact D5
    · exact D6
    · exact D7
    · exact D8
    · exact D9
    · exact D10
    · exact D11
  · simp only [bis, List.mem_cons, List.not_mem_nil, or_false] at hb
    rcases hb with rfl | rfl | rfl | rfl | rfl | rfl | rfl | rfl | rfl | rfl | rfl | rfl | rfl | rfl
    · exact mn z_len
    · exact mn z_abs
    · exact mn z_int
    · exact mn z_repr
    · exact mn z_str
    · exact mn z_tuple
    · exact mn z_list
    · exact mn z_sum
    · exact mn z_max
    · exact mn z_min
    · exact mn z_any
    · exact mn z_all
    · exact mn z_dict
    · exact mn z_sorted
  · simp only [bnz, List.mem_cons, List.not_mem_nil, or_false] at hb
    rcases hb with rfl | rfl | rfl | rfl
    · exact mn z_zip
    · exact mn z_enumerate
    · exact mn z_set
    · exact mn z_reversed
  · simp only [G0, List.mem_cons, List.not_mem_nil, or_false] at hp
    rcases hp with rfl | rfl | rfl
    · exact ⟨.str "(", _, ms glo0, ⟨_, rfl⟩, fun _ _ => .str _⟩
    · exact ⟨.str ")", _, ms glo1, ⟨_, rfl⟩, fun _ _ => .str _⟩
    · exact ⟨.str ".", _, ms glo2, ⟨_, rfl⟩, fun _ _ => .str _⟩
end K09


namespace K09
open PySem PySem.Spec L2 Pf
def wf : Nat := 1000
def fuel : Nat := 30
abbrev Γ (k : Nat) : Sem3 := Gam D G0 wf fuel k
def b0_0 (Γ : Sem3) : List Sx :=
  [kIf (tC1 .Eq (xS 4) (xC (.str "(")))
    [kEx (xMut "append" (xS 2) [(xV [] (xS 3))])]
    [kIf (tAn [(tC1 .Eq (xS 4) (xC (.str ")"))), (tC1 .NotEq (xS 2) (xLst []))])
      [kEx (xMut "append" (xS 1) [(xV [] (xTup [(xV [] (xMut "pop" (xS 2) [])), (xV [] (xS 3))]))])]
      [kIf (tC1 .NotEq (xS 4) (xC (.str ".")))
        [kRt [] (xC .none)]
        []]]]
def s0 (Γ : Sem3) : Sx := kSq
  [kSet 1 (xV [] (xLst [])),
  kSet 2 (xV [] (xLst [])),
  kFor (xZp false [(xV [] (xS 0))]) (gN' [3, 4]) (b0_0 Γ),
  kRt [] (xIf (tC1 .Eq (xS 2) (xLst [])) (xBi .tuple [(xBi .sorted [(xS 1)])]) (xC .none))]
theorem s0_eq (Γ : Sem3) : stmts (fns (ctxOf (D.map (·.fe)) G0 wf Γ e0) fuel) (bkOf e0) e0.body = s0 Γ := by kernel_rfl
theorem c0 (k : Nat) (d0 : PyData) : Γ (k + 1) "pairs_in" [d0] = (s0 (Γ k) [some (false, d0), none, none, none, none]).bind (outI [] [false] [d0]) :=
  (show Γ (k + 1) "pairs_in" [d0] = (stmts (fns (ctxOf (D.map (·.fe)) G0 wf (Γ k) e0) fuel) (bkOf e0) e0.body [some (false, d0), none, none, none, none]).bind (outI [] [false] [d0]) by kernel_rfl).trans (by rw [s0_eq])
def s1 (Γ : Sem3) : Sx := kSq
  [kRt [] (xDic [((xV [] (xC (.str "cells"))), (xV [] (xCut (xS 0) none (some (xC (.int 63)))))), ((xV [] (xC (.str "at"))), (xV [] (xC (.int 0)))), ((xV [] (xC (.str "left"))), (xV [] (xC (.int 0))))])]
theorem s1_eq (Γ : Sem3) : stmts (fns (ctxOf (D.map (·.fe)) G0 wf Γ e1) fuel) (bkOf e1) e1.body = s1 Γ := by kernel_rfl
theorem c1 (k : Nat) (d0 : PyData) : Γ (k + 1) "_law_pen" [d0] = (s1 (Γ k) [some (false, d0)]).bind (outI [] [false] [d0]) :=
  (show Γ (k + 1) "_law_pen" [d0] = (stmts (fns (ctxOf (D.map (·.fe)) G0 wf (Γ k) e1) fuel) (bkOf e1) e1.body [some (false, d0)]).bind (outI [] [false] [d0]) by kernel_rfl).trans (by rw [s1_eq])
def s2 (Γ : Sem3) : Sx := kSq
  [kSet 2 (xV [0] (xIx (xS 0) (xC (.str "cells")))),
  kIf (tC1 .Gt (xIx (xS 0) (xC (.str "left"))) (xC (.int 0)))
    [kSet 3 (xV [0] (xBin .Mod (xIx (xS 0) (xC (.str "left"))) (xS 1))),
    kSub (xS 0) (xC (.str "left")) (xV [0] (xBin .FloorDiv (xIx (xS 0) (xC (.str "left"))) (xS 1))),
    kRt [0] (xS 3)]
    [],
  kSet 4 (xV [0] (xIx (xS 0) (xC (.str "at")))),
  kSub (xS 0) (xC (.str "at")) (xV [0] (xBin .Add (xS 4) (xC (.int 1)))),
  kSet 5 (xV [0] (xBin .Add (xBin .Add (xBin .Mult (xBin .Mult (xC (.int 30059)) (xS 4)) (xS 4)) (xBin .Mult (xC (.int 101)) (xS 4))) (xC (.int 37)))),
  kIf (tC1 .Lt (xS 4) (xBi .len [(xS 2)]))
    [kSet 5 (xV [0] (xIx (xS 2) (xS 4))),
    kIf (tC1 .GtE (xBi .abs [(xS 5)]) (xBin .Pow (xC (.int 10)) (xC (.int 18))))
      [kSub (xS 0) (xC (.str "left")) (xV [0] (xBin .FloorDiv (xBi .abs [(xS 5)]) (xS 1))),
      kRt [0] (xBin .Mod (xBi .abs [(xS 5)]) (xS 1))]
      []]
    [kIf (tC1 .Gt (xBi .len [(xS 2)]) (xC (.int 0)))
      [kSet 5 (xV [0] (xBin .Add (xBin .Mod (xIx (xS 2) (xBin .Mod (xS 4) (xBi .len [(xS 2)]))) (xBin .Pow (xC (.int 10)) (xC (.int 17)))) (xBin .Mult (xC (.int 60089)) (xS 4))))]
      []],
  kSet 6 (xV [0] (xBin .Mod (xBin .Mult (xBin .Add (xBin .Add (xBin .Mod (xS 5) (xC (.int 2147483563))) (xBin .Mult (xC (.int 41039)) (xS 4))) (xC (.int 29))) (xC (.int 69621))) (xC (.int 2147483629)))),
  kSet 6 (xV [0] (xBin .Mod (xBin .Add (xBin .Mult (xS 6) (xBin .Add (xBin .Mod (xS 6) (xC (.int 65419))) (xC (.int 11)))) (xBin .Mult (xC (.int 48271)) (xS 4))) (xC (.int 2147483587)))),
  kRt [0] (xBin .Mod (xBin .FloorDiv (xBin .Mod (xBin .Mult (xS 6) (xBin .Add (xBin .Mod (xS 6) (xC (.int 9883))) (xC (.int 7)))) (xC (.int 2147483549))) (xC (.int 64))) (xS 1))]
theorem s2_eq (Γ : Sem3) : stmts (fns (ctxOf (D.map (·.fe)) G0 wf Γ e2) fuel) (bkOf e2) e2.body = s2 Γ := by kernel_rfl
theorem c2 (k : Nat) (d0 d1 : PyData) : Γ (k + 1) "_law_take" [d0, d1] = (s2 (Γ k) [some (true, d0), some (false, d1), none, none, none, none, none]).bind (outI [0] [true, false] [d0, d1]) :=
  (show Γ (k + 1) "_law_take" [d0, d1] = (stmts (fns (ctxOf (D.map (·.fe)) G0 wf (Γ k) e2) fuel) (bkOf e2) e2.body [some (true, d0), some (false, d1), none, none, none, none, none]).bind (outI [0] [true, false] [d0, d1]) by kernel_rfl).trans (by rw [s2_eq])
def s3 (Γ : Sem3) : Sx := kSq
  [kRt [0] (xIx (xS 1) (xCall Γ "_law_take" [] [.pos 0, .pos 1] [.mine (xS 0), .shr (xV [0] (xBi .len [(xS 1)]))] []))]
theorem s3_eq (Γ : Sem3) : stmts (fns (ctxOf (D.map (·.fe)) G0 wf Γ e3) fuel) (bkOf e3) e3.body = s3 Γ := by kernel_rfl
theorem c3 (k : Nat) (d0 d1 : PyData) : Γ (k + 1) "_law_pick" [d0, d1] = (s3 (Γ k) [some (true, d0), some (false, d1)]).bind (outI [0] [true, false] [d0, d1]) :=
  (show Γ (k + 1) "_law_pick" [d0, d1] = (stmts (fns (ctxOf (D.map (·.fe)) G0 wf (Γ k) e3) fuel) (bkOf e3) e3.body [some (true, d0), some (false, d1)]).bind (outI [0] [true, false] [d0, d1]) by kernel_rfl).trans (by rw [s3_eq])
def s4 (Γ : Sem3) : Sx := kSq
  [kSet 1 (xV [0] (xLst [(xV [0] (xC (.int 0))), (xV [0] (xUn .USub (xC (.int 1)))), (xV [0] (xUn .USub (xC (.int 2)))), (xV [0] (xC (.int 1))), (xV [0] (xBin .Sub (xCall Γ "_law_take" [] [.pos 0, .pos 1] [.mine (xS 0), .shr (xV [0] (xC (.int 9)))] []) (xC (.int 6)))), (xV [0] (xBin .Sub (xCall Γ "_law_take" [] [.pos 0, .pos 1] [.mine (xS 0), .shr (xV [0] (xC (.int 7)))] []) (xC (.int 3)))), (xV [0] (xC (.int 99))), (xV [0] (xUn .USub (xC (.int 99)))), (xV [0] (xBin .Sub (xCall Γ "_law_take" [] [.pos 0, .pos 1] [.mine (xS 0), .shr (xV [0] (xC (.int 199)))] []) (xC (.int 99))))])),
  kRt [0] (xCall Γ "_law_pick" [] [.pos 0, .pos 1] [.mine (xS 0), .shr (xV [0] (xS 1))] [])]
theorem s4_eq (Γ : Sem3) : stmts (fns (ctxOf (D.map (·.fe)) G0 wf Γ e4) fuel) (bkOf e4) e4.body = s4 Γ := by kernel_rfl
theorem c4 (k : Nat) (d0 : PyData) : Γ (k + 1) "_law_worth" [d0] = (s4 (Γ k) [some (true, d0), none]).bind (outI [0] [true] [d0]) :=
  (show Γ (k + 1) "_law_worth" [d0] = (stmts (fns (ctxOf (D.map (·.fe)) G0 wf (Γ k) e4) fuel) (bkOf e4) e4.body [some (true, d0), none]).bind (outI [0] [true] [d0]) by kernel_rfl).trans (by rw [s4_eq])
def b5_2 (Γ : Sem3) : List Sx :=
  [kSub (xS 12) (xTup [(xV [0] (xCall Γ "_law_pick" [] [.pos 0, .pos 1] [.mine (xS 0), .shr (xV [0] (xS 6))] [])), (xV [0] (xCall Γ "_law_pick" [] [.pos 0, .pos 1] [.mine (xS 0), .shr (xV [0] (xS 6))] []))]) (xV [0] (xCall Γ "_law_worth" [] [.pos 0] [.mine (xS 0)] []))]
def b5_1 (Γ : Sem3) : List Sx :=
  [kEx (xMut "pop" (xS 6) [(xV [0] (xCall Γ "_law_take" [] [.pos 0, .pos 1] [.mine (xS 0), .shr (xV [0] (xBi .len [(xS 6)]))] []))])]
def b5_0 (Γ : Sem3) : List Sx :=
  [kSet 2 (xV [0] (xBin .Add (xS 2) (xLc [4] (xIt (xV [0] (xS 1))) (g1 4) tTr (xV [0] (xBin .Add (xS 3) (xS 4))))))]
def s5 (Γ : Sem3) : Sx := kSq
  [kSet 1 (xV [0] (xIx (xLst [(xV [0] (xC (.str "a"))), (xV [0] (xC (.str "ab"))), (xV [0] (xC (.str "acgu"))), (xV [0] (xC (.str "abcdef"))), (xV [0] (xC (.str "xyz"))), (xV [0] (xC (.str "bdnqtz")))]) (xCall Γ "_law_take" [] [.pos 0, .pos 1] [.mine (xS 0), .shr (xV [0] (xC (.int 6)))] []))),
  kSet 2 (xV [0] (xLst [])),
  kFor (xIt (xV [0] (xS 1))) (g1 3) (b5_0 Γ),
  kSet 5 (xV [0] (xIx (xLst [(xV [0] (xC (.int 0))), (xV [0] (xC (.int 1))), (xV [0] (xC (.int 2))), (xV [0] (xC (.int 3)))]) (xCall Γ "_law_take" [] [.pos 0, .pos 1] [.mine (xS 0), .shr (xV [0] (xC (.int 4)))] []))),
  kSet 6 (xV [0] (xBi .sorted [(xLc [7] (xIt (xV [0] (xS 2))) (g1 7) (tC1 .GtE (xCall Γ "_law_take" [] [.pos 0, .pos 1] [.mine (xS 0), .shr (xV [0] (xC (.int 4)))] []) (xS 5)) (xV [0] (xS 7)))])),
  kWh wf (tC1 .Gt (xBi .len [(xS 6)]) (xC (.int 12))) (b5_1 Γ),
  kSet 8 (xV [0] (xT (tC1 .Eq (xCall Γ "_law_take" [] [.pos 0, .pos 1] [.mine (xS 0), .shr (xV [0] (xC (.int 4)))] []) (xC (.int 0))))),
  kSet 9 (xV [0] (xBi .tuple [(xLc [7] (xIt (xV [0] (xS 6))) (g1 7) tTr (xV [0] (xTup [(xV [0] (xS 7)), (xV [0] (xIx (xLst [(xV [0] (xCall Γ "_law_worth" [] [.pos 0] [.mine (xS 0)] [])), (xV [0] (xUn .USub (xC (.int 1))))]) (xBi .int [(xS 8)])))])))])),
  kSet 10 (xV [0] (xBi .tuple [(xLc [11] (xRng [(xC (.int 9))]) (g1 11) tTr (xV [0] (xCall Γ "_law_worth" [] [.pos 0] [.mine (xS 0)] [])))])),
  kIf (tC1 .Eq (xCall Γ "_law_take" [] [.pos 0, .pos 1] [.mine (xS 0), .shr (xV [0] (xC (.int 5)))] []) (xC (.int 0)))
    [kSet 10 (xV [0] (xBin .Mult (xTup [(xV [0] (xC (.int 0)))]) (xC (.int 9))))]
    [],
  kSet 12 (xV [0] (xDic [])),
  kFor (xRng [(xBin .Mult (xCall Γ "_law_take" [] [.pos 0, .pos 1] [.mine (xS 0), .shr (xV [0] (xC (.int 13)))] []) (xBi .int [(xT (tC1 .NotEq (xS 6) (xLst [])))]))]) (g1 11) (b5_2 Γ),
  kSet 13 (xV [0] (xBi .tuple [(xLc [14] (xIt (xV [0] (xBi .sorted [(xBi .list [(xS 12)])]))) (g1 14) tTr (xV [0] (xBin .Add (xS 14) (xTup [(xV [0] (xIx (xS 12) (xS 14)))]))))])),
  kRt [0] (xTup [(xV [0] (xS 1)), (xV [0] (xS 9)), (xV [0] (xIx (xLst [(xV [0] (xC (.int 0))), (xV [0] (xC (.int 0))), (xV [0] (xC (.int 1))), (xV [0] (xC (.int 2))), (xV [0] (xC (.int 3)))]) (xCall Γ "_law_take" [] [.pos 0, .pos 1] [.mine (xS 0), .shr (xV [0] (xC (.int 5)))] []))), (xV [0] (xS 10)), (xV [0] (xS 13))])]
theorem s5_eq (Γ : Sem3) : stmts (fns (ctxOf (D.map (·.fe)) G0 wf Γ e5) fuel) (bkOf e5) e5.body = s5 Γ := by kernel_rfl
theorem c5 (k : Nat) (d0 : PyData) : Γ (k + 1) "_law_code" [d0] = (s5 (Γ k) [some (true, d0), none, none, none, none, none, none, none, none, none, none, none, none, none, none]).bind (outI [0] [true] [d0]) :=
  (show Γ (k + 1) "_law_code" [d0] = (stmts (fns (ctxOf (D.map (·.fe)) G0 wf (Γ k) e5) fuel) (bkOf e5) e5.body [some (true, d0), none, none, none, none, none, none, none, none, none, none, none, none, none, none]).bind (outI [0] [true] [d0]) by kernel_rfl).trans (by rw [s5_eq])
def b6_0 (Γ : Sem3) : List Sx :=
  [kSet 6 (xV [0] (xIx (xCall Γ "_law_pick" [] [.pos 0, .pos 1] [.mine (xS 0), .shr (xV [0] (xIx (xS 1) (xC (.int 1))))] []) (xC (.int 0)))),
  kSub (xS 4) (xS 5) (xV [0] (xIx (xS 6) (xC (.int 0)))),
  kSub (xS 4) (xBin .Sub (xBin .Sub (xS 3) (xC (.int 1))) (xS 5)) (xV [0] (xIx (xS 6) (xC (.int 1))))]
def s6 (Γ : Sem3) : Sx := kSq
  [kSet 3 (xV [0] (xIx (xLst [(xV [0] (xS 2)), (xV [0] (xS 2)), (xV [0] (xCall Γ "_law_take" [] [.pos 0, .pos 1] [.mine (xS 0), .shr (xV [0] (xBin .Add (xS 2) (xC (.int 1))))] []))]) (xCall Γ "_law_take" [] [.pos 0, .pos 1] [.mine (xS 0), .shr (xV [0] (xC (.int 3)))] []))),
  kSetL 4 (xLcL [5] (xRng [(xS 3)]) (g1 5) tTr (xV [0] (xCall Γ "_law_pick" [] [.pos 0, .pos 1] [.mine (xS 0), .shr (xV [0] (xIx (xS 1) (xC (.int 0))))] []))),
  kIf (tAn [(tC1 .NotEq (xIx (xS 1) (xC (.int 1))) (xTup [])), (tC1 .Eq (xCall Γ "_law_take" [] [.pos 0, .pos 1] [.mine (xS 0), .shr (xV [0] (xC (.int 2)))] []) (xC (.int 0)))])
    [kFor (xRng [(xBin .FloorDiv (xS 3) (xC (.int 2)))]) (g1 5) (b6_0 Γ)]
    [],
  kRt [0] (xMet "join" (xC (.str "")) [(xS 4)])]
theorem s6_eq (Γ : Sem3) : stmts (fns (ctxOf (D.map (·.fe)) G0 wf Γ e6) fuel) (bkOf e6) e6.body = s6 Γ := by kernel_rfl
theorem c6 (k : Nat) (d0 d1 d2 : PyData) : Γ (k + 1) "_law_word" [d0, d1, d2] = (s6 (Γ k) [some (true, d0), some (false, d1), some (false, d2), none, none, none, none]).bind (outI [0] [true, false, false] [d0, d1, d2]) :=
  (show Γ (k + 1) "_law_word" [d0, d1, d2] = (stmts (fns (ctxOf (D.map (·.fe)) G0 wf (Γ k) e6) fuel) (bkOf e6) e6.body [some (true, d0), some (false, d1), some (false, d2), none, none, none, none]).bind (outI [0] [true, false, false] [d0, d1, d2]) by kernel_rfl).trans (by rw [s6_eq])
def s7 (Γ : Sem3) : Sx := kSq
  [kSetL 4 (xLcL [5, 6] (xIt (xV [] (xIx (xS 0) (xC (.int 1))))) (gN' [5, 6]) tTr (xV [] (xS 5))),
  kRt [] (xAnd [(xT (tC1 .GtE (xBin .Sub (xBin .Sub (xS 3) (xS 2)) (xC (.int 1))) (xIx (xS 0) (xC (.int 2))))), (xT (tC1 .In (xBin .Add (xIx (xS 1) (xS 2)) (xIx (xS 1) (xS 3))) (xS 4)))])]
theorem s7_eq (Γ : Sem3) : stmts (fns (ctxOf (D.map (·.fe)) G0 wf Γ e7) fuel) (bkOf e7) e7.body = s7 Γ := by kernel_rfl
theorem c7 (k : Nat) (d0 d1 d2 d3 : PyData) : Γ (k + 1) "_law_may" [d0, d1, d2, d3] = (s7 (Γ k) [some (false, d0), some (false, d1), some (false, d2), some (false, d3), none, none, none]).bind (outI [] [false, false, false, false] [d0, d1, d2, d3]) :=
  (show Γ (k + 1) "_law_may" [d0, d1, d2, d3] = (stmts (fns (ctxOf (D.map (·.fe)) G0 wf (Γ k) e7) fuel) (bkOf e7) e7.body [some (false, d0), some (false, d1), some (false, d2), some (false, d3), none, none, none]).bind (outI [] [false, false, false, false] [d0, d1, d2, d3]) by kernel_rfl).trans (by rw [s7_eq])
def b8_0 (Γ : Sem3) : List Sx :=
  [kSetL 7 (xLcL [8] (xRng [(xBin .Add (xS 6) (xC (.int 1))), (xBin .Add (xS 4) (xC (.int 1)))]) (g1 8) (tX (xCall Γ "_law_may" [] [.pos 0, .pos 1, .pos 2, .pos 3] [.shr (xV [0] (xS 1)), .shr (xV [0] (xS 2)), .shr (xV [0] (xS 6)), .shr (xV [0] (xS 8))] [])) (xV [0] (xS 8))),
  kIf (tAn [(tC1 .NotEq (xS 7) (xLst [])), (tC1 .Gt (xCall Γ "_law_take" [] [.pos 0, .pos 1] [.mine (xS 0), .shr (xV [0] (xC (.int 4)))] []) (xC (.int 0)))])
    [kSet 8 (xV [0] (xIx (xLst [(xV [0] (xIx (xS 7) (xUn .USub (xC (.int 1))))), (xV [0] (xCall Γ "_law_pick" [] [.pos 0, .pos 1] [.mine (xS 0), .shr (xV [0] (xS 7))] []))]) (xCall Γ "_law_take" [] [.pos 0, .pos 1] [.mine (xS 0), .shr (xV [0] (xC (.int 2)))] []))),
    kEx (xMut "append" (xS 5) [(xV [0] (xTup [(xV [0] (xS 6)), (xV [0] (xS 8))]))]),
    kEx (xMut "extend" (xS 5) [(xV [0] (xCall Γ "_law_folded" [] [.pos 0, .pos 1, .pos 2, .pos 3, .pos 4] [.mine (xS 0), .shr (xV [0] (xS 1)), .shr (xV [0] (xS 2)), .shr (xV [0] (xBin .Add (xS 6) (xC (.int 1)))), .shr (xV [0] (xBin .Sub (xS 8) (xC (.int 1))))] []))]),
    kSet 6 (xV [0] (xS 8))]
    [],
  kSet 6 (xV [0] (xBin .Add (xS 6) (xC (.int 1))))]
def s8 (Γ : Sem3) : Sx := kSq
  [kSet 5 (xV [0] (xLst [])),
  kSet 6 (xV [0] (xS 3)),
  kWh wf (tC1 .LtE (xS 6) (xS 4)) (b8_0 Γ),
  kRt [0] (xS 5)]
theorem s8_eq (Γ : Sem3) : stmts (fns (ctxOf (D.map (·.fe)) G0 wf Γ e8) fuel) (bkOf e8) e8.body = s8 Γ := by kernel_rfl
theorem c8 (k : Nat) (d0 d1 d2 d3 d4 : PyData) : Γ (k + 1) "_law_folded" [d0, d1, d2, d3, d4] = (s8 (Γ k) [some (true, d0), some (false, d1), some (false, d2), some (false, d3), some (false, d4), none, none, none, none]).bind (outI [0] [true, false, false, false, false] [d0, d1, d2, d3, d4]) :=
  (show Γ (k + 1) "_law_folded" [d0, d1, d2, d3, d4] = (stmts (fns (ctxOf (D.map (·.fe)) G0 wf (Γ k) e8) fuel) (bkOf e8) e8.body [some (true, d0), some (false, d1), some (false, d2), some (false, d3), some (false, d4), none, none, none, none]).bind (outI [0] [true, false, false, false, false] [d0, d1, d2, d3, d4]) by kernel_rfl).trans (by rw [s8_eq])
def s9 (Γ : Sem3) : Sx := kSq
  [kIf (tOrr [(tC1 .Lt (xS 1) (xC (.int 1))), (tC1 .Eq (xCall Γ "_law_take" [] [.pos 0, .pos 1] [.mine (xS 0), .shr (xV [0] (xC (.int 6)))] []) (xC (.int 0)))])
    [kRt [0] (xC (.str ""))]
    [],
  kSet 2 (xV [0] (xCall Γ "_law_take" [] [.pos 0, .pos 1] [.mine (xS 0), .shr (xV [0] (xC (.int 3)))] [])),
  kIf (tOrr [(tC1 .Eq (xS 2) (xC (.int 0))), (tC1 .Lt (xS 1) (xC (.int 2)))])
    [kRt [0] (xBin .Add (xC (.str ".")) (xCall Γ "_law_matched" [] [.pos 0, .pos 1] [.mine (xS 0), .shr (xV [0] (xBin .Sub (xS 1) (xC (.int 1))))] []))]
    [],
  kSet 3 (xV [0] (xCall Γ "_law_matched" [] [.pos 0, .pos 1] [.mine (xS 0), .shr (xV [0] (xCall Γ "_law_take" [] [.pos 0, .pos 1] [.mine (xS 0), .shr (xV [0] (xBin .Sub (xS 1) (xC (.int 1))))] []))] [])),
  kRt [0] (xBin .Add (xBin .Add (xBin .Add (xC (.str "(")) (xS 3)) (xC (.str ")"))) (xCall Γ "_law_matched" [] [.pos 0, .pos 1] [.mine (xS 0), .shr (xV [0] (xBin .Sub (xBin .Sub (xS 1) (xC (.int 2))) (xBi .len [(xS 3)])))] []))]
theorem s9_eq (Γ : Sem3) : stmts (fns (ctxOf (D.map (·.fe)) G0 wf Γ e9) fuel) (bkOf e9) e9.body = s9 Γ := by kernel_rfl
theorem c9 (k : Nat) (d0 d1 : PyData) : Γ (k + 1) "_law_matched" [d0, d1] = (s9 (Γ k) [some (true, d0), some (false, d1), none, none]).bind (outI [0] [true, false] [d0, d1]) :=
  (show Γ (k + 1) "_law_matched" [d0, d1] = (stmts (fns (ctxOf (D.map (·.fe)) G0 wf (Γ k) e9) fuel) (bkOf e9) e9.body [some (true, d0), some (false, d1), none, none]).bind (outI [0] [true, false] [d0, d1]) by kernel_rfl).trans (by rw [s9_eq])
def b10_1 (Γ : Sem3) : List Sx :=
  [kIf (tAn [(tC1 .Eq (xBi .len [(xS 1)]) (xS 5)), (tC1 .Eq (xIx (xIx (xS 1) (xS 6)) (xC (.int 0))) (xC (.str "("))), (tC1 .Eq (xIx (xIx (xS 1) (xBin .Add (xS 6) (xC (.int 1)))) (xC (.int 0))) (xC (.str ")")))])
    [kEx (xMut "append" (xS 4) [(xV [] (xTup [(xV [] (xIx (xIx (xS 1) (xS 6)) (xC (.int 1)))), (xV [] (xIx (xIx (xS 1) (xBin .Add (xS 6) (xC (.int 1)))) (xC (.int 1))))]))]),
    kSet 1 (xV [] (xBin .Add (xCut (xS 1) none (some (xS 6))) (xCut (xS 1) (some (xBin .Add (xS 6) (xC (.int 2)))) none)))]
    []]
def b10_0 (Γ : Sem3) : List Sx :=
  [kSet 5 (xV [] (xBi .len [(xS 1)])),
  kFor (xRng [(xBin .Sub (xBi .len [(xS 1)]) (xC (.int 1)))]) (g1 6) (b10_1 Γ)]
def s10 (Γ : Sem3) : Sx := kSq
  [kSetL 1 (xLcL [2, 3] (xZp false [(xV [] (xS 0))]) (gN' [2, 3]) (tC1 .NotEq (xS 3) (xC (.str "."))) (xV [] (xTup [(xV [] (xS 3)), (xV [] (xS 2))]))),
  kSet 4 (xV [] (xLst [])),
  kSet 5 (xV [] (xUn .USub (xC (.int 1)))),
  kWh wf (tC1 .NotEq (xS 5) (xBi .len [(xS 1)])) (b10_0 Γ),
  kRt [] (xIx (xLst [(xV [] (xC .none)), (xV [] (xBi .tuple [(xBi .sorted [(xS 4)])]))]) (xBi .int [(xT (tC1 .Eq (xS 1) (xLst [])))]))]
theorem s10_eq (Γ : Sem3) : stmts (fns (ctxOf (D.map (·.fe)) G0 wf Γ e10) fuel) (bkOf e10) e10.body = s10 Γ := by kernel_rfl
theorem c10 (k : Nat) (d0 : PyData) : Γ (k + 1) "_law_pairs" [d0] = (s10 (Γ k) [some (false, d0), none, none, none, none, none, none]).bind (outI [] [false] [d0]) :=
  (show Γ (k + 1) "_law_pairs" [d0] = (stmts (fns (ctxOf (D.map (·.fe)) G0 wf (Γ k) e10) fuel) (bkOf e10) e10.body [some (false, d0), none, none, none, none, none, none]).bind (outI [] [false] [d0]) by kernel_rfl).trans (by rw [s10_eq])
def b11_1 (Γ : Sem3) : List Sx :=
  [kSet 10 (xV [] (xBi .repr [(xCall Γ "_law_pairs" [] [.pos 0] [.shr (xV [] (xS 9))] [])])),
  kIf (tOrr [(tC1 .NotEq (xBi .repr [(xCall Γ "pairs_in" [] [.pos 0] [.shr (xV [] (xS 9))] [])]) (xS 10)), (tC1 .NotEq (xBi .repr [(xCall Γ "pairs_in" [] [.kw 0] [] [(xV [] (xS 9))])]) (xS 10))])
    [kRt [] (xC (.bool false))]
    []]
def b11_0 (Γ : Sem3) : List Sx :=
  [kSet 3 (xV [] (xCall Γ "_law_matched" [] [.pos 0, .pos 1] [.mine (xS 1), .shr (xV [] (xC (.int 14)))] [])),
  kSet 4 (xV [] (xCall Γ "_law_take" [] [.pos 0, .pos 1] [.mine (xS 1), .shr (xV [] (xBin .Add (xBi .len [(xS 3)]) (xC (.int 1))))] [])),
  kSet 5 (xV [] (xC (.str " !#&'*+,-/0189:;<=>?@AZ[]^_`az{|}~"))),
  kSet 6 (xV [] (xCall Γ "_law_pick" [] [.pos 0, .pos 1] [.mine (xS 1), .shr (xV [] (xLst [(xV [] (xC (.str "("))), (xV [] (xC (.str ")"))), (xV [] (xC (.str "."))), (xV [] (xCall Γ "_law_pick" [] [.pos 0, .pos 1] [.mine (xS 1), .shr (xV [] (xS 5))] [])), (xV [] (xCall Γ "_law_pick" [] [.pos 0, .pos 1] [.mine (xS 1), .shr (xV [] (xS 5))] [])), (xV [] (xC (.str "()"))), (xV [] (xC (.str ")(")))]))] [])),
  kSet 7 (xV [] (xLst [(xV [] (xS 3)), (xV [] (xBin .Add (xBin .Add (xCut (xS 3) none (some (xS 4))) (xS 6)) (xCut (xS 3) (some (xS 4)) none))), (xV [] (xBin .Add (xCut (xS 3) none (some (xS 4))) (xCut (xS 3) (some (xBin .Add (xS 4) (xC (.int 1)))) none))), (xV [] (xRv (xS 3))), (xV [] (xBin .Add (xS 3) (xS 3))), (xV [] (xCut (xS 3) none (some (xS 4))))])),
  kEx (xMut "append" (xS 7) [(xV [] (xMet "join" (xC (.str "")) [(xLc [8] (xRng [(xCall Γ "_law_take" [] [.pos 0, .pos 1] [.mine (xS 1), .shr (xV [] (xC (.int 9)))] [])]) (g1 8) tTr (xV [] (xCall Γ "_law_pick" [] [.pos 0, .pos 1] [.mine (xS 1), .shr (xV [] (xC (.str "().")))] [])))]))]),
  kFor (xIt (xV [] (xS 7))) (g1 9) (b11_1 Γ)]
def s11 (Γ : Sem3) : Sx := kSq
  [kSet 1 (xV [] (xCall Γ "_law_pen" [] [.pos 0] [.shr (xV [] (xS 0))] [])),
  kFor (xRng [(xC (.int 12))]) (g1 2) (b11_0 Γ),
  kRt [] (xAnd [(xT (tC1 .Eq (xCall Γ "pairs_in" [] [.pos 0] [.shr (xV [] (xC (.str "")))] []) (xTup []))), (xT (tC1 .Is (xCall Γ "pairs_in" [] [.pos 0] [.shr (xV [] (xC (.str ")(")))] []) (xC .none)))])]
theorem s11_eq (Γ : Sem3) : stmts (fns (ctxOf (D.map (·.fe)) G0 wf Γ e11) fuel) (bkOf e11) e11.body = s11 Γ := by kernel_rfl
theorem c11 (k : Nat) (d0 : PyData) : Γ (k + 1) "law" [d0] = (s11 (Γ k) [some (false, d0), none, none, none, none, none, none, none, none, none, none]).bind (outI [] [false] [d0]) :=
  (show Γ (k + 1) "law" [d0] = (stmts (fns (ctxOf (D.map (·.fe)) G0 wf (Γ k) e11) fuel) (bkOf e11) e11.body [some (false, d0), none, none, none, none, none, none, none, none, none, none]).bind (outI [] [false] [d0]) by kernel_rfl).trans (by rw [s11_eq])
end K09


namespace K09
open PySem PySem.Spec L2 Pf
def nmL : List Str := ["pairs_in", "_law_pen", "_law_take", "_law_pick", "_law_worth", "_law_code", "_law_word", "_law_may", "_law_folded", "_law_matched", "_law_pairs", "law"]
def nm (i : Nat) : Str := nmL.getD i ""
def r0 : RD := ⟨"pairs_in", [false], 5, []⟩
def r1 : RD := ⟨"_law_pen", [false], 1, []⟩
def r2 : RD := ⟨"_law_take", [true, false], 7,
  [.set 2 (.ix (.s 0) (.c (.str ⟨#[99, 101, 108, 108, 115]⟩))),
  .iff (.tc1 .Gt (.ix (.s 0) (.c (.str ⟨#[108, 101, 102, 116]⟩))) (.c (.int 0)))
    [.set 3 (.bin .Mod (.ix (.s 0) (.c (.str ⟨#[108, 101, 102, 116]⟩))) (.s 1)),
    .sub (.s 0) (.c (.str ⟨#[108, 101, 102, 116]⟩)) (.bin .FloorDiv (.ix (.s 0) (.c (.str ⟨#[108, 101, 102, 116]⟩))) (.s 1)),
    .rt (.s 3)]
    [],
  .set 4 (.ix (.s 0) (.c (.str ⟨#[97, 116]⟩))),
  .sub (.s 0) (.c (.str ⟨#[97, 116]⟩)) (.bin .Add (.s 4) (.c (.int 1))),
  .set 5 (.bin .Add (.bin .Add (.bin .Mult (.bin .Mult (.c (.int 30059)) (.s 4)) (.s 4)) (.bin .Mult (.c (.int 101)) (.s 4))) (.c (.int 37))),
  .iff (.tc1 .Lt (.s 4) (.bi .len [(.s 2)]))
    [.set 5 (.ix (.s 2) (.s 4)),
    .iff (.tc1 .GtE (.bi .abs [(.s 5)]) (.bin .Pow (.c (.int 10)) (.c (.int 18))))
      [.sub (.s 0) (.c (.str ⟨#[108, 101, 102, 116]⟩)) (.bin .FloorDiv (.bi .abs [(.s 5)]) (.s 1)),
      .rt (.bin .Mod (.bi .abs [(.s 5)]) (.s 1))]
      []]
    [.iff (.tsp 0 2 .Gt 0)
      [.set 5 (.bin .Add (.bin .Mod (.ix (.s 2) (.bin .Mod (.s 4) (.bi .len [(.s 2)]))) (.bin .Pow (.c (.int 10)) (.c (.int 17)))) (.bin .Mult (.c (.int 60089)) (.s 4)))]
      []],
  .set 6 (.bin .Mod (.bin .Mult (.bin .Add (.bin .Add (.bin .Mod (.s 5) (.c (.int 2147483563))) (.bin .Mult (.c (.int 41039)) (.s 4))) (.c (.int 29))) (.c (.int 69621))) (.c (.int 2147483629))),
  .set 6 (.bin .Mod (.bin .Add (.bin .Mult (.s 6) (.bin .Add (.bin .Mod (.s 6) (.c (.int 65419))) (.c (.int 11)))) (.bin .Mult (.c (.int 48271)) (.s 4))) (.c (.int 2147483587))),
  .rt (.bin .Mod (.bin .FloorDiv (.bin .Mod (.bin .Mult (.s 6) (.bin .Add (.bin .Mod (.s 6) (.c (.int 9883))) (.c (.int 7)))) (.c (.int 2147483549))) (.c (.int 64))) (.s 1))]⟩
theorem r2_run (k : Nat) : DefRun (Γ k) (Γ (k + 1)) nm r2 := def_run (e := e2) (by rfl) rfl rfl (by kernel_rfl)
def r3 : RD := ⟨"_law_pick", [true, false], 2,
  [.rt (.pick (.s 1) 2 0)]⟩
theorem r3_run (k : Nat) : DefRun (Γ k) (Γ (k + 1)) nm r3 := def_run (e := e3) (by rfl) rfl rfl (by kernel_rfl)
def r4 : RD := ⟨"_law_worth", [true], 2,
  [.set 1 (.lst [(.c (.int 0)), (.un .USub (.c (.int 1))), (.un .USub (.c (.int 2))), (.c (.int 1)), (.bin .Sub (.call 2 [] [.pos 0, .pos 1] [(true, (.s 0)), (false, (.c (.int 9)))] []) (.c (.int 6))), (.bin .Sub (.call 2 [] [.pos 0, .pos 1] [(true, (.s 0)), (false, (.c (.int 7)))] []) (.c (.int 3))), (.c (.int 99)), (.un .USub (.c (.int 99))), (.bin .Sub (.call 2 [] [.pos 0, .pos 1] [(true, (.s 0)), (false, (.c (.int 199)))] []) (.c (.int 99)))]),
  .rt (.call 3 [] [.pos 0, .pos 1] [(true, (.s 0)), (false, (.s 1))] [])]⟩
theorem r4_run (k : Nat) : DefRun (Γ k) (Γ (k + 1)) nm r4 := def_run (e := e4) (by rfl) rfl rfl (by kernel_rfl)
def r5 : RD := ⟨"_law_code", [true], 15, []⟩
def r6 : RD := ⟨"_law_word", [true, false, false], 7,
  [.set 3 (.ix (.lst [(.s 2), (.s 2), (.call 2 [] [.pos 0, .pos 1] [(true, (.s 0)), (false, (.bin .Add (.s 2) (.c (.int 1))))] [])]) (.call 2 [] [.pos 0, .pos 1] [(true, (.s 0)), (false, (.c (.int 3)))] [])),
  .setL 4 [5] (.rng [(.s 3)]) (.one 5) .tr (.call 3 [] [.pos 0, .pos 1] [(true, (.s 0)), (false, (.ix (.s 1) (.c (.int 0))))] []),
  .iff (.tan [(.tc1 .NotEq (.ix (.s 1) (.c (.int 1))) (.tup [])), (.tc1 .Eq (.call 2 [] [.pos 0, .pos 1] [(true, (.s 0)), (false, (.c (.int 2)))] []) (.c (.int 0)))])
    [.for (.rng [(.bin .FloorDiv (.s 3) (.c (.int 2)))]) (.one 5)
      [.set 6 (.ix (.call 3 [] [.pos 0, .pos 1] [(true, (.s 0)), (false, (.ix (.s 1) (.c (.int 1))))] []) (.c (.int 0))),
      .sub (.s 4) (.s 5) (.ix (.s 6) (.c (.int 0))),
      .sub (.s 4) (.bin .Sub (.bin .Sub (.s 3) (.c (.int 1))) (.s 5)) (.ix (.s 6) (.c (.int 1)))]]
    [],
  .rt (.met "join" (.c (.str ⟨#[]⟩)) [(.s 4)])]⟩
theorem r6_run (k : Nat) : DefRun (Γ k) (Γ (k + 1)) nm r6 := def_run (e := e6) (by rfl) rfl rfl (by kernel_rfl)
def r7 : RD := ⟨"_law_may", [false, false, false, false], 7,
  [.setL 4 [5, 6] (.itr (.ix (.s 0) (.c (.int 1)))) (.many [5, 6]) .tr (.s 5),
  .rt (.van [(.t (.tc1 .GtE (.bin .Sub (.bin .Sub (.s 3) (.s 2)) (.c (.int 1))) (.ix (.s 0) (.c (.int 2))))), (.t (.tc1 .In (.bin .Add (.ix (.s 1) (.s 2)) (.ix (.s 1) (.s 3))) (.s 4)))])]⟩
theorem r7_run (k : Nat) : DefRun (Γ k) (Γ (k + 1)) nm r7 := def_run (e := e7) (by rfl) rfl rfl (by kernel_rfl)
def r8 : RD := ⟨"_law_folded", [true, false, false, false, false], 9, []⟩
def r9 : RD := ⟨"_law_matched", [true, false], 4,
  [.iff (.tor [(.tsp 1 1 .Lt 1), (.tc1 .Eq (.call 2 [] [.pos 0, .pos 1] [(true, (.s 0)), (false, (.c (.int 6)))] []) (.c (.int 0)))])
    [.rt (.c (.str ⟨#[]⟩))]
    [],
  .set 2 (.call 2 [] [.pos 0, .pos 1] [(true, (.s 0)), (false, (.c (.int 3)))] []),
  .iff (.tor [(.tsp 1 2 .Eq 0), (.tsp 1 1 .Lt 2)])
    [.rt (.bin .Add (.c (.str ⟨#[46]⟩)) (.call 9 [] [.pos 0, .pos 1] [(true, (.s 0)), (false, (.bin .Sub (.s 1) (.c (.int 1))))] []))]
    [],
  .set 3 (.call 9 [] [.pos 0, .pos 1] [(true, (.s 0)), (false, (.call 2 [] [.pos 0, .pos 1] [(true, (.s 0)), (false, (.bin .Sub (.s 1) (.c (.int 1))))] []))] []),
  .rt (.bin .Add (.bin .Add (.bin .Add (.c (.str ⟨#[40]⟩)) (.s 3)) (.c (.str ⟨#[41]⟩))) (.call 9 [] [.pos 0, .pos 1] [(true, (.s 0)), (false, (.bin .Sub (.bin .Sub (.s 1) (.c (.int 2))) (.bi .len [(.s 3)])))] []))]⟩
theorem r9_run (k : Nat) : DefRun (Γ k) (Γ (k + 1)) nm r9 := def_run (e := e9) (by rfl) rfl rfl (by kernel_rfl)
def r10 : RD := ⟨"_law_pairs", [false], 7, []⟩
def r11 : RD := ⟨"law", [false], 11, []⟩
def rds : List (Option RD) := [none, none, some r2, some r3, some r4, none, some r6, some r7, none, some r9, none, none]
theorem rds_ok (k f : Nat) (d : RD) (h : rds[f]? = some (some d)) : d.name = nm f ∧ DefRun (Γ k) (Γ (k + 1)) nm d := by
  match f, h with
  | 0, h => cases h
  | 1, h => cases h
  | 2, h => cases h; exact ⟨rfl, r2_run k⟩
  | 3, h => cases h; exact ⟨rfl, r3_run k⟩
  | 4, h => cases h; exact ⟨rfl, r4_run k⟩
  | 5, h => cases h
  | 6, h => cases h; exact ⟨rfl, r6_run k⟩
  | 7, h => cases h; exact ⟨rfl, r7_run k⟩
  | 8, h => cases h
  | 9, h => cases h; exact ⟨rfl, r9_run k⟩
  | 10, h => cases h
  | 11, h => cases h
  | n + 12, h => simp [rds] at h
end K09


namespace K09
open PySem PySem.Spec L2 Pf
/-! ## the pen -/
abbrev pn (cs : List Int) (n l : Int) : PyData := pend (.list (cs.map .int)) (.int n) (.int l)
def Pen (t : Nat) (p : PyData) : Prop := ∃ cs n l, p = pn cs n l ∧ 0 ≤ n ∧ n ≤ t ∧ cs.length ≤ 63
theorem Pen.mono {t u : Nat} {p : PyData} (h : Pen t p) (l : t ≤ u) : Pen u p := by
  obtain ⟨cs, n, q, h1, h2, h3, h4⟩ := h
  exact ⟨cs, n, q, h1, h2, by omega, h4⟩
theorem p1018 : powD (.int 10) (.int 18) = some (.int 1000000000000000000) := rfl
theorem p1017 : powD (.int 10) (.int 17) = some (.int 100000000000000000) := rfl
def st1 (raw n : Int) : Int := ((raw.fmod 2147483563 + 41039 * n + 29) * 69621).fmod 2147483629
def st2 (x n : Int) : Int := (x * (x.fmod 65419 + 11) + 48271 * n).fmod 2147483587
def st3 (x : Int) : Int := ((x * (x.fmod 9883 + 7)).fmod 2147483549).fdiv 64
/-- what is drawn lies below the size -/
theorem take_ok (k : Nat) {t : Nat} {p : PyData} {many : Int} (hp : Pen t p) (hm : 0 < many) (hm2 : many < 1073741824) (ht : t < 1000000) : ∃ v p', Γ (k + 1) "_law_take" [p, .int many] = some (false, .int v, [p', .int many]) ∧ 0 ≤ v ∧ v < many ∧ Pen (t + 1) p' := by
  obtain ⟨cs, n, l, rfl, h0, h1, h2⟩ := hp
  have m0 : many ≠ 0 := by omega
  have mL : many.natAbs.log2 < 9000 := by
    have h : many.natAbs.log2 < 30 := by
      rw [Nat.log2_lt (by omega)]
      omega
    omega
  rw [c2]
  by_cases hl : l > 0
  · refine ⟨l.fmod many, pn cs n (l.fdiv many), ?_, (fmodR hm).1, (fmodR hm).2, cs, n, _, rfl, h0, by omega, h2⟩
    have hd0 : decide (0 < l) = true := decide_eq_true hl
    simp only [s2, ↓bind_m, Option.map_some, Option.map_none, List.getElem?_cons_zero, List.getElem?_cons_succ, List.getElem?_nil, List.set_cons_zero, List.set_cons_succ, List.length_cons, List.length_nil, List.length_append, Nat.zero_add, Nat.reduceAdd, Nat.reduceSub, Nat.reduceLT, Nat.reduceLeDiff, Nat.reduceBEq, Nat.reduceEqDiff, Int.reduceLT, Int.reduceLE, Int.reduceNeg, Int.reduceEq, Int.reduceToNat, reduceIte, reduceCtorEq, List.contains_nil, List.contains_cons, List.cons_append, List.nil_append, if_true, if_false, ite_true, ite_false, Bool.false_eq_true, decide_true, decide_false, Bool.not_true, Bool.not_false, Bool.and_true, Bool.true_and, Bool.and_self, Bool.and_false, Bool.false_and, Bool.or_false, Bool.or_true, Bool.false_or, Bool.true_or, List.all_cons, List.all_nil, ixN_zero, ixN_1, ixN_2, ixN_3, ixN_4, ixN_5, ixN_6, ixN_7, ixN_8, ixN_9, ixN_10, ixN_11, ixN_12, ixN_m1, ixN_m2, ixN_nat, sz_ok, sz_lt, Nat.zero_le, Nat.reduceLT, and_self, and_true, true_and, not_false_eq_true, not_true_eq_false, beq_self_eq_true, ne_eq, not_true, not_false_iff, Nat.succ_ne_self, idxD_l, idxD_t, setIx_l, kSq, kRt, kRtN, kSet, kSetL, kIf, kPar, kTpl, kSub, kAug, kEx, kNx, kBk, kCt, kFor, xCall, xAgs, xV, xBin, xUn, xIf, xTup, xLst, xIx, xCut, xRv, revD, xPt, xAnd, xOr, tAn, tOrr, tNt, tC1, tCC, tX, xT, xBi, xIsi, xMut, xMet, xGet, xDic, xPs, xFst, xFs, xOs, xS, xC, rdO, rdOs, atI, binD, addD, subD, mulD, divD, modD, unD, truthD, resD, newB, arr, pickS, nodupB, slotsOf, ownAll, xVs, outI, afterIo, putBack, biD, lenB, lenD, absB, intB, cmpD, eqD_int, eqD_str, eqD_bool, ltD_int, PySem.W.dataLt_int, isD, isNoneD, g1, gN', setsD, seqD, frz, mutD, appM, popM, extM, revM, xRng, xZp, xLz, xLr, xSum, kNo, xIt, itemsD, augD, tTr, xLc, xLcL, frzs, wipeE, backE, pend_c, pend_a, pend_l, pend_sa, pend_sl, hd0, m0, mL]
  · have hd0 : decide (0 < l) = false := decide_eq_false hl
    have sz : cs.length ≤ sizeLine := Nat.le_trans h2 (by decide)
    have a1 : mulOk 30059 n = true := mulOk_l (by decide)
    have a2 : mulOk (30059 * n) n = true := mulOk_r (by omega)
    have a3 : mulOk 101 n = true := mulOk_l (by decide)
    have a4 : mulOk 60089 n = true := mulOk_l (by decide)
    have a5 : mulOk 41039 n = true := mulOk_l (by decide)
    have a6 : mulOk 48271 n = true := mulOk_l (by decide)
    have a7 : ∀ x : Int, mulOk x 69621 = true := fun x => mulOk_r (by decide)
    have a8 : ∀ x y : Int, mulOk (x.fmod 2147483629) y = true := fun x y => mulOk_fmod (by decide) (by decide)
    have a9 : ∀ x y : Int, mulOk (x.fmod 2147483587) y = true := fun x y => mulOk_fmod (by decide) (by decide)
    have nm1 : ((2147483563 : Int) = 0) = False := eq_false (by decide)
    have nm2 : ((2147483629 : Int) = 0) = False := eq_false (by decide)
    have nm3 : ((65419 : Int) = 0) = False := eq_false (by decide)
    have nm4 : ((2147483587 : Int) = 0) = False := eq_false (by decide)
    have nm5 : ((9883 : Int) = 0) = False := eq_false (by decide)
    have nm6 : ((64 : Int) = 0) = False := eq_false (by decide)
    have nm7 : ((2147483549 : Int) = 0) = False := eq_false (by decide)
    have nm8 : ((100000000000000000 : Int) = 0) = False := eq_false (by decide)
    have dv : ((64 : Int).natAbs.log2 < 9000) = True := eq_true (by decide)
    by_cases hn : n < (cs.length : Int)
    · have hn1 : decide (n < (cs.length : Int)) = true := decide_eq_true hn
      have hx1 : ixN cs.length n = some n.toNat := by
        unfold ixN
        rw [if_pos h0, if_pos hn]
      have hlt : n.toNat < cs.length := by omega
      have hx2 : (cs.map PyData.int)[n.toNat]? = some (.int cs[n.toNat]) := by simp [hlt]
      generalize cs[n.toNat] = cell at hx2
      obtain ⟨ab, hab⟩ : ∃ ab : Int, (if cell < 0 then -cell else cell) = ab := ⟨_, rfl⟩
      by_cases hb : ab < 1000000000000000000
      · have hb1 : decide (ab < 1000000000000000000) = true := decide_eq_true hb
        refine ⟨(st3 (st2 (st1 cell n) n)).fmod many, pn cs (n + 1) l, ?_, (fmodR hm).1, (fmodR hm).2, cs, n + 1, l, rfl, by omega, by omega, h2⟩
        simp only [s2, ↓bind_m, Option.map_some, Option.map_none, List.getElem?_cons_zero, List.getElem?_cons_succ, List.getElem?_nil, List.set_cons_zero, List.set_cons_succ, List.length_cons, List.length_nil, List.length_append, Nat.zero_add, Nat.reduceAdd, Nat.reduceSub, Nat.reduceLT, Nat.reduceLeDiff, Nat.reduceBEq, Nat.reduceEqDiff, Int.reduceLT, Int.reduceLE, Int.reduceNeg, Int.reduceEq, Int.reduceToNat, reduceIte, reduceCtorEq, List.contains_nil, List.contains_cons, List.cons_append, List.nil_append, if_true, if_false, ite_true, ite_false, Bool.false_eq_true, decide_true, decide_false, Bool.not_true, Bool.not_false, Bool.and_true, Bool.true_and, Bool.and_self, Bool.and_false, Bool.false_and, Bool.or_false, Bool.or_true, Bool.false_or, Bool.true_or, List.all_cons, List.all_nil, ixN_zero, ixN_1, ixN_2, ixN_3, ixN_4, ixN_5, ixN_6, ixN_7, ixN_8, ixN_9, ixN_10, ixN_11, ixN_12, ixN_m1, ixN_m2, ixN_nat, sz_ok, sz_lt, Nat.zero_le, Nat.reduceLT, and_self, and_true, true_and, not_false_eq_true, not_true_eq_false, beq_self_eq_true, ne_eq, not_true, not_false_iff, Nat.succ_ne_self, idxD_l, idxD_t, setIx_l, kSq, kRt, kRtN, kSet, kSetL, kIf, kPar, kTpl, kSub, kAug, kEx, kNx, kBk, kCt, kFor, xCall, xAgs, xV, xBin, xUn, xIf, xTup, xLst, xIx, xCut, xRv, revD, xPt, xAnd, xOr, tAn, tOrr, tNt, tC1, tCC, tX, xT, xBi, xIsi, xMut, xMet, xGet, xDic, xPs, xFst, xFs, xOs, xS, xC, rdO, rdOs, atI, binD, addD, subD, mulD, divD, modD, unD, truthD, resD, newB, arr, pickS, nodupB, slotsOf, ownAll, xVs, outI, afterIo, putBack, biD, lenB, lenD, absB, intB, cmpD, eqD_int, eqD_str, eqD_bool, ltD_int, PySem.W.dataLt_int, isD, isNoneD, g1, gN', setsD, seqD, frz, mutD, appM, popM, extM, revM, xRng, xZp, xLz, xLr, xSum, kNo, xIt, itemsD, augD, tTr, xLc, xLcL, frzs, wipeE, backE, pend_c, pend_a, pend_l, pend_sa, pend_sl, hd0, m0, mL, a1, a2, a3, a4, a5, a6, a7, a8, a9, nm1, nm2, nm3, nm4, nm5, nm6, nm7, dv, List.length_map, hn1, hx1, hx2, hab, hb1, p1018, st1, st2, st3]
      · have hb1 : decide (ab < 1000000000000000000) = false := decide_eq_false hb
        refine ⟨ab.fmod many, pn cs (n + 1) (ab.fdiv many), ?_, (fmodR hm).1, (fmodR hm).2, cs, n + 1, _, rfl, by omega, by omega, h2⟩
        simp only [s2, ↓bind_m, Option.map_some, Option.map_none, List.getElem?_cons_zero, List.getElem?_cons_succ, List.getElem?_nil, List.set_cons_zero, List.set_cons_succ, List.length_cons, List.length_nil, List.length_append, Nat.zero_add, Nat.reduceAdd, Nat.reduceSub, Nat.reduceLT, Nat.reduceLeDiff, Nat.reduceBEq, Nat.reduceEqDiff, Int.reduceLT, Int.reduceLE, Int.reduceNeg, Int.reduceEq, Int.reduceToNat, reduceIte, reduceCtorEq, List.contains_nil, List.contains_cons, List.cons_append, List.nil_append, if_true, if_false, ite_true, ite_false, Bool.false_eq_true, decide_true, decide_false, Bool.not_true, Bool.not_false, Bool.and_true, Bool.true_and, Bool.and_self, Bool.and_false, Bool.false_and, Bool.or_false, Bool.or_true, Bool.false_or, Bool.true_or, List.all_cons, List.all_nil, ixN_zero, ixN_1, ixN_2, ixN_3, ixN_4, ixN_5, ixN_6, ixN_7, ixN_8, ixN_9, ixN_10, ixN_11, ixN_12, ixN_m1, ixN_m2, ixN_nat, sz_ok, sz_lt, Nat.zero_le, Nat.reduceLT, and_self, and_true, true_and, not_false_eq_true, not_true_eq_false, beq_self_eq_true, ne_eq, not_true, not_false_iff, Nat.succ_ne_self, idxD_l, idxD_t, setIx_l, kSq, kRt, kRtN, kSet, kSetL, kIf, kPar, kTpl, kSub, kAug, kEx, kNx, kBk, kCt, kFor, xCall, xAgs, xV, xBin, xUn, xIf, xTup, xLst, xIx, xCut, xRv, revD, xPt, xAnd, xOr, tAn, tOrr, tNt, tC1, tCC, tX, xT, xBi, xIsi, xMut, xMet, xGet, xDic, xPs, xFst, xFs, xOs, xS, xC, rdO, rdOs, atI, binD, addD, subD, mulD, divD, modD, unD, truthD, resD, newB, arr, pickS, nodupB, slotsOf, ownAll, xVs, outI, afterIo, putBack, biD, lenB, lenD, absB, intB, cmpD, eqD_int, eqD_str, eqD_bool, ltD_int, PySem.W.dataLt_int, isD, isNoneD, g1, gN', setsD, seqD, frz, mutD, appM, popM, extM, revM, xRng, xZp, xLz, xLr, xSum, kNo, xIt, itemsD, augD, tTr, xLc, xLcL, frzs, wipeE, backE, pend_c, pend_a, pend_l, pend_sa, pend_sl, hd0, m0, mL, a1, a2, a3, List.length_map, hn1, hx1, hx2, hab, hb1, p1018]
    · have hn1 : decide (n < (cs.length : Int)) = false := decide_eq_false hn
      by_cases hcs : 0 < (cs.length : Int)
      · have hc1 : decide (0 < (cs.length : Int)) = true := decide_eq_true hcs
        have hc0 : ((cs.length : Int) = 0) = False := eq_false (by omega)
        obtain ⟨r1, r2⟩ := fmodR (a := n) hcs
        have hx1 : ixN cs.length (n.fmod cs.length) = some (n.fmod cs.length).toNat := by
          unfold ixN
          rw [if_pos r1, if_pos r2]
        have hlt : (n.fmod cs.length).toNat < cs.length := by omega
        have hx2 : (cs.map PyData.int)[(n.fmod cs.length).toNat]? = some (.int cs[(n.fmod cs.length).toNat]) := by simp [hlt]
        generalize cs[(n.fmod cs.length).toNat] = cell at hx2
        refine ⟨(st3 (st2 (st1 (cell.fmod 100000000000000000 + 60089 * n) n) n)).fmod many, pn cs (n + 1) l, ?_, (fmodR hm).1, (fmodR hm).2, cs, n + 1, l, rfl, by omega, by omega, h2⟩
        simp only [s2, ↓bind_m, Option.map_some, Option.map_none, List.getElem?_cons_zero, List.getElem?_cons_succ, List.getElem?_nil, List.set_cons_zero, List.set_cons_succ, List.length_cons, List.length_nil, List.length_append, Nat.zero_add, Nat.reduceAdd, Nat.reduceSub, Nat.reduceLT, Nat.reduceLeDiff, Nat.reduceBEq, Nat.reduceEqDiff, Int.reduceLT, Int.reduceLE, Int.reduceNeg, Int.reduceEq, Int.reduceToNat, reduceIte, reduceCtorEq, List.contains_nil, List.contains_cons, List.cons_append, List.nil_append, if_true, if_false, ite_true, ite_false, Bool.false_eq_true, decide_true, decide_false, Bool.not_true, Bool.not_false, Bool.and_true, Bool.true_and, Bool.and_self, Bool.and_false, Bool.false_and, Bool.or_false, Bool.or_true, Bool.false_or, Bool.true_or, List.all_cons, List.all_nil, ixN_zero, ixN_1, ixN_2, ixN_3, ixN_4, ixN_5, ixN_6, ixN_7, ixN_8, ixN_9, ixN_10, ixN_11, ixN_12, ixN_m1, ixN_m2, ixN_nat, sz_ok, sz_lt, Nat.zero_le, Nat.reduceLT, and_self, and_true, true_and, not_false_eq_true, not_true_eq_false, beq_self_eq_true, ne_eq, not_true, not_false_iff, Nat.succ_ne_self, idxD_l, idxD_t, setIx_l, kSq, kRt, kRtN, kSet, kSetL, kIf, kPar, kTpl, kSub, kAug, kEx, kNx, kBk, kCt, kFor, xCall, xAgs, xV, xBin, xUn, xIf, xTup, xLst, xIx, xCut, xRv, revD, xPt, xAnd, xOr, tAn, tOrr, tNt, tC1, tCC, tX, xT, xBi, xIsi, xMut, xMet, xGet, xDic, xPs, xFst, xFs, xOs, xS, xC, rdO, rdOs, atI, binD, addD, subD, mulD, divD, modD, unD, truthD, resD, newB, arr, pickS, nodupB, slotsOf, ownAll, xVs, outI, afterIo, putBack, biD, lenB, lenD, absB, intB, cmpD, eqD_int, eqD_str, eqD_bool, ltD_int, PySem.W.dataLt_int, isD, isNoneD, g1, gN', setsD, seqD, frz, mutD, appM, popM, extM, revM, xRng, xZp, xLz, xLr, xSum, kNo, xIt, itemsD, augD, tTr, xLc, xLcL, frzs, wipeE, backE, pend_c, pend_a, pend_l, pend_sa, pend_sl, hd0, m0, mL, a1, a2, a3, a4, a5, a6, a7, a8, a9, nm1, nm2, nm3, nm4, nm5, nm6, nm7, nm8, dv, List.length_map, hn1, hc1, hc0, hx1, hx2, p1017, st1, st2, st3]
      · have hc1 : decide (0 < (cs.length : Int)) = false := decide_eq_false hcs
        refine ⟨(st3 (st2 (st1 (30059 * n * n + 101 * n + 37) n) n)).fmod many, pn cs (n + 1) l, ?_, (fmodR hm).1, (fmodR hm).2, cs, n + 1, l, rfl, by omega, by omega, h2⟩
        simp only [s2, ↓bind_m, Option.map_some, Option.map_none, List.getElem?_cons_zero, List.getElem?_cons_succ, List.getElem?_nil, List.set_cons_zero, List.set_cons_succ, List.length_cons, List.length_nil, List.length_append, Nat.zero_add, Nat.reduceAdd, Nat.reduceSub, Nat.reduceLT, Nat.reduceLeDiff, Nat.reduceBEq, Nat.reduceEqDiff, Int.reduceLT, Int.reduceLE, Int.reduceNeg, Int.reduceEq, Int.reduceToNat, reduceIte, reduceCtorEq, List.contains_nil, List.contains_cons, List.cons_append, List.nil_append, if_true, if_false, ite_true, ite_false, Bool.false_eq_true, decide_true, decide_false, Bool.not_true, Bool.not_false, Bool.and_true, Bool.true_and, Bool.and_self, Bool.and_false, Bool.false_and, Bool.or_false, Bool.or_true, Bool.false_or, Bool.true_or, List.all_cons, List.all_nil, ixN_zero, ixN_1, ixN_2, ixN_3, ixN_4, ixN_5, ixN_6, ixN_7, ixN_8, ixN_9, ixN_10, ixN_11, ixN_12, ixN_m1, ixN_m2, ixN_nat, sz_ok, sz_lt, Nat.zero_le, Nat.reduceLT, and_self, and_true, true_and, not_false_eq_true, not_true_eq_false, beq_self_eq_true, ne_eq, not_true, not_false_iff, Nat.succ_ne_self, idxD_l, idxD_t, setIx_l, kSq, kRt, kRtN, kSet, kSetL, kIf, kPar, kTpl, kSub, kAug, kEx, kNx, kBk, kCt, kFor, xCall, xAgs, xV, xBin, xUn, xIf, xTup, xLst, xIx, xCut, xRv, revD, xPt, xAnd, xOr, tAn, tOrr, tNt, tC1, tCC, tX, xT, xBi, xIsi, xMut, xMet, xGet, xDic, xPs, xFst, xFs, xOs, xS, xC, rdO, rdOs, atI, binD, addD, subD, mulD, divD, modD, unD, truthD, resD, newB, arr, pickS, nodupB, slotsOf, ownAll, xVs, outI, afterIo, putBack, biD, lenB, lenD, absB, intB, cmpD, eqD_int, eqD_str, eqD_bool, ltD_int, PySem.W.dataLt_int, isD, isNoneD, g1, gN', setsD, seqD, frz, mutD, appM, popM, extM, revM, xRng, xZp, xLz, xLr, xSum, kNo, xIt, itemsD, augD, tTr, xLc, xLcL, frzs, wipeE, backE, pend_c, pend_a, pend_l, pend_sa, pend_sl, hd0, m0, mL, a1, a2, a3, a4, a5, a6, a7, a8, a9, nm1, nm2, nm3, nm4, nm5, nm6, nm7, dv, List.length_map, hn1, hc1, st1, st2, st3]
/-! ## what is drawn, by its sort -/
def Dr : Dra := ⟨fun f => f == 2, 100000⟩
def Mt (t : Nat) : Am := ⟨fun k p => Pen (t + k) p, fun _ _ => False, fun j k d h p => p.mono (by omega)⟩
theorem dr_ok (t k : Nat) (ht : t ≤ 800000) : DrOk (Mt t) (Γ (k + 1)) nm Dr := by
  intro f hf j p m hk hp h1 h2
  have : f = 2 := by simpa [Dr] using hf
  subst this
  obtain ⟨v, p', e, a, b, q⟩ := take_ok k hp (many := m) (by omega) (by omega) (by simp only [Dr] at hk; omega)
  exact ⟨v, p', e, a, b, q⟩
theorem run_ok (n t k : Nat) (ht : t ≤ 800000) : KOk (Mt t) (Γ (k + 1 + n)) nm (aKs Dr (drK Dr) rds n) :=
  aKs_ok (Γs := Γ) (fun k => drK_ok (dr_ok t k ht)) (fun k => dr_ok t k ht) rds_ok n k
theorem pen_ok (k : Nat) (ns : List Int) (h : ns.length ≤ 63) : ∃ p, Γ (k + 1) "_law_pen" [scrD (ns.map .int)] = some (true, p, [scrD (ns.map .int)]) ∧ Pen 0 p := by
  obtain ⟨cs, e, l⟩ : ∃ cs : List Int, cutP (ns.map PyData.int) none (some 63) = cs.map .int ∧ cs.length ≤ 63 := by
    refine ⟨(ns.drop (HT.sIx (ns.map PyData.int).length 0 none)).take (HT.sIx (ns.map PyData.int).length (ns.map PyData.int).length (some 63) - HT.sIx (ns.map PyData.int).length 0 none), ?_, ?_⟩
    · unfold cutP
      rw [List.map_take, List.map_drop]
    · simp only [List.length_take, List.length_drop]
      omega
  refine ⟨pn cs 0 0, ?_, cs, 0, 0, rfl, by decide, by simp, l⟩
  rw [c1]
  have m : ∀ x : PyData, mergeE [] [(.str "cells", x), (.str "at", .int 0), (.str "left", .int 0)] = [(.str "cells", x), (.str "at", .int 0), (.str "left", .int 0)] := fun x => rfl
  have ka : ∀ x : PyData, ([(.str "cells", x), (.str "at", .int 0), (.str "left", .int 0)] : Es).all (fun e => (keyOf e.1).isSome) = true := fun x => rfl
  simp only [s1, scrD, cutD, ↓bind_m, Option.map_some, Option.map_none, List.getElem?_cons_zero, List.getElem?_cons_succ, List.getElem?_nil, List.set_cons_zero, List.set_cons_succ, List.length_cons, List.length_nil, List.length_append, Nat.zero_add, Nat.reduceAdd, Nat.reduceSub, Nat.reduceLT, Nat.reduceLeDiff, Nat.reduceBEq, Nat.reduceEqDiff, Int.reduceLT, Int.reduceLE, Int.reduceNeg, Int.reduceEq, Int.reduceToNat, reduceIte, reduceCtorEq, List.contains_nil, List.contains_cons, List.cons_append, List.nil_append, if_true, if_false, ite_true, ite_false, Bool.false_eq_true, decide_true, decide_false, Bool.not_true, Bool.not_false, Bool.and_true, Bool.true_and, Bool.and_self, Bool.and_false, Bool.false_and, Bool.or_false, Bool.or_true, Bool.false_or, Bool.true_or, List.all_cons, List.all_nil, ixN_zero, ixN_1, ixN_2, ixN_3, ixN_4, ixN_5, ixN_6, ixN_7, ixN_8, ixN_9, ixN_10, ixN_11, ixN_12, ixN_m1, ixN_m2, ixN_nat, sz_ok, sz_lt, Nat.zero_le, Nat.reduceLT, and_self, and_true, true_and, not_false_eq_true, not_true_eq_false, beq_self_eq_true, ne_eq, not_true, not_false_iff, Nat.succ_ne_self, kSq, kRt, kRtN, kSet, kSetL, kIf, kPar, kTpl, kSub, kAug, kEx, kNx, kBk, kCt, kFor, xCall, xAgs, xV, xBin, xUn, xIf, xTup, xLst, xIx, xCut, xRv, revD, xPt, xAnd, xOr, tAn, tOrr, tNt, tC1, tCC, tX, xT, xBi, xIsi, xMut, xMet, xGet, xDic, xPs, xFst, xFs, xOs, xS, xC, rdO, rdOs, idxD, atI, binD, addD, subD, mulD, divD, modD, unD, truthD, resD, newB, arr, pickS, nodupB, slotsOf, ownAll, xVs, outI, afterIo, putBack, biD, lenB, lenD, absB, intB, cmpD, eqD_int, eqD_str, eqD_bool, ltD_int, PySem.W.dataLt_int, isD, isNoneD, g1, gN', setsD, seqD, frz, mutD, setIx, appM, popM, extM, revM, xRng, xZp, xLz, xLr, xSum, kNo, xIt, itemsD, augD, tTr, xLc, xLcL, frzs, wipeE, backE, e, m, keyOf, Option.isSome_some]
end K09


namespace K09
open PySem PySem.Spec L2 Pf
abbrev chS (c : Nat) : Str := ⟨#[c]⟩
abbrev ch (c : Nat) : PyData := .str (chS c)
abbrev key (a b : Nat) : Str := chS a ++ chS b
abbrev prow (r : Str × Int) : PyData := .tuple [.str r.1, .int r.2]
abbrev srow (r : Str × Str × Int) : PyData := .tuple [.str r.1, .str r.2.1, .int r.2.2]
abbrev RR (z : Str) (rs : List (Str × Int)) (g : Int) (ls : List Int) (ss : List (Str × Str × Int)) : PyData := .tuple [.str z, .tuple (rs.map prow), .int g, .tuple (ls.map .int), .tuple (ss.map srow)]
def Wth (i : Int) : Prop := -99 ≤ i ∧ i ≤ 99
def Lt (z : Str) : Prop := z.cps.toList.Nodup ∧ 1 ≤ z.length ∧ z.length ≤ 6 ∧ ∀ c ∈ z.cps.toList, 97 ≤ c ∧ c ≤ 122
def Prs (z : Str) (rs : List (Str × Int)) : Prop := (rs.map (·.1)).Nodup ∧ rs.length ≤ 12 ∧ ∀ r ∈ rs, Wth r.2 ∧ ∃ a b, r.1 = key a b ∧ a ∈ z.cps.toList ∧ b ∈ z.cps.toList
def Sts (rs : List (Str × Int)) (ss : List (Str × Str × Int)) : Prop := ss.length ≤ 12 ∧ (ss.map fun r => (r.1, r.2.1)).Nodup ∧ ∀ r ∈ ss, Wth r.2.2 ∧ r.1 ∈ rs.map (·.1) ∧ r.2.1 ∈ rs.map (·.1)
theorem len_app (a b : Str) : (a ++ b).length = a.length + b.length := Str.length_append a b
theorem key_inj {a b c d : Nat} (h : key a b = key c d) : a = c ∧ b = d := by
  have e : (key a b).cps = (key c d).cps := by rw [h]
  have e2 : (#[a, b] : Array Nat) = #[c, d] := e
  simpa using e2
theorem keys_nodup {z : List Nat} (hz : z.Nodup) : ∀ {xs : List Nat}, xs.Nodup → (xs.flatMap fun a => z.map (key a)).Nodup
  | [], _ => .nil
  | x :: xs, h => by
    rw [List.flatMap_cons]
    have hx := List.nodup_cons.mp h
    refine List.nodup_append.mpr ⟨?_, keys_nodup hz hx.2, ?_⟩
    · exact List.Pairwise.map _ (fun a b hab e => hab (key_inj e).2) hz
    · intro a ha b hb e
      subst e
      obtain ⟨c, _, rfl⟩ := List.mem_map.mp ha
      obtain ⟨y, hy, hb⟩ := List.mem_flatMap.mp hb
      obtain ⟨d, _, he⟩ := List.mem_map.mp hb
      exact hx.1 ((key_inj he).1 ▸ hy)
theorem worth_ok (k : Nat) {t : Nat} {p : PyData} (hp : Pen t p) (ht : t ≤ 800000) : ∃ i p', Γ (k + 4) "_law_worth" [p] = some (false, .int i, [p']) ∧ Wth i ∧ Pen (t + 4) p' := by
  have run : isSo (aKs Dr (drK Dr) rds 3 4 [.pen 0]) false (.int (-99) 99) [.pen 4] = true := by decide +kernel
  obtain ⟨d, ds, e, g, gs⟩ := isSo_ok (run_ok 3 t k ht) run (ds := [p]) (.cons (.pen hp) .nil)
  obtain ⟨p', rfl, gp⟩ := gs.one
  cases gp with | pen gp => cases g with | int a b => exact ⟨_, p', e, ⟨a, b⟩, gp⟩
/-- one of a list, a tuple, a text -/
theorem pick_ok (k : Nat) {t : Nat} {p : PyData} (hp : Pen t p) (ht : t ≤ 800000) {s : PyData} {n : Nat} (hn : lenD s = some (n : Int)) (h0 : 0 < n) (h1 : n < 1000000) {P : PyData → Prop} (hx : ∀ i : Int, 0 ≤ i → i < n → ∃ d, idxD s (.int i) = some d ∧ P d) : ∃ d p', Γ (k + 2) "_law_pick" [p, s] = some (false, d, [p', s]) ∧ P d ∧ Pen (t + 1) p' := by
  obtain ⟨v, p', e, a, b, q⟩ := take_ok k hp (many := n) (by omega) (by omega) (by omega)
  obtain ⟨d, hd, hP⟩ := hx v a b
  refine ⟨d, p', ?_, hP, q⟩
  rw [c3]
  have hl : lenB [s] = some (.int n) := by simp only [lenB, hn, Option.map_some]
  have b1 : ∀ ds, biD .len ds = lenB ds := fun ds => rfl
  simp only [s3, ↓bind_m, kSq, kRt, xIx, xCall, xAgs, xV, xBi, xOs, xS, rdO, rdOs, b1, hl, resD, newB, arr, pickS, nodupB, slotsOf, ownAll, xVs, outI, afterIo, putBack, Option.map_some, List.getElem?_cons_zero, List.getElem?_cons_succ, List.set_cons_zero, List.set_cons_succ, List.length_cons, List.length_nil, List.contains_cons, List.contains_nil, List.all_cons, List.all_nil, if_true, if_false, Bool.and_true, Bool.not_false, Bool.true_and, Bool.and_self, Bool.false_eq_true, Nat.zero_add, Nat.reduceAdd, e, hd, ite_true, ite_false, reduceIte, Nat.reduceEqDiff]
theorem pick_list (k : Nat) {t : Nat} {p : PyData} (hp : Pen t p) (ht : t ≤ 800000) {xs : List PyData} (h0 : xs ≠ []) (h1 : xs.length < 1000000) : ∃ d p', Γ (k + 2) "_law_pick" [p, .list xs] = some (false, d, [p', .list xs]) ∧ d ∈ xs ∧ Pen (t + 1) p' := by
  refine pick_ok k hp ht (n := xs.length) rfl (List.length_pos_iff.mpr h0) h1 fun i i0 i1 => ?_
  have hi : i.toNat < xs.length := by omega
  have e : ixN xs.length i = some i.toNat := by
    unfold ixN
    rw [if_pos i0, if_pos i1]
  exact ⟨xs[i.toNat], by rw [idxD_l, e, Option.bind_some, List.getElem?_eq_getElem hi], List.getElem_mem hi⟩
theorem pick_tuple (k : Nat) {t : Nat} {p : PyData} (hp : Pen t p) (ht : t ≤ 800000) {xs : List PyData} (h0 : xs ≠ []) (h1 : xs.length < 1000000) : ∃ d p', Γ (k + 2) "_law_pick" [p, .tuple xs] = some (false, d, [p', .tuple xs]) ∧ d ∈ xs ∧ Pen (t + 1) p' := by
  refine pick_ok k hp ht (n := xs.length) rfl (List.length_pos_iff.mpr h0) h1 fun i i0 i1 => ?_
  have hi : i.toNat < xs.length := by omega
  have e : ixN xs.length i = some i.toNat := by
    unfold ixN
    rw [if_pos i0, if_pos i1]
  exact ⟨xs[i.toNat], by rw [idxD_t, e, Option.bind_some, List.getElem?_eq_getElem hi], List.getElem_mem hi⟩
theorem pick_str (k : Nat) {t : Nat} {p : PyData} (hp : Pen t p) (ht : t ≤ 800000) {z : Str} (h0 : 1 ≤ z.length) (h1 : z.length < 1000000) : ∃ c p', Γ (k + 2) "_law_pick" [p, .str z] = some (false, ch c, [p', .str z]) ∧ c ∈ z.cps.toList ∧ Pen (t + 1) p' := by
  have hz : z.length ≤ sizeLine := by have : sizeLine = 16777216 := rfl; omega
  obtain ⟨d, p', e, ⟨c, rfl, hc⟩, q⟩ := pick_ok k hp ht (s := .str z) (n := z.length) (by simp only [lenD, hz, if_true]) (by omega) h1 (P := fun d => ∃ c, d = ch c ∧ c ∈ z.cps.toList) fun i i0 i1 => by
    obtain ⟨c, h1, h2, _⟩ := ix_str i0 i1 hz
    exact ⟨_, h2, c, rfl, h1⟩
  exact ⟨c, p', e, hc, q⟩
/-! ## the code -/
theorem ev_loop (k : Nat) {z : Str} (hz : Lt z) {p : PyData} : ∀ (xs : List Nat) (ts : List Str) (x3 : Option (Bool × PyData)), ts.length + 6 * xs.length ≤ 100 →
    ∃ x3', kLoop (g1 3) (b5_0 (Γ k)) (xs.map ch) [some (true, p), some (false, .str z), some (true, .list (ts.map .str)), x3, none, none, none, none, none, none, none, none, none, none, none] =
      some (.nx [some (true, p), some (false, .str z), some (true, .list ((ts ++ xs.flatMap fun c => z.cps.toList.map (key c)).map .str)), x3', none, none, none, none, none, none, none, none, none, none, none])
  | [], ts, x3, _ => ⟨x3, by simp [kLoop_nil]⟩
  | c :: xs, ts, x3, hl => by
    simp only [List.length_cons] at hl
    have h6 : z.cps.toList.length ≤ 6 := Nat.le_trans (Nat.le_of_eq Array.length_toList) hz.2.2.1
    have lc := lc_pure (t := tTr) (v := xV [0] (xBin .Add (xS 3) (xS 4))) (i := 4) (ρ := [some (true, p), some (false, .str z), some (true, .list (ts.map .str)), some (false, ch c), none, none, none, none, none, none, none, none, none, none, none]) (p := fun _ => true)
      (f := fun d => match d with | .str y => .str (chS c ++ y) | _ => .none) rfl (z.cps.toList.map ch) [] (fun x _ => rfl) (fun x hx _ => by
      obtain ⟨y, _, rfl⟩ := List.mem_map.mp hx
      have hc : (chS c).length + (chS y).length ≤ sizeLine := show 1 + 1 ≤ sizeLine by decide
      exact ⟨false, by simp only [↓bind_m, Option.map_some, Option.map_none, List.getElem?_cons_zero, List.getElem?_cons_succ, List.getElem?_nil, List.set_cons_zero, List.set_cons_succ, List.length_cons, List.length_nil, List.length_append, Nat.zero_add, Nat.reduceAdd, Nat.reduceSub, Nat.reduceLT, Nat.reduceLeDiff, Nat.reduceBEq, Nat.reduceEqDiff, Int.reduceLT, Int.reduceLE, Int.reduceNeg, Int.reduceEq, Int.reduceToNat, reduceIte, reduceCtorEq, List.contains_nil, List.contains_cons, List.cons_append, List.nil_append, if_true, if_false, ite_true, ite_false, Bool.false_eq_true, decide_true, decide_false, Bool.not_true, Bool.not_false, Bool.and_true, Bool.true_and, Bool.and_self, Bool.and_false, Bool.false_and, Bool.or_false, Bool.or_true, Bool.false_or, Bool.true_or, List.all_cons, List.all_nil, ixN_zero, ixN_1, ixN_2, ixN_3, ixN_4, ixN_5, ixN_6, ixN_7, ixN_8, ixN_9, ixN_10, ixN_11, ixN_12, ixN_m1, ixN_m2, ixN_nat, sz_ok, sz_lt, Nat.zero_le, Nat.reduceLT, and_self, and_true, true_and, not_false_eq_true, not_true_eq_false, beq_self_eq_true, ne_eq, not_true, not_false_iff, Nat.succ_ne_self, kSq, kRt, kRtN, kSet, kSetL, kIf, kPar, kTpl, kSub, kAug, kEx, kNx, kBk, kCt, kFor, xCall, xAgs, xV, xBin, xUn, xIf, xTup, xLst, xIx, xCut, xRv, revD, xPt, xAnd, xOr, tAn, tOrr, tNt, tC1, tCC, tX, xT, xBi, xIsi, xMut, xMet, xGet, xDic, xPs, xFst, xFs, xOs, xS, xC, rdO, rdOs, idxD, atI, binD, addD, subD, mulD, divD, modD, unD, truthD, resD, newB, arr, pickS, nodupB, slotsOf, ownAll, xVs, outI, afterIo, putBack, biD, lenB, lenD, absB, intB, cmpD, eqD_int, eqD_str, eqD_bool, ltD_int, PySem.W.dataLt_int, isD, isNoneD, g1, gN', setsD, seqD, frz, mutD, setIx, appM, popM, extM, revM, xRng, xZp, xLz, xLr, xSum, kNo, xIt, itemsD, augD, tTr, xLc, xLcL, frzs, wipeE, backE, hc]⟩) (by
      rw [List.length_map]
      exact Nat.le_trans (show 0 + z.cps.toList.length ≤ 6 by omega) (by decide))
    rw [List.filter_eq_self.mpr (fun _ _ => rfl), List.nil_append] at lc
    have m : (z.cps.toList.map ch).map (fun d => match d with | .str y => PyData.str (chS c ++ y) | _ => .none) = (z.cps.toList.map (key c)).map .str := by
      rw [List.map_map, List.map_map]
      rfl
    rw [m] at lc
    have lc' : lcG (g1 4) tTr (xV [0] (xBin .Add (xS 3) (xS 4))) [4] (charsD z) [] [some (true, p), some (false, .str z), some (true, .list (ts.map .str)), some (false, ch c), none, none, none, none, none, none, none, none, none, none, none] = _ := lc
    have hs : ts.length + z.cps.toList.length ≤ sizeLine := Nat.le_trans (show _ ≤ 200 by omega) (by decide)
    have e : kSq (b5_0 (Γ k)) [some (true, p), some (false, .str z), some (true, .list (ts.map .str)), some (false, ch c), none, none, none, none, none, none, none, none, none, none, none] =
        some (.nx [some (true, p), some (false, .str z), some (true, .list ((ts ++ z.cps.toList.map (key c)).map .str)), some (false, ch c), none, none, none, none, none, none, none, none, none, none, none]) := by
      simp only [b5_0, ↓bind_m, Option.map_some, Option.map_none, List.getElem?_cons_zero, List.getElem?_cons_succ, List.getElem?_nil, List.set_cons_zero, List.set_cons_succ, List.length_cons, List.length_nil, List.length_append, Nat.zero_add, Nat.reduceAdd, Nat.reduceSub, Nat.reduceLT, Nat.reduceLeDiff, Nat.reduceBEq, Nat.reduceEqDiff, Int.reduceLT, Int.reduceLE, Int.reduceNeg, Int.reduceEq, Int.reduceToNat, reduceIte, reduceCtorEq, List.contains_nil, List.contains_cons, List.cons_append, List.nil_append, if_true, if_false, ite_true, ite_false, Bool.false_eq_true, decide_true, decide_false, Bool.not_true, Bool.not_false, Bool.and_true, Bool.true_and, Bool.and_self, Bool.and_false, Bool.false_and, Bool.or_false, Bool.or_true, Bool.false_or, Bool.true_or, List.all_cons, List.all_nil, ixN_zero, ixN_1, ixN_2, ixN_3, ixN_4, ixN_5, ixN_6, ixN_7, ixN_8, ixN_9, ixN_10, ixN_11, ixN_12, ixN_m1, ixN_m2, ixN_nat, sz_ok, sz_lt, Nat.zero_le, Nat.reduceLT, and_self, and_true, true_and, not_false_eq_true, not_true_eq_false, beq_self_eq_true, ne_eq, not_true, not_false_iff, Nat.succ_ne_self, kSq, kRt, kRtN, kSet, kSetL, kIf, kPar, kTpl, kSub, kAug, kEx, kNx, kBk, kCt, kFor, xCall, xAgs, xV, xBin, xUn, xIf, xTup, xLst, xIx, xCut, xRv, revD, xPt, xAnd, xOr, tAn, tOrr, tNt, tC1, tCC, tX, xT, xBi, xIsi, xMut, xMet, xGet, xDic, xPs, xFst, xFs, xOs, xS, xC, rdO, rdOs, idxD, atI, binD, addD, subD, mulD, divD, modD, unD, truthD, resD, newB, arr, pickS, nodupB, slotsOf, ownAll, xVs, outI, afterIo, putBack, biD, lenB, lenD, absB, intB, cmpD, eqD_int, eqD_str, eqD_bool, ltD_int, PySem.W.dataLt_int, isD, isNoneD, g1, gN', setsD, seqD, frz, mutD, setIx, appM, popM, extM, revM, xRng, xZp, xLz, xLr, xSum, kNo, xIt, itemsD, augD, tTr, xLc, xLcL, frzs, wipeE, backE, lc', List.length_map, hs, List.map_append]
    obtain ⟨x3', e2⟩ := ev_loop k hz xs (ts ++ z.cps.toList.map (key c)) (some (false, ch c)) (by simp only [List.length_append, List.length_map]; omega)
    refine ⟨x3', ?_⟩
    rw [List.map_cons, kLoop_cons]
    simp only [g1, Option.bind_some, List.set_cons_succ, List.set_cons_zero, e]
    rw [List.flatMap_cons, ← List.append_assoc]
    exact e2
theorem er_map : ∀ (ks : List Str) (n : Nat), (ks.map PyData.str).eraseIdx n = (ks.eraseIdx n).map .str
  | [], _ => rfl
  | _ :: _, 0 => rfl
  | k :: ks, n + 1 => by simp only [List.map_cons, List.eraseIdx_cons_succ, er_map ks n]
theorem pop_loop (k : Nat) {x1 x2 x3 x5 : Option (Bool × PyData)} : ∀ (m : Nat) (w : Nat) (ks : List Str) (t : Nat) (p : PyData), m < w → ks.length ≤ 12 + m → Pen t p → t + m ≤ 700000 → ks.length < 1000 →
    ∃ (ks' : List Str) (p' : PyData), kWh w (tC1 .Gt (xBi .len [xS 6]) (xC (.int 12))) (b5_1 (Γ (k + 1))) [some (true, p), x1, x2, x3, none, x5, some (true, .list (ks.map .str)), none, none, none, none, none, none, none, none] =
      some (.nx [some (true, p'), x1, x2, x3, none, x5, some (true, .list (ks'.map .str)), none, none, none, none, none, none, none, none]) ∧ ks'.Sublist ks ∧ ks'.length ≤ 12 ∧ Pen (t + m) p'
  | m, 0, _, _, _, h, _, _, _, _ => by omega
  | m, w + 1, ks, t, p, hw, hl, hp, ht, h3 => by
    by_cases h : (12 : Int) < ks.length
    · have hd : decide ((12 : Int) < (ks.length : Int)) = true := decide_eq_true h
      cases m with
      | zero => omega
      | succ m =>
        obtain ⟨v, p1, e, a, b, q⟩ := take_ok k hp (many := ks.length) (by omega) (by omega) (by omega)
        have hv : v.toNat < ks.length := by omega
        have e1 : ixN ks.length v = some v.toNat := by
          unfold ixN
          rw [if_pos a, if_pos b]
        have e2 : (ks.map PyData.str)[v.toNat]? = some (.str ks[v.toNat]) := by simp [hv]
        have e3 : ((-(2 ^ 63) : Int) ≤ v ∧ v < 2 ^ 63) = True := eq_true ⟨by omega, by omega⟩
        have e4 : (ks.map PyData.str).eraseIdx v.toNat = (ks.eraseIdx v.toNat).map .str := er_map _ _
        obtain ⟨ks', p', e5, s1, s2, q2⟩ := pop_loop k m w (ks.eraseIdx v.toNat) (t + 1) p1 (by omega) (by rw [List.length_eraseIdx_of_lt hv]; omega) q (by omega) (by rw [List.length_eraseIdx_of_lt hv]; omega)
        refine ⟨ks', p', ?_, s1.trans (List.eraseIdx_sublist _ _), s2, q2.mono (by omega)⟩
        rw [kWh_succ]
        have pm : popM (ks.map .str) [.int v] = some (.list ((ks.eraseIdx v.toNat).map .str), .str ks[v.toNat]) := by
          simp only [popM, List.length_map, e1, e2, e3, e4, if_true, Option.bind_some, Option.map_some]
        have mp : mutD "pop" (.list (ks.map .str)) [.int v] = some (.list ((ks.eraseIdx v.toNat).map .str), .str ks[v.toNat]) := pm
        have b1 : kSq (b5_1 (Γ (k + 1))) [some (true, p), x1, x2, x3, none, x5, some (true, .list (ks.map .str)), none, none, none, none, none, none, none, none] = some (.nx [some (true, p1), x1, x2, x3, none, x5, some (true, .list ((ks.eraseIdx v.toNat).map .str)), none, none, none, none, none, none, none, none]) := by
          simp only [b5_1, ↓bind_m, kSq, kEx, xMut, xVs, xCall, xAgs, xV, xBi, xOs, xS, rdO, rdOs, biD, lenB, lenD, List.length_map, Option.map_some, resD, newB, arr, pickS, nodupB, slotsOf, ownAll, putBack, List.getElem?_cons_zero, List.getElem?_cons_succ, List.set_cons_zero, List.set_cons_succ, List.length_cons, List.length_nil, List.contains_cons, List.contains_nil, List.all_cons, List.all_nil, if_true, if_false, Bool.and_true, Bool.not_false, Bool.true_and, Bool.and_self, Bool.false_eq_true, Nat.zero_add, Nat.reduceAdd, e, mp, ite_true, ite_false, reduceIte, Nat.reduceEqDiff]
        simp only [↓bind_m, Option.map_some, Option.map_none, List.getElem?_cons_zero, List.getElem?_cons_succ, List.getElem?_nil, List.set_cons_zero, List.set_cons_succ, List.length_cons, List.length_nil, List.length_append, Nat.zero_add, Nat.reduceAdd, Nat.reduceSub, Nat.reduceLT, Nat.reduceLeDiff, Nat.reduceBEq, Nat.reduceEqDiff, Int.reduceLT, Int.reduceLE, Int.reduceNeg, Int.reduceEq, Int.reduceToNat, reduceIte, reduceCtorEq, List.contains_nil, List.contains_cons, List.cons_append, List.nil_append, if_true, if_false, ite_true, ite_false, Bool.false_eq_true, decide_true, decide_false, Bool.not_true, Bool.not_false, Bool.and_true, Bool.true_and, Bool.and_self, Bool.and_false, Bool.false_and, Bool.or_false, Bool.or_true, Bool.false_or, Bool.true_or, List.all_cons, List.all_nil, ixN_zero, ixN_1, ixN_2, ixN_3, ixN_4, ixN_5, ixN_6, ixN_7, ixN_8, ixN_9, ixN_10, ixN_11, ixN_12, ixN_m1, ixN_m2, ixN_nat, sz_ok, sz_lt, Nat.zero_le, Nat.reduceLT, and_self, and_true, true_and, not_false_eq_true, not_true_eq_false, beq_self_eq_true, ne_eq, not_true, not_false_iff, Nat.succ_ne_self, kSq, kRt, kRtN, kSet, kSetL, kIf, kPar, kTpl, kSub, kAug, kEx, kNx, kBk, kCt, kFor, xCall, xAgs, xV, xBin, xUn, xIf, xTup, xLst, xIx, xCut, xRv, revD, xPt, xAnd, xOr, tAn, tOrr, tNt, tC1, tCC, tX, xT, xBi, xIsi, xMut, xMet, xGet, xDic, xPs, xFst, xFs, xOs, xS, xC, rdO, rdOs, idxD, atI, binD, addD, subD, mulD, divD, modD, unD, truthD, resD, newB, arr, pickS, nodupB, slotsOf, ownAll, xVs, outI, afterIo, putBack, biD, lenB, lenD, absB, intB, cmpD, eqD_int, eqD_str, eqD_bool, ltD_int, PySem.W.dataLt_int, isD, isNoneD, g1, gN', setsD, seqD, frz, mutD, setIx, appM, popM, extM, revM, xRng, xZp, xLz, xLr, xSum, kNo, xIt, itemsD, augD, tTr, xLc, xLcL, frzs, wipeE, backE, List.length_map, hd, b1]
        exact e5
    · have hd : decide ((12 : Int) < (ks.length : Int)) = false := decide_eq_false h
      refine ⟨ks, p, ?_, List.Sublist.refl _, by omega, hp.mono (by omega)⟩
      rw [kWh_succ]
      simp only [↓bind_m, Option.map_some, Option.map_none, List.getElem?_cons_zero, List.getElem?_cons_succ, List.getElem?_nil, List.set_cons_zero, List.set_cons_succ, List.length_cons, List.length_nil, List.length_append, Nat.zero_add, Nat.reduceAdd, Nat.reduceSub, Nat.reduceLT, Nat.reduceLeDiff, Nat.reduceBEq, Nat.reduceEqDiff, Int.reduceLT, Int.reduceLE, Int.reduceNeg, Int.reduceEq, Int.reduceToNat, reduceIte, reduceCtorEq, List.contains_nil, List.contains_cons, List.cons_append, List.nil_append, if_true, if_false, ite_true, ite_false, Bool.false_eq_true, decide_true, decide_false, Bool.not_true, Bool.not_false, Bool.and_true, Bool.true_and, Bool.and_self, Bool.and_false, Bool.false_and, Bool.or_false, Bool.or_true, Bool.false_or, Bool.true_or, List.all_cons, List.all_nil, ixN_zero, ixN_1, ixN_2, ixN_3, ixN_4, ixN_5, ixN_6, ixN_7, ixN_8, ixN_9, ixN_10, ixN_11, ixN_12, ixN_m1, ixN_m2, ixN_nat, sz_ok, sz_lt, Nat.zero_le, Nat.reduceLT, and_self, and_true, true_and, not_false_eq_true, not_true_eq_false, beq_self_eq_true, ne_eq, not_true, not_false_iff, Nat.succ_ne_self, kSq, kRt, kRtN, kSet, kSetL, kIf, kPar, kTpl, kSub, kAug, kEx, kNx, kBk, kCt, kFor, xCall, xAgs, xV, xBin, xUn, xIf, xTup, xLst, xIx, xCut, xRv, revD, xPt, xAnd, xOr, tAn, tOrr, tNt, tC1, tCC, tX, xT, xBi, xIsi, xMut, xMet, xGet, xDic, xPs, xFst, xFs, xOs, xS, xC, rdO, rdOs, idxD, atI, binD, addD, subD, mulD, divD, modD, unD, truthD, resD, newB, arr, pickS, nodupB, slotsOf, ownAll, xVs, outI, afterIo, putBack, biD, lenB, lenD, absB, intB, cmpD, eqD_int, eqD_str, eqD_bool, ltD_int, PySem.W.dataLt_int, isD, isNoneD, g1, gN', setsD, seqD, frz, mutD, setIx, appM, popM, extM, revM, xRng, xZp, xLz, xLr, xSum, kNo, xIt, itemsD, augD, tTr, xLc, xLcL, frzs, wipeE, backE, List.length_map, hd]
end K09


namespace K09
open PySem PySem.Spec L2 Pf
/-! ## the plain law -/
abbrev Tk := Nat × Int
abbrev Pr := Int × Int
abbrev fp (a : Pr) : PyData := .tuple [.int a.1, .int a.2]
def run : List Tk → List Int → List Pr → Option (List Int × List Pr)
  | [], st, fd => some (st, fd)
  | t :: r, st, fd => if t.1 = 40 then run r (t.2 :: st) fd else if t.1 = 41 then (match st with | [] => none | a :: st => run r st (fd ++ [(a, t.2)])) else none
theorem run_cons (t : Tk) (r : List Tk) (st : List Int) (fd : List Pr) : run (t :: r) st fd = if t.1 = 40 then run r (t.2 :: st) fd else if t.1 = 41 then (match st with | [] => none | a :: st => run r st (fd ++ [(a, t.2)])) else none := rfl
theorem run_app : ∀ (A B : List Tk) (st : List Int) (fd : List Pr), run (A ++ B) st fd = (run A st fd).bind fun q => run B q.1 q.2
  | [], B, st, fd => rfl
  | t :: A, B, st, fd => by
    rw [List.cons_append, run_cons, run_cons]
    by_cases h : t.1 = 40
    · rw [if_pos h, if_pos h]
      exact run_app A B _ _
    · rw [if_neg h, if_neg h]
      by_cases h2 : t.1 = 41
      · rw [if_pos h2, if_pos h2]
        cases st with
        | nil => rfl
        | cons a st => exact run_app A B st (fd ++ [(a, t.2)])
      · rw [if_neg h2, if_neg h2]
        rfl
theorem run_fd : ∀ (T : List Tk) (st : List Int) (fd gd : List Pr), run T st (fd ++ gd) = (run T st gd).map fun q => (q.1, fd ++ q.2)
  | [], st, fd, gd => rfl
  | t :: r, st, fd, gd => by
    unfold run
    split
    · exact run_fd r _ _ _
    · split
      · cases st with
        | nil => rfl
        | cons a st =>
          show run r st (fd ++ gd ++ [(a, t.2)]) = _
          rw [List.append_assoc]
          exact run_fd r _ _ _
      · rfl
def rem : List Tk → Option (Pr × List Tk)
  | a :: b :: r => if a.1 = 40 ∧ b.1 = 41 then some ((a.2, b.2), r) else (rem (b :: r)).map fun q => (q.1, a :: q.2)
  | _ => none
theorem rem_len : ∀ (T : List Tk) {p : Pr} {l : List Tk}, rem T = some (p, l) → l.length + 2 = T.length
  | [], _, _, h => by cases h
  | [_], _, _, h => by cases h
  | a :: b :: r, p, l, h => by
    unfold rem at h
    split at h
    · cases h
      rfl
    · cases e : rem (b :: r) with
      | none => rw [e] at h; cases h
      | some q =>
        rw [e] at h
        cases h
        have := rem_len (b :: r) (p := q.1) (l := q.2) e
        simp only [List.length_cons] at this ⊢
        omega
theorem rem_app : ∀ (T : List Tk) {p : Pr} {l : List Tk}, rem T = some (p, l) → ∃ A B, T = A ++ (40, p.1) :: (41, p.2) :: B ∧ l = A ++ B
  | [], _, _, h => by cases h
  | [_], _, _, h => by cases h
  | a :: b :: r, p, l, h => by
    unfold rem at h
    split at h
    · rename_i hc
      cases h
      obtain ⟨a1, a2⟩ := a
      obtain ⟨b1, b2⟩ := b
      obtain ⟨rfl, rfl⟩ := hc
      exact ⟨[], _, rfl, rfl⟩
    · cases e : rem (b :: r) with
      | none => rw [e] at h; cases h
      | some q =>
        rw [e] at h
        cases h
        obtain ⟨A, B, e1, e2⟩ := rem_app (b :: r) (p := q.1) (l := q.2) e
        refine ⟨a :: A, B, ?_, ?_⟩
        · rw [e1]; rfl
        · show a :: q.2 = _
          rw [e2]; rfl
theorem stuck2 : ∀ (r : List Tk) (i j : Int), rem ((40, i) :: r) = none → ∀ st fd q, run r (j :: st) fd = some q → q.1 ≠ []
  | [], i, j, _, st, fd, q, h => by
    cases h
    exact List.cons_ne_nil _ _
  | u :: r, i, j, hn, st, fd, q, h => by
    unfold rem at hn
    split at hn
    · cases hn
    · rename_i hc
      have hn : rem (u :: r) = none := by
        cases e : rem (u :: r) with
        | none => rfl
        | some q => rw [e] at hn; cases hn
      unfold run at h
      split at h
      · rename_i h40
        obtain ⟨u1, u2⟩ := u
        have h40 : u1 = 40 := h40
        subst h40
        exact stuck2 r u2 u2 hn (j :: st) fd q h
      · split at h
        · rename_i h41
          exact absurd ⟨rfl, h41⟩ hc
        · cases h
theorem stuck {T : List Tk} (hn : rem T = none) (h0 : T ≠ []) : ∀ q, run T [] [] = some q → q.1 ≠ [] := fun q h => by
  cases T with
  | nil => exact absurd rfl h0
  | cons t r =>
    unfold run at h
    split at h
    · rename_i h40
      obtain ⟨t1, t2⟩ := t
      have h40 : t1 = 40 := h40
      subst h40
      exact stuck2 r t2 t2 hn [] [] q h
    · split at h
      · cases h
      · cases h
/-- what is told of what is left -/
def Inv (T0 T : List Tk) (F : List Pr) : Prop := match run T [] [] with
  | none => run T0 [] [] = none
  | some (st, fd) => ∃ fd0, run T0 [] [] = some (st, fd0) ∧ fd0.Perm (F ++ fd)
theorem Inv.start (T : List Tk) : Inv T T [] := by
  unfold Inv
  cases e : run T [] [] with
  | none => rfl
  | some q => exact ⟨q.2, rfl, List.Perm.refl _⟩
theorem run_ins (A B : List Tk) (i j : Int) : (run (A ++ B) [] [] = none → run (A ++ (40, i) :: (41, j) :: B) [] [] = none) ∧ ∀ st fd, run (A ++ B) [] [] = some (st, fd) → ∃ fd1, run (A ++ (40, i) :: (41, j) :: B) [] [] = some (st, fd1) ∧ fd1.Perm ((i, j) :: fd) := by
  rw [run_app, run_app]
  cases run A [] [] with
  | none => exact ⟨fun _ => rfl, fun st fd h => by cases h⟩
  | some q =>
    simp only [Option.bind_some]
    have e : run ((40, i) :: (41, j) :: B) q.1 q.2 = run B q.1 (q.2 ++ [(i, j)]) := rfl
    rw [e]
    have e1 := run_fd B q.1 q.2 []
    have e2 := run_fd B q.1 (q.2 ++ [(i, j)]) []
    rw [List.append_nil] at e1 e2
    rw [e1, e2]
    cases run B q.1 [] with
    | none => exact ⟨fun _ => rfl, fun st fd h => by cases h⟩
    | some r =>
      refine ⟨fun h => (by cases h), fun st fd h => ?_⟩
      cases h
      refine ⟨q.2 ++ [(i, j)] ++ r.2, rfl, ?_⟩
      rw [List.append_assoc]
      exact List.perm_middle
theorem Inv.next {T0 T l : List Tk} {F : List Pr} {p : Pr} (h : Inv T0 T F) (hr : rem T = some (p, l)) : Inv T0 l (F ++ [p]) := by
  obtain ⟨A, B, rfl, rfl⟩ := rem_app T hr
  obtain ⟨h1, h2⟩ := run_ins A B p.1 p.2
  unfold Inv at h ⊢
  cases e : run (A ++ B) [] [] with
  | none =>
    rw [h1 e] at h
    exact h
  | some q =>
    obtain ⟨fd1, e1, p1⟩ := h2 q.1 q.2 e
    rw [e1] at h
    obtain ⟨fd0, e0, p0⟩ := h
    refine ⟨fd0, e0, p0.trans ?_⟩
    rw [List.append_assoc]
    exact List.Perm.append_left F p1
/-! ### sorting -/
def leP (a b : Pr) : Bool := decide (a.1 < b.1 ∨ (a.1 = b.1 ∧ a.2 ≤ b.2))
def srt (as : List Pr) : List Pr := as.mergeSort leP
theorem sortD_fp (as : List Pr) : sortD (as.map fp) = (srt as).map fp := by
  unfold sortD srt
  refine (List.map_mergeSort (r := leP) (s := PySem.W.dataLe false id) (f := fp) fun a _ b _ => ?_).symm
  exact (congrFun (congrFun (PySem.W.dataLe_ii (fun p : Pr => p.1) (fun p : Pr => p.2)) a) b).symm
theorem sorted_fps (as : List Pr) (hl : as.length ≤ sizeLine) : sortedB [.list (as.map fp)] = some (.list ((srt as).map fp)) := by
  have ok : sortOk (as.map fp) = true := by
    refine sortOk_of ?_ (.inl ?_) ?_ (by rw [List.length_map]; exact hl)
    · intro a ha b hb
      obtain ⟨x, _, rfl⟩ := List.mem_map.mp ha
      obtain ⟨y, _, rfl⟩ := List.mem_map.mp hb
      simp [PySem.W.alike, PySem.W.alikeAll]
    · intro a ha
      obtain ⟨x, _, rfl⟩ := List.mem_map.mp ha
      rfl
    · intro a ha
      obtain ⟨x, _, rfl⟩ := List.mem_map.mp ha
      exact ⟨by simp [PyData.depth, PyData.depthAll], by simp [PyData.plain, PyData.plainAll]⟩
  simp only [sortedB, ok, if_true, sortD_fp]
theorem srt_perm {as bs : List Pr} (p : as.Perm bs) : srt as = srt bs := by
  have tr : ∀ a b c : Pr, leP a b = true → leP b c = true → leP a c = true := fun a b c h1 h2 => by
    unfold leP at h1 h2 ⊢
    rw [decide_eq_true_eq] at h1 h2 ⊢
    omega
  have tt : ∀ a b : Pr, (leP a b || leP b a) = true := fun a b => by
    unfold leP
    rw [Bool.or_eq_true, decide_eq_true_eq, decide_eq_true_eq]
    omega
  refine List.Perm.eq_of_pairwise (le := fun a b => leP a b = true) (fun a b _ _ h1 h2 => ?_) (List.pairwise_mergeSort tr tt as) (List.pairwise_mergeSort tr tt bs) (((List.mergeSort_perm as leP).trans p).trans (List.mergeSort_perm bs leP).symm)
  unfold leP at h1 h2
  rw [decide_eq_true_eq] at h1 h2
  exact Prod.ext (by omega) (by omega)
/-- what the pairs of a text's signs are -/
def toldP (T : List Tk) : PyData := match run T [] [] with
  | some ([], fd) => .tuple ((srt fd).map fp)
  | _ => .none
theorem told_end {T0 T : List Tk} {F : List Pr} (h : Inv T0 T F) (hn : rem T = none) : (if T = [] then PyData.tuple ((srt F).map fp) else .none) = toldP T0 := by
  unfold toldP
  unfold Inv at h
  by_cases h0 : T = []
  · subst h0
    obtain ⟨fd0, e0, p0⟩ := h
    rw [List.append_nil] at p0
    rw [e0, if_pos rfl, ← srt_perm p0]
  · rw [if_neg h0]
    cases e : run T [] [] with
    | none =>
      rw [e] at h
      rw [h]
    | some q =>
      have hs := stuck hn h0 q e
      obtain ⟨st, fd⟩ := q
      rw [e] at h
      obtain ⟨fd0, e0, _⟩ := h
      rw [e0]
      cases st with
      | nil => exact absurd rfl hs
      | cons a st => rfl
theorem run_len : ∀ (T : List Tk) (st : List Int) (fd : List Pr) {q : List Int × List Pr}, run T st fd = some q → q.2.length ≤ fd.length + T.length
  | [], st, fd, q, h => by cases h; exact Nat.le_refl _
  | t :: r, st, fd, q, h => by
    unfold run at h
    split at h
    · have := run_len r _ _ h
      simp only [List.length_cons]
      omega
    · split at h
      · cases st with
        | nil => cases h
        | cons a st =>
          have := run_len r _ _ h
          simp only [List.length_cons, List.length_append, List.length_nil] at this ⊢
          omega
      · cases h
end K09


namespace K09
open PySem PySem.Spec L2 Pf
/-! ## the walks -/
def enumL : List Nat → Nat → List Tk
  | [], _ => []
  | c :: r, m => (c, (m : Int)) :: enumL r (m + 1)
theorem enumL_len : ∀ (cs : List Nat) (m : Nat), (enumL cs m).length = cs.length
  | [], _ => rfl
  | c :: r, m => by simp only [enumL, List.length_cons, enumL_len r]
abbrev en (t : Tk) : PyData := .tuple [.int t.2, ch t.1]
abbrev tkD (t : Tk) : PyData := .tuple [ch t.1, .int t.2]
theorem num_en : ∀ (cs : List Nat) (m : Nat), numD m (cs.map ch) = (enumL cs m).map en
  | [], _ => rfl
  | c :: r, m => by
    rw [List.map_cons, numD, enumL, List.map_cons, num_en r]
def toks (cs : List Nat) : List Tk := (enumL cs 0).filter fun t => !decide (t.1 = 46)
theorem ch_eq (c d : Nat) : decide ((⟨#[c]⟩ : Str) = ⟨#[d]⟩) = decide (c = d) := decide_eq_decide.mpr ⟨fun h => by
  have := congrArg (fun s : Str => s.cps.toList) h
  simpa using this, fun h => by rw [h]⟩
theorem eq40 (c : Nat) : decide ((⟨#[c]⟩ : Str) = ("(" : Str)) = decide (c = 40) := ch_eq c 40
theorem eq41 (c : Nat) : decide ((⟨#[c]⟩ : Str) = (")" : Str)) = decide (c = 41) := ch_eq c 41
theorem eq46 (c : Nat) : decide ((⟨#[c]⟩ : Str) = ("." : Str)) = decide (c = 46) := ch_eq c 46
abbrev stD (st : List Int) : PyData := .list (st.reverse.map .int)
theorem st_push (st : List Int) (i : Int) (h : st.length < sizeLine) : mutD "append" (stD st) [.int i] = some (stD (i :: st), .none) := by
  show appM (st.reverse.map .int) [.int i] = _
  unfold stD
  simp only [appM, List.length_map, List.length_reverse, h, if_true, List.reverse_cons, List.map_append, List.map_cons, List.map_nil]
theorem st_pop (st : List Int) (a : Int) : mutD "pop" (stD (a :: st)) [] = some (stD st, .int a) := by
  show popM ((a :: st).reverse.map .int) [] = _
  unfold stD
  have : ((a :: st).reverse.map PyData.int) = st.reverse.map .int ++ [.int a] := by rw [List.reverse_cons, List.map_append]; rfl
  rw [this]
  unfold popM
  dsimp only
  rw [List.length_append, List.length_singleton, Nat.add_sub_cancel, List.getElem?_append_right (Nat.le_refl _), Nat.sub_self, List.dropLast_concat]
  rfl
theorem st_nil (st : List Int) : eqD (stD st) (.list []) = some (decide (st = [])) := by
  unfold stD
  rw [eq_nil _ (plains_ints _)]
  cases st with
  | nil => rfl
  | cons a st => simp
theorem fd_push (fd : List Pr) (p : Pr) (h : fd.length < sizeLine) : mutD "append" (.list (fd.map fp)) [.tuple [.int p.1, .int p.2]] = some (.list ((fd ++ [p]).map fp), .none) := by
  show appM (fd.map fp) [.tuple [.int p.1, .int p.2]] = _
  simp only [appM, List.length_map, h, if_true, List.map_append, List.map_cons, List.map_nil]
theorem pi_loop (k : Nat) {s : Option (Bool × PyData)} : ∀ (ts : List Tk) (st : List Int) (fd : List Pr) (x3 x4 : Option (Bool × PyData)), st.length + fd.length + ts.length ≤ 1000 →
    ∃ y3 y4, kLoop (gN' [3, 4]) (b0_0 (Γ k)) (ts.map en) [s, some (true, .list (fd.map fp)), some (true, stD st), x3, x4] =
      (match run (ts.filter fun t => !decide (t.1 = 46)) st fd with
        | some q => some (.nx [s, some (true, .list (q.2.map fp)), some (true, stD q.1), y3, y4])
        | none => kLoop (gN' [3, 4]) (b0_0 (Γ k)) (ts.map en) [s, some (true, .list (fd.map fp)), some (true, stD st), x3, x4]) ∧
      (run (ts.filter fun t => !decide (t.1 = 46)) st fd = none → ∃ ρ, kLoop (gN' [3, 4]) (b0_0 (Γ k)) (ts.map en) [s, some (true, .list (fd.map fp)), some (true, stD st), x3, x4] = some (.rt (.val .none) false (s :: ρ)))
  | [], st, fd, x3, x4, _ => ⟨x3, x4, rfl, fun h => by cases h⟩
  | t :: ts, st, fd, x3, x4, hl => by
    simp only [List.length_cons] at hl
    obtain ⟨c, i⟩ := t
    have s1 : st.length < sizeLine := Nat.lt_of_lt_of_le (show _ < 1001 by omega) (by decide)
    have s2 : fd.length < sizeLine := Nat.lt_of_lt_of_le (show _ < 1001 by omega) (by decide)
    have q40 := eq40 c
    have q41 := eq41 c
    have q46 := eq46 c
    have sn := st_nil st
    have go : ∀ ρ1, kSq (b0_0 (Γ k)) [s, some (true, .list (fd.map fp)), some (true, stD st), some (false, .int i), some (false, ch c)] = some (.nx ρ1) →
        kLoop (gN' [3, 4]) (b0_0 (Γ k)) (((c, i) :: ts).map en) [s, some (true, .list (fd.map fp)), some (true, stD st), x3, x4] = kLoop (gN' [3, 4]) (b0_0 (Γ k)) (ts.map en) ρ1 := fun ρ1 h => by
      rw [List.map_cons, kLoop_cons]
      simp only [gN', seqD, setsD, Option.bind_some, List.set_cons_succ, List.set_cons_zero, h]
    have go2 : ∀ o b ρ1, kSq (b0_0 (Γ k)) [s, some (true, .list (fd.map fp)), some (true, stD st), some (false, .int i), some (false, ch c)] = some (.rt o b ρ1) →
        kLoop (gN' [3, 4]) (b0_0 (Γ k)) (((c, i) :: ts).map en) [s, some (true, .list (fd.map fp)), some (true, stD st), x3, x4] = some (.rt o b ρ1) := fun o b ρ1 h => by
      rw [List.map_cons, kLoop_cons]
      simp only [gN', seqD, setsD, Option.bind_some, List.set_cons_succ, List.set_cons_zero, h]
    by_cases h46 : c = 46
    · subst h46
      have b1 : kSq (b0_0 (Γ k)) [s, some (true, .list (fd.map fp)), some (true, stD st), some (false, .int i), some (false, ch 46)] = some (.nx [s, some (true, .list (fd.map fp)), some (true, stD st), some (false, .int i), some (false, ch 46)]) := by
        rw [show decide ((46 : Nat) = 40) = false from rfl] at q40
        rw [show decide ((46 : Nat) = 41) = false from rfl] at q41
        rw [show decide ((46 : Nat) = 46) = true from rfl] at q46
        simp only [b0_0, ↓bind_m, Option.map_some, Option.map_none, List.getElem?_cons_zero, List.getElem?_cons_succ, List.getElem?_nil, List.set_cons_zero, List.set_cons_succ, List.length_cons, List.length_nil, List.length_append, Nat.zero_add, Nat.reduceAdd, Nat.reduceSub, Nat.reduceLT, Nat.reduceLeDiff, Nat.reduceBEq, Nat.reduceEqDiff, Int.reduceLT, Int.reduceLE, Int.reduceNeg, Int.reduceEq, Int.reduceToNat, reduceIte, reduceCtorEq, List.contains_nil, List.contains_cons, List.cons_append, List.nil_append, if_true, if_false, ite_true, ite_false, Bool.false_eq_true, decide_true, decide_false, Bool.not_true, Bool.not_false, Bool.and_true, Bool.true_and, Bool.and_self, Bool.and_false, Bool.false_and, Bool.or_false, Bool.or_true, Bool.false_or, Bool.true_or, List.all_cons, List.all_nil, ixN_zero, ixN_1, ixN_2, ixN_3, ixN_4, ixN_5, ixN_6, ixN_7, ixN_8, ixN_9, ixN_10, ixN_11, ixN_12, ixN_m1, ixN_m2, ixN_nat, sz_ok, sz_lt, Nat.zero_le, Nat.reduceLT, and_self, and_true, true_and, not_false_eq_true, not_true_eq_false, beq_self_eq_true, ne_eq, not_true, not_false_iff, Nat.succ_ne_self, idxD_l, idxD_t, setIx_l, kSq, kRt, kRtN, kSet, kSetL, kIf, kPar, kTpl, kSub, kAug, kEx, kNx, kBk, kCt, kFor, xCall, xAgs, xV, xBin, xUn, xIf, xTup, xLst, xIx, xCut, xRv, revD, xPt, xAnd, xOr, tAn, tOrr, tNt, tC1, tCC, tX, xT, xBi, xIsi, xMut, xMet, xGet, xDic, xPs, xFst, xFs, xOs, xS, xC, rdO, rdOs, atI, binD, addD, subD, mulD, divD, modD, unD, truthD, resD, newB, arr, pickS, nodupB, slotsOf, ownAll, xVs, outI, afterIo, putBack, biD, lenB, lenD, absB, intB, cmpD, eqD_int, eqD_str, eqD_bool, ltD_int, PySem.W.dataLt_int, isD, isNoneD, g1, gN', setsD, seqD, frz, xRng, xZp, xLz, xLr, xSum, kNo, xIt, itemsD, augD, tTr, frzs, wipeE, backE, q40, q41, q46]
      have ff : (((46, i) : Tk) :: ts).filter (fun t => !decide (t.1 = 46)) = ts.filter fun t => !decide (t.1 = 46) := List.filter_cons_of_neg (by simp)
      rw [ff, go _ b1]
      exact pi_loop k ts st fd _ _ (by omega)
    · have ff : (((c, i) : Tk) :: ts).filter (fun t => !decide (t.1 = 46)) = (c, i) :: ts.filter fun t => !decide (t.1 = 46) := List.filter_cons_of_pos (by simp [h46])
      rw [ff, run_cons]
      rw [decide_eq_false h46] at q46
      by_cases h40 : c = 40
      · rw [if_pos h40]
        rw [decide_eq_true h40] at q40
        have sp := st_push st i s1
        have b1 : kSq (b0_0 (Γ k)) [s, some (true, .list (fd.map fp)), some (true, stD st), some (false, .int i), some (false, ch c)] = some (.nx [s, some (true, .list (fd.map fp)), some (true, stD (i :: st)), some (false, .int i), some (false, ch c)]) := by
          simp only [b0_0, ↓bind_m, Option.map_some, Option.map_none, List.getElem?_cons_zero, List.getElem?_cons_succ, List.getElem?_nil, List.set_cons_zero, List.set_cons_succ, List.length_cons, List.length_nil, List.length_append, Nat.zero_add, Nat.reduceAdd, Nat.reduceSub, Nat.reduceLT, Nat.reduceLeDiff, Nat.reduceBEq, Nat.reduceEqDiff, Int.reduceLT, Int.reduceLE, Int.reduceNeg, Int.reduceEq, Int.reduceToNat, reduceIte, reduceCtorEq, List.contains_nil, List.contains_cons, List.cons_append, List.nil_append, if_true, if_false, ite_true, ite_false, Bool.false_eq_true, decide_true, decide_false, Bool.not_true, Bool.not_false, Bool.and_true, Bool.true_and, Bool.and_self, Bool.and_false, Bool.false_and, Bool.or_false, Bool.or_true, Bool.false_or, Bool.true_or, List.all_cons, List.all_nil, ixN_zero, ixN_1, ixN_2, ixN_3, ixN_4, ixN_5, ixN_6, ixN_7, ixN_8, ixN_9, ixN_10, ixN_11, ixN_12, ixN_m1, ixN_m2, ixN_nat, sz_ok, sz_lt, Nat.zero_le, Nat.reduceLT, and_self, and_true, true_and, not_false_eq_true, not_true_eq_false, beq_self_eq_true, ne_eq, not_true, not_false_iff, Nat.succ_ne_self, idxD_l, idxD_t, setIx_l, kSq, kRt, kRtN, kSet, kSetL, kIf, kPar, kTpl, kSub, kAug, kEx, kNx, kBk, kCt, kFor, xCall, xAgs, xV, xBin, xUn, xIf, xTup, xLst, xIx, xCut, xRv, revD, xPt, xAnd, xOr, tAn, tOrr, tNt, tC1, tCC, tX, xT, xBi, xIsi, xMut, xMet, xGet, xDic, xPs, xFst, xFs, xOs, xS, xC, rdO, rdOs, atI, binD, addD, subD, mulD, divD, modD, unD, truthD, resD, newB, arr, pickS, nodupB, slotsOf, ownAll, xVs, outI, afterIo, putBack, biD, lenB, lenD, absB, intB, cmpD, eqD_int, eqD_str, eqD_bool, ltD_int, PySem.W.dataLt_int, isD, isNoneD, g1, gN', setsD, seqD, frz, xRng, xZp, xLz, xLr, xSum, kNo, xIt, itemsD, augD, tTr, frzs, wipeE, backE, q40, sp]
        rw [go _ b1]
        exact pi_loop k ts (i :: st) fd _ _ (by simp only [List.length_cons]; omega)
      · rw [if_neg h40]
        rw [decide_eq_false h40] at q40
        by_cases h41 : c = 41
        · rw [if_pos h41]
          rw [decide_eq_true h41] at q41
          cases st with
          | nil =>
            have b1 : kSq (b0_0 (Γ k)) [s, some (true, .list (fd.map fp)), some (true, stD []), some (false, .int i), some (false, ch c)] = some (.rt (.val .none) false [s, some (true, .list (fd.map fp)), some (true, stD []), some (false, .int i), some (false, ch c)]) := by
              rw [show decide (([] : List Int) = []) = true from rfl] at sn
              simp only [b0_0, ↓bind_m, Option.map_some, Option.map_none, List.getElem?_cons_zero, List.getElem?_cons_succ, List.getElem?_nil, List.set_cons_zero, List.set_cons_succ, List.length_cons, List.length_nil, List.length_append, Nat.zero_add, Nat.reduceAdd, Nat.reduceSub, Nat.reduceLT, Nat.reduceLeDiff, Nat.reduceBEq, Nat.reduceEqDiff, Int.reduceLT, Int.reduceLE, Int.reduceNeg, Int.reduceEq, Int.reduceToNat, reduceIte, reduceCtorEq, List.contains_nil, List.contains_cons, List.cons_append, List.nil_append, if_true, if_false, ite_true, ite_false, Bool.false_eq_true, decide_true, decide_false, Bool.not_true, Bool.not_false, Bool.and_true, Bool.true_and, Bool.and_self, Bool.and_false, Bool.false_and, Bool.or_false, Bool.or_true, Bool.false_or, Bool.true_or, List.all_cons, List.all_nil, ixN_zero, ixN_1, ixN_2, ixN_3, ixN_4, ixN_5, ixN_6, ixN_7, ixN_8, ixN_9, ixN_10, ixN_11, ixN_12, ixN_m1, ixN_m2, ixN_nat, sz_ok, sz_lt, Nat.zero_le, Nat.reduceLT, and_self, and_true, true_and, not_false_eq_true, not_true_eq_false, beq_self_eq_true, ne_eq, not_true, not_false_iff, Nat.succ_ne_self, idxD_l, idxD_t, setIx_l, kSq, kRt, kRtN, kSet, kSetL, kIf, kPar, kTpl, kSub, kAug, kEx, kNx, kBk, kCt, kFor, xCall, xAgs, xV, xBin, xUn, xIf, xTup, xLst, xIx, xCut, xRv, revD, xPt, xAnd, xOr, tAn, tOrr, tNt, tC1, tCC, tX, xT, xBi, xIsi, xMut, xMet, xGet, xDic, xPs, xFst, xFs, xOs, xS, xC, rdO, rdOs, atI, binD, addD, subD, mulD, divD, modD, unD, truthD, resD, newB, arr, pickS, nodupB, slotsOf, ownAll, xVs, outI, afterIo, putBack, biD, lenB, lenD, absB, intB, cmpD, eqD_int, eqD_str, eqD_bool, ltD_int, PySem.W.dataLt_int, isD, isNoneD, g1, gN', setsD, seqD, frz, xRng, xZp, xLz, xLr, xSum, kNo, xIt, itemsD, augD, tTr, frzs, wipeE, backE, q40, q41, q46, sn]
            exact ⟨none, none, rfl, fun _ => ⟨_, go2 _ _ _ b1⟩⟩
          | cons a st =>
            have sp := st_pop st a
            have fpu := fd_push fd (a, i) s2
            rw [decide_eq_false (List.cons_ne_nil _ _)] at sn
            have b1 : kSq (b0_0 (Γ k)) [s, some (true, .list (fd.map fp)), some (true, stD (a :: st)), some (false, .int i), some (false, ch c)] = some (.nx [s, some (true, .list ((fd ++ [(a, i)]).map fp)), some (true, stD st), some (false, .int i), some (false, ch c)]) := by
              simp only [b0_0, ↓bind_m, Option.map_some, Option.map_none, List.getElem?_cons_zero, List.getElem?_cons_succ, List.getElem?_nil, List.set_cons_zero, List.set_cons_succ, List.length_cons, List.length_nil, List.length_append, Nat.zero_add, Nat.reduceAdd, Nat.reduceSub, Nat.reduceLT, Nat.reduceLeDiff, Nat.reduceBEq, Nat.reduceEqDiff, Int.reduceLT, Int.reduceLE, Int.reduceNeg, Int.reduceEq, Int.reduceToNat, reduceIte, reduceCtorEq, List.contains_nil, List.contains_cons, List.cons_append, List.nil_append, if_true, if_false, ite_true, ite_false, Bool.false_eq_true, decide_true, decide_false, Bool.not_true, Bool.not_false, Bool.and_true, Bool.true_and, Bool.and_self, Bool.and_false, Bool.false_and, Bool.or_false, Bool.or_true, Bool.false_or, Bool.true_or, List.all_cons, List.all_nil, ixN_zero, ixN_1, ixN_2, ixN_3, ixN_4, ixN_5, ixN_6, ixN_7, ixN_8, ixN_9, ixN_10, ixN_11, ixN_12, ixN_m1, ixN_m2, ixN_nat, sz_ok, sz_lt, Nat.zero_le, Nat.reduceLT, and_self, and_true, true_and, not_false_eq_true, not_true_eq_false, beq_self_eq_true, ne_eq, not_true, not_false_iff, Nat.succ_ne_self, idxD_l, idxD_t, setIx_l, kSq, kRt, kRtN, kSet, kSetL, kIf, kPar, kTpl, kSub, kAug, kEx, kNx, kBk, kCt, kFor, xCall, xAgs, xV, xBin, xUn, xIf, xTup, xLst, xIx, xCut, xRv, revD, xPt, xAnd, xOr, tAn, tOrr, tNt, tC1, tCC, tX, xT, xBi, xIsi, xMut, xMet, xGet, xDic, xPs, xFst, xFs, xOs, xS, xC, rdO, rdOs, atI, binD, addD, subD, mulD, divD, modD, unD, truthD, resD, newB, arr, pickS, nodupB, slotsOf, ownAll, xVs, outI, afterIo, putBack, biD, lenB, lenD, absB, intB, cmpD, eqD_int, eqD_str, eqD_bool, ltD_int, PySem.W.dataLt_int, isD, isNoneD, g1, gN', setsD, seqD, frz, xRng, xZp, xLz, xLr, xSum, kNo, xIt, itemsD, augD, tTr, frzs, wipeE, backE, q40, q41, q46, sn, sp, fpu]
            rw [go _ b1]
            exact pi_loop k ts st (fd ++ [(a, i)]) _ _ (by simp only [List.length_cons, List.length_append, List.length_nil] at hl ⊢; omega)
        · rw [if_neg h41]
          rw [decide_eq_false h41] at q41
          have b1 : kSq (b0_0 (Γ k)) [s, some (true, .list (fd.map fp)), some (true, stD st), some (false, .int i), some (false, ch c)] = some (.rt (.val .none) false [s, some (true, .list (fd.map fp)), some (true, stD st), some (false, .int i), some (false, ch c)]) := by
            simp only [b0_0, ↓bind_m, Option.map_some, Option.map_none, List.getElem?_cons_zero, List.getElem?_cons_succ, List.getElem?_nil, List.set_cons_zero, List.set_cons_succ, List.length_cons, List.length_nil, List.length_append, Nat.zero_add, Nat.reduceAdd, Nat.reduceSub, Nat.reduceLT, Nat.reduceLeDiff, Nat.reduceBEq, Nat.reduceEqDiff, Int.reduceLT, Int.reduceLE, Int.reduceNeg, Int.reduceEq, Int.reduceToNat, reduceIte, reduceCtorEq, List.contains_nil, List.contains_cons, List.cons_append, List.nil_append, if_true, if_false, ite_true, ite_false, Bool.false_eq_true, decide_true, decide_false, Bool.not_true, Bool.not_false, Bool.and_true, Bool.true_and, Bool.and_self, Bool.and_false, Bool.false_and, Bool.or_false, Bool.or_true, Bool.false_or, Bool.true_or, List.all_cons, List.all_nil, ixN_zero, ixN_1, ixN_2, ixN_3, ixN_4, ixN_5, ixN_6, ixN_7, ixN_8, ixN_9, ixN_10, ixN_11, ixN_12, ixN_m1, ixN_m2, ixN_nat, sz_ok, sz_lt, Nat.zero_le, Nat.reduceLT, and_self, and_true, true_and, not_false_eq_true, not_true_eq_false, beq_self_eq_true, ne_eq, not_true, not_false_iff, Nat.succ_ne_self, idxD_l, idxD_t, setIx_l, kSq, kRt, kRtN, kSet, kSetL, kIf, kPar, kTpl, kSub, kAug, kEx, kNx, kBk, kCt, kFor, xCall, xAgs, xV, xBin, xUn, xIf, xTup, xLst, xIx, xCut, xRv, revD, xPt, xAnd, xOr, tAn, tOrr, tNt, tC1, tCC, tX, xT, xBi, xIsi, xMut, xMet, xGet, xDic, xPs, xFst, xFs, xOs, xS, xC, rdO, rdOs, atI, binD, addD, subD, mulD, divD, modD, unD, truthD, resD, newB, arr, pickS, nodupB, slotsOf, ownAll, xVs, outI, afterIo, putBack, biD, lenB, lenD, absB, intB, cmpD, eqD_int, eqD_str, eqD_bool, ltD_int, PySem.W.dataLt_int, isD, isNoneD, g1, gN', setsD, seqD, frz, xRng, xZp, xLz, xLr, xSum, kNo, xIt, itemsD, augD, tTr, frzs, wipeE, backE, q40, q41, q46]
          exact ⟨none, none, rfl, fun _ => ⟨_, go2 _ _ _ b1⟩⟩
theorem toks_len (cs : List Nat) : (toks cs).length ≤ cs.length := by
  have := List.length_filter_le (fun t : Tk => !decide (t.1 = 46)) (enumL cs 0)
  rw [enumL_len] at this
  exact this
theorem pairsIn_ok (k : Nat) {x : Str} (hx : x.length ≤ 100) : Γ (k + 1) "pairs_in" [.str x] = some (false, toldP (toks x.cps.toList), [.str x]) := by
  have hl : x.cps.toList.length = x.length := Array.length_toList
  obtain ⟨y3, y4, e1, e2⟩ := pi_loop k (s := some (false, .str x)) (enumL x.cps.toList 0) [] [] none none (by rw [enumL_len]; simp only [List.length_nil]; omega)
  have it : zeD false [.str x] = some ((enumL x.cps.toList 0).map en) := by
    rw [← num_en]
    rfl
  have e0 : stD [] = .list [] := rfl
  rw [c0]
  have tk : (enumL x.cps.toList 0).filter (fun t => !decide (t.1 = 46)) = toks x.cps.toList := rfl
  rw [tk] at e1 e2
  have tl := toks_len x.cps.toList
  rw [e0] at e1 e2
  simp only [List.map_nil] at e1 e2
  unfold toldP
  cases hr : run (toks x.cps.toList) [] [] with
  | none =>
    obtain ⟨ρ, e3⟩ := e2 hr
    simp only [s0, ↓bind_m, Option.map_some, Option.map_none, List.getElem?_cons_zero, List.getElem?_cons_succ, List.getElem?_nil, List.set_cons_zero, List.set_cons_succ, List.length_cons, List.length_nil, List.length_append, Nat.zero_add, Nat.reduceAdd, Nat.reduceSub, Nat.reduceLT, Nat.reduceLeDiff, Nat.reduceBEq, Nat.reduceEqDiff, Int.reduceLT, Int.reduceLE, Int.reduceNeg, Int.reduceEq, Int.reduceToNat, reduceIte, reduceCtorEq, List.contains_nil, List.contains_cons, List.cons_append, List.nil_append, if_true, if_false, ite_true, ite_false, Bool.false_eq_true, decide_true, decide_false, Bool.not_true, Bool.not_false, Bool.and_true, Bool.true_and, Bool.and_self, Bool.and_false, Bool.false_and, Bool.or_false, Bool.or_true, Bool.false_or, Bool.true_or, List.all_cons, List.all_nil, ixN_zero, ixN_1, ixN_2, ixN_3, ixN_4, ixN_5, ixN_6, ixN_7, ixN_8, ixN_9, ixN_10, ixN_11, ixN_12, ixN_m1, ixN_m2, ixN_nat, sz_ok, sz_lt, Nat.zero_le, Nat.reduceLT, and_self, and_true, true_and, not_false_eq_true, not_true_eq_false, beq_self_eq_true, ne_eq, not_true, not_false_iff, Nat.succ_ne_self, idxD_l, idxD_t, setIx_l, kSq, kRt, kRtN, kSet, kSetL, kIf, kPar, kTpl, kSub, kAug, kEx, kNx, kBk, kCt, kFor, xCall, xAgs, xV, xBin, xUn, xIf, xTup, xLst, xIx, xCut, xRv, revD, xPt, xAnd, xOr, tAn, tOrr, tNt, tC1, tCC, tX, xT, xBi, xIsi, xMut, xMet, xGet, xDic, xPs, xFst, xFs, xOs, xS, xC, rdO, rdOs, atI, binD, addD, subD, mulD, divD, modD, unD, truthD, resD, newB, arr, pickS, nodupB, slotsOf, ownAll, xVs, outI, afterIo, putBack, biD, lenB, lenD, absB, intB, cmpD, eqD_int, eqD_str, eqD_bool, ltD_int, PySem.W.dataLt_int, isD, isNoneD, g1, gN', setsD, seqD, frz, xRng, xZp, xLz, xLr, xSum, kNo, xIt, itemsD, augD, tTr, frzs, wipeE, backE, it, e3]
  | some q =>
    rw [hr] at e1
    have rl := run_len (toks x.cps.toList) [] [] hr
    obtain ⟨st, fd⟩ := q
    have sn := st_nil st
    cases st with
    | nil =>
      rw [show decide (([] : List Int) = []) = true from rfl] at sn
      have so := sorted_fps fd (Nat.le_trans (show fd.length ≤ 100 by simp at rl; omega) (by decide))
      simp only [s0, ↓bind_m, Option.map_some, Option.map_none, List.getElem?_cons_zero, List.getElem?_cons_succ, List.getElem?_nil, List.set_cons_zero, List.set_cons_succ, List.length_cons, List.length_nil, List.length_append, Nat.zero_add, Nat.reduceAdd, Nat.reduceSub, Nat.reduceLT, Nat.reduceLeDiff, Nat.reduceBEq, Nat.reduceEqDiff, Int.reduceLT, Int.reduceLE, Int.reduceNeg, Int.reduceEq, Int.reduceToNat, reduceIte, reduceCtorEq, List.contains_nil, List.contains_cons, List.cons_append, List.nil_append, if_true, if_false, ite_true, ite_false, Bool.false_eq_true, decide_true, decide_false, Bool.not_true, Bool.not_false, Bool.and_true, Bool.true_and, Bool.and_self, Bool.and_false, Bool.false_and, Bool.or_false, Bool.or_true, Bool.false_or, Bool.true_or, List.all_cons, List.all_nil, ixN_zero, ixN_1, ixN_2, ixN_3, ixN_4, ixN_5, ixN_6, ixN_7, ixN_8, ixN_9, ixN_10, ixN_11, ixN_12, ixN_m1, ixN_m2, ixN_nat, sz_ok, sz_lt, Nat.zero_le, Nat.reduceLT, and_self, and_true, true_and, not_false_eq_true, not_true_eq_false, beq_self_eq_true, ne_eq, not_true, not_false_iff, Nat.succ_ne_self, idxD_l, idxD_t, setIx_l, kSq, kRt, kRtN, kSet, kSetL, kIf, kPar, kTpl, kSub, kAug, kEx, kNx, kBk, kCt, kFor, xCall, xAgs, xV, xBin, xUn, xIf, xTup, xLst, xIx, xCut, xRv, revD, xPt, xAnd, xOr, tAn, tOrr, tNt, tC1, tCC, tX, xT, xBi, xIsi, xMut, xMet, xGet, xDic, xPs, xFst, xFs, xOs, xS, xC, rdO, rdOs, atI, binD, addD, subD, mulD, divD, modD, unD, truthD, resD, newB, arr, pickS, nodupB, slotsOf, ownAll, xVs, outI, afterIo, putBack, biD, lenB, lenD, absB, intB, cmpD, eqD_int, eqD_str, eqD_bool, ltD_int, PySem.W.dataLt_int, isD, isNoneD, g1, gN', setsD, seqD, frz, xRng, xZp, xLz, xLr, xSum, kNo, xIt, itemsD, augD, tTr, frzs, wipeE, backE, it, e1, sn, so, tupleB]
    | cons a st =>
      rw [decide_eq_false (List.cons_ne_nil _ _)] at sn
      simp only [s0, ↓bind_m, Option.map_some, Option.map_none, List.getElem?_cons_zero, List.getElem?_cons_succ, List.getElem?_nil, List.set_cons_zero, List.set_cons_succ, List.length_cons, List.length_nil, List.length_append, Nat.zero_add, Nat.reduceAdd, Nat.reduceSub, Nat.reduceLT, Nat.reduceLeDiff, Nat.reduceBEq, Nat.reduceEqDiff, Int.reduceLT, Int.reduceLE, Int.reduceNeg, Int.reduceEq, Int.reduceToNat, reduceIte, reduceCtorEq, List.contains_nil, List.contains_cons, List.cons_append, List.nil_append, if_true, if_false, ite_true, ite_false, Bool.false_eq_true, decide_true, decide_false, Bool.not_true, Bool.not_false, Bool.and_true, Bool.true_and, Bool.and_self, Bool.and_false, Bool.false_and, Bool.or_false, Bool.or_true, Bool.false_or, Bool.true_or, List.all_cons, List.all_nil, ixN_zero, ixN_1, ixN_2, ixN_3, ixN_4, ixN_5, ixN_6, ixN_7, ixN_8, ixN_9, ixN_10, ixN_11, ixN_12, ixN_m1, ixN_m2, ixN_nat, sz_ok, sz_lt, Nat.zero_le, Nat.reduceLT, and_self, and_true, true_and, not_false_eq_true, not_true_eq_false, beq_self_eq_true, ne_eq, not_true, not_false_iff, Nat.succ_ne_self, idxD_l, idxD_t, setIx_l, kSq, kRt, kRtN, kSet, kSetL, kIf, kPar, kTpl, kSub, kAug, kEx, kNx, kBk, kCt, kFor, xCall, xAgs, xV, xBin, xUn, xIf, xTup, xLst, xIx, xCut, xRv, revD, xPt, xAnd, xOr, tAn, tOrr, tNt, tC1, tCC, tX, xT, xBi, xIsi, xMut, xMet, xGet, xDic, xPs, xFst, xFs, xOs, xS, xC, rdO, rdOs, atI, binD, addD, subD, mulD, divD, modD, unD, truthD, resD, newB, arr, pickS, nodupB, slotsOf, ownAll, xVs, outI, afterIo, putBack, biD, lenB, lenD, absB, intB, cmpD, eqD_int, eqD_str, eqD_bool, ltD_int, PySem.W.dataLt_int, isD, isNoneD, g1, gN', setsD, seqD, frz, xRng, xZp, xLz, xLr, xSum, kNo, xIt, itemsD, augD, tTr, frzs, wipeE, backE, it, e1, sn]
end K09


namespace K09
open PySem PySem.Spec L2 Pf
/-! ## the law's own pairing -/
theorem cut_toL {α : Type} (f : α → PyData) (as : List α) (m : Nat) : cutD (.list (as.map f)) none (some (m : Int)) = some (.list ((as.take m).map f)) := by
  simp only [cutD]
  unfold cutP
  rw [HT.sIx_nat, HT.sIx_none, List.length_map, List.drop_zero, Nat.sub_zero, ← List.map_take]
  refine congrArg some (congrArg PyData.list (congrArg (List.map f) ?_))
  by_cases h : m ≤ as.length
  · rw [Nat.min_eq_left h]
  · rw [Nat.min_eq_right (by omega), List.take_of_length_le (Nat.le_refl _), List.take_of_length_le (by omega)]
theorem cut_fromL {α : Type} (f : α → PyData) (as : List α) (m : Nat) : cutD (.list (as.map f)) (some (m : Int)) none = some (.list ((as.drop m).map f)) := by
  simp only [cutD]
  unfold cutP
  rw [HT.sIx_nat, HT.sIx_none, List.length_map, ← List.map_drop, ← List.map_take]
  refine congrArg some (congrArg PyData.list (congrArg (List.map f) ?_))
  by_cases h : m ≤ as.length
  · rw [Nat.min_eq_left h, List.take_of_length_le (by rw [List.length_drop]; omega)]
  · rw [Nat.min_eq_right (by omega), List.drop_of_length_le (Nat.le_refl _), List.drop_of_length_le (by omega), List.take_nil]
section
variable {s x2 x3 : Option (Bool × PyData)}
theorem lp_done (k : Nat) {T : List Tk} {F : List Pr} {sz : Int} (hT : T.length ≤ 100) (hne : (T.length : Int) ≠ sz) : ∀ (is : List Int) (x6 : Option (Bool × PyData)), ∃ y6, kLoop (g1 6) (b10_1 (Γ k)) (is.map .int) [s, some (true, .list (T.map tkD)), x2, x3, some (true, .list (F.map fp)), some (false, .int sz), x6] =
    some (.nx [s, some (true, .list (T.map tkD)), x2, x3, some (true, .list (F.map fp)), some (false, .int sz), y6])
  | [], x6 => ⟨x6, rfl⟩
  | i :: is, x6 => by
    obtain ⟨y6, e⟩ := lp_done k hT hne is (some (false, .int i))
    refine ⟨y6, ?_⟩
    have hz : T.length ≤ sizeLine := Nat.le_trans hT (by decide)
    have d : decide ((T.length : Int) = sz) = false := decide_eq_false hne
    have b1 : kSq (b10_1 (Γ k)) [s, some (true, .list (T.map tkD)), x2, x3, some (true, .list (F.map fp)), some (false, .int sz), some (false, .int i)] = some (.nx [s, some (true, .list (T.map tkD)), x2, x3, some (true, .list (F.map fp)), some (false, .int sz), some (false, .int i)]) := by
      simp only [b10_1, ↓bind_m, Option.map_some, Option.map_none, List.getElem?_cons_zero, List.getElem?_cons_succ, List.getElem?_nil, List.set_cons_zero, List.set_cons_succ, List.length_cons, List.length_nil, List.length_append, Nat.zero_add, Nat.reduceAdd, Nat.reduceSub, Nat.reduceLT, Nat.reduceLeDiff, Nat.reduceBEq, Nat.reduceEqDiff, Int.reduceLT, Int.reduceLE, Int.reduceNeg, Int.reduceEq, Int.reduceToNat, reduceIte, reduceCtorEq, List.contains_nil, List.contains_cons, List.cons_append, List.nil_append, if_true, if_false, ite_true, ite_false, Bool.false_eq_true, decide_true, decide_false, Bool.not_true, Bool.not_false, Bool.and_true, Bool.true_and, Bool.and_self, Bool.and_false, Bool.false_and, Bool.or_false, Bool.or_true, Bool.false_or, Bool.true_or, List.all_cons, List.all_nil, ixN_zero, ixN_1, ixN_2, ixN_3, ixN_4, ixN_5, ixN_6, ixN_7, ixN_8, ixN_9, ixN_10, ixN_11, ixN_12, ixN_m1, ixN_m2, ixN_nat, sz_ok, sz_lt, Nat.zero_le, Nat.reduceLT, and_self, and_true, true_and, not_false_eq_true, not_true_eq_false, beq_self_eq_true, ne_eq, not_true, not_false_iff, Nat.succ_ne_self, idxD_l, idxD_t, setIx_l, kSq, kRt, kRtN, kSet, kSetL, kIf, kPar, kTpl, kSub, kAug, kEx, kNx, kBk, kCt, kFor, xCall, xAgs, xV, xBin, xUn, xIf, xTup, xLst, xIx, xCut, xRv, revD, xPt, xAnd, xOr, tAn, tOrr, tNt, tC1, tCC, tX, xT, xBi, xIsi, xMut, xMet, xGet, xDic, xPs, xFst, xFs, xOs, xS, xC, rdO, rdOs, atI, binD, addD, subD, mulD, divD, modD, unD, truthD, resD, newB, arr, pickS, nodupB, slotsOf, ownAll, xVs, outI, afterIo, putBack, biD, lenB, lenD, absB, intB, cmpD, eqD_int, eqD_str, eqD_bool, ltD_int, PySem.W.dataLt_int, isD, isNoneD, g1, gN', setsD, seqD, frz, xRng, xZp, xLz, xLr, xSum, kNo, xIt, itemsD, augD, tTr, frzs, wipeE, backE, List.length_map, d]
    rw [List.map_cons, kLoop_cons]
    simp only [g1, Option.bind_some, List.set_cons_succ, List.set_cons_zero, b1]
    exact e
def remA (A C : List Tk) : List Tk := match rem C with
  | none => A ++ C
  | some q => A ++ q.2
def remF (F : List Pr) (C : List Tk) : List Pr := match rem C with
  | none => F
  | some q => F ++ [q.1]
theorem lp_in (k : Nat) : ∀ (C A : List Tk) (F : List Pr) (x6 : Option (Bool × PyData)), (A ++ C).length ≤ 100 → F.length ≤ 100 →
    ∃ y6, kLoop (g1 6) (b10_1 (Γ k)) ((intsL A.length (C.length - 1)).map .int) [s, some (true, .list ((A ++ C).map tkD)), x2, x3, some (true, .list (F.map fp)), some (false, .int ((A ++ C).length : Nat)), x6] =
      some (.nx [s, some (true, .list ((remA A C).map tkD)), x2, x3, some (true, .list ((remF F C).map fp)), some (false, .int ((A ++ C).length : Nat)), y6])
  | [], A, F, x6, _, _ => ⟨x6, rfl⟩
  | [a], A, F, x6, _, _ => ⟨x6, rfl⟩
  | a :: b :: r, A, F, x6, hl, hF => by
    have il : intsL (A.length : Int) ((a :: b :: r).length - 1) = (A.length : Int) :: intsL ((A.length : Int) + 1) r.length := rfl
    have n1 : (A ++ a :: b :: r).length = A.length + (r.length + 2) := by simp
    have j0 : ixN (A.length + (r.length + 2)) (A.length : Int) = some A.length := by
      unfold ixN
      rw [if_pos (by omega), if_pos (by omega)]
      rfl
    have j1 : ixN (A.length + (r.length + 2)) ((A.length : Int) + 1) = some (A.length + 1) := by
      unfold ixN
      rw [if_pos (by omega), if_pos (by omega)]
      rfl
    have g0 : ((A ++ a :: b :: r).map tkD)[A.length]? = some (.tuple [ch a.1, .int a.2]) := by
      rw [List.getElem?_map, List.getElem?_append_right (Nat.le_refl _), Nat.sub_self]
      rfl
    have g1' : ((A ++ a :: b :: r).map tkD)[A.length + 1]? = some (.tuple [ch b.1, .int b.2]) := by
      rw [List.getElem?_map, List.getElem?_append_right (by omega), show A.length + 1 - A.length = 1 by omega]
      rfl
    have dd : decide (((A.length + (r.length + 2) : Nat) : Int) = ((A.length + (r.length + 2) : Nat) : Int)) = true := decide_eq_true rfl
    have qa := eq40 a.1
    have qb := eq41 b.1
    obtain ⟨a1, a2⟩ := a
    obtain ⟨b1, b2⟩ := b
    dsimp only at qa qb g0 g1'
    rw [il, List.map_cons, kLoop_cons]
    by_cases hc : a1 = 40 ∧ b1 = 41
    · rw [decide_eq_true hc.1] at qa
      rw [decide_eq_true hc.2] at qb
      have hr : rem ((a1, a2) :: (b1, b2) :: r) = some ((a2, b2), r) := by
        unfold rem
        rw [if_pos hc]
      have c1 : cutD (.list ((A ++ (a1, a2) :: (b1, b2) :: r).map tkD)) none (some (A.length : Int)) = some (.list (A.map tkD)) := by
        rw [cut_toL, List.take_left' rfl]
      have c2 : cutD (.list ((A ++ (a1, a2) :: (b1, b2) :: r).map tkD)) (some ((A.length : Int) + 2)) none = some (.list (r.map tkD)) := by
        rw [show ((A.length : Int) + 2) = ((A.length + 2 : Nat) : Int) from rfl, cut_fromL]
        refine congrArg some (congrArg PyData.list (congrArg (List.map tkD) ?_))
        rw [← List.drop_drop, List.drop_left' rfl]
        rfl
      have fpu := fd_push F (a2, b2) (Nat.lt_of_le_of_lt hF (by decide))
      have sz : A.length + r.length ≤ sizeLine := Nat.le_trans (show _ ≤ 100 by omega) (by decide)
      have ap : A.map tkD ++ r.map tkD = (A ++ r).map tkD := (List.map_append).symm
      have bd : kSq (b10_1 (Γ k)) [s, some (true, .list ((A ++ (a1, a2) :: (b1, b2) :: r).map tkD)), x2, x3, some (true, .list (F.map fp)), some (false, .int (A.length + (r.length + 2) : Nat)), some (false, .int A.length)] =
          some (.nx [s, some (true, .list ((A ++ r).map tkD)), x2, x3, some (true, .list ((F ++ [(a2, b2)]).map fp)), some (false, .int (A.length + (r.length + 2) : Nat)), some (false, .int A.length)]) := by
        simp only [b10_1, ↓bind_m, Option.map_some, Option.map_none, List.getElem?_cons_zero, List.getElem?_cons_succ, List.getElem?_nil, List.set_cons_zero, List.set_cons_succ, List.length_cons, List.length_nil, List.length_append, Nat.zero_add, Nat.reduceAdd, Nat.reduceSub, Nat.reduceLT, Nat.reduceLeDiff, Nat.reduceBEq, Nat.reduceEqDiff, Int.reduceLT, Int.reduceLE, Int.reduceNeg, Int.reduceEq, Int.reduceToNat, reduceIte, reduceCtorEq, List.contains_nil, List.contains_cons, List.cons_append, List.nil_append, if_true, if_false, ite_true, ite_false, Bool.false_eq_true, decide_true, decide_false, Bool.not_true, Bool.not_false, Bool.and_true, Bool.true_and, Bool.and_self, Bool.and_false, Bool.false_and, Bool.or_false, Bool.or_true, Bool.false_or, Bool.true_or, List.all_cons, List.all_nil, ixN_zero, ixN_1, ixN_2, ixN_3, ixN_4, ixN_5, ixN_6, ixN_7, ixN_8, ixN_9, ixN_10, ixN_11, ixN_12, ixN_m1, ixN_m2, ixN_nat, sz_ok, sz_lt, Nat.zero_le, Nat.reduceLT, and_self, and_true, true_and, not_false_eq_true, not_true_eq_false, beq_self_eq_true, ne_eq, not_true, not_false_iff, Nat.succ_ne_self, idxD_l, idxD_t, setIx_l, kSq, kRt, kRtN, kSet, kSetL, kIf, kPar, kTpl, kSub, kAug, kEx, kNx, kBk, kCt, kFor, xCall, xAgs, xV, xBin, xUn, xIf, xTup, xLst, xIx, xCut, xRv, revD, xPt, xAnd, xOr, tAn, tOrr, tNt, tC1, tCC, tX, xT, xBi, xIsi, xMut, xMet, xGet, xDic, xPs, xFst, xFs, xOs, xS, xC, rdO, rdOs, atI, binD, addD, subD, mulD, divD, modD, unD, truthD, resD, newB, arr, pickS, nodupB, slotsOf, ownAll, xVs, outI, afterIo, putBack, biD, lenB, lenD, absB, intB, cmpD, eqD_int, eqD_str, eqD_bool, ltD_int, PySem.W.dataLt_int, isD, isNoneD, g1, gN', setsD, seqD, frz, xRng, xZp, xLz, xLr, xSum, kNo, xIt, itemsD, augD, tTr, frzs, wipeE, backE, List.length_map, n1, dd, j0, g0, qa, j1, g1', qb, fpu, c1, c2, sz, ap]
      rw [n1]
      simp only [g1, Option.bind_some, List.set_cons_succ, List.set_cons_zero, bd]
      obtain ⟨y6, e⟩ := lp_done k (s := s) (x2 := x2) (x3 := x3) (T := A ++ r) (F := F ++ [(a2, b2)]) (sz := ((A.length + (r.length + 2) : Nat) : Int)) (by rw [List.length_append]; omega) (by rw [List.length_append]; omega) (intsL ((A.length : Int) + 1) r.length) (some (false, .int A.length))
      refine ⟨y6, ?_⟩
      rw [e]
      unfold remA remF
      rw [hr]
    · have hr : rem ((a1, a2) :: (b1, b2) :: r) = (rem ((b1, b2) :: r)).map fun q => (q.1, (a1, a2) :: q.2) := by
        show (if a1 = 40 ∧ b1 = 41 then _ else _) = _
        rw [if_neg hc]
      have bd : kSq (b10_1 (Γ k)) [s, some (true, .list ((A ++ (a1, a2) :: (b1, b2) :: r).map tkD)), x2, x3, some (true, .list (F.map fp)), some (false, .int (A.length + (r.length + 2) : Nat)), some (false, .int A.length)] =
          some (.nx [s, some (true, .list ((A ++ (a1, a2) :: (b1, b2) :: r).map tkD)), x2, x3, some (true, .list (F.map fp)), some (false, .int (A.length + (r.length + 2) : Nat)), some (false, .int A.length)]) := by
        by_cases ha : a1 = 40
        · rw [decide_eq_true ha] at qa
          rw [decide_eq_false fun h => hc ⟨ha, h⟩] at qb
          simp only [b10_1, ↓bind_m, Option.map_some, Option.map_none, List.getElem?_cons_zero, List.getElem?_cons_succ, List.getElem?_nil, List.set_cons_zero, List.set_cons_succ, List.length_cons, List.length_nil, List.length_append, Nat.zero_add, Nat.reduceAdd, Nat.reduceSub, Nat.reduceLT, Nat.reduceLeDiff, Nat.reduceBEq, Nat.reduceEqDiff, Int.reduceLT, Int.reduceLE, Int.reduceNeg, Int.reduceEq, Int.reduceToNat, reduceIte, reduceCtorEq, List.contains_nil, List.contains_cons, List.cons_append, List.nil_append, if_true, if_false, ite_true, ite_false, Bool.false_eq_true, decide_true, decide_false, Bool.not_true, Bool.not_false, Bool.and_true, Bool.true_and, Bool.and_self, Bool.and_false, Bool.false_and, Bool.or_false, Bool.or_true, Bool.false_or, Bool.true_or, List.all_cons, List.all_nil, ixN_zero, ixN_1, ixN_2, ixN_3, ixN_4, ixN_5, ixN_6, ixN_7, ixN_8, ixN_9, ixN_10, ixN_11, ixN_12, ixN_m1, ixN_m2, ixN_nat, sz_ok, sz_lt, Nat.zero_le, Nat.reduceLT, and_self, and_true, true_and, not_false_eq_true, not_true_eq_false, beq_self_eq_true, ne_eq, not_true, not_false_iff, Nat.succ_ne_self, idxD_l, idxD_t, setIx_l, kSq, kRt, kRtN, kSet, kSetL, kIf, kPar, kTpl, kSub, kAug, kEx, kNx, kBk, kCt, kFor, xCall, xAgs, xV, xBin, xUn, xIf, xTup, xLst, xIx, xCut, xRv, revD, xPt, xAnd, xOr, tAn, tOrr, tNt, tC1, tCC, tX, xT, xBi, xIsi, xMut, xMet, xGet, xDic, xPs, xFst, xFs, xOs, xS, xC, rdO, rdOs, atI, binD, addD, subD, mulD, divD, modD, unD, truthD, resD, newB, arr, pickS, nodupB, slotsOf, ownAll, xVs, outI, afterIo, putBack, biD, lenB, lenD, absB, intB, cmpD, eqD_int, eqD_str, eqD_bool, ltD_int, PySem.W.dataLt_int, isD, isNoneD, g1, gN', setsD, seqD, frz, xRng, xZp, xLz, xLr, xSum, kNo, xIt, itemsD, augD, tTr, frzs, wipeE, backE, List.length_map, n1, dd, j0, g0, qa, j1, g1', qb]
        · rw [decide_eq_false ha] at qa
          simp only [b10_1, ↓bind_m, Option.map_some, Option.map_none, List.getElem?_cons_zero, List.getElem?_cons_succ, List.getElem?_nil, List.set_cons_zero, List.set_cons_succ, List.length_cons, List.length_nil, List.length_append, Nat.zero_add, Nat.reduceAdd, Nat.reduceSub, Nat.reduceLT, Nat.reduceLeDiff, Nat.reduceBEq, Nat.reduceEqDiff, Int.reduceLT, Int.reduceLE, Int.reduceNeg, Int.reduceEq, Int.reduceToNat, reduceIte, reduceCtorEq, List.contains_nil, List.contains_cons, List.cons_append, List.nil_append, if_true, if_false, ite_true, ite_false, Bool.false_eq_true, decide_true, decide_false, Bool.not_true, Bool.not_false, Bool.and_true, Bool.true_and, Bool.and_self, Bool.and_false, Bool.false_and, Bool.or_false, Bool.or_true, Bool.false_or, Bool.true_or, List.all_cons, List.all_nil, ixN_zero, ixN_1, ixN_2, ixN_3, ixN_4, ixN_5, ixN_6, ixN_7, ixN_8, ixN_9, ixN_10, ixN_11, ixN_12, ixN_m1, ixN_m2, ixN_nat, sz_ok, sz_lt, Nat.zero_le, Nat.reduceLT, and_self, and_true, true_and, not_false_eq_true, not_true_eq_false, beq_self_eq_true, ne_eq, not_true, not_false_iff, Nat.succ_ne_self, idxD_l, idxD_t, setIx_l, kSq, kRt, kRtN, kSet, kSetL, kIf, kPar, kTpl, kSub, kAug, kEx, kNx, kBk, kCt, kFor, xCall, xAgs, xV, xBin, xUn, xIf, xTup, xLst, xIx, xCut, xRv, revD, xPt, xAnd, xOr, tAn, tOrr, tNt, tC1, tCC, tX, xT, xBi, xIsi, xMut, xMet, xGet, xDic, xPs, xFst, xFs, xOs, xS, xC, rdO, rdOs, atI, binD, addD, subD, mulD, divD, modD, unD, truthD, resD, newB, arr, pickS, nodupB, slotsOf, ownAll, xVs, outI, afterIo, putBack, biD, lenB, lenD, absB, intB, cmpD, eqD_int, eqD_str, eqD_bool, ltD_int, PySem.W.dataLt_int, isD, isNoneD, g1, gN', setsD, seqD, frz, xRng, xZp, xLz, xLr, xSum, kNo, xIt, itemsD, augD, tTr, frzs, wipeE, backE, List.length_map, n1, dd, j0, g0, qa]
      obtain ⟨y6, e⟩ := lp_in k ((b1, b2) :: r) (A ++ [(a1, a2)]) F (some (false, .int A.length)) (by rw [List.append_assoc]; exact hl) hF
      refine ⟨y6, ?_⟩
      have q1 : A ++ [(a1, a2)] ++ (b1, b2) :: r = A ++ (a1, a2) :: (b1, b2) :: r := by rw [List.append_assoc]; rfl
      have q2 : ((A ++ [(a1, a2)]).length : Int) = (A.length : Int) + 1 := by rw [List.length_append]; rfl
      rw [q1, q2, n1] at e
      have q3 : remA (A ++ [(a1, a2)]) ((b1, b2) :: r) = remA A ((a1, a2) :: (b1, b2) :: r) := by
        unfold remA
        rw [hr]
        cases rem ((b1, b2) :: r) with
        | none => exact q1
        | some q =>
          show A ++ [(a1, a2)] ++ q.2 = A ++ ((a1, a2) :: q.2)
          rw [List.append_assoc]
          rfl
      have q4 : remF F ((b1, b2) :: r) = remF F ((a1, a2) :: (b1, b2) :: r) := by
        unfold remF
        rw [hr]
        cases rem ((b1, b2) :: r) <;> rfl
      rw [q3, q4] at e
      rw [n1]
      simp only [g1, Option.bind_some, List.set_cons_succ, List.set_cons_zero, bd]
      exact e
theorem range_m1 (n : Nat) (h : n ≤ 100) : rangeD [.int ((n : Int) - 1)] = some ((intsL 0 (n - 1)).map .int) := by
  cases n with
  | zero => rfl
  | succ n =>
    have := range_1 (n := n) (by omega)
    rw [show (((n + 1 : Nat) : Int) - 1) = (n : Int) by omega]
    exact this
theorem lp_wh (k : Nat) {T0 : List Tk} : ∀ (w : Nat) (T : List Tk) (F : List Pr) (sz : Int) (x6 : Option (Bool × PyData)), T.length + 2 ≤ w → T.length ≤ 100 → F.length + T.length ≤ 100 → sz ≠ (T.length : Int) → Inv T0 T F →
    ∃ (T' : List Tk) (F' : List Pr) (sz' : Int) (y6 : Option (Bool × PyData)), kWh w (tC1 .NotEq (xS 5) (xBi .len [(xS 1)])) (b10_0 (Γ k)) [s, some (true, .list (T.map tkD)), x2, x3, some (true, .list (F.map fp)), some (false, .int sz), x6] =
      some (.nx [s, some (true, .list (T'.map tkD)), x2, x3, some (true, .list (F'.map fp)), some (false, .int sz'), y6]) ∧ Inv T0 T' F' ∧ rem T' = none ∧ F'.length ≤ 100 ∧ T'.length ≤ 100
  | 0, T, F, sz, x6, h, _, _, _, _ => by omega
  | w + 1, T, F, sz, x6, hw, hT, hF, hs, hI => by
    rw [kWh_succ]
    have hz : T.length ≤ sizeLine := Nat.le_trans hT (by decide)
    have d : decide (sz = (T.length : Int)) = false := decide_eq_false hs
    obtain ⟨y6, e⟩ := lp_in k (s := s) (x2 := x2) (x3 := x3) T [] F x6 hT (by omega)
    simp only [List.nil_append, List.length_nil] at e
    have rg := range_m1 T.length hT
    have b1 : kSq (b10_0 (Γ k)) [s, some (true, .list (T.map tkD)), x2, x3, some (true, .list (F.map fp)), some (false, .int sz), x6] = some (.nx [s, some (true, .list ((remA [] T).map tkD)), x2, x3, some (true, .list ((remF F T).map fp)), some (false, .int T.length), y6]) := by
      replace e : kLoop (g1 6) (b10_1 (Γ k)) ((intsL 0 (T.length - 1)).map .int) [s, some (true, .list (T.map tkD)), x2, x3, some (true, .list (F.map fp)), some (false, .int T.length), x6] = _ := e
      simp only [b10_0, ↓bind_m, Option.map_some, Option.map_none, List.getElem?_cons_zero, List.getElem?_cons_succ, List.getElem?_nil, List.set_cons_zero, List.set_cons_succ, List.length_cons, List.length_nil, List.length_append, Nat.zero_add, Nat.reduceAdd, Nat.reduceSub, Nat.reduceLT, Nat.reduceLeDiff, Nat.reduceBEq, Nat.reduceEqDiff, Int.reduceLT, Int.reduceLE, Int.reduceNeg, Int.reduceEq, Int.reduceToNat, reduceIte, reduceCtorEq, List.contains_nil, List.contains_cons, List.cons_append, List.nil_append, if_true, if_false, ite_true, ite_false, Bool.false_eq_true, decide_true, decide_false, Bool.not_true, Bool.not_false, Bool.and_true, Bool.true_and, Bool.and_self, Bool.and_false, Bool.false_and, Bool.or_false, Bool.or_true, Bool.false_or, Bool.true_or, List.all_cons, List.all_nil, ixN_zero, ixN_1, ixN_2, ixN_3, ixN_4, ixN_5, ixN_6, ixN_7, ixN_8, ixN_9, ixN_10, ixN_11, ixN_12, ixN_m1, ixN_m2, ixN_nat, sz_ok, sz_lt, Nat.zero_le, Nat.reduceLT, and_self, and_true, true_and, not_false_eq_true, not_true_eq_false, beq_self_eq_true, ne_eq, not_true, not_false_iff, Nat.succ_ne_self, idxD_l, idxD_t, setIx_l, kSq, kRt, kRtN, kSet, kSetL, kIf, kPar, kTpl, kSub, kAug, kEx, kNx, kBk, kCt, kFor, xCall, xAgs, xV, xBin, xUn, xIf, xTup, xLst, xIx, xCut, xRv, revD, xPt, xAnd, xOr, tAn, tOrr, tNt, tC1, tCC, tX, xT, xBi, xIsi, xMut, xMet, xGet, xDic, xPs, xFst, xFs, xOs, xS, xC, rdO, rdOs, atI, binD, addD, subD, mulD, divD, modD, unD, truthD, resD, newB, arr, pickS, nodupB, slotsOf, ownAll, xVs, outI, afterIo, putBack, biD, lenB, lenD, absB, intB, cmpD, eqD_int, eqD_str, eqD_bool, ltD_int, PySem.W.dataLt_int, isD, isNoneD, g1, gN', setsD, seqD, frz, xRng, xZp, xLz, xLr, xSum, kNo, xIt, itemsD, augD, tTr, frzs, wipeE, backE, List.length_map, hz, rg, e]
    have tt : tC1 .NotEq (xS 5) (xBi .len [(xS 1)]) [s, some (true, .list (T.map tkD)), x2, x3, some (true, .list (F.map fp)), some (false, .int sz), x6] = some (true, [s, some (true, .list (T.map tkD)), x2, x3, some (true, .list (F.map fp)), some (false, .int sz), x6]) := by
      simp only [↓bind_m, Option.map_some, Option.map_none, List.getElem?_cons_zero, List.getElem?_cons_succ, List.getElem?_nil, List.set_cons_zero, List.set_cons_succ, List.length_cons, List.length_nil, List.length_append, Nat.zero_add, Nat.reduceAdd, Nat.reduceSub, Nat.reduceLT, Nat.reduceLeDiff, Nat.reduceBEq, Nat.reduceEqDiff, Int.reduceLT, Int.reduceLE, Int.reduceNeg, Int.reduceEq, Int.reduceToNat, reduceIte, reduceCtorEq, List.contains_nil, List.contains_cons, List.cons_append, List.nil_append, if_true, if_false, ite_true, ite_false, Bool.false_eq_true, decide_true, decide_false, Bool.not_true, Bool.not_false, Bool.and_true, Bool.true_and, Bool.and_self, Bool.and_false, Bool.false_and, Bool.or_false, Bool.or_true, Bool.false_or, Bool.true_or, List.all_cons, List.all_nil, ixN_zero, ixN_1, ixN_2, ixN_3, ixN_4, ixN_5, ixN_6, ixN_7, ixN_8, ixN_9, ixN_10, ixN_11, ixN_12, ixN_m1, ixN_m2, ixN_nat, sz_ok, sz_lt, Nat.zero_le, Nat.reduceLT, and_self, and_true, true_and, not_false_eq_true, not_true_eq_false, beq_self_eq_true, ne_eq, not_true, not_false_iff, Nat.succ_ne_self, idxD_l, idxD_t, setIx_l, kSq, kRt, kRtN, kSet, kSetL, kIf, kPar, kTpl, kSub, kAug, kEx, kNx, kBk, kCt, kFor, xCall, xAgs, xV, xBin, xUn, xIf, xTup, xLst, xIx, xCut, xRv, revD, xPt, xAnd, xOr, tAn, tOrr, tNt, tC1, tCC, tX, xT, xBi, xIsi, xMut, xMet, xGet, xDic, xPs, xFst, xFs, xOs, xS, xC, rdO, rdOs, atI, binD, addD, subD, mulD, divD, modD, unD, truthD, resD, newB, arr, pickS, nodupB, slotsOf, ownAll, xVs, outI, afterIo, putBack, biD, lenB, lenD, absB, intB, cmpD, eqD_int, eqD_str, eqD_bool, ltD_int, PySem.W.dataLt_int, isD, isNoneD, g1, gN', setsD, seqD, frz, xRng, xZp, xLz, xLr, xSum, kNo, xIt, itemsD, augD, tTr, frzs, wipeE, backE, List.length_map, hz, d]
    rw [tt]
    simp only [Option.bind_some, if_true, b1]
    cases hr : rem T with
    | none =>
      have q1 : remA [] T = T := by unfold remA; rw [hr]; rfl
      have q2 : remF F T = F := by unfold remF; rw [hr]
      rw [q1, q2]
      obtain ⟨w', rfl⟩ : ∃ w', w = w' + 1 := ⟨w - 1, by omega⟩
      rw [kWh_succ]
      have d2 : decide ((T.length : Int) = (T.length : Int)) = true := decide_eq_true rfl
      have tt2 : tC1 .NotEq (xS 5) (xBi .len [(xS 1)]) [s, some (true, .list (T.map tkD)), x2, x3, some (true, .list (F.map fp)), some (false, .int T.length), y6] = some (false, [s, some (true, .list (T.map tkD)), x2, x3, some (true, .list (F.map fp)), some (false, .int T.length), y6]) := by
        simp only [↓bind_m, Option.map_some, Option.map_none, List.getElem?_cons_zero, List.getElem?_cons_succ, List.getElem?_nil, List.set_cons_zero, List.set_cons_succ, List.length_cons, List.length_nil, List.length_append, Nat.zero_add, Nat.reduceAdd, Nat.reduceSub, Nat.reduceLT, Nat.reduceLeDiff, Nat.reduceBEq, Nat.reduceEqDiff, Int.reduceLT, Int.reduceLE, Int.reduceNeg, Int.reduceEq, Int.reduceToNat, reduceIte, reduceCtorEq, List.contains_nil, List.contains_cons, List.cons_append, List.nil_append, if_true, if_false, ite_true, ite_false, Bool.false_eq_true, decide_true, decide_false, Bool.not_true, Bool.not_false, Bool.and_true, Bool.true_and, Bool.and_self, Bool.and_false, Bool.false_and, Bool.or_false, Bool.or_true, Bool.false_or, Bool.true_or, List.all_cons, List.all_nil, ixN_zero, ixN_1, ixN_2, ixN_3, ixN_4, ixN_5, ixN_6, ixN_7, ixN_8, ixN_9, ixN_10, ixN_11, ixN_12, ixN_m1, ixN_m2, ixN_nat, sz_ok, sz_lt, Nat.zero_le, Nat.reduceLT, and_self, and_true, true_and, not_false_eq_true, not_true_eq_false, beq_self_eq_true, ne_eq, not_true, not_false_iff, Nat.succ_ne_self, idxD_l, idxD_t, setIx_l, kSq, kRt, kRtN, kSet, kSetL, kIf, kPar, kTpl, kSub, kAug, kEx, kNx, kBk, kCt, kFor, xCall, xAgs, xV, xBin, xUn, xIf, xTup, xLst, xIx, xCut, xRv, revD, xPt, xAnd, xOr, tAn, tOrr, tNt, tC1, tCC, tX, xT, xBi, xIsi, xMut, xMet, xGet, xDic, xPs, xFst, xFs, xOs, xS, xC, rdO, rdOs, atI, binD, addD, subD, mulD, divD, modD, unD, truthD, resD, newB, arr, pickS, nodupB, slotsOf, ownAll, xVs, outI, afterIo, putBack, biD, lenB, lenD, absB, intB, cmpD, eqD_int, eqD_str, eqD_bool, ltD_int, PySem.W.dataLt_int, isD, isNoneD, g1, gN', setsD, seqD, frz, xRng, xZp, xLz, xLr, xSum, kNo, xIt, itemsD, augD, tTr, frzs, wipeE, backE, List.length_map, hz, d2]
      rw [tt2]
      exact ⟨T, F, _, _, rfl, hI, hr, by omega, hT⟩
    | some q =>
      obtain ⟨p, l⟩ := q
      have q1 : remA [] T = l := by unfold remA; rw [hr]; rfl
      have q2 : remF F T = F ++ [p] := by unfold remF; rw [hr]
      rw [q1, q2]
      have hl := rem_len T hr
      exact lp_wh k w l (F ++ [p]) _ _ (by omega) (by omega) (by rw [List.length_append, List.length_singleton]; omega) (by omega) (hI.next hr)
end
theorem plains_tk (T : List Tk) : PyData.plainAll (T.map tkD) = true := by
  induction T with
  | nil => rfl
  | cons t T ih => simp only [List.map_cons, PyData.plainAll, PyData.plain, ih, Bool.and_self]
theorem lawPairs_ok (k : Nat) {x : Str} (hx : x.length ≤ 50) : Γ (k + 1) "_law_pairs" [.str x] = some (false, toldP (toks x.cps.toList), [.str x]) := by
  have hl : x.cps.toList.length = x.length := Array.length_toList
  have it : zeD false [.str x] = some ((enumL x.cps.toList 0).map en) := by
    rw [← num_en]
    rfl
  have lc : xLcL [2, 3] (xZp false [(xV [] (xS 0))]) (gN' [2, 3]) (tC1 .NotEq (xS 3) (xC (.str "."))) (xV [] (xTup [(xV [] (xS 3)), (xV [] (xS 2))])) [some (false, .str x), none, none, none, none, none, none] = some ((toks x.cps.toList).map tkD, [some (false, .str x), none, none, none, none, none, none]) :=
    lcL_map (α := Tk) (is := [2, 3]) (it := xZp false [(xV [] (xS 0))]) (g := gN' [2, 3]) (t := tC1 .NotEq (xS 3) (xC (.str "."))) (v := xV [] (xTup [(xV [] (xS 3)), (xV [] (xS 2))])) (ρ := [some (false, .str x), none, none, none, none, none, none])
      (ρ1 := [some (false, .str x), none, none, none, none, none, none]) (enumL x.cps.toList 0) en (fun t => !decide (t.1 = 46)) tkD (fun t => [some (false, .str x), none, some (false, .int t.2), some (false, ch t.1), none, none, none])
      (by simp only [↓bind_m, Option.map_some, Option.map_none, List.getElem?_cons_zero, List.getElem?_cons_succ, List.getElem?_nil, List.set_cons_zero, List.set_cons_succ, List.length_cons, List.length_nil, List.length_append, Nat.zero_add, Nat.reduceAdd, Nat.reduceSub, Nat.reduceLT, Nat.reduceLeDiff, Nat.reduceBEq, Nat.reduceEqDiff, Int.reduceLT, Int.reduceLE, Int.reduceNeg, Int.reduceEq, Int.reduceToNat, reduceIte, reduceCtorEq, List.contains_nil, List.contains_cons, List.cons_append, List.nil_append, if_true, if_false, ite_true, ite_false, Bool.false_eq_true, decide_true, decide_false, Bool.not_true, Bool.not_false, Bool.and_true, Bool.true_and, Bool.and_self, Bool.and_false, Bool.false_and, Bool.or_false, Bool.or_true, Bool.false_or, Bool.true_or, List.all_cons, List.all_nil, ixN_zero, ixN_1, ixN_2, ixN_3, ixN_4, ixN_5, ixN_6, ixN_7, ixN_8, ixN_9, ixN_10, ixN_11, ixN_12, ixN_m1, ixN_m2, ixN_nat, sz_ok, sz_lt, Nat.zero_le, Nat.reduceLT, and_self, and_true, true_and, not_false_eq_true, not_true_eq_false, beq_self_eq_true, ne_eq, not_true, not_false_iff, Nat.succ_ne_self, idxD_l, idxD_t, setIx_l, kSq, kRt, kRtN, kSet, kSetL, kIf, kPar, kTpl, kSub, kAug, kEx, kNx, kBk, kCt, kFor, xCall, xAgs, xV, xBin, xUn, xIf, xTup, xLst, xIx, xCut, xRv, revD, xPt, tNt, tC1, tCC, tX, xT, xBi, xIsi, xMut, xMet, xGet, xDic, xPs, xFst, xFs, xOs, xS, xC, rdO, rdOs, atI, binD, addD, subD, mulD, divD, modD, unD, truthD, resD, newB, arr, pickS, nodupB, slotsOf, ownAll, xVs, outI, afterIo, putBack, biD, lenB, lenD, absB, intB, cmpD, eqD_int, eqD_str, eqD_bool, ltD_int, PySem.W.dataLt_int, isD, isNoneD, g1, gN', setsD, seqD, frz, xRng, xZp, xLz, xLr, xSum, kNo, xIt, itemsD, augD, tTr, frzs, wipeE, backE, it]) (fun t _ => ⟨rfl, by
        have q := eq46 t.1
        simp only [↓bind_m, Option.map_some, Option.map_none, List.getElem?_cons_zero, List.getElem?_cons_succ, List.getElem?_nil, List.set_cons_zero, List.set_cons_succ, List.length_cons, List.length_nil, List.length_append, Nat.zero_add, Nat.reduceAdd, Nat.reduceSub, Nat.reduceLT, Nat.reduceLeDiff, Nat.reduceBEq, Nat.reduceEqDiff, Int.reduceLT, Int.reduceLE, Int.reduceNeg, Int.reduceEq, Int.reduceToNat, reduceIte, reduceCtorEq, List.contains_nil, List.contains_cons, List.cons_append, List.nil_append, if_true, if_false, ite_true, ite_false, Bool.false_eq_true, decide_true, decide_false, Bool.not_true, Bool.not_false, Bool.and_true, Bool.true_and, Bool.and_self, Bool.and_false, Bool.false_and, Bool.or_false, Bool.or_true, Bool.false_or, Bool.true_or, List.all_cons, List.all_nil, ixN_zero, ixN_1, ixN_2, ixN_3, ixN_4, ixN_5, ixN_6, ixN_7, ixN_8, ixN_9, ixN_10, ixN_11, ixN_12, ixN_m1, ixN_m2, ixN_nat, sz_ok, sz_lt, Nat.zero_le, Nat.reduceLT, and_self, and_true, true_and, not_false_eq_true, not_true_eq_false, beq_self_eq_true, ne_eq, not_true, not_false_iff, Nat.succ_ne_self, kSq, kRt, kRtN, kSet, kSetL, kIf, kPar, kTpl, kSub, kAug, kEx, kNx, kBk, kCt, kFor, xCall, xAgs, xV, xBin, xUn, xIf, xTup, xLst, xIx, xCut, xRv, revD, xPt, xAnd, xOr, tAn, tOrr, tNt, tC1, tCC, tX, xT, xBi, xIsi, xMut, xMet, xGet, xDic, xPs, xFst, xFs, xOs, xS, xC, rdO, rdOs, idxD, atI, binD, addD, subD, mulD, divD, modD, unD, truthD, resD, newB, arr, pickS, nodupB, slotsOf, ownAll, xVs, outI, afterIo, putBack, biD, lenB, lenD, absB, intB, cmpD, eqD_int, eqD_str, eqD_bool, ltD_int, PySem.W.dataLt_int, isD, isNoneD, g1, gN', setsD, seqD, frz, mutD, setIx, appM, popM, extM, revM, xRng, xZp, xLz, xLr, xSum, kNo, xIt, itemsD, augD, tTr, xLc, xLcL, frzs, wipeE, backE, q], fun _ => ⟨false, by simp only [↓bind_m, Option.map_some, Option.map_none, List.getElem?_cons_zero, List.getElem?_cons_succ, List.getElem?_nil, List.set_cons_zero, List.set_cons_succ, List.length_cons, List.length_nil, List.length_append, Nat.zero_add, Nat.reduceAdd, Nat.reduceSub, Nat.reduceLT, Nat.reduceLeDiff, Nat.reduceBEq, Nat.reduceEqDiff, Int.reduceLT, Int.reduceLE, Int.reduceNeg, Int.reduceEq, Int.reduceToNat, reduceIte, reduceCtorEq, List.contains_nil, List.contains_cons, List.cons_append, List.nil_append, if_true, if_false, ite_true, ite_false, Bool.false_eq_true, decide_true, decide_false, Bool.not_true, Bool.not_false, Bool.and_true, Bool.true_and, Bool.and_self, Bool.and_false, Bool.false_and, Bool.or_false, Bool.or_true, Bool.false_or, Bool.true_or, List.all_cons, List.all_nil, ixN_zero, ixN_1, ixN_2, ixN_3, ixN_4, ixN_5, ixN_6, ixN_7, ixN_8, ixN_9, ixN_10, ixN_11, ixN_12, ixN_m1, ixN_m2, ixN_nat, sz_ok, sz_lt, Nat.zero_le, Nat.reduceLT, and_self, and_true, true_and, not_false_eq_true, not_true_eq_false, beq_self_eq_true, ne_eq, not_true, not_false_iff, Nat.succ_ne_self, kSq, kRt, kRtN, kSet, kSetL, kIf, kPar, kTpl, kSub, kAug, kEx, kNx, kBk, kCt, kFor, xCall, xAgs, xV, xBin, xUn, xIf, xTup, xLst, xIx, xCut, xRv, revD, xPt, xAnd, xOr, tAn, tOrr, tNt, tC1, tCC, tX, xT, xBi, xIsi, xMut, xMet, xGet, xDic, xPs, xFst, xFs, xOs, xS, xC, rdO, rdOs, idxD, atI, binD, addD, subD, mulD, divD, modD, unD, truthD, resD, newB, arr, pickS, nodupB, slotsOf, ownAll, xVs, outI, afterIo, putBack, biD, lenB, lenD, absB, intB, cmpD, eqD_int, eqD_str, eqD_bool, ltD_int, PySem.W.dataLt_int, isD, isNoneD, g1, gN', setsD, seqD, frz, mutD, setIx, appM, popM, extM, revM, xRng, xZp, xLz, xLr, xSum, kNo, xIt, itemsD, augD, tTr, xLc, xLcL, frzs, wipeE, backE]⟩, rfl⟩) (by rw [enumL_len]; exact Nat.le_trans (show _ ≤ 50 by omega) (by decide))
  have tl := toks_len x.cps.toList
  obtain ⟨T', F', sz', y6, e, hI, hr, hF, hT⟩ := lp_wh k (s := some (false, .str x)) (x2 := none) (x3 := none) (T0 := toks x.cps.toList) wf (toks x.cps.toList) [] (-1) none (Nat.le_trans (show _ ≤ 102 by omega) (by decide)) (by omega) (by simp; omega) (by omega) (Inv.start _)
  have so := sorted_fps F' (Nat.le_trans hF (by decide))
  have en' := eq_nil (T'.map tkD) (plains_tk T')
  have te := told_end hI hr
  rw [c10, ← te]
  simp only [List.map_nil] at e
  by_cases h0 : T' = []
  · subst h0
    rw [if_pos rfl]
    simp only [List.map_nil, List.isEmpty_nil] at en' e
    simp only [s10, ↓bind_m, Option.map_some, Option.map_none, List.getElem?_cons_zero, List.getElem?_cons_succ, List.getElem?_nil, List.set_cons_zero, List.set_cons_succ, List.length_cons, List.length_nil, List.length_append, Nat.zero_add, Nat.reduceAdd, Nat.reduceSub, Nat.reduceLT, Nat.reduceLeDiff, Nat.reduceBEq, Nat.reduceEqDiff, Int.reduceLT, Int.reduceLE, Int.reduceNeg, Int.reduceEq, Int.reduceToNat, reduceIte, reduceCtorEq, List.contains_nil, List.contains_cons, List.cons_append, List.nil_append, if_true, if_false, ite_true, ite_false, Bool.false_eq_true, decide_true, decide_false, Bool.not_true, Bool.not_false, Bool.and_true, Bool.true_and, Bool.and_self, Bool.and_false, Bool.false_and, Bool.or_false, Bool.or_true, Bool.false_or, Bool.true_or, List.all_cons, List.all_nil, ixN_zero, ixN_1, ixN_2, ixN_3, ixN_4, ixN_5, ixN_6, ixN_7, ixN_8, ixN_9, ixN_10, ixN_11, ixN_12, ixN_m1, ixN_m2, ixN_nat, sz_ok, sz_lt, Nat.zero_le, Nat.reduceLT, and_self, and_true, true_and, not_false_eq_true, not_true_eq_false, beq_self_eq_true, ne_eq, not_true, not_false_iff, Nat.succ_ne_self, idxD_l, idxD_t, setIx_l, kSq, kRt, kRtN, kSet, kSetL, kIf, kPar, kTpl, kSub, kAug, kEx, kNx, kBk, kCt, kFor, xCall, xAgs, xV, xBin, xUn, xIf, xTup, xLst, xIx, xCut, xRv, revD, xPt, xAnd, xOr, tAn, tOrr, tNt, tC1, tCC, tX, xT, xBi, xIsi, xMut, xMet, xGet, xDic, xPs, xFst, xFs, xOs, xS, xC, rdO, rdOs, atI, binD, addD, subD, mulD, divD, modD, unD, truthD, resD, newB, arr, pickS, nodupB, slotsOf, ownAll, xVs, outI, afterIo, putBack, biD, lenB, lenD, absB, intB, cmpD, eqD_int, eqD_str, eqD_bool, ltD_int, PySem.W.dataLt_int, isD, isNoneD, g1, gN', setsD, seqD, frz, xRng, xZp, xLz, xLr, xSum, kNo, xIt, itemsD, augD, tTr, frzs, wipeE, backE, lc, e, so, tupleB, en']
  · rw [if_neg h0]
    have hd : (T'.map tkD).isEmpty = false := by cases T' with | nil => exact absurd rfl h0 | cons a b => rfl
    rw [hd] at en'
    simp only [s10, ↓bind_m, Option.map_some, Option.map_none, List.getElem?_cons_zero, List.getElem?_cons_succ, List.getElem?_nil, List.set_cons_zero, List.set_cons_succ, List.length_cons, List.length_nil, List.length_append, Nat.zero_add, Nat.reduceAdd, Nat.reduceSub, Nat.reduceLT, Nat.reduceLeDiff, Nat.reduceBEq, Nat.reduceEqDiff, Int.reduceLT, Int.reduceLE, Int.reduceNeg, Int.reduceEq, Int.reduceToNat, reduceIte, reduceCtorEq, List.contains_nil, List.contains_cons, List.cons_append, List.nil_append, if_true, if_false, ite_true, ite_false, Bool.false_eq_true, decide_true, decide_false, Bool.not_true, Bool.not_false, Bool.and_true, Bool.true_and, Bool.and_self, Bool.and_false, Bool.false_and, Bool.or_false, Bool.or_true, Bool.false_or, Bool.true_or, List.all_cons, List.all_nil, ixN_zero, ixN_1, ixN_2, ixN_3, ixN_4, ixN_5, ixN_6, ixN_7, ixN_8, ixN_9, ixN_10, ixN_11, ixN_12, ixN_m1, ixN_m2, ixN_nat, sz_ok, sz_lt, Nat.zero_le, Nat.reduceLT, and_self, and_true, true_and, not_false_eq_true, not_true_eq_false, beq_self_eq_true, ne_eq, not_true, not_false_iff, Nat.succ_ne_self, idxD_l, idxD_t, setIx_l, kSq, kRt, kRtN, kSet, kSetL, kIf, kPar, kTpl, kSub, kAug, kEx, kNx, kBk, kCt, kFor, xCall, xAgs, xV, xBin, xUn, xIf, xTup, xLst, xIx, xCut, xRv, revD, xPt, xAnd, xOr, tAn, tOrr, tNt, tC1, tCC, tX, xT, xBi, xIsi, xMut, xMet, xGet, xDic, xPs, xFst, xFs, xOs, xS, xC, rdO, rdOs, atI, binD, addD, subD, mulD, divD, modD, unD, truthD, resD, newB, arr, pickS, nodupB, slotsOf, ownAll, xVs, outI, afterIo, putBack, biD, lenB, lenD, absB, intB, cmpD, eqD_int, eqD_str, eqD_bool, ltD_int, PySem.W.dataLt_int, isD, isNoneD, g1, gN', setsD, seqD, frz, xRng, xZp, xLz, xLr, xSum, kNo, xIt, itemsD, augD, tTr, frzs, wipeE, backE, lc, e, so, tupleB, en']
end K09


namespace K09
open PySem PySem.Spec L2 Pf
/-! ## brackets that match, drawn -/
def fc : Nat → Nat
  | 0 => 0
  | 1 => 2
  | m + 2 => 3 + 2 * fc m + fc (m + 1)
theorem one_d : ((".": Str)).length = 1 := by decide
theorem one_o : (("(": Str)).length = 1 := by decide
theorem one_s : ((")": Str)).length = 1 := by decide
theorem big {n : Nat} (h : n ≤ 1000) : n ≤ sizeLine := Nat.le_trans h (by decide)
theorem matched_ok (m : Nat) : m ≤ 60 → ∀ (k : Nat), m ≤ k → ∀ (n : Int), n ≤ m → ∀ (t : Nat) (p : PyData), Pen t p → t + fc m ≤ 700000 →
    ∃ (x : Str) (p' : PyData), Γ (k + 3) "_law_matched" [p, .int n] = some (false, .str x, [p', .int n]) ∧ x.length ≤ n.toNat ∧ Pen (t + fc m) p' := by
  induction m using Nat.strongRecOn with
  | _ m IH =>
    intro h60 k hk n hn t p hp ht
    rw [c9]
    by_cases h1 : n < 1
    · have d1 : decide (n < 1) = true := decide_eq_true h1
      refine ⟨"", p, ?_, by show 0 ≤ n.toNat; omega, hp.mono (by omega)⟩
      simp only [s9, ↓bind_m, Option.map_some, Option.map_none, List.getElem?_cons_zero, List.getElem?_cons_succ, List.getElem?_nil, List.set_cons_zero, List.set_cons_succ, List.length_cons, List.length_nil, List.length_append, Nat.zero_add, Nat.reduceAdd, Nat.reduceSub, Nat.reduceLT, Nat.reduceLeDiff, Nat.reduceBEq, Nat.reduceEqDiff, Int.reduceLT, Int.reduceLE, Int.reduceNeg, Int.reduceEq, Int.reduceToNat, reduceIte, reduceCtorEq, List.contains_nil, List.contains_cons, List.cons_append, List.nil_append, if_true, if_false, ite_true, ite_false, Bool.false_eq_true, decide_true, decide_false, Bool.not_true, Bool.not_false, Bool.and_true, Bool.true_and, Bool.and_self, Bool.and_false, Bool.false_and, Bool.or_false, Bool.or_true, Bool.false_or, Bool.true_or, List.all_cons, List.all_nil, ixN_zero, ixN_1, ixN_2, ixN_3, ixN_4, ixN_5, ixN_6, ixN_7, ixN_8, ixN_9, ixN_10, ixN_11, ixN_12, ixN_m1, ixN_m2, ixN_nat, sz_ok, sz_lt, Nat.zero_le, Nat.reduceLT, and_self, and_true, true_and, not_false_eq_true, not_true_eq_false, beq_self_eq_true, ne_eq, not_true, not_false_iff, Nat.succ_ne_self, idxD_l, idxD_t, setIx_l, kSq, kRt, kRtN, kSet, kSetL, kIf, kPar, kTpl, kSub, kAug, kEx, kNx, kBk, kCt, kFor, xCall, xAgs, xV, xBin, xUn, xIf, xTup, xLst, xIx, xCut, xRv, revD, xPt, xAnd, xOr, tAn, tOrr, tNt, tC1, tCC, tX, xT, xBi, xIsi, xMut, xMet, xGet, xDic, xPs, xFst, xFs, xOs, xS, xC, rdO, rdOs, atI, binD, addD, subD, mulD, divD, modD, unD, truthD, resD, newB, arr, pickS, nodupB, slotsOf, ownAll, xVs, outI, afterIo, putBack, biD, lenB, lenD, absB, intB, cmpD, eqD_int, eqD_str, eqD_bool, ltD_int, PySem.W.dataLt_int, isD, isNoneD, g1, gN', setsD, seqD, frz, xRng, xZp, xLz, xLr, xSum, kNo, xIt, itemsD, augD, tTr, frzs, wipeE, backE, d1]
    · have d1 : decide (n < 1) = false := decide_eq_false h1
      obtain ⟨m, rfl⟩ : ∃ m', m = m' + 1 := ⟨m - 1, by omega⟩
      obtain ⟨k, rfl⟩ : ∃ k', k = k' + 1 := ⟨k - 1, by omega⟩
      have hf : fc m + 2 ≤ fc (m + 1) := by
        cases m with
        | zero => decide
        | succ m => show fc (m + 1) + 2 ≤ 3 + 2 * fc m + fc (m + 1); omega
      obtain ⟨v1, p1, e1, a1, b1, q1⟩ := take_ok (k + 2) hp (many := 6) (by decide) (by decide) (by omega)
      by_cases hv1 : v1 = 0
      · have d2 : decide (v1 = 0) = true := decide_eq_true hv1
        refine ⟨"", p1, ?_, by show 0 ≤ n.toNat; omega, q1.mono (by omega)⟩
        simp only [s9, ↓bind_m, Option.map_some, Option.map_none, List.getElem?_cons_zero, List.getElem?_cons_succ, List.getElem?_nil, List.set_cons_zero, List.set_cons_succ, List.length_cons, List.length_nil, List.length_append, Nat.zero_add, Nat.reduceAdd, Nat.reduceSub, Nat.reduceLT, Nat.reduceLeDiff, Nat.reduceBEq, Nat.reduceEqDiff, Int.reduceLT, Int.reduceLE, Int.reduceNeg, Int.reduceEq, Int.reduceToNat, reduceIte, reduceCtorEq, List.contains_nil, List.contains_cons, List.cons_append, List.nil_append, if_true, if_false, ite_true, ite_false, Bool.false_eq_true, decide_true, decide_false, Bool.not_true, Bool.not_false, Bool.and_true, Bool.true_and, Bool.and_self, Bool.and_false, Bool.false_and, Bool.or_false, Bool.or_true, Bool.false_or, Bool.true_or, List.all_cons, List.all_nil, ixN_zero, ixN_1, ixN_2, ixN_3, ixN_4, ixN_5, ixN_6, ixN_7, ixN_8, ixN_9, ixN_10, ixN_11, ixN_12, ixN_m1, ixN_m2, ixN_nat, sz_ok, sz_lt, Nat.zero_le, Nat.reduceLT, and_self, and_true, true_and, not_false_eq_true, not_true_eq_false, beq_self_eq_true, ne_eq, not_true, not_false_iff, Nat.succ_ne_self, idxD_l, idxD_t, setIx_l, kSq, kRt, kRtN, kSet, kSetL, kIf, kPar, kTpl, kSub, kAug, kEx, kNx, kBk, kCt, kFor, xCall, xAgs, xV, xBin, xUn, xIf, xTup, xLst, xIx, xCut, xRv, revD, xPt, xAnd, xOr, tAn, tOrr, tNt, tC1, tCC, tX, xT, xBi, xIsi, xMut, xMet, xGet, xDic, xPs, xFst, xFs, xOs, xS, xC, rdO, rdOs, atI, binD, addD, subD, mulD, divD, modD, unD, truthD, resD, newB, arr, pickS, nodupB, slotsOf, ownAll, xVs, outI, afterIo, putBack, biD, lenB, lenD, absB, intB, cmpD, eqD_int, eqD_str, eqD_bool, ltD_int, PySem.W.dataLt_int, isD, isNoneD, g1, gN', setsD, seqD, frz, xRng, xZp, xLz, xLr, xSum, kNo, xIt, itemsD, augD, tTr, frzs, wipeE, backE, d1, e1, d2]
      · have d2 : decide (v1 = 0) = false := decide_eq_false hv1
        obtain ⟨v2, p2, e2, a2, b2, q2⟩ := take_ok (k + 2) q1 (many := 3) (by decide) (by decide) (by omega)
        by_cases hw : v2 = 0 ∨ n < 2
        · obtain ⟨x, p3, e3, l3, q3⟩ := IH m (by omega) (by omega) k (by omega) (n - 1) (by omega) _ p2 q2 (by omega)
          have sz : ("." : Str).length + x.length ≤ sizeLine := by rw [one_d]; exact big (by omega)
          refine ⟨"." ++ x, p3, ?_, by rw [len_app, one_d]; omega, q3.mono (by omega)⟩
          by_cases hv2 : v2 = 0
          · have d3 : decide (v2 = 0) = true := decide_eq_true hv2
            simp only [s9, ↓bind_m, Option.map_some, Option.map_none, List.getElem?_cons_zero, List.getElem?_cons_succ, List.getElem?_nil, List.set_cons_zero, List.set_cons_succ, List.length_cons, List.length_nil, List.length_append, Nat.zero_add, Nat.reduceAdd, Nat.reduceSub, Nat.reduceLT, Nat.reduceLeDiff, Nat.reduceBEq, Nat.reduceEqDiff, Int.reduceLT, Int.reduceLE, Int.reduceNeg, Int.reduceEq, Int.reduceToNat, reduceIte, reduceCtorEq, List.contains_nil, List.contains_cons, List.cons_append, List.nil_append, if_true, if_false, ite_true, ite_false, Bool.false_eq_true, decide_true, decide_false, Bool.not_true, Bool.not_false, Bool.and_true, Bool.true_and, Bool.and_self, Bool.and_false, Bool.false_and, Bool.or_false, Bool.or_true, Bool.false_or, Bool.true_or, List.all_cons, List.all_nil, ixN_zero, ixN_1, ixN_2, ixN_3, ixN_4, ixN_5, ixN_6, ixN_7, ixN_8, ixN_9, ixN_10, ixN_11, ixN_12, ixN_m1, ixN_m2, ixN_nat, sz_ok, sz_lt, Nat.zero_le, Nat.reduceLT, and_self, and_true, true_and, not_false_eq_true, not_true_eq_false, beq_self_eq_true, ne_eq, not_true, not_false_iff, Nat.succ_ne_self, idxD_l, idxD_t, setIx_l, kSq, kRt, kRtN, kSet, kSetL, kIf, kPar, kTpl, kSub, kAug, kEx, kNx, kBk, kCt, kFor, xCall, xAgs, xV, xBin, xUn, xIf, xTup, xLst, xIx, xCut, xRv, revD, xPt, xAnd, xOr, tAn, tOrr, tNt, tC1, tCC, tX, xT, xBi, xIsi, xMut, xMet, xGet, xDic, xPs, xFst, xFs, xOs, xS, xC, rdO, rdOs, atI, binD, addD, subD, mulD, divD, modD, unD, truthD, resD, newB, arr, pickS, nodupB, slotsOf, ownAll, xVs, outI, afterIo, putBack, biD, lenB, lenD, absB, intB, cmpD, eqD_int, eqD_str, eqD_bool, ltD_int, PySem.W.dataLt_int, isD, isNoneD, g1, gN', setsD, seqD, frz, xRng, xZp, xLz, xLr, xSum, kNo, xIt, itemsD, augD, tTr, frzs, wipeE, backE, d1, e1, d2, e2, d3, e3, sz]
          · have d3 : decide (v2 = 0) = false := decide_eq_false hv2
            have d4 : decide (n < 2) = true := decide_eq_true (hw.resolve_left hv2)
            simp only [s9, ↓bind_m, Option.map_some, Option.map_none, List.getElem?_cons_zero, List.getElem?_cons_succ, List.getElem?_nil, List.set_cons_zero, List.set_cons_succ, List.length_cons, List.length_nil, List.length_append, Nat.zero_add, Nat.reduceAdd, Nat.reduceSub, Nat.reduceLT, Nat.reduceLeDiff, Nat.reduceBEq, Nat.reduceEqDiff, Int.reduceLT, Int.reduceLE, Int.reduceNeg, Int.reduceEq, Int.reduceToNat, reduceIte, reduceCtorEq, List.contains_nil, List.contains_cons, List.cons_append, List.nil_append, if_true, if_false, ite_true, ite_false, Bool.false_eq_true, decide_true, decide_false, Bool.not_true, Bool.not_false, Bool.and_true, Bool.true_and, Bool.and_self, Bool.and_false, Bool.false_and, Bool.or_false, Bool.or_true, Bool.false_or, Bool.true_or, List.all_cons, List.all_nil, ixN_zero, ixN_1, ixN_2, ixN_3, ixN_4, ixN_5, ixN_6, ixN_7, ixN_8, ixN_9, ixN_10, ixN_11, ixN_12, ixN_m1, ixN_m2, ixN_nat, sz_ok, sz_lt, Nat.zero_le, Nat.reduceLT, and_self, and_true, true_and, not_false_eq_true, not_true_eq_false, beq_self_eq_true, ne_eq, not_true, not_false_iff, Nat.succ_ne_self, idxD_l, idxD_t, setIx_l, kSq, kRt, kRtN, kSet, kSetL, kIf, kPar, kTpl, kSub, kAug, kEx, kNx, kBk, kCt, kFor, xCall, xAgs, xV, xBin, xUn, xIf, xTup, xLst, xIx, xCut, xRv, revD, xPt, xAnd, xOr, tAn, tOrr, tNt, tC1, tCC, tX, xT, xBi, xIsi, xMut, xMet, xGet, xDic, xPs, xFst, xFs, xOs, xS, xC, rdO, rdOs, atI, binD, addD, subD, mulD, divD, modD, unD, truthD, resD, newB, arr, pickS, nodupB, slotsOf, ownAll, xVs, outI, afterIo, putBack, biD, lenB, lenD, absB, intB, cmpD, eqD_int, eqD_str, eqD_bool, ltD_int, PySem.W.dataLt_int, isD, isNoneD, g1, gN', setsD, seqD, frz, xRng, xZp, xLz, xLr, xSum, kNo, xIt, itemsD, augD, tTr, frzs, wipeE, backE, d1, e1, d2, e2, d3, d4, e3, sz]
        · have d3 : decide (v2 = 0) = false := decide_eq_false fun h => hw (.inl h)
          have d4 : decide (n < 2) = false := decide_eq_false fun h => hw (.inr h)
          have hn2 : ¬ n < 2 := fun h => hw (.inr h)
          obtain ⟨m, rfl⟩ : ∃ m', m = m' + 1 := ⟨m - 1, by omega⟩
          obtain ⟨v3, p3, e3, a3, b3, q3⟩ := take_ok (k + 2) q2 (many := n - 1) (by omega) (by omega) (by omega)
          have hfc : fc (m + 1 + 1) = 3 + 2 * fc m + fc (m + 1) := rfl
          obtain ⟨x, p4, e4, l4, q4⟩ := IH m (by omega) (by omega) k (by omega) v3 (by omega) _ p3 q3 (by omega)
          obtain ⟨y, p5, e5, l5, q5⟩ := IH m (by omega) (by omega) k (by omega) (n - 2 - (x.length : Int)) (by omega) _ p4 q4 (by omega)
          have s0 : x.length ≤ sizeLine := big (by omega)
          have s1 : ("(" : Str).length + x.length ≤ sizeLine := by rw [one_o]; exact big (by omega)
          have s2 : ("(" ++ x : Str).length + (")" : Str).length ≤ sizeLine := by rw [len_app, one_o, one_s]; exact big (by omega)
          have s3 : ("(" ++ x ++ ")" : Str).length + y.length ≤ sizeLine := by rw [len_app, len_app, one_o, one_s]; exact big (by omega)
          refine ⟨"(" ++ x ++ ")" ++ y, p5, ?_, by rw [len_app, len_app, len_app, one_o, one_s]; omega, q5.mono (by omega)⟩
          simp only [s9, ↓bind_m, Option.map_some, Option.map_none, List.getElem?_cons_zero, List.getElem?_cons_succ, List.getElem?_nil, List.set_cons_zero, List.set_cons_succ, List.length_cons, List.length_nil, List.length_append, Nat.zero_add, Nat.reduceAdd, Nat.reduceSub, Nat.reduceLT, Nat.reduceLeDiff, Nat.reduceBEq, Nat.reduceEqDiff, Int.reduceLT, Int.reduceLE, Int.reduceNeg, Int.reduceEq, Int.reduceToNat, reduceIte, reduceCtorEq, List.contains_nil, List.contains_cons, List.cons_append, List.nil_append, if_true, if_false, ite_true, ite_false, Bool.false_eq_true, decide_true, decide_false, Bool.not_true, Bool.not_false, Bool.and_true, Bool.true_and, Bool.and_self, Bool.and_false, Bool.false_and, Bool.or_false, Bool.or_true, Bool.false_or, Bool.true_or, List.all_cons, List.all_nil, ixN_zero, ixN_1, ixN_2, ixN_3, ixN_4, ixN_5, ixN_6, ixN_7, ixN_8, ixN_9, ixN_10, ixN_11, ixN_12, ixN_m1, ixN_m2, ixN_nat, sz_ok, sz_lt, Nat.zero_le, Nat.reduceLT, and_self, and_true, true_and, not_false_eq_true, not_true_eq_false, beq_self_eq_true, ne_eq, not_true, not_false_iff, Nat.succ_ne_self, idxD_l, idxD_t, setIx_l, kSq, kRt, kRtN, kSet, kSetL, kIf, kPar, kTpl, kSub, kAug, kEx, kNx, kBk, kCt, kFor, xCall, xAgs, xV, xBin, xUn, xIf, xTup, xLst, xIx, xCut, xRv, revD, xPt, xAnd, xOr, tAn, tOrr, tNt, tC1, tCC, tX, xT, xBi, xIsi, xMut, xMet, xGet, xDic, xPs, xFst, xFs, xOs, xS, xC, rdO, rdOs, atI, binD, addD, subD, mulD, divD, modD, unD, truthD, resD, newB, arr, pickS, nodupB, slotsOf, ownAll, xVs, outI, afterIo, putBack, biD, lenB, lenD, absB, intB, cmpD, eqD_int, eqD_str, eqD_bool, ltD_int, PySem.W.dataLt_int, isD, isNoneD, g1, gN', setsD, seqD, frz, xRng, xZp, xLz, xLr, xSum, kNo, xIt, itemsD, augD, tTr, frzs, wipeE, backE, d1, e1, d2, e2, d3, d4, e3, e4, s0, e5, s1, s2, s3]
/-! ## the law -/
theorem run_mem {P : Int → Prop} : ∀ (T : List Tk) (st : List Int) (fd : List Pr), (∀ t ∈ T, P t.2) → (∀ a ∈ st, P a) → (∀ f ∈ fd, P f.1 ∧ P f.2) → ∀ q, run T st fd = some q → ∀ f ∈ q.2, P f.1 ∧ P f.2
  | [], st, fd, _, _, hf, q, h => by cases h; exact hf
  | t :: r, st, fd, hT, hs, hf, q, h => by
    rw [run_cons] at h
    have hr := fun u hu => hT u (List.mem_cons_of_mem _ hu)
    by_cases h40 : t.1 = 40
    · rw [if_pos h40] at h
      exact run_mem r _ _ hr (fun a ha => by
        rcases List.mem_cons.mp ha with rfl | ha
        · exact hT t List.mem_cons_self
        · exact hs a ha) hf q h
    · rw [if_neg h40] at h
      by_cases h41 : t.1 = 41
      · rw [if_pos h41] at h
        cases st with
        | nil => cases h
        | cons a st =>
          exact run_mem r _ _ hr (fun b hb => hs b (List.mem_cons_of_mem _ hb)) (fun f hfm => by
            rcases List.mem_append.mp hfm with hfm | hfm
            · exact hf f hfm
            · rw [List.mem_singleton.mp hfm]
              exact ⟨hs a List.mem_cons_self, hT t List.mem_cons_self⟩) q h
      · rw [if_neg h41] at h
        cases h
theorem enumL_bd : ∀ (cs : List Nat) (m : Nat), ∀ t ∈ enumL cs m, 0 ≤ t.2 ∧ t.2 < m + cs.length
  | [], _, t, h => by cases h
  | c :: r, m, t, h => by
    rcases List.mem_cons.mp h with rfl | h
    · simp only [List.length_cons]
      omega
    · have := enumL_bd r (m + 1) t h
      simp only [List.length_cons]
      omega
theorem told_repr {x : Str} (hx : x.length ≤ 50) : ∃ w, reprB [toldP (toks x.cps.toList)] = some (.str w) := by
  have hl : x.cps.toList.length = x.length := Array.length_toList
  unfold toldP
  split
  · rename_i fd hr
    have tl := toks_len x.cps.toList
    have rl := run_len _ _ _ hr
    have rm := run_mem (P := fun i => 0 ≤ i ∧ i < 50) (toks x.cps.toList) [] [] (fun t ht => by
      have := enumL_bd x.cps.toList 0 t (List.mem_filter.mp ht).1
      omega) (fun a ha => by cases ha) (fun f hf => by cases hf) _ hr
    have pl : (srt fd).Perm fd := List.mergeSort_perm fd leP
    have sm : ∀ i : Int, (0 ≤ i ∧ i < 50) → Fine 1 1922 (.int i) := fun i hi => fine_int (by
      have h1 : i.natAbs < 50 := by omega
      exact Nat.lt_of_lt_of_le h1 (by decide)) (Nat.le_refl _)
    exact (fine_tuple (n := 2) (w := 4000) (m := 50) (v := 210000) (all_map fun f hf => by
      have := rm f (pl.mem_iff.mp hf)
      exact fine_tuple (n := 1) (w := 1922) (m := 2) (all2 (sm _ this.1) (sm _ this.2)) (Nat.le_refl _) (by omega)) (by rw [List.length_map, pl.length_eq]; simp only [List.length_nil] at rl; omega) (by omega)).repr (by omega) (by omega)
  · exact ⟨_, reprB_none⟩
section
variable {a0 x2 x3 x4 x5 x6 x8 : Option (Bool × PyData)} {p : PyData}
theorem in_loop (k : Nat) {L : PyData} : ∀ (xs : List Str) (x9 x10 : Option (Bool × PyData)), (∀ x ∈ xs, x.length ≤ 50) → ∃ y9 y10, kLoop (g1 9) (b11_1 (Γ (k + 1))) (xs.map .str) [a0, some (true, p), x2, x3, x4, x5, x6, some (false, L), x8, x9, x10] =
    some (.nx [a0, some (true, p), x2, x3, x4, x5, x6, some (false, L), x8, y9, y10])
  | [], x9, x10, _ => ⟨x9, x10, rfl⟩
  | x :: xs, x9, x10, h => by
    have hx := h x List.mem_cons_self
    have e1 := lawPairs_ok k hx
    have e2 := pairsIn_ok k (x := x) (by omega)
    obtain ⟨w, hw⟩ := told_repr hx
    have d1 : decide (w = w) = true := decide_eq_true rfl
    obtain ⟨y9, y10, e⟩ := in_loop k xs (some (false, .str x)) (some (false, .str w)) fun y hy => h y (List.mem_cons_of_mem _ hy)
    refine ⟨y9, y10, ?_⟩
    have b1 : kSq (b11_1 (Γ (k + 1))) [a0, some (true, p), x2, x3, x4, x5, x6, some (false, L), x8, some (false, .str x), x10] = some (.nx [a0, some (true, p), x2, x3, x4, x5, x6, some (false, L), x8, some (false, .str x), some (false, .str w)]) := by
      simp only [b11_1, ↓bind_m, Option.map_some, Option.map_none, List.getElem?_cons_zero, List.getElem?_cons_succ, List.getElem?_nil, List.set_cons_zero, List.set_cons_succ, List.length_cons, List.length_nil, List.length_append, Nat.zero_add, Nat.reduceAdd, Nat.reduceSub, Nat.reduceLT, Nat.reduceLeDiff, Nat.reduceBEq, Nat.reduceEqDiff, Int.reduceLT, Int.reduceLE, Int.reduceNeg, Int.reduceEq, Int.reduceToNat, reduceIte, reduceCtorEq, List.contains_nil, List.contains_cons, List.cons_append, List.nil_append, if_true, if_false, ite_true, ite_false, Bool.false_eq_true, decide_true, decide_false, Bool.not_true, Bool.not_false, Bool.and_true, Bool.true_and, Bool.and_self, Bool.and_false, Bool.false_and, Bool.or_false, Bool.or_true, Bool.false_or, Bool.true_or, List.all_cons, List.all_nil, ixN_zero, ixN_1, ixN_2, ixN_3, ixN_4, ixN_5, ixN_6, ixN_7, ixN_8, ixN_9, ixN_10, ixN_11, ixN_12, ixN_m1, ixN_m2, ixN_nat, sz_ok, sz_lt, Nat.zero_le, Nat.reduceLT, and_self, and_true, true_and, not_false_eq_true, not_true_eq_false, beq_self_eq_true, ne_eq, not_true, not_false_iff, Nat.succ_ne_self, idxD_l, idxD_t, setIx_l, kSq, kRt, kRtN, kSet, kSetL, kIf, kPar, kTpl, kSub, kAug, kEx, kNx, kBk, kCt, kFor, xCall, xAgs, xV, xBin, xUn, xIf, xTup, xLst, xIx, xCut, xRv, revD, xPt, xAnd, xOr, tAn, tOrr, tNt, tC1, tCC, tX, xT, xBi, xIsi, xMut, xMet, xGet, xDic, xPs, xFst, xFs, xOs, xS, xC, rdO, rdOs, atI, binD, addD, subD, mulD, divD, modD, unD, truthD, resD, newB, arr, pickS, nodupB, slotsOf, ownAll, xVs, outI, afterIo, putBack, biD, lenB, lenD, absB, intB, cmpD, eqD_int, eqD_str, eqD_bool, ltD_int, PySem.W.dataLt_int, isD, isNoneD, g1, gN', setsD, seqD, frz, xRng, xZp, xLz, xLr, xSum, kNo, xIt, itemsD, augD, tTr, frzs, wipeE, backE, e1, e2, hw, d1]
    rw [List.map_cons, kLoop_cons]
    simp only [g1, Option.bind_some, List.set_cons_succ, List.set_cons_zero, b1]
    exact e
end
abbrev SG : Str := " !#&'*+,-/0189:;<=>?@AZ[]^_`az{|}~"
theorem turn (k : Nat) {t : Nat} {p : PyData} (hp : Pen t p) (ht : t ≤ 500000) (a0 x3 x4 x5 x6 x7 x9 x10 : Option (Bool × PyData)) (i : Int) : ∃ p' y3 y4 y5 y6 y7 y9 y10, kSq (b11_0 (Γ (k + 17))) [a0, some (true, p), some (false, .int i), x3, x4, x5, x6, x7, none, x9, x10] =
    some (.nx [a0, some (true, p'), some (false, .int i), y3, y4, y5, y6, y7, none, y9, y10]) ∧ Pen (t + 40000) p' := by
  have hfc : fc 14 ≤ 39900 := by decide
  obtain ⟨x, p1, e1, l1, q1⟩ := matched_ok 14 (by decide) (k + 14) (by omega) 14 (by decide) t p hp (by omega)
  replace l1 : x.length ≤ 14 := l1
  have hz : x.length ≤ sizeLine := big (by omega)
  obtain ⟨v, p2, e2, a2, b2, q2⟩ := take_ok (k + 16) q1 (many := (x.length : Int) + 1) (by omega) (by omega) (by omega)
  obtain ⟨c3, p3, e3, _, q3⟩ := pick_str (k + 15) (z := SG) q2 (by omega) (by decide) (by decide)
  obtain ⟨c4, p4, e4, _, q4⟩ := pick_str (k + 15) (z := SG) q3 (by omega) (by decide) (by decide)
  obtain ⟨d5, p5, e5, m5, q5⟩ := pick_list (k + 15) (xs := [.str "(", .str ")", .str ".", ch c3, ch c4, .str "()", .str ")("]) q4 (by omega) (by simp) (by simp)
  obtain ⟨g, hg, rfl⟩ : ∃ g : Str, g.length ≤ 2 ∧ d5 = .str g := by
    simp only [List.mem_cons, List.not_mem_nil, or_false] at m5
    rcases m5 with rfl | rfl | rfl | rfl | rfl | rfl | rfl
    · exact ⟨_, by decide, rfl⟩
    · exact ⟨_, by decide, rfl⟩
    · exact ⟨_, by decide, rfl⟩
    · exact ⟨⟨#[c3]⟩, show 1 ≤ 2 by decide, rfl⟩
    · exact ⟨⟨#[c4]⟩, show 1 ≤ 2 by decide, rfl⟩
    · exact ⟨_, by decide, rfl⟩
    · exact ⟨_, by decide, rfl⟩
  have cu : ∀ lo hi, ∃ y, cutD (.str x) lo hi = some (.str y) ∧ y.length ≤ 14 := fun lo hi => ⟨cutS x lo hi, by simp only [cutD, hz, if_true], Nat.le_trans (cutS_length x lo hi) l1⟩
  obtain ⟨u1, c1, w1⟩ := cu none (some v)
  obtain ⟨u2, c2, w2⟩ := cu (some v) none
  obtain ⟨u3, c3', w3⟩ := cu (some (v + 1)) none
  have s1 : u1.length + g.length ≤ sizeLine := big (by omega)
  have s2 : (u1 ++ g).length + u2.length ≤ sizeLine := by rw [len_app]; exact big (by omega)
  have s3 : u1.length + u3.length ≤ sizeLine := big (by omega)
  have s4 : x.length + x.length ≤ sizeLine := big (by omega)
  obtain ⟨v6, p6, e6, a6, b6, q6⟩ := take_ok (k + 16) q5 (many := 9) (by decide) (by decide) (by omega)
  obtain ⟨n6, rfl⟩ : ∃ n : Nat, v6 = n := ⟨v6.toNat, by omega⟩
  have rg := range_1 (n := n6) (by omega)
  have hx3 : (revS x).length = x.length := by
    show x.cps.toList.reverse.toArray.size = x.cps.size
    simp
  generalize hLe : PyData.list [.str x, .str (u1 ++ g ++ u2), .str (u1 ++ u3), .str (revS x), .str (x ++ x), .str u1] = L7
  obtain ⟨ys, ρ8, e8, l8, hy8, p8, rfl, q8⟩ := lc_draw (v := xV [] (xCall (Γ (k + 17)) "_law_pick" [] [.pos 0, .pos 1] [.mine (xS 1), .shr (xV [] (xC (.str "().")))] [])) (i := 8) (R := fun y => ∃ c, y = ch c) (c := 1) (M := 600000)
    (S := fun n ρ => ∃ p, ρ = [a0, some (true, p), some (false, .int i), some (false, .str x), some (false, .int v), some (false, .str SG), some (false, .str g), some (true, L7), none, x9, x10] ∧ Pen n p) (fun n ρ y hn hs => by
      obtain ⟨p, rfl, hp⟩ := hs
      obtain ⟨c, u, y1, _, h1⟩ := pick_str (k + 15) (z := "().") hp (by omega) (by decide) (by decide)
      refine ⟨false, ch c, [a0, some (true, u), some (false, .int i), some (false, .str x), some (false, .int v), some (false, .str SG), some (false, .str g), some (true, L7), some (false, y), x9, x10], ?_, ⟨c, rfl⟩, u, rfl, h1⟩
      simp only [↓bind_m, Option.map_some, Option.map_none, List.getElem?_cons_zero, List.getElem?_cons_succ, List.getElem?_nil, List.set_cons_zero, List.set_cons_succ, List.length_cons, List.length_nil, List.length_append, Nat.zero_add, Nat.reduceAdd, Nat.reduceSub, Nat.reduceLT, Nat.reduceLeDiff, Nat.reduceBEq, Nat.reduceEqDiff, Int.reduceLT, Int.reduceLE, Int.reduceNeg, Int.reduceEq, Int.reduceToNat, reduceIte, reduceCtorEq, List.contains_nil, List.contains_cons, List.cons_append, List.nil_append, if_true, if_false, ite_true, ite_false, Bool.false_eq_true, decide_true, decide_false, Bool.not_true, Bool.not_false, Bool.and_true, Bool.true_and, Bool.and_self, Bool.and_false, Bool.false_and, Bool.or_false, Bool.or_true, Bool.false_or, Bool.true_or, List.all_cons, List.all_nil, ixN_zero, ixN_1, ixN_2, ixN_3, ixN_4, ixN_5, ixN_6, ixN_7, ixN_8, ixN_9, ixN_10, ixN_11, ixN_12, ixN_m1, ixN_m2, ixN_nat, sz_ok, sz_lt, Nat.zero_le, Nat.reduceLT, and_self, and_true, true_and, not_false_eq_true, not_true_eq_false, beq_self_eq_true, ne_eq, not_true, not_false_iff, Nat.succ_ne_self, kSq, kRt, kRtN, kSet, kSetL, kIf, kPar, kTpl, kSub, kAug, kEx, kNx, kBk, kCt, kFor, xCall, xAgs, xV, xBin, xUn, xIf, xTup, xLst, xIx, xCut, xRv, revD, xPt, xAnd, xOr, tAn, tOrr, tNt, tC1, tCC, tX, xT, xBi, xIsi, xMut, xMet, xGet, xDic, xPs, xFst, xFs, xOs, xS, xC, rdO, rdOs, idxD, atI, binD, addD, subD, mulD, divD, modD, unD, truthD, resD, newB, arr, pickS, nodupB, slotsOf, ownAll, xVs, outI, afterIo, putBack, biD, lenB, lenD, absB, intB, cmpD, eqD_int, eqD_str, eqD_bool, ltD_int, PySem.W.dataLt_int, isD, isNoneD, g1, gN', setsD, seqD, frz, mutD, setIx, appM, popM, extM, revM, xRng, xZp, xLz, xLr, xSum, kNo, xIt, itemsD, augD, tTr, xLc, xLcL, frzs, wipeE, backE, y1]) ((intsL 0 n6).map .int) [] _ [a0, some (true, p6), some (false, .int i), some (false, .str x), some (false, .int v), some (false, .str SG), some (false, .str g), some (true, L7), none, x9, x10] ⟨p6, rfl, q6⟩ (by rw [List.length_map, intsL_len]; omega) (by
      rw [List.length_map, intsL_len]
      exact big (show 0 + n6 ≤ 1000 by omega))
  rw [List.length_map, intsL_len] at l8 q8
  rw [List.nil_append] at e8
  obtain ⟨cs, hcs⟩ : ∃ cs : List Nat, ys = cs.map ch := by
    clear e8 l8
    induction ys with
    | nil => exact ⟨[], rfl⟩
    | cons y ys ih =>
      obtain ⟨cs, e⟩ := ih fun z hz => hy8 z (List.mem_cons_of_mem _ hz)
      obtain ⟨c, e2⟩ := hy8 y List.mem_cons_self
      exact ⟨c :: cs, by rw [e, e2]; rfl⟩
  subst hcs
  rw [List.length_map] at l8
  have jn := join_chars cs (by omega)
  have ex : xLc [8] (xRng [(xCall (Γ (k + 17)) "_law_take" [] [.pos 0, .pos 1] [.mine (xS 1), .shr (xV [] (xC (.int 9)))] [])]) (g1 8) tTr (xV [] (xCall (Γ (k + 17)) "_law_pick" [] [.pos 0, .pos 1] [.mine (xS 1), .shr (xV [] (xC (.str "().")))] [])) [a0, some (true, p5), some (false, .int i), some (false, .str x), some (false, .int v), some (false, .str SG), some (false, .str g), some (true, L7), none, x9, x10] =
      some (.val (.list (cs.map ch)), true, [a0, some (true, p8), some (false, .int i), some (false, .str x), some (false, .int v), some (false, .str SG), some (false, .str g), some (true, L7), none, x9, x10]) := by
    rw [← hLe] at e8 ⊢
    simp only [↓bind_m, Option.map_some, Option.map_none, List.getElem?_cons_zero, List.getElem?_cons_succ, List.getElem?_nil, List.set_cons_zero, List.set_cons_succ, List.length_cons, List.length_nil, List.length_append, Nat.zero_add, Nat.reduceAdd, Nat.reduceSub, Nat.reduceLT, Nat.reduceLeDiff, Nat.reduceBEq, Nat.reduceEqDiff, Int.reduceLT, Int.reduceLE, Int.reduceNeg, Int.reduceEq, Int.reduceToNat, reduceIte, reduceCtorEq, List.contains_nil, List.contains_cons, List.cons_append, List.nil_append, if_true, if_false, ite_true, ite_false, Bool.false_eq_true, decide_true, decide_false, Bool.not_true, Bool.not_false, Bool.and_true, Bool.true_and, Bool.and_self, Bool.and_false, Bool.false_and, Bool.or_false, Bool.or_true, Bool.false_or, Bool.true_or, List.all_cons, List.all_nil, ixN_zero, ixN_1, ixN_2, ixN_3, ixN_4, ixN_5, ixN_6, ixN_7, ixN_8, ixN_9, ixN_10, ixN_11, ixN_12, ixN_m1, ixN_m2, ixN_nat, sz_ok, sz_lt, Nat.zero_le, Nat.reduceLT, and_self, and_true, true_and, not_false_eq_true, not_true_eq_false, beq_self_eq_true, ne_eq, not_true, not_false_iff, Nat.succ_ne_self, idxD_l, idxD_t, setIx_l, kSq, kRt, kRtN, kSet, kSetL, kIf, kPar, kTpl, kSub, kAug, kEx, kNx, kBk, kCt, kFor, xCall, xAgs, xV, xBin, xUn, xIf, xTup, xLst, xIx, xCut, xRv, revD, xPt, xAnd, xOr, tAn, tOrr, tNt, tC1, tCC, tX, xT, xBi, xIsi, xMut, xMet, xGet, xDic, xPs, xFst, xFs, xOs, xS, xC, rdO, rdOs, atI, binD, addD, subD, mulD, divD, modD, unD, truthD, resD, newB, arr, pickS, nodupB, slotsOf, ownAll, xVs, outI, afterIo, putBack, biD, lenB, lenD, absB, intB, cmpD, eqD_int, eqD_str, eqD_bool, ltD_int, PySem.W.dataLt_int, isD, isNoneD, g1, gN', setsD, seqD, frz, mutD, appM, popM, extM, revM, xRng, xZp, xLz, xLr, xSum, kNo, xIt, itemsD, augD, tTr, xLc, xLcL, frzs, wipeE, backE, e6, rg, e8]
  have ap : mutD "append" L7 [.str ⟨cs.toArray⟩] = some (.list ([x, u1 ++ g ++ u2, u1 ++ u3, revS x, x ++ x, u1, ⟨cs.toArray⟩].map .str), .none) := by
    rw [← hLe]
    rfl
  obtain ⟨y9, y10, el⟩ := in_loop (k + 16) (a0 := a0) (p := p8) (x2 := some (false, .int i)) (x3 := some (false, .str x)) (x4 := some (false, .int v)) (x5 := some (false, .str SG)) (x6 := some (false, .str g)) (x8 := none) (L := .list ([x, u1 ++ g ++ u2, u1 ++ u3, revS x, x ++ x, u1, ⟨cs.toArray⟩].map .str)) [x, u1 ++ g ++ u2, u1 ++ u3, revS x, x ++ x, u1, ⟨cs.toArray⟩] x9 x10 (fun y hy => by
    simp only [List.mem_cons, List.not_mem_nil, or_false] at hy
    rcases hy with rfl | rfl | rfl | rfl | rfl | rfl | rfl
    · omega
    · rw [len_app, len_app]; omega
    · rw [len_app]; omega
    · rw [hx3]; omega
    · rw [len_app]; omega
    · omega
    · show cs.toArray.size ≤ 50
      rw [List.size_toArray]
      omega)
  refine ⟨p8, some (false, .str x), some (false, .int v), some (false, .str SG), some (false, .str g), some (false, .list ([x, u1 ++ g ++ u2, u1 ++ u3, revS x, x ++ x, u1, ⟨cs.toArray⟩].map .str)), y9, y10, ?_, q8.mono (by omega)⟩
  simp only [List.map_cons, List.map_nil] at el ap
  rw [← hLe] at ex ap
  simp only [b11_0, ↓bind_m, Option.map_some, Option.map_none, List.getElem?_cons_zero, List.getElem?_cons_succ, List.getElem?_nil, List.set_cons_zero, List.set_cons_succ, List.length_cons, List.length_nil, List.length_append, Nat.zero_add, Nat.reduceAdd, Nat.reduceSub, Nat.reduceLT, Nat.reduceLeDiff, Nat.reduceBEq, Nat.reduceEqDiff, Int.reduceLT, Int.reduceLE, Int.reduceNeg, Int.reduceEq, Int.reduceToNat, reduceIte, reduceCtorEq, List.contains_nil, List.contains_cons, List.cons_append, List.nil_append, if_true, if_false, ite_true, ite_false, Bool.false_eq_true, decide_true, decide_false, Bool.not_true, Bool.not_false, Bool.and_true, Bool.true_and, Bool.and_self, Bool.and_false, Bool.false_and, Bool.or_false, Bool.or_true, Bool.false_or, Bool.true_or, List.all_cons, List.all_nil, ixN_zero, ixN_1, ixN_2, ixN_3, ixN_4, ixN_5, ixN_6, ixN_7, ixN_8, ixN_9, ixN_10, ixN_11, ixN_12, ixN_m1, ixN_m2, ixN_nat, sz_ok, sz_lt, Nat.zero_le, Nat.reduceLT, and_self, and_true, true_and, not_false_eq_true, not_true_eq_false, beq_self_eq_true, ne_eq, not_true, not_false_iff, Nat.succ_ne_self, idxD_l, idxD_t, setIx_l, kSq, kRt, kRtN, kSet, kSetL, kIf, kPar, kTpl, kSub, kAug, kEx, kNx, kBk, kCt, kFor, xCall, xAgs, xV, xBin, xUn, xIf, xTup, xLst, xIx, xCut, xRv, revD, xPt, xAnd, xOr, tAn, tOrr, tNt, tC1, tCC, tX, xT, xBi, xIsi, xMut, xMet, xGet, xDic, xPs, xFst, xFs, xOs, xS, xC, rdO, rdOs, atI, binD, addD, subD, mulD, divD, modD, unD, truthD, resD, newB, arr, pickS, nodupB, slotsOf, ownAll, xVs, outI, afterIo, putBack, biD, lenB, lenD, absB, intB, cmpD, eqD_int, eqD_str, eqD_bool, ltD_int, PySem.W.dataLt_int, isD, isNoneD, g1, gN', setsD, seqD, frz, xRng, xZp, xLz, xLr, xSum, kNo, xIt, itemsD, augD, tTr, frzs, wipeE, backE, List.map_cons, List.map_nil, e1, hz, e2, e3, e4, e5, c1, c2, c3', s1, s2, s3, s4, ex, jn, ap, el]
theorem loop (k : Nat) (a0 : Option (Bool × PyData)) : ∀ (is : List Int) (t : Nat) (p : PyData) (x2 x3 x4 x5 x6 x7 x9 x10 : Option (Bool × PyData)), Pen t p → t + 40000 * is.length ≤ 500000 →
    ∃ ρ, kLoop (g1 2) (b11_0 (Γ (k + 17))) (is.map .int) [a0, some (true, p), x2, x3, x4, x5, x6, x7, none, x9, x10] = some (.nx (a0 :: ρ))
  | [], t, p, x2, x3, x4, x5, x6, x7, x9, x10, _, _ => ⟨_, rfl⟩
  | i :: is, t, p, x2, x3, x4, x5, x6, x7, x9, x10, hp, ht => by
    simp only [List.length_cons] at ht
    obtain ⟨p', y3, y4, y5, y6, y7, y9, y10, e, q⟩ := turn k hp (by omega) a0 x3 x4 x5 x6 x7 x9 x10 i
    obtain ⟨ρ, e2⟩ := loop k a0 is (t + 40000) p' (some (false, .int i)) y3 y4 y5 y6 y7 y9 y10 q (by omega)
    refine ⟨ρ, ?_⟩
    rw [List.map_cons, kLoop_cons]
    simp only [g1, Option.bind_some, List.set_cons_succ, List.set_cons_zero, e]
    exact e2
def depth : Nat := 18
theorem law : ∀ ns : List Int, ns.length ≤ 63 → ∃ r0 ds0, Gam D G0 wf fuel depth e11.fe.name [scrD (ns.map .int)] = some (r0, .bool true, ds0) ∧ ds0.length = 1 := fun ns hns => by
  refine ⟨false, [scrD (ns.map .int)], ?_, rfl⟩
  obtain ⟨p, ep, hp⟩ := pen_ok 16 ns hns
  obtain ⟨ρ, e⟩ := loop 0 (some (false, scrD (ns.map .int))) [0, 1, 2, 3, 4, 5, 6, 7, 8, 9, 10, 11] 0 p none none none none none none none none hp (by decide)
  have r12 : rangeD [.int 12] = some ([0, 1, 2, 3, 4, 5, 6, 7, 8, 9, 10, 11].map PyData.int) := rfl
  have t1 := pairsIn_ok 16 (x := "") (by decide)
  have t2 := pairsIn_ok 16 (x := ")(") (by decide)
  have q1 : toldP (toks ("" : Str).cps.toList) = .tuple [] := by
    unfold toldP
    rw [show run (toks ("" : Str).cps.toList) [] [] = some ([], []) from rfl]
    simp [srt]
  have q2 : toldP (toks (")(" : Str).cps.toList) = .none := by
    unfold toldP
    rw [show run (toks (")(" : Str).cps.toList) [] [] = none from rfl]
  rw [q1] at t1
  rw [q2] at t2
  have en1 := eq_nilT [] rfl
  simp only [List.isEmpty_nil] at en1
  show Γ (17 + 1) "law" [scrD (ns.map .int)] = _
  rw [c11]
  simp only [s11, ↓bind_m, Option.map_some, Option.map_none, List.getElem?_cons_zero, List.getElem?_cons_succ, List.getElem?_nil, List.set_cons_zero, List.set_cons_succ, List.length_cons, List.length_nil, List.length_append, Nat.zero_add, Nat.reduceAdd, Nat.reduceSub, Nat.reduceLT, Nat.reduceLeDiff, Nat.reduceBEq, Nat.reduceEqDiff, Int.reduceLT, Int.reduceLE, Int.reduceNeg, Int.reduceEq, Int.reduceToNat, reduceIte, reduceCtorEq, List.contains_nil, List.contains_cons, List.cons_append, List.nil_append, if_true, if_false, ite_true, ite_false, Bool.false_eq_true, decide_true, decide_false, Bool.not_true, Bool.not_false, Bool.and_true, Bool.true_and, Bool.and_self, Bool.and_false, Bool.false_and, Bool.or_false, Bool.or_true, Bool.false_or, Bool.true_or, List.all_cons, List.all_nil, ixN_zero, ixN_1, ixN_2, ixN_3, ixN_4, ixN_5, ixN_6, ixN_7, ixN_8, ixN_9, ixN_10, ixN_11, ixN_12, ixN_m1, ixN_m2, ixN_nat, sz_ok, sz_lt, Nat.zero_le, Nat.reduceLT, and_self, and_true, true_and, not_false_eq_true, not_true_eq_false, beq_self_eq_true, ne_eq, not_true, not_false_iff, Nat.succ_ne_self, kSq, kRt, kRtN, kSet, kSetL, kIf, kPar, kTpl, kSub, kAug, kEx, kNx, kBk, kCt, kFor, xCall, xAgs, xV, xBin, xUn, xIf, xTup, xLst, xIx, xCut, xRv, revD, xPt, xAnd, xOr, tAn, tOrr, tNt, tC1, tCC, tX, xT, xBi, xIsi, xMut, xMet, xGet, xDic, xPs, xFst, xFs, xOs, xS, xC, rdO, rdOs, idxD, atI, binD, addD, subD, mulD, divD, modD, unD, truthD, resD, newB, arr, pickS, nodupB, slotsOf, ownAll, xVs, outI, afterIo, putBack, biD, lenB, lenD, absB, intB, cmpD, eqD_int, eqD_str, eqD_bool, ltD_int, PySem.W.dataLt_int, isD, isNoneD, g1, gN', setsD, seqD, frz, mutD, setIx, appM, popM, extM, revM, xRng, xZp, xLz, xLr, xSum, kNo, xIt, itemsD, augD, tTr, xLc, xLcL, frzs, wipeE, backE, ep, r12, e, t1, t2, en1]
end K09


open PySem PySem.W PyProof.Rows in
set_option maxRecDepth 100000 in
set_option maxHeartbeats 0 in
theorem PySem.Challenge.cw_pairfolds_k09_brackets_read_holds : PySem.Challenge.rw_pairfolds_k09_brackets_read.Holds := by
  w_on; o_law; k_head; (case hw => w_witness2)
  k_fill
  refine Pf.walk_end (l := PySem.Challenge.rw_pairfolds_k09_brackets_read) (n := 63) (k := K09.depth) (x := "_law_script") (D := K09.D) (G := K09.G0) (e := K09.e11) (wf := K09.wf) (fuel := K09.fuel) rfl (by decide) rfl ⟨rfl, by decide, by decide⟩ (fun w h Y => PySem.W.kIn_of Y) ?T (by simp [K09.D]) rfl rfl rfl List.mem_cons_self K09.law
  case T =>
    intro w mg fa h KX G hmg
    refine' K09.all_mk KX G ?a0 ?l0 ?c0 ?q0 ?a1 ?l1 ?c1 ?q1 ?a2 ?l2 ?c2 ?q2 ?a3 ?l3 ?c3 ?q3 ?a4 ?l4 ?c4 ?q4 ?a5 ?l5 ?c5 ?q5 ?a6 ?l6 ?c6 ?q6 ?a7 ?l7 ?c7 ?q7 ?a8 ?l8 ?c8 ?q8 ?a9 ?l9 ?c9 ?q9 ?a10 ?l10 ?c10 ?q10 ?a11 ?l11 ?c11 ?q11 ?z_len ?z_abs ?z_int ?z_repr ?z_str ?z_tuple ?z_list ?z_sum ?z_max ?z_min ?z_any ?z_all ?z_dict ?z_sorted ?z_range ?z_isinstance ?z_bool ?z_zip ?z_enumerate ?z_set ?z_reversed ?glo0 ?glo1 ?glo2
    (case a0 => k_is)
    (case l0 => k_is)
    (case c0 => k_is)
    (case q0 => k_is)
    (case a1 => k_is)
    (case l1 => k_is)
    (case c1 => k_is)
    (case q1 => k_is)
    (case a2 => k_is)
    (case l2 => k_is)
    (case c2 => k_is)
    (case q2 => k_is)
    (case a3 => k_is)
    (case l3 => k_is)
    (case c3 => k_is)
    (case q3 => k_is)
    (case a4 => k_is)
    (case l4 => k_is)
    (case c4 => k_is)
    (case q4 => k_is)
    (case a5 => k_is)
    (case l5 => k_is)
    (case c5 => k_is)
    (case q5 => k_is)
    (case a6 => k_is)
    (case l6 => k_is)
    (case c6 => k_is)
    (case q6 => k_is)
    (case a7 => k_is)
    (case l7 => k_is)
    (case c7 => k_is)
    (case q7 => k_is)
    (case a8 => k_is)
    (case l8 => k_is)
    (case c8 => k_is)
    (case q8 => k_is)
    (case a9 => k_is)
    (case l9 => k_is)
    (case c9 => k_is)
    (case q9 => k_is)
    (case a10 => k_is)
    (case l10 => k_is)
    (case c10 => k_is)
    (case q10 => k_is)
    (case a11 => k_is)
    (case l11 => k_is)
    (case c11 => k_is)
    (case q11 => k_is)
    (case z_len => k_is)
    (case z_abs => k_is)
    (case z_int => k_is)
    (case z_repr => k_is)
    (case z_str => k_is)
    (case z_tuple => k_is)
    (case z_list => k_is)
    (case z_sum => k_is)
    (case z_max => k_is)
    (case z_min => k_is)
    (case z_any => k_is)
    (case z_all => k_is)
    (case z_dict => k_is)
    (case z_sorted => k_is)
    (case z_range => k_is)
    (case z_isinstance => k_is)
    (case z_bool => k_is)
    (case z_zip => k_is)
    (case z_enumerate => k_is)
    (case z_set => k_is)
    (case z_reversed => k_is)
    (case glo0 => k_is)
    (case glo1 => k_is)
    (case glo2 => k_is)

