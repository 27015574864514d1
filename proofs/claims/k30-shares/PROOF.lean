import PyProof.Rows.All
import Wide.All
import OpenK.AllK
import Wide.FinOn
import HandS.Base
import HandS.Call
import HandS.List
import HandS.Comp
import HandS.Words
import HandS.Text
import HandS.TupLe
import HandS.TupAny
import HandS.TupMul
import HandS.Wide
import HandS.Deep
import KE.DataEq
import KE.DataCmp
import KE.SortData
import HandS.Ends
import HandS.Defaults
import HandS.Flow
import HandS.Iter
import HandS.Walk
import HandS.IsInst
import PyProof.ReprRoads
import HandS.NoneIn
import PySem.Challenge.RW_pairfolds_k30_shares_reckoned
set_option Elab.async false
set_option linter.all false
set_option autoImplicit false
set_option maxRecDepth 100000
set_option maxHeartbeats 0
namespace Pf
open PySem PySem.Spec L2

/-- a locked thing, without the lock -/
def und : HO → HO
  | .frz _ u => und u
  | u => u
def dicty : HO → Bool
  | .dK _ => true
  | .dT _ => true
  | _ => false
/-- it is the same, but that a dict may be locked or let loose -/
def Lk (o u : HO) : Prop := u = o ∨ (dicty (und o) = true ∧ und u = und o)
theorem Lk.refl (o : HO) : Lk o o := .inl rfl
theorem Lk.trans {o u v : HO} (x : Lk o u) (y : Lk u v) : Lk o v := by
  rcases x with rfl | ⟨x1, x2⟩
  · exact y
  · rcases y with rfl | ⟨y1, y2⟩
    · exact .inr ⟨x1, x2⟩
    · exact .inr ⟨x1, y2.trans x2⟩
theorem Lk.und {o u : HO} (x : Lk o u) : Pf.und u = Pf.und o := by
  rcases x with rfl | ⟨_, x2⟩
  · rfl
  · exact x2
theorem Lk.lst {xs : List V} {u : HO} (x : Lk (.lst xs) u) : u = .lst xs := by
  rcases x with rfl | ⟨x1, x2⟩
  · rfl
  · cases x1
theorem Lk.tup {xs : List V} {u : HO} (x : Lk (.tup xs) u) : u = .tup xs := by
  rcases x with rfl | ⟨x1, x2⟩
  · rfl
  · cases x1
/-- heap kept off U -/
def Pre (U : Addr → Prop) (H H' : Hp) : Prop := ∀ a o, H a = some o → ¬ U a → ∃ u, H' a = some u ∧ Lk o u
theorem Pre.refl (U : Addr → Prop) (H : Hp) : Pre U H H := fun _ o e _ => ⟨o, e, .refl o⟩
theorem Pre.trans {U : Addr → Prop} {H H1 H2 : Hp} (x : Pre U H H1) (y : Pre U H1 H2) : Pre U H H2 := fun a o e n => by
  obtain ⟨u, e1, l1⟩ := x a o e n
  obtain ⟨v, e2, l2⟩ := y a u e1 n
  exact ⟨v, e2, l1.trans l2⟩
theorem Pre.mono {U U' : Addr → Prop} {H H' : Hp} (x : Pre U H H') (h : ∀ a, U a → U' a) : Pre U' H H' := fun a o e n => x a o e fun z => n (h a z)
theorem Pre.same {U : Addr → Prop} {H H' : Hp} (x : Same H H') : Pre U H H' := fun a o e _ => ⟨o, x a o e, .refl o⟩
theorem same_upd {H : Hp} {p : Addr} {o : HO} (h : H p = none) : Same H (upd H p o) := fun b u e => by
  rw [upd_ne (ne_of_none e h)]; exact e

abbrev H00 : Hp := fun _ => none
def LstU (K : PySem.W.Frag) (H : Hp) (U : Addr → Prop) (a : Addr) (xs : List V) : Prop := H a = some (.lst xs) ∧ ¬ U a
def TupU (K : PySem.W.Frag) (H : Hp) (U : Addr → Prop) (a : Addr) (xs : List V) : Prop := (H a = some (.tup xs) ∧ ¬ U a) ∨ SqT K H00 a xs
def DicU (H : Hp) (U : Addr → Prop) (a : Addr) (o : HO) : Prop := (∃ u, H a = some u ∧ und u = o) ∧ ¬ U a
theorem rd_none {a : Addr} {u : HO} (h : Rd H00 a u) : False := by
  rcases h with h | ⟨_, h⟩ <;> cases h
theorem LstU.sq {K : PySem.W.Frag} {H : Hp} {U : Addr → Prop} {a : Addr} {xs : List V} (h : LstU K H U a xs) : SqL K H a xs := SqL.of h.1
theorem TupU.sq {K : PySem.W.Frag} {H : Hp} {U : Addr → Prop} {a : Addr} {xs : List V} (h : TupU K H U a xs) : SqT K H a xs := by
  rcases h with h | h | h
  · exact SqT.of h.1
  · exact (rd_none h).elim
  · exact .inr h
theorem LstU.pre {K : PySem.W.Frag} {H H' : Hp} {U : Addr → Prop} {a : Addr} {xs : List V} (h : LstU K H U a xs) (p : Pre U H H') : LstU K H' U a xs := by
  obtain ⟨u, e, l⟩ := p _ _ h.1 h.2
  exact ⟨by rw [e, l.lst], h.2⟩
theorem TupU.pre {K : PySem.W.Frag} {H H' : Hp} {U : Addr → Prop} {a : Addr} {xs : List V} (h : TupU K H U a xs) (p : Pre U H H') : TupU K H' U a xs := by
  rcases h with h | h
  · obtain ⟨u, e, l⟩ := p _ _ h.1 h.2
    exact .inl ⟨by rw [e, l.tup], h.2⟩
  · exact .inr h
theorem DicU.pre {H H' : Hp} {U : Addr → Prop} {a : Addr} {o : HO} (h : DicU H U a o) (p : Pre U H H') : DicU H' U a o := by
  obtain ⟨⟨u, e, z⟩, n⟩ := h
  obtain ⟨v, e, l⟩ := p _ _ e n
  exact ⟨⟨v, e, l.und.trans z⟩, n⟩
theorem LstU.mono {K : PySem.W.Frag} {H : Hp} {U U' : Addr → Prop} {a : Addr} {xs : List V} (h : LstU K H U a xs) (u : ∀ a, U' a → U a) : LstU K H U' a xs := ⟨h.1, fun z => h.2 (u _ z)⟩
theorem TupU.mono {K : PySem.W.Frag} {H : Hp} {U U' : Addr → Prop} {a : Addr} {xs : List V} (h : TupU K H U a xs) (u : ∀ a, U' a → U a) : TupU K H U' a xs := by
  rcases h with ⟨h, n⟩ | h
  · exact .inl ⟨h, fun z => n (u _ z)⟩
  · exact .inr h
theorem DicU.mono {H : Hp} {U U' : Addr → Prop} {a : Addr} {o : HO} (h : DicU H U a o) (u : ∀ a, U' a → U a) : DicU H U' a o := ⟨h.1, fun z => h.2 (u _ z)⟩

/-! ### keys of dicts as data -/
def keyD : Key → PyData
  | .inl i => .int i
  | .inr x => .str x
def keysD (k : List Key) : PyData := .tuple (k.map keyD)

/-- the script's list: read alone, of whatever owner -/
def scrD (ds : List PyData) : PyData := .dict [(.none, .list ds)]
mutual
inductive Rep (K : PySem.W.Frag) (H : Hp) (U : Addr → Prop) : V → PyData → Prop
  | non : Rep K H U .non .none
  | bl (b : Bool) : Rep K H U (.bl b) (.bool b)
  | int (i : Int) : Rep K H U (.int i) (.int i)
  | str (x : Str) : Rep K H U (.str x) (.str x)
  | lst {a : Addr} {xs : List V} {ds : List PyData} : LstU K H U a xs → RepAll K H U xs ds → Rep K H U (.ref a) (.list ds)
  | tup {a : Addr} {xs : List V} {ds : List PyData} : TupU K H U a xs → RepAll K H U xs ds → Rep K H U (.ref a) (.tuple ds)
  | dK {a : Addr} {ks : List Key} {vs : List V} {ds : List PyData} : ks.length = vs.length → DicU H U a (.dK (ks.zip vs)) → RepAll K H U vs ds → Rep K H U (.ref a) (.dict ((ks.map keyD).zip ds))
  | dT {a : Addr} {ks : List (List Key)} {vs : List V} {ds : List PyData} : ks.length = vs.length → DicU H U a (.dT (ks.zip vs)) → RepAll K H U vs ds → Rep K H U (.ref a) (.dict ((ks.map keysD).zip ds))
  | scr {a : Addr} {o : Obj} {ns : List Int} : (H a = some (.frz o (.lst (ns.map V.int))) ∧ ¬ U a) ∨ SqL K H00 a (ns.map V.int) → Rep K H U (.ref a) (scrD (ns.map .int))
inductive RepAll (K : PySem.W.Frag) (H : Hp) (U : Addr → Prop) : List V → List PyData → Prop
  | nil : RepAll K H U [] []
  | cons {v : V} {vs : List V} {d : PyData} {ds : List PyData} : Rep K H U v d → RepAll K H U vs ds → RepAll K H U (v :: vs) (d :: ds)
end
section
variable {K : PySem.W.Frag} {H H' : Hp} {U U' : Addr → Prop}
theorem scr_pre {a : Addr} {o : Obj} {ns : List Int} (h : (H a = some (.frz o (.lst (ns.map V.int))) ∧ ¬ U a) ∨ SqL K H00 a (ns.map V.int)) (p : Pre U H H') : (H' a = some (.frz o (.lst (ns.map V.int))) ∧ ¬ U a) ∨ SqL K H00 a (ns.map V.int) := by
  rcases h with ⟨h, n⟩ | h
  · obtain ⟨u, e, l⟩ := p _ _ h n
    rcases l with rfl | ⟨l, _⟩
    · exact .inl ⟨e, n⟩
    · cases l
  · exact .inr h
mutual
theorem Rep.pre (p : Pre U H H') : ∀ {v : V} {d : PyData}, Rep K H U v d → Rep K H' U v d
  | _, _, .non => .non
  | _, _, .bl b => .bl b
  | _, _, .int b => .int b
  | _, _, .str b => .str b
  | _, _, .lst h r => .lst (h.pre p) (RepAll.pre p r)
  | _, _, .tup h r => .tup (h.pre p) (RepAll.pre p r)
  | _, _, .dK l h r => .dK l (h.pre p) (RepAll.pre p r)
  | _, _, .dT l h r => .dT l (h.pre p) (RepAll.pre p r)
  | _, _, .scr h => .scr (scr_pre h p)
theorem RepAll.pre (p : Pre U H H') : ∀ {v : List V} {d : List PyData}, RepAll K H U v d → RepAll K H' U v d
  | _, _, .nil => .nil
  | _, _, .cons h r => .cons (Rep.pre p h) (RepAll.pre p r)
end
mutual
theorem Rep.mono (u : ∀ a, U' a → U a) : ∀ {v : V} {d : PyData}, Rep K H U v d → Rep K H U' v d
  | _, _, .non => .non
  | _, _, .bl b => .bl b
  | _, _, .int b => .int b
  | _, _, .str b => .str b
  | _, _, .lst h r => .lst (h.mono u) (RepAll.mono u r)
  | _, _, .tup h r => .tup (h.mono u) (RepAll.mono u r)
  | _, _, .dK l h r => .dK l (h.mono u) (RepAll.mono u r)
  | _, _, .dT l h r => .dT l (h.mono u) (RepAll.mono u r)
  | _, _, .scr h => .scr (h.elim (fun q => .inl ⟨q.1, fun z => q.2 (u _ z)⟩) .inr)
theorem RepAll.mono (u : ∀ a, U' a → U a) : ∀ {v : List V} {d : List PyData}, RepAll K H U v d → RepAll K H U' v d
  | _, _, .nil => .nil
  | _, _, .cons h r => .cons (Rep.mono u h) (RepAll.mono u r)
end
/-- nothing lies at an address that the heap does not know -/
theorem off_ne {a q : Addr} {u : HO} (h : H a = some u) (n : ¬ U a) (hq : H q = none) : ¬ (U a ∨ a = q) := by
  rintro (z | z)
  · exact n z
  · subst z
    rw [hq] at h; cases h
theorem LstU.off {a q : Addr} {xs : List V} (h : LstU K H U a xs) (hq : H q = none) : LstU K H (fun b => U b ∨ b = q) a xs := ⟨h.1, off_ne h.1 h.2 hq⟩
theorem TupU.off {a q : Addr} {xs : List V} (h : TupU K H U a xs) (hq : H q = none) : TupU K H (fun b => U b ∨ b = q) a xs := by
  rcases h with ⟨h, n⟩ | h
  · exact .inl ⟨h, off_ne h n hq⟩
  · exact .inr h
theorem DicU.off {a q : Addr} {o : HO} (h : DicU H U a o) (hq : H q = none) : DicU H (fun b => U b ∨ b = q) a o := by
  obtain ⟨⟨u, e, z⟩, n⟩ := h
  exact ⟨⟨u, e, z⟩, off_ne e n hq⟩
mutual
theorem Rep.off {q : Addr} (hq : H q = none) : ∀ {v : V} {d : PyData}, Rep K H U v d → Rep K H (fun b => U b ∨ b = q) v d
  | _, _, .non => .non
  | _, _, .bl b => .bl b
  | _, _, .int b => .int b
  | _, _, .str b => .str b
  | _, _, .lst h r => .lst (h.off hq) (RepAll.off hq r)
  | _, _, .tup h r => .tup (h.off hq) (RepAll.off hq r)
  | _, _, .dK l h r => .dK l (h.off hq) (RepAll.off hq r)
  | _, _, .dT l h r => .dT l (h.off hq) (RepAll.off hq r)
  | _, _, .scr h => .scr (h.elim (fun q => .inl ⟨q.1, off_ne q.1 q.2 hq⟩) .inr)
theorem RepAll.off {q : Addr} (hq : H q = none) : ∀ {v : List V} {d : List PyData}, RepAll K H U v d → RepAll K H (fun b => U b ∨ b = q) v d
  | _, _, .nil => .nil
  | _, _, .cons h r => .cons (Rep.off hq h) (RepAll.off hq r)
end
theorem LstU.offs {a : Addr} {xs : List V} (h : LstU K H U a xs) : LstU K H (fun b => U b ∨ H b = none) a xs := ⟨h.1, fun z => z.elim h.2 fun z => by rw [h.1] at z; cases z⟩
theorem TupU.offs {a : Addr} {xs : List V} (h : TupU K H U a xs) : TupU K H (fun b => U b ∨ H b = none) a xs := by
  rcases h with ⟨h, n⟩ | h
  · exact .inl ⟨h, fun z => z.elim n fun z => by rw [h] at z; cases z⟩
  · exact .inr h
theorem DicU.offs {a : Addr} {o : HO} (h : DicU H U a o) : DicU H (fun b => U b ∨ H b = none) a o := by
  obtain ⟨⟨u, e, z⟩, n⟩ := h
  exact ⟨⟨u, e, z⟩, fun w => w.elim n fun w => by rw [e] at w; cases w⟩
mutual
theorem Rep.offs : ∀ {v : V} {d : PyData}, Rep K H U v d → Rep K H (fun b => U b ∨ H b = none) v d
  | _, _, .non => .non
  | _, _, .bl b => .bl b
  | _, _, .int b => .int b
  | _, _, .str b => .str b
  | _, _, .lst h r => .lst h.offs (RepAll.offs r)
  | _, _, .tup h r => .tup h.offs (RepAll.offs r)
  | _, _, .dK l h r => .dK l h.offs (RepAll.offs r)
  | _, _, .dT l h r => .dT l h.offs (RepAll.offs r)
  | _, _, .scr h => .scr (h.elim (fun q => .inl ⟨q.1, fun z => z.elim q.2 fun z => by rw [q.1] at z; cases z⟩) .inr)
theorem RepAll.offs : ∀ {v : List V} {d : List PyData}, RepAll K H U v d → RepAll K H (fun b => U b ∨ H b = none) v d
  | _, _, .nil => .nil
  | _, _, .cons h r => .cons (Rep.offs h) (RepAll.offs r)
end
theorem RepAll.length : ∀ {v : List V} {d : List PyData}, RepAll K H U v d → v.length = d.length
  | _, _, .nil => rfl
  | _, _, .cons _ r => by simp [RepAll.length r]
theorem RepAll.get : ∀ {vs : List V} {ds : List PyData} {i : Nat} {d : PyData}, RepAll K H U vs ds → ds[i]? = some d → ∃ v, vs[i]? = some v ∧ Rep K H U v d
  | _, _, _, _, .nil, e => by simp at e
  | _, _, 0, _, .cons r _, e => by simp at e; subst e; exact ⟨_, rfl, r⟩
  | _, _, i + 1, d, .cons _ t, e => by
    obtain ⟨v, h1, h2⟩ := RepAll.get (i := i) t (by simpa using e)
    exact ⟨v, by simpa using h1, h2⟩
theorem RepAll.get' : ∀ {vs : List V} {ds : List PyData} {i : Nat} {v : V}, RepAll K H U vs ds → vs[i]? = some v → ∃ d, ds[i]? = some d ∧ Rep K H U v d
  | _, _, _, _, .nil, e => by simp at e
  | _, _, 0, _, .cons r _, e => by simp at e; subst e; exact ⟨_, rfl, r⟩
  | _, _, i + 1, d, .cons _ t, e => by
    obtain ⟨v, h1, h2⟩ := RepAll.get' (i := i) t (by simpa using e)
    exact ⟨v, by simpa using h1, h2⟩
theorem RepAll.append : ∀ {vs ws : List V} {ds es : List PyData}, RepAll K H U vs ds → RepAll K H U ws es → RepAll K H U (vs ++ ws) (ds ++ es)
  | _, _, _, _, .nil, s => s
  | _, _, _, _, .cons r t, s => .cons r (RepAll.append t s)
theorem RepAll.set {v : V} {d : PyData} (r : Rep K H U v d) : ∀ {vs : List V} {ds : List PyData} (i : Nat), RepAll K H U vs ds → RepAll K H U (vs.set i v) (ds.set i d)
  | _, _, _, .nil => .nil
  | _, _, 0, .cons _ t => .cons r t
  | _, _, i + 1, .cons q t => .cons q (RepAll.set r i t)
theorem RepAll.take : ∀ {vs : List V} {ds : List PyData} (n : Nat), RepAll K H U vs ds → RepAll K H U (vs.take n) (ds.take n)
  | _, _, 0, _ => .nil
  | _, _, _ + 1, .nil => .nil
  | _, _, n + 1, .cons r t => .cons r (RepAll.take n t)
theorem RepAll.drop : ∀ {vs : List V} {ds : List PyData} (n : Nat), RepAll K H U vs ds → RepAll K H U (vs.drop n) (ds.drop n)
  | _, _, 0, r => r
  | _, _, _ + 1, .nil => .nil
  | _, _, n + 1, .cons _ t => RepAll.drop n t
theorem RepAll.reverse : ∀ {vs : List V} {ds : List PyData}, RepAll K H U vs ds → RepAll K H U vs.reverse ds.reverse
  | _, _, .nil => .nil
  | _, _, .cons r t => by
    rw [List.reverse_cons, List.reverse_cons]
    exact RepAll.append (RepAll.reverse t) (.cons r .nil)
/-! the kinds by their values -/
theorem Rep.int_inv {v : V} {i : Int} (h : Rep K H U v (.int i)) : v = .int i := by cases h; rfl
theorem Rep.bl_inv {v : V} {i : Bool} (h : Rep K H U v (.bool i)) : v = .bl i := by cases h; rfl
theorem Rep.str_inv {v : V} {i : Str} (h : Rep K H U v (.str i)) : v = .str i := by cases h; rfl
theorem Rep.non_inv {v : V} (h : Rep K H U v .none) : v = .non := by cases h; rfl
theorem Rep.lst_inv {v : V} {ds : List PyData} (h : Rep K H U v (.list ds)) : ∃ a xs, v = .ref a ∧ LstU K H U a xs ∧ RepAll K H U xs ds := by
  cases h with
  | lst h r => exact ⟨_, _, rfl, h, r⟩
theorem Rep.tup_inv {v : V} {ds : List PyData} (h : Rep K H U v (.tuple ds)) : ∃ a xs, v = .ref a ∧ TupU K H U a xs ∧ RepAll K H U xs ds := by
  cases h with
  | tup h r => exact ⟨_, _, rfl, h, r⟩
/-! data without dicts, for == and the like -/
mutual
def noDict : PyData → Bool
  | .dict _ => false
  | .list xs => noDicts xs
  | .tuple xs => noDicts xs
  | _ => true
def noDicts : List PyData → Bool
  | [] => true
  | x :: xs => noDict x && noDicts xs
end
mutual
theorem Rep.dp : ∀ {v : V} {d : PyData}, Rep K H U v d → noDict d = true → Dp K H v d
  | _, _, .non, _ => .non
  | _, _, .bl b, _ => .bl b
  | _, _, .int b, _ => .int b
  | _, _, .str b, _ => .str b
  | _, _, .lst h r, e => .lst h.sq (RepAll.dp r (by simpa [noDict] using e))
  | _, _, .tup h r, e => .tup h.sq (RepAll.dp r (by simpa [noDict] using e))
  | _, _, .dK _ _ _, e => by simp [noDict] at e
  | _, _, .dT _ _ _, e => by simp [noDict] at e
  | _, _, .scr _, e => by simp [noDict, scrD] at e
theorem RepAll.dp : ∀ {v : List V} {d : List PyData}, RepAll K H U v d → noDicts d = true → DpAll K H v d
  | _, _, .nil, _ => .nil
  | _, _, .cons h r, e => by
    simp only [noDicts, Bool.and_eq_true] at e
    exact .cons (Rep.dp h e.1) (RepAll.dp r e.2)
end
end
end Pf


namespace Pf
open PySem PySem.Spec L2

/-- what a name holds: whether the container is its own, and the datum -/
abbrev En := List (Option (Bool × PyData))
structure Bs where
  H0 : Hp
  io : Addr → Prop
def OwnA (ρ : En) (σ : St) (a : Addr) : Prop := ∃ (i : Nat) (d : PyData), ρ[i]? = some (some (true, d)) ∧ σ[i]? = some (some (V.ref a))
def UU (ρ : En) (σ : St) (Z : Addr → Prop) (a : Addr) : Prop := Z a ∨ OwnA ρ σ a
def ZP (Z : Addr → Prop) (p : Addr) : Addr → Prop := fun a => Z a ∨ a = p
/-- own ones grow fewer -/
def Shr (ρ ρ' : En) : Prop := ρ'.length = ρ.length ∧ ∀ (i : Nat) (d : PyData), ρ'[i]? = some (some (true, d)) → ∃ e : PyData, ρ[i]? = some (some (true, e))
theorem Shr.refl (ρ : En) : Shr ρ ρ := ⟨rfl, fun _ d h => ⟨d, h⟩⟩
theorem Shr.trans {ρ ρ1 ρ2 : En} (a : Shr ρ ρ1) (b : Shr ρ1 ρ2) : Shr ρ ρ2 := ⟨b.1.trans a.1, fun i d h => by
  obtain ⟨e, h1⟩ := b.2 i d h
  exact a.2 i e h1⟩

/-- a container that is written: what stands at p -/
inductive Cont (K : PySem.W.Frag) (H : Hp) (U : Addr → Prop) (p : Addr) : PyData → Prop
  | lst {vs : List V} {ds : List PyData} : H p = some (.lst vs) → RepAll K H U vs ds → Cont K H U p (.list ds)
  | dK {ks : List Key} {vs : List V} {ds : List PyData} : ks.length = vs.length → H p = some (.dK (ks.zip vs)) → RepAll K H U vs ds → Cont K H U p (.dict ((ks.map keyD).zip ds))
  | dT {ks : List (List Key)} {vs : List V} {ds : List PyData} : ks.length = vs.length → H p = some (.dT (ks.zip vs)) → RepAll K H U vs ds → Cont K H U p (.dict ((ks.map keysD).zip ds))
section
variable {K : PySem.W.Frag} {H H' : Hp} {U U' : Addr → Prop} {p : Addr} {d : PyData}
theorem Cont.there (c : Cont K H U p d) : H p ≠ none := by
  cases c with
  | lst h _ => rw [h]; exact fun z => by cases z
  | dK _ h _ => rw [h]; exact fun z => by cases z
  | dT _ h _ => rw [h]; exact fun z => by cases z
theorem Cont.rep (c : Cont K H U p d) (u : ∀ a, U' a → U a) (n : ¬ U' p) : Rep K H U' (.ref p) d := by
  cases c with
  | lst h r => exact .lst ⟨h, n⟩ (r.mono u)
  | dK l h r => exact .dK l ⟨⟨_, h, rfl⟩, n⟩ (r.mono u)
  | dT l h r => exact .dT l ⟨⟨_, h, rfl⟩, n⟩ (r.mono u)
theorem Cont.mono (c : Cont K H U p d) (u : ∀ a, U' a → U a) : Cont K H U' p d := by
  cases c with
  | lst h r => exact .lst h (r.mono u)
  | dK l h r => exact .dK l h (r.mono u)
  | dT l h r => exact .dT l h (r.mono u)
theorem Cont.pre (c : Cont K H U p d) (x : Pre U H H') (hp : ∀ o, H p = some o → H' p = some o) : Cont K H' U p d := by
  cases c with
  | lst h r => exact .lst (hp _ h) (r.pre x)
  | dK l h r => exact .dK l (hp _ h) (r.pre x)
  | dT l h r => exact .dT l (hp _ h) (r.pre x)
theorem Cont.off {q : Addr} (c : Cont K H U p d) (hq : H q = none) : Cont K H (fun b => U b ∨ b = q) p d := by
  cases c with
  | lst h r => exact .lst h (r.off hq)
  | dK l h r => exact .dK l h (r.off hq)
  | dT l h r => exact .dT l h (r.off hq)
end

/-- .. nor what the heap doesn't know -/
theorem Rep.offs_of {K : PySem.W.Frag} {H : Hp} {U : Addr → Prop} {v : V} {d : PyData} (r : Rep K H U v d) : Rep K H (fun a => U a ∨ H a = none) v d := r.offs
structure Stt (K : PySem.W.Frag) (P : List Bs) (Z : Addr → Prop) (ρ : En) (σ : St) (H : Hp) : Prop where
  len : ρ.length = σ.length
  sh : ∀ (i : Nat) (d : PyData), ρ[i]? = some (some (false, d)) → ∃ v, σ[i]? = some (some v) ∧ Rep K H (UU ρ σ Z) v d
  ow : ∀ (i : Nat) (d : PyData), ρ[i]? = some (some (true, d)) → ∃ p, σ[i]? = some (some (V.ref p)) ∧ Cont K H (UU ρ σ Z) p d ∧ ¬ Z p ∧ ∀ b ∈ P, b.io p ∨ b.H0 p = none
  dis : ∀ (i j : Nat) (d e : PyData) (p : Addr), ρ[i]? = some (some (true, d)) → ρ[j]? = some (some (true, e)) → σ[i]? = some (some (V.ref p)) → σ[j]? = some (some (V.ref p)) → i = j
  zd : ∀ a, Z a → H a ≠ none
  pre : ∀ b ∈ P, Pre b.io b.H0 H ∧ (∀ a, b.io a → H a ≠ none) ∧ ∀ a o, Z a → b.H0 a = some o → H a = some o
theorem same_none {H H' : Hp} (s : Same H H') {a : Addr} (h : H a ≠ none) : H' a ≠ none := by
  cases e : H a with
  | none => exact (h e).elim
  | some o => rw [s a o e]; intro z; cases z
theorem set_get {ρ : En} {i j : Nat} {w : Option (Bool × PyData)} {z : Bool × PyData} (h : (ρ.set i w)[j]? = some (some z)) : (i = j ∧ w = some z) ∨ (i ≠ j ∧ ρ[j]? = some (some z)) := by
  by_cases hj : i = j
  · subst hj
    by_cases hi : i < ρ.length
    · rw [List.getElem?_set_self hi] at h
      exact .inl ⟨rfl, Option.some.inj h⟩
    · rw [List.getElem?_eq_none (by simpa using hi)] at h; cases h
  · rw [List.getElem?_set_ne hj] at h
    exact .inr ⟨hj, h⟩
section
variable {K : PySem.W.Frag} {P : List Bs} {Z Z' : Addr → Prop} {ρ ρ' : En} {σ : St} {H H' : Hp}
theorem UU.shr (h : Shr ρ ρ') {a : Addr} (u : UU ρ' σ Z a) : UU ρ σ Z a := by
  rcases u with u | ⟨i, d, h1, h2⟩
  · exact .inl u
  · obtain ⟨e, h3⟩ := h.2 i d h1
    exact .inr ⟨i, e, h3, h2⟩
theorem UU.zm (z : ∀ a, Z' a → Z a) {a : Addr} (u : UU ρ σ Z' a) : UU ρ σ Z a := u.elim (fun q => .inl (z a q)) .inr
/-- the heap grows -/
theorem Stt.grow (x : Stt K P Z ρ σ H) (s : Same H H') : Stt K P Z ρ σ H' where
  len := x.len
  sh := fun i d e => by
    obtain ⟨v, h, r⟩ := x.sh i d e
    exact ⟨v, h, r.pre (Pre.same s)⟩
  ow := fun i d hi => by
    obtain ⟨p, h2, c, z, b⟩ := x.ow i d hi
    exact ⟨p, h2, c.pre (Pre.same s) (s p), z, b⟩
  dis := x.dis
  zd := fun a z => same_none s (x.zd a z)
  pre := fun b hb => ⟨(x.pre b hb).1.trans (Pre.same s), fun a z => same_none s ((x.pre b hb).2.1 a z), fun a o z e => s _ _ ((x.pre b hb).2.2 a o z e)⟩
theorem Stt.zmono (x : Stt K P Z ρ σ H) (h : ∀ a, Z' a → Z a) : Stt K P Z' ρ σ H where
  len := x.len
  sh := fun i d e => by
    obtain ⟨v, h1, r⟩ := x.sh i d e
    exact ⟨v, h1, r.mono fun a u => UU.zm h u⟩
  ow := fun i d hi => by
    obtain ⟨p, h2, c, z, b⟩ := x.ow i d hi
    exact ⟨p, h2, c.mono fun a u => UU.zm h u, fun q => z (h p q), b⟩
  dis := x.dis
  zd := fun a z => x.zd a (h a z)
  pre := fun b hb => ⟨(x.pre b hb).1, (x.pre b hb).2.1, fun a o z e => (x.pre b hb).2.2 a o (h a z) e⟩
/-- what was one's own is shared from here on -/
def frz (ρ : En) (i : Nat) : En := match ρ[i]? with
  | some (some (true, d)) => ρ.set i (some (false, d))
  | _ => ρ
theorem frz_shr (ρ : En) (i : Nat) : Shr ρ (frz ρ i) := by
  unfold frz
  split
  · refine ⟨by simp, fun j e h => ?_⟩
    rcases set_get h with ⟨_, q⟩ | ⟨_, q⟩
    · cases q
    · exact ⟨e, q⟩
  · exact .refl ρ
theorem frz_get {ρ : En} {i : Nat} {b : Bool} {d : PyData} (h : ρ[i]? = some (some (b, d))) : (frz ρ i)[i]? = some (some (false, d)) := by
  have hi : i < ρ.length := (List.getElem?_eq_some_iff.mp h).1
  unfold frz
  cases b with
  | true => rw [h]; exact List.getElem?_set_self hi
  | false => rw [h]; exact h
theorem Stt.frz (x : Stt K P Z ρ σ H) (i : Nat) : Stt K P Z (frz ρ i) σ H := by
  unfold Pf.frz
  split
  · rename_i d hi
    have shr : Shr ρ (ρ.set i (some (false, d))) := by
      have := frz_shr ρ i
      unfold Pf.frz at this
      rw [hi] at this
      exact this
    obtain ⟨p, h2, c, z, b⟩ := x.ow i d hi
    refine ⟨by simp [x.len], fun j e h => ?_, fun j e h => ?_, fun j k d1 d2 q h1 h2 h3 h4 => ?_, x.zd, x.pre⟩
    · rcases set_get h with ⟨rfl, q⟩ | ⟨_, q⟩
      · cases q
        refine ⟨_, h2, c.rep (fun a u => UU.shr shr u) fun u => ?_⟩
        rcases u with u | ⟨j, e, g1, g2⟩
        · exact z u
        · rcases set_get g1 with ⟨_, q⟩ | ⟨hn, q⟩
          · cases q
          · exact hn (x.dis i j _ _ p hi q h2 g2)
      · obtain ⟨v, g1, g2⟩ := x.sh j e q
        exact ⟨v, g1, g2.mono fun a u => UU.shr shr u⟩
    · rcases set_get h with ⟨_, q⟩ | ⟨_, q⟩
      · cases q
      · obtain ⟨p', g2, c', z', b'⟩ := x.ow j e q
        exact ⟨p', g2, c'.mono fun a u => UU.shr shr u, z', b'⟩
    · rcases set_get h1 with ⟨_, q⟩ | ⟨_, q1⟩
      · cases q
      · rcases set_get h2 with ⟨_, q⟩ | ⟨_, q2⟩
        · cases q
        · exact x.dis j k _ _ q q1 q2 h3 h4
  · exact x
theorem Stt.val (x : Stt K P Z ρ σ H) {i : Nat} {b : Bool} {d : PyData} (h : ρ[i]? = some (some (b, d))) : ∃ v, σ[i]? = some (some v) ∧ Stt K P Z (Pf.frz ρ i) σ H ∧ Rep K H (UU (Pf.frz ρ i) σ Z) v d := by
  have y := x.frz i
  obtain ⟨v, h1, h2⟩ := y.sh i d (frz_get h)
  exact ⟨v, h1, y, h2⟩
/-- a name is given a shared value -/
theorem Stt.setSh (x : Stt K P Z ρ σ H) {i : Nat} {d : PyData} {v : V} (r : Rep K H (UU ρ σ Z) v d) (hi : i < σ.length) : Stt K P Z (ρ.set i (some (false, d))) (σ.set i (some v)) H := by
  have sub : ∀ a, UU (ρ.set i (some (false, d))) (σ.set i (some v)) Z a → UU ρ σ Z a := fun a u => by
    rcases u with u | ⟨j, e, g1, g2⟩
    · exact .inl u
    · rcases set_get g1 with ⟨_, q⟩ | ⟨hn, q⟩
      · cases q
      · rw [List.getElem?_set_ne hn] at g2
        exact .inr ⟨j, e, q, g2⟩
  refine ⟨by simp [x.len], fun j e h => ?_, fun j e h => ?_, fun j k d1 d2 q h1 h2 h3 h4 => ?_, x.zd, x.pre⟩
  · rcases set_get h with ⟨rfl, q⟩ | ⟨hn, q⟩
    · cases q
      exact ⟨v, List.getElem?_set_self hi, r.mono sub⟩
    · obtain ⟨w, g1, g2⟩ := x.sh j e q
      exact ⟨w, by rw [List.getElem?_set_ne hn]; exact g1, g2.mono sub⟩
  · rcases set_get h with ⟨_, q⟩ | ⟨hn, q⟩
    · cases q
    · obtain ⟨p', g2, c', z', b'⟩ := x.ow j e q
      exact ⟨p', by rw [List.getElem?_set_ne hn]; exact g2, c'.mono sub, z', b'⟩
  · rcases set_get h1 with ⟨_, q⟩ | ⟨n1, q1⟩
    · cases q
    · rcases set_get h2 with ⟨_, q⟩ | ⟨n2, q2⟩
      · cases q
      · rw [List.getElem?_set_ne n1] at h3
        rw [List.getElem?_set_ne n2] at h4
        exact x.dis j k _ _ q q1 q2 h3 h4
/-- a name is given a new container -/
theorem Stt.setOwn {p : Addr} (x : Stt K P (ZP Z p) ρ σ H) {i : Nat} {d : PyData} (c : Cont K H (ZP (UU ρ σ Z) p) p d) (nz : ¬ Z p) (hb : ∀ b ∈ P, b.H0 p = none) (hi : i < σ.length) :
    Stt K P Z (ρ.set i (some (true, d))) (σ.set i (some (V.ref p))) H := by
  have sub : ∀ a, UU (ρ.set i (some (true, d))) (σ.set i (some (V.ref p))) Z a → UU ρ σ (ZP Z p) a := fun a u => by
    rcases u with u | ⟨j, e, g1, g2⟩
    · exact .inl (.inl u)
    · rcases set_get g1 with ⟨rfl, q⟩ | ⟨hn, q⟩
      · rw [List.getElem?_set_self hi] at g2
        cases g2
        exact .inl (.inr rfl)
      · rw [List.getElem?_set_ne hn] at g2
        exact .inr ⟨j, e, q, g2⟩
  have sub2 : ∀ a, UU ρ σ (ZP Z p) a → ZP (UU ρ σ Z) p a := fun a u => by
    rcases u with (u | u) | u
    · exact .inl (.inl u)
    · exact .inr u
    · exact .inl (.inr u)
  have other : ∀ {j : Nat} {e : PyData}, ρ[j]? = some (some (true, e)) → σ[j]? = some (some (V.ref p)) → False := fun {j e} h g => by
    obtain ⟨q, g2, _, z, _⟩ := x.ow j e h
    rw [g] at g2
    cases g2
    exact z (.inr rfl)
  refine ⟨by simp [x.len], fun j e h => ?_, fun j e h => ?_, fun j k d1 d2 q h1 h2 h3 h4 => ?_, fun a z => x.zd a (.inl z), fun b hb => ⟨(x.pre b hb).1, (x.pre b hb).2.1, fun a o z e => (x.pre b hb).2.2 a o (.inl z) e⟩⟩
  · rcases set_get h with ⟨_, q⟩ | ⟨hn, q⟩
    · cases q
    · obtain ⟨w, g1, g2⟩ := x.sh j e q
      exact ⟨w, by rw [List.getElem?_set_ne hn]; exact g1, g2.mono sub⟩
  · rcases set_get h with ⟨rfl, q⟩ | ⟨hn, q⟩
    · cases q
      exact ⟨p, List.getElem?_set_self hi, c.mono fun a u => sub2 a (sub a u), nz, fun b h => .inr (hb b h)⟩
    · obtain ⟨p', g2, c', z', b'⟩ := x.ow j e q
      exact ⟨p', by rw [List.getElem?_set_ne hn]; exact g2, c'.mono sub, fun w => z' (.inl w), b'⟩
  · rcases set_get h1 with ⟨rfl, _⟩ | ⟨n1, q1⟩
    · rw [List.getElem?_set_self hi] at h3
      cases h3
      rcases set_get h2 with ⟨rfl, _⟩ | ⟨n2, q2⟩
      · rfl
      · rw [List.getElem?_set_ne n2] at h4
        exact (other q2 h4).elim
    · rw [List.getElem?_set_ne n1] at h3
      rcases set_get h2 with ⟨rfl, _⟩ | ⟨n2, q2⟩
      · rw [List.getElem?_set_self hi] at h4
        cases h4
        exact (other q1 h3).elim
      · rw [List.getElem?_set_ne n2] at h4
        exact x.dis j k _ _ q q1 q2 h3 h4
theorem own_set {i : Nat} {d e : PyData} {p : Addr} (h : ρ[i]? = some (some (true, d))) (a : Addr) : OwnA (ρ.set i (some (true, e))) σ a ↔ OwnA ρ σ a := by
  have hi : i < ρ.length := (List.getElem?_eq_some_iff.mp h).1
  constructor
  · rintro ⟨j, f, g1, g2⟩
    rcases set_get g1 with ⟨rfl, _⟩ | ⟨_, q⟩
    · exact ⟨i, d, h, g2⟩
    · exact ⟨j, f, q, g2⟩
  · rintro ⟨j, f, g1, g2⟩
    by_cases hj : i = j
    · subst hj
      exact ⟨i, e, List.getElem?_set_self hi, g2⟩
    · exact ⟨j, f, by rw [List.getElem?_set_ne hj]; exact g1, g2⟩
theorem uu_set {i : Nat} {d e : PyData} (h : ρ[i]? = some (some (true, d))) (a : Addr) : UU (ρ.set i (some (true, e))) σ Z a ↔ UU ρ σ Z a := by
  unfold UU
  rw [own_set (p := 0) h]
/-- one's own container is written -/
theorem Stt.mut (x : Stt K P Z ρ σ H) {i : Nat} {p : Addr} {o : HO} {d0 d : PyData} (hi : ρ[i]? = some (some (true, d0))) (e : σ[i]? = some (some (V.ref p))) (c : Cont K (upd H p o) (UU ρ σ Z) p d) : Stt K P Z (ρ.set i (some (true, d))) σ (upd H p o) := by
  have up : UU ρ σ Z p := .inr ⟨i, d0, hi, e⟩
  have keep : Pre (UU ρ σ Z) H (upd H p o) := fun a u h n => by
    have : a ≠ p := fun z => n (z ▸ up)
    exact ⟨u, by rw [upd_ne this]; exact h, .refl u⟩
  have nn : ∀ a, H a ≠ none → upd H p o a ≠ none := fun a h => by
    by_cases z : a = p
    · subst z; rw [upd_same]; intro q; cases q
    · rw [upd_ne z]; exact h
  obtain ⟨p0, g2, c0, z0, b0⟩ := x.ow i d0 hi
  have hil : i < ρ.length := (List.getElem?_eq_some_iff.mp hi).1
  rw [e] at g2
  cases g2
  have sub : ∀ a, UU (ρ.set i (some (true, d))) σ Z a → UU ρ σ Z a := fun a u => (uu_set hi a).mp u
  refine ⟨by simp [x.len], fun j e' h => ?_, fun j e' h => ?_, fun j k d1 d2 q h1 h2 h3 h4 => ?_, fun a z => nn a (x.zd a z), fun b hb => ⟨fun a u h n => ?_, fun a z => nn a ((x.pre b hb).2.1 a z), fun a u z h => by
    have hap : a ≠ p := fun w => by subst w; exact z0 z
    rw [upd_ne hap]; exact (x.pre b hb).2.2 a u z h⟩⟩
  · rcases set_get h with ⟨_, q⟩ | ⟨hn, q⟩
    · cases q
    · obtain ⟨w, h1, h2⟩ := x.sh j e' q
      exact ⟨w, h1, (h2.pre keep).mono sub⟩
  · rcases set_get h with ⟨rfl, q⟩ | ⟨hn, q⟩
    · cases q
      exact ⟨p, e, c.mono sub, z0, b0⟩
    · obtain ⟨p', e2, c', z, b⟩ := x.ow j e' q
      refine ⟨p', e2, (c'.pre keep fun u h => ?_).mono sub, z, b⟩
      have : p' ≠ p := fun w => hn (x.dis i j _ _ p hi q e (w ▸ e2))
      rw [upd_ne this]; exact h
  · have g1 : ∃ f, ρ[j]? = some (some (true, f)) := by
      rcases set_get h1 with ⟨rfl, _⟩ | ⟨_, q⟩
      · exact ⟨_, hi⟩
      · exact ⟨_, q⟩
    have g2 : ∃ f, ρ[k]? = some (some (true, f)) := by
      rcases set_get h2 with ⟨rfl, _⟩ | ⟨_, q⟩
      · exact ⟨_, hi⟩
      · exact ⟨_, q⟩
    obtain ⟨f1, g1⟩ := g1
    obtain ⟨f2, g2⟩ := g2
    exact x.dis j k _ _ q g1 g2 h3 h4
  · obtain ⟨v, h1, l⟩ := (x.pre b hb).1 a u h n
    have hap : a ≠ p := fun w => by
      subst w
      rcases b0 b hb with w | w
      · exact n w
      · rw [h] at w; cases w
    exact ⟨v, by rw [upd_ne hap]; exact h1, l⟩
/-- the state now, as a base -/
theorem Stt.push (x : Stt K P Z ρ σ H) : Stt K (⟨H, OwnA ρ σ⟩ :: P) Z ρ σ H := by
  refine ⟨x.len, x.sh, fun i d hi => ?_, x.dis, x.zd, fun b hb => ?_⟩
  · obtain ⟨p, h2, c, z, b⟩ := x.ow i d hi
    refine ⟨p, h2, c, z, fun b' hb => ?_⟩
    rcases List.mem_cons.mp hb with rfl | hb
    · exact .inl ⟨i, d, hi, h2⟩
    · exact b b' hb
  · rcases List.mem_cons.mp hb with rfl | hb
    · refine ⟨Pre.refl _ _, fun a ⟨i, d, hi, e⟩ => ?_, fun a o _ e => e⟩
      obtain ⟨p, h2, c, z, b⟩ := x.ow i d hi
      rw [e] at h2
      cases h2
      exact c.there
    · exact x.pre b hb
theorem Stt.pop {b : Bs} (x : Stt K (b :: P) Z ρ σ H) : Stt K P Z ρ σ H :=
  ⟨x.len, x.sh, fun i d hi => let ⟨p, h2, c, z, g⟩ := x.ow i d hi; ⟨p, h2, c, z, fun b' hb => g b' (List.mem_cons_of_mem _ hb)⟩, x.dis, x.zd, fun b' hb => x.pre b' (List.mem_cons_of_mem _ hb)⟩
/-- an address that the heap doesn't know is no base's -/
theorem Stt.fresh (x : Stt K P Z ρ σ H) {p : Addr} (hp : H p = none) : (∀ b ∈ P, b.H0 p = none) ∧ ¬ Z p ∧ ¬ UU ρ σ Z p := by
  have nz : ¬ Z p := fun z => x.zd p z hp
  refine ⟨fun b hb => ?_, nz, fun u => ?_⟩
  · cases e : b.H0 p with
    | none => rfl
    | some o =>
      by_cases z : b.io p
      · exact ((x.pre b hb).2.1 p z hp).elim
      · obtain ⟨u, h, _⟩ := (x.pre b hb).1 p o e z
        rw [hp] at h; cases h
  · rcases u with u | ⟨i, d, hi, e⟩
    · exact nz u
    · obtain ⟨q, h2, c, _, _⟩ := x.ow i d hi
      rw [e] at h2
      cases h2
      exact c.there hp
/-- a new object: nothing lies there -/
theorem Stt.newZ (x : Stt K P Z ρ σ H) {p : Addr} {o : HO} (hp : H p = none) : Stt K P (ZP Z p) ρ σ (upd H p o) := by
  have s : Same H (upd H p o) := same_upd hp
  have y := x.grow s
  have sub : ∀ a, UU ρ σ (ZP Z p) a → (UU ρ σ Z a ∨ a = p) := fun a u => by
    rcases u with (u | u) | u
    · exact .inl (.inl u)
    · exact .inr u
    · exact .inl (.inr u)
  refine ⟨y.len, fun i d e => ?_, fun i d hi => ?_, y.dis, fun a z => ?_, fun b hb => ⟨(y.pre b hb).1, (y.pre b hb).2.1, fun a u z e => ?_⟩⟩
  · obtain ⟨v, h, r⟩ := x.sh i d e
    exact ⟨v, h, ((r.off hp).pre (Pre.same s)).mono sub⟩
  · obtain ⟨q, h2, c, z, b⟩ := x.ow i d hi
    have qp : q ≠ p := fun w => c.there (w ▸ hp)
    exact ⟨q, h2, ((c.off hp).pre (Pre.same s) fun o e => s _ _ e).mono sub, fun w => w.elim z qp, b⟩
  · rcases z with z | z
    · exact same_none s (x.zd a z)
    · subst z; rw [upd_same]; intro q; cases q
  · rcases z with z | z
    · exact (y.pre b hb).2.2 a u z e
    · subst z
      rw [(x.fresh hp).1 b hb] at e
      cases e
end

/-- a value as an expression leaves it: shared, or a new container -/
def Val (K : PySem.W.Frag) (P : List Bs) (Z : Addr → Prop) (ρ : En) (σ : St) : Bool → V → PyData → Hp → Prop
  | false, v, d, H => Stt K P Z ρ σ H ∧ Rep K H (UU ρ σ Z) v d
  | true, v, d, H => ∃ p, v = .ref p ∧ ¬ Z p ∧ Stt K P (ZP Z p) ρ σ H ∧ Cont K H (ZP (UU ρ σ Z) p) p d ∧ ∀ b ∈ P, b.H0 p = none
section
variable {K : PySem.W.Frag} {P : List Bs} {Z Z' : Addr → Prop} {ρ ρ' : En} {σ : St} {H H' : Hp}
theorem Val.share {b : Bool} {v : V} {d : PyData} (x : Val K P Z ρ σ b v d H) : Stt K P Z ρ σ H ∧ Rep K H (UU ρ σ Z) v d := by
  cases b with
  | false => exact x
  | true =>
    obtain ⟨p, rfl, nz, s, c, _⟩ := x
    refine ⟨s.zmono fun _ z => .inl z, c.rep (fun a u => .inl u) fun u => ?_⟩
    rcases u with u | ⟨i, e, hi, g⟩
    · exact nz u
    · obtain ⟨q, h2, _, z, _⟩ := s.ow i e hi
      rw [g] at h2
      cases h2
      exact z (.inr rfl)
theorem Val.newLst {p : Addr} {vs : List V} {ds : List PyData} (x : Stt K P Z ρ σ H) (hp : H p = none) (r : RepAll K H (UU ρ σ Z) vs ds) : Val K P Z ρ σ true (.ref p) (.list ds) (upd H p (.lst vs)) := by
  obtain ⟨f1, f2, f3⟩ := x.fresh hp
  exact ⟨p, rfl, f2, x.newZ hp, .lst upd_same ((r.off hp).pre (Pre.same (same_upd hp))), f1⟩
theorem Val.newTup {p : Addr} {vs : List V} {ds : List PyData} (x : Stt K P Z ρ σ H) (hp : H p = none) (r : RepAll K H (UU ρ σ Z) vs ds) : Val K P Z ρ σ false (.ref p) (.tuple ds) (upd H p (.tup vs)) := by
  obtain ⟨f1, f2, f3⟩ := x.fresh hp
  exact ⟨x.grow (same_upd hp), .tup (.inl ⟨upd_same, f3⟩) (r.pre (Pre.same (same_upd hp)))⟩
/-- what was reckoned earlier, behind what comes later -/
theorem later {v : V} {d : PyData} {ρ2 : En} {H2 : Hp} (r : Rep K H (UU ρ σ Z) v d) (x : Stt K (⟨H, OwnA ρ σ⟩ :: P) Z ρ2 σ H2) (sub : Shr ρ ρ2) : Rep K H2 (UU ρ2 σ Z) v d := by
  have p := (x.pre _ List.mem_cons_self).1
  exact (r.pre (p.mono fun a u => .inr u)).mono fun a u => UU.shr sub u
theorem laterAll {v : List V} {d : List PyData} {ρ2 : En} {H2 : Hp} (r : RepAll K H (UU ρ σ Z) v d) (x : Stt K (⟨H, OwnA ρ σ⟩ :: P) Z ρ2 σ H2) (sub : Shr ρ ρ2) : RepAll K H2 (UU ρ2 σ Z) v d := by
  have p := (x.pre _ List.mem_cons_self).1
  exact (r.pre (p.mono fun a u => .inr u)).mono fun a u => UU.shr sub u
theorem Val.pop {b : Bs} {c : Bool} {v : V} {d : PyData} (x : Val K (b :: P) Z ρ σ c v d H) : Val K P Z ρ σ c v d H := by
  cases c with
  | false => exact ⟨x.1.pop, x.2⟩
  | true =>
    obtain ⟨p, h1, h2, h3, h4, h5⟩ := x
    exact ⟨p, h1, h2, h3.pop, h4, fun b' hb => h5 b' (List.mem_cons_of_mem _ hb)⟩
end
end Pf


namespace Pf
open PySem PySem.Spec L2

/-! ## operations upon data -/
/-- an operand: shared, or one's own container -/
inductive Opd (K : PySem.W.Frag) (H : Hp) (U : Addr → Prop) : V → PyData → Prop
  | rep {v : V} {d : PyData} : Rep K H U v d → Opd K H U v d
  | own {p : Addr} {d : PyData} : Cont K H U p d → Opd K H U (.ref p) d
section
variable {K : PySem.W.Frag} {H : Hp} {U : Addr → Prop} {v : V}
theorem Opd.int_inv {i : Int} (h : Opd K H U v (.int i)) : v = .int i := by
  cases h with
  | rep h => exact h.int_inv
  | own h => cases h
theorem Opd.bl_inv {i : Bool} (h : Opd K H U v (.bool i)) : v = .bl i := by
  cases h with
  | rep h => exact h.bl_inv
  | own h => cases h
theorem Opd.str_inv {i : Str} (h : Opd K H U v (.str i)) : v = .str i := by
  cases h with
  | rep h => exact h.str_inv
  | own h => cases h
theorem Opd.non_inv (h : Opd K H U v .none) : v = .non := by
  cases h with
  | rep h => exact h.non_inv
  | own h => cases h
theorem Opd.lst_inv {ds : List PyData} (h : Opd K H U v (.list ds)) : ∃ a xs, v = .ref a ∧ H a = some (.lst xs) ∧ RepAll K H U xs ds := by
  cases h with
  | rep h => obtain ⟨a, xs, rfl, l, r⟩ := h.lst_inv; exact ⟨a, xs, rfl, l.1, r⟩
  | own h => cases h with
    | lst h r => exact ⟨_, _, rfl, h, r⟩
theorem Opd.tup_inv {ds : List PyData} (h : Opd K H U v (.tuple ds)) : ∃ a xs, v = .ref a ∧ TupU K H U a xs ∧ RepAll K H U xs ds := by
  cases h with
  | rep h => exact h.tup_inv
  | own h => cases h
mutual
theorem Rep.dpl : ∀ {v : V} {d : PyData}, Rep K H U v d → d.plain = true → Dp K H v d
  | _, _, .non, _ => .non
  | _, _, .bl b, _ => .bl b
  | _, _, .int b, _ => .int b
  | _, _, .str b, _ => .str b
  | _, _, .lst h r, e => .lst h.sq (RepAll.dpl r (by simpa [PyData.plain] using e))
  | _, _, .tup h r, e => .tup h.sq (RepAll.dpl r (by simpa [PyData.plain] using e))
  | _, _, .dK _ _ _, e => by simp [PyData.plain] at e
  | _, _, .dT _ _ _, e => by simp [PyData.plain] at e
  | _, _, .scr _, e => by simp [PyData.plain, scrD] at e
theorem RepAll.dpl : ∀ {v : List V} {d : List PyData}, RepAll K H U v d → PyData.plainAll d = true → DpAll K H v d
  | _, _, .nil, _ => .nil
  | _, _, .cons h r, e => by
    simp only [PyData.plainAll, Bool.and_eq_true] at e
    exact .cons (Rep.dpl h e.1) (RepAll.dpl r e.2)
end
theorem Opd.dpl {d : PyData} (h : Opd K H U v d) (e : d.plain = true) : Dp K H v d := by
  cases h with
  | rep h => exact h.dpl e
  | own h => cases h with
    | lst h r => exact .lst (SqL.of h) (r.dpl (by simpa [PyData.plain] using e))
    | dK _ _ _ => simp [PyData.plain] at e
    | dT _ _ _ => simp [PyData.plain] at e
end

/-- what an operation gives: a list or tuple is new, other data stand -/
def NewV (K : PySem.W.Frag) (H : Hp) (U : Addr → Prop) : PyData → VK → Prop
  | .list ds, Q => ∀ vs p, RepAll K H U vs ds → H p = none → Q (.ref p) (upd H p (.lst vs))
  | .tuple ds, Q => (∀ vs p, RepAll K H U vs ds → H p = none → Q (.ref p) (upd H p (.tup vs))) ∧ ∀ v, Rep K H U v (.tuple ds) → Q v H
  | d, Q => ∀ v, Rep K H U v d → Q v H

/-! ### two operands -/
def mulOk (a b : Int) : Bool := decide (a.natAbs < 2 ^ 64) || decide (b.natAbs < 2 ^ 64) || decide (a.natAbs.log2 + b.natAbs.log2 < 1000000)
def addD : PyData → PyData → Option PyData
  | .int a, .int b => some (.int (a + b))
  | .str a, .str b => if a.length + b.length ≤ sizeLine then some (.str (a ++ b)) else none
  | .list a, .list b => if a.length + b.length ≤ sizeLine then some (.list (a ++ b)) else none
  | .tuple a, .tuple b => if a.length + b.length ≤ sizeLine then some (.tuple (a ++ b)) else none
  | _, _ => none
def subD : PyData → PyData → Option PyData
  | .int a, .int b => some (.int (a - b))
  | _, _ => none
def mulD : PyData → PyData → Option PyData
  | .int a, .int b => if mulOk a b then some (.int (a * b)) else none
  | .list a, .int b => if -(2 ^ 63) ≤ b ∧ b < 2 ^ 63 ∧ a.length * b.toNat ≤ sizeLine then some (.list (List.replicate b.toNat a).flatten) else none
  | .tuple a, .int b => if a ≠ [] ∧ 2 ≤ b ∧ b ≤ 1000 ∧ a.length ≤ 1000 then some (.tuple (List.replicate b.toNat a).flatten) else none
  | _, _ => none
def divD : PyData → PyData → Option PyData
  | .int a, .int b => if b ≠ 0 ∧ b.natAbs.log2 < 9000 then some (.int (a.fdiv b)) else none
  | _, _ => none
def modD : PyData → PyData → Option PyData
  | .int a, .int b => if b ≠ 0 then some (.int (a.fmod b)) else none
  | _, _ => none
def powD : PyData → PyData → Option PyData
  | .int a, .int b => if 0 ≤ b ∧ b ≤ 1000000 ∧ a.natAbs < 2 ^ 64 then some (.int (a ^ b.toNat)) else none
  | _, _ => none
def binD : Operator → PyData → PyData → Option PyData
  | .Add => addD
  | .Sub => subD
  | .Mult => mulD
  | .FloorDiv => divD
  | .Mod => modD
  | .Pow => powD
  | _ => fun _ _ => none

theorem RepAll.rep {K : PySem.W.Frag} {H : Hp} {U : Addr → Prop} {vs : List V} {ds : List PyData} (r : RepAll K H U vs ds) : ∀ n : Nat, RepAll K H U (List.replicate n vs).flatten (List.replicate n ds).flatten
  | 0 => .nil
  | n + 1 => by
    rw [List.replicate_succ, List.replicate_succ, List.flatten_cons, List.flatten_cons]
    exact r.append (RepAll.rep r n)

def R2D (K : PySem.W.Frag) (f : PyData → PyData → Option PyData) : R2 := fun x y H Q => ∃ U a b d, Opd K H U x a ∧ Opd K H U y b ∧ f a b = some d ∧ NewV K H U d Q
section
variable {X : Cx}
theorem OpR.mono {f : Value → Value → Sem Value} {r r' : R2} (h : OpR X f r) (i : ∀ x y H Q, r' x y H Q → r x y H Q) : OpR X f r' :=
  fun pins s σ H x y v u Q I rx ry q => h pins s σ H x y v u Q I rx ry (i _ _ _ _ q)
theorem ne_nil_of {K : PySem.W.Frag} {H : Hp} {U : Addr → Prop} {vs : List V} {ds : List PyData} (r : RepAll K H U vs ds) (h : ds ≠ []) : vs ≠ [] := fun e => h (by
  have := r.length
  rw [e] at this
  exact List.eq_nil_of_length_eq_zero this.symm)
theorem nil_of {K : PySem.W.Frag} {H : Hp} {U : Addr → Prop} {vs : List V} {ds : List PyData} (r : RepAll K H U vs ds) (h : vs = []) : ds = [] := by
  have := r.length
  rw [h] at this
  exact List.eq_nil_of_length_eq_zero this.symm
theorem nil_of' {K : PySem.W.Frag} {H : Hp} {U : Addr → Prop} {vs : List V} {ds : List PyData} (r : RepAll K H U vs ds) (h : ds = []) : vs = [] := by
  have := r.length
  rw [h] at this
  exact List.eq_nil_of_length_eq_zero this
theorem add_ok : OpR X (binaryOp .Add) (R2D X.K addD) := by
  refine OpR.mono (op_add.or (op_add_str.or (op_cat.or op_catA))) fun x y H Q h => ?_
  obtain ⟨U, a, b, d, ha, hb, e, q⟩ := h
  unfold addD at e
  split at e
  · cases e
    obtain rfl := ha.int_inv
    obtain rfl := hb.int_inv
    exact .inl ⟨_, _, rfl, rfl, q _ (.int _)⟩
  · split at e
    · rename_i hz
      cases e
      obtain rfl := ha.str_inv
      obtain rfl := hb.str_inv
      exact .inr (.inl ⟨_, _, rfl, rfl, hz, q _ (.str _)⟩)
    · cases e
  · split at e
    · rename_i hz
      cases e
      obtain ⟨p, xs, rfl, h1, r1⟩ := ha.lst_inv
      obtain ⟨p', ys, rfl, h2, r2⟩ := hb.lst_inv
      exact .inr (.inr (.inl ⟨p, p', xs, ys, rfl, rfl, h1, h2, by rw [r1.length, r2.length]; exact hz, fun l hl => q _ l (r1.append r2) hl⟩))
    · cases e
  · split at e
    · rename_i hz
      cases e
      obtain ⟨p, xs, rfl, h1, r1⟩ := ha.tup_inv
      obtain ⟨p', ys, rfl, h2, r2⟩ := hb.tup_inv
      refine .inr (.inr (.inr ⟨p, p', xs, ys, rfl, rfl, h1.sq, h2.sq, by rw [r1.length, r2.length]; exact hz, fun e1 => ?_, fun _ e2 => ?_, fun _ _ l hl => q.1 _ l (r1.append r2) hl⟩))
      · have := nil_of r1 e1
        subst this
        exact q.2 _ (.tup h2 (by simpa using r2))
      · have := nil_of r2 e2
        subst this
        exact q.2 _ (.tup h1 (by simpa using r1))
    · cases e
  · cases e
theorem sub_ok : OpR X (binaryOp .Sub) (R2D X.K subD) := by
  refine OpR.mono op_sub fun x y H Q h => ?_
  obtain ⟨U, a, b, d, ha, hb, e, q⟩ := h
  unfold subD at e
  split at e
  · cases e
    obtain rfl := ha.int_inv
    obtain rfl := hb.int_inv
    exact ⟨_, _, rfl, rfl, q _ (.int _)⟩
  · cases e
theorem mul_ok : OpR X (binaryOp .Mult) (R2D X.K mulD) := by
  refine OpR.mono (op_mul.or (op_mulW.or (op_rep.or op_repT))) fun x y H Q h => ?_
  obtain ⟨U, a, b, d, ha, hb, e, q⟩ := h
  unfold mulD at e
  split at e
  · rename_i i j
    split at e
    · rename_i hz
      cases e
      obtain rfl := ha.int_inv
      obtain rfl := hb.int_inv
      unfold mulOk at hz
      simp only [Bool.or_eq_true, decide_eq_true_eq] at hz
      rcases hz with (hz | hz) | hz
      · exact .inl ⟨_, _, rfl, rfl, .inl (by constructor <;> omega), q _ (.int _)⟩
      · exact .inl ⟨_, _, rfl, rfl, .inr (by constructor <;> omega), q _ (.int _)⟩
      · exact .inr (.inl ⟨_, _, rfl, rfl, hz, q _ (.int _)⟩)
    · cases e
  · split at e
    · rename_i hz
      cases e
      obtain ⟨p, xs, rfl, h1, r1⟩ := ha.lst_inv
      obtain rfl := hb.int_inv
      exact .inr (.inr (.inl ⟨p, _, xs, rfl, rfl, h1, hz.1, hz.2.1, by rw [r1.length]; exact hz.2.2, fun l hl => q _ l (r1.rep _) hl⟩))
    · cases e
  · split at e
    · rename_i hz
      cases e
      obtain ⟨p, xs, rfl, h1, r1⟩ := ha.tup_inv
      obtain rfl := hb.int_inv
      exact .inr (.inr (.inr ⟨p, _, xs, rfl, rfl, h1.sq, ne_nil_of r1 hz.1, hz.2.1, hz.2.2.1, by rw [r1.length]; exact hz.2.2.2, fun l hl => q.1 _ l (r1.rep _) hl⟩))
    · cases e
  · cases e
theorem fdivX : OpR X (binaryOp .FloorDiv) (rI (fun _ j => j ≠ 0 ∧ j.natAbs.log2 < 9000) fun i j => .int (i.fdiv j)) :=
  opI fun _ _ _ _ _ _ _ hc q => PyProof.Rows.floordiv_int hc.1 q (.inl (PyProof.noPylong_of_log2 hc.2))
theorem div_ok : OpR X (binaryOp .FloorDiv) (R2D X.K divD) := by
  refine OpR.mono fdivX fun x y H Q h => ?_
  obtain ⟨U, a, b, d, ha, hb, e, q⟩ := h
  unfold divD at e
  split at e
  · split at e
    · rename_i hz
      cases e
      obtain rfl := ha.int_inv
      obtain rfl := hb.int_inv
      exact ⟨_, _, rfl, rfl, hz, q _ (.int _)⟩
    · cases e
  · cases e
theorem mod_ok : OpR X (binaryOp .Mod) (R2D X.K modD) := by
  refine OpR.mono op_modN fun x y H Q h => ?_
  obtain ⟨U, a, b, d, ha, hb, e, q⟩ := h
  unfold modD at e
  split at e
  · split at e
    · rename_i hz
      cases e
      obtain rfl := ha.int_inv
      obtain rfl := hb.int_inv
      exact ⟨_, _, rfl, rfl, hz, q _ (.int _)⟩
    · cases e
  · cases e
theorem pow_ok : OpR X (binaryOp .Pow) (R2D X.K powD) := by
  refine OpR.mono op_pow fun x y H Q h => ?_
  obtain ⟨U, a, b, d, ha, hb, e, q⟩ := h
  unfold powD at e
  split at e
  · split at e
    · rename_i hz
      cases e
      obtain rfl := ha.int_inv
      obtain rfl := hb.int_inv
      exact ⟨_, _, rfl, rfl, hz, q _ (.int _)⟩
    · cases e
  · cases e
theorem none_ok {f : Value → Value → Sem Value} : OpR X f (R2D X.K fun _ _ => none) := by
  intro pins s σ H x y v u Q I rx ry h
  obtain ⟨U, a, b, d, ha, hb, e, q⟩ := h
  cases e
theorem bin_ok (op : Operator) : OpR X (binaryOp op) (R2D X.K (binD op)) := by
  cases op with
  | Add => exact add_ok
  | Sub => exact sub_ok
  | Mult => exact mul_ok
  | FloorDiv => exact div_ok
  | Mod => exact mod_ok
  | Pow => exact pow_ok
  | _ => exact none_ok
end

/-! ### comparisons -/
def depOk (a b : PyData) : Bool := decide (a.depth ≤ 60) || decide (b.depth ≤ 60)
def isNoneD : PyData → Bool
  | .none => true
  | _ => false
def eqD (a b : PyData) : Option Bool := if a.plain && b.plain && depOk a b then some (PyData.eqv a b) else none
def ltD (a b : PyData) : Option Bool := if PySem.W.alike a b && depOk a b && a.plain && b.plain && !isNoneD a then some (PySem.W.dataLt a b) else none
def inD (a b : PyData) : Option Bool :=
  match b with
  | .list xs => if PyData.plainAll xs && a.plain && (decide (a.depth ≤ 60) || decide (PyData.depthAll xs ≤ 60)) then some (xs.any fun y => PyData.eqv y a) else none
  | .tuple xs => if PyData.plainAll xs && a.plain && (decide (a.depth ≤ 60) || decide (PyData.depthAll xs ≤ 60)) then some (xs.any fun y => PyData.eqv y a) else none
  | .str z => match a with
    | .str x => some (!(Builtin.Str.occurrences z x 0 z.length 1).isEmpty)
    | _ => none
  | _ => none
def isD (a b : PyData) : Option Bool :=
  match b with
  | .none => some (isNoneD a)
  | .bool k => match a with
    | .bool j => some (decide (j = k))
    | _ => none
  | _ => none
def cmpD : CmpOp → PyData → PyData → Option Bool
  | .Eq, a, b => eqD a b
  | .NotEq, a, b => (eqD a b).map (!·)
  | .Lt, a, b => ltD a b
  | .Gt, a, b => (ltD a b).map fun _ => PySem.W.dataLt b a
  | .LtE, a, b => (ltD a b).map fun _ => !PySem.W.dataLt b a
  | .GtE, a, b => (ltD a b).map fun _ => !PySem.W.dataLt a b
  | .In, a, b => inD a b
  | .NotIn, a, b => (inD a b).map (!·)
  | .Is, a, b => isD a b
  | .IsNot, a, b => (isD a b).map (!·)
def CmpR (K : PySem.W.Frag) (op : CmpOp) : R2 := fun x y H Q => ∃ U a b k, Opd K H U x a ∧ Opd K H U y b ∧ cmpD op a b = some k ∧ Q (.bl k) H
section
variable {X : Cx}
theorem dep_room {a b : PyData} {u : Nat} (hu : u + 64 < cLine) (h : depOk a b = true) : u + min a.depth b.depth < cLine := by
  unfold depOk at h
  simp only [Bool.or_eq_true, decide_eq_true_eq] at h
  omega
theorem eq_ok (hu : X.A.units + 64 < cLine) : OpR X (compareOp .Eq) (CmpR X.K .Eq) := by
  intro pins s σ H x y v u Q I rx ry h
  obtain ⟨U, a, b, k, ha, hb, e, q⟩ := h
  simp only [cmpD, eqD] at e
  split at e
  · rename_i hz
    cases e
    simp only [Bool.and_eq_true] at hz
    obtain ⟨as, r1⟩ := Dp.reads I a x v (ha.dpl hz.1.1) rx
    obtain ⟨bs, r2⟩ := Dp.reads I b y u (hb.dpl hz.1.2) ry
    exact SeqAt.eq_plain r1 r2 hz.1.1 hz.1.2 (dep_room hu hz.2) ⟨.bl _, H, I, rfl, q⟩
  · cases e
theorem ne_ok (hu : X.A.units + 64 < cLine) : OpR X (compareOp .NotEq) (CmpR X.K .NotEq) := by
  intro pins s σ H x y v u Q I rx ry h
  obtain ⟨U, a, b, k, ha, hb, e, q⟩ := h
  simp only [cmpD, eqD] at e
  split at e
  · rename_i hz
    cases e
    simp only [Bool.and_eq_true] at hz
    obtain ⟨as, r1⟩ := Dp.reads I a x v (ha.dpl hz.1.1) rx
    obtain ⟨bs, r2⟩ := Dp.reads I b y u (hb.dpl hz.1.2) ry
    exact SeqAt.ne_plain r1 r2 hz.1.1 hz.1.2 (dep_room hu hz.2) ⟨.bl _, H, I, rfl, q⟩
  · cases e
theorem lt_parts {a b : PyData} {k : Bool} (e : ltD a b = some k) : PySem.W.alike a b = true ∧ depOk a b = true ∧ a.plain = true ∧ b.plain = true ∧ a ≠ .none ∧ k = PySem.W.dataLt a b := by
  unfold ltD at e
  split at e
  · rename_i hz
    cases e
    simp only [Bool.and_eq_true] at hz
    refine ⟨hz.1.1.1.1, hz.1.1.1.2, hz.1.1.2, hz.1.2, fun z => ?_, rfl⟩
    subst z
    simp [isNoneD] at hz
  · cases e
theorem ord_ok (hu : X.A.units + 64 < cLine) : OpR X (compareOp .Lt) (CmpR X.K .Lt) ∧ OpR X (compareOp .Gt) (CmpR X.K .Gt) ∧ OpR X (compareOp .LtE) (CmpR X.K .LtE) ∧ OpR X (compareOp .GtE) (CmpR X.K .GtE) := by
  refine ⟨?_, ?_, ?_, ?_⟩
  all_goals
    intro pins s σ H x y v u Q I rx ry h
    obtain ⟨U, a, b, k, ha, hb, e, q⟩ := h
    simp only [cmpD] at e
    try
      cases e0 : ltD a b with
      | none => rw [e0] at e; cases e
      | some k0 =>
        rw [e0] at e
        cases e
        obtain ⟨h1, h2, h3, h4, h5, h6⟩ := lt_parts e0
        obtain ⟨as, r1⟩ := Dp.reads I a x v (ha.dpl h3) rx
        obtain ⟨bs, r2⟩ := Dp.reads I b y u (hb.dpl h4) ry
        first
          | exact PySem.W.gt_data r1 r2 h1 h5 (dep_room hu h2) ⟨.bl _, H, I, rfl, q⟩
          | exact PySem.W.le_data r1 r2 h1 h5 (dep_room hu h2) ⟨.bl _, H, I, rfl, q⟩
          | exact PySem.W.ge_data r1 r2 h1 h5 (dep_room hu h2) ⟨.bl _, H, I, rfl, q⟩
          | (rw [h6] at q; exact PySem.W.lt_data r1 r2 h1 h5 (dep_room hu h2) ⟨.bl _, H, I, rfl, q⟩)
theorem in_room {a : PyData} {xs : List PyData} {u : Nat} (hu : u + 64 < cLine) (h : (decide (a.depth ≤ 60) || decide (PyData.depthAll xs ≤ 60)) = true) : u + 1 + min (PyData.depthAll xs) a.depth < cLine := by
  simp only [Bool.or_eq_true, decide_eq_true_eq] at h
  omega
theorem in_ok (hu : X.A.units + 64 < cLine) : OpR X (compareOp .In) (CmpR X.K .In) := by
  intro pins s σ H x y v u Q I rx ry h
  obtain ⟨U, a, b, k, ha, hb, e, q⟩ := h
  simp only [cmpD, inD] at e
  split at e
  · split at e
    · rename_i xs hz
      cases e
      simp only [Bool.and_eq_true] at hz
      obtain ⟨as, r1⟩ := Dp.reads I a x v (ha.dpl hz.1.2) rx
      obtain ⟨bs, r2⟩ := Dp.reads I _ y u (hb.dpl (by simp only [PyData.plain]; exact hz.1.1)) ry
      exact SeqAt.in_list_data r2 r1 hz.1.1 hz.1.2 (in_room hu hz.2) ⟨.bl _, H, I, rfl, q⟩
    · cases e
  · split at e
    · rename_i xs hz
      cases e
      simp only [Bool.and_eq_true] at hz
      obtain ⟨as, r1⟩ := Dp.reads I a x v (ha.dpl hz.1.2) rx
      obtain ⟨bs, r2⟩ := Dp.reads I _ y u (hb.dpl (by simp only [PyData.plain]; exact hz.1.1)) ry
      exact SeqAt.in_tuple_data r2 r1 hz.1.1 hz.1.2 (in_room hu hz.2) ⟨.bl _, H, I, rfl, q⟩
    · cases e
  · split at e
    · cases e
      obtain rfl := ha.str_inv
      obtain rfl := hb.str_inv
      exact op_in_str pins s σ H _ _ v u Q I rx ry ⟨_, _, rfl, rfl, q⟩
    · cases e
  · cases e
theorem notin_ok (hu : X.A.units + 64 < cLine) : OpR X (compareOp .NotIn) (CmpR X.K .NotIn) := by
  intro pins s σ H x y v u Q I rx ry h
  obtain ⟨U, a, b, k, ha, hb, e, q⟩ := h
  simp only [cmpD, inD] at e
  split at e
  · split at e
    · rename_i xs hz
      cases e
      simp only [Bool.and_eq_true] at hz
      obtain ⟨as, r1⟩ := Dp.reads I a x v (ha.dpl hz.1.2) rx
      obtain ⟨bs, r2⟩ := Dp.reads I _ y u (hb.dpl (by simp only [PyData.plain]; exact hz.1.1)) ry
      exact SeqAt.notIn_list_data r2 r1 hz.1.1 hz.1.2 (in_room hu hz.2) ⟨.bl _, H, I, rfl, q⟩
    · cases e
  · split at e
    · rename_i xs hz
      cases e
      simp only [Bool.and_eq_true] at hz
      obtain ⟨as, r1⟩ := Dp.reads I a x v (ha.dpl hz.1.2) rx
      obtain ⟨bs, r2⟩ := Dp.reads I _ y u (hb.dpl (by simp only [PyData.plain]; exact hz.1.1)) ry
      exact SeqAt.notIn_tuple_data r2 r1 hz.1.1 hz.1.2 (in_room hu hz.2) ⟨.bl _, H, I, rfl, q⟩
    · cases e
  · split at e
    · cases e
      obtain rfl := ha.str_inv
      obtain rfl := hb.str_inv
      exact op_notIn_str pins s σ H _ _ v u Q I rx ry ⟨_, _, rfl, rfl, q⟩
    · cases e
  · cases e
theorem Opd.isN {K : PySem.W.Frag} {H : Hp} {U : Addr → Prop} {v : V} {a : PyData} (h : Opd K H U v a) : decide (v = .non) = isNoneD a := by
  cases h with
  | rep h => cases h <;> rfl
  | own h => cases h <;> rfl
theorem is_ok : OpR X (compareOp .Is) (CmpR X.K .Is) := by
  refine OpR.mono (op_isN.or op_is_bl) fun x y H Q h => ?_
  obtain ⟨U, a, b, k, ha, hb, e, q⟩ := h
  simp only [cmpD, isD] at e
  split at e
  · cases e
    obtain rfl := hb.non_inv
    exact .inl ⟨rfl, by rw [ha.isN]; exact q⟩
  · split at e
    · cases e
      obtain rfl := ha.bl_inv
      obtain rfl := hb.bl_inv
      exact .inr ⟨_, _, rfl, rfl, q⟩
    · cases e
  · cases e
theorem isnot_ok : OpR X (compareOp .IsNot) (CmpR X.K .IsNot) := by
  refine OpR.mono (op_notN.or op_isnot_bl) fun x y H Q h => ?_
  obtain ⟨U, a, b, k, ha, hb, e, q⟩ := h
  simp only [cmpD, isD] at e
  split at e
  · cases e
    obtain rfl := hb.non_inv
    exact .inl ⟨rfl, by rw [ha.isN]; exact q⟩
  · split at e
    · cases e
      obtain rfl := ha.bl_inv
      obtain rfl := hb.bl_inv
      exact .inr ⟨_, _, rfl, rfl, q⟩
    · cases e
  · cases e
theorem cmp_ok (hu : X.A.units + 64 < cLine) (op : CmpOp) : OpR X (compareOp op) (CmpR X.K op) := by
  cases op with
  | Eq => exact eq_ok hu
  | NotEq => exact ne_ok hu
  | Lt => exact (ord_ok hu).1
  | Gt => exact (ord_ok hu).2.1
  | LtE => exact (ord_ok hu).2.2.1
  | GtE => exact (ord_ok hu).2.2.2
  | In => exact in_ok hu
  | NotIn => exact notin_ok hu
  | Is => exact is_ok
  | IsNot => exact isnot_ok
end
end Pf


namespace Pf
open PySem PySem.Spec L2

/-! ## what a text computes, upon data -/
inductive Src where
  | pos (i : Nat) | kw (i : Nat) | dfl (i : Nat)
structure Pat where
  n : Nat
  ks : List Str
  src : List Src
structure FE where
  name : Str
  ps : List Str
  io : List Bool
  pats : List Pat
  dfl : List PyData
abbrev Sem3 := Str → List PyData → Option (Bool × PyData × List PyData)
structure Ctx where
  N : List Str
  io : List Nat
  T : List FE
  G : List (Str × PyData)
  Γ : Sem3
  w : Nat
structure Bk where
  sc : Scope
  loc : Str → Bool
inductive Opn where
  | slot (i : Nat) | val (d : PyData)
inductive Out where
  | nx (ρ : En) | rt (o : Opn) (b : Bool) (ρ : En) | bk (ρ : En) | ct (ρ : En)
structure Fns where
  o : Bk → Expr → En → Option (Opn × Bool × En)
  t : Bk → Expr → En → Option (Bool × En)
  s : Bk → Stmt → En → Option Out

def visB (sc : Scope) (x : Str) : Bool :=
  (match sc.names.lookup x with | some .local => true | some .cell => true | some .free => true | _ => false) && !(x == ("__debug__" : Str)) && !(x == ("__classdict__" : Str))
def glB (sc : Scope) (x : Str) : Bool := (sc.names.lookup x == some .globalImplicit) && !(x == ("__debug__" : Str)) && !(x == ("__name__" : Str))
def ixOf (x : Str) : List Str → Option Nat
  | [] => none
  | y :: r => if y = x then some 0 else (ixOf x r).map (· + 1)
def constD : Const → Option PyData
  | .none => some .none
  | .bool b => some (.bool b)
  | .int i => some (.int i)
  | .str s => some (.str s)
  | _ => none
def star : Expr → Bool
  | .Starred _ _ => true
  | _ => false
def rdO (ρ : En) : Opn → Option PyData
  | .val d => some d
  | .slot i => match ρ[i]? with
    | some (some (_, d)) => some d
    | _ => none
def rdOs (ρ : En) : List Opn → Option (List PyData)
  | [] => some []
  | o :: os => (rdO ρ o).bind fun d => (rdOs ρ os).bind fun ds => some (d :: ds)
def newB : PyData → Bool
  | .list _ => true
  | _ => false
/-- a new value -/
def resD (ρ : En) (d : PyData) : Opn × Bool × En := (.val d, newB d, ρ)
def oName (C : Ctx) (B : Bk) (x : Str) (ρ : En) : Option (Opn × Bool × En) :=
  if visB B.sc x then (ixOf x C.N).bind fun i => match ρ[i]? with
    | some (some (true, _)) => some (.slot i, false, ρ)
    | some (some (false, d)) => some (.val d, false, ρ)
    | _ => none
  else if glB B.sc x then (C.G.lookup x).map fun d => (.val d, false, ρ)
  else none
/-- as a value: what was one's own is shared -/
def toV (C : Ctx) (r : Opn × Bool × En) : Option (Bool × PyData × En) :=
  match r.1 with
  | .val d => some (r.2.1, d, r.2.2)
  | .slot i => if C.io.contains i then none else match r.2.2[i]? with
    | some (some (_, d)) => some (false, d, frz r.2.2 i)
    | _ => none
def valE (C : Ctx) (F : Fns) (B : Bk) (e : Expr) (ρ : En) : Option (Bool × PyData × En) := (F.o B e ρ).bind (toV C)
/-- several values, from the left -/
def valEs (C : Ctx) (F : Fns) (B : Bk) : List Expr → En → Option (List PyData × En)
  | [], ρ => some ([], ρ)
  | e :: es, ρ => if star e then none else (valE C F B e ρ).bind fun r => (valEs C F B es r.2.2).bind fun q => some (r.2.1 :: q.1, q.2)
/-- several operands, from the left -/
def opnEs (F : Fns) (B : Bk) : List Expr → En → Option (List Opn × En)
  | [], ρ => some ([], ρ)
  | e :: es, ρ => if star e then none else (F.o B e ρ).bind fun r => (opnEs F B es r.2.2).bind fun q => some (r.1 :: q.1, q.2)
/-! items, slices, truth -/
def idxD : PyData → PyData → Option PyData
  | .list xs, .int i => atI xs i
  | .tuple xs, .int i => atI xs i
  | .str z, .int i => if z.length ≤ sizeLine then (atI z.cps.toList i).map fun c => .str ⟨#[c]⟩ else none
  | _, _ => none
def cutP (xs : List PyData) (lo hi : Option Int) : List PyData := (xs.drop (HT.sIx xs.length 0 lo)).take (HT.sIx xs.length xs.length hi - HT.sIx xs.length 0 lo)
def cutD (d : PyData) (lo hi : Option Int) : Option PyData :=
  match d with
  | .list xs => some (.list (cutP xs lo hi))
  | .tuple xs => some (.tuple (cutP xs lo hi))
  | .str z => if z.length ≤ sizeLine then some (.str (cutS z lo hi)) else none
  | .dict [(.none, .list xs)] => some (.list (cutP xs lo hi))
  | _ => none
def partE (F : Fns) (B : Bk) : Option Expr → En → Option (Option Int × En)
  | none, ρ => some (none, ρ)
  | some e, ρ => (F.o B e ρ).bind fun r => match r.1 with
    | .val (.int i) => some (some i, r.2.2)
    | _ => none
def truthD : PyData → Option Bool
  | .none => some false
  | .bool b => some b
  | .int i => some (i != 0)
  | .str z => if z.length ≤ sizeLine then some ((z.length : Int) != 0) else none
  | .list xs => some (!xs.isEmpty)
  | .tuple xs => some (!xs.isEmpty)
  | _ => none
def unD : UnaryOp → PyData → Option PyData
  | .USub, .int i => some (.int (-i))
  | .Not, d => (truthD d).map fun k => .bool (!k)
  | _, _ => none

/-! built-ins of one and more operands -/
inductive Bi where
  | len | abs | int | repr | str
def Bi.name : Bi → Str
  | .len => "len" | .abs => "abs" | .int => "int" | .repr => "repr" | .str => "str"
def bis : List Bi := [.len, .abs, .int, .repr, .str]
def biOf (x : Str) : Option Bi := bis.find? fun b => b.name == x
def lenD : PyData → Option Int
  | .list xs => some xs.length
  | .tuple xs => some xs.length
  | .str z => if z.length ≤ sizeLine then some z.length else none
  | _ => none
def reprOk (d : PyData) : Bool := d.showable && d.plain && decide (d.depth ≤ 60) && decide (d.shown.length ≤ sizeLine)
def lenB : List PyData → Option PyData
  | [d] => (lenD d).map .int
  | _ => none
def absB : List PyData → Option PyData
  | [.int i] => some (.int (if i < 0 then -i else i))
  | _ => none
def intB : List PyData → Option PyData
  | [.int i] => some (.int i)
  | [.bool k] => some (.int (if k then 1 else 0))
  | _ => none
def reprB : List PyData → Option PyData
  | [d] => if reprOk d then some (.str d.shown) else none
  | _ => none
def strB : List PyData → Option PyData
  | [.int i] => if i.natAbs.log2 < 1920 then some (.str (toString i)) else none
  | _ => none
def biD : Bi → List PyData → Option PyData
  | .len => lenB
  | .abs => absB
  | .int => intB
  | .repr => reprB
  | .str => strB
/-! methods -/
/-- of one's own list: what it is behind, what the call gives -/
def mutD (m : Str) (d : PyData) (as : List PyData) : Option (PyData × PyData) :=
  match d with
  | .list xs =>
    if m = "append" then match as with
      | [y] => if xs.length < sizeLine then some (.list (xs ++ [y]), .none) else none
      | _ => none
    else if m = "pop" then match as with
      | [] => (xs[xs.length - 1]?).map fun y => (.list xs.dropLast, y)
      | _ => none
    else if m = "reverse" then match as with
      | [] => some (.list xs.reverse, .none)
      | _ => none
    else none
  | _ => none
def mutNames : List Str := ["append", "pop", "reverse"]
def strsOf : List PyData → Option (List Str)
  | [] => some []
  | .str x :: r => (strsOf r).map (x :: ·)
  | _ => none
def metD (m : Str) (d : PyData) (as : List PyData) : Option PyData :=
  match d with
  | .str z =>
    if m = "join" then match as with
      | [.list xs] => (strsOf xs).bind fun ys => if (ys.map (·.length)).sum + ys.length * z.length ≤ 16777216 then some (.str (Txt.join z ys)) else none
      | _ => none
    else none
  | _ => none
def notCall : Expr → Bool
  | .Call _ _ _ _ => false
  | _ => true

/-! calls of the text's own defs -/
def pickS {α : Type} (us ws ds : List α) : Src → Option α
  | .pos i => us[i]?
  | .kw i => ws[i]?
  | .dfl i => ds[i]?
def arr {α : Type} (us ws ds : List α) : List Src → Option (List α)
  | [] => some []
  | s :: r => (pickS us ws ds s).bind fun x => (arr us ws ds r).bind fun xs => some (x :: xs)
/-- the written arguments: a container that the def may change stays in its slot -/
def argEs (C : Ctx) (F : Fns) (B : Bk) : List Bool → List Expr → En → Option (List Opn × En)
  | _, [], ρ => some ([], ρ)
  | true :: io, e :: es, ρ => if star e then none else (F.o B e ρ).bind fun r => match r.1 with
    | .slot i => (argEs C F B io es r.2.2).bind fun q => some (.slot i :: q.1, q.2)
    | _ => none
  | false :: io, e :: es, ρ => if star e then none else (valE C F B e ρ).bind fun r => (argEs C F B io es r.2.2).bind fun q => some (.val r.2.1 :: q.1, q.2)
  | [], _ :: _, _ => none
def slotsOf : List Opn → List Nat
  | [] => []
  | .slot i :: r => i :: slotsOf r
  | .val _ :: r => slotsOf r
def nodupB : List Nat → Bool
  | [] => true
  | i :: r => !r.contains i && nodupB r
/-- what the slots hold behind the call -/
def putBack (ρ : En) : List Opn → List PyData → En
  | .slot i :: os, d :: ds => putBack (ρ.set i (some (true, d))) os ds
  | .val _ :: os, _ :: ds => putBack ρ os ds
  | _, _ => ρ
def kwNames : List Keyword → Option (List Str)
  | [] => some []
  | ⟨some x, _, _⟩ :: r => (kwNames r).map (x :: ·)
  | _ => none
def patOf (n : Nat) (ks : List Str) (ps : List Pat) : Option Pat := ps.find? fun p => p.n == n && p.ks == ks
/-- the parameters that come from the written places first: place i is parameter i -/
def posFirst (n : Nat) : Nat → List Src → Bool
  | _, [] => true
  | j, .pos i :: r => decide (i = j) && decide (j < n) && posFirst n (j + 1) r
  | j, _ :: r => decide (n ≤ j) && posFirst n (j + 1) r
def ownAll (os : List Opn) (ρ : En) : Bool := os.all fun o => match o with
  | .slot i => (match ρ[i]? with | some (some (true, _)) => true | _ => false)
  | _ => true
def callU (C : Ctx) (F : Fns) (B : Bk) (e : FE) (args : List Expr) (kws : List Keyword) (ρ : En) : Option (Opn × Bool × En) :=
  (kwNames kws).bind fun ks => (patOf args.length ks e.pats).bind fun p =>
  if posFirst args.length 0 p.src && decide (p.src.length = e.ps.length) && decide (e.io.length = e.ps.length) && decide (p.ks.length = kws.length) && (e.io.drop args.length).all (!·) then
  (argEs C F B e.io args ρ).bind fun q => (valEs C F B (kws.map (·.value)) q.2).bind fun z =>
  (rdOs z.2 q.1).bind fun us => (arr us z.1 e.dfl p.src).bind fun full =>
  if nodupB (slotsOf q.1) && ownAll q.1 z.2 then
  (C.Γ e.name full).bind fun r => if r.2.2.length = full.length then some (.val r.2.1, r.1, putBack z.2 q.1 r.2.2) else none
  else none
  else none

/-! what is walked -/
def intsFrom (lo : Int) : Nat → List PyData
  | 0 => []
  | n + 1 => .int lo :: intsFrom (lo + 1) n
def smallI (i : Int) : Bool := decide (-(2 ^ 62) ≤ i) && decide (i < 2 ^ 62)
def rangeD : List PyData → Option (List PyData)
  | [.int j] => if smallI j then some (intsFrom 0 j.toNat) else none
  | [.int i, .int j] => if smallI i && smallI j then some (intsFrom i (j - i).toNat) else none
  | _ => none
def charsD (z : Str) : List PyData := z.cps.toList.map fun c => .str ⟨#[c]⟩
def itemsD : PyData → Option (List PyData)
  | .list xs => some xs
  | .tuple xs => some xs
  | .str z => some (charsD z)
  | _ => none
def isRange (sc : Scope) : Expr → Option (List Expr)
  | .Call (.Name f _) args [] _ => if f == "range" && glB sc f then some args else none
  | _ => none
def iterE (C : Ctx) (F : Fns) (B : Bk) (e : Expr) (ρ : En) : Option (List PyData × En) :=
  match isRange B.sc e with
  | some args => (opnEs F B args ρ).bind fun q => (rdOs q.2 q.1).bind fun ds => (rangeD ds).bind fun xs => some (xs, q.2)
  | none => (valE C F B e ρ).bind fun r => (itemsD r.2.1).bind fun xs => some (xs, r.2.2)

/-! targets -/
def tgsD (C : Ctx) (B : Bk) : List Expr → List PyData → En → Option En
  | [], [], ρ => some ρ
  | .Name x _ :: es, d :: ds, ρ => if B.loc x then (ixOf x C.N).bind fun i => if C.io.contains i then none else tgsD C B es ds (ρ.set i (some (false, d))) else none
  | _, _, _ => none
def seqD : PyData → Option (List PyData)
  | .tuple xs => some xs
  | .list xs => some xs
  | _ => none
def tgD (C : Ctx) (B : Bk) (e : Expr) (d : PyData) (ρ : En) : Option En :=
  match e with
  | .Name x p => tgsD C B [.Name x p] [d] ρ
  | .Tuple es _ _ => (seqD d).bind fun xs => tgsD C B es xs ρ
  | _ => none
def nmSlots (C : Ctx) : List Expr → List Nat
  | [] => []
  | .Name x _ :: es => (ixOf x C.N).toList ++ nmSlots C es
  | _ :: es => nmSlots C es
def tgSlots (C : Ctx) : Expr → List Nat
  | .Name x p => nmSlots C [.Name x p]
  | .Tuple es _ _ => nmSlots C es
  | _ => []

/-! comprehensions -/
def wipeE (ρ : En) : List Nat → En
  | [] => ρ
  | i :: is => (wipeE ρ is).set i none
def frzs (ρ : En) : List Nat → En
  | [] => ρ
  | i :: is => frz (frzs ρ is) i
/-- the slots is as they were in ρ0 -/
def backE (ρ0 ρ : En) : List Nat → En
  | [] => ρ
  | i :: is => match ρ0[i]? with
    | some w => (backE ρ0 ρ is).set i w
    | none => backE ρ0 ρ is
def notSet : Expr → Bool
  | .Set _ _ _ => false
  | _ => true
def ownOf (N : List Str) (scope : Scope) : List (Str × Nat) :=
  scope.names.filterMap fun p => if p.2 == .local || p.2 == .cell then (ixOf p.1 N).map fun i => (p.1, i) else none
def testsT (F : Fns) (B : Bk) : List Expr → En → Option (Bool × En)
  | [], ρ => some (true, ρ)
  | [e], ρ => F.t B e ρ
  | _, _ => none
def lcG (g : PyData → En → Option En) (t : En → Option (Bool × En)) (v : En → Option (Bool × PyData × En)) (is : List Nat) : List PyData → List PyData → En → Option (List PyData × En)
  | [], acc, ρ => some (acc, ρ)
  | x :: xs, acc, ρ => (g x ρ).bind fun ρ1 => (t ρ1).bind fun k =>
      if k.1 then (v k.2).bind fun r => if acc.length < sizeLine then lcG g t v is xs (acc ++ [r.2.1]) (wipeE r.2.2 is) else none
      else lcG g t v is xs acc (wipeE k.2 is)
abbrev lcLoop (C : Ctx) (F : Fns) (B : Bk) (elt tg : Expr) (ifs : List Expr) (is : List Nat) : List PyData → List PyData → En → Option (List PyData × En) := lcG (tgD C B tg) (testsT F B ifs) (valE C F B elt) is
def blkOf (B : Bk) (scope : Scope) : Bk := ⟨relS scope B.sc, fun x => match scope.names.lookup x with | some .local => true | some .cell => true | _ => false⟩
def lcE (C : Ctx) (F : Fns) (B : Bk) (elt : Expr) (gs : List Comprehension) (scope : Scope) (ρ : En) : Option (List PyData × En) :=
  match gs with
  | [⟨tg, iter, ifs, 0⟩] =>
    let own := ownOf C.N scope
    let is := own.map (·.2)
    if notSet iter && blkC C.N B.sc scope own && (tgSlots C tg).all is.contains && is.all (fun i => !C.io.contains i) then
      (iterE C F B iter ρ).bind fun r =>
      let ρ0 := frzs r.2 is
      (lcLoop C F (blkOf B scope) elt tg ifs is r.1 [] (wipeE ρ0 is)).bind fun q => some (q.1, backE ρ0 q.2 is)
    else none
  | _ => none

/-! chains of comparisons, and, or -/
def boolE (C : Ctx) (F : Fns) (B : Bk) (op : BoolOp) : List Expr → En → Option (Opn × Bool × En)
  | [], _ => none
  | [e], ρ => F.o B e ρ
  | e :: es, ρ => (F.o B e ρ).bind fun r => (rdO r.2.2 r.1).bind fun d => (truthD d).bind fun k =>
    if (match op with | .And => k | .Or => !k) then boolE C F B op es r.2.2 else some r
def boolT (F : Fns) (B : Bk) (op : BoolOp) : List Expr → En → Option (Bool × En)
  | [], _ => none
  | [e], ρ => F.t B e ρ
  | e :: es, ρ => (F.t B e ρ).bind fun r => if (match op with | .And => r.1 | .Or => !r.1) then boolT F B op es r.2 else some r
def cmpE (C : Ctx) (F : Fns) (B : Bk) (a : Expr) (ops : List CmpOp) (es : List Expr) (ρ : En) : Option (Bool × En) :=
  match ops, es with
  | [op], [b] => if behindInMarks op b then none else
      (F.o B a ρ).bind fun r => (F.o B b r.2.2).bind fun q => (rdO q.2.2 r.1).bind fun x => (rdO q.2.2 q.1).bind fun y => (cmpD op x y).bind fun k => some (k, q.2.2)
  | [op, op'], [b, c] => if lastMarks [op, op'] [b, c] then none else
      (valE C F B a ρ).bind fun r => (valE C F B b r.2.2).bind fun q => (cmpD op r.2.1 q.2.1).bind fun k =>
      if k then (valE C F B c q.2.2).bind fun z => (cmpD op' q.2.1 z.2.1).bind fun k' => some (k', z.2.2) else some (false, q.2.2)
  | _, _ => none

def notDictD : PyData → Bool
  | .dict _ => false
  | _ => true
def isiT (d : PyData) (t : Str) : Option Bool :=
  if t = "int" then some (match d with | .int _ => true | .bool _ => true | _ => false)
  else if t = "bool" then some (match d with | .bool _ => true | _ => false)
  else if t = "str" then some (match d with | .str _ => true | _ => false)
  else if t = "tuple" then some (match d with | .tuple _ => true | _ => false)
  else if t = "list" then some (match d with | .list _ => true | _ => false)
  else none

def callN (C : Ctx) (F : Fns) (B : Bk) (f : Str) (args : List Expr) (kws : List Keyword) (ρ : En) : Option (Opn × Bool × En) :=
  if glB B.sc f then match C.T.find? fun e => e.name == f with
    | some e => callU C F B e args kws ρ
    | none => match biOf f with
      | some b => match kws, args with
        | [], _ :: _ => (opnEs F B args ρ).bind fun q => (rdOs q.2 q.1).bind fun ds => (biD b ds).bind fun d => some (resD q.2 d)
        | _, _ => none
      | none => match kws, args with
        | [], [a, .Name t _] => if star a then none else if f == "isinstance" && glB B.sc t then (F.o B a ρ).bind fun r => (rdO r.2.2 r.1).bind fun d => if notDictD d then (isiT d t).bind fun k => some (.val (.bool k), false, r.2.2) else none else none
        | _, _ => none
  else none
def callM (C : Ctx) (F : Fns) (B : Bk) (o : Expr) (m : Str) (args : List Expr) (ρ : En) : Option (Opn × Bool × En) :=
  if notCall o && decide (args.length < 10) then (F.o B o ρ).bind fun r =>
    if mutNames.contains m then match r.1 with
      | .slot i => match r.2.2[i]? with
        | some (some (true, .list _)) => (valEs C F B args r.2.2).bind fun q => match q.2[i]? with
          | some (some (true, d)) => (mutD m d q.1).bind fun z => some (.val z.2, false, q.2.set i (some (true, z.1)))
          | _ => none
        | _ => none
      | _ => none
    else match r.1 with
      | .val d => (opnEs F B args r.2.2).bind fun q => (rdOs q.2 q.1).bind fun ds => (metD m d ds).bind fun z => some (resD q.2 z)
      | _ => none
  else none

def isSl : Expr → Bool
  | .Slice _ _ _ _ => true
  | _ => false
/-- an expression, one step -/
def stepO (C : Ctx) (F : Fns) (B : Bk) (e : Expr) (ρ : En) : Option (Opn × Bool × En) :=
  match e with
  | .Constant c _ _ => (constD c).map fun d => (.val d, false, ρ)
  | .Name x _ => oName C B x ρ
  | .BinOp a op b _ => (F.o B a ρ).bind fun r => (F.o B b r.2.2).bind fun q => (rdO q.2.2 r.1).bind fun x => (rdO q.2.2 q.1).bind fun y => (binD op x y).bind fun d => some (resD q.2.2 d)
  | .UnaryOp op a _ => (F.o B a ρ).bind fun r => (rdO r.2.2 r.1).bind fun x => (unD op x).bind fun d => some (resD r.2.2 d)
  | .IfExp t a b _ => (F.t B t ρ).bind fun r => if r.1 then F.o B a r.2 else F.o B b r.2
  | .Tuple es _ _ => (valEs C F B es ρ).bind fun q => if q.1.length ≤ sizeLine then some (.val (.tuple q.1), false, q.2) else none
  | .List es _ => (valEs C F B es ρ).bind fun q => if q.1.length ≤ sizeLine then some (.val (.list q.1), true, q.2) else none
  | .Subscript a (.Slice lo hi none _) _ => (F.o B a ρ).bind fun r => (partE F B lo r.2.2).bind fun l => (partE F B hi l.2).bind fun h => (rdO h.2 r.1).bind fun d => (cutD d l.1 h.1).bind fun z => some (resD h.2 z)
  | .Subscript a i _ => if isSl i then none else (F.o B a ρ).bind fun r => (F.o B i r.2.2).bind fun q => (rdO q.2.2 r.1).bind fun x => (rdO q.2.2 q.1).bind fun y => (idxD x y).bind fun d => some (.val d, false, q.2.2)
  | .ListComp elt gs scope _ => (lcE C F B elt gs scope ρ).bind fun q => some (.val (.list q.1), true, q.2)
  | .BoolOp op es _ => boolE C F B op es ρ
  | .Compare a ops es _ => (cmpE C F B a ops es ρ).bind fun r => some (.val (.bool r.1), false, r.2)
  | .Call (.Name f _) args kws _ => callN C F B f args kws ρ
  | .Call (.Attribute o m ap) args [] p => if ap.endLine == p.line then callM C F B o m args ρ else none
  | _ => none
def stepT (C : Ctx) (F : Fns) (B : Bk) (e : Expr) (ρ : En) : Option (Bool × En) :=
  match e with
  | .UnaryOp .Not a _ => (F.t B a ρ).bind fun r => some (!r.1, r.2)
  | .BoolOp op es _ => boolT F B op es ρ
  | .IfExp _ _ _ _ => none
  | .Compare a ops es _ => cmpE C F B a ops es ρ
  | e => (F.o B e ρ).bind fun r => (rdO r.2.2 r.1).bind fun d => (truthD d).bind fun k => some (k, r.2.2)

/-! statements -/
def setE (C : Ctx) (B : Bk) (x : Str) (r : Bool × PyData × En) : Option En :=
  if B.loc x then (ixOf x C.N).bind fun i => if C.io.contains i then none else some (r.2.2.set i (some (r.1, r.2.1))) else none
def stmts (F : Fns) (B : Bk) : List Stmt → En → Option Out
  | [], ρ => some (.nx ρ)
  | s :: ss, ρ => (F.s B s ρ).bind fun r => match r with
    | .nx ρ1 => stmts F B ss ρ1
    | r => some r
def whileD (t : En → Option (Bool × En)) (b : En → Option Out) : Nat → En → Option Out
  | 0, _ => none
  | w + 1, ρ => (t ρ).bind fun r => if r.1 then (b r.2).bind fun q => match q with
      | .nx ρ1 => whileD t b w ρ1
      | .ct ρ1 => whileD t b w ρ1
      | .bk ρ1 => some (.nx ρ1)
      | .rt o k ρ1 => some (.rt o k ρ1)
    else some (.nx r.2)
def forD (g : PyData → En → Option En) (b : En → Option Out) : List PyData → En → Option Out
  | [], ρ => some (.nx ρ)
  | x :: xs, ρ => (g x ρ).bind fun ρ0 => (b ρ0).bind fun q => match q with
      | .nx ρ1 => forD g b xs ρ1
      | .ct ρ1 => forD g b xs ρ1
      | .bk ρ1 => some (.nx ρ1)
      | .rt o k ρ1 => some (.rt o k ρ1)
/-- op= of ints -/
def augD (op : Operator) (a b : Int) : Option Int :=
  match op with
  | .Add => some (a + b)
  | .Sub => some (a - b)
  | .Mult => if (decide (-(2 ^ 64) < a) && decide (a < 2 ^ 64)) || (decide (-(2 ^ 64) < b) && decide (b < 2 ^ 64)) then some (a * b) else none
  | .FloorDiv => if decide (0 < b) && decide (b < 1073741824) then some (a / b) else none
  | _ => none
def setIx (d : PyData) (i : PyData) (v : PyData) : Option PyData :=
  match d, i with
  | .list xs, .int k => (ixN xs.length k).map fun j => .list (xs.set j v)
  | _, _ => none
def noComp : Expr → Bool
  | .ListComp _ _ _ _ => false
  | .SetComp _ _ _ _ => false
  | .DictComp _ _ _ _ _ => false
  | _ => true
def notTup : Expr → Bool
  | .Tuple _ _ _ => false
  | .List _ _ => false
  | _ => true
/-- both are stored from the right -/
def swB (x y : Str) (px py : Pos) (a b : Expr) : Bool :=
  (px.line == py.line) && !(x == y) && !star a && !star b && !([a, b].all (foldedForSure 8)) && !([a, b].all (constantsAlone 8))
/-- [..] given to a name on its own line -/
def lcLine (B : Bk) (x : Str) (px : Pos) (scope : Scope) (pos : Pos) : Bool :=
  (B.sc.names.lookup x == some .local) && (px.line == pos.line)
def subE (C : Ctx) (F : Fns) (B : Bk) (o i e : Expr) (ρ : En) : Option Out :=
  (valE C F B e ρ).bind fun r => (F.o B o r.2.2).bind fun z => match z.1 with
      | .slot j => (F.o B i z.2.2).bind fun q => (rdO q.2.2 q.1).bind fun k => match q.2.2[j]? with
        | some (some (true, d)) => (setIx d k r.2.1).bind fun d' => some (.nx (q.2.2.set j (some (true, d'))))
        | _ => none
      | _ => none
def stepS (C : Ctx) (F : Fns) (B : Bk) (s : Stmt) (ρ : En) : Option Out :=
  match s with
  | .Pass _ => some (.nx ρ)
  | .Break _ => some (.bk ρ)
  | .Continue _ => some (.ct ρ)
  | .Expr (.Constant (.str _) _ _) _ => some (.nx ρ)
  | .Expr e _ => if noComp e then (F.o B e ρ).bind fun r => some (.nx r.2.2) else none
  | .Return none _ => some (.rt (.val .none) false ρ)
  | .Return (some e) _ => (F.o B e ρ).bind fun r => match r.1 with
    | .slot i => if C.io.contains i then none else some (.rt r.1 false r.2.2)
    | .val _ => some (.rt r.1 r.2.1 r.2.2)
  | .If t a b _ => (F.t B t ρ).bind fun r => if r.1 then stmts F B a r.2 else stmts F B b r.2
  | .While t b [] _ => whileD (F.t B t) (stmts F B b) C.w ρ
  | .For tg it b [] _ => if !notSet it then none else (iterE C F B it ρ).bind fun r => forD (tgD C B tg) (stmts F B b) r.1 r.2
  | .Assign [.Name x px] e pos => match e with
    | .ListComp elt gs scope p => (lcE C F B elt gs scope ρ).bind fun q => (setE C B x (true, .list q.1, q.2)).bind fun ρ1 => some (.nx ρ1)
    | e => if noComp e then (valE C F B e ρ).bind fun r => (setE C B x r).bind fun ρ1 => some (.nx ρ1) else none
  | .Assign [.Tuple es kt p] e pos => match e with
    | .Tuple vs k2 p2 => match es, vs with
      | [.Name x px, .Name y py], [a, b] => if (B.sc.names.lookup x == some .local) && (B.sc.names.lookup y == some .local) && B.loc x && B.loc y && swB x y px py a b then (valEs C F B [a, b] ρ).bind fun q => match q.1 with
          | [d, d'] => (ixOf x C.N).bind fun i => (ixOf y C.N).bind fun j => if C.io.contains i || C.io.contains j || i == j then none else some (.nx ((q.2.set i (some (false, d))).set j (some (false, d'))))
          | _ => none
        else none
      | _, _ => none
    | e => if noComp e then (valE C F B e ρ).bind fun r => (tgD C B (.Tuple es kt p) r.2.1 r.2.2).bind fun ρ1 => some (.nx ρ1) else none
  | .Assign [.Subscript o i sp] e pos => if noComp e && isSl i == false then subE C F B o i e ρ else none
  | .AugAssign (.Name x px) op e pos => if visB B.sc x && B.loc x then (ixOf x C.N).bind fun i => if C.io.contains i then none else match ρ[i]? with
      | some (some (false, .int a)) => (F.o B e ρ).bind fun r => match r.1 with
        | .val (.int b) => (augD op a b).bind fun z => some (.nx (r.2.2.set i (some (false, .int z))))
        | _ => none
      | _ => none
    else none
  | _ => none

def stepF (C : Ctx) (F : Fns) : Fns := ⟨stepO C F, stepT C F, stepS C F⟩
def noF : Fns := ⟨fun _ _ _ => none, fun _ _ _ => none, fun _ _ _ => none⟩
def fns (C : Ctx) : Nat → Fns
  | 0 => noF
  | n + 1 => stepF C (fns C n)
end Pf


namespace Pf
open PySem PySem.Spec L2

/-! ## what a def promises, and its calls -/
def ag (io : List Bool) (ds : List PyData) : En := (io.zip ds).map some
abbrev sv (vs : List V) : St := vs.map some
def spF (K : PySem.W.Frag) (Γ : Sem3) (name : Str) (io : List Bool) : Sp := fun vs H Q _ => ∃ (Z : Addr → Prop) (ds : List PyData) (b : Bool) (r : PyData) (ds' : List PyData),
  Stt K [] Z (ag io ds) (sv vs) H ∧ ds.length = io.length ∧ Γ name ds = some (b, r, ds') ∧ ds'.length = ds.length ∧
  ∀ v H', Val K [⟨H, OwnA (ag io ds) (sv vs)⟩] Z (ag io ds') (sv vs) b v r H' → Q v H'
theorem ag_length {io : List Bool} {ds : List PyData} (h : ds.length = io.length) : (ag io ds).length = io.length := by simp [ag, h]
theorem ag_get {io : List Bool} {ds : List PyData} {i : Nat} {b : Bool} {d : PyData} : (ag io ds)[i]? = some (some (b, d)) ↔ io[i]? = some b ∧ ds[i]? = some d := by
  unfold ag
  rw [List.getElem?_map]
  cases e : (io.zip ds)[i]? with
  | none =>
    rw [List.getElem?_eq_none_iff, List.length_zip] at e
    constructor
    · intro h; cases h
    · rintro ⟨h1, h2⟩
      have q1 := (List.getElem?_eq_some_iff.mp h1).1
      have q2 := (List.getElem?_eq_some_iff.mp h2).1
      omega
  | some z =>
    obtain ⟨b', d'⟩ := z
    rw [List.getElem?_zip_eq_some] at e
    constructor
    · intro h
      cases h
      exact e
    · rintro ⟨h1, h2⟩
      rw [e.1] at h1
      rw [e.2] at h2
      cases h1
      cases h2
      rfl

structure Fk (P : Program) (w : World) (K : PySem.W.Frag) (mg : Str → Option Value) (base : Heap) (k : Nat) (f : Addr) (fd : FuncData) (ps : List Str) (sp : Sp) : Prop where
  lens : ∀ vs H Q E, sp vs H Q E → vs.length = ps.length
  runs : ∀ (A : Around) (outer : List Env) (s : Shared) (H : Hp) (args : Args) (us : List Value) (vs : List V) (Q : VK) (E : XK), A.guards = some [] → Room k A → Env0 P w K mg base A outer s H →
    BindsTo s fd args (ps.zip us) → Vals vs us → sp vs H Q E → codeAny (model P w) A (.call (.ref f) args) (CR CX0 outer P w H s Q E) s
theorem Fk.mono {P : Program} {w : World} {K : PySem.W.Frag} {mg : Str → Option Value} {base : Heap} {j k : Nat} {f : Addr} {fd : FuncData} {ps : List Str} {sp : Sp} (F : Fk P w K mg base j f fd ps sp) (h : j ≤ k) :
    Fk P w K mg base k f fd ps sp := ⟨F.lens, fun A outer s H args us vs Q E hg hr => F.runs A outer s H args us vs Q E hg (hr.mono h)⟩
theorem guards_deeper (A : Around) (env : Env) : (A.deeper env).guards = A.guards := rfl

structure FkAt (P : Program) (w : World) (K : PySem.W.Frag) (mg : Str → Option Value) (base : Heap) (Γ : Sem3) (k : Nat) (e : FE) : Prop where
  ex : ∃ (f : Addr) (fd : FuncData) (dvs : List V) (dus : List Value), Fk P w K mg base k f fd e.ps (spF K Γ e.name e.io) ∧ mg e.name = some (.ref f) ∧ PySem.W.keepIn K (.ref f) = true ∧ Vals dvs dus ∧
    (∀ (i : Nat) (d : PyData), e.dfl[i]? = some d → ∃ v, dvs[i]? = some v ∧ ∀ (H : Hp) (U : Addr → Prop), Rep K H U v d) ∧ dvs.length = e.dfl.length ∧
    ∀ p ∈ e.pats, ∀ (s : Shared) (us ws : List Value), K.In s.heap → us.length = p.n → ws.length = p.ks.length → ∃ full, arr us ws dus p.src = some full ∧ BindsTo s fd ⟨us, p.ks.zip ws⟩ (e.ps.zip full)
theorem FkAt.mono {P : Program} {w : World} {K : PySem.W.Frag} {mg : Str → Option Value} {base : Heap} {Γ : Sem3} {j k : Nat} {e : FE} (F : FkAt P w K mg base Γ j e) (h : j ≤ k) : FkAt P w K mg base Γ k e := by
  obtain ⟨f, fd, dvs, dus, h1, h2⟩ := F.ex
  exact ⟨f, fd, dvs, dus, h1.mono h, h2⟩

section
variable {X : Cx} {pins : List (Addr × Obj)} {σ : St} {H : Hp} {s : Shared} {k : Nat} {f : Addr} {fd : FuncData} {ps : List Str} {sp : Sp} {E : XK}
theorem run_fk {Q : VK} {args : Args} {us : List Value} {vs : List V} (F : Fk X.prog X.w X.K X.mg X.base k f fd ps sp) (hr : Room k X.A) (hg : X.A.guards = some []) (I : Inv X pins σ H s)
    (hb : BindsTo s fd args (ps.zip us)) (r : Vals vs us) (h : sp vs H Q E) : wpAny (model X.prog X.w) X.A (call (.ref f) args.pos args.kw) (EP X pins σ Q) X.xe s := by
  refine wpAny_call (codeAny_mono (F.runs X.A X.stack s H args us vs Q E hg hr I.env0 hb r h) fun q s' hq => ?_)
  cases q with
  | error e => exact False.elim hq
  | ok fl =>
    cases fl with
    | ret u => exact I.after hq
    | next => exact False.elim hq
    | brk => exact False.elim hq
    | cont => exact False.elim hq
end

/-! ### the arguments in the parameters' order -/
theorem pickS_get {α : Type} {us ws ds : List α} {s : Src} {x : α} : pickS us ws ds s = some x ↔ (∃ i, s = .pos i ∧ us[i]? = some x) ∨ (∃ i, s = .kw i ∧ ws[i]? = some x) ∨ ∃ i, s = .dfl i ∧ ds[i]? = some x := by
  cases s <;> simp [pickS]
theorem arr_vals {vs zs dvs : List V} {us ws dus : List Value} (r1 : Vals vs us) (r2 : Vals zs ws) (r3 : Vals dvs dus) : ∀ {src : List Src} {fv : List V} {fu : List Value}, arr vs zs dvs src = some fv → arr us ws dus src = some fu → Vals fv fu
  | [], fv, fu, h1, h2 => by
    simp only [arr] at h1 h2
    cases h1
    cases h2
    exact .nil
  | s :: src, fv, fu, h1, h2 => by
    simp only [arr] at h1 h2
    cases e1 : pickS vs zs dvs s with
    | none => rw [e1] at h1; cases h1
    | some x =>
      rw [e1] at h1
      cases e2 : arr vs zs dvs src with
      | none => rw [e2] at h1; cases h1
      | some xs =>
        rw [e2] at h1
        cases h1
        cases g1 : pickS us ws dus s with
        | none => rw [g1] at h2; cases h2
        | some y =>
          rw [g1] at h2
          cases g2 : arr us ws dus src with
          | none => rw [g2] at h2; cases h2
          | some ys =>
            rw [g2] at h2
            cases h2
            refine .cons ?_ (arr_vals r1 r2 r3 e2 g2)
            have rel : ∀ {as : List V} {bs : List Value} {i : Nat} {a : V} {b : Value}, Vals as bs → as[i]? = some a → bs[i]? = some b → RelV a b := fun {as bs i a b} r ha hb => by
              obtain ⟨u, hu, q⟩ := r.get ha
              rw [hb] at hu
              cases hu
              exact q
            rcases pickS_get.mp e1 with ⟨i, rfl, a1⟩ | ⟨i, rfl, a1⟩ | ⟨i, rfl, a1⟩
            · exact rel r1 a1 g1
            · exact rel r2 a1 g1
            · exact rel r3 a1 g1

/-! ### where one stands -/
structure Fits (X : Cx) (C : Ctx) (B : Bk) (k : Nat) : Prop where
  hN : X.N = C.N
  nd : C.N.Nodup
  hsc : X.env.scope = B.sc
  calm : X.calm = true
  room : Room k X.A
  grd : X.A.guards = some []
  xe : X.xe = fun _ _ => False
  fn : ∀ x, B.loc x = true → Loc B.sc x ∧ (X.fn x = true ∨ B.sc.names.lookup x = some .local)
  blt : ∀ b ∈ bis, X.mg b.name = none
  btx : X.mg "range" = none ∧ X.mg "isinstance" = none ∧ X.mg "int" = none ∧ X.mg "bool" = none ∧ X.mg "str" = none ∧ X.mg "tuple" = none ∧ X.mg "list" = none
  tab : ∀ e ∈ C.T, FkAt X.prog X.w X.K X.mg X.base C.Γ k e
  glb : ∀ p ∈ C.G, ∃ v u, X.mg p.1 = some u ∧ RelV v u ∧ ∀ (H : Hp) (U : Addr → Prop), Rep X.K H U v p.2
section
variable {X : Cx} {C : Ctx} {B : Bk} {k : Nat}
theorem Fits.own (F : Fits X C B k) : PassesOwn (model X.prog X.w) X.A X.env X.xe := by
  rw [F.xe]
  exact PassesOwn.never
theorem ixOf_get {x : Str} : ∀ {N : List Str} {i : Nat}, ixOf x N = some i → N[i]? = some x
  | [], i, h => by cases h
  | y :: r, i, h => by
    unfold ixOf at h
    split at h
    · rename_i e
      cases h
      subst e
      rfl
    · cases e : ixOf x r with
      | none => rw [e] at h; cases h
      | some j =>
        rw [e] at h
        cases h
        simpa using ixOf_get e
theorem Fits.name (F : Fits X C B k) {x : Str} {i : Nat} (h : ixOf x C.N = some i) : X.N[i]? = some x := by
  rw [F.hN]
  exact ixOf_get h
theorem Fits.ndX (F : Fits X C B k) : X.N.Nodup := by
  rw [F.hN]
  exact F.nd
theorem visB_vis {sc : Scope} {x : Str} (h : visB sc x = true) : Vis sc x ∧ (x == ("__debug__" : Str)) = false ∧ (x == ("__classdict__" : Str)) = false := by
  unfold visB at h
  simp only [Bool.and_eq_true, Bool.not_eq_true'] at h
  refine ⟨?_, h.1.2, h.2⟩
  have h1 := h.1.1
  split at h1
  · rename_i e; exact .inl e
  · rename_i e; exact .inr (.inl e)
  · rename_i e; exact .inr (.inr e)
  · cases h1
theorem glB_gl {sc : Scope} {x : Str} (h : glB sc x = true) : sc.names.lookup x = some .globalImplicit ∧ (x == ("__debug__" : Str)) = false ∧ x ≠ "__name__" := by
  unfold glB at h
  simp only [Bool.and_eq_true, Bool.not_eq_true', beq_iff_eq] at h
  refine ⟨h.1.1, h.1.2, fun e => ?_⟩
  subst e
  simp at h
theorem Fits.gl (F : Fits X C B k) {x : Str} (h : glB B.sc x = true) : Gl X x := by
  show X.env.scope.names.lookup x = _
  rw [F.hsc]
  exact (glB_gl h).1
end
end Pf


namespace Pf
open PySem PySem.Spec L2

theorem _root_.L2.PE.imp {X : Cx} {e : Expr} {t t' : TE} (h : PE X e t) (i : ∀ σ H Q, t' σ H Q → t σ H Q) : PE X e t' := ⟨fun pins s σ H Q I q => h.run pins s σ H Q I (i _ _ _ q)⟩
theorem _root_.L2.PT.imp {X : Cx} {e : Expr} {t t' : TT} (h : PT X e t) (i : ∀ σ H Q, t' σ H Q → t σ H Q) : PT X e t' := ⟨fun pins s σ H Q I q => h.run pins s σ H Q I (i _ _ _ q)⟩
theorem _root_.L2.PW.imp {X : Cx} {e : Expr} {t t' : TT} (h : PW X e t) (i : ∀ σ H Q, t' σ H Q → t σ H Q) : PW X e t' := ⟨fun wh pins s σ H Q I q => h.run wh pins s σ H Q I (i _ _ _ q)⟩
theorem _root_.L2.PA.imp {X : Cx} {e : List Expr} {t t' : TA} (h : PA X e t) (i : ∀ σ H Q, t' σ H Q → t σ H Q) : PA X e t' := ⟨fun pos pins s σ H Q I q => h.run pos pins s σ H Q I (i _ _ _ q)⟩
theorem _root_.L2.PS.imp {X : Cx} {e : Stmt} {t t' : TS} (h : PS X e t) (i : ∀ D σ H, t' D σ H → t D σ H) : PS X e t' := ⟨fun pins s σ H D I q => h.run pins s σ H D I (i _ _ _ q)⟩
theorem _root_.L2.PSs.imp {X : Cx} {e : List Stmt} {t t' : TS} (h : PSs X e t) (i : ∀ D σ H, t' D σ H → t D σ H) : PSs X e t' := ⟨fun pins s σ H D I q => h.run pins s σ H D I (i _ _ _ q)⟩
theorem _root_.L2.PI.imp {X : Cx} {tg e : Expr} {t t' : TI} (h : PI X tg e t) (i : ∀ σ H Q, t' σ H Q → t σ H Q) : PI X tg e t' := ⟨fun pins s σ H Q I q => h.run pins s σ H Q I (i _ _ _ q)⟩
theorem _root_.L2.PE.no {X : Cx} {e : Expr} {t : TE} (h : ∀ σ H Q, t σ H Q → False) : PE X e t := ⟨fun pins s σ H Q I q => (h _ _ _ q).elim⟩
theorem _root_.L2.PT.no {X : Cx} {e : Expr} {t : TT} (h : ∀ σ H Q, t σ H Q → False) : PT X e t := ⟨fun pins s σ H Q I q => (h _ _ _ q).elim⟩
theorem _root_.L2.PS.no {X : Cx} {e : Stmt} {t : TS} (h : ∀ D σ H, t D σ H → False) : PS X e t := ⟨fun pins s σ H D I q => (h _ _ _ q).elim⟩

/-! ## readings -/
def OV (K : PySem.W.Frag) (P : List Bs) (Z : Addr → Prop) (σ : St) (r : Opn × Bool × En) (v : V) (H : Hp) : Prop :=
  match r.1 with
  | .slot i => Stt K P Z r.2.2 σ H ∧ σ[i]? = some (some v) ∧ ∃ d, r.2.2[i]? = some (some (true, d))
  | .val d => Val K P Z r.2.2 σ r.2.1 v d H
def OA (K : PySem.W.Frag) (H : Hp) (ρ : En) (σ : St) (Z : Addr → Prop) : Opn → V → Prop
  | .slot i, v => σ[i]? = some (some v)
  | .val d, v => Rep K H (UU ρ σ Z) v d
def tO (K : PySem.W.Frag) (f : En → Option (Opn × Bool × En)) : TE := fun σ H Q => ∃ P Z ρ r, Stt K P Z ρ σ H ∧ f ρ = some r ∧ ∀ v H', OV K P Z σ r v H' → Shr ρ r.2.2 → Q v H'
def tV (K : PySem.W.Frag) (f : En → Option (Bool × PyData × En)) : TE := fun σ H Q => ∃ P Z ρ r, Stt K P Z ρ σ H ∧ f ρ = some r ∧ ∀ v H', Val K P Z r.2.2 σ r.1 v r.2.1 H' → Shr ρ r.2.2 → Q v H'
def tT (K : PySem.W.Frag) (f : En → Option (Bool × En)) : TT := fun σ H Q => ∃ P Z ρ r, Stt K P Z ρ σ H ∧ f ρ = some r ∧ ∀ H', Stt K P Z r.2 σ H' → Shr ρ r.2 → Q r.1 H'
def tVs (K : PySem.W.Frag) (f : En → Option (List PyData × En)) : TA := fun σ H Q => ∃ P Z ρ r, Stt K P Z ρ σ H ∧ f ρ = some r ∧ ∀ vs H', Stt K P Z r.2 σ H' → RepAll K H' (UU r.2 σ Z) vs r.1 → Shr ρ r.2 → Q vs H'
inductive OAs (K : PySem.W.Frag) (H : Hp) (ρ : En) (σ : St) (Z : Addr → Prop) : List Opn → List V → Prop
  | nil : OAs K H ρ σ Z [] []
  | cons {o : Opn} {v : V} {os : List Opn} {vs : List V} : OA K H ρ σ Z o v → OAs K H ρ σ Z os vs → OAs K H ρ σ Z (o :: os) (v :: vs)
def tOs (K : PySem.W.Frag) (f : En → Option (List Opn × En)) : TA := fun σ H Q => ∃ P Z ρ r, Stt K P Z ρ σ H ∧ f ρ = some r ∧ ∀ vs H', Stt K P Z r.2 σ H' → OAs K H' r.2 σ Z r.1 vs → Shr ρ r.2 → Q vs H'
inductive OpdAll (K : PySem.W.Frag) (H : Hp) (U : Addr → Prop) : List V → List PyData → Prop
  | nil : OpdAll K H U [] []
  | cons {v : V} {d : PyData} {vs : List V} {ds : List PyData} : Opd K H U v d → OpdAll K H U vs ds → OpdAll K H U (v :: vs) (d :: ds)
section
variable {K : PySem.W.Frag} {P : List Bs} {Z : Addr → Prop} {ρ ρ' : En} {σ : St} {H H' : Hp}
theorem OV.stt {r : Opn × Bool × En} {v : V} (h : OV K P Z σ r v H) : Stt K P Z r.2.2 σ H ∧ OA K H r.2.2 σ Z r.1 v := by
  obtain ⟨o, b, ρ⟩ := r
  cases o with
  | slot i => exact ⟨h.1, h.2.1⟩
  | val d => exact Val.share h
theorem OA.later {ρ2 : En} {H2 : Hp} {o : Opn} {v : V} (h : OA K H ρ σ Z o v) (x : Stt K (⟨H, OwnA ρ σ⟩ :: P) Z ρ2 σ H2) (sub : Shr ρ ρ2) : OA K H2 ρ2 σ Z o v := by
  cases o with
  | slot i => exact h
  | val d => exact Pf.later h x sub
theorem OA.opd {o : Opn} {v : V} {d : PyData} (h : OA K H ρ σ Z o v) (x : Stt K P Z ρ σ H) (e : rdO ρ o = some d) : Opd K H (UU ρ σ Z) v d := by
  cases o with
  | val d' =>
    cases e
    exact .rep h
  | slot i =>
    have h : σ[i]? = some (some v) := h
    simp only [rdO] at e
    split at e
    · rename_i b d' hi
      cases e
      cases b with
      | true =>
        obtain ⟨p, h2, c, _⟩ := x.ow i d hi
        rw [h] at h2
        cases h2
        exact .own c
      | false =>
        obtain ⟨v', h2, r⟩ := x.sh i d hi
        rw [h] at h2
        cases h2
        exact .rep r
    · cases e
theorem OAs.opd : ∀ {os : List Opn} {vs : List V} {ds : List PyData}, OAs K H ρ σ Z os vs → Stt K P Z ρ σ H → rdOs ρ os = some ds → OpdAll K H (UU ρ σ Z) vs ds
  | [], _, ds, h, _, e => by
    cases h
    cases e
    exact .nil
  | o :: os, _, ds, h, x, e => by
    cases h with
    | cons h1 h2 =>
      simp only [rdOs] at e
      cases e1 : rdO ρ o with
      | none => rw [e1] at e; cases e
      | some d =>
        rw [e1] at e
        cases e2 : rdOs ρ os with
        | none => rw [e2] at e; cases e
        | some ds' =>
          rw [e2] at e
          cases e
          exact .cons (h1.opd x e1) (OAs.opd h2 x e2)
theorem newV_res {d : PyData} {Q : VK} (x : Stt K P Z ρ σ H) (q : ∀ v H', Val K P Z ρ σ (newB d) v d H' → Q v H') : NewV K H (UU ρ σ Z) d Q := by
  cases d with
  | list ds => exact fun vs p r hp => q _ _ (Val.newLst x hp r)
  | tuple ds => exact ⟨fun vs p r hp => q _ _ (Val.newTup x hp r), fun v r => q _ _ ⟨x, r⟩⟩
  | _ => exact fun v r => q _ _ ⟨x, r⟩
theorem tru_of {U : Addr → Prop} {v : V} {d : PyData} {k : Bool} (h : Opd K H U v d) (e : truthD d = some k) : TruV K v H k := by
  unfold truthD at e
  split at e
  · cases e
    obtain rfl := h.non_inv
    exact rfl
  · cases e
    obtain rfl := h.bl_inv
    exact rfl
  · cases e
    obtain rfl := h.int_inv
    exact rfl
  · split at e
    · rename_i hz
      cases e
      obtain rfl := h.str_inv
      exact ⟨hz, rfl⟩
    · cases e
  · cases e
    obtain ⟨a, xs, rfl, h1, r⟩ := h.lst_inv
    refine .inl ⟨xs, SqL.of h1, ?_⟩
    cases r <;> rfl
  · cases e
    obtain ⟨a, xs, rfl, h1, r⟩ := h.tup_inv
    refine .inr (.inl ⟨xs, h1.sq, ?_⟩)
    cases r <;> rfl
  · cases e
end
theorem bind_some {α β : Type} {x : Option α} {f : α → Option β} {b : β} (h : x.bind f = some b) : ∃ a, x = some a ∧ f a = some b := by
  cases x with
  | none => cases h
  | some a => exact ⟨a, rfl, h⟩
theorem map_some {α β : Type} {x : Option α} {f : α → β} {b : β} (h : x.map f = some b) : ∃ a, x = some a ∧ f a = b := by
  cases x with
  | none => cases h
  | some a => exact ⟨a, rfl, Option.some.inj h⟩
theorem ite_some {α : Type} {c : Bool} {x : Option α} {b : α} (h : (if c = true then x else none) = some b) : c = true ∧ x = some b := by
  cases c with
  | true => exact ⟨rfl, by simpa using h⟩
  | false => simp at h
theorem ite_some' {α : Type} {c : Bool} {x : Option α} {b : α} (h : (if c = true then none else x) = some b) : c = false ∧ x = some b := by
  cases c with
  | true => simp at h
  | false => exact ⟨rfl, by simpa using h⟩

/-! ## expressions -/
section
variable {X : Cx} {C : Ctx} {B : Bk} {k : Nat} {F : Fns}
structure SoO (X : Cx) (C : Ctx) (F : Fns) (B : Bk) : Prop where
  o : ∀ e, PE X e (tO X.K (F.o B e))
  t : ∀ e, PT X e (tT X.K (F.t B e))
theorem SoO.v (S : SoO X C F B) (e : Expr) : PE X e (tV X.K (valE C F B e)) := by
  refine (S.o e).imp fun σ H Q h => ?_
  obtain ⟨P, Z, ρ, r, x, e1, q⟩ := h
  obtain ⟨r0, e0, e2⟩ := bind_some e1
  refine ⟨P, Z, ρ, r0, x, e0, fun v H' ov sh => ?_⟩
  obtain ⟨o, b, ρ1⟩ := r0
  cases o with
  | val d =>
    simp only [toV] at e2
    cases e2
    exact q v H' ov sh
  | slot i =>
    simp only [toV] at e2
    obtain ⟨_, e2⟩ := ite_some' e2
    split at e2
    · rename_i b' d' hi
      cases e2
      obtain ⟨s1, hv, _⟩ := ov
      obtain ⟨v', h1, h2, h3⟩ := s1.val hi
      rw [hv] at h1
      cases h1
      exact q v H' ⟨h2, h3⟩ (sh.trans (frz_shr _ _))
    · cases e2
theorem star_no {e : Expr} {es : List Expr} {env : Env} (h : star e = false) : starEach (e :: es) env = (false, eval e env) :: starEach es env := by
  cases e <;> first | rfl | (simp [star] at h)
theorem tV_nil {K : PySem.W.Frag} : True := trivial
theorem pa_vals (S : SoO X C F B) : ∀ es, PA X es (tVs X.K (valEs C F B es))
  | [] => by
    refine pa_nil.imp fun σ H Q h => ?_
    obtain ⟨P, Z, ρ, r, x, e, q⟩ := h
    cases e
    exact q [] H x .nil (.refl ρ)
  | e :: es => by
    by_cases hs : star e = true
    · refine ⟨fun pos pins s σ H Q I h => ?_⟩
      obtain ⟨P, Z, ρ, r, x, e1, q⟩ := h
      simp only [valEs, hs, if_true] at e1
      cases e1
    · have hs : star e = false := by simpa using hs
      refine (pa_cons (S.v e) (pa_vals S es) (star_no hs)).imp fun σ H Q h => ?_
      obtain ⟨P, Z, ρ, r, x, e1, q⟩ := h
      simp only [valEs, hs] at e1
      obtain ⟨r0, e0, e2⟩ := bind_some (by simpa using e1)
      obtain ⟨q0, e3, e4⟩ := bind_some e2
      cases e4
      refine ⟨P, Z, ρ, r0, x, e0, fun v H1 v1 sh => ?_⟩
      obtain ⟨s1, r1⟩ := v1.share
      refine ⟨_, Z, r0.2.2, q0, s1.push, e3, fun vs H2 s2 rs sh2 => ?_⟩
      exact q (v :: vs) H2 s2.pop (.cons (Pf.later r1 s2 sh2) rs) (sh.trans sh2)
theorem pa_opns (S : SoO X C F B) : ∀ es, PA X es (tOs X.K (opnEs F B es))
  | [] => by
    refine pa_nil.imp fun σ H Q h => ?_
    obtain ⟨P, Z, ρ, r, x, e, q⟩ := h
    cases e
    exact q [] H x .nil (.refl ρ)
  | e :: es => by
    by_cases hs : star e = true
    · refine ⟨fun pos pins s σ H Q I h => ?_⟩
      obtain ⟨P, Z, ρ, r, x, e1, q⟩ := h
      simp only [opnEs, hs, if_true] at e1
      cases e1
    · have hs : star e = false := by simpa using hs
      refine (pa_cons (S.o e) (pa_opns S es) (star_no hs)).imp fun σ H Q h => ?_
      obtain ⟨P, Z, ρ, r, x, e1, q⟩ := h
      simp only [opnEs, hs] at e1
      obtain ⟨r0, e0, e2⟩ := bind_some (by simpa using e1)
      obtain ⟨q0, e3, e4⟩ := bind_some e2
      cases e4
      refine ⟨P, Z, ρ, r0, x, e0, fun v H1 v1 sh => ?_⟩
      obtain ⟨s1, r1⟩ := v1.stt
      refine ⟨_, Z, r0.2.2, q0, s1.push, e3, fun vs H2 s2 rs sh2 => ?_⟩
      exact q (v :: vs) H2 s2.pop (.cons (r1.later s2 sh2) rs) (sh.trans sh2)
/-- two operands, then what one does with them -/
theorem two (S : SoO X C F B) {a b : Expr} {P : List Bs} {Z : Addr → Prop} {ρ : En} {σ : St} {H : Hp} {r q : Opn × Bool × En} {R : V → V → Hp → Prop} (x : Stt X.K P Z ρ σ H) (e1 : F.o B a ρ = some r) (e2 : F.o B b r.2.2 = some q)
    (h : ∀ v w H', Stt X.K P Z q.2.2 σ H' → OA X.K H' q.2.2 σ Z r.1 v → OA X.K H' q.2.2 σ Z q.1 w → Shr ρ q.2.2 → R v w H') : tO X.K (F.o B a) σ H fun v H1 => tO X.K (F.o B b) σ H1 fun w H2 => R v w H2 := by
  refine ⟨P, Z, ρ, r, x, e1, fun v H1 v1 sh => ?_⟩
  obtain ⟨s1, r1⟩ := v1.stt
  refine ⟨_, Z, r.2.2, q, s1.push, e2, fun w H2 v2 sh2 => ?_⟩
  obtain ⟨s2, r2⟩ := v2.stt
  exact h v w H2 s2.pop (r1.later s2 sh2) r2 (sh.trans sh2)
theorem st_bin (S : SoO X C F B) (a : Expr) (op : Operator) (b : Expr) (p : Pos) : PE X (.BinOp a op b p) (tO X.K (stepO C F B (.BinOp a op b p))) := by
  refine (pe_op (bin_ok op) (S.o a) (S.o b)).imp fun σ H Q h => ?_
  obtain ⟨P, Z, ρ, r, x, e, q⟩ := h
  obtain ⟨r1, e1, e⟩ := bind_some e
  obtain ⟨r2, e2, e⟩ := bind_some e
  obtain ⟨d1, e3, e⟩ := bind_some e
  obtain ⟨d2, e4, e⟩ := bind_some e
  obtain ⟨d, e5, e⟩ := bind_some e
  cases e
  exact two S x e1 e2 fun v w H' s2 o1 o2 sh => ⟨_, _, _, _, o1.opd s2 e3, o2.opd s2 e4, e5, newV_res s2 fun z H3 vl => q z H3 vl sh⟩
theorem st_un (S : SoO X C F B) (op : UnaryOp) (a : Expr) (p : Pos) : PE X (.UnaryOp op a p) (tO X.K (stepO C F B (.UnaryOp op a p))) := by
  have no : ∀ op', op' = op → (∀ d, unD op d = none) → PE X (.UnaryOp op a p) (tO X.K (stepO C F B (.UnaryOp op a p))) := fun op' _ hn => .no fun σ H Q h => by
    obtain ⟨P, Z, ρ, r, x, e, q⟩ := h
    obtain ⟨r1, e1, e⟩ := bind_some e
    obtain ⟨d1, e3, e⟩ := bind_some e
    rw [hn] at e
    cases e
  cases op with
  | Invert => exact no _ rfl fun d => by cases d <;> rfl
  | UAdd => exact no _ rfl fun d => by cases d <;> rfl
  | USub =>
    refine (pe_un un_neg (S.o a)).imp fun σ H Q h => ?_
    obtain ⟨P, Z, ρ, r, x, e, q⟩ := h
    obtain ⟨r1, e1, e⟩ := bind_some e
    obtain ⟨d1, e3, e⟩ := bind_some e
    obtain ⟨d, e5, e⟩ := bind_some e
    cases e
    refine ⟨P, Z, ρ, r1, x, e1, fun v H1 v1 sh => ?_⟩
    obtain ⟨s1, o1⟩ := v1.stt
    have o1 := o1.opd s1 e3
    cases d1 with
    | int i =>
      cases e5
      obtain rfl := o1.int_inv
      exact ⟨i, rfl, q _ _ ⟨s1, .int _⟩ sh⟩
    | _ => cases e5
  | Not =>
    refine (pe_notT (S.o a)).imp fun σ H Q h => ?_
    obtain ⟨P, Z, ρ, r, x, e, q⟩ := h
    obtain ⟨r1, e1, e⟩ := bind_some e
    obtain ⟨d1, e3, e⟩ := bind_some e
    obtain ⟨d, e5, e⟩ := bind_some e
    cases e
    refine ⟨P, Z, ρ, r1, x, e1, fun v H1 v1 sh => ?_⟩
    obtain ⟨s1, o1⟩ := v1.stt
    have o1 := o1.opd s1 e3
    obtain ⟨kk, e6, e7⟩ := map_some (show (truthD d1).map (fun k => PyData.bool (!k)) = some d from e5)
    subst e7
    exact ⟨kk, tru_of o1 e6, q _ _ ⟨s1, .bl _⟩ sh⟩
theorem st_const (c : Const) (j : Nat) (p : Pos) : PE X (.Constant c j p) (tO X.K (stepO C F B (.Constant c j p))) := by
  have go : ∀ (v : V) (d : PyData), PE X (.Constant c j p) (tC v) → constD c = some d → (∀ (H : Hp) (U : Addr → Prop), Rep X.K H U v d) → PE X (.Constant c j p) (tO X.K (stepO C F B (.Constant c j p))) := fun v d h e r =>
    h.imp fun σ H Q h => by
      obtain ⟨P, Z, ρ, r', x, e', q⟩ := h
      simp only [stepO, e] at e'
      cases e'
      exact q v H ⟨x, r _ _⟩ (.refl ρ)
  have no : constD c = none → PE X (.Constant c j p) (tO X.K (stepO C F B (.Constant c j p))) := fun e => .no fun σ H Q h => by
    obtain ⟨P, Z, ρ, r, x, e', q⟩ := h
    simp only [stepO, e] at e'
    cases e'
  cases c with
  | none => exact go .non .none pe_non rfl fun _ _ => .non
  | bool b => exact go (.bl b) (.bool b) pe_bl rfl fun _ _ => .bl b
  | int i => exact go (.int i) (.int i) pe_int rfl fun _ _ => .int i
  | str z => exact go (.str z) (.str z) pe_str rfl fun _ _ => .str z
  | _ => exact no rfl
theorem st_name (T : Fits X C B k) (x : Str) (p : Pos) : PE X (.Name x p) (tO X.K (stepO C F B (.Name x p))) := by
  by_cases hv : visB B.sc x = true
  · obtain ⟨h1, h2, h3⟩ := visB_vis hv
    cases hi : ixOf x C.N with
    | none =>
      refine .no fun σ H Q h => ?_
      obtain ⟨P, Z, ρ, r, s, e, q⟩ := h
      simp only [stepO, oName, hv, if_true, hi] at e
      cases e
    | some i =>
      refine PE.imp (pe_var (i := i) (T.name hi) (by rw [T.hsc]; exact h1) h2 h3) fun σ H Q h => ?_
      obtain ⟨P, Z, ρ, r, s, e, q⟩ := h
      simp only [stepO, oName, hv, if_true, hi, Option.bind_some] at e
      split at e
      · rename_i d hd
        cases e
        obtain ⟨a, g1, c, _⟩ := s.ow i d hd
        exact ⟨_, g1, q _ _ ⟨s, g1, d, hd⟩ (.refl ρ)⟩
      · rename_i d hd
        cases e
        obtain ⟨v, g1, c⟩ := s.sh i d hd
        exact ⟨_, g1, q _ _ ⟨s, c⟩ (.refl ρ)⟩
      · cases e
  · by_cases hg : glB B.sc x = true
    · cases hl : C.G.lookup x with
      | none =>
        refine .no fun σ H Q h => ?_
        obtain ⟨P, Z, ρ, r, s, e, q⟩ := h
        simp only [stepO, oName, hv, hg, if_true, hl] at e
        cases e
      | some d =>
        obtain ⟨v, u, m1, m2, m3⟩ := T.glb (x, d) (PySem.mem_of_lookup hl)
        refine (pe_glob (T.gl hg) m1 m2 (glB_gl hg).2.1).imp fun σ H Q h => ?_
        obtain ⟨P, Z, ρ, r, s, e, q⟩ := h
        simp only [stepO, oName, hv, hg, if_true, hl] at e
        cases e
        exact q v H ⟨s, m3 _ _⟩ (.refl ρ)
    · refine .no fun σ H Q h => ?_
      obtain ⟨P, Z, ρ, r, s, e, q⟩ := h
      simp only [stepO, oName, hv, hg] at e
      cases e
theorem st_ifx (S : SoO X C F B) (t a b : Expr) (p : Pos) : PE X (.IfExp t a b p) (tO X.K (stepO C F B (.IfExp t a b p))) := by
  refine (pe_ifExp (S.t t) (S.o a) (S.o b)).imp fun σ H Q h => ?_
  obtain ⟨P, Z, ρ, r, x, e, q⟩ := h
  obtain ⟨r1, e1, e⟩ := bind_some e
  refine ⟨P, Z, ρ, r1, x, e1, fun H1 s1 sh => ?_⟩
  obtain ⟨kk, ρ1⟩ := r1
  cases kk with
  | true => exact iteT ⟨P, Z, ρ1, r, s1, by simpa using e, fun v H2 ov sh2 => q v H2 ov (sh.trans sh2)⟩
  | false => exact iteF ⟨P, Z, ρ1, r, s1, by simpa using e, fun v H2 ov sh2 => q v H2 ov (sh.trans sh2)⟩
theorem st_tup (S : SoO X C F B) (es : List Expr) (j : Nat) (p : Pos) : PE X (.Tuple es j p) (tO X.K (stepO C F B (.Tuple es j p))) := by
  refine (pe_tup (pa_vals S es)).imp fun σ H Q h => ?_
  obtain ⟨P, Z, ρ, r, x, e, q⟩ := h
  obtain ⟨r1, e1, e⟩ := bind_some e
  split at e
  · rename_i hz
    cases e
    refine ⟨P, Z, ρ, r1, x, e1, fun vs H1 s1 rs sh => ⟨by rw [rs.length]; exact hz, fun p hp => q _ _ (Val.newTup s1 hp rs) sh⟩⟩
  · cases e
theorem st_lst (S : SoO X C F B) (es : List Expr) (p : Pos) : PE X (.List es p) (tO X.K (stepO C F B (.List es p))) := by
  refine (pe_lst (pa_vals S es)).imp fun σ H Q h => ?_
  obtain ⟨P, Z, ρ, r, x, e, q⟩ := h
  obtain ⟨r1, e1, e⟩ := bind_some e
  split at e
  · rename_i hz
    cases e
    refine ⟨P, Z, ρ, r1, x, e1, fun vs H1 s1 rs sh => ⟨by rw [rs.length]; exact hz, fun p hp => q _ _ (Val.newLst s1 hp rs) sh⟩⟩
  · cases e
theorem atI_rep {K : PySem.W.Frag} {H : Hp} {U : Addr → Prop} {xs : List V} {ds : List PyData} {i : Int} {d : PyData} (r : RepAll K H U xs ds) (h : atI ds i = some d) : ∃ v, atI xs i = some v ∧ Rep K H U v d := by
  unfold atI at h ⊢
  rw [r.length]
  cases e : ixN ds.length i with
  | none => rw [e] at h; cases h
  | some j =>
    rw [e] at h
    exact r.get h
theorem plain_ix {i : Expr} (h : isSl i = false) : PlainIx i := by
  intro o j
  cases i <;> first | rfl | (simp [isSl] at h)
theorem st_ix (S : SoO X C F B) (a i : Expr) (p : Pos) (hi : isSl i = false) : PE X (.Subscript a i p) (tO X.K (stepO C F B (.Subscript a i p))) := by
  refine (pe_ix ix_seq (S.o a) (S.o i) (plain_ix hi)).imp fun σ H Q h => ?_
  obtain ⟨P, Z, ρ, r, x, e, q⟩ := h
  have e : (if isSl i then none else (F.o B a ρ).bind fun r => (F.o B i r.2.2).bind fun q => (rdO q.2.2 r.1).bind fun x => (rdO q.2.2 q.1).bind fun y => (idxD x y).bind fun d => some (Opn.val d, false, q.2.2)) = some r := by
    cases i <;> first | exact e | (simp [isSl] at hi)
  obtain ⟨_, e⟩ := ite_some' e
  obtain ⟨r1, e1, e⟩ := bind_some e
  obtain ⟨r2, e2, e⟩ := bind_some e
  obtain ⟨d1, e3, e⟩ := bind_some e
  obtain ⟨d2, e4, e⟩ := bind_some e
  obtain ⟨d, e5, e⟩ := bind_some e
  cases e
  refine two S x e1 e2 fun v w H' s2 o1 o2 sh => ?_
  have o1 := o1.opd s2 e3
  have o2 := o2.opd s2 e4
  unfold idxD at e5
  split at e5
  · obtain ⟨a, xs, rfl, g1, r⟩ := o1.lst_inv
    obtain rfl := o2.int_inv
    obtain ⟨v, g2, r2⟩ := atI_rep r e5
    exact .inl ⟨a, xs, _, v, rfl, rfl, SqL.of g1, g2, q _ _ ⟨s2, r2⟩ sh⟩
  · obtain ⟨a, xs, rfl, g1, r⟩ := o1.tup_inv
    obtain rfl := o2.int_inv
    obtain ⟨v, g2, r2⟩ := atI_rep r e5
    exact .inr (.inl ⟨a, xs, _, v, rfl, rfl, g1.sq, g2, q _ _ ⟨s2, r2⟩ sh⟩)
  · split at e5
    · rename_i hz
      obtain rfl := o1.str_inv
      obtain rfl := o2.int_inv
      obtain ⟨c, g1, rfl⟩ := map_some e5
      exact .inr (.inr ⟨_, _, c, rfl, rfl, hz, g1, q _ _ ⟨s2, .str _⟩ sh⟩)
    · cases e5
  · cases e5
/-! slices -/
def tP (K : PySem.W.Frag) (f : En → Option (Option Int × En)) : TO := fun σ H Q => ∃ P Z ρ r, Stt K P Z ρ σ H ∧ f ρ = some r ∧ ∀ H', Stt K P Z r.2 σ H' → Shr ρ r.2 → Q r.1 H'
theorem _root_.L2.PO.imp {X : Cx} {e : Option Expr} {t t' : TO} (h : PO X e t) (i : ∀ σ H Q, t' σ H Q → t σ H Q) : PO X e t' := ⟨fun pins s σ H Q I q => h.run pins s σ H Q I (i _ _ _ q)⟩
theorem po_part (S : SoO X C F B) (e : Option Expr) : PO X e (tP X.K (partE F B e)) := by
  cases e with
  | none =>
    refine po_none.imp fun σ H Q h => ?_
    obtain ⟨P, Z, ρ, r, x, e, q⟩ := h
    cases e
    exact q H x (.refl ρ)
  | some e =>
    refine (po_some (S.o e)).imp fun σ H Q h => ?_
    obtain ⟨P, Z, ρ, r, x, e, q⟩ := h
    obtain ⟨r1, e1, e⟩ := bind_some e
    refine ⟨P, Z, ρ, r1, x, e1, fun v H1 v1 sh => ?_⟩
    obtain ⟨s1, o1⟩ := v1.stt
    split at e
    · rename_i i hi
      cases e
      rw [hi] at o1
      have o1 : Rep X.K H1 (UU r1.2.2 σ Z) v (.int i) := o1
      exact ⟨i, o1.int_inv, q H1 s1 sh⟩
    · cases e
theorem cutV_rep {K : PySem.W.Frag} {H : Hp} {U : Addr → Prop} {xs : List V} {ds : List PyData} (r : RepAll K H U xs ds) (lo hi : Option Int) : RepAll K H U (cutV xs lo hi) (cutP ds lo hi) := by
  unfold cutV cutP
  rw [r.length]
  exact (r.drop _).take _
theorem cut_whole (ds : List PyData) (lo hi : Option Int) (h : HT.sIx ds.length 0 lo = 0 ∧ HT.sIx ds.length ds.length hi = ds.length) : cutP ds lo hi = ds := by
  unfold cutP
  rw [h.1, h.2]
  simp
theorem zK (ks : List Key) (ds : List PyData) (x : PyData) : (ks.map keyD).zip ds ≠ [(PyData.none, x)] := fun h => by
  cases ks with
  | nil => simp at h
  | cons k ks =>
    cases ds with
    | nil => simp at h
    | cons d ds =>
      simp only [List.map_cons, List.zip_cons_cons, List.cons.injEq, Prod.mk.injEq] at h
      cases k <;> simp [keyD] at h
theorem zT (ks : List (List Key)) (ds : List PyData) (x : PyData) : (ks.map keysD).zip ds ≠ [(PyData.none, x)] := fun h => by
  cases ks with
  | nil => simp at h
  | cons k ks =>
    cases ds with
    | nil => simp at h
    | cons d ds =>
      simp only [List.map_cons, List.zip_cons_cons, List.cons.injEq, Prod.mk.injEq] at h
      simp [keysD] at h
theorem rep_ints {K : PySem.W.Frag} {H : Hp} {U : Addr → Prop} : ∀ ns : List Int, RepAll K H U (ns.map V.int) (ns.map PyData.int)
  | [] => .nil
  | n :: ns => .cons (.int n) (rep_ints ns)
theorem scr_inv {K : PySem.W.Frag} {H : Hp} {U : Addr → Prop} {v : V} {ds : List PyData} (h : Opd K H U v (.dict [(.none, .list ds)])) : ∃ a xs, v = .ref a ∧ SqL K H a xs ∧ RepAll K H U xs ds := by
  generalize hd : PyData.dict [(.none, .list ds)] = d at h
  cases h with
  | own h =>
    cases h with
    | lst _ _ => cases hd
    | dK l _ _ => exact (zK _ _ _ (PyData.dict.inj hd).symm).elim
    | dT l _ _ => exact (zT _ _ _ (PyData.dict.inj hd).symm).elim
  | rep h =>
    cases h with
    | dK l _ _ => exact (zK _ _ _ (PyData.dict.inj hd).symm).elim
    | dT l _ _ => exact (zT _ _ _ (PyData.dict.inj hd).symm).elim
    | scr h =>
      simp only [scrD, PyData.dict.injEq, List.cons.injEq, Prod.mk.injEq, PyData.list.injEq, true_and, and_true] at hd
      subst hd
      refine ⟨_, _, rfl, ?_, rep_ints _⟩
      rcases h with ⟨h, _⟩ | h | h
      · exact .inl (.inr ⟨_, h⟩)
      · exact (rd_none h).elim
      · exact .inr h
    | _ => cases hd
theorem st_sl (S : SoO X C F B) (a : Expr) (lo hi : Option Expr) (p2 p : Pos) : PE X (.Subscript a (.Slice lo hi none p2) p) (tO X.K (stepO C F B (.Subscript a (.Slice lo hi none p2) p))) := by
  refine (pe_slice (sl_list.or (sl_tupA.or sl_str)) (S.o a) (po_part S lo) (po_part S hi)).imp fun σ H Q h => ?_
  obtain ⟨P, Z, ρ, r, x, e, q⟩ := h
  obtain ⟨r1, e1, e⟩ := bind_some e
  obtain ⟨r2, e2, e⟩ := bind_some e
  obtain ⟨r3, e3, e⟩ := bind_some e
  obtain ⟨d1, e4, e⟩ := bind_some e
  obtain ⟨d, e5, e⟩ := bind_some e
  cases e
  refine ⟨P, Z, ρ, r1, x, e1, fun v H1 v1 sh => ?_⟩
  obtain ⟨s1, o1⟩ := v1.stt
  refine ⟨_, Z, _, r2, s1.push, e2, fun H2 s2 sh2 => ?_⟩
  have o2 := o1.later s2 sh2
  refine ⟨_, Z, _, r3, s2.pop.push, e3, fun H3 s3 sh3 => ?_⟩
  have o3 := (o2.later s3 sh3).opd s3 e4
  have s3 := s3.pop
  have sh' := sh.trans (sh2.trans sh3)
  unfold cutD at e5
  split at e5
  · cases e5
    obtain ⟨a, xs, rfl, g1, rr⟩ := o3.lst_inv
    exact .inl ⟨a, xs, rfl, SqL.of g1, fun p hp => q _ _ (Val.newLst s3 hp (cutV_rep rr _ _)) sh'⟩
  · cases e5
    obtain ⟨a, xs, rfl, g1, rr⟩ := o3.tup_inv
    refine .inr (.inl ⟨a, xs, rfl, g1.sq, fun hw => ?_, fun _ p hp => q _ _ (Val.newTup s3 hp (cutV_rep rr _ _)) sh'⟩)
    rw [rr.length] at hw
    refine q _ _ ⟨s3, ?_⟩ sh'
    rw [cut_whole _ _ _ hw]
    exact .tup g1 rr
  · split at e5
    · rename_i hz
      cases e5
      obtain rfl := o3.str_inv
      exact .inr (.inr ⟨_, rfl, hz, q _ _ ⟨s3, .str _⟩ sh'⟩)
    · cases e5
  · cases e5
    obtain ⟨a, xs, rfl, g1, rr⟩ := scr_inv o3
    exact .inl ⟨a, xs, rfl, g1, fun p hp => q _ _ (Val.newLst s3 hp (cutV_rep rr _ _)) sh'⟩
  · cases e5
end
end Pf


namespace Pf
open PySem PySem.Spec L2
section
variable {X : Cx} {C : Ctx} {B : Bk} {k : Nat} {F : Fns}
theorem Fits.u64 (T : Fits X C B k) : X.A.units + 64 < cLine := T.room.units
/-! ### and, or -/
theorem st_bool (S : SoO X C F B) (op : BoolOp) (p : Pos) : ∀ es, PE X (.BoolOp op es p) (tO X.K (boolE C F B op es))
  | [] => .no fun σ H Q h => by
    obtain ⟨P, Z, ρ, r, x, e, q⟩ := h
    cases e
  | [e] => (pe_one (S.o e)).imp fun σ H Q h => h
  | e :: e2 :: es => by
    have ih := st_bool S op p (e2 :: es)
    cases op with
    | And =>
      refine (pe_andT (S.o e) ih).imp fun σ H Q h => ?_
      obtain ⟨P, Z, ρ, r, x, e, q⟩ := h
      obtain ⟨r1, e1, e⟩ := bind_some e
      obtain ⟨d, e2, e⟩ := bind_some e
      obtain ⟨kk, e3, e⟩ := bind_some e
      refine ⟨P, Z, ρ, r1, x, e1, fun v H1 v1 sh => ?_⟩
      obtain ⟨s1, o1⟩ := v1.stt
      refine ⟨kk, tru_of (o1.opd s1 e2) e3, ?_⟩
      cases kk with
      | true => exact iteT ⟨P, Z, _, r, s1, by simpa using e, fun w H2 ov sh2 => q w H2 ov (sh.trans sh2)⟩
      | false =>
        simp at e
        subst e
        exact iteF (q v H1 v1 sh)
    | Or =>
      refine (pe_orT (S.o e) ih).imp fun σ H Q h => ?_
      obtain ⟨P, Z, ρ, r, x, e, q⟩ := h
      obtain ⟨r1, e1, e⟩ := bind_some e
      obtain ⟨d, e2, e⟩ := bind_some e
      obtain ⟨kk, e3, e⟩ := bind_some e
      refine ⟨P, Z, ρ, r1, x, e1, fun v H1 v1 sh => ?_⟩
      obtain ⟨s1, o1⟩ := v1.stt
      refine ⟨kk, tru_of (o1.opd s1 e2) e3, ?_⟩
      cases kk with
      | false => exact iteF ⟨P, Z, _, r, s1, by simpa using e, fun w H2 ov sh2 => q w H2 ov (sh.trans sh2)⟩
      | true =>
        simp at e
        subst e
        exact iteT (q v H1 v1 sh)
theorem st_boolT (S : SoO X C F B) (op : BoolOp) (p : Pos) : ∀ es, PT X (.BoolOp op es p) (tT X.K (boolT F B op es)) := by
  have go : ∀ e es, PW X (.BoolOp op (e :: es) p) (tT X.K (boolT F B op (e :: es))) := by
    intro e es
    induction es generalizing e with
    | nil =>
      cases op with
      | And => exact (pw_and1 (S.t e)).imp fun σ H Q h => h
      | Or => exact (pw_or1 (S.t e)).imp fun σ H Q h => h
    | cons e2 es ih =>
      cases op with
      | And =>
        refine (pw_and (S.t e) (ih e2)).imp fun σ H Q h => ?_
        obtain ⟨P, Z, ρ, r, x, e, q⟩ := h
        obtain ⟨r1, e1, e⟩ := bind_some e
        refine ⟨P, Z, ρ, r1, x, e1, fun H1 s1 sh => ?_⟩
        obtain ⟨kk, ρ1⟩ := r1
        cases kk with
        | true => exact iteT ⟨P, Z, ρ1, r, s1, by simpa using e, fun H2 s2 sh2 => q H2 s2 (sh.trans sh2)⟩
        | false =>
          simp at e
          subst e
          exact iteF (q H1 s1 sh)
      | Or =>
        refine (pw_or (S.t e) (ih e2)).imp fun σ H Q h => ?_
        obtain ⟨P, Z, ρ, r, x, e, q⟩ := h
        obtain ⟨r1, e1, e⟩ := bind_some e
        refine ⟨P, Z, ρ, r1, x, e1, fun H1 s1 sh => ?_⟩
        obtain ⟨kk, ρ1⟩ := r1
        cases kk with
        | false => exact iteF ⟨P, Z, ρ1, r, s1, by simpa using e, fun H2 s2 sh2 => q H2 s2 (sh.trans sh2)⟩
        | true =>
          simp at e
          subst e
          exact iteT (q H1 s1 sh)
  intro es
  cases es with
  | nil =>
    refine .no fun σ H Q h => ?_
    obtain ⟨P, Z, ρ, r, x, e, q⟩ := h
    cases e
  | cons e es => exact (go e es).pt
/-! ### comparisons -/
def tC2 (X : Cx) (f : En → Option (Bool × En)) : TE := fun σ H Q => tT X.K f σ H fun c H1 => Q (.bl c) H1
theorem st_cmp (T : Fits X C B k) (S : SoO X C F B) (a : Expr) (ops : List CmpOp) (es : List Expr) (p : Pos) : PE X (.Compare a ops es p) (tC2 X (cmpE C F B a ops es)) ∧ PT X (.Compare a ops es p) (tT X.K (cmpE C F B a ops es)) := by
  have no : (∀ ρ, cmpE C F B a ops es ρ = none) → PE X (.Compare a ops es p) (tC2 X (cmpE C F B a ops es)) ∧ PT X (.Compare a ops es p) (tT X.K (cmpE C F B a ops es)) := fun hn =>
    ⟨PE.no fun σ H Q h => (by
      obtain ⟨P, Z, ρ, r, x, e, q⟩ := h
      rw [hn] at e
      cases e), PT.no fun σ H Q h => (by
      obtain ⟨P, Z, ρ, r, x, e, q⟩ := h
      rw [hn] at e
      cases e)⟩
  have one : ∀ (op : CmpOp) (b : Expr), behindInMarks op b = false → ∀ (σ : St) (H : Hp) (Q : Bool → Hp → Prop), tT X.K (cmpE C F B a [op] [b]) σ H Q → tOp (CmpR X.K op) (tO X.K (F.o B a)) (tO X.K (F.o B b)) σ H fun v H1 => ∃ c, v = .bl c ∧ Q c H1 := by
    intro op b hb σ H Q h
    obtain ⟨P, Z, ρ, r, x, e, q⟩ := h
    simp only [cmpE, hb] at e
    obtain ⟨r1, e1, e⟩ := bind_some (by simpa using e)
    obtain ⟨r2, e2, e⟩ := bind_some e
    obtain ⟨d1, e3, e⟩ := bind_some e
    obtain ⟨d2, e4, e⟩ := bind_some e
    obtain ⟨d, e5, e⟩ := bind_some e
    cases e
    exact two S x e1 e2 fun v w H' s2 o1 o2 sh => ⟨_, _, _, _, o1.opd s2 e3, o2.opd s2 e4, e5, d, rfl, q H' s2 sh⟩
  have two' : ∀ (op op' : CmpOp) (b c : Expr), lastMarks [op, op'] [b, c] = false → ∀ (σ : St) (H : Hp) (Q : Bool → Hp → Prop), tT X.K (cmpE C F B a [op, op'] [b, c]) σ H Q →
      tChain (CmpR X.K op) (CmpR X.K op') (tV X.K (valE C F B a)) (tV X.K (valE C F B b)) (tV X.K (valE C F B c)) σ H fun v H1 => ∃ c, v = .bl c ∧ Q c H1 := by
    intro op op' b c hb σ H Q h
    obtain ⟨P, Z, ρ, r, x, e, q⟩ := h
    simp only [cmpE, hb] at e
    obtain ⟨r1, e1, e⟩ := bind_some (by simpa using e)
    obtain ⟨r2, e2, e⟩ := bind_some e
    obtain ⟨d, e5, e⟩ := bind_some e
    refine ⟨P, Z, ρ, r1, x, e1, fun v H1 v1 sh => ?_⟩
    obtain ⟨s1, o1⟩ := v1.share
    refine ⟨_, Z, _, r2, s1.push, e2, fun w H2 v2 sh2 => ?_⟩
    obtain ⟨s2, o2⟩ := v2.share
    refine ⟨_, _, _, _, .rep (Pf.later o1 s2 sh2), .rep o2, e5, d, rfl, ?_⟩
    cases d with
    | false =>
      simp at e
      subst e
      exact iteF ⟨false, rfl, q H2 s2.pop (sh.trans sh2)⟩
    | true =>
      obtain ⟨r3, e6, e⟩ := bind_some (by simpa using e)
      obtain ⟨d', e7, e⟩ := bind_some e
      cases e
      refine iteT ⟨_, Z, _, r3, s2.pop.push, e6, fun z H3 v3 sh3 => ?_⟩
      obtain ⟨s3, o3⟩ := v3.share
      exact ⟨_, _, _, _, .rep (Pf.later o2 s3 sh3), .rep o3, e7, d', rfl, q H3 s3.pop (sh.trans (sh2.trans sh3))⟩
  match ops, es, no, one, two' with
  | [op], [b], no, one, _ =>
    by_cases hb : behindInMarks op b = true
    · exact no fun ρ => by simp [cmpE, hb]
    · have hb : behindInMarks op b = false := by simpa using hb
      refine ⟨(pe_cmpR (cmp_ok T.u64 op) (S.o a) (S.o b) hb).imp fun σ H Q h => ?_, (pt_cmpR (cmp_ok T.u64 op) (S.o a) (S.o b) hb).imp fun σ H Q h => one op b hb σ H Q h⟩
      have := one op b hb σ H (fun c H1 => Q (.bl c) H1) h
      refine ?_
      obtain ⟨P, Z, ρ, r, x, e, q⟩ := this
      refine ⟨P, Z, ρ, r, x, e, fun v H1 v1 sh => ?_⟩
      obtain ⟨P2, Z2, ρ2, r2, x2, e2, q2⟩ := q v H1 v1 sh
      refine ⟨P2, Z2, ρ2, r2, x2, e2, fun w H2 v2 sh2 => ?_⟩
      obtain ⟨U, y1, y2, kk, g1, g2, g3, c, g4, g5⟩ := q2 w H2 v2 sh2
      cases g4
      exact ⟨U, y1, y2, kk, g1, g2, g3, g5⟩
  | [op, op'], [b, c], no, _, two' =>
    by_cases hb : lastMarks [op, op'] [b, c] = true
    · exact no fun ρ => by simp [cmpE, hb]
    · have hb : lastMarks [op, op'] [b, c] = false := by simpa using hb
      refine ⟨(pe_chain (cmp_ok T.u64 op) (cmp_ok T.u64 op') (S.v a) (S.v b) (S.v c) hb).imp fun σ H Q h => ?_, (pt_chain (cmp_ok T.u64 op) (cmp_ok T.u64 op') (S.v a) (S.v b) (S.v c) hb).imp fun σ H Q h => two' op op' b c hb σ H Q h⟩
      obtain ⟨P, Z, ρ, r, x, e, q⟩ := two' op op' b c hb σ H (fun c H1 => Q (.bl c) H1) h
      refine ⟨P, Z, ρ, r, x, e, fun v H1 v1 sh => ?_⟩
      obtain ⟨P2, Z2, ρ2, r2, x2, e2, q2⟩ := q v H1 v1 sh
      refine ⟨P2, Z2, ρ2, r2, x2, e2, fun w H2 v2 sh2 => ?_⟩
      obtain ⟨U, y1, y2, kk, g1, g2, g3, c1, g4, g5⟩ := q2 w H2 v2 sh2
      cases g4
      refine ⟨U, y1, y2, kk, g1, g2, g3, kk, rfl, ?_⟩
      cases kk with
      | false =>
        rw [if_neg Bool.false_ne_true] at g5
        obtain ⟨c2, g6, g7⟩ := g5
        cases g6
        exact iteF g7
      | true =>
        rw [if_pos rfl] at g5
        obtain ⟨P3, Z3, ρ3, r3, x3, e3, q3⟩ := g5
        refine iteT ⟨P3, Z3, ρ3, r3, x3, e3, fun z H3 v3 sh3 => ?_⟩
        obtain ⟨U', y3, y4, k4, g8, g9, g10, c3, g11, g12⟩ := q3 z H3 v3 sh3
        cases g11
        exact ⟨U', y3, y4, k4, g8, g9, g10, g12⟩
  | [], es, no, _, _ => exact no fun ρ => by simp [cmpE]
  | [op], [], no, _, _ => exact no fun ρ => by simp [cmpE]
  | [op], _ :: _ :: _, no, _, _ => exact no fun ρ => by simp [cmpE]
  | [op, op'], [], no, _, _ => exact no fun ρ => by simp [cmpE]
  | [op, op'], [_], no, _, _ => exact no fun ρ => by simp [cmpE]
  | [op, op'], _ :: _ :: _ :: _, no, _, _ => exact no fun ρ => by simp [cmpE]
  | _ :: _ :: _ :: _, es, no, _, _ => exact no fun ρ => by simp [cmpE]

/-! ### built-ins -/
def rBi (K : PySem.W.Frag) (b : Bi) : List V → Hp → VK → Prop := fun vs H Q => ∃ U ds d, OpdAll K H U vs ds ∧ biD b ds = some d ∧ NewV K H U d Q
theorem _root_.L2.CallR.mono {X : Cx} {f : Value} {r r' : List V → Hp → VK → Prop} (h : CallR X f r) (i : ∀ vs H Q, r' vs H Q → r vs H Q) : CallR X f r' := fun pins s σ H xs us Q I rv q => h pins s σ H xs us Q I rv (i _ _ _ q)
theorem OpdAll.one {K : PySem.W.Frag} {H : Hp} {U : Addr → Prop} {vs : List V} {d : PyData} (h : OpdAll K H U vs [d]) : ∃ v, vs = [v] ∧ Opd K H U v d := by
  cases h with
  | cons h t =>
    cases t
    exact ⟨_, rfl, h⟩
mutual
theorem hasDict_plain : ∀ d : PyData, d.plain = true → d.hasDict = false
  | .none, _ => rfl
  | .bool _, _ => rfl
  | .int _, _ => rfl
  | .str _, _ => rfl
  | .list xs, h => by
    simp only [PyData.hasDict]
    exact hasDict_plains xs (by simpa [PyData.plain] using h)
  | .tuple xs, h => by
    simp only [PyData.hasDict]
    exact hasDict_plains xs (by simpa [PyData.plain] using h)
  | .dict _, h => by simp [PyData.plain] at h
theorem hasDict_plains : ∀ ds : List PyData, PyData.plainAll ds = true → PyData.hasDictAll ds = false
  | [], _ => rfl
  | d :: ds, h => by
    simp only [PyData.plainAll, Bool.and_eq_true] at h
    simp only [PyData.hasDictAll, hasDict_plain d h.1, hasDict_plains ds h.2, Bool.or_false]
end
theorem repr_ok (hg : X.A.guards = some []) (hu : X.A.units + 64 < cLine) : CallR X (.builtin "repr") (rBi X.K .repr) := by
  intro pins s σ H xs us Q I rv h
  obtain ⟨U, ds, d, os, e, q⟩ := h
  have key : ∀ d0 v0 u, xs = [v0] → us = [u] → Opd X.K H U v0 d0 → RelV v0 u → reprOk d0 = true → Q (.str d0.shown) H → wpAny (model X.prog X.w) X.A (call (.builtin "repr") us) (EP X pins σ Q) X.xe s := by
    intro d0 v0 u h1 h2 o1 ru hz q
    subst h1 h2
    unfold reprOk at hz
    simp only [Bool.and_eq_true, decide_eq_true_eq] at hz
    obtain ⟨as, r1⟩ := Dp.reads I d0 v0 u (o1.dpl hz.1.1.2) ru
    have fin : ∀ (h' : Heap) (t : Tok) (tk : Nat), (∀ b o, s.heap.get? b = some o → h'.get? b = some o) → EP X pins σ Q (.str d0.shown t) { s with heap := h', toks := tk } := fun h' t tk hk =>
      ⟨.str d0.shown, H, I.kept hk, ⟨t, rfl⟩, q⟩
    cases d0 with
    | none =>
      cases r1
      exact PySem.P.repr_of_none (fin s.heap _ _ fun _ _ e => e)
    | bool b =>
      cases r1
      refine PySem.P.repr_of_bool ?_
      have := fin s.heap s.toks (s.toks + 1) fun _ _ e => e
      cases b <;> exact this
    | int i =>
      cases r1
      have hs : i.natAbs.log2 < 1920 := by simpa [PyData.showable] using hz.1.1.1
      exact PySem.P.repr_of_int hs (fin s.heap _ _ fun _ _ e => e)
    | str z =>
      cases r1
      exact PySem.P.repr_of_str (fin s.heap _ _ fun _ _ e => e) (hsz := hz.2)
    | list xs =>
      obtain ⟨a, ha⟩ : ∃ a, u = .ref a := by cases r1; exact ⟨_, rfl⟩
      subst ha
      exact repr_of_reads' r1 hz.1.1.1 (PyData.noDict_hsm (hasDict_plain _ hz.1.1.2)) hg (by omega) (fun _ _ e => e) (fun h' t tk hk => fin h' t tk hk) hz.2
    | tuple xs =>
      obtain ⟨a, ha⟩ : ∃ a, u = .ref a := by cases r1; exact ⟨_, rfl⟩
      subst ha
      exact repr_of_reads' r1 hz.1.1.1 (PyData.noDict_hsm (hasDict_plain _ hz.1.1.2)) hg (by omega) (fun _ _ e => e) (fun h' t tk hk => fin h' t tk hk) hz.2
    | dict _ => simp [PyData.plain] at hz
  replace e : reprB ds = some d := e
  unfold reprB at e
  split at e
  · rename_i d0
    split at e
    · rename_i hz
      cases e
      obtain ⟨v0, h1, o1⟩ := os.one
      subst h1
      obtain ⟨u, h2, ru⟩ := rv.one
      exact key d0 v0 u rfl h2 o1 ru hz (q _ (.str _))
    · cases e
  · cases e
theorem len_ok : CallR X (.builtin "len") (rBi X.K .len) := by
  refine (call_len_seq.or call_len_str).mono fun vs H Q h => ?_
  obtain ⟨U, ds, d, os, e, q⟩ := h
  replace e : lenB ds = some d := e
  unfold lenB at e
  split at e
  all_goals try (cases e; done)
  rename_i d0
  obtain ⟨n, e1, rfl⟩ := map_some e
  obtain ⟨v0, rfl, o1⟩ := os.one
  unfold lenD at e1
  split at e1
  · cases e1
    obtain ⟨a, xs, rfl, g1, r⟩ := o1.lst_inv
    exact .inl ⟨a, xs, rfl, .inl (SqL.of g1), by rw [r.length]; exact q _ (.int _)⟩
  · cases e1
    obtain ⟨a, xs, rfl, g1, r⟩ := o1.tup_inv
    exact .inl ⟨a, xs, rfl, .inr g1.sq, by rw [r.length]; exact q _ (.int _)⟩
  · split at e1
    · rename_i hz
      cases e1
      obtain rfl := o1.str_inv
      exact .inr ⟨_, rfl, hz, q _ (.int _)⟩
    · cases e1
  · cases e1
theorem abs_ok : CallR X (.builtin "abs") (rBi X.K .abs) := by
  refine call_abs.mono fun vs H Q h => ?_
  obtain ⟨U, ds, d, os, e, q⟩ := h
  replace e : absB ds = some d := e
  unfold absB at e
  split at e
  all_goals cases e
  obtain ⟨v0, rfl, o1⟩ := os.one
  obtain rfl := o1.int_inv
  exact ⟨_, rfl, q _ (.int _)⟩
theorem int_ok : CallR X (.type "int") (rBi X.K .int) := by
  refine call_int1.mono fun vs H Q h => ?_
  obtain ⟨U, ds, d, os, e, q⟩ := h
  replace e : intB ds = some d := e
  unfold intB at e
  split at e
  all_goals cases e
  · obtain ⟨v0, rfl, o1⟩ := os.one
    obtain rfl := o1.int_inv
    exact .inl ⟨_, rfl, q _ (.int _)⟩
  · obtain ⟨v0, rfl, o1⟩ := os.one
    obtain rfl := o1.bl_inv
    exact .inr ⟨_, rfl, q _ (.int _)⟩
theorem str_ok : CallR X (.type "str") (rBi X.K .str) := by
  refine call_str_int.mono fun vs H Q h => ?_
  obtain ⟨U, ds, d, os, e, q⟩ := h
  replace e : strB ds = some d := e
  unfold strB at e
  split at e
  · split at e
    · rename_i hz
      cases e
      obtain ⟨v0, rfl, o1⟩ := os.one
      obtain rfl := o1.int_inv
      exact ⟨_, rfl, hz, q _ (.str _)⟩
    · cases e
  · cases e
/-- how a built-in stands -/
theorem bi_ok (T : Fits X C B k) (b : Bi) : (∃ id, bootBuiltins b.name = some (.builtin id) ∧ CallR X (.builtin id) (rBi X.K b)) ∨ ∃ t, bootBuiltins b.name = some (.type t) ∧ CallR X (.type t) (rBi X.K b) := by
  cases b with
  | len => exact .inl ⟨"len", by decide +kernel, len_ok⟩
  | abs => exact .inl ⟨"abs", by decide +kernel, abs_ok⟩
  | repr => exact .inl ⟨"repr", by decide +kernel, repr_ok T.grd T.u64⟩
  | int => exact .inr ⟨"int", by decide +kernel, int_ok⟩
  | str => exact .inr ⟨"str", by decide +kernel, str_ok⟩
theorem plain_args {es : List Expr} {env : Env} {pos : Pos} (h : ∀ e ∈ es, star e = false) : (backTo pos (starEach es env)).any (·.1) = false := by
  induction es with
  | nil => rfl
  | cons e es ih =>
    rw [star_no (h e List.mem_cons_self)]
    have := ih fun e' he => h e' (List.mem_cons_of_mem _ he)
    unfold backTo at this ⊢
    simp only [List.map_cons, List.any_cons, Bool.false_or]
    exact this
theorem opnEs_star : ∀ {es : List Expr} {ρ : En} {r : List Opn × En}, opnEs F B es ρ = some r → ∀ e ∈ es, star e = false
  | [], _, _, _, e, he => by cases he
  | e :: es, ρ, r, h, e', he => by
    simp only [opnEs] at h
    obtain ⟨hs, h⟩ := ite_some' h
    obtain ⟨r0, _, h⟩ := bind_some h
    obtain ⟨q0, h2, _⟩ := bind_some h
    rcases List.mem_cons.mp he with rfl | he
    · exact hs
    · exact opnEs_star h2 e' he
theorem valEs_star : ∀ {es : List Expr} {ρ : En} {r : List PyData × En}, valEs C F B es ρ = some r → ∀ e ∈ es, star e = false
  | [], _, _, _, e, he => by cases he
  | e :: es, ρ, r, h, e', he => by
    simp only [valEs] at h
    obtain ⟨hs, h⟩ := ite_some' h
    obtain ⟨r0, _, h⟩ := bind_some h
    obtain ⟨q0, h2, _⟩ := bind_some h
    rcases List.mem_cons.mp he with rfl | he
    · exact hs
    · exact valEs_star h2 e' he
theorem all_star (es : List Expr) : (∀ e ∈ es, star e = false) ∨ ∃ e ∈ es, star e = true := by
  induction es with
  | nil => exact .inl fun e he => by cases he
  | cons e es ih =>
    by_cases h : star e = true
    · exact .inr ⟨e, List.mem_cons_self, h⟩
    · rcases ih with ih | ⟨e', h1, h2⟩
      · refine .inl fun e' he => ?_
        rcases List.mem_cons.mp he with rfl | he
        · simpa using h
        · exact ih e' he
      · exact .inr ⟨e', List.mem_cons_of_mem _ h1, h2⟩
theorem st_bi (T : Fits X C B k) (S : SoO X C F B) (b : Bi) (hb : b ∈ bis) (f : Str) (hf : f = b.name) (e : Expr) (es : List Expr) (p1 p : Pos) (hg : glB B.sc f = true) :
    PE X (.Call (.Name f p1) (e :: es) [] p) (tO X.K fun ρ => (opnEs F B (e :: es) ρ).bind fun q => (rdOs q.2 q.1).bind fun ds => (biD b ds).bind fun d => some (resD q.2 d)) := by
  subst hf
  rcases all_star (e :: es) with hs | ⟨e', h1, h2⟩
  · have hn := glB_gl hg
    have body : ∀ (σ : St) (H : Hp) (Q : VK), tO X.K (fun ρ => (opnEs F B (e :: es) ρ).bind fun q => (rdOs q.2 q.1).bind fun ds => (biD b ds).bind fun d => some (resD q.2 d)) σ H Q → tCB (rBi X.K b) (tOs X.K (opnEs F B (e :: es))) σ H Q := by
      intro σ H Q h
      obtain ⟨P, Z, ρ, r, x, e, q⟩ := h
      obtain ⟨r1, e1, e⟩ := bind_some e
      obtain ⟨ds, e2, e⟩ := bind_some e
      obtain ⟨d, e3, e⟩ := bind_some e
      cases e
      exact ⟨P, Z, ρ, r1, x, e1, fun vs H1 s1 os sh => ⟨_, ds, d, os.opd s1 e2, e3, newV_res s1 fun v H2 vl => q v H2 vl sh⟩⟩
    rcases bi_ok (k := k) T b with ⟨id, h1, h2⟩ | ⟨t, h1, h2⟩
    · exact (pe_callB h2 (T.gl hg) (T.blt b hb) h1 (pa_opns S (e :: es)) hn.2.2 hn.2.1 (star_no (hs e List.mem_cons_self)) (plain_args fun e' he => hs e' (List.mem_cons_of_mem _ he))).imp body
    · exact (pe_callTy h2 (T.gl hg) (T.blt b hb) h1 (pa_opns S (e :: es)) hn.2.2 hn.2.1 (star_no (hs e List.mem_cons_self)) (plain_args fun e' he => hs e' (List.mem_cons_of_mem _ he))).imp body
  · refine .no fun σ H Q h => ?_
    obtain ⟨P, Z, ρ, r, x, e, q⟩ := h
    obtain ⟨r1, e1, e⟩ := bind_some e
    have := opnEs_star e1 e' h1
    rw [h2] at this
    cases this
/-! ### isinstance -/
def tyName : PyData → String
  | .none => "NoneType"
  | .bool _ => "bool"
  | .int _ => "int"
  | .str _ => "str"
  | .list _ => "list"
  | .tuple _ => "tuple"
  | .dict _ => "dict"
theorem typ_of {K : PySem.W.Frag} {H : Hp} {U : Addr → Prop} {v : V} {d : PyData} (h : Opd K H U v d) (hd : notDictD d = true) : TyX K H v (.type (tyName d)) := by
  cases d with
  | none => obtain rfl := h.non_inv; exact .base .non
  | bool b => obtain rfl := h.bl_inv; exact .base (.bl b)
  | int i => obtain rfl := h.int_inv; exact .base (.int i)
  | str z => obtain rfl := h.str_inv; exact .base (.str z)
  | list xs => obtain ⟨a, ys, rfl, g, _⟩ := h.lst_inv; exact .base (.lst g)
  | tuple xs =>
    obtain ⟨a, ys, rfl, g, _⟩ := h.tup_inv
    rcases g with ⟨g, _⟩ | g | ⟨o, its, n, g1, g2, _⟩
    · exact .base (.tup g)
    · exact (rd_none g).elim
    · exact .kTuple g1 g2
  | dict _ => simp [notDictD] at hd
end
end Pf


namespace Pf
open PySem PySem.Spec L2
section
variable {X : Cx} {C : Ctx} {B : Bk} {k : Nat} {F : Fns}
theorem isiT_kit {K : PySem.W.Frag} {d : PyData} {t : Str} {b : Bool} (h : isiT d t = some b) : ∃ n : String, (t = n) ∧ bootBuiltins t = some (.type n) ∧ PySem.W.kitOne K (.type (tyName d)) (.type n) = some b ∧ (t = "int" ∨ t = "bool" ∨ t = "str" ∨ t = "tuple" ∨ t = "list") := by
  unfold isiT at h
  split at h
  · rename_i e
    subst e
    refine ⟨"int", rfl, by decide +kernel, ?_, .inl rfl⟩
    cases d <;> cases h <;> (refine kit_ty ?_; dsimp only [tyName]; decide +kernel)
  · split at h
    · rename_i e
      subst e
      refine ⟨"bool", rfl, by decide +kernel, ?_, .inr (.inl rfl)⟩
      cases d <;> cases h <;> (refine kit_ty ?_; dsimp only [tyName]; decide +kernel)
    · split at h
      · rename_i e
        subst e
        refine ⟨"str", rfl, by decide +kernel, ?_, .inr (.inr (.inl rfl))⟩
        cases d <;> cases h <;> (refine kit_ty ?_; dsimp only [tyName]; decide +kernel)
      · split at h
        · rename_i e
          subst e
          refine ⟨"tuple", rfl, by decide +kernel, ?_, .inr (.inr (.inr (.inl rfl)))⟩
          cases d <;> cases h <;> (refine kit_ty ?_; dsimp only [tyName]; decide +kernel)
        · split at h
          · rename_i e
            subst e
            refine ⟨"list", rfl, by decide +kernel, ?_, .inr (.inr (.inr (.inr rfl)))⟩
            cases d <;> cases h <;> (refine kit_ty ?_; dsimp only [tyName]; decide +kernel)
          · cases h
theorem Fits.bt (T : Fits X C B k) {t : Str} (h : t = "int" ∨ t = "bool" ∨ t = "str" ∨ t = "tuple" ∨ t = "list") : X.mg t = none := by
  obtain ⟨_, _, h1, h2, h3, h4, h5⟩ := T.btx
  rcases h with rfl | rfl | rfl | rfl | rfl
  · exact h1
  · exact h2
  · exact h3
  · exact h4
  · exact h5
def isiE (F : Fns) (B : Bk) (f t : Str) (a : Expr) (ρ : En) : Option (Opn × Bool × En) :=
  if f == "isinstance" && glB B.sc t then (F.o B a ρ).bind fun r => (rdO r.2.2 r.1).bind fun d => if notDictD d then (isiT d t).bind fun kk => some (.val (.bool kk), false, r.2.2) else none else none
theorem st_isi (T : Fits X C B k) (S : SoO X C F B) (f : Str) (a : Expr) (t : Str) (p1 p2 p : Pos) (hg : glB B.sc f = true) (hs : star a = false) :
    PE X (.Call (.Name f p1) [a, .Name t p2] [] p) (tO X.K (isiE F B f t a)) := by
  by_cases hc : (f == "isinstance" && glB B.sc t) = true
  · have hc' := hc
    simp only [Bool.and_eq_true, beq_iff_eq] at hc
    obtain ⟨rfl, ht⟩ := hc
    have hn := glB_gl hg
    have hm := glB_gl ht
    by_cases hk : t = "int" ∨ t = "bool" ∨ t = "str" ∨ t = "tuple" ∨ t = "list"
    · have hb : ∃ n : String, bootBuiltins t = some (.type n) ∧ t = n := by
        rcases hk with rfl | rfl | rfl | rfl | rfl
        · exact ⟨"int", by decide +kernel, rfl⟩
        · exact ⟨"bool", by decide +kernel, rfl⟩
        · exact ⟨"str", by decide +kernel, rfl⟩
        · exact ⟨"tuple", by decide +kernel, rfl⟩
        · exact ⟨"list", by decide +kernel, rfl⟩
      obtain ⟨n, hb, _⟩ := hb
      refine (pe_callB call_isi (T.gl hg) T.btx.2.1 (by decide +kernel) (pa_cons (S.o a) (pa_cons (pe_bltn (v := .ty n) (T.gl ht) (T.bt hk) hb rfl hm.2.2 hm.2.1) pa_nil (star_no rfl)) (star_no hs)) hn.2.2 hn.2.1 (star_no hs) (by rfl)).imp fun σ H Q h => ?_
      obtain ⟨P, Z, ρ, r, x, e, q⟩ := h
      unfold isiE at e
      rw [if_pos hc'] at e
      obtain ⟨r1, e1, e⟩ := bind_some e
      obtain ⟨d, e2, e⟩ := bind_some e
      obtain ⟨h1, e⟩ := ite_some e
      obtain ⟨kk, e3, e⟩ := bind_some e
      cases e
      refine ⟨P, Z, ρ, r1, x, e1, fun v H1 v1 sh => ?_⟩
      obtain ⟨s1, o1⟩ := v1.stt
      obtain ⟨n', g1, g2, g3, g4⟩ := isiT_kit (K := X.K) e3
      rw [hb] at g2
      cases g2
      exact ⟨v, .ty n, _, _, kk, rfl, .ty n, typ_of (o1.opd s1 e2) h1, g3, q _ _ ⟨s1, .bl kk⟩ sh⟩
    · refine PE.no fun σ H Q h => ?_
      obtain ⟨P, Z, ρ, r, x, e, q⟩ := h
      unfold isiE at e
      rw [if_pos hc'] at e
      obtain ⟨r1, e1, e⟩ := bind_some e
      obtain ⟨d, e2, e⟩ := bind_some e
      obtain ⟨h1, e⟩ := ite_some e
      obtain ⟨kk, e3, e⟩ := bind_some e
      obtain ⟨n', g1, g2, g3, g4⟩ := isiT_kit (K := X.K) e3
      exact hk g4
  · refine PE.no fun σ H Q h => ?_
    obtain ⟨P, Z, ρ, r, x, e, q⟩ := h
    unfold isiE at e
    rw [if_neg hc] at e
    cases e

/-! ### methods -/
theorem base_no {o : Expr} {m : Str} {env : Env} {w : Sem Value} (h : notCall o = true) : attributeBase o m env w = w := by
  cases o <;> first | rfl | (simp [notCall] at h)
theorem few_ok {es : List Expr} {pos : Pos} {env : Env} (h : ∀ e ∈ es, star e = false) (hl : es.length < 10) :
    ((backTo pos (starEach es env)).all (fun x => !x.1) && (backToKw pos (keywordEach [] env)).all (fun x => x.1.isSome) && decide (es.length + ([] : List Keyword).length + (if ([] : List Keyword).isEmpty then 0 else 1) < 30)) = true := by
  have h1 : (backTo pos (starEach es env)).all (fun x => !x.1) = true := by
    have := plain_args (env := env) (pos := pos) h
    rw [List.all_eq_true]
    intro x hx
    rw [List.any_eq_false] at this
    have := this x hx
    simpa using this
  rw [h1]
  simp only [Bool.true_and, Bool.and_eq_true, decide_eq_true_eq]
  refine ⟨rfl, ?_⟩
  simp
  omega
/-- a built-in type's method, however many arguments -/
theorem pe_met {o : Expr} {es : List Expr} {g : En → Option (Opn × Bool × En)} {t : TA} {name : Str} {apos cpos : Pos} {T id : String} {r : V → List V → Hp → VK → Prop} (pa : PlainAttrs T) (slot : Slot T name id) (hty : typeOf (.builtin id) = pure (.type "method_descriptor")) (hm : MtR X id r)
    (ho : PE X o (tO X.K g)) (ha : PA X es t) (h0 : es = [] → ∀ σ H Q, t σ H Q → Q [] H) (hn : notCall o = true) (hs : ∀ e ∈ es, star e = false) (hl : es.length < 10) (hline : (apos.endLine == cpos.line) = true) :
    PE X (.Call (.Attribute o name apos) es [] cpos) (tBM X.K T r (tO X.K g) t) := by
  cases es with
  | nil =>
    refine (pe_bm0 pa slot hty hm ho (base_no hn) hline).imp fun σ H Q h => ?_
    obtain ⟨P, Z, ρ, r0, x, e, q⟩ := h
    refine ⟨P, Z, ρ, r0, x, e, fun v H1 ov sh => ?_⟩
    obtain ⟨h1, h2⟩ := q v H1 ov sh
    exact ⟨h1, h0 rfl _ _ _ h2⟩
  | cons e es =>
    exact pe_bm pa slot hty hm ho ha (base_no hn) (few_ok hs hl) hline (star_no (hs e List.mem_cons_self)) (plain_args fun e' he => hs e' (List.mem_cons_of_mem _ he))
theorem vals_nil {es : List Expr} (h : es = []) (σ : St) (H : Hp) (Q : List V → Hp → Prop) (q : tVs X.K (valEs C F B es) σ H Q) : Q [] H := by
  subst h
  obtain ⟨P, Z, ρ, r, x, e, q⟩ := q
  cases e
  exact q [] H x .nil (.refl ρ)
theorem opns_nil {es : List Expr} (h : es = []) (σ : St) (H : Hp) (Q : List V → Hp → Prop) (q : tOs X.K (opnEs F B es) σ H Q) : Q [] H := by
  subst h
  obtain ⟨P, Z, ρ, r, x, e, q⟩ := q
  cases e
  exact q [] H x .nil (.refl ρ)
/-- what a list's method does, for the three of them -/
def rMut (K : PySem.W.Frag) (m : Str) : V → List V → Hp → VK → Prop := fun x vs H Q => ∃ U p ds as d' res, x = .ref p ∧ Cont K H U p (.list ds) ∧ RepAll K H U vs as ∧ mutD m (.list ds) as = some (d', res) ∧
  ∀ v o, Rep K H U v res → (Cont K H U p (.list ds) → Pre (fun a => a = p) H (upd H p o) → U p → Cont K (upd H p o) U p d') → Q v (upd H p o)
theorem mut_ok (m : Str) (hm : mutNames.contains m = true) : ∃ id, Slot "list" m id ∧ typeOf (.builtin id) = pure (.type "method_descriptor") ∧ MtR X id (rMut X.K m) := by
  have pre : ∀ {H : Hp} {p : Addr} {o : HO} {U : Addr → Prop} {vs : List V} {ds : List PyData}, Pre (fun a => a = p) H (upd H p o) → U p → RepAll X.K H U vs ds → RepAll X.K (upd H p o) U vs ds := fun h u r => r.pre (h.mono fun a e => e ▸ u)
  have h3 : m = "append" ∨ m = "pop" ∨ m = "reverse" := by
    simp only [mutNames, List.contains_cons, List.contains_nil, Bool.or_false, Bool.or_eq_true, beq_iff_eq] at hm
    exact hm
  rcases h3 with rfl | rfl | rfl
  · refine ⟨"list.append", PySem.F.slot_list_append, PySem.F.type_list_append, fun pins s σ H x xs v us Q I rx rv h => mt_append pins s σ H x xs v us Q I rx rv ?_⟩
    obtain ⟨U, p, ds, as, d', res, rfl, c, r, e, q⟩ := h
    simp only [mutD, if_true] at e
    split at e
    · split at e
      · rename_i y hz
        cases e
        cases c with
        | lst h r0 =>
          cases r with
          | cons r1 rr =>
            cases rr
            exact ⟨p, _, _, rfl, rfl, h, by rw [r0.length]; exact hz, q _ _ .non fun _ hp u => .lst upd_same (pre hp u (r0.append (.cons r1 .nil)))⟩
      · cases e
    · cases e
  · refine ⟨"list.pop", PySem.F.slot_list_pop, PySem.F.type_list_pop, fun pins s σ H x xs v us Q I rx rv h => mt_pop pins s σ H x xs v us Q I rx rv ?_⟩
    obtain ⟨U, p, ds, as, d', res, rfl, c, r, e, q⟩ := h
    have n1 : ¬ (("pop" : Str) = "append") := by decide +kernel
    simp only [mutD, if_neg n1, if_true] at e
    split at e
    · obtain ⟨y, e1, e⟩ := map_some e
      cases e
      cases c with
      | lst h r0 =>
        cases r
        obtain ⟨w, g1, g2⟩ := r0.get e1
        refine ⟨p, _, w, rfl, rfl, h, by rw [r0.length]; exact g1, q _ _ g2 fun _ hp u => .lst upd_same (pre hp u ?_)⟩
        rw [List.dropLast_eq_take, List.dropLast_eq_take, r0.length]
        exact r0.take _
    · cases e
  · refine ⟨"list.reverse", PySem.F.slot_list_reverse, PySem.F.type_list_reverse, fun pins s σ H x xs v us Q I rx rv h => mt_reverse pins s σ H x xs v us Q I rx rv ?_⟩
    obtain ⟨U, p, ds, as, d', res, rfl, c, r, e, q⟩ := h
    have n1 : ¬ (("reverse" : Str) = "append") := by decide +kernel
    have n2 : ¬ (("reverse" : Str) = "pop") := by decide +kernel
    simp only [mutD, if_neg n1, if_neg n2, if_true] at e
    split at e
    · cases e
      cases c with
      | lst h r0 =>
        cases r
        exact ⟨p, _, rfl, rfl, h, q _ _ .non fun _ hp u => .lst upd_same (pre hp u r0.reverse)⟩
    · cases e
theorem pre_upd {H : Hp} {p : Addr} {o : HO} : Pre (fun a => a = p) H (upd H p o) := fun a u e n => ⟨u, by rw [upd_ne n]; exact e, .refl u⟩
theorem strs_rep {K : PySem.W.Frag} {H : Hp} {U : Addr → Prop} : ∀ {ds : List PyData} {ys : List Str} {vs : List V}, strsOf ds = some ys → RepAll K H U vs ds → vs = ys.map V.str
  | [], ys, vs, h, r => by
    cases h
    cases r
    rfl
  | d :: ds, ys, vs, h, r => by
    cases d with
    | str x =>
      simp only [strsOf] at h
      obtain ⟨zs, h1, h2⟩ := map_some h
      subst h2
      cases r with
      | cons r1 r2 =>
        rw [strs_rep h1 r2, r1.str_inv]
        rfl
    | _ => simp [strsOf] at h
def rMet (K : PySem.W.Frag) (m : Str) : V → List V → Hp → VK → Prop := fun x vs H Q => ∃ U z ds d, x = .str z ∧ OpdAll K H U vs ds ∧ metD m (.str z) ds = some d ∧ NewV K H U d Q
def metNames : List Str := ["join"]
theorem met_ok (m : Str) (hm : metNames.contains m = true) : ∃ id, Slot "str" m id ∧ typeOf (.builtin id) = pure (.type "method_descriptor") ∧ MtR X id (rMet X.K m) := by
  have h3 : m = "join" := by
    simp only [metNames, List.contains_cons, List.contains_nil, Bool.or_false, beq_iff_eq] at hm
    exact hm
  subst h3
  refine ⟨"str.join", PySem.F.slot_str_join, PySem.F.type_str_join, fun pins s σ H x xs v us Q I rx rv h => mt_join pins s σ H x xs v us Q I rx rv ?_⟩
  obtain ⟨U, z, ds, d, rfl, os, e, q⟩ := h
  simp only [metD, if_true] at e
  split at e
  · obtain ⟨ys, e1, e⟩ := bind_some e
    split at e
    · rename_i hz
      cases e
      obtain ⟨v0, rfl, o1⟩ := os.one
      obtain ⟨a, ws, rfl, g1, r⟩ := o1.lst_inv
      have := strs_rep e1 r
      subst this
      exact ⟨z, a, ys, rfl, rfl, .inl (SqL.of g1), hz, q _ (.str _)⟩
    · cases e
  · cases e
theorem st_met (S : SoO X C F B) (o : Expr) (m : Str) (es : List Expr) (ap p : Pos) (hline : (ap.endLine == p.line) = true) : PE X (.Call (.Attribute o m ap) es [] p) (tO X.K (callM C F B o m es)) := by
  have no : (∀ ρ r, callM C F B o m es ρ = some r → False) → PE X (.Call (.Attribute o m ap) es [] p) (tO X.K (callM C F B o m es)) := fun h => .no fun σ H Q z => by
    obtain ⟨P, Z, ρ, r, x, e, q⟩ := z
    exact h ρ r e
  rcases all_star es with hs | ⟨e', h1, h2⟩
  · by_cases hc : (notCall o && decide (es.length < 10)) = true
    · have hc' := hc
      simp only [Bool.and_eq_true, decide_eq_true_eq] at hc
      by_cases hm : mutNames.contains m = true
      · obtain ⟨id, m1, m2, m3⟩ := mut_ok (X := X) m hm
        refine (pe_met PySem.F.plainAttrs_list m1 m2 m3 (S.o o) (pa_vals S es) vals_nil hc.1 hs hc.2 hline).imp fun σ H Q h => ?_
        obtain ⟨P, Z, ρ, r, x, e, q⟩ := h
        unfold callM at e
        rw [if_pos hc'] at e
        obtain ⟨r1, e1, e⟩ := bind_some e
        rw [if_pos hm] at e
        split at e
        · rename_i i hi
          split at e
          · rename_i ds0 hd
            obtain ⟨r2, e2, e⟩ := bind_some e
            split at e
            · rename_i d hd2
              obtain ⟨z, e3, e⟩ := bind_some e
              cases e
              refine ⟨P, Z, ρ, r1, x, e1, fun v H1 ov sh => ?_⟩
              unfold OV at ov
              rw [hi] at ov
              obtain ⟨s1, hv, _⟩ := ov
              obtain ⟨p1, g1, c1, _⟩ := s1.ow i _ hd
              rw [hv] at g1
              cases g1
              have ty : tyV X.K "list" (.ref p1) H1 := by
                cases c1 with
                | lst h _ => exact .inl ⟨rfl, _, SqL.of h⟩
              refine ⟨ty, P, Z, r1.2.2, r2, s1, e2, fun vs H2 s2 rs sh2 => ?_⟩
              obtain ⟨p2, g2, c2, _⟩ := s2.ow i _ hd2
              rw [hv] at g2
              cases g2
              cases d with
              | list ds =>
                refine ⟨_, p1, ds, _, z.1, z.2, rfl, c2, rs, e3, fun w o' rw' hc2 => ?_⟩
                have up : UU r2.2 σ Z p1 := .inr ⟨i, _, hd2, hv⟩
                have s3 := s2.mut hd2 hv (hc2 c2 pre_upd up)
                refine q w _ ⟨s3, ?_⟩ ((sh.trans sh2).trans ⟨by simp, fun j e hj => ?_⟩)
                · exact (rw'.pre (pre_upd.mono fun a e => by subst e; exact up)).mono fun a u => (uu_set hd2 a).mp u
                · rcases set_get hj with ⟨rfl, _⟩ | ⟨_, h⟩
                  · exact ⟨_, hd2⟩
                  · exact ⟨_, h⟩
              | _ => simp [mutD] at e3
            · cases e
          · cases e
        · cases e
      · by_cases hm2 : metNames.contains m = true
        · obtain ⟨id, m1, m2, m3⟩ := met_ok (X := X) m hm2
          refine (pe_met PySem.F.plainAttrs_str m1 m2 m3 (S.o o) (pa_opns S es) opns_nil hc.1 hs hc.2 hline).imp fun σ H Q h => ?_
          obtain ⟨P, Z, ρ, r, x, e, q⟩ := h
          unfold callM at e
          rw [if_pos hc'] at e
          obtain ⟨r1, e1, e⟩ := bind_some e
          rw [if_neg hm] at e
          split at e
          · rename_i d hi
            obtain ⟨r2, e2, e⟩ := bind_some e
            obtain ⟨ds, e3, e⟩ := bind_some e
            obtain ⟨z, e4, e⟩ := bind_some e
            cases e
            refine ⟨P, Z, ρ, r1, x, e1, fun v H1 ov sh => ?_⟩
            obtain ⟨s1, o1⟩ := ov.stt
            rw [hi] at o1
            have o1 : Rep X.K H1 (UU r1.2.2 σ Z) v d := o1
            cases d with
            | str z0 =>
              obtain rfl := o1.str_inv
              exact ⟨rfl, P, Z, r1.2.2, r2, s1, e2, fun vs H2 s2 os sh2 => ⟨_, z0, ds, z, rfl, os.opd s2 e3, e4, newV_res s2 fun w H3 vl => q w H3 vl (sh.trans sh2)⟩⟩
            | _ => simp [metD] at e4
          · cases e
        · refine no fun ρ r e => ?_
          unfold callM at e
          rw [if_pos hc'] at e
          obtain ⟨r1, e1, e⟩ := bind_some e
          rw [if_neg hm] at e
          split at e
          · obtain ⟨r2, e2, e⟩ := bind_some e
            obtain ⟨ds, e3, e⟩ := bind_some e
            obtain ⟨z, e4, e⟩ := bind_some e
            have hj : ¬ m = "join" := fun z => hm2 (by subst z; decide +kernel)
            unfold metD at e4
            split at e4
            · rw [if_neg hj] at e4
              cases e4
            · cases e4
          · cases e
    · refine no fun ρ r e => ?_
      unfold callM at e
      rw [if_neg hc] at e
      cases e
  · refine no fun ρ r e => ?_
    unfold callM at e
    obtain ⟨_, e⟩ := ite_some e
    obtain ⟨r1, e1, e⟩ := bind_some e
    split at e
    · split at e
      · split at e
        · obtain ⟨r2, e2, e⟩ := bind_some e
          have := valEs_star e2 e' h1
          rw [h2] at this
          cases this
        · cases e
      · cases e
    · split at e
      · obtain ⟨r2, e2, e⟩ := bind_some e
        have := opnEs_star e2 e' h1
        rw [h2] at this
        cases this
      · cases e
end
end Pf


namespace Pf
open PySem PySem.Spec L2

/-! ## calls of the text's own defs: the plain part -/
theorem Cont.offs {K : PySem.W.Frag} {H : Hp} {U : Addr → Prop} {p : Addr} {d : PyData} (c : Cont K H U p d) : Cont K H (fun b => U b ∨ H b = none) p d := by
  cases c with
  | lst h r => exact .lst h r.offs
  | dK l h r => exact .dK l h r.offs
  | dT l h r => exact .dT l h r.offs
theorem arr_get {α : Type} {us ws ds : List α} : ∀ {src : List Src} {full : List α}, arr us ws ds src = some full → full.length = src.length ∧ ∀ (i : Nat) (s : Src), src[i]? = some s → ∃ x, full[i]? = some x ∧ pickS us ws ds s = some x
  | [], full, h => by
    simp only [arr] at h
    cases h
    exact ⟨rfl, fun i s e => by simp at e⟩
  | s :: src, full, h => by
    simp only [arr] at h
    obtain ⟨x, h1, h⟩ := Option.bind_eq_some_iff.mp h
    obtain ⟨xs, h2, h⟩ := Option.bind_eq_some_iff.mp h
    cases h
    obtain ⟨l, g⟩ := arr_get h2
    refine ⟨by simp [l], fun i s' e => ?_⟩
    cases i with
    | zero =>
      simp at e
      subst e
      exact ⟨x, rfl, h1⟩
    | succ i => exact g i s' (by simpa using e)
theorem pickS_len {α β : Type} {us ws ds : List α} {us' ws' ds' : List β} (l1 : us.length = us'.length) (l2 : ws.length = ws'.length) (l3 : ds.length = ds'.length) {s : Src} {x : α} (h : pickS us ws ds s = some x) : ∃ y, pickS us' ws' ds' s = some y := by
  have go : ∀ {as : List α} {bs : List β} {i : Nat}, as.length = bs.length → as[i]? = some x → ∃ y, bs[i]? = some y := fun {as bs i} l e => by
    have := (List.getElem?_eq_some_iff.mp e).1
    exact ⟨bs[i]'(by omega), List.getElem?_eq_getElem (by omega)⟩
  cases s with
  | pos i => exact go l1 h
  | kw i => exact go l2 h
  | dfl i => exact go l3 h
theorem arr_len {α β : Type} {us ws ds : List α} {us' ws' ds' : List β} (l1 : us.length = us'.length) (l2 : ws.length = ws'.length) (l3 : ds.length = ds'.length) : ∀ {src : List Src} {full : List α}, arr us ws ds src = some full → ∃ full', arr us' ws' ds' src = some full'
  | [], _, _ => ⟨[], rfl⟩
  | s :: src, full, h => by
    simp only [arr] at h
    obtain ⟨x, h1, h⟩ := Option.bind_eq_some_iff.mp h
    obtain ⟨xs, h2, h⟩ := Option.bind_eq_some_iff.mp h
    obtain ⟨y, g1⟩ := pickS_len l1 l2 l3 h1
    obtain ⟨ys, g2⟩ := arr_len l1 l2 l3 h2
    exact ⟨y :: ys, by simp [arr, g1, g2]⟩
theorem posFirst_get : ∀ {src : List Src} {n j i : Nat} {s : Src}, posFirst n j src = true → src[i]? = some s → j + i < n → s = .pos (j + i)
  | [], _, _, i, _, _, e, _ => by simp at e
  | s0 :: r, n, j, i, s, h, e, l => by
    have hr : posFirst n (j + 1) r = true ∧ (j < n → s0 = .pos j) := by
      cases s0 with
      | pos a =>
        simp only [posFirst, Bool.and_eq_true, decide_eq_true_eq] at h
        exact ⟨h.2, fun _ => by rw [h.1.1]⟩
      | kw a =>
        simp only [posFirst, Bool.and_eq_true, decide_eq_true_eq] at h
        exact ⟨h.2, fun z => by omega⟩
      | dfl a =>
        simp only [posFirst, Bool.and_eq_true, decide_eq_true_eq] at h
        exact ⟨h.2, fun z => by omega⟩
    cases i with
    | zero =>
      simp at e
      subst e
      exact hr.2 (by omega)
    | succ i =>
      have := posFirst_get (i := i) hr.1 (by simpa using e) (by omega)
      rw [this]
      congr 1
      omega
theorem rdOs_get {ρ : En} : ∀ {os : List Opn} {ds : List PyData}, rdOs ρ os = some ds → ds.length = os.length ∧ ∀ (i : Nat) (o : Opn), os[i]? = some o → ∃ d, ds[i]? = some d ∧ rdO ρ o = some d
  | [], ds, h => by
    simp only [rdOs] at h
    cases h
    exact ⟨rfl, fun i s e => by simp at e⟩
  | o :: os, ds, h => by
    simp only [rdOs] at h
    obtain ⟨x, h1, h⟩ := Option.bind_eq_some_iff.mp h
    obtain ⟨xs, h2, h⟩ := Option.bind_eq_some_iff.mp h
    cases h
    obtain ⟨l, g⟩ := rdOs_get h2
    refine ⟨by simp [l], fun i s' e => ?_⟩
    cases i with
    | zero =>
      simp at e
      subst e
      exact ⟨x, rfl, h1⟩
    | succ i => exact g i s' (by simpa using e)
theorem OAs.get {K : PySem.W.Frag} {H : Hp} {ρ : En} {σ : St} {Z : Addr → Prop} : ∀ {os : List Opn} {vs : List V}, OAs K H ρ σ Z os vs → vs.length = os.length ∧ ∀ (i : Nat) (o : Opn), os[i]? = some o → ∃ v, vs[i]? = some v ∧ OA K H ρ σ Z o v
  | _, _, .nil => ⟨rfl, fun i s e => by simp at e⟩
  | _, _, .cons h r => by
    obtain ⟨l, g⟩ := OAs.get r
    refine ⟨by simp [l], fun i s' e => ?_⟩
    cases i with
    | zero =>
      simp at e
      subst e
      exact ⟨_, rfl, h⟩
    | succ i => exact g i s' (by simpa using e)
theorem argEs_io {C : Ctx} {F : Fns} {B : Bk} : ∀ {io : List Bool} {es : List Expr} {ρ : En} {r : List Opn × En}, argEs C F B io es ρ = some r → r.1.length = es.length ∧ (∀ (i s : Nat), r.1[i]? = some (.slot s) → io[i]? = some true) ∧ ∀ i : Nat, i < es.length → io[i]? = some true → ∃ s, r.1[i]? = some (.slot s)
  | io, [], ρ, r, h => by
    have : r = ([], ρ) := by
      cases io with
      | nil => simp only [argEs] at h; cases h; rfl
      | cons b io => cases b <;> (simp only [argEs] at h; cases h; rfl)
    subst this
    exact ⟨rfl, fun i s e => by simp at e, fun i e => by simp at e⟩
  | [], e :: es, ρ, r, h => by simp [argEs] at h
  | true :: io, e :: es, ρ, r, h => by
    simp only [argEs] at h
    obtain ⟨_, h⟩ := ite_some' h
    obtain ⟨r1, h1, h⟩ := bind_some h
    split at h
    · obtain ⟨q, h2, h⟩ := bind_some h
      cases h
      obtain ⟨l, g1, g2⟩ := argEs_io h2
      refine ⟨by simp [l], fun i s e => ?_, fun i hi e => ?_⟩
      · cases i with
        | zero => rfl
        | succ i => exact g1 i s (by simpa using e)
      · cases i with
        | zero => exact ⟨_, rfl⟩
        | succ i => exact g2 i (by simpa using hi) (by simpa using e)
    · cases h
  | false :: io, e :: es, ρ, r, h => by
    simp only [argEs] at h
    obtain ⟨_, h⟩ := ite_some' h
    obtain ⟨r1, h1, h⟩ := bind_some h
    obtain ⟨q, h2, h⟩ := bind_some h
    cases h
    obtain ⟨l, g1, g2⟩ := argEs_io h2
    refine ⟨by simp [l], fun i s e => ?_, fun i hi e => ?_⟩
    · cases i with
      | zero => simp at e
      | succ i => exact g1 i s (by simpa using e)
    · cases i with
      | zero => simp at e
      | succ i => exact g2 i (by simpa using hi) (by simpa using e)
theorem argEs_star {C : Ctx} {F : Fns} {B : Bk} : ∀ {io : List Bool} {es : List Expr} {ρ : En} {r : List Opn × En}, argEs C F B io es ρ = some r → ∀ e ∈ es, star e = false
  | io, [], ρ, r, h => fun e he => by cases he
  | [], e :: es, ρ, r, h => by simp [argEs] at h
  | true :: io, e :: es, ρ, r, h => by
    simp only [argEs] at h
    obtain ⟨s1, h⟩ := ite_some' h
    obtain ⟨r1, h1, h⟩ := bind_some h
    split at h
    · obtain ⟨q, h2, h⟩ := bind_some h
      exact fun e' he => (List.mem_cons.mp he).elim (fun z => z ▸ s1) (argEs_star h2 e')
    · cases h
  | false :: io, e :: es, ρ, r, h => by
    simp only [argEs] at h
    obtain ⟨s1, h⟩ := ite_some' h
    obtain ⟨r1, h1, h⟩ := bind_some h
    obtain ⟨q, h2, h⟩ := bind_some h
    exact fun e' he => (List.mem_cons.mp he).elim (fun z => z ▸ s1) (argEs_star h2 e')
theorem slotsOf_mem : ∀ {os : List Opn} {s : Nat}, s ∈ slotsOf os ↔ ∃ i : Nat, os[i]? = some (.slot s)
  | [], s => by simp [slotsOf]
  | .slot t :: os, s => by
    simp only [slotsOf, List.mem_cons, slotsOf_mem (os := os)]
    constructor
    · rintro (rfl | ⟨i, h⟩)
      · exact ⟨0, rfl⟩
      · exact ⟨i + 1, by simpa using h⟩
    · rintro ⟨i, h⟩
      cases i with
      | zero => simp at h; exact .inl h.symm
      | succ i => exact .inr ⟨i, by simpa using h⟩
  | .val t :: os, s => by
    simp only [slotsOf, slotsOf_mem (os := os)]
    constructor
    · rintro ⟨i, h⟩
      exact ⟨i + 1, by simpa using h⟩
    · rintro ⟨i, h⟩
      cases i with
      | zero => simp at h
      | succ i => exact ⟨i, by simpa using h⟩
theorem nodup_inj : ∀ {os : List Opn}, nodupB (slotsOf os) = true → ∀ (i j s : Nat), os[i]? = some (.slot s) → os[j]? = some (.slot s) → i = j
  | [], _, i, j, s, h, _ => by simp at h
  | .slot t :: os, hn, i, j, s, h1, h2 => by
    simp only [slotsOf, nodupB, Bool.and_eq_true, Bool.not_eq_true', List.contains_eq_mem, decide_eq_false_iff_not] at hn
    cases i with
    | zero =>
      simp at h1
      subst h1
      cases j with
      | zero => rfl
      | succ j => exact (hn.1 (slotsOf_mem.mpr ⟨j, by simpa using h2⟩)).elim
    | succ i =>
      cases j with
      | zero =>
        simp at h2
        subst h2
        exact (hn.1 (slotsOf_mem.mpr ⟨i, by simpa using h1⟩)).elim
      | succ j => rw [nodup_inj hn.2 i j s (by simpa using h1) (by simpa using h2)]
  | .val t :: os, hn, i, j, s, h1, h2 => by
    simp only [slotsOf] at hn
    cases i with
    | zero => simp at h1
    | succ i =>
      cases j with
      | zero => simp at h2
      | succ j => rw [nodup_inj hn i j s (by simpa using h1) (by simpa using h2)]
/-! what the slots hold behind the call -/
theorem putBack_length : ∀ {os : List Opn} {ds : List PyData} {ρ : En}, (putBack ρ os ds).length = ρ.length
  | [], ds, ρ => by cases ds <;> rfl
  | o :: os, [], ρ => by cases o <;> rfl
  | .slot i :: os, d :: ds, ρ => by simp [putBack, putBack_length]
  | .val _ :: os, _ :: ds, ρ => by simp only [putBack]; exact putBack_length
theorem putBack_out : ∀ {os : List Opn} {ds : List PyData} {ρ : En} {s : Nat}, s ∉ slotsOf os → (putBack ρ os ds)[s]? = ρ[s]?
  | [], ds, ρ, s, h => by cases ds <;> rfl
  | o :: os, [], ρ, s, h => by cases o <;> rfl
  | .slot i :: os, d :: ds, ρ, s, h => by
    simp only [slotsOf, List.mem_cons, not_or] at h
    rw [show putBack ρ (.slot i :: os) (d :: ds) = putBack (ρ.set i (some (true, d))) os ds from rfl, putBack_out h.2, List.getElem?_set_ne (fun e => h.1 e.symm)]
  | .val _ :: os, _ :: ds, ρ, s, h => by
    simp only [slotsOf] at h
    exact putBack_out (os := os) (ds := ds) h
theorem putBack_in : ∀ {os : List Opn} {ds : List PyData} {ρ : En} {i s : Nat} {d : PyData}, nodupB (slotsOf os) = true → os[i]? = some (.slot s) → ds[i]? = some d → s < ρ.length → (putBack ρ os ds)[s]? = some (some (true, d))
  | [], ds, ρ, i, s, d, _, h, _, _ => by simp at h
  | o :: os, [], ρ, i, s, d, _, _, h, _ => by simp at h
  | .slot t :: os, d0 :: ds, ρ, i, s, d, hn, h1, h2, hs => by
    simp only [slotsOf, nodupB, Bool.and_eq_true, Bool.not_eq_true', List.contains_eq_mem, decide_eq_false_iff_not] at hn
    cases i with
    | zero =>
      simp at h1 h2
      subst h1
      subst h2
      rw [show putBack ρ (.slot t :: os) (d0 :: ds) = putBack (ρ.set t (some (true, d0))) os ds from rfl, putBack_out hn.1]
      exact List.getElem?_set_self hs
    | succ i => exact putBack_in (os := os) (ds := ds) (i := i) hn.2 (by simpa using h1) (by simpa using h2) (by simpa using hs)
  | .val _ :: os, d0 :: ds, ρ, i, s, d, hn, h1, h2, hs => by
    simp only [slotsOf] at hn
    cases i with
    | zero => simp at h1
    | succ i => exact putBack_in (os := os) (ds := ds) (i := i) hn (by simpa using h1) (by simpa using h2) hs

/-- how the callee's slots and the caller's hang together -/
structure Link (io : List Bool) (os : List Opn) (full : List PyData) (fv : List V) (ρ : En) (σ : St) : Prop where
  nd : nodupB (slotsOf os) = true
  to : ∀ (i : Nat) (d : PyData), io[i]? = some true → full[i]? = some d → ∃ s : Nat, os[i]? = some (.slot s) ∧ ρ[s]? = some (some (true, d))
  back : ∀ (i s : Nat), os[i]? = some (.slot s) → io[i]? = some true ∧ (∃ v, fv[i]? = some v ∧ σ[s]? = some (some v)) ∧ ∃ d, full[i]? = some d ∧ ρ[s]? = some (some (true, d))
theorem sv_get {vs : List V} {i : Nat} {v : V} : (sv vs)[i]? = some (some v) ↔ vs[i]? = some v := by
  unfold sv
  rw [List.getElem?_map]
  cases vs[i]? <;> simp
section
variable {K : PySem.W.Frag} {P : List Bs} {Z W : Addr → Prop} {io : List Bool} {os : List Opn} {full full' : List PyData} {fv : List V} {ρ : En} {σ : St} {H H' : Hp}
theorem Link.own (L : Link io os full fv ρ σ) {a : Addr} (h : OwnA (ag io full) (sv fv) a) : ∃ (i s : Nat) (d : PyData), os[i]? = some (.slot s) ∧ io[i]? = some true ∧ fv[i]? = some (V.ref a) ∧ full[i]? = some d ∧ ρ[s]? = some (some (true, d)) ∧ σ[s]? = some (some (V.ref a)) := by
  obtain ⟨i, d, h1, h2⟩ := h
  obtain ⟨h1, h3⟩ := ag_get.mp h1
  have h2 := sv_get.mp h2
  obtain ⟨s, g1, g2⟩ := L.to i d h1 h3
  obtain ⟨_, ⟨v, g3, g4⟩, _⟩ := L.back i s g1
  rw [h2] at g3
  cases g3
  exact ⟨i, s, d, g1, h1, h2, h3, g2, g4⟩
theorem Link.ownA (L : Link io os full fv ρ σ) {a : Addr} (h : OwnA (ag io full) (sv fv) a) : OwnA ρ σ a := by
  obtain ⟨i, s, d, _, _, _, _, h1, h2⟩ := L.own h
  exact ⟨s, d, h1, h2⟩
/-- the callee's set -/
def Zc (io : List Bool) (full : List PyData) (fv : List V) (ρ : En) (σ : St) (Z : Addr → Prop) (a : Addr) : Prop := UU ρ σ Z a ∧ ¬ OwnA (ag io full) (sv fv) a
theorem Link.sub (L : Link io os full fv ρ σ) {a : Addr} (h : UU (ag io full) (sv fv) (Zc io full fv ρ σ Z) a) : UU ρ σ Z a := by
  rcases h with h | h
  · exact h.1
  · exact .inr (L.ownA h)
theorem UU.there (x : Stt K P Z ρ σ H) {a : Addr} (h : UU ρ σ Z a) : H a ≠ none := by
  rcases h with h | ⟨i, d, hi, e⟩
  · exact x.zd a h
  · obtain ⟨p, h2, c, _⟩ := x.ow i d hi
    rw [e] at h2
    cases h2
    exact c.there
theorem Link.start (L : Link io os full fv ρ σ) (x : Stt K P Z ρ σ H) (l1 : full.length = io.length) (l2 : fv.length = full.length)
    (hv : ∀ (i : Nat) (d : PyData), io[i]? = some false → full[i]? = some d → ∃ v, fv[i]? = some v ∧ Rep K H (UU ρ σ Z) v d) : Stt K [] (Zc io full fv ρ σ Z) (ag io full) (sv fv) H where
  len := by rw [ag_length l1]; simp [l1, l2]
  sh := fun i d h => by
    obtain ⟨h1, h2⟩ := ag_get.mp h
    obtain ⟨v, g1, g2⟩ := hv i d h1 h2
    exact ⟨v, sv_get.mpr g1, g2.mono fun a u => L.sub u⟩
  ow := fun i d h => by
    obtain ⟨h1, h2⟩ := ag_get.mp h
    obtain ⟨s, g1, g2⟩ := L.to i d h1 h2
    obtain ⟨_, ⟨v, g3, g4⟩, _⟩ := L.back i s g1
    obtain ⟨p, g5, c, _⟩ := x.ow s d g2
    rw [g4] at g5
    cases g5
    exact ⟨p, sv_get.mpr g3, c.mono fun a u => L.sub u, fun z => z.2 ⟨i, d, h, sv_get.mpr g3⟩, fun b hb => by cases hb⟩
  dis := fun i j d e p h1 h2 h3 h4 => by
    obtain ⟨h1, a1⟩ := ag_get.mp h1
    obtain ⟨h2, a2⟩ := ag_get.mp h2
    have h3 := sv_get.mp h3
    have h4 := sv_get.mp h4
    obtain ⟨s, b1, b2⟩ := L.to i d h1 a1
    obtain ⟨t, c1, c2⟩ := L.to j e h2 a2
    obtain ⟨_, ⟨v, b3, b4⟩, _⟩ := L.back i s b1
    obtain ⟨_, ⟨w, c3, c4⟩, _⟩ := L.back j t c1
    rw [h3] at b3
    cases b3
    rw [h4] at c3
    cases c3
    have := x.dis s t d e p b2 c2 b4 c4
    subst this
    exact nodup_inj L.nd i j s b1 c1
  zd := fun a z => z.1.there x
  pre := fun b hb => by cases hb
theorem Link.put (L : Link io os full fv ρ σ) (l : full'.length = full.length) {s : Nat} {b : Bool} {d : PyData} (h : (putBack ρ os full')[s]? = some (some (b, d))) :
    (ρ[s]? = some (some (b, d)) ∧ s ∉ slotsOf os) ∨ (b = true ∧ ∃ i : Nat, os[i]? = some (.slot s) ∧ io[i]? = some true ∧ full'[i]? = some d) := by
  by_cases hs : s ∈ slotsOf os
  · obtain ⟨i, hi⟩ := slotsOf_mem.mp hs
    obtain ⟨h1, _, d0, h2, h3⟩ := L.back i s hi
    have hl : i < full'.length := by rw [l]; exact (List.getElem?_eq_some_iff.mp h2).1
    have := putBack_in L.nd hi (List.getElem?_eq_getElem hl) (List.getElem?_eq_some_iff.mp h3).1
    rw [this] at h
    cases h
    exact .inr ⟨rfl, i, hi, h1, List.getElem?_eq_getElem hl⟩
  · rw [putBack_out hs] at h
    exact .inl ⟨h, hs⟩
theorem Link.shr (L : Link io os full fv ρ σ) (l : full'.length = full.length) : Shr ρ (putBack ρ os full') := ⟨putBack_length, fun s d h => by
  rcases L.put l h with ⟨h, _⟩ | ⟨_, i, h1, _⟩
  · exact ⟨d, h⟩
  · obtain ⟨_, _, d0, _, h3⟩ := L.back i s h1
    exact ⟨d0, h3⟩⟩
theorem Link.shr' (L : Link io os full fv ρ σ) (l : full'.length = full.length) {a : Addr} (h : OwnA ρ σ a) : OwnA (putBack ρ os full') σ a := by
  obtain ⟨s, d, h1, h2⟩ := h
  by_cases hs : s ∈ slotsOf os
  · obtain ⟨i, hi⟩ := slotsOf_mem.mp hs
    obtain ⟨_, _, d0, h3, h4⟩ := L.back i s hi
    have hl : i < full'.length := by rw [l]; exact (List.getElem?_eq_some_iff.mp h3).1
    exact ⟨s, _, putBack_in L.nd hi (List.getElem?_eq_getElem hl) (List.getElem?_eq_some_iff.mp h4).1, h2⟩
  · exact ⟨s, d, by rw [putBack_out hs]; exact h1, h2⟩
theorem ag_own (l : full'.length = full.length) {a : Addr} (h : OwnA (ag io full) (sv fv) a) : OwnA (ag io full') (sv fv) a := by
  obtain ⟨i, d, h1, h2⟩ := h
  obtain ⟨h1, h3⟩ := ag_get.mp h1
  have hl : i < full'.length := by rw [l]; exact (List.getElem?_eq_some_iff.mp h3).1
  exact ⟨i, _, ag_get.mpr ⟨h1, List.getElem?_eq_getElem hl⟩, h2⟩
/-- behind the call -/
theorem Link.back_stt (L : Link io os full fv ρ σ) (x : Stt K P Z ρ σ H) (l : full'.length = full.length) (y : Stt K [⟨H, OwnA (ag io full) (sv fv)⟩] W (ag io full') (sv fv) H') (hw : ∀ a, Zc io full fv ρ σ Z a → W a) :
    Stt K P (fun a => Z a ∨ (W a ∧ H a = none)) (putBack ρ os full') σ H' ∧ (∀ a, UU (putBack ρ os full') σ (fun a => Z a ∨ (W a ∧ H a = none)) a → UU (ag io full') (sv fv) W a) := by
  obtain ⟨y1, y2, y3⟩ := y.pre _ List.mem_cons_self
  have sh := L.shr l
  have sub : ∀ a, UU (putBack ρ os full') σ (fun a => Z a ∨ (W a ∧ H a = none)) a → UU ρ σ Z a ∨ H a = none := fun a u => by
    rcases u with (u | u) | u
    · exact .inl (.inl u)
    · exact .inr u.2
    · exact .inl (UU.shr sh (Z := Z) (.inr u))
  have old : ∀ a, UU ρ σ Z a → UU (ag io full') (sv fv) W a := fun a u => by
    by_cases h : OwnA (ag io full) (sv fv) a
    · exact .inr (ag_own l h)
    · exact .inl (hw a ⟨u, h⟩)
  have sub2 : ∀ a, UU (putBack ρ os full') σ (fun a => Z a ∨ (W a ∧ H a = none)) a → UU (ag io full') (sv fv) W a := fun a u => by
    rcases u with (u | u) | u
    · exact old a (.inl u)
    · exact .inl u.1
    · exact old a (UU.shr sh (Z := Z) (.inr u))
  have pre' : Pre (fun a => UU ρ σ Z a ∨ H a = none) H H' := y1.mono fun a u => .inl (.inr (L.ownA u))
  have nn : ∀ a, H a ≠ none → H' a ≠ none := fun a h => by
    by_cases z : OwnA (ag io full) (sv fv) a
    · exact y2 a z
    · cases e : H a with
      | none => exact (h e).elim
      | some o =>
        obtain ⟨u, e', _⟩ := y1 a o e z
        rw [e']; intro q; cases q
  refine ⟨⟨by rw [putBack_length]; exact x.len, fun s d h => ?_, fun s d h => ?_, fun i j d e p h1 h2 h3 h4 => ?_, fun a z => ?_, fun b hb => ⟨fun a o e n => ?_, fun a z => nn a ((x.pre b hb).2.1 a z), fun a o z e => ?_⟩⟩, sub2⟩
  · rcases L.put l h with ⟨h, _⟩ | ⟨h, _⟩
    · obtain ⟨v, h1, r⟩ := x.sh s d h
      exact ⟨v, h1, (r.offs.pre pre').mono sub⟩
    · cases h
  · rcases L.put l h with ⟨h, hs⟩ | ⟨_, i, h1, h2, h3⟩
    · obtain ⟨p, g1, c, nz, bb⟩ := x.ow s d h
      have no : ¬ OwnA (ag io full) (sv fv) p := fun u => by
        obtain ⟨i, t, d', a1, _, _, _, a2, a3⟩ := L.own u
        have := x.dis s t d d' p h a2 g1 a3
        subst this
        exact hs (slotsOf_mem.mpr ⟨i, a1⟩)
      have zp : Zc io full fv ρ σ Z p := ⟨.inr ⟨s, d, h, g1⟩, no⟩
      refine ⟨p, g1, (c.offs.pre pre' fun o e => y3 p o (hw p zp) e).mono sub, fun z => ?_, bb⟩
      rcases z with z | z
      · exact nz z
      · exact c.there z.2
    · obtain ⟨_, ⟨v, a1, a2⟩, d0, a3, a4⟩ := L.back i s h1
      obtain ⟨p, b1, c, nz, _⟩ := y.ow i d (ag_get.mpr ⟨h2, h3⟩)
      have b1 := sv_get.mp b1
      rw [a1] at b1
      cases b1
      obtain ⟨p', g1, _, nz', bb⟩ := x.ow s d0 a4
      rw [a2] at g1
      cases g1
      exact ⟨p, a2, c.mono sub2, fun z => z.elim nz' fun z => nz z.1, bb⟩
  · obtain ⟨d', h1⟩ := sh.2 i d h1
    obtain ⟨e', h2⟩ := sh.2 j e h2
    exact x.dis i j d' e' p h1 h2 h3 h4
  · rcases z with z | z
    · exact nn a (x.zd a z)
    · exact y.zd a z.1
  · obtain ⟨u, e1, l1⟩ := (x.pre b hb).1 a o e n
    have no : ¬ OwnA (ag io full) (sv fv) a := fun u => by
      obtain ⟨i, t, d', a1, _, _, _, a2, a3⟩ := L.own u
      obtain ⟨p, g1, _, _, bb⟩ := x.ow t d' a2
      rw [a3] at g1
      cases g1
      rcases bb b hb with z | z
      · exact n z
      · rw [e] at z; cases z
    obtain ⟨u2, e2, l2⟩ := y1 a u e1 no
    exact ⟨u2, e2, l1.trans l2⟩
  · rcases z with z | ⟨z, z2⟩
    · have e1 := (x.pre b hb).2.2 a o z e
      have no : ¬ OwnA (ag io full) (sv fv) a := fun u => by
        obtain ⟨i, t, d', a1, _, _, _, a2, a3⟩ := L.own u
        obtain ⟨p, g1, _, nz, _⟩ := x.ow t d' a2
        rw [a3] at g1
        cases g1
        exact nz z
      exact y3 a o (hw a ⟨.inl z, no⟩) e1
    · by_cases hb2 : b.io a
      · exact ((x.pre b hb).2.1 a hb2 z2).elim
      · obtain ⟨u, e1, _⟩ := (x.pre b hb).1 a o e hb2
        rw [z2] at e1; cases e1
theorem Stt.zext {Z' : Addr → Prop} (x : Stt K P Z ρ σ H) (h : ∀ a, Z' a ↔ Z a) : Stt K P Z' ρ σ H := x.zmono fun a z => (h a).mp z
theorem Link.back_val (L : Link io os full fv ρ σ) (x : Stt K P Z ρ σ H) (l : full'.length = full.length) {b : Bool} {v : V} {r : PyData} (y : Val K [⟨H, OwnA (ag io full) (sv fv)⟩] (Zc io full fv ρ σ Z) (ag io full') (sv fv) b v r H') :
    Val K P Z (putBack ρ os full') σ b v r H' := by
  cases b with
  | false =>
    obtain ⟨s, q⟩ := L.back_stt x l y.1 fun a z => z
    have : ∀ a, Z a → (Z a ∨ (Zc io full fv ρ σ Z a ∧ H a = none)) := fun a z => .inl z
    exact ⟨s.zmono this, y.2.mono fun a u => q a (UU.zm this u)⟩
  | true =>
    obtain ⟨p, rfl, nz, s0, c, hb⟩ := y
    have hp : H p = none := hb _ List.mem_cons_self
    obtain ⟨s, q⟩ := L.back_stt x l s0 fun a z => .inl z
    have sub : ∀ a, ZP Z p a → (Z a ∨ (ZP (Zc io full fv ρ σ Z) p a ∧ H a = none)) := fun a z => by
      rcases z with z | rfl
      · exact .inl z
      · exact .inr ⟨.inr rfl, hp⟩
    obtain ⟨f1, f2, f3⟩ := x.fresh hp
    refine ⟨p, rfl, f2, s.zmono sub, c.mono fun a u => ?_, f1⟩
    rcases u with u | u
    · rcases q a (UU.zm (fun a z => sub a (.inl z)) u) with w | w
      · rcases w with w | w
        · exact .inl (.inl w)
        · exact .inr w
      · exact .inl (.inr w)
    · exact .inr u
end
end Pf


namespace Pf
open PySem PySem.Spec L2

theorem OAs.later {K : PySem.W.Frag} {P : List Bs} {Z : Addr → Prop} {ρ : En} {σ : St} {H : Hp} {ρ2 : En} {H2 : Hp} (x : Stt K (⟨H, OwnA ρ σ⟩ :: P) Z ρ2 σ H2) (sub : Shr ρ ρ2) : ∀ {os : List Opn} {vs : List V}, OAs K H ρ σ Z os vs → OAs K H2 ρ2 σ Z os vs
  | _, _, .nil => .nil
  | _, _, .cons h r => .cons (h.later x sub) (OAs.later x sub r)
theorem valEs_length {C : Ctx} {F : Fns} {B : Bk} : ∀ {es : List Expr} {ρ : En} {r : List PyData × En}, valEs C F B es ρ = some r → r.1.length = es.length
  | [], ρ, r, h => by
    simp only [valEs] at h
    cases h
    rfl
  | e :: es, ρ, r, h => by
    simp only [valEs] at h
    obtain ⟨_, h⟩ := ite_some' h
    obtain ⟨r1, h1, h⟩ := bind_some h
    obtain ⟨q, h2, h⟩ := bind_some h
    cases h
    simp [valEs_length h2]
section
variable {X : Cx} {C : Ctx} {B : Bk} {k : Nat} {F : Fns}
theorem pa_args (S : SoO X C F B) : ∀ (es : List Expr) (io : List Bool), PA X es (tOs X.K (argEs C F B io es))
  | [], io => by
    refine pa_nil.imp fun σ H Q h => ?_
    obtain ⟨P, Z, ρ, r, x, e, q⟩ := h
    have : r = ([], ρ) := by
      cases io with
      | nil => simp only [argEs] at e; cases e; rfl
      | cons b io => cases b <;> (simp only [argEs] at e; cases e; rfl)
    subst this
    exact q [] H x .nil (.refl ρ)
  | e :: es, [] => ⟨fun pos pins s σ H Q I h => by
    obtain ⟨P, Z, ρ, r, x, e1, q⟩ := h
    simp [argEs] at e1⟩
  | e :: es, true :: io => by
    by_cases hs : star e = true
    · refine ⟨fun pos pins s σ H Q I h => ?_⟩
      obtain ⟨P, Z, ρ, r, x, e1, q⟩ := h
      simp only [argEs, hs, if_true] at e1
      cases e1
    · have hs : star e = false := by simpa using hs
      refine (pa_cons (S.o e) (pa_args S es io) (star_no hs)).imp fun σ H Q h => ?_
      obtain ⟨P, Z, ρ, r, x, e1, q⟩ := h
      simp only [argEs, hs] at e1
      obtain ⟨r0, e0, e2⟩ := bind_some (by simpa using e1)
      split at e2
      · rename_i i hi
        obtain ⟨q0, e3, e4⟩ := bind_some e2
        cases e4
        refine ⟨P, Z, ρ, r0, x, e0, fun v H1 v1 sh => ?_⟩
        obtain ⟨s1, r1⟩ := v1.stt
        rw [hi] at r1
        refine ⟨_, Z, r0.2.2, q0, s1.push, e3, fun vs H2 s2 rs sh2 => ?_⟩
        exact q (v :: vs) H2 s2.pop (.cons r1 rs) (sh.trans sh2)
      · cases e2
  | e :: es, false :: io => by
    by_cases hs : star e = true
    · refine ⟨fun pos pins s σ H Q I h => ?_⟩
      obtain ⟨P, Z, ρ, r, x, e1, q⟩ := h
      simp only [argEs, hs, if_true] at e1
      cases e1
    · have hs : star e = false := by simpa using hs
      refine (pa_cons (S.v e) (pa_args S es io) (star_no hs)).imp fun σ H Q h => ?_
      obtain ⟨P, Z, ρ, r, x, e1, q⟩ := h
      simp only [argEs, hs] at e1
      obtain ⟨r0, e0, e2⟩ := bind_some (by simpa using e1)
      obtain ⟨q0, e3, e4⟩ := bind_some e2
      cases e4
      refine ⟨P, Z, ρ, r0, x, e0, fun v H1 v1 sh => ?_⟩
      obtain ⟨s1, r1⟩ := v1.share
      refine ⟨_, Z, r0.2.2, q0, s1.push, e3, fun vs H2 s2 rs sh2 => ?_⟩
      exact q (v :: vs) H2 s2.pop (.cons (Pf.later r1 s2 sh2) rs) (sh.trans sh2)
theorem pk_vals (S : SoO X C F B) : ∀ kws : List Keyword, PK X kws (tVs X.K (valEs C F B (kws.map (·.value))))
  | [] => ⟨fun pos pins s σ H Q I h => by
    obtain ⟨P, Z, ρ, r, x, e, q⟩ := h
    cases e
    exact pk_nil.run pos pins s σ H Q I (q [] H x .nil (.refl ρ))⟩
  | ⟨nm, e, kpos⟩ :: kws => by
    have p := pk_cons (nm := nm) (kpos := kpos) (S.v e) (pk_vals S kws)
    refine ⟨fun pos pins s σ H Q I h => p.run pos pins s σ H Q I ?_⟩
    obtain ⟨P, Z, ρ, r, x, e1, q⟩ := h
    simp only [List.map_cons, valEs] at e1
    obtain ⟨_, e1⟩ := ite_some' e1
    obtain ⟨r0, e0, e2⟩ := bind_some e1
    obtain ⟨q0, e3, e4⟩ := bind_some e2
    cases e4
    refine ⟨P, Z, ρ, r0, x, e0, fun v H1 v1 sh => ?_⟩
    obtain ⟨s1, r1⟩ := v1.share
    refine ⟨_, Z, r0.2.2, q0, s1.push, e3, fun vs H2 s2 rs sh2 => ?_⟩
    exact q (v :: vs) H2 s2.pop (.cons (Pf.later r1 s2 sh2) rs) (sh.trans sh2)
theorem kw_ok {env : Env} {pos : Pos} : ∀ {kws : List Keyword} {ks : List Str}, kwNames kws = some ks → (backToKw pos (keywordEach kws env)).all (·.1.isSome) = true ∧ (backToKw pos (keywordEach kws env)).filterMap (·.1) = ks ∧ (backToKw pos (keywordEach kws env)).any (·.1.isNone) = false ∧ ks.length = kws.length
  | [], ks, h => by
    simp only [kwNames] at h
    cases h
    exact ⟨rfl, rfl, rfl, rfl⟩
  | ⟨none, e, p⟩ :: r, ks, h => by cases h
  | ⟨some x, e, p⟩ :: r, ks, h => by
    simp only [kwNames] at h
    obtain ⟨ks', h1, h2⟩ := map_some h
    subst h2
    obtain ⟨a, b, c, d⟩ := kw_ok (env := env) (pos := pos) h1
    have e : backToKw pos (keywordEach (⟨some x, e, p⟩ :: r) env) = (some x, do let v ← eval e env; standAt pos; pure v) :: backToKw pos (keywordEach r env) := rfl
    rw [e]
    refine ⟨by simp only [List.all_cons, a]; rfl, by simp only [List.filterMap_cons, b], by simp only [List.any_cons, c]; rfl, by simp [d]⟩
theorem st_callU (T : Fits X C B k) (S : SoO X C F B) {e : FE} (he : e ∈ C.T) (f : Str) (hf : f = e.name) (args : List Expr) (kws : List Keyword) (p1 p : Pos) (hg : glB B.sc f = true) : PE X (.Call (.Name f p1) args kws p) (tO X.K (callU C F B e args kws)) := by
  refine ⟨fun pins s σ H Q I h => ?_⟩
  obtain ⟨P, Z, ρ, r, x, e1, q⟩ := h
  obtain ⟨ks, a1, e1⟩ := bind_some e1
  obtain ⟨pt, a2, e1⟩ := bind_some e1
  obtain ⟨cs, e1⟩ := ite_some e1
  obtain ⟨q1, a3, e1⟩ := bind_some e1
  obtain ⟨z, a4, e1⟩ := bind_some e1
  obtain ⟨us, a5, e1⟩ := bind_some e1
  obtain ⟨full, a6, e1⟩ := bind_some e1
  obtain ⟨cc, e1⟩ := ite_some e1
  obtain ⟨res, a7, e1⟩ := bind_some e1
  split at e1
  case isFalse => cases e1
  rename_i a8
  cases e1
  unfold ownAll at cc
  simp only [Bool.and_eq_true, decide_eq_true_eq, List.all_eq_true] at cs cc
  obtain ⟨⟨⟨⟨c2, c3⟩, c4⟩, c5⟩, c6⟩ := cs
  obtain ⟨c1, c7⟩ := cc
  obtain ⟨fa, fd, dvs, dus, Fk, hm, hk, vd, hd, hdl, hp⟩ := (T.tab e he).ex
  have hpt : pt ∈ e.pats ∧ pt.n = args.length ∧ pt.ks = ks := by
    have m := List.mem_of_find?_eq_some a2
    have := List.find?_some a2
    simp only [Bool.and_eq_true, beq_iff_eq] at this
    exact ⟨m, this.1, this.2⟩
  obtain ⟨pm, pn, pks⟩ := hpt
  have hn := glB_gl hg
  obtain ⟨hall, hks, hnone, hkl⟩ := kw_ok (env := X.env) (pos := p) a1
  have hst := argEs_star a3
  have fin : ∀ (us' : List Value) (ws : List Value) (vs zs : List V) (H2 : Hp) (s2 : Shared), Inv X pins σ H2 s2 → Vals vs us' → Vals zs ws → Stt X.K P Z z.2 σ H2 → OAs X.K H2 z.2 σ Z q1.1 vs → RepAll X.K H2 (UU z.2 σ Z) zs z.1 → Shr ρ z.2 →
      wpAny (model X.prog X.w) X.A (call (.ref fa) us' (ks.zip ws)) (EP X pins σ Q) X.xe s2 := fun us' ws vs zs H2 s2 I2 ru rw' x2 os rz sh => by
    obtain ⟨l1, g1⟩ := os.get
    obtain ⟨l2, g2⟩ := rdOs_get a5
    obtain ⟨l3, g3, g4⟩ := argEs_io a3
    obtain ⟨l4, g5⟩ := arr_get a6
    obtain ⟨fullU, b1, b2⟩ := hp pt pm s2 us' ws I2.kIn (by rw [pn, ← ru.length, l1, l3]) (by rw [c5, ← rw'.length, rz.length, valEs_length a4]; simp)
    obtain ⟨fv, b3⟩ := arr_len (us' := vs) (ws' := zs) (ds' := dvs) (by rw [l1, l2]) (by rw [rz.length]) (by rw [hdl]) a6
    obtain ⟨l5, g6⟩ := arr_get b3
    have rv : Vals fv fullU := arr_vals ru rw' vd b3 b1
    have L : Link e.io q1.1 full fv z.2 σ := by
      have pos : ∀ i : Nat, e.io[i]? = some true → i < args.length := fun i h => by
        rcases Nat.lt_or_ge i args.length with g | g
        · exact g
        · have : (e.io.drop args.length)[i - args.length]? = some true := by rw [List.getElem?_drop, ← h]; congr 1; omega
          have := c6 true (List.mem_of_getElem? this)
          cases this
      have place : ∀ i : Nat, i < args.length → i < e.io.length → pt.src[i]? = some (.pos i) := fun i h1 h2 => by
        have hl : i < pt.src.length := by rw [c3, ← c4]; exact h2
        have := posFirst_get (i := i) c2 (List.getElem?_eq_getElem hl) (by omega)
        rw [List.getElem?_eq_getElem hl, this]
        simp
      have slot : ∀ i t : Nat, q1.1[i]? = some (.slot t) → e.io[i]? = some true ∧ (∃ v, fv[i]? = some v ∧ σ[t]? = some (some v)) ∧ ∃ d, full[i]? = some d ∧ z.2[t]? = some (some (true, d)) := fun i t h => by
        have hio := g3 i t h
        have hl := pos i hio
        have hsrc := place i hl (List.getElem?_eq_some_iff.mp hio).1
        obtain ⟨d, d1, d2⟩ := g2 i _ h
        obtain ⟨v, v1, v2⟩ := g1 i _ h
        obtain ⟨d', d3, d4⟩ := g5 i _ hsrc
        obtain ⟨v', v3, v4⟩ := g6 i _ hsrc
        simp only [pickS] at d4 v4
        rw [d1] at d4
        cases d4
        rw [v1] at v4
        cases v4
        refine ⟨hio, ⟨v, v3, v2⟩, d, d3, ?_⟩
        have := c7 _ (List.mem_of_getElem? h)
        simp only [rdO] at d2
        dsimp only at this
        split at d2
        · rename_i b' d'' hz
          cases d2
          rw [hz] at this ⊢
          cases b' with
          | true => rfl
          | false => cases this
        · cases d2
      refine ⟨c1, fun i d h1 h2 => ?_, slot⟩
      obtain ⟨t, ht⟩ := g4 i (pos i h1) h1
      obtain ⟨_, _, d', h3, h4⟩ := slot i t ht
      rw [h2] at h3
      cases h3
      exact ⟨t, ht, h4⟩
    have lf : full.length = e.io.length := by rw [l4, c3, c4]
    have lv : fv.length = full.length := by rw [l5, l4]
    have hv : ∀ (i : Nat) (d : PyData), e.io[i]? = some false → full[i]? = some d → ∃ v, fv[i]? = some v ∧ Rep X.K H2 (UU z.2 σ Z) v d := fun i d h1 h2 => by
      have hl : i < pt.src.length := by rw [← l4]; exact (List.getElem?_eq_some_iff.mp h2).1
      obtain ⟨d', d3, d4⟩ := g5 i _ (List.getElem?_eq_getElem hl)
      obtain ⟨v', v3, v4⟩ := g6 i _ (List.getElem?_eq_getElem hl)
      rw [h2] at d3
      cases d3
      refine ⟨v', v3, ?_⟩
      rcases hs : pt.src[i] with j | j | j
      · rw [hs] at d4 v4
        have d4 : us[j]? = some d := d4
        have v4 : vs[j]? = some v' := v4
        have hj : j = i := by
          have hjl : j < q1.1.length := by rw [← l2]; exact (List.getElem?_eq_some_iff.mp d4).1
          have key : ∀ {src : List Src} {n a i : Nat} {j : Nat}, posFirst n a src = true → src[i]? = some (.pos j) → j = a + i := by
            intro src
            induction src with
            | nil => intro n a i j _ h; simp at h
            | cons s0 r ih =>
              intro n a i j h1 h2
              cases i with
              | zero =>
                simp at h2
                subst h2
                simp only [posFirst, Bool.and_eq_true, decide_eq_true_eq] at h1
                omega
              | succ i =>
                have hr : posFirst n (a + 1) r = true := by
                  cases s0 <;> (simp only [posFirst, Bool.and_eq_true, decide_eq_true_eq] at h1; exact h1.2)
                have := ih hr (by simpa using h2 : r[i]? = some (.pos j))
                omega
          have := key c2 (show pt.src[i]? = some (.pos j) by rw [List.getElem?_eq_getElem hl, hs])
          omega
        subst hj
        have hjl : j < q1.1.length := by rw [← l2]; exact (List.getElem?_eq_some_iff.mp d4).1
        obtain ⟨d5, d6, d7⟩ := g2 j _ (List.getElem?_eq_getElem hjl)
        obtain ⟨v5, v6, v7⟩ := g1 j _ (List.getElem?_eq_getElem hjl)
        rw [d4] at d6
        cases d6
        rw [v4] at v6
        cases v6
        rcases ho : q1.1[j] with t | d8
        · have := g3 j t (by rw [List.getElem?_eq_getElem hjl, ho])
          rw [h1] at this
          cases this
        · rw [ho] at d7 v7
          cases d7
          exact v7
      · rw [hs] at d4 v4
        obtain ⟨w, w1, w2⟩ := rz.get (show z.1[j]? = some d from d4)
        rw [show zs[j]? = some v' from v4] at w1
        cases w1
        exact w2
      · rw [hs] at d4 v4
        obtain ⟨w, w1, w2⟩ := hd j d d4
        rw [show dvs[j]? = some v' from v4] at w1
        cases w1
        exact w2 _ _
    rw [pks] at b2
    refine run_fk Fk T.room T.grd I2 b2 rv (E := fun _ _ _ => False) ⟨Zc e.io full fv z.2 σ Z, full, res.1, res.2.1, res.2.2, L.start x2 lf lv hv, lf, a7, a8, fun v H3 vl => ?_⟩
    exact q v H3 (L.back_val x2 a8 vl) (sh.trans (L.shr a8))
  refine wpAny_Call_Name_kw (ld_glob I (T.gl hg) (by rw [hf]; exact hm) ?_ hn.2.1)
  cases args with
  | nil =>
    refine PySem.W.callWith_KW0 (h₀ := X.base) I.ok.mod.kin hk hall ?_ (by rw [hnone]; rfl)
    have hq1 : q1 = ([], ρ) := by
      cases hio : e.io with
      | nil => rw [hio] at a3; simp only [argEs] at a3; cases a3; rfl
      | cons b io => rw [hio] at a3; cases b <;> (simp only [argEs] at a3; cases a3; rfl)
    subst hq1
    refine thn ((pk_vals S kws).run p pins s σ H (fun zs H2 => Stt X.K P Z z.2 σ H2 ∧ RepAll X.K H2 (UU z.2 σ Z) zs z.1 ∧ Shr ρ z.2) I ⟨P, Z, ρ, z, x, a4, fun vs H2 s2 rs sh2 => ⟨s2, rs, sh2⟩⟩) fun ws s2 ⟨zs, H2, I2, rw', x2, rz, sh⟩ => ⟨I2.kIn, ?_⟩
    rw [hks]
    exact fin [] ws [] zs H2 s2 I2 .nil rw' x2 .nil rz sh
  | cons a args =>
    refine PySem.W.callWith_KW (h₀ := X.base) I.ok.mod.kin hk hall ?_ (by rw [hnone, plain_args hst]; rfl) (star_no (hst a List.mem_cons_self))
    refine thn ((pa_args S (a :: args) e.io).run p pins s σ H (fun vs H1 => Stt X.K P Z q1.2 σ H1 ∧ OAs X.K H1 q1.2 σ Z q1.1 vs ∧ Shr ρ q1.2) I ⟨P, Z, ρ, q1, x, a3, fun vs H2 s2 rs sh2 => ⟨s2, rs, sh2⟩⟩) fun us1 s1 ⟨vs, H1, I1, ru, x1, os, sh1⟩ => ?_
    refine thn ((pk_vals S kws).run p pins s1 σ H1 (fun zs H2 => Stt X.K (⟨H1, OwnA q1.2 σ⟩ :: P) Z z.2 σ H2 ∧ RepAll X.K H2 (UU z.2 σ Z) zs z.1 ∧ Shr q1.2 z.2) I1 ⟨_, Z, q1.2, z, x1.push, a4, fun vs H2 s2 rs sh2 => ⟨s2, rs, sh2⟩⟩) fun ws s2 ⟨zs, H2, I2, rw', x2, rz, sh⟩ => ⟨I2.kIn, ?_⟩
    rw [hks]
    exact fin us1 ws vs zs H2 s2 I2 ru rw' x2.pop (os.later x2 sh) rz (sh1.trans sh)
/-- a call by a name -/
theorem st_callN (T : Fits X C B k) (S : SoO X C F B) (f : Str) (args : List Expr) (kws : List Keyword) (p1 p : Pos) : PE X (.Call (.Name f p1) args kws p) (tO X.K (callN C F B f args kws)) := by
  have no : (∀ ρ r, callN C F B f args kws ρ = some r → False) → PE X (.Call (.Name f p1) args kws p) (tO X.K (callN C F B f args kws)) := fun h => .no fun σ H Q z => by
    obtain ⟨P, Z, ρ, r, x, e, q⟩ := z
    exact h ρ r e
  by_cases hg : glB B.sc f = true
  · cases hfi : C.T.find? (fun e => e.name == f) with
    | some e =>
      have hm := List.mem_of_find?_eq_some hfi
      have hn := List.find?_some hfi
      have : callN C F B f args kws = callU C F B e args kws := by
        funext ρ
        unfold callN
        rw [if_pos hg, hfi]
      rw [this]
      exact st_callU T S hm f (beq_iff_eq.mp hn).symm args kws p1 p hg
    | none =>
      cases hb : biOf f with
      | some b =>
        have hbm := List.mem_of_find?_eq_some hb
        have hbn := List.find?_some hb
        cases kws with
        | cons kw kws => exact no fun ρ r e => by simp [callN, hg, hfi, hb] at e
        | nil =>
          cases args with
          | nil => exact no fun ρ r e => by simp [callN, hg, hfi, hb] at e
          | cons a args =>
            refine (st_bi T S b hbm f (beq_iff_eq.mp hbn).symm a args p1 p hg).imp fun σ H Q z => ?_
            obtain ⟨P, Z, ρ, r, x, e, q⟩ := z
            refine ⟨P, Z, ρ, r, x, ?_, q⟩
            simpa [callN, hg, hfi, hb] using e
      | none =>
        cases kws with
        | cons kw kws => exact no fun ρ r e => by simp [callN, hg, hfi, hb] at e
        | nil =>
          cases args with
          | nil => exact no fun ρ r e => by simp [callN, hg, hfi, hb] at e
          | cons a args =>
            cases args with
            | nil => exact no fun ρ r e => by simp [callN, hg, hfi, hb] at e
            | cons b args =>
              cases args with
              | cons c args => exact no fun ρ r e => by cases b <;> simp [callN, hg, hfi, hb] at e
              | nil =>
                cases b with
                | Name t p2 =>
                  by_cases hs : star a = true
                  · refine no fun ρ r e => ?_
                    simp [callN, hg, hfi, hb, hs] at e
                  · refine (st_isi T S f a t p1 p2 p hg (by simpa using hs)).imp fun σ H Q z => ?_
                    obtain ⟨P, Z, ρ, r, x, e, q⟩ := z
                    refine ⟨P, Z, ρ, r, x, ?_, q⟩
                    simpa [callN, hg, hfi, hb, isiE, hs] using e
                | _ => exact no fun ρ r e => by simp [callN, hg, hfi, hb] at e
  · refine no fun ρ r e => ?_
    unfold callN at e
    rw [if_neg hg] at e
    cases e
end
end Pf


namespace Pf
open PySem PySem.Spec L2

/-! ## what is walked -/
structure WalkD (K : PySem.W.Frag) (J : It) (H0 : Hp) (U : Addr → Prop) (xs : List PyData) : Prop where
  ex : ∃ (G : Hp → Prop) (Y : Nat → Hp → V → Hp → Prop), Walk J xs.length G Y ∧ (∀ H, Pre U H0 H → G H) ∧
    ∀ (i : Nat) (H : Hp) (x : V) (H' : Hp) (P : List Bs) (Z : Addr → Prop) (ρ : En) (σ : St), i < xs.length → Pre U H0 H → Y i H x H' → Stt K P Z ρ σ H → (∀ a, UU ρ σ Z a → U a ∨ H0 a = none) →
      ∃ d, xs[i]? = some d ∧ Stt K P Z ρ σ H' ∧ Rep K H' (UU ρ σ Z) x d
theorem rep_now {K : PySem.W.Frag} {H0 H : Hp} {U U' : Addr → Prop} {v : V} {d : PyData} (r : Rep K H0 U v d) (p : Pre U H0 H) (h : ∀ a, U' a → U a ∨ H0 a = none) : Rep K H U' v d :=
  (r.offs.pre (p.mono fun a u => .inl u)).mono h
theorem walkD_at {K : PySem.W.Frag} {J : It} {H0 : Hp} {U : Addr → Prop} {vs : List V} {xs : List PyData} {G : Hp → Prop} (r : RepAll K H0 U vs xs) (w : Walk J vs.length G (YAt vs)) (g : ∀ H, Pre U H0 H → G H) : WalkD K J H0 U xs := by
  refine ⟨G, YAt vs, by rw [← r.length]; exact w, g, fun i H x H' P Z ρ σ hi p y s h => ?_⟩
  obtain ⟨rfl, e⟩ := y
  obtain ⟨d, e1, e2⟩ := r.get' e
  exact ⟨d, e1, s, rep_now e2 p h⟩
theorem walkD_list {K : PySem.W.Frag} {H0 : Hp} {U : Addr → Prop} {a : Addr} {vs : List V} {xs : List PyData} (h : LstU K H0 U a vs) (r : RepAll K H0 U vs xs) : WalkD K (Itl K a) H0 U xs :=
  walkD_at r walk_list fun H p => (h.pre p).sq
theorem walkD_tup {K : PySem.W.Frag} {H0 : Hp} {U : Addr → Prop} {a : Addr} {vs : List V} {xs : List PyData} (h : TupU K H0 U a vs) (r : RepAll K H0 U vs xs) : WalkD K (Itt K a) H0 U xs :=
  walkD_at r walk_tup fun H p => (h.pre p).sq
theorem intsFrom_length : ∀ {n : Nat} {lo : Int}, (intsFrom lo n).length = n
  | 0, _ => rfl
  | n + 1, lo => by simp [intsFrom, intsFrom_length]
theorem intsFrom_get : ∀ {n i : Nat} {lo : Int}, i < n → (intsFrom lo n)[i]? = some (.int (lo + (i : Nat)))
  | n + 1, 0, lo, h => by simp [intsFrom]
  | n + 1, i + 1, lo, h => by
    have := intsFrom_get (n := n) (i := i) (lo := lo + 1) (by omega)
    simp only [intsFrom, List.getElem?_cons_succ, this]
    congr 2
    push_cast
    omega
theorem walkD_range {K : PySem.W.Frag} {H0 : Hp} {U : Addr → Prop} {lo : Int} {n : Nat} : WalkD K (Itr lo n) H0 U (intsFrom lo n) := by
  refine ⟨_, _, by rw [intsFrom_length]; exact walk_range, fun H p => trivial, fun i H x H' P Z ρ σ hi p y s h => ?_⟩
  obtain ⟨rfl, rfl⟩ := y
  rw [intsFrom_length] at hi
  exact ⟨_, intsFrom_get hi, s, .int _⟩
theorem walkD_str {K : PySem.W.Frag} {H0 : Hp} {U : Addr → Prop} {z : Str} : WalkD K (Its z) H0 U (charsD z) := by
  refine ⟨_, _, by simp only [charsD, List.length_map, Array.length_toList]; exact walk_str, fun H p => trivial, fun i H x H' P Z ρ σ hi p y s h => ?_⟩
  obtain ⟨rfl, c, e, rfl⟩ := y
  refine ⟨.str ⟨#[c]⟩, ?_, s, .str _⟩
  simp [charsD, e]
def tI (K : PySem.W.Frag) (f : En → Option (List PyData × En)) : TI := fun σ H R => ∃ P Z ρ r, Stt K P Z ρ σ H ∧ f ρ = some r ∧ ∀ J H1, WalkD K J H1 (UU r.2 σ Z) r.1 → Stt K P Z r.2 σ H1 → Shr ρ r.2 → R J H1
section
variable {X : Cx} {C : Ctx} {B : Bk} {k : Nat} {F : Fns} {tg : Expr}
theorem _root_.L2.PI.no {X : Cx} {tg e : Expr} {t : TI} (h : ∀ σ H Q, t σ H Q → False) : PI X tg e t := ⟨fun pins s σ H Q I q => (h _ _ _ q).elim⟩
theorem smallI_ok {i : Int} (h : smallI i = true) : -(2 ^ 62) ≤ i ∧ i < 2 ^ 62 := by
  simpa [smallI] using h
theorem OpdAll.int1 {K : PySem.W.Frag} {H : Hp} {U : Addr → Prop} {vs : List V} {i : Int} (h : OpdAll K H U vs [.int i]) : vs = [.int i] := by
  obtain ⟨v, rfl, o⟩ := h.one
  rw [o.int_inv]
theorem OpdAll.int2 {K : PySem.W.Frag} {H : Hp} {U : Addr → Prop} {vs : List V} {i j : Int} (h : OpdAll K H U vs [.int i, .int j]) : vs = [.int i, .int j] := by
  cases h with
  | cons o h =>
    rw [o.int_inv, h.int1]
theorem isRange_some {sc : Scope} {e : Expr} {args : List Expr} (h : isRange sc e = some args) : ∃ p1 p, e = .Call (.Name "range" p1) args [] p ∧ glB sc "range" = true := by
  unfold isRange at h
  split at h
  · split at h
    · rename_i hc
      cases h
      simp only [Bool.and_eq_true, beq_iff_eq] at hc
      obtain ⟨rfl, h2⟩ := hc
      exact ⟨_, _, rfl, h2⟩
    · cases h
  · cases h
theorem st_iter (T : Fits X C B k) (S : SoO X C F B) (e : Expr) : PI X tg e (tI X.K (iterE C F B e)) := by
  cases hr : isRange B.sc e with
  | some args =>
    obtain ⟨p1, p, rfl, hg⟩ := isRange_some hr
    have read : ∀ {σ : St} {H : Hp} {R : It → Hp → Prop}, tI X.K (iterE C F B (.Call (.Name "range" p1) args [] p)) σ H R → ∃ P Z ρ r0 ds xs, Stt X.K P Z ρ σ H ∧ opnEs F B args ρ = some r0 ∧ rdOs r0.2 r0.1 = some ds ∧ rangeD ds = some xs ∧
        ∀ J H1, WalkD X.K J H1 (UU r0.2 σ Z) xs → Stt X.K P Z r0.2 σ H1 → Shr ρ r0.2 → R J H1 := fun {σ H R} h => by
      obtain ⟨P, Z, ρ, r, x, e, q⟩ := h
      unfold iterE at e
      rw [hr] at e
      obtain ⟨r0, e1, e⟩ := bind_some e
      obtain ⟨ds, e2, e⟩ := bind_some e
      obtain ⟨xs, e3, e⟩ := bind_some e
      cases e
      exact ⟨P, Z, ρ, r0, ds, xs, x, e1, e2, e3, q⟩
    have two : ∀ {ds xs : List PyData}, rangeD ds = some xs → ds.length = args.length → (∃ a, args = [a]) ∨ ∃ a b, args = [a, b] := fun {ds xs} h l => by
      unfold rangeD at h
      split at h
      · match args, l with
        | [a], _ => exact .inl ⟨a, rfl⟩
      · match args, l with
        | [a, b], _ => exact .inr ⟨a, b, rfl⟩
      · cases h
    have len : ∀ {es : List Expr} {ρ : En} {r : List Opn × En}, opnEs F B es ρ = some r → r.1.length = es.length := by
      intro es
      induction es with
      | nil => intro ρ r h; simp only [opnEs] at h; cases h; rfl
      | cons e es ih =>
        intro ρ r h
        simp only [opnEs] at h
        obtain ⟨_, h⟩ := ite_some' h
        obtain ⟨r1, h1, h⟩ := bind_some h
        obtain ⟨q, h2, h⟩ := bind_some h
        cases h
        simp [ih h2]
    by_cases h1 : ∃ a, args = [a]
    · obtain ⟨a, rfl⟩ := h1
      rcases all_star [a] with hs | ⟨e', m1, m2⟩
      · refine (pi_range1 (T.gl hg) T.btx.1 (pa_opns S [a]) (by rw [star_no (hs a List.mem_cons_self)]; rfl)).imp fun σ H R h => ?_
        obtain ⟨P, Z, ρ, r0, ds, xs, x, e1, e2, e3, q⟩ := read h
        refine ⟨P, Z, ρ, r0, x, e1, fun vs H1 s1 os sh => ?_⟩
        have od := os.opd s1 e2
        unfold rangeD at e3
        split at e3
        · rename_i j
          obtain ⟨hc, e3⟩ := ite_some e3
          cases e3
          obtain rfl := od.int1
          exact ⟨j, rfl, (smallI_ok hc).1, (smallI_ok hc).2, q _ _ walkD_range s1 sh⟩
        · exfalso
          have h1 := (rdOs_get e2).1
          have h2 := len e1
          simp at h1 h2
          omega
        · cases e3
      · refine .no fun σ H R h => ?_
        obtain ⟨P, Z, ρ, r0, ds, xs, x, e1, e2, e3, q⟩ := read h
        have := opnEs_star e1 e' m1
        rw [m2] at this
        cases this
    · by_cases h2 : ∃ a b, args = [a, b]
      · obtain ⟨a, b, rfl⟩ := h2
        rcases all_star [a, b] with hs | ⟨e', m1, m2⟩
        · have s2 : starEach [b] X.env = [(false, eval b X.env)] := by rw [star_no (hs b (List.mem_cons_of_mem _ List.mem_cons_self))]; rfl
          refine (pi_range2 (T.gl hg) T.btx.1 (pa_opns S [a, b]) (by rw [star_no (hs a List.mem_cons_self), s2]) s2).imp fun σ H R h => ?_
          obtain ⟨P, Z, ρ, r0, ds, xs, x, e1, e2, e3, q⟩ := read h
          refine ⟨P, Z, ρ, r0, x, e1, fun vs H1 s1 os sh => ?_⟩
          have od := os.opd s1 e2
          unfold rangeD at e3
          split at e3
          · exfalso
            have h1 := (rdOs_get e2).1
            have h2 := len e1
            simp at h1 h2
            omega
          · rename_i i j
            obtain ⟨hc, e3⟩ := ite_some e3
            cases e3
            simp only [Bool.and_eq_true] at hc
            obtain rfl := od.int2
            exact ⟨i, j, rfl, ⟨(smallI_ok hc.1).1, (smallI_ok hc.1).2, (smallI_ok hc.2).1, (smallI_ok hc.2).2⟩, q _ _ walkD_range s1 sh⟩
          · cases e3
        · refine .no fun σ H R h => ?_
          obtain ⟨P, Z, ρ, r0, ds, xs, x, e1, e2, e3, q⟩ := read h
          have := opnEs_star e1 e' m1
          rw [m2] at this
          cases this
      · refine .no fun σ H R h => ?_
        obtain ⟨P, Z, ρ, r0, ds, xs, x, e1, e2, e3, q⟩ := read h
        exact (two e3 (by rw [(rdOs_get e2).1, len e1])).elim h1 h2
  | none =>
    refine ⟨fun pins s σ H R I h => ?_⟩
    obtain ⟨P, Z, ρ, r, x, e1, q⟩ := h
    unfold iterE at e1
    rw [hr] at e1
    obtain ⟨r0, e0, e1⟩ := bind_some e1
    obtain ⟨xs, e2, e1⟩ := bind_some e1
    cases e1
    obtain ⟨b0, d0, ρ0⟩ := r0
    cases d0 with
    | list ds =>
      cases e2
      refine (pi_list (S.v e)).run pins s σ H R I ⟨P, Z, ρ, _, x, e0, fun v H1 vl sh => ?_⟩
      obtain ⟨s1, r1⟩ := vl.share
      obtain ⟨a, vs, rfl, h1, h2⟩ := r1.lst_inv
      exact ⟨a, rfl, ⟨vs, h1.sq⟩, q _ _ (walkD_list h1 h2) s1 sh⟩
    | tuple ds =>
      cases e2
      refine (pi_tup (S.v e)).run pins s σ H R I ⟨P, Z, ρ, _, x, e0, fun v H1 vl sh => ?_⟩
      obtain ⟨s1, r1⟩ := vl.share
      obtain ⟨a, vs, rfl, h1, h2⟩ := r1.tup_inv
      exact ⟨a, rfl, ⟨vs, h1.sq⟩, q _ _ (walkD_tup h1 h2) s1 sh⟩
    | str z =>
      cases e2
      refine (pi_str (S.v e)).run pins s σ H R I ⟨P, Z, ρ, _, x, e0, fun v H1 vl sh => ?_⟩
      obtain ⟨s1, r1⟩ := vl.share
      obtain rfl := r1.str_inv
      exact ⟨z, rfl, q _ _ walkD_str s1 sh⟩
    | _ => cases e2

/-! ## targets -/
def Keep (io : List Nat) (σ σ' : St) : Prop := ∀ i ∈ io, σ'[i]? = σ[i]?
theorem Keep.refl (io : List Nat) (σ : St) : Keep io σ σ := fun _ _ => rfl
theorem Keep.trans {io : List Nat} {σ σ1 σ2 : St} (a : Keep io σ σ1) (b : Keep io σ1 σ2) : Keep io σ σ2 := fun i h => (b i h).trans (a i h)
theorem Keep.set {io : List Nat} {σ : St} {i : Nat} {v : Option V} (h : io.contains i = false) : Keep io σ (σ.set i v) := fun j hj => by
  refine List.getElem?_set_ne fun e => ?_
  subst e
  have := List.contains_iff_mem.mpr hj
  rw [h] at this
  cases this
theorem uu_setSh {ρ : En} {σ : St} {Z : Addr → Prop} {i : Nat} {d : PyData} {v : V} (a : Addr) (u : UU (ρ.set i (some (false, d))) (σ.set i (some v)) Z a) : UU ρ σ Z a := by
  rcases u with u | ⟨j, e, g1, g2⟩
  · exact .inl u
  · rcases set_get g1 with ⟨_, q⟩ | ⟨hn, q⟩
    · cases q
    · rw [List.getElem?_set_ne hn] at g2
      exact .inr ⟨j, e, q, g2⟩
theorem Stt.setS {K : PySem.W.Frag} {P : List Bs} {Z : Addr → Prop} {ρ : En} {σ : St} {H : Hp} (x : Stt K P Z ρ σ H) {i : Nat} {d : PyData} {v : V} (r : Rep K H (UU ρ σ Z) v d) : Stt K P Z (ρ.set i (some (false, d))) (σ.set i (some v)) H := by
  by_cases hi : i < σ.length
  · exact x.setSh r hi
  · rw [List.set_eq_of_length_le (by rw [x.len]; omega), List.set_eq_of_length_le (by omega)]
    exact x
theorem shr_set {ρ : En} {i : Nat} {d : PyData} : Shr ρ (ρ.set i (some (false, d))) := ⟨by simp, fun j e h => by
  rcases set_get h with ⟨_, q⟩ | ⟨_, q⟩
  · cases q
  · exact ⟨e, q⟩⟩
theorem wipe_set {σ : St} {i : Nat} {w : Option V} : ∀ {vs : List Nat}, i ∈ vs → wipe (σ.set i w) vs = wipe σ vs
  | [], h => by cases h
  | v :: vs, h => by
    unfold wipe
    by_cases hv : i ∈ vs
    · rw [wipe_set hv]
    · have : i = v := (List.mem_cons.mp h).resolve_right hv
      subst this
      have out : ∀ {vs : List Nat}, i ∉ vs → wipe (σ.set i w) vs = (wipe σ vs).set i w := by
        intro vs
        induction vs with
        | nil => intro _; rfl
        | cons u us ih =>
          intro hn
          simp only [List.mem_cons, not_or] at hn
          unfold wipe
          rw [ih hn.2, List.set_comm _ _ hn.1]
      rw [out hv, List.set_set]
/-- what a target's reading promises of the slots -/
def Tg (C : Ctx) (sl : List Nat) (σ σ' : St) : Prop := Keep C.io σ σ' ∧ ∀ vs : List Nat, (∀ i ∈ sl, i ∈ vs) → wipe σ' vs = wipe σ vs
def gN (K : PySem.W.Frag) (C : Ctx) (B : Bk) (es : List Expr) : TGs := fun vs σ H Q => ∃ P Z ρ ds ρ', Stt K P Z ρ σ H ∧ RepAll K H (UU ρ σ Z) vs ds ∧ tgsD C B es ds ρ = some ρ' ∧ ∀ σ', Stt K P Z ρ' σ' H → Shr ρ ρ' → Tg C (nmSlots C es) σ σ' → Q σ' H
def gT (K : PySem.W.Frag) (C : Ctx) (B : Bk) (e : Expr) : TG := fun v σ H Q => ∃ P Z ρ d ρ', Stt K P Z ρ σ H ∧ Rep K H (UU ρ σ Z) v d ∧ tgD C B e d ρ = some ρ' ∧ ∀ σ', Stt K P Z ρ' σ' H → Shr ρ ρ' → Tg C (tgSlots C e) σ σ' → Q σ' H
theorem _root_.L2.PG.imp {X : Cx} {e : Expr} {t t' : TG} (h : PG X e t) (i : ∀ v σ H Q, t' v σ H Q → t v σ H Q) : PG X e t' := ⟨fun pins s σ H v u Q I r q => h.run pins s σ H v u Q I r (i _ _ _ _ q)⟩
theorem _root_.L2.PGs.imp {X : Cx} {e : List Expr} {t t' : TGs} (h : PGs X e t) (i : ∀ v σ H Q, t' v σ H Q → t v σ H Q) : PGs X e t' := ⟨fun pins s σ H v u Q I r q => h.run pins s σ H v u Q I r (i _ _ _ _ q)⟩
theorem names_plain (env : Env) : ∀ es : List Expr, (∀ e ∈ es, ∃ x p, e = .Name x p) → (assignEach es env).length = es.length ∧ (assignEach es env).findIdx? (·.1) = none
  | [], _ => ⟨rfl, rfl⟩
  | e :: es, h => by
    obtain ⟨x, p, rfl⟩ := h e List.mem_cons_self
    obtain ⟨h1, h2⟩ := names_plain env es fun e he => h e (List.mem_cons_of_mem _ he)
    have : assignEach (.Name x p :: es) env = (false, assign (.Name x p) env) :: assignEach es env := rfl
    rw [this]
    refine ⟨by simp [h1], ?_⟩
    rw [List.findIdx?_cons]
    simp [h2]
theorem st_names (T : Fits X C B k) : ∀ es : List Expr, PGs X es (gN X.K C B es)
  | [] => pgs_nil.imp fun vs σ H Q h => by
    obtain ⟨P, Z, ρ, ds, ρ', x, r, e, q⟩ := h
    cases r with
    | nil =>
      cases e
      exact ⟨rfl, q σ x (.refl ρ) ⟨.refl _ _, fun _ _ => rfl⟩⟩
    | cons _ _ => cases e
  | e :: es => by
    by_cases hn : ∃ y p, e = .Name y p
    · obtain ⟨y, p, rfl⟩ := hn
      by_cases hl : B.loc y = true
      · cases hix : ixOf y C.N with
        | none => exact ⟨fun pins s σ H vs us Q I r h => by
            obtain ⟨P, Z, ρ, ds, ρ', x, r, e, q⟩ := h
            cases r with
            | nil => cases e
            | cons _ _ => simp only [tgsD, hix, hl, if_true] at e; cases e⟩
        | some i =>
          have hx := T.fn y hl
          refine (pgs_cons (pg_name T.ndX (T.name hix) (by rw [T.hsc]; exact hx.1) (by rw [T.hsc]; exact hx.2)) (st_names T es)).imp fun vs σ H Q h => ?_
          obtain ⟨P, Z, ρ, ds, ρ', x, r, e, q⟩ := h
          cases r with
          | nil => cases e
          | cons r rs =>
            simp only [tgsD, hix, hl, if_true] at e
            obtain ⟨hio, e⟩ := ite_some' (by simpa only [Option.bind_some] using e)
            refine ⟨_, _, rfl, P, Z, _, _, ρ', x.setS r, rs.mono uu_setSh, e, fun σ' s' sh tgk => q σ' s' (shr_set.trans sh) ⟨(Keep.set hio).trans tgk.1, fun ws hw => ?_⟩⟩
            have hi : i ∈ ws := hw i (by simp [nmSlots, hix])
            rw [tgk.2 ws fun j hj => hw j (by simp [nmSlots, hj]), wipe_set hi]
      · exact ⟨fun pins s σ H vs us Q I r h => by
          obtain ⟨P, Z, ρ, ds, ρ', x, r, e, q⟩ := h
          cases r with
          | nil => cases e
          | cons _ _ => simp only [tgsD, hl] at e; cases e⟩
    · exact ⟨fun pins s σ H vs us Q I r h => by
        obtain ⟨P, Z, ρ, ds, ρ', x, r, e, q⟩ := h
        exfalso
        cases r with
        | nil => unfold tgsD at e; split at e <;> simp_all
        | cons _ _ =>
          unfold tgsD at e
          split at e
          · simp_all
          · exact hn ⟨_, _, (List.cons.inj ‹_ = Expr.Name _ _ :: _›).1⟩
          · cases e⟩
theorem tgsD_names {es : List Expr} {ds : List PyData} {ρ ρ' : En} (h : tgsD C B es ds ρ = some ρ') : (∀ e ∈ es, ∃ x p, e = .Name x p) ∧ ds.length = es.length := by
  induction es generalizing ds ρ with
  | nil =>
    cases ds with
    | nil => exact ⟨fun e he => (List.not_mem_nil he).elim, rfl⟩
    | cons _ _ => cases h
  | cons e es ih =>
    cases ds with
    | nil => unfold tgsD at h; split at h <;> simp_all
    | cons d ds =>
      cases e with
      | Name x p =>
        simp only [tgsD] at h
        obtain ⟨_, h⟩ := ite_some h
        obtain ⟨i, _, h⟩ := bind_some h
        obtain ⟨_, h⟩ := ite_some' h
        obtain ⟨h1, h2⟩ := ih h
        refine ⟨fun e he => ?_, by simp [h2]⟩
        rcases List.mem_cons.mp he with rfl | he
        · exact ⟨_, _, rfl⟩
        · exact h1 e he
      | _ => cases h
theorem st_tg (T : Fits X C B k) (e : Expr) : PG X e (gT X.K C B e) := by
  refine ⟨fun pins s σ H v u Q I rv h => ?_⟩
  obtain ⟨P, Z, ρ, d, ρ', x, r, e1, q⟩ := h
  cases e with
  | Name y p =>
    simp only [tgD, tgsD] at e1
    obtain ⟨hl, e1⟩ := ite_some e1
    obtain ⟨i, hix, e1⟩ := bind_some e1
    obtain ⟨hio, e1⟩ := ite_some' e1
    cases e1
    have hx := T.fn y hl
    refine (pg_name T.ndX (T.name hix) (by rw [T.hsc]; exact hx.1) (by rw [T.hsc]; exact hx.2)).run pins s σ H v u Q I rv ?_
    exact q _ (x.setS r) shr_set ⟨Keep.set hio, fun ws hw => wipe_set (hw i (by simp [tgSlots, nmSlots, hix]))⟩
  | Tuple es kk p =>
    simp only [tgD] at e1
    obtain ⟨ds, e2, e1⟩ := bind_some e1
    obtain ⟨hn, hl⟩ := tgsD_names e1
    obtain ⟨n1, n2⟩ := names_plain X.env es hn
    cases d with
    | tuple xs =>
      cases e2
      obtain ⟨a, vs, rfl, g1, g2⟩ := r.tup_inv
      exact (pg_tup T.calm (st_names T es) n1 n2).run pins s σ H _ u Q I rv ⟨a, vs, rfl, g1.sq, by rw [g2.length, hl], P, Z, ρ, _, ρ', x, g2, e1, q⟩
    | list xs =>
      cases e2
      obtain ⟨a, vs, rfl, g1, g2⟩ := r.lst_inv
      exact (pg_unl T.calm (st_names T es) n1 n2).run pins s σ H _ u Q I rv ⟨a, vs, rfl, g1.sq, by rw [g2.length, hl], P, Z, ρ, _, ρ', x, g2, e1, q⟩
    | _ => cases e2
  | _ => cases e1
end
end Pf


namespace Pf
open PySem PySem.Spec L2

/-! ## comprehensions -/
section
variable {K : PySem.W.Frag} {P : List Bs} {Z : Addr → Prop} {ρ ρ0 : En} {σ : St} {H : Hp}
theorem get_set_none {α : Type} {l : List (Option α)} {i j : Nat} {w : α} (h : (l.set i none)[j]? = some (some w)) : l[j]? = some (some w) ∧ i ≠ j := by
  by_cases hj : i = j
  · subst hj
    by_cases hi : i < l.length
    · rw [List.getElem?_set_self hi] at h
      cases h
    · rw [List.getElem?_eq_none (by simpa using hi)] at h; cases h
  · rw [List.getElem?_set_ne hj] at h
    exact ⟨h, hj⟩
theorem uu_drop {i : Nat} (a : Addr) (u : UU (ρ.set i none) (σ.set i none) Z a) : UU ρ σ Z a := by
  rcases u with u | ⟨j, e, g1, g2⟩
  · exact .inl u
  · exact .inr ⟨j, e, (get_set_none g1).1, (get_set_none g2).1⟩
theorem Stt.drop (x : Stt K P Z ρ σ H) (i : Nat) : Stt K P Z (ρ.set i none) (σ.set i none) H where
  len := by simp [x.len]
  sh := fun j d h => by
    obtain ⟨h, hn⟩ := get_set_none h
    obtain ⟨v, h1, r⟩ := x.sh j d h
    exact ⟨v, by rw [List.getElem?_set_ne hn]; exact h1, r.mono uu_drop⟩
  ow := fun j d h => by
    obtain ⟨h, hn⟩ := get_set_none h
    obtain ⟨p, h1, c, z, b⟩ := x.ow j d h
    exact ⟨p, by rw [List.getElem?_set_ne hn]; exact h1, c.mono uu_drop, z, b⟩
  dis := fun j k d e p h1 h2 h3 h4 => x.dis j k d e p (get_set_none h1).1 (get_set_none h2).1 (get_set_none h3).1 (get_set_none h4).1
  zd := x.zd
  pre := x.pre
theorem shr_drop {i : Nat} : Shr ρ (ρ.set i none) := ⟨by simp, fun j d h => ⟨d, (get_set_none h).1⟩⟩
theorem Stt.wipe (x : Stt K P Z ρ σ H) : ∀ is : List Nat, Stt K P Z (wipeE ρ is) (L2.wipe σ is) H
  | [] => x
  | i :: is => (x.wipe is).drop i
theorem uu_wipe : ∀ {is : List Nat} (a : Addr), UU (wipeE ρ is) (L2.wipe σ is) Z a → UU ρ σ Z a
  | [], a, u => u
  | i :: is, a, u => uu_wipe (is := is) a (uu_drop a u)
theorem shr_wipe : ∀ {is : List Nat}, Shr ρ (wipeE ρ is)
  | [] => .refl ρ
  | i :: is => shr_wipe.trans shr_drop
theorem Stt.frzs (x : Stt K P Z ρ σ H) : ∀ is : List Nat, Stt K P Z (frzs ρ is) σ H
  | [] => x
  | i :: is => (x.frzs is).frz i
theorem shr_frzs : ∀ {is : List Nat}, Shr ρ (frzs ρ is)
  | [] => .refl ρ
  | i :: is => shr_frzs.trans (frz_shr _ _)
theorem frz_own {i j : Nat} {d : PyData} (h : (Pf.frz ρ i)[j]? = some (some (true, d))) : ρ[j]? = some (some (true, d)) ∧ i ≠ j := by
  unfold Pf.frz at h
  split at h
  · rcases set_get h with ⟨_, q⟩ | ⟨hn, q⟩
    · cases q
    · exact ⟨q, hn⟩
  · rename_i hno
    refine ⟨h, fun e => ?_⟩
    subst e
    exact hno _ h
theorem frzs_own : ∀ {is : List Nat} {j : Nat} {d : PyData}, (frzs ρ is)[j]? = some (some (true, d)) → j ∉ is
  | [], _, _, _ => by simp
  | i :: is, j, d, h => by
    obtain ⟨h, hn⟩ := frz_own h
    simp only [List.mem_cons, not_or]
    exact ⟨fun e => hn e.symm, frzs_own h⟩
/-- a hidden container is written -/
theorem Stt.zwrite {p : Addr} {o : HO} (x : Stt K P (ZP Z p) ρ σ H) (hb : ∀ b ∈ P, b.H0 p = none) : Stt K P (ZP Z p) ρ σ (upd H p o) := by
  have up : ∀ {ρ : En} {σ : St}, UU ρ σ (ZP Z p) p := .inl (.inr rfl)
  have keep : Pre (UU ρ σ (ZP Z p)) H (upd H p o) := pre_upd.mono fun a e => by subst e; exact up
  have nn : ∀ a, H a ≠ none → upd H p o a ≠ none := fun a h => by
    by_cases z : a = p
    · subst z; rw [upd_same]; intro q; cases q
    · rw [upd_ne z]; exact h
  refine ⟨x.len, fun i d h => ?_, fun i d h => ?_, x.dis, fun a z => nn a (x.zd a z), fun b hb' => ⟨fun a u h n => ?_, fun a z => nn a ((x.pre b hb').2.1 a z), fun a u z h => ?_⟩⟩
  · obtain ⟨v, h1, r⟩ := x.sh i d h
    exact ⟨v, h1, r.pre keep⟩
  · obtain ⟨q, h1, c, z, b⟩ := x.ow i d h
    have qp : q ≠ p := fun w => z (.inr w)
    exact ⟨q, h1, c.pre keep fun u e => by rw [upd_ne qp]; exact e, z, b⟩
  · have hap : a ≠ p := fun w => by subst w; rw [hb b hb'] at h; cases h
    obtain ⟨v, h1, l⟩ := (x.pre b hb').1 a u h n
    exact ⟨v, by rw [upd_ne hap]; exact h1, l⟩
  · have hap : a ≠ p := fun w => by subst w; rw [hb b hb'] at h; cases h
    rw [upd_ne hap]
    exact (x.pre b hb').2.2 a u z h
/-- the block's names as they were -/
theorem backE_length {ρ1 : En} : ∀ {is : List Nat}, (backE ρ0 ρ1 is).length = ρ1.length
  | [] => rfl
  | i :: is => by
    unfold backE
    split
    · rw [List.length_set, backE_length]
    · exact backE_length
theorem backE_get {ρ1 : En} (hl : ρ1.length = ρ0.length) : ∀ {is : List Nat} {j : Nat} {w : Bool × PyData}, (backE ρ0 ρ1 is)[j]? = some (some w) → (j ∈ is ∧ ρ0[j]? = some (some w)) ∨ (j ∉ is ∧ ρ1[j]? = some (some w))
  | [], j, w, h => .inr ⟨by simp, h⟩
  | i :: is, j, w, h => by
    unfold backE at h
    split at h
    · rename_i w' hw
      rcases set_get h with ⟨rfl, q⟩ | ⟨hn, q⟩
      · subst q
        exact .inl ⟨List.mem_cons_self, hw⟩
      · rcases backE_get hl q with ⟨h1, h2⟩ | ⟨h1, h2⟩
        · exact .inl ⟨List.mem_cons_of_mem _ h1, h2⟩
        · exact .inr ⟨by simp only [List.mem_cons, not_or]; exact ⟨fun e => hn e.symm, h1⟩, h2⟩
    · rename_i hno
      rcases backE_get hl h with ⟨h1, h2⟩ | ⟨h1, h2⟩
      · exact .inl ⟨List.mem_cons_of_mem _ h1, h2⟩
      · refine .inr ⟨?_, h2⟩
        simp only [List.mem_cons, not_or]
        refine ⟨fun e => ?_, h1⟩
        subst e
        have : j < ρ0.length := by rw [← hl]; exact (List.getElem?_eq_some_iff.mp h2).1
        rw [List.getElem?_eq_getElem this] at hno
        cases hno
theorem wipe_get {σ : St} {i : Nat} {w : Option V} : ∀ {vs : List Nat}, i ∉ vs → (L2.wipe σ vs)[i]? = σ[i]?
  | [], _ => rfl
  | v :: vs, h => by
    simp only [List.mem_cons, not_or] at h
    unfold L2.wipe
    rw [List.getElem?_set_ne (fun e => h.1 e.symm), wipe_get (w := w) h.2]
theorem Stt.backE {Z' : Addr → Prop} {ρ1 : En} {is : List Nat} {H0 : Hp} (x : Stt K P Z ρ0 σ H0) (y : Stt K (⟨H0, OwnA ρ0 σ⟩ :: P) Z' ρ1 (L2.wipe σ is) H) (hz : ∀ a, Z' a → Z a ∨ H0 a = none) (hn : ∀ (i : Nat) (d : PyData), i ∈ is → ρ0[i]? ≠ some (some (true, d))) :
    Stt K P Z' (Pf.backE ρ0 ρ1 is) σ H ∧ ∀ (Zq : Addr → Prop) (a : Addr), UU (Pf.backE ρ0 ρ1 is) σ Zq a → UU ρ1 (L2.wipe σ is) Zq a := by
  have hl : ρ1.length = ρ0.length := by rw [y.len, wipe_length, x.len]
  obtain ⟨y1, y2, y3⟩ := y.pre _ List.mem_cons_self
  have own : ∀ {j : Nat} {d : PyData}, (Pf.backE ρ0 ρ1 is)[j]? = some (some (true, d)) → j ∉ is ∧ ρ1[j]? = some (some (true, d)) := fun {j d} h => by
    rcases backE_get hl h with ⟨h1, h2⟩ | h
    · exact (hn j d h1 h2).elim
    · exact h
  have sub : ∀ (Zq : Addr → Prop) (a : Addr), UU (Pf.backE ρ0 ρ1 is) σ Zq a → UU ρ1 (L2.wipe σ is) Zq a := fun Zq a u => by
    rcases u with u | ⟨j, d, h1, h2⟩
    · exact .inl u
    · obtain ⟨g1, g2⟩ := own h1
      exact .inr ⟨j, d, g2, by rw [wipe_get (w := none) g1]; exact h2⟩
  refine ⟨⟨by rw [backE_length, hl, x.len], fun j d h => ?_, fun j d h => ?_, fun j k d e p h1 h2 h3 h4 => ?_, y.zd, fun b hb => y.pre b (List.mem_cons_of_mem _ hb)⟩, sub⟩
  · rcases backE_get hl h with ⟨_, h2⟩ | ⟨h1, h2⟩
    · obtain ⟨v, g1, r⟩ := x.sh j d h2
      refine ⟨v, g1, (r.offs.pre (y1.mono fun a u => .inl (.inr u))).mono fun a u => ?_⟩
      rcases u with u | ⟨i, e, q1, q2⟩
      · rcases hz a u with z | z
        · exact .inl (.inl z)
        · exact .inr z
      · obtain ⟨q3, q4⟩ := own q1
        obtain ⟨p, q5, _, _, bb⟩ := y.ow i e q4
        rw [wipe_get (w := none) q3, q2] at q5
        cases q5
        rcases bb _ List.mem_cons_self with z | z
        · exact .inl (.inr z)
        · exact .inr z
    · obtain ⟨v, g1, r⟩ := y.sh j d h2
      exact ⟨v, (wipe_some g1).1, r.mono fun a u => sub _ a u⟩
  · obtain ⟨h1, h2⟩ := own h
    obtain ⟨p, g1, c, z, bb⟩ := y.ow j d h2
    exact ⟨p, (wipe_some g1).1, c.mono fun a u => sub _ a u, z, fun b hb => bb b (List.mem_cons_of_mem _ hb)⟩
  · obtain ⟨g1, g2⟩ := own h1
    obtain ⟨g3, g4⟩ := own h2
    exact y.dis j k d e p g2 g4 (by rw [wipe_get (w := none) g1]; exact h3) (by rw [wipe_get (w := none) g3]; exact h4)
end

section
variable {X : Cx} {C : Ctx} {B : Bk} {k : Nat} {F : Fns}
theorem Fits.blk (T : Fits X C B k) (s : Shared) (H : Hp) (scope : Scope) (cl : List (Str × Addr)) (c : Addr) (fp : List Addr) : Fits (X.blk s H scope (compEnvC scope cl c X.env) fp) C (blkOf B scope) k where
  hN := T.hN
  nd := T.nd
  hsc := by show relS scope X.env.scope = _; rw [T.hsc]; rfl
  calm := T.calm
  room := T.room
  grd := T.grd
  xe := rfl
  fn := fun x h => by
    have h : (match scope.names.lookup x with | some .local => true | some .cell => true | _ => false) = true := h
    split at h
    · rename_i e
      have := lookup_relS_keep (sc := B.sc) (by simp) e
      exact ⟨.inl this, .inr this⟩
    · rename_i e
      have := lookup_relS_keep (sc := B.sc) (by simp) e
      exact ⟨.inr this, .inl (by show (scope.names.lookup x == some .cell) = true; rw [e]; rfl)⟩
    · cases h
  blt := T.blt
  btx := T.btx
  tab := T.tab
  glb := T.glb
theorem _root_.L2.PTs.no {X : Cx} {e : List Expr} {t : TT} (h : ∀ σ H Q, t σ H Q → False) : PTs X e t := ⟨fun pins s σ H Q I q => (h _ _ _ q).elim⟩
theorem _root_.L2.PTs.imp {X : Cx} {e : List Expr} {t t' : TT} (h : PTs X e t) (i : ∀ σ H Q, t' σ H Q → t σ H Q) : PTs X e t' := ⟨fun pins s σ H Q I q => h.run pins s σ H Q I (i _ _ _ q)⟩
theorem st_tests (S : SoO X C F B) : ∀ es : List Expr, PTs X es (tT X.K (testsT F B es))
  | [] => pts_nil.imp fun σ H Q h => by
    obtain ⟨P, Z, ρ, r, x, e, q⟩ := h
    cases e
    exact q H x (.refl ρ)
  | [e] => pts_one (S.t e)
  | _ :: _ :: _ => .no fun σ H Q h => by
    obtain ⟨P, Z, ρ, r, x, e, q⟩ := h
    cases e
theorem own_snd {N : List Str} {scope : Scope} {i : Nat} (h : i ∈ (ownOf N scope).map (·.2)) : True := trivial
theorem folded_no {e : Expr} {env : Env} (h : notSet e = true) (x : Value) : foldedSetIterable e env x = pure x := by
  cases e <;> first | rfl | (simp [notSet] at h)
/-- what the block comes to -/
theorem lc_read {tg elt : Expr} {ifs : List Expr} {is : List Nat} {B' : Bk} {xs : List PyData} {P : List Bs} {Z : Addr → Prop} {ρ : En} {σ : St} {J : It} {H1 : Hp} {q0 : List PyData × En} {D : Addr} {Qd : Hp → Prop} {K : PySem.W.Frag}
    (wd : WalkD K J H1 (UU ρ σ Z) xs) (s1 : Stt K P Z ρ σ H1) (hD : H1 D = none) (htg : (tgSlots C tg).all is.contains = true)
    (e : lcLoop C F B' elt tg ifs is xs [] (wipeE (frzs ρ is) is) = some q0)
    (q : ∀ H', Val K P Z (backE (frzs ρ is) q0.2 is) σ true (.ref D) (.list q0.1) H' → Shr ρ (backE (frzs ρ is) q0.2 is) → Qd H') :
    ∃ W : Nat → Nat → Hp → Prop, (∃ m, W 0 m (upd H1 D (.lst []))) ∧ ∀ i m H, W i m H →
      (J.stop i H ∧ Qd H) ∨ (J.go i H ∧ ∃ Nx : Hp → Prop, (∀ H', Nx H' → ∃ m', m' < m ∧ W (i + 1) m' H') ∧ ∀ x H', J.yld i H x H' → (gT K C B' tg) x (wipe σ is) H' fun σ2 H2 => wipe σ2 is = wipe σ is ∧ (tT K (testsT F B' ifs)) σ2 H2 fun b H3 =>
        if b = true then (tV K (valE C F B' elt)) σ2 H3 fun y H4 => ∃ acc, H4 D = some (.lst acc) ∧ acc.length < sizeLine ∧ Nx (upd H4 D (.lst (acc ++ [y]))) else Nx H3) := by
  obtain ⟨G, Y, w, hG, hY⟩ := wd.ex
  have s0 : Stt K P Z (frzs ρ is) σ H1 := s1.frzs is
  have hn : ∀ (i : Nat) (d : PyData), i ∈ is → (frzs ρ is)[i]? ≠ some (some (true, d)) := fun i d h z => frzs_own z h
  generalize hρ0 : frzs ρ is = ρ0 at s0 hn e q
  have sh0 : Shr ρ ρ0 := by rw [← hρ0]; exact shr_frzs
  have v0 : Val K (⟨H1, OwnA ρ0 σ⟩ :: P) Z ρ0 σ true (.ref D) (.list []) (upd H1 D (.lst [])) := Val.newLst s0.push hD .nil
  let Pv : Nat → Hp → Prop := fun i H => ∃ acc ρ', lcLoop C F B' elt tg ifs is (xs.drop i) acc ρ' = some q0 ∧ Shr (wipeE ρ0 is) ρ' ∧ Stt K (⟨H1, OwnA ρ0 σ⟩ :: P) (ZP Z D) ρ' (wipe σ is) H ∧ Cont K H (ZP (UU ρ' (wipe σ is) Z) D) D (.list acc)
  obtain ⟨p, ep, nz, sv, cv, hb⟩ := v0
  cases ep
  have sub0 : ∀ {ρ' : En}, Shr (wipeE ρ0 is) ρ' → ∀ a, UU ρ' (wipe σ is) Z a → UU ρ σ Z a := fun sh a u => UU.shr sh0 (uu_wipe (is := is) a (UU.shr sh u))
  refine lc_it w Pv ⟨[], _, e, .refl _, sv.wipe is, cv.mono fun a u => u.elim (fun u => .inl (uu_wipe a u)) .inr⟩ (fun i H hi pv => ?_) (fun i x H H' hi pv y => ?_) fun H pv => ?_
  · obtain ⟨acc, ρ', _, sh, s2, c2⟩ := pv
    exact hG H ((s2.pre _ List.mem_cons_self).1.mono fun a u => UU.shr sh0 (.inr u))
  · obtain ⟨acc, ρ', e2, sh, s2, c2⟩ := pv
    have pre0 : Pre (UU ρ σ Z) H1 H := (s2.pre _ List.mem_cons_self).1.mono fun a u => UU.shr sh0 (.inr u)
    obtain ⟨d, ed, s3, r3⟩ := hY i H x H' _ _ ρ' (wipe σ is) hi pre0 y s2.push fun a u => by
      rcases u with (u | u) | u
      · exact .inl (.inl u)
      · subst u; exact .inr hD
      · exact .inl (sub0 sh a (.inr u))
    have hdrop : xs.drop i = d :: xs.drop (i + 1) := by
      rw [List.drop_eq_getElem_cons hi]
      rw [List.getElem?_eq_getElem hi] at ed
      cases ed
      rfl
    rw [hdrop] at e2
    simp only [lcLoop, lcG] at e2
    obtain ⟨ρ1, a1, e2⟩ := bind_some e2
    obtain ⟨kk, a2, e2⟩ := bind_some e2
    refine ⟨_, _, ρ', d, ρ1, s3, r3, a1, fun σ2 s4 sh4 tgk => ?_⟩
    have hw : wipe σ2 is = wipe σ is := by
      rw [tgk.2 is fun j hj => by simpa using (List.all_eq_true.mp htg) j hj]
      have : ∀ (vs ws : List Nat), (∀ v ∈ vs, v ∈ ws) → wipe (wipe σ vs) ws = wipe σ ws := by
        intro vs ws
        induction vs with
        | nil => intro _; rfl
        | cons v vs ih =>
          intro h
          show wipe ((wipe σ vs).set v none) ws = _
          rw [wipe_set (h v List.mem_cons_self), ih fun u hu => h u (List.mem_cons_of_mem _ hu)]
      exact this is is fun _ h => h
    refine ⟨hw, _, _, ρ1, kk, s4, a2, fun H3 s5 sh5 => ?_⟩
    -- what the list holds, behind
    have later : ∀ {ρ2 : En} {H4 : Hp}, Stt K (⟨H, OwnA ρ' (wipe σ is)⟩ :: ⟨H1, OwnA ρ0 σ⟩ :: P) (ZP Z D) ρ2 σ2 H4 → Shr ρ' ρ2 → ∃ vs, H4 D = some (.lst vs) ∧ RepAll K H4 (ZP (UU (wipeE ρ2 is) (wipe σ is) Z) D) vs acc := fun {ρ2 H4} s6 sh6 => by
      cases c2 with
      | lst c3 c4 =>
        obtain ⟨b1, b2, b3⟩ := s6.pre _ List.mem_cons_self
        refine ⟨_, b3 D _ (.inr rfl) c3, (c4.pre (b1.mono fun a u => .inl (.inr u))).mono fun a u => ?_⟩
        rcases u with u | u
        · exact .inl (UU.shr (sh6.trans shr_wipe) u)
        · exact .inr u
    show if kk.1 = true then _ else _
    by_cases hk : kk.1 = true
    · rw [if_pos hk]
      rw [if_pos hk] at e2
      obtain ⟨rv, a3, e2⟩ := bind_some e2
      refine ⟨_, _, kk.2, rv, s5, a3, fun y H4 vl sh6 => ?_⟩
      split at e2
      case isFalse => cases e2
      rename_i hlen
      obtain ⟨s6, r6⟩ := vl.share
      obtain ⟨vs, g1, g2⟩ := later s6 ((sh4.trans sh5).trans sh6)
      refine ⟨vs, g1, by rw [g2.length]; exact hlen, acc ++ [rv.2.1], wipeE rv.2.2 is, e2, ((sh.trans sh4).trans (sh5.trans sh6)).trans shr_wipe, ?_, ?_⟩
      · have := (s6.pop.wipe is)
        rw [hw] at this
        exact this.zwrite hb
      · refine .lst upd_same ((g2.append (.cons (r6.mono fun a u => ?_) .nil)).pre (pre_upd.mono fun a e => .inr e))
        have : UU (wipeE rv.2.2 is) (wipe σ2 is) (ZP Z D) a := by
          rw [hw]
          rcases u with (u | u) | u
          · exact .inl (.inl u)
          · exact .inr u
          · exact .inl (.inr u)
        exact uu_wipe a this
    · rw [if_neg hk]
      rw [if_neg hk] at e2
      obtain ⟨vs, g1, g2⟩ := later s5 (sh4.trans sh5)
      refine ⟨acc, wipeE kk.2 is, e2, ((sh.trans sh4).trans sh5).trans shr_wipe, ?_, .lst g1 g2⟩
      have := (s5.pop.wipe is)
      rw [hw] at this
      exact this
  · obtain ⟨acc, ρ', e2, sh, s2, c2⟩ := pv
    rw [List.drop_length] at e2
    simp only [lcLoop, lcG] at e2
    cases e2
    obtain ⟨s3, sub⟩ := s0.backE s2 (fun a z => z.elim .inl fun z => .inr (z ▸ hD)) hn
    refine q H ⟨D, rfl, nz, s3, c2.mono fun a u => u.elim (fun u => .inl (sub Z a u)) .inr, fun b h => hb b (List.mem_cons_of_mem _ h)⟩ ?_
    have hl : ρ'.length = ρ0.length := by rw [s2.len, wipe_length, s0.len]
    refine ⟨by rw [backE_length, hl]; exact sh0.1, fun j d h => ?_⟩
    rcases backE_get hl h with ⟨h1, h2⟩ | ⟨_, h2⟩
    · exact (hn j d h1 h2).elim
    · obtain ⟨d1, h3⟩ := (shr_wipe.trans sh).2 j d h2
      exact sh0.2 j d1 h3
/-- [..] : its pieces -/
structure LcOk (X : Cx) (C : Ctx) (F : Fns) (B : Bk) (elt tg iter : Expr) (ifs : List Expr) (scope : Scope) : Prop where
  blk : BlkOk X.N X.env.scope scope (ownOf C.N scope)
  ns : notSet iter = true
  read : ∀ σ H Q, (∃ P Z ρ r, Stt X.K P Z ρ σ H ∧ lcE C F B elt [⟨tg, iter, ifs, 0⟩] scope ρ = some r ∧ ∀ v H', Val X.K P Z r.2 σ true v (.list r.1) H' → Shr ρ r.2 → Q v H') →
    tLc (tI X.K (iterE C F B iter)) (gT X.K C (blkOf B scope) tg) (tT X.K (testsT F (blkOf B scope) ifs)) (tV X.K (valE C F (blkOf B scope) elt)) ((ownOf C.N scope).map (·.2)) σ H Q
theorem lc_ok (T : Fits X C B k) {elt tg iter : Expr} {ifs : List Expr} {scope : Scope} : LcOk X C F B elt tg iter ifs scope ∨ ∀ ρ r, lcE C F B elt [⟨tg, iter, ifs, 0⟩] scope ρ = some r → False := by
  by_cases hc : (notSet iter && blkC C.N B.sc scope (ownOf C.N scope) && (tgSlots C tg).all ((ownOf C.N scope).map (·.2)).contains && ((ownOf C.N scope).map (·.2)).all (fun i => !C.io.contains i)) = true
  · refine .inl ?_
    have hc' := hc
    simp only [Bool.and_eq_true] at hc
    obtain ⟨⟨⟨h1, h2⟩, h3⟩, h4⟩ := hc
    refine ⟨by rw [T.hN, T.hsc]; exact blkOk_by h2, h1, fun σ H Q h => ?_⟩
    obtain ⟨P, Z, ρ, r, x, e, q⟩ := h
    simp only [lcE] at e
    rw [if_pos hc'] at e
    obtain ⟨r1, e1, e⟩ := bind_some e
    obtain ⟨q0, e2, e⟩ := bind_some e
    cases e
    exact ⟨P, Z, ρ, r1, x, e1, fun J H1 wd s1 sh1 D hD => lc_read wd s1 hD h3 e2 fun H' vl sh => q _ H' vl (sh1.trans sh)⟩
  · refine .inr fun ρ r e => ?_
    simp only [lcE] at e
    rw [if_neg hc] at e
    cases e
theorem lcE_one {elt : Expr} {gs : List Comprehension} {scope : Scope} {ρ : En} {r : List PyData × En} (h : lcE C F B elt gs scope ρ = some r) : ∃ tg iter ifs, gs = [⟨tg, iter, ifs, 0⟩] := by
  unfold lcE at h
  split at h
  · exact ⟨_, _, _, rfl⟩
  · cases h
abbrev AllO (C : Ctx) (F : Fns) (k : Nat) : Prop := ∀ (X : Cx) (B : Bk), Fits X C B k → SoO X C F B
theorem st_lc (T : Fits X C B k) (A : AllO C F k) (elt : Expr) (gs : List Comprehension) (scope : Scope) (pos : Pos) : PE X (.ListComp elt gs scope pos) (tO X.K fun ρ => (lcE C F B elt gs scope ρ).bind fun q => some (.val (.list q.1), true, q.2)) := by
  have no : (∀ ρ r, lcE C F B elt gs scope ρ = some r → False) → PE X (.ListComp elt gs scope pos) (tO X.K fun ρ => (lcE C F B elt gs scope ρ).bind fun q => some (.val (.list q.1), true, q.2)) := fun h => .no fun σ H Q z => by
    obtain ⟨P, Z, ρ, r, x, e, q⟩ := z
    obtain ⟨r1, e1, _⟩ := bind_some e
    exact h ρ r1 e1
  by_cases hg : ∃ tg iter ifs, gs = [⟨tg, iter, ifs, 0⟩]
  · obtain ⟨tg, iter, ifs, rfl⟩ := hg
    rcases lc_ok (F := F) T (elt := elt) (tg := tg) (iter := iter) (ifs := ifs) (scope := scope) with L | L
    · have S' := fun s H c cl fp => A _ _ (T.blk s H scope cl c fp)
      refine (pe_lc (wi := tI X.K (iterE C F B iter)) (g := gT X.K C (blkOf B scope) tg) (tt := tT X.K (testsT F (blkOf B scope) ifs)) (te := tV X.K (valE C F (blkOf B scope) elt)) T.calm T.ndX (st_iter T (A X B T) iter) L.blk (fun s H c cl fp => st_tg (T.blk s H scope cl c fp) tg) (fun s H c cl fp => st_tests (S' s H c cl fp) ifs) (fun s H c cl fp => (S' s H c cl fp).v elt) (folded_no L.ns)).imp fun σ H Q z => ?_
      obtain ⟨P, Z, ρ, r, x, e, q⟩ := z
      obtain ⟨r1, e1, e⟩ := bind_some e
      cases e
      exact L.read σ H Q ⟨P, Z, ρ, r1, x, e1, fun v H' vl sh => q v H' vl sh⟩
    · exact no L
  · exact no fun ρ r e => hg (lcE_one e)
end
end Pf


namespace Pf
open PySem PySem.Spec L2

/-! ## statements -/
def OutOk (K : PySem.W.Frag) (io : List Nat) (P : List Bs) (Z : Addr → Prop) (σ : St) (r : Out) (D : Ends) : Prop :=
  match r with
  | .nx ρ => ∀ σ' H', Stt K P Z ρ σ' H' → Keep io σ σ' → D.nx σ' H'
  | .bk ρ => ∀ σ' H', Stt K P Z ρ σ' H' → Keep io σ σ' → D.bk σ' H'
  | .ct ρ => ∀ σ' H', Stt K P Z ρ σ' H' → Keep io σ σ' → D.ct σ' H'
  | .rt o b ρ => ∀ σ' v H', OV K P Z σ' (o, b, ρ) v H' → Keep io σ σ' → D.rt v H'
def tS (K : PySem.W.Frag) (C : Ctx) (f : En → Option Out) : TS := fun D σ H => ∃ P Z ρ r, Stt K P Z ρ σ H ∧ f ρ = some r ∧ OutOk K C.io P Z σ r D
theorem OutOk.keep {K : PySem.W.Frag} {io : List Nat} {P : List Bs} {Z : Addr → Prop} {σ σ1 : St} {r : Out} {D : Ends} (h : OutOk K io P Z σ r D) (e : Keep io σ σ1) : OutOk K io P Z σ1 r D := by
  cases r with
  | nx ρ => exact fun σ' H' s k => h σ' H' s (e.trans k)
  | bk ρ => exact fun σ' H' s k => h σ' H' s (e.trans k)
  | ct ρ => exact fun σ' H' s k => h σ' H' s (e.trans k)
  | rt o b ρ => exact fun σ' v H' s k => h σ' v H' s (e.trans k)
theorem OV.pop {K : PySem.W.Frag} {b : Bs} {P : List Bs} {Z : Addr → Prop} {σ : St} {r : Opn × Bool × En} {v : V} {H : Hp} (h : OV K (b :: P) Z σ r v H) : OV K P Z σ r v H := by
  obtain ⟨o, c, ρ⟩ := r
  cases o with
  | slot i => exact ⟨h.1.pop, h.2⟩
  | val d => exact Val.pop h
theorem OutOk.push {K : PySem.W.Frag} {io : List Nat} {b : Bs} {P : List Bs} {Z : Addr → Prop} {σ : St} {r : Out} {D : Ends} (h : OutOk K io P Z σ r D) : OutOk K io (b :: P) Z σ r D := by
  cases r with
  | nx ρ => exact fun σ' H' s k => h σ' H' s.pop k
  | bk ρ => exact fun σ' H' s k => h σ' H' s.pop k
  | ct ρ => exact fun σ' H' s k => h σ' H' s.pop k
  | rt o b ρ => exact fun σ' v H' s k => h σ' v H' s.pop k
section
variable {X : Cx} {C : Ctx} {B : Bk} {k : Nat} {F : Fns}
theorem _root_.L2.PSs.no {X : Cx} {e : List Stmt} {t : TS} (h : ∀ D σ H, t D σ H → False) : PSs X e t := ⟨fun pins s σ H D I q => (h _ _ _ q).elim⟩
abbrev SoS (X : Cx) (C : Ctx) (F : Fns) (B : Bk) : Prop := ∀ st, PS X st (tS X.K C (F.s B st))
theorem st_stmts (S : SoS X C F B) : ∀ ss, PSs X ss (tS X.K C (stmts F B ss))
  | [] => pss_nil.imp fun D σ H h => by
    obtain ⟨P, Z, ρ, r, x, e, q⟩ := h
    cases e
    exact q σ H x (.refl _ _)
  | s :: ss => by
    refine (pss_cons (S s) (st_stmts S ss)).imp fun D σ H h => ?_
    obtain ⟨P, Z, ρ, r, x, e, q⟩ := h
    simp only [stmts] at e
    obtain ⟨r1, e1, e⟩ := bind_some e
    refine ⟨P, Z, ρ, r1, x, e1, ?_⟩
    cases r1 with
    | nx ρ1 => exact fun σ' H' s1 k1 => ⟨P, Z, ρ1, r, s1, e, q.keep k1⟩
    | bk ρ1 => cases e; exact q
    | ct ρ1 => cases e; exact q
    | rt o b ρ1 => cases e; exact q
theorem ss_if (S : SoO X C F B) (R : SoS X C F B) (t : Expr) (a b : List Stmt) (p : Pos) : PS X (.If t a b p) (tS X.K C fun ρ => (F.t B t ρ).bind fun r => if r.1 then stmts F B a r.2 else stmts F B b r.2) := by
  refine (ps_if (S.t t) (st_stmts R a) (st_stmts R b)).imp fun D σ H h => ?_
  obtain ⟨P, Z, ρ, r, x, e, q⟩ := h
  obtain ⟨r1, e1, e⟩ := bind_some e
  refine ⟨P, Z, ρ, r1, x, e1, fun H1 s1 sh => ?_⟩
  by_cases hk : r1.1 = true
  · rw [if_pos hk] at e
    rw [if_pos hk]
    exact ⟨P, Z, r1.2, r, s1, e, q⟩
  · rw [if_neg hk] at e
    rw [if_neg hk]
    exact ⟨P, Z, r1.2, r, s1, e, q⟩
theorem ss_while (T : Fits X C B k) (S : SoO X C F B) (R : SoS X C F B) (t : Expr) (b : List Stmt) (p : Pos) : PS X (.While t b [] p) (tS X.K C (whileD (F.t B t) (stmts F B b) C.w)) := by
  refine (ps_while T.own (S.t t) (st_stmts R b)).imp fun D σ H h => ?_
  obtain ⟨P, Z, ρ, r, x, e, q⟩ := h
  refine ⟨fun m σ' H' => ∃ ρ', Stt X.K P Z ρ' σ' H' ∧ Keep C.io σ σ' ∧ whileD (F.t B t) (stmts F B b) m ρ' = some r, ⟨C.w, ρ, x, .refl _ _, e⟩, fun m σ' H' w => ?_⟩
  obtain ⟨ρ', s1, k1, e1⟩ := w
  cases m with
  | zero => cases e1
  | succ m =>
    simp only [whileD] at e1
    obtain ⟨r1, a1, e1⟩ := bind_some e1
    refine ⟨P, Z, ρ', r1, s1, a1, fun H1 s2 sh => ?_⟩
    by_cases hk : r1.1 = true
    · rw [if_pos hk] at e1
      rw [if_pos hk]
      obtain ⟨r2, a2, e1⟩ := bind_some e1
      refine ⟨fun σ2 H2 => ∃ ρ', Stt X.K P Z ρ' σ2 H2 ∧ Keep C.io σ σ2 ∧ whileD (F.t B t) (stmts F B b) m ρ' = some r, fun σ2 H2 n => ⟨m, Nat.lt_succ_self m, n⟩, P, Z, r1.2, r2, s2, a2, ?_⟩
      cases r2 with
      | nx ρ1 => exact fun σ2 H2 s3 k2 => ⟨ρ1, s3, k1.trans k2, e1⟩
      | ct ρ1 => exact fun σ2 H2 s3 k2 => ⟨ρ1, s3, k1.trans k2, e1⟩
      | bk ρ1 => cases e1; exact fun σ2 H2 s3 k2 => q σ2 H2 s3 (k1.trans k2)
      | rt o b ρ1 => cases e1; exact fun σ2 v H2 s3 k2 => q σ2 v H2 s3 (k1.trans k2)
    · rw [if_neg hk] at e1
      rw [if_neg hk]
      cases e1
      exact q σ' H1 s2 k1
theorem ss_for (T : Fits X C B k) (S : SoO X C F B) (R : SoS X C F B) (tg it : Expr) (b : List Stmt) (p : Pos) (hns : notSet it = true) : PS X (.For tg it b [] p) (tS X.K C fun ρ => (iterE C F B it ρ).bind fun r => forD (tgD C B tg) (stmts F B b) r.1 r.2) := by
  refine (ps_for T.own T.calm (st_iter T S it) (st_tg T tg) (st_stmts R b) (folded_no hns)).imp fun D σ H h => ?_
  obtain ⟨P, Z, ρ, r, x, e, q⟩ := h
  obtain ⟨r1, e1, e⟩ := bind_some e
  refine ⟨P, Z, ρ, r1, x, e1, fun J H1 wd s1 sh => ?_⟩
  obtain ⟨G, Y, w, hG, hY⟩ := wd.ex
  let Pv : Nat → St → Hp → Prop := fun i σ' H' => ∃ ρ', Stt X.K (⟨H1, OwnA r1.2 σ⟩ :: P) Z ρ' σ' H' ∧ Keep C.io σ σ' ∧ forD (tgD C B tg) (stmts F B b) (r1.1.drop i) ρ' = some r
  have pre0 : ∀ {ρ' : En} {σ' : St} {H' : Hp}, Stt X.K (⟨H1, OwnA r1.2 σ⟩ :: P) Z ρ' σ' H' → Pre (UU r1.2 σ Z) H1 H' := fun {ρ' σ' H'} s => (s.pre _ List.mem_cons_self).1.mono fun a u => .inr u
  refine for_it w Pv ⟨r1.2, s1.push, .refl _ _, e⟩ (fun i σ' H' hi pv => ?_) (fun i y σ' H' H2 hi pv yy => ?_) fun σ' H' pv => ?_
  · obtain ⟨ρ', s2, k2, e2⟩ := pv
    exact hG H' (pre0 s2)
  · obtain ⟨ρ', s2, k2, e2⟩ := pv
    obtain ⟨d, ed, s3, r3⟩ := hY i H' y H2 _ _ ρ' σ' hi (pre0 s2) yy s2 fun a u => by
      rcases u with u | ⟨j, d, u1, u2⟩
      · exact .inl (.inl u)
      · obtain ⟨p, u3, _, _, bb⟩ := s2.ow j d u1
        rw [u2] at u3
        cases u3
        rcases bb _ List.mem_cons_self with z | z
        · exact .inl (.inr z)
        · exact .inr z
    have hdrop : r1.1.drop i = d :: r1.1.drop (i + 1) := by
      rw [List.drop_eq_getElem_cons hi]
      rw [List.getElem?_eq_getElem hi] at ed
      cases ed
      rfl
    rw [hdrop] at e2
    simp only [forD] at e2
    obtain ⟨ρ0, a1, e2⟩ := bind_some e2
    obtain ⟨r2, a2, e2⟩ := bind_some e2
    refine ⟨_, Z, ρ', d, ρ0, s3, r3, a1, fun σ2 s4 sh4 tgk => ?_⟩
    refine ⟨_, Z, ρ0, r2, s4, a2, ?_⟩
    have k3 := k2.trans tgk.1
    cases r2 with
    | nx ρ1 => exact fun σ3 H3 s5 k5 => ⟨ρ1, s5, k3.trans k5, e2⟩
    | ct ρ1 => exact fun σ3 H3 s5 k5 => ⟨ρ1, s5, k3.trans k5, e2⟩
    | bk ρ1 => cases e2; exact fun σ3 H3 s5 k5 => q σ3 H3 s5.pop (k3.trans k5)
    | rt o b ρ1 => cases e2; exact fun σ3 v H3 s5 k5 => q σ3 v H3 s5.pop (k3.trans k5)
  · obtain ⟨ρ', s2, k2, e2⟩ := pv
    rw [List.drop_length] at e2
    simp only [forD] at e2
    cases e2
    exact q σ' H' s2.pop k2
theorem Stt.setO {K : PySem.W.Frag} {P : List Bs} {Z : Addr → Prop} {ρ : En} {σ : St} {H : Hp} {b : Bool} {v : V} {d : PyData} (x : Val K P Z ρ σ b v d H) (i : Nat) : Stt K P Z (ρ.set i (some (b, d))) (σ.set i (some v)) H := by
  cases b with
  | false => exact Stt.setS x.1 x.2
  | true =>
    obtain ⟨p, rfl, nz, s, c, hb⟩ := x
    by_cases hi : i < σ.length
    · exact s.setOwn c nz hb hi
    · rw [List.set_eq_of_length_le (by rw [s.len]; omega), List.set_eq_of_length_le (by omega)]
      exact s.zmono fun a z => .inl z
theorem noComp_sw {e : Expr} {t : Option Expr} {l : Nat} {env : Env} (h : noComp e = true) : swapsWith e t l env = pure false := by
  cases e <;> first | rfl | (simp [noComp] at h)
theorem setE_some {x : Str} {r : Bool × PyData × En} {ρ : En} (h : setE C B x r = some ρ) : B.loc x = true ∧ ∃ i, ixOf x C.N = some i ∧ C.io.contains i = false ∧ ρ = r.2.2.set i (some (r.1, r.2.1)) := by
  unfold setE at h
  obtain ⟨h1, h⟩ := ite_some h
  obtain ⟨i, h2, h⟩ := bind_some h
  obtain ⟨h3, h⟩ := ite_some' h
  cases h
  exact ⟨h1, i, h2, h3, rfl⟩
/-- name = e, e's meaning f -/
theorem ss_setG (T : Fits X C B k) {x : Str} {px pos : Pos} {e : Expr} {f : En → Option (Bool × PyData × En)} {te : TE} (hp : ∀ i, X.N[i]? = some x → Loc X.env.scope x → (X.fn x = true ∨ X.env.scope.names.lookup x = some .local) → PS X (.Assign [.Name x px] e pos) (tAsg te (gName i)))
    (ht : ∀ σ H Q, tV X.K f σ H Q → te σ H Q) : PS X (.Assign [.Name x px] e pos) (tS X.K C fun ρ => (f ρ).bind fun r => (setE C B x r).bind fun ρ1 => some (.nx ρ1)) := by
  by_cases hl : B.loc x = true
  · cases hix : ixOf x C.N with
    | none =>
      refine .no fun D σ H h => ?_
      obtain ⟨P, Z, ρ, r, s, e1, q⟩ := h
      obtain ⟨r1, _, e1⟩ := bind_some e1
      obtain ⟨ρ1, e2, _⟩ := bind_some e1
      obtain ⟨_, i, h, _⟩ := setE_some e2
      rw [hix] at h
      cases h
    | some i =>
      have hx := T.fn x hl
      refine (hp i (T.name hix) (by rw [T.hsc]; exact hx.1) (by rw [T.hsc]; exact hx.2)).imp fun D σ H h => ?_
      obtain ⟨P, Z, ρ, r, s, e1, q⟩ := h
      obtain ⟨r1, e3, e1⟩ := bind_some e1
      obtain ⟨ρ1, e2, e1⟩ := bind_some e1
      cases e1
      obtain ⟨_, j, h1, h2, rfl⟩ := setE_some e2
      rw [hix] at h1
      cases h1
      refine ht _ _ _ ⟨P, Z, ρ, r1, s, e3, fun v H1 vl sh => ?_⟩
      exact q _ H1 (Stt.setO vl i) (Keep.set h2)
  · refine .no fun D σ H h => ?_
    obtain ⟨P, Z, ρ, r, s, e1, q⟩ := h
    obtain ⟨r1, _, e1⟩ := bind_some e1
    obtain ⟨ρ1, e2, _⟩ := bind_some e1
    exact hl (setE_some e2).1
theorem ss_set (T : Fits X C B k) (S : SoO X C F B) (x : Str) (px pos : Pos) (e : Expr) (hn : noComp e = true) : PS X (.Assign [.Name x px] e pos) (tS X.K C fun ρ => (valE C F B e ρ).bind fun r => (setE C B x r).bind fun ρ1 => some (.nx ρ1)) :=
  ss_setG T (fun i h1 h2 h3 => ps_set T.ndX h1 h2 (S.v e) (noComp_sw hn) h3) fun _ _ _ h => h
theorem sw_lc {elt : Expr} {gs : List Comprehension} {scope : Scope} {pos py : Pos} {y : Str} {l : Nat} {env : Env} : swapsWith (.ListComp elt gs scope pos) (some (.Name y py)) l env = pure true ∨ swapsWith (.ListComp elt gs scope pos) (some (.Name y py)) l env = pure false := by
  have : swapsWith (.ListComp elt gs scope pos) (some (.Name y py)) l env = pure (env.blockKind == .function && env.kindOf y == some .local && py.line == pos.line && !(scope.names.any fun (n, k) => n == y && (k == .local || k == .cell))) := rfl
  rw [this]
  cases (env.blockKind == .function && env.kindOf y == some .local && py.line == pos.line && !(scope.names.any fun (n, k) => n == y && (k == .local || k == .cell))) with
  | true => exact .inl rfl
  | false => exact .inr rfl
theorem sw_loc {elt : Expr} {gs : List Comprehension} {scope : Scope} {pos py : Pos} {y : Str} {l : Nat} {env : Env} (h : env.kindOf y ≠ some .local) : swapsWith (.ListComp elt gs scope pos) (some (.Name y py)) l env = pure false := by
  have : swapsWith (.ListComp elt gs scope pos) (some (.Name y py)) l env = pure (env.blockKind == .function && env.kindOf y == some .local && py.line == pos.line && !(scope.names.any fun (n, k) => n == y && (k == .local || k == .cell))) := rfl
  rw [this]
  have : (env.kindOf y == some .local) = false := by simpa using h
  rw [this]
  simp
theorem ss_setLc (T : Fits X C B k) (A : AllO C F k) (x : Str) (px pos p : Pos) (elt : Expr) (gs : List Comprehension) (scope : Scope) :
    PS X (.Assign [.Name x px] (.ListComp elt gs scope p) pos) (tS X.K C fun ρ => (lcE C F B elt gs scope ρ).bind fun q => (setE C B x (true, .list q.1, q.2)).bind fun ρ1 => some (.nx ρ1)) := by
  have no : (∀ ρ r, lcE C F B elt gs scope ρ = some r → False) → PS X (.Assign [.Name x px] (.ListComp elt gs scope p) pos) (tS X.K C fun ρ => (lcE C F B elt gs scope ρ).bind fun q => (setE C B x (true, .list q.1, q.2)).bind fun ρ1 => some (.nx ρ1)) := fun h => .no fun D σ H z => by
    obtain ⟨P, Z, ρ, r, s, e, q⟩ := z
    obtain ⟨r1, e1, _⟩ := bind_some e
    exact h ρ r1 e1
  by_cases hg : ∃ tg iter ifs, gs = [⟨tg, iter, ifs, 0⟩]
  · obtain ⟨tg, iter, ifs, rfl⟩ := hg
    rcases lc_ok (F := F) T (elt := elt) (tg := tg) (iter := iter) (ifs := ifs) (scope := scope) with L | L
    · have S' := fun s H c cl fp => A _ _ (T.blk s H scope cl c fp)
      have main := ss_setG (C := C) (B := B) T (x := x) (px := px) (pos := pos) (e := .ListComp elt [⟨tg, iter, ifs, 0⟩] scope p) (f := fun ρ => (lcE C F B elt [⟨tg, iter, ifs, 0⟩] scope ρ).map fun q => (true, .list q.1, q.2))
        (te := tLc (tI X.K (iterE C F B iter)) (gT X.K C (blkOf B scope) tg) (tT X.K (testsT F (blkOf B scope) ifs)) (tV X.K (valE C F (blkOf B scope) elt)) ((ownOf C.N scope).map (·.2)))
        (fun i h1 h2 h3 => by
          by_cases hk : X.env.kindOf x = some .local
          · rcases sw_lc (elt := elt) (gs := [⟨tg, iter, ifs, 0⟩]) (scope := scope) (pos := p) (py := px) (y := x) (l := pos.line) (env := X.env) with sw | sw
            · exact ps_setLc T.calm T.ndX h1 hk sw (st_iter T (A X B T) iter) L.blk (fun s H c cl fp => st_tg (T.blk s H scope cl c fp) tg) (fun s H c cl fp => st_tests (S' s H c cl fp) ifs) (fun s H c cl fp => (S' s H c cl fp).v elt) (folded_no L.ns)
            · exact ps_set T.ndX h1 h2 (pe_lc (wi := tI X.K (iterE C F B iter)) (g := gT X.K C (blkOf B scope) tg) (tt := tT X.K (testsT F (blkOf B scope) ifs)) (te := tV X.K (valE C F (blkOf B scope) elt)) T.calm T.ndX (st_iter T (A X B T) iter) L.blk (fun s H c cl fp => st_tg (T.blk s H scope cl c fp) tg) (fun s H c cl fp => st_tests (S' s H c cl fp) ifs) (fun s H c cl fp => (S' s H c cl fp).v elt) (folded_no L.ns)) sw h3
          · exact ps_set T.ndX h1 h2 (pe_lc (wi := tI X.K (iterE C F B iter)) (g := gT X.K C (blkOf B scope) tg) (tt := tT X.K (testsT F (blkOf B scope) ifs)) (te := tV X.K (valE C F (blkOf B scope) elt)) T.calm T.ndX (st_iter T (A X B T) iter) L.blk (fun s H c cl fp => st_tg (T.blk s H scope cl c fp) tg) (fun s H c cl fp => st_tests (S' s H c cl fp) ifs) (fun s H c cl fp => (S' s H c cl fp).v elt) (folded_no L.ns)) (sw_loc hk) h3)
        (fun σ H Q z => L.read σ H Q (by
          obtain ⟨P, Z, ρ, r, s, e, q⟩ := z
          obtain ⟨r1, e1, rfl⟩ := map_some e
          exact ⟨P, Z, ρ, r1, s, e1, fun v H' vl sh => q v H' vl sh⟩))
      refine main.imp fun D σ H z => ?_
      obtain ⟨P, Z, ρ, r, s, e, q⟩ := z
      obtain ⟨r1, e1, e⟩ := bind_some e
      exact ⟨P, Z, ρ, r, s, by dsimp only; rw [e1]; exact e, q⟩
    · exact no L
  · exact no fun ρ r e => hg (lcE_one e)
theorem ss_tup (T : Fits X C B k) (S : SoO X C F B) (es : List Expr) (kt : Nat) (p pos : Pos) (e : Expr) (hn : noComp e = true) (ht : ∀ vs k2 p2, e ≠ .Tuple vs k2 p2) :
    PS X (.Assign [.Tuple es kt p] e pos) (tS X.K C fun ρ => (valE C F B e ρ).bind fun r => (tgD C B (.Tuple es kt p) r.2.1 r.2.2).bind fun ρ1 => some (.nx ρ1)) := by
  refine (ps_asg (S.v e) (st_tg T (.Tuple es kt p)) (show swapsWith e (some (.Tuple es kt p)) pos.line X.env = pure false from noComp_sw hn) (by cases e <;> first | rfl | exact (ht _ _ _ rfl).elim)).imp fun D σ H h => ?_
  obtain ⟨P, Z, ρ, r, s, e1, q⟩ := h
  obtain ⟨r1, e3, e1⟩ := bind_some e1
  obtain ⟨ρ1, e2, e1⟩ := bind_some e1
  cases e1
  refine ⟨P, Z, ρ, r1, s, e3, fun v H1 vl sh => ?_⟩
  obtain ⟨s1, rv⟩ := vl.share
  exact ⟨P, Z, r1.2.2, r1.2.1, ρ1, s1, rv, e2, fun σ' s2 sh2 tgk => q σ' H1 s2 tgk.1⟩
end
end Pf


namespace Pf
open PySem PySem.Spec L2
section
variable {X : Cx} {C : Ctx} {B : Bk} {k : Nat} {F : Fns}
theorem ss_sub (T : Fits X C B k) (S : SoO X C F B) (o i : Expr) (sp pos : Pos) (e : Expr) (hn : noComp e = true) (hi : isSl i = false) :
    PS X (.Assign [.Subscript o i sp] e pos) (tS X.K C (subE C F B o i e)) := by
  refine (ps_asg (S.v e) (pg_sub (pos := sp) (S.o o) (S.o i) set_list (by intro v; cases i <;> first | rfl | (simp [isSl] at hi))) (show swapsWith e (some (.Subscript o i sp)) pos.line X.env = pure false from noComp_sw hn) (by cases e <;> rfl)).imp fun D σ H h => ?_
  obtain ⟨P, Z, ρ, r, s, e1, q⟩ := h
  unfold subE at e1
  obtain ⟨r1, a1, e1⟩ := bind_some e1
  obtain ⟨r2, a2, e1⟩ := bind_some e1
  split at e1
  · rename_i j hj
    obtain ⟨r3, a3, e1⟩ := bind_some e1
    obtain ⟨kd, a4, e1⟩ := bind_some e1
    split at e1
    · rename_i d hd
      obtain ⟨d', a5, e1⟩ := bind_some e1
      cases e1
      refine ⟨P, Z, ρ, r1, s, a1, fun v H1 vl sh1 => ?_⟩
      obtain ⟨s1, rv1⟩ := vl.share
      refine ⟨_, Z, r1.2.2, r2, s1.push, a2, fun ov H2 ovl sh2 => ?_⟩
      unfold OV at ovl
      rw [hj] at ovl
      obtain ⟨s2, hov, _⟩ := ovl
      have rv2 := later rv1 s2 sh2
      refine ⟨_, Z, r2.2.2, r3, s2.pop.push, a3, fun iv H3 ivl sh3 => ?_⟩
      obtain ⟨s3, o3⟩ := ivl.stt
      have rv3 := later rv2 s3 sh3
      have o3 := o3.opd s3 a4
      obtain ⟨p, g1, c, _⟩ := s3.ow j d hd
      rw [hov] at g1
      cases g1
      unfold setIx at a5
      split at a5
      · rename_i xs kk
        obtain ⟨jj, a6, rfl⟩ := map_some a5
        obtain rfl := o3.int_inv
        cases c with
        | lst c1 c2 =>
          refine ⟨p, _, kk, jj, rfl, rfl, c1, by rw [c2.length]; exact a6, ?_⟩
          have up : UU r3.2.2 σ Z p := .inr ⟨j, _, hd, hov⟩
          refine q σ _ (s3.mut hd hov (.lst upd_same ?_)).pop (.refl _ _)
          exact (c2.set rv3 jj).pre (pre_upd.mono fun a e => by subst e; exact up)
      · cases a5
    · cases e1
  · cases e1
theorem aug_ok (X : Cx) (op : Operator) : ∃ ti : TIp, PIp X op ti ∧ ∀ (a b z : Int) (H : Hp) (Q : VK), augD op a b = some z → Q (.int z) H → ti (.int a) (.int b) H Q := by
  cases op with
  | Add => exact ⟨_, ip_add, fun a b z H Q h q => by cases h; exact ⟨a, b, rfl, rfl, q⟩⟩
  | Sub => exact ⟨_, ip_sub, fun a b z H Q h q => by cases h; exact ⟨a, b, rfl, rfl, q⟩⟩
  | Mult => exact ⟨_, iop_mul, fun a b z H Q h q => by
      simp only [augD] at h
      obtain ⟨hc, h⟩ := ite_some h
      cases h
      exact ⟨a, b, rfl, rfl, by simpa [CMul] using hc, q⟩⟩
  | FloorDiv => exact ⟨_, iop_fdiv, fun a b z H Q h q => by
      simp only [augD] at h
      obtain ⟨hc, h⟩ := ite_some h
      cases h
      exact ⟨a, b, rfl, rfl, by simpa [CDiv] using hc, q⟩⟩
  | _ => exact ⟨fun _ _ _ _ => False, fun _ _ _ _ _ _ _ _ _ _ _ _ h => h.elim, fun a b z H Q h q => by cases h⟩
theorem ss_aug (T : Fits X C B k) (S : SoO X C F B) (x : Str) (px pos : Pos) (op : Operator) (e : Expr) :
    PS X (.AugAssign (.Name x px) op e pos) (tS X.K C (stepS C F B (.AugAssign (.Name x px) op e pos))) := by
  by_cases hv : (visB B.sc x && B.loc x) = true
  · cases hix : ixOf x C.N with
    | none =>
      refine .no fun D σ H h => ?_
      obtain ⟨P, Z, ρ, r, s, e1, q⟩ := h
      simp only [stepS, if_pos hv, hix] at e1
      cases e1
    | some i =>
      have hl : B.loc x = true := by simp only [Bool.and_eq_true] at hv; exact hv.2
      have hx := T.fn x hl
      obtain ⟨ti, hp, ht⟩ := aug_ok X op
      refine (ps_aug T.ndX (T.name hix) (by rw [T.hsc]; exact hx.1) (S.o e) hp (by rw [T.hsc]; exact hx.2)).imp fun D σ H h => ?_
      obtain ⟨P, Z, ρ, r, s, e1, q⟩ := h
      simp only [stepS, if_pos hv, hix, Option.bind_some] at e1
      obtain ⟨hio, e1⟩ := ite_some' e1
      split at e1
      · rename_i a ha
        obtain ⟨r1, a1, e1⟩ := bind_some e1
        split at e1
        · rename_i b hb
          obtain ⟨z, a2, e1⟩ := bind_some e1
          cases e1
          obtain ⟨v, g1, g2⟩ := s.sh i _ ha
          obtain rfl := g2.int_inv
          refine ⟨.int a, g1, P, Z, ρ, r1, s, a1, fun v H1 ov sh => ?_⟩
          obtain ⟨s1, o1⟩ := ov.stt
          rw [hb] at o1
          have o1 : Rep X.K H1 (UU r1.2.2 σ Z) v (.int b) := o1
          obtain rfl := o1.int_inv
          exact ht a b z H1 _ a2 (q _ H1 (s1.setS (.int z)) (Keep.set hio))
        · cases e1
      · cases e1
  · refine .no fun D σ H h => ?_
    obtain ⟨P, Z, ρ, r, s, e1, q⟩ := h
    simp only [stepS, if_neg hv] at e1
    cases e1
theorem eraseDups_two {x y : Str} (h : (x == y) = false) : ([x, y] : List Str).eraseDups = [x, y] := by
  have h' : ¬ y = x := fun e => by subst e; simp at h
  have h2 : (y == x) = false := by simpa using h'
  simp [List.eraseDups, List.eraseDupsBy, List.eraseDupsBy.loop, h2]
theorem sw_par {x y : Str} {px py p : Pos} {kt : Nat} {a b : Expr} {k2 : Nat} {p2 : Pos} {env : Env} (hk : env.scope.kind = .function) (hx : env.scope.names.lookup x = some .local) (hy : env.scope.names.lookup y = some .local) (h : swB x y px py a b = true) :
    swappedStores [.Tuple [.Name x px, .Name y py] kt p] (.Tuple [a, b] k2 p2) env = pure (some [x, y]) := by
  unfold swB at h
  simp only [Bool.and_eq_true, Bool.not_eq_true'] at h
  obtain ⟨⟨⟨⟨⟨h1, h2⟩, h3⟩, h4⟩, h5⟩, h6⟩ := h
  have kx : env.kindOf x = some .local := hx
  have ky : env.kindOf y = some .local := hy
  have hb : env.blockKind = .function := by unfold Env.blockKind; rw [hk]; rfl
  have hl : (py.line == px.line) = true := by
    rw [beq_iff_eq] at h1 ⊢
    exact h1.symm
  unfold swappedStores
  simp only [hb, List.length_cons, List.length_nil, List.any_cons, List.any_nil, List.head?_cons, Option.map_some, Option.getD_some, Expr.pos, List.filterMap_cons, List.filterMap_nil, kx, ky, hl, h5, h6]
  simp
  rw [if_neg]
  · rw [eraseDups_two h2]
    simp
  · rintro (h | h)
    · split at h
      · simp [star] at h3
      · cases h
    · split at h
      · simp [star] at h4
      · cases h
theorem ss_par (T : Fits X C B k) (S : SoO X C F B) (hkind : X.env.scope.kind = .function) (x y : Str) (px py p : Pos) (kt : Nat) (a b : Expr) (k2 : Nat) (p2 pos : Pos) :
    PS X (.Assign [.Tuple [.Name x px, .Name y py] kt p] (.Tuple [a, b] k2 p2) pos) (tS X.K C (stepS C F B (.Assign [.Tuple [.Name x px, .Name y py] kt p] (.Tuple [a, b] k2 p2) pos))) := by
  have no : (∀ ρ r, stepS C F B (.Assign [.Tuple [.Name x px, .Name y py] kt p] (.Tuple [a, b] k2 p2) pos) ρ = some r → False) → PS X (.Assign [.Tuple [.Name x px, .Name y py] kt p] (.Tuple [a, b] k2 p2) pos) (tS X.K C (stepS C F B (.Assign [.Tuple [.Name x px, .Name y py] kt p] (.Tuple [a, b] k2 p2) pos))) := fun h => .no fun D σ H z => by
    obtain ⟨P, Z, ρ, r, s, e, q⟩ := z
    exact h ρ r e
  by_cases hc : ((B.sc.names.lookup x == some .local) && (B.sc.names.lookup y == some .local) && B.loc x && B.loc y && swB x y px py a b) = true
  · have hc' := hc
    simp only [Bool.and_eq_true, beq_iff_eq] at hc
    obtain ⟨⟨⟨⟨hx, hy⟩, lx⟩, ly⟩, hs⟩ := hc
    cases hix : ixOf x C.N with
    | none =>
      refine no fun ρ r e => ?_
      simp only [stepS, if_pos hc', hix] at e
      obtain ⟨q, e1, e⟩ := bind_some e
      split at e <;> cases e
    | some i =>
      cases hiy : ixOf y C.N with
      | none =>
        refine no fun ρ r e => ?_
        simp only [stepS, if_pos hc', hix, hiy] at e
        obtain ⟨q, e1, e⟩ := bind_some e
        split at e <;> cases e
      | some j =>
        by_cases hij : i = j
        · refine no fun ρ r e => ?_
          simp only [stepS, if_pos hc', hix, hiy, Option.bind_some] at e
          obtain ⟨q, e1, e⟩ := bind_some e
          split at e
          · simp [hij] at e
          · cases e
        · refine (ps_par T.calm T.ndX (T.name hix) (T.name hiy) hij (by rw [T.hsc]; exact hx) (by rw [T.hsc]; exact hy) (pa_vals S [a, b]) (sw_par hkind (by rw [T.hsc]; exact hx) (by rw [T.hsc]; exact hy) hs)).imp fun D σ H h => ?_
          obtain ⟨P, Z, ρ, r, s, e, q⟩ := h
          simp only [stepS, if_pos hc', hix, hiy, Option.bind_some] at e
          obtain ⟨q1, e1, e⟩ := bind_some e
          split at e
          · rename_i d d' hq
            obtain ⟨hio, e⟩ := ite_some' e
            cases e
            simp only [Bool.or_eq_false_iff] at hio
            refine ⟨P, Z, ρ, q1, s, e1, fun vs H1 s1 rs sh => ?_⟩
            rw [hq] at rs
            cases rs with
            | cons r1 rs =>
              cases rs with
              | cons r2 rs =>
                cases rs
                refine ⟨_, _, rfl, q _ H1 ((s1.setS r1).setS (r2.mono uu_setSh)) ((Keep.set hio.1.1).trans (Keep.set hio.1.2))⟩
          · cases e
  · refine no fun ρ r e => ?_
    simp only [stepS, if_neg hc] at e
    cases e
end
end Pf


namespace Pf
open PySem PySem.Spec L2
section
variable {X : Cx} {C : Ctx} {B : Bk} {k : Nat} {F : Fns}
theorem tO_no {e : Expr} {f : En → Option (Opn × Bool × En)} (h : ∀ ρ r, f ρ = some r → False) : PE X e (tO X.K f) := .no fun σ H Q z => by
  obtain ⟨P, Z, ρ, r, x, e, q⟩ := z
  exact h ρ r e
theorem tT_no {e : Expr} {f : En → Option (Bool × En)} (h : ∀ ρ r, f ρ = some r → False) : PT X e (tT X.K f) := .no fun σ H Q z => by
  obtain ⟨P, Z, ρ, r, x, e, q⟩ := z
  exact h ρ r e
theorem tS_no {e : Stmt} {f : En → Option Out} (h : ∀ ρ r, f ρ = some r → False) : PS X e (tS X.K C f) := .no fun D σ H z => by
  obtain ⟨P, Z, ρ, r, x, e, q⟩ := z
  exact h ρ r e
theorem step_o (T : Fits X C B k) (A : AllO C F k) (e : Expr) : PE X e (tO X.K (stepO C F B e)) := by
  have S := A X B T
  cases e with
  | Constant c j p => exact st_const c j p
  | Name x p => exact st_name T x p
  | BinOp a op b p => exact st_bin S a op b p
  | UnaryOp op a p => exact st_un S op a p
  | IfExp t a b p => exact st_ifx S t a b p
  | Tuple es j p => exact st_tup S es j p
  | List es p => exact st_lst S es p
  | Subscript a i p =>
    by_cases hi : isSl i = true
    · cases i with
      | Slice lo hi2 st p2 =>
        cases st with
        | none => exact st_sl S a lo hi2 p2 p
        | some z => exact tO_no fun ρ r h => by simp [stepO, isSl] at h
      | _ => simp [isSl] at hi
    · exact st_ix S a i p (by simpa using hi)
  | ListComp elt gs scope p => exact st_lc T A elt gs scope p
  | BoolOp op es p => exact st_bool S op p es
  | Compare a ops es p =>
    refine (st_cmp T S a ops es p).1.imp fun σ H Q h => ?_
    obtain ⟨P, Z, ρ, r, x, e, q⟩ := h
    obtain ⟨r1, e1, e⟩ := bind_some e
    cases e
    exact ⟨P, Z, ρ, r1, x, e1, fun H1 s1 sh => q _ H1 ⟨s1, .bl _⟩ sh⟩
  | Call f args kws p =>
    cases f with
    | Name f p1 => exact st_callN T S f args kws p1 p
    | Attribute o m ap =>
      cases kws with
      | cons kw kws => exact tO_no fun ρ r h => by simp [stepO] at h
      | nil =>
        by_cases hl : (ap.endLine == p.line) = true
        · refine (st_met S o m args ap p hl).imp fun σ H Q h => ?_
          obtain ⟨P, Z, ρ, r, x, e, q⟩ := h
          refine ⟨P, Z, ρ, r, x, ?_, q⟩
          simpa [stepO, hl] using e
        · exact tO_no fun ρ r h => by simp [stepO, hl] at h
    | _ => exact tO_no fun ρ r h => by simp [stepO] at h
  | _ => exact tO_no fun ρ r h => by simp [stepO] at h
theorem step_t (T : Fits X C B k) (S : SoO X C F B) (e : Expr) : PT X e (tT X.K (stepT C F B e)) := by
  have go : (∀ whole, isTrue e X.env whole = (do let v ← whole; standAt e.pos; holding [v] (truthy v))) → stepT C F B e = (fun ρ => (F.o B e ρ).bind fun r => (rdO r.2.2 r.1).bind fun d => (truthD d).bind fun k => some (k, r.2.2)) → PT X e (tT X.K (stepT C F B e)) := fun he hs => by
    rw [hs]
    refine (pt_truth (S.o e) he).imp fun σ H Q h => ?_
    obtain ⟨P, Z, ρ, r, x, e1, q⟩ := h
    obtain ⟨r1, a1, e1⟩ := bind_some e1
    obtain ⟨d, a2, e1⟩ := bind_some e1
    obtain ⟨kk, a3, e1⟩ := bind_some e1
    cases e1
    refine ⟨P, Z, ρ, r1, x, a1, fun v H1 ov sh => ?_⟩
    obtain ⟨s1, o1⟩ := ov.stt
    exact ⟨kk, tru_of (o1.opd s1 a2) a3, q H1 s1 sh⟩
  cases e with
  | UnaryOp op a p =>
    cases op with
    | Not =>
      refine (pt_not (S.t a)).imp fun σ H Q h => ?_
      obtain ⟨P, Z, ρ, r, x, e1, q⟩ := h
      simp only [stepT] at e1
      obtain ⟨r1, a1, e1⟩ := bind_some e1
      cases e1
      exact ⟨P, Z, ρ, r1, x, a1, fun H1 s1 sh => q H1 s1 sh⟩
    | _ => exact go (fun _ => rfl) rfl
  | BoolOp op es p => exact st_boolT S op p es
  | IfExp t a b p => exact tT_no fun ρ r h => by simp [stepT] at h
  | Compare a ops es p => exact (st_cmp T S a ops es p).2
  | _ => exact go (fun _ => rfl) rfl
theorem ss_doc (S : SoO X C F B) (e : Expr) (p : Pos) : PS X (.Expr e p) (tS X.K C (stepS C F B (.Expr e p))) := by
  have go : stepS C F B (.Expr e p) = (fun ρ => if noComp e then (F.o B e ρ).bind fun r => some (.nx r.2.2) else none) → PS X (.Expr e p) (tS X.K C (stepS C F B (.Expr e p))) := fun hs => by
    rw [hs]
    by_cases hn : noComp e = true
    · refine (ps_expr (S.o e) (noComp_sw hn)).imp fun D σ H h => ?_
      obtain ⟨P, Z, ρ, r, x, e1, q⟩ := h
      replace e1 : (if noComp e = true then (F.o B e ρ).bind fun r => some (Out.nx r.2.2) else none) = some r := e1
      rw [if_pos hn] at e1
      obtain ⟨r1, a1, e1⟩ := bind_some e1
      cases e1
      exact ⟨P, Z, ρ, r1, x, a1, fun v H1 ov sh => q σ H1 ov.stt.1 (.refl _ _)⟩
    · exact tS_no fun ρ r h => by
        replace h : (if noComp e = true then (F.o B e ρ).bind fun r => some (Out.nx r.2.2) else none) = some r := h
        rw [if_neg hn] at h
        cases h
  cases e with
  | Constant c j p2 =>
    cases c with
    | str z =>
      refine ps_doc.imp fun D σ H h => ?_
      obtain ⟨P, Z, ρ, r, x, e1, q⟩ := h
      simp only [stepS] at e1
      cases e1
      exact q σ H x (.refl _ _)
    | _ => exact go rfl
  | _ => exact go rfl
theorem ss_ret (S : SoO X C F B) (e : Option Expr) (p : Pos) : PS X (.Return e p) (tS X.K C (stepS C F B (.Return e p))) := by
  cases e with
  | none =>
    refine ps_retN.imp fun D σ H h => ?_
    obtain ⟨P, Z, ρ, r, x, e1, q⟩ := h
    simp only [stepS] at e1
    cases e1
    exact q σ .non H ⟨x, .non⟩ (.refl _ _)
  | some e =>
    refine (ps_ret (S.o e)).imp fun D σ H h => ?_
    obtain ⟨P, Z, ρ, r, x, e1, q⟩ := h
    simp only [stepS] at e1
    obtain ⟨r1, a1, e1⟩ := bind_some e1
    obtain ⟨o, b, ρ1⟩ := r1
    refine ⟨P, Z, ρ, _, x, a1, fun v H1 ov sh => ?_⟩
    cases o with
    | slot i =>
      obtain ⟨_, e1⟩ := ite_some' e1
      cases e1
      exact q σ v H1 ov (.refl _ _)
    | val d =>
      cases e1
      exact q σ v H1 ov (.refl _ _)
theorem step_s (T : Fits X C B k) (A : AllO C F k) (R : SoS X C F B) (st : Stmt) : PS X st (tS X.K C (stepS C F B st)) := by
  have S := A X B T
  cases st with
  | Pass p =>
    refine ps_pass.imp fun D σ H h => ?_
    · obtain ⟨P, Z, ρ, r, x, e1, q⟩ := h
      cases e1
      exact q σ H x (.refl _ _)
  | Break p =>
    refine ps_break.imp fun D σ H h => ?_
    · obtain ⟨P, Z, ρ, r, x, e1, q⟩ := h
      cases e1
      exact q σ H x (.refl _ _)
  | Continue p =>
    refine ps_continue.imp fun D σ H h => ?_
    · obtain ⟨P, Z, ρ, r, x, e1, q⟩ := h
      cases e1
      exact q σ H x (.refl _ _)
  | Expr e p => exact ss_doc S e p
  | Return e p => exact ss_ret S e p
  | If t a b p => exact ss_if S R t a b p
  | While t b el p =>
    cases el with
    | nil => exact ss_while T S R t b p
    | cons _ _ => exact tS_no fun ρ r h => by simp [stepS] at h
  | For tg it b el p =>
    cases el with
    | cons _ _ => exact tS_no fun ρ r h => by simp [stepS] at h
    | nil =>
      by_cases hn : notSet it = true
      · refine (ss_for T S R tg it b p hn).imp fun D σ H h => ?_
        obtain ⟨P, Z, ρ, r, x, e1, q⟩ := h
        refine ⟨P, Z, ρ, r, x, ?_, q⟩
        simpa [stepS, hn] using e1
      · exact tS_no fun ρ r h => by simp [stepS, hn] at h
  | AugAssign tg op e p =>
    cases tg with
    | Name x px => exact ss_aug T S x px p op e
    | _ => exact tS_no fun ρ r h => by simp [stepS] at h
  | Assign tgs e p =>
    cases tgs with
    | nil => exact tS_no fun ρ r h => by simp [stepS] at h
    | cons tg tgs =>
      cases tgs with
      | cons _ _ => exact tS_no fun ρ r h => by cases tg <;> simp [stepS] at h
      | nil =>
        cases tg with
        | Name x px =>
          by_cases hn : noComp e = true
          · refine (ss_set T S x px p e hn).imp fun D σ H h => ?_
            obtain ⟨P, Z, ρ, r, s, e1, q⟩ := h
            refine ⟨P, Z, ρ, r, s, ?_, q⟩
            cases e <;> first | (simp [noComp] at hn; done) | simpa [stepS, noComp] using e1
          · cases e with
            | ListComp elt gs scope p2 => exact ss_setLc T A x px p p2 elt gs scope
            | _ => exact tS_no fun ρ r h => by simp [stepS, hn] at h
        | Tuple es kt p1 =>
          by_cases ht : ∃ vs k2 p2, e = .Tuple vs k2 p2
          · obtain ⟨vs, k2, p2, rfl⟩ := ht
            by_cases hs : ∃ x px y py a b, es = [.Name x px, .Name y py] ∧ vs = [a, b]
            · obtain ⟨x, px, y, py, a, b, rfl, rfl⟩ := hs
              exact ⟨fun pins s σ H D I h => (ss_par T S I.ok.kind x y px py p1 kt a b k2 p2 p).run pins s σ H D I h⟩
            · refine tS_no fun ρ r h => ?_
              simp only [stepS] at h
              split at h
              · exact hs ⟨_, _, _, _, _, _, rfl, rfl⟩
              · cases h
          · by_cases hn : noComp e = true
            · refine (ss_tup T S es kt p1 p e hn fun vs k2 p2 z => ht ⟨vs, k2, p2, z⟩).imp fun D σ H h => ?_
              obtain ⟨P, Z, ρ, r, s, e1, q⟩ := h
              refine ⟨P, Z, ρ, r, s, ?_, q⟩
              cases e <;> first | (exfalso; exact ht ⟨_, _, _, rfl⟩) | (simp [noComp] at hn; done) | simpa [stepS, noComp] using e1
            · refine tS_no fun ρ r h => ?_
              cases e <;> first | (simp [noComp] at hn; done) | (simp [stepS, noComp] at h; done)
        | Subscript o i sp =>
          by_cases hc : (noComp e && isSl i == false) = true
          · have hc' := hc
            simp only [Bool.and_eq_true, beq_iff_eq] at hc
            refine (ss_sub T S o i sp p e hc.1 hc.2).imp fun D σ H h => ?_
            obtain ⟨P, Z, ρ, r, s, e1, q⟩ := h
            refine ⟨P, Z, ρ, r, s, ?_, q⟩
            simpa [stepS, hc.1, hc.2] using e1
          · refine tS_no fun ρ r h => ?_
            simp only [stepS] at h
            rw [if_neg hc] at h
            cases h
        | _ => exact tS_no fun ρ r h => by simp [stepS] at h
  | _ => exact tS_no fun ρ r h => by simp [stepS] at h
end
theorem all_ok (C : Ctx) (k : Nat) : ∀ n : Nat, AllO C (fns C n) k ∧ ∀ (X : Cx) (B : Bk), Fits X C B k → SoS X C (fns C n) B
  | 0 => ⟨fun X B T => ⟨fun e => tO_no fun ρ r h => (nomatch (show (none : Option _) = some r from h)), fun e => tT_no fun ρ r h => (nomatch (show (none : Option _) = some r from h))⟩, fun X B T st => tS_no fun ρ r h => (nomatch (show (none : Option _) = some r from h))⟩
  | n + 1 => by
    obtain ⟨A, R⟩ := all_ok C k n
    exact ⟨fun X B T => ⟨fun e => step_o T A e, fun e => step_t T (A X B T) e⟩, fun X B T st => step_s T A (R X B T) st⟩
end Pf


namespace Pf
open PySem PySem.Spec L2

/-! ## the text's defs -/
structure DefE where
  fe : FE
  N : List Str
  scope : Scope
  body : List Stmt
def ioIx : Nat → List Bool → List Nat
  | _, [] => []
  | j, true :: r => j :: ioIx (j + 1) r
  | j, false :: r => ioIx (j + 1) r
def afterIo : Nat → List Bool → List PyData → En → Option (List PyData)
  | _, [], [], _ => some []
  | j, true :: io, _ :: ds, ρ => match ρ[j]? with
    | some (some (true, d)) => (afterIo (j + 1) io ds ρ).map (d :: ·)
    | _ => none
  | j, false :: io, d :: ds, ρ => (afterIo (j + 1) io ds ρ).map (d :: ·)
  | _, _, _, _ => none
def outD (C : Ctx) (io : List Bool) (ds : List PyData) (r : Out) : Option (Bool × PyData × List PyData) :=
  match r with
  | .nx ρ => (afterIo 0 io ds ρ).map fun ds' => (false, .none, ds')
  | .rt (.val d) b ρ => (afterIo 0 io ds ρ).map fun ds' => (b, d, ds')
  | .rt (.slot i) _ ρ => if C.io.contains i then none else match ρ[i]? with
    | some (some (true, d)) => (afterIo 0 io ds ρ).map fun ds' => (true, d, ds')
    | _ => none
  | _ => none
def runDef (C : Ctx) (B : Bk) (fuel : Nat) (body : List Stmt) (io : List Bool) (ds : List PyData) : Option (Bool × PyData × List PyData) :=
  (stmts (fns C fuel) B body (ag io ds ++ List.replicate (C.N.length - ds.length) none)).bind (outD C io ds)
def bkOf (e : DefE) : Bk := ⟨e.scope, fun x => match e.scope.names.lookup x with | some .local => true | some .cell => true | _ => false⟩
def ctxOf (T : List FE) (G : List (Str × PyData)) (w : Nat) (Γ : Sem3) (e : DefE) : Ctx := ⟨e.N, ioIx 0 e.fe.io, T, G, Γ, w⟩
def Gam (D : List DefE) (G : List (Str × PyData)) (w fuel : Nat) : Nat → Sem3
  | 0 => fun _ _ => none
  | k + 1 => fun name ds => (D.find? fun e => e.fe.name == name).bind fun e => if ds.length = e.fe.io.length then runDef (ctxOf (D.map (·.fe)) G w (Gam D G w fuel k) e) (bkOf e) fuel e.body e.fe.io ds else none

theorem ioIx_mem : ∀ {io : List Bool} {j i : Nat}, i ∈ ioIx j io ↔ ∃ m, i = j + m ∧ io[m]? = some true
  | [], j, i => by simp [ioIx]
  | true :: io, j, i => by
    simp only [ioIx, List.mem_cons, ioIx_mem (io := io)]
    constructor
    · rintro (rfl | ⟨m, rfl, h⟩)
      · exact ⟨0, rfl, rfl⟩
      · exact ⟨m + 1, by omega, by simpa using h⟩
    · rintro ⟨m, rfl, h⟩
      cases m with
      | zero => exact .inl rfl
      | succ m => exact .inr ⟨m, by omega, by simpa using h⟩
  | false :: io, j, i => by
    simp only [ioIx, ioIx_mem (io := io)]
    constructor
    · rintro ⟨m, rfl, h⟩
      exact ⟨m + 1, by omega, by simpa using h⟩
    · rintro ⟨m, rfl, h⟩
      cases m with
      | zero => simp at h
      | succ m => exact ⟨m, by omega, by simpa using h⟩
theorem afterIo_get : ∀ {io : List Bool} {ds ds' : List PyData} {j : Nat} {ρ : En}, afterIo j io ds ρ = some ds' → ds'.length = ds.length ∧ ds.length = io.length ∧ (∀ (i : Nat) (d : PyData), io[i]? = some true → ds'[i]? = some d → ρ[j + i]? = some (some (true, d))) ∧ ∀ (i : Nat), io[i]? = some false → ds'[i]? = ds[i]?
  | [], [], ds', j, ρ, h => by
    simp only [afterIo] at h
    cases h
    exact ⟨rfl, rfl, fun i d h => by simp at h, fun i h => rfl⟩
  | [], _ :: _, ds', j, ρ, h => by simp [afterIo] at h
  | true :: _, [], ds', j, ρ, h => by simp [afterIo] at h
  | false :: _, [], ds', j, ρ, h => by simp [afterIo] at h
  | true :: io, d0 :: ds, ds', j, ρ, h => by
    simp only [afterIo] at h
    split at h
    · rename_i d hd
      obtain ⟨q, h1, h2⟩ := map_some h
      subst h2
      obtain ⟨l1, l2, g1, g2⟩ := afterIo_get h1
      refine ⟨by simp [l1], by simp [l2], fun i e h3 h4 => ?_, fun i h3 => ?_⟩
      · cases i with
        | zero =>
          simp at h4
          subst h4
          exact hd
        | succ i =>
          have := g1 i e (by simpa using h3) (by simpa using h4)
          rw [← this]
          congr 1
          omega
      · cases i with
        | zero => simp at h3
        | succ i => simpa using g2 i (by simpa using h3)
    · cases h
  | false :: io, d0 :: ds, ds', j, ρ, h => by
    simp only [afterIo] at h
    obtain ⟨q, h1, h2⟩ := map_some h
    subst h2
    obtain ⟨l1, l2, g1, g2⟩ := afterIo_get h1
    refine ⟨by simp [l1], by simp [l2], fun i e h3 h4 => ?_, fun i h3 => ?_⟩
    · cases i with
      | zero => simp at h3
      | succ i =>
        have := g1 i e (by simpa using h3) (by simpa using h4)
        rw [← this]
        congr 1
        omega
    · cases i with
      | zero => rfl
      | succ i => simpa using g2 i (by simpa using h3)
section
variable {K : PySem.W.Frag} {P : List Bs} {Z Z' : Addr → Prop} {ρ : En} {σ : St} {H H' : Hp} {io : List Bool} {ds ds' : List PyData} {vs : List V}
theorem ext_get {α : Type} {l : List (Option α)} {n i : Nat} {x : α} : (l ++ List.replicate n none)[i]? = some (some x) ↔ l[i]? = some (some x) := by
  rcases Nat.lt_or_ge i l.length with h | h
  · rw [List.getElem?_append_left h]
  · rw [List.getElem?_append_right h, List.getElem?_eq_none h, List.getElem?_replicate]
    constructor
    · intro e
      split at e <;> cases e
    · intro e; cases e
theorem own_ext {n m : Nat} : OwnA (ρ ++ List.replicate n none) (σ ++ List.replicate m none) = OwnA ρ σ := by
  funext a
  apply propext
  constructor
  · rintro ⟨i, d, h1, h2⟩
    exact ⟨i, d, ext_get.mp h1, ext_get.mp h2⟩
  · rintro ⟨i, d, h1, h2⟩
    exact ⟨i, d, ext_get.mpr h1, ext_get.mpr h2⟩
theorem uu_ext {n m : Nat} : UU (ρ ++ List.replicate n none) (σ ++ List.replicate m none) Z = UU ρ σ Z := by
  unfold UU
  rw [own_ext]
theorem Stt.ext (x : Stt K P Z ρ σ H) (n : Nat) : Stt K P Z (ρ ++ List.replicate n none) (σ ++ List.replicate n none) H where
  len := by simp [x.len]
  sh := fun i d h => by
    obtain ⟨v, h1, r⟩ := x.sh i d (ext_get.mp h)
    exact ⟨v, ext_get.mpr h1, by rw [uu_ext]; exact r⟩
  ow := fun i d h => by
    obtain ⟨p, h1, c, z, b⟩ := x.ow i d (ext_get.mp h)
    exact ⟨p, ext_get.mpr h1, by rw [uu_ext]; exact c, z, b⟩
  dis := fun i j d e p h1 h2 h3 h4 => x.dis i j d e p (ext_get.mp h1) (ext_get.mp h2) (ext_get.mp h3) (ext_get.mp h4)
  zd := x.zd
  pre := x.pre
/-- the frame's end: the parameters alone -/
theorem Stt.leave (x0 : Stt K [] Z (ag io ds) (sv vs) H) (hl : ds.length = io.length) (y : Stt K [⟨H, OwnA (ag io ds) (sv vs)⟩] Z' ρ σ H') (hz : ∀ a, Z' a → Z a ∨ H a = none) (ha : afterIo 0 io ds ρ = some ds') (hk : ∀ (i : Nat), io[i]? = some true → σ[i]? = (sv vs)[i]?) :
    Stt K [⟨H, OwnA (ag io ds) (sv vs)⟩] Z' (ag io ds') (sv vs) H' ∧ ∀ (Zq : Addr → Prop) (a : Addr), UU (ag io ds') (sv vs) Zq a → UU ρ σ Zq a := by
  obtain ⟨l1, l2, g1, g2⟩ := afterIo_get ha
  have g1 : ∀ (i : Nat) (d : PyData), io[i]? = some true → ds'[i]? = some d → ρ[i]? = some (some (true, d)) := fun i d h1 h2 => by
    have := g1 i d h1 h2
    rwa [Nat.zero_add] at this
  obtain ⟨y1, y2, y3⟩ := y.pre _ List.mem_cons_self
  have own : ∀ {i : Nat} {d : PyData}, (ag io ds')[i]? = some (some (true, d)) → ρ[i]? = some (some (true, d)) ∧ σ[i]? = (sv vs)[i]? := fun {i d} h => by
    obtain ⟨h1, h2⟩ := ag_get.mp h
    exact ⟨g1 i d h1 h2, hk i h1⟩
  have own0 : ∀ a, OwnA (ag io ds') (sv vs) a → OwnA (ag io ds) (sv vs) a := fun a u => ag_own (fv := vs) (full := ds') (full' := ds) l1.symm u
  have sub : ∀ (Zq : Addr → Prop) (a : Addr), UU (ag io ds') (sv vs) Zq a → UU ρ σ Zq a := fun Zq a u => by
    rcases u with u | ⟨i, d, h1, h2⟩
    · exact .inl u
    · obtain ⟨h3, h4⟩ := own h1
      exact .inr ⟨i, d, h3, by rw [h4]; exact h2⟩
  refine ⟨⟨by rw [ag_length (by rw [l1, hl]), ← x0.len, ag_length hl], fun i d h => ?_, fun i d h => ?_, fun i j d e p h1 h2 h3 h4 => ?_, y.zd, y.pre⟩, sub⟩
  · obtain ⟨h1, h2⟩ := ag_get.mp h
    rw [g2 i h1] at h2
    obtain ⟨v, h3, r⟩ := x0.sh i d (ag_get.mpr ⟨h1, h2⟩)
    refine ⟨v, h3, rep_now r (y1.mono fun a u => .inr u) fun a u => ?_⟩
    rcases u with u | u
    · rcases hz a u with z | z
      · exact .inl (.inl z)
      · exact .inr z
    · exact .inl (.inr (own0 a u))
  · obtain ⟨h1, h2⟩ := own h
    obtain ⟨p, h3, c, z, b⟩ := y.ow i d h1
    exact ⟨p, by rw [← h2]; exact h3, c.mono fun a u => sub _ a u, z, b⟩
  · obtain ⟨a1, a2⟩ := own h1
    obtain ⟨b1, b2⟩ := own h2
    exact y.dis i j d e p a1 b1 (by rw [a2]; exact h3) (by rw [b2]; exact h4)
/-- one's own container is given away -/
theorem Stt.give {i : Nat} {p : Addr} {d : PyData} (x : Stt K P Z ρ σ H) (hi : ρ[i]? = some (some (true, d))) (e : σ[i]? = some (some (V.ref p))) (hb : ∀ b ∈ P, b.H0 p = none) : Val K P Z (ρ.set i none) (σ.set i none) true (.ref p) d H := by
  obtain ⟨q, h1, c, nz, _⟩ := x.ow i d hi
  rw [e] at h1
  cases h1
  have sub : ∀ a, UU (ρ.set i none) (σ.set i none) (ZP Z p) a → UU ρ σ Z a := fun a u => by
    rcases u with (u | rfl) | u
    · exact .inl u
    · exact .inr ⟨i, d, hi, e⟩
    · exact uu_drop (Z := Z) a (.inr u)
  have y := x.drop i
  refine ⟨p, rfl, nz, ⟨y.len, fun j f h => ?_, fun j f h => ?_, y.dis, fun a z => ?_, fun b hb' => ⟨(x.pre b hb').1, (x.pre b hb').2.1, fun a o z g => ?_⟩⟩, c.mono fun a u => ?_, hb⟩
  · obtain ⟨h, hn⟩ := get_set_none h
    obtain ⟨v, h2, r⟩ := x.sh j f h
    exact ⟨v, by rw [List.getElem?_set_ne hn]; exact h2, r.mono sub⟩
  · obtain ⟨h, hn⟩ := get_set_none h
    obtain ⟨q, h2, c2, z2, b2⟩ := x.ow j f h
    refine ⟨q, by rw [List.getElem?_set_ne hn]; exact h2, c2.mono sub, fun z => ?_, b2⟩
    rcases z with z | z
    · exact z2 z
    · exact hn (x.dis i j d f p hi h e (z ▸ h2))
  · rcases z with z | rfl
    · exact x.zd a z
    · exact c.there
  · rcases z with z | rfl
    · exact (x.pre b hb').2.2 a o z g
    · rw [hb b hb'] at g
      cases g
  · rcases u with u | rfl
    · exact uu_drop a u
    · exact .inr ⟨i, d, hi, e⟩
end

/-! ### a def by its body -/
section
variable {P : Program} {w : World} {K : PySem.W.Frag} {mg : Str → Option Value} {base : Heap}
theorem fk_of {k : Nat} {f : Addr} {name qual : Str} {params : Arguments} {body : List Stmt} {scope : Scope} {dV kV doc pm cdv ct oc : Value} {an od : Option Addr} {osl : Array (Option Value)} {N ps : List Str} {sp : Sp}
    (lk : K.lookup f = some ⟨oc, od, .func (PySem.W.fnOf name qual params body scope dV kV doc pm an cdv ct), osl⟩) (hcd : PySem.W.codeIn K cdv qual = true) (S : FnScope N ps scope) (len : ∀ vs H Q E, sp vs H Q E → vs.length = ps.length)
    (hbody : ∀ (A : Around) (outer : List Env) (s : Shared) (H : Hp) (vs : List V) (Q : VK) (E : XK), A.guards = some [] → Room k (A.deeper (PyProof.Rows.envOfC qual scope s.heap.objs.size f cdv)) → sp vs H Q E →
      ∃ t, PSs (cxOf CX0 P w K mg base N qual scope f cdv A outer s H E).nox body t ∧ t { nx := fun _ H' => Q .non H', rt := Q } (start N vs) H) :
    Fk P w K mg base (k + 1) f (PySem.W.fnOf name qual params body scope dV kV doc pm an cdv ct) ps sp where
  lens := len
  runs A outer s H args us vs Q E hg hr e0 hb r hsp := by
    have kp : ∀ b o, base.get? b = some o → s.heap.get? b = some o := fun b o e => (e0.bs b o e).1
    have KX : K.In s.heap := e0.mod.kin.keeps kp
    obtain ⟨t, ht, hq⟩ := hbody A outer s H vs Q E hg (hr.deeper _) hsp
    have hall : ∀ y ∈ ps.zip us, scope.names.lookup y.1 = some .local ∨ (scope.names.lookup y.1 = some .cell ∧ ((cellsFrom (s.heap.objs.size + 1) scope.names []).lookup y.1).isSome = true) := by
      rintro ⟨n, v⟩ hy
      exact (S.par n (List.of_mem_zip hy).1).imp id fun q => ⟨q, PySem.W.cellsFrom_some _ _ _ (.inl q)⟩
    apply codeAny_call_function hr.depth (KX _ _ lk) rfl S.co S.gen rfl (PySem.W.codeRec_of KX hcd)
    apply hb
    refine wpAny_newFunctionEnv_cells S.kind hall ?_
    rintro env rfl s1 x
    refine ⟨(e0.mod.nolimit.keeps kp).keeps x.toInCall.keep, codeAny_func ?_⟩
    have I := inv_start (CX := CX0) (qual := qual) (f := f) (cd := cdv) (E := E) S hr.hd e0 (len _ _ _ _ hsp) r x
    refine wpAny_mono ((PSs.nox ht).run [] s1 (start N vs) H _ I hq) (fun fl s' hs => ?_) fun _ _ z => z
    cases fl with
    | ret u =>
      obtain ⟨v, σ', H', J, rv, q⟩ := hs
      exact ⟨v, H', J.os, J.bare, J.base, J.hok, rv, q⟩
    | next =>
      obtain ⟨σ', H', J, q⟩ := hs
      exact ⟨.non, H', J.os, J.bare, J.base, J.hok, rfl, q⟩
    | brk => exact hs.choose_spec.choose_spec.2.elim
    | cont => exact hs.choose_spec.choose_spec.2.elim
/-- what is known of a def as the top has left it -/
structure DefOk (K : PySem.W.Frag) (mg : Str → Option Value) (e : DefE) : Prop where
  sc : FnScope e.N e.fe.ps e.scope
  io : e.fe.io.length = e.fe.ps.length
  ex : ∃ (f : Addr) (oc : Value) (od : Option Addr) (dV kV doc pm : Value) (an : Option Addr) (cdv ct : Value) (osl : Array (Option Value)) (params : Arguments) (qual : Str) (dvs : List V) (dus : List Value),
    K.lookup f = some ⟨oc, od, .func (PySem.W.fnOf e.fe.name qual params e.body e.scope dV kV doc pm an cdv ct), osl⟩ ∧ PySem.W.codeIn K cdv qual = true ∧ mg e.fe.name = some (.ref f) ∧ PySem.W.keepIn K (.ref f) = true ∧ Vals dvs dus ∧
    (∀ (i : Nat) (d : PyData), e.fe.dfl[i]? = some d → ∃ v, dvs[i]? = some v ∧ ∀ (H : Hp) (U : Addr → Prop), Rep K H U v d) ∧ dvs.length = e.fe.dfl.length ∧
    ∀ p ∈ e.fe.pats, ∀ (s : Shared) (us ws : List Value), K.In s.heap → us.length = p.n → ws.length = p.ks.length → ∃ full, arr us ws dus p.src = some full ∧
      BindsTo s (PySem.W.fnOf e.fe.name qual params e.body e.scope dV kV doc pm an cdv ct) ⟨us, p.ks.zip ws⟩ (e.fe.ps.zip full)
/-- what is known of the module -/
structure TopOk (K : PySem.W.Frag) (mg : Str → Option Value) (D : List DefE) (G : List (Str × PyData)) : Prop where
  defs : ∀ e ∈ D, DefOk K mg e
  uniq : (D.map fun e => e.fe.name).Nodup
  blt : ∀ b ∈ bis, mg b.name = none
  btx : mg "range" = none ∧ mg "isinstance" = none ∧ mg "int" = none ∧ mg "bool" = none ∧ mg "str" = none ∧ mg "tuple" = none ∧ mg "list" = none
  glb : ∀ p ∈ G, ∃ v u, mg p.1 = some u ∧ RelV v u ∧ ∀ (H : Hp) (U : Addr → Prop), Rep K H U v p.2
theorem spF_lens {Γ : Sem3} {name : Str} {io : List Bool} {ps : List Str} (hio : io.length = ps.length) : ∀ vs H Q E, spF K Γ name io vs H Q E → vs.length = ps.length := fun vs H Q E h => by
  obtain ⟨Z, ds, b, r, ds', x, l, _⟩ := h
  have := x.len
  rw [ag_length l] at this
  simpa [hio] using this.symm
theorem fkAt_of {Γ : Sem3} {k : Nat} {e : DefE} (d : DefOk K mg e) (h : ∀ (f : Addr) (oc : Value) (od : Option Addr) (dV kV doc pm : Value) (an : Option Addr) (cdv ct : Value) (osl : Array (Option Value)) (params : Arguments) (qual : Str),
    K.lookup f = some ⟨oc, od, .func (PySem.W.fnOf e.fe.name qual params e.body e.scope dV kV doc pm an cdv ct), osl⟩ → PySem.W.codeIn K cdv qual = true → Fk P w K mg base k f (PySem.W.fnOf e.fe.name qual params e.body e.scope dV kV doc pm an cdv ct) e.fe.ps (spF K Γ e.fe.name e.fe.io)) :
    FkAt P w K mg base Γ k e.fe := by
  obtain ⟨f, oc, od, dV, kV, doc, pm, an, cdv, ct, osl, params, qual, dvs, dus, h1, h2, h3, h4, h5, h6, h7, h8⟩ := d.ex
  exact ⟨f, _, dvs, dus, h f oc od dV kV doc pm an cdv ct osl params qual h1 h2, h3, h4, h5, h6, h7, h8⟩
theorem keep_io {io : List Bool} {σ : St} {vs : List V} {n : Nat} (h : Keep (ioIx 0 io) (vs.map some ++ List.replicate n none) σ) (hl : vs.length = io.length) : ∀ (i : Nat), io[i]? = some true → σ[i]? = (sv vs)[i]? := fun i hi => by
  rw [h i (ioIx_mem.mpr ⟨i, by omega, hi⟩), List.getElem?_append_left (by
    have := (List.getElem?_eq_some_iff.mp hi).1
    rw [List.length_map]
    omega)]
theorem find_uniq : ∀ {D : List DefE} {e : DefE}, (D.map fun e => e.fe.name).Nodup → e ∈ D → D.find? (fun e' => e'.fe.name == e.fe.name) = some e
  | [], e, _, h => by cases h
  | a :: D, e, hn, h => by
    rw [List.map_cons, List.nodup_cons] at hn
    rcases List.mem_cons.mp h with rfl | h
    · simp
    · have : ¬ a.fe.name = e.fe.name := fun z => hn.1 (by rw [z]; exact List.mem_map.mpr ⟨e, h, rfl⟩)
      rw [List.find?_cons_of_neg (by simpa using this)]
      exact find_uniq hn.2 h
theorem fk_zero (D : List DefE) (G : List (Str × PyData)) (wf fuel : Nat) (T : TopOk K mg D G) {e : DefE} (he : e ∈ D) (f : Addr) (fd : FuncData) : Fk P w K mg base 0 f fd e.fe.ps (spF K (Gam D G wf fuel 0) e.fe.name e.fe.io) :=
  ⟨spF_lens (T.defs e he).io, fun A outer s H args us vs Q E hg hr e0 hb r h => by
    obtain ⟨Z, ds, b, r, ds', x, l, g, _⟩ := h
    cases g⟩
theorem fk_step (D : List DefE) (G : List (Str × PyData)) (wf fuel : Nat) (T : TopOk K mg D G) (k : Nat) (tb : ∀ e ∈ D, FkAt P w K mg base (Gam D G wf fuel k) k e.fe) {e : DefE} (he : e ∈ D) (f : Addr) (oc : Value) (od : Option Addr) (dV kV doc pm : Value) (an : Option Addr) (cdv ct : Value) (osl : Array (Option Value)) (params : Arguments) (qual : Str)
    (h1 : K.lookup f = some ⟨oc, od, .func (PySem.W.fnOf e.fe.name qual params e.body e.scope dV kV doc pm an cdv ct), osl⟩) (h2 : PySem.W.codeIn K cdv qual = true) :
    Fk P w K mg base (k + 1) f (PySem.W.fnOf e.fe.name qual params e.body e.scope dV kV doc pm an cdv ct) e.fe.ps (spF K (Gam D G wf fuel (k + 1)) e.fe.name e.fe.io) := by
  have S := (T.defs e he).sc
  have hio := (T.defs e he).io
  refine fk_of h1 h2 S (spF_lens hio) fun A outer s H vs Q E hg hr h => ?_
  obtain ⟨Z, ds, b, r, ds', x, l, g, l2, q⟩ := h
  have hvl : vs.length = e.fe.io.length := by
    have := x.len
    rw [ag_length l] at this
    simpa using this.symm
  simp only [Gam, find_uniq T.uniq he, Option.bind_some, l, if_true] at g
  generalize hC : ctxOf (D.map (·.fe)) G wf (Gam D G wf fuel k) e = C at g
  have hCN : C.N = e.N := by rw [← hC]; rfl
  have hCio : C.io = ioIx 0 e.fe.io := by rw [← hC]; rfl
  have F : Fits (cxOf CX0 P w K mg base e.N qual e.scope f cdv A outer s H E).nox C (bkOf e) k := by
    refine ⟨hCN.symm, by rw [hCN]; exact S.nd, rfl, rfl, hr, hg, rfl, fun x hx => ⟨?_, .inl rfl⟩, T.blt, T.btx, ?_, ?_⟩
    · have hx : (match e.scope.names.lookup x with | some .local => true | some .cell => true | _ => false) = true := hx
      split at hx
      · exact .inl (by assumption)
      · exact .inr (by assumption)
      · cases hx
    · rw [← hC]
      intro fe hfe
      obtain ⟨e2, he2, rfl⟩ := List.mem_map.mp hfe
      exact tb e2 he2
    · rw [← hC]
      exact T.glb
  refine ⟨_, st_stmts ((all_ok C k fuel).2 _ _ F) e.body, ?_⟩
  unfold runDef at g
  obtain ⟨o, g1, g⟩ := bind_some g
  have hst : start e.N vs = sv vs ++ List.replicate (C.N.length - ds.length) none := by
    unfold L2.start
    rw [hCN, l, hvl]
  have s0 := (x.ext (C.N.length - ds.length)).push
  rw [own_ext, ← hst] at s0
  refine ⟨_, Z, _, o, s0, g1, ?_⟩
  -- the end of it
  have fin : ∀ {Z' : Addr → Prop} {ρ' : En} {σ' : St} {H' : Hp} {dsf : List PyData}, afterIo 0 e.fe.io ds ρ' = some dsf → Keep C.io (start e.N vs) σ' → (∀ a, Z' a → Z a ∨ H a = none) → Stt K [⟨H, OwnA (ag e.fe.io ds) (sv vs)⟩] Z' ρ' σ' H' →
      Stt K [⟨H, OwnA (ag e.fe.io ds) (sv vs)⟩] Z' (ag e.fe.io dsf) (sv vs) H' ∧ ∀ (Zq : Addr → Prop) (a : Addr), UU (ag e.fe.io dsf) (sv vs) Zq a → UU ρ' σ' Zq a := fun {Z' ρ' σ' H' dsf} ha hk hz y => by
    rw [hCio, hst] at hk
    exact Stt.leave x l y hz ha (keep_io hk hvl)
  have finV : ∀ {ρ' : En} {σ' : St} {H' : Hp} {dsf : List PyData} {b' : Bool} {v : V} {d : PyData}, afterIo 0 e.fe.io ds ρ' = some dsf → Keep C.io (start e.N vs) σ' → Val K [⟨H, OwnA (ag e.fe.io ds) (sv vs)⟩] Z ρ' σ' b' v d H' →
      Val K [⟨H, OwnA (ag e.fe.io ds) (sv vs)⟩] Z (ag e.fe.io dsf) (sv vs) b' v d H' := fun {ρ' σ' H' dsf b' v d} ha hk y => by
    cases b' with
    | false =>
      obtain ⟨y1, y2⟩ := y
      obtain ⟨s1, sub⟩ := fin ha hk (fun a z => .inl z) y1
      exact ⟨s1, y2.mono fun a u => sub Z a u⟩
    | true =>
      obtain ⟨p, rfl, nz, y1, c, hb⟩ := y
      obtain ⟨s1, sub⟩ := fin ha hk (fun a z => z.elim .inl fun z => .inr (z ▸ hb _ List.mem_cons_self)) y1
      exact ⟨p, rfl, nz, s1, c.mono fun a u => u.elim (fun u => .inl (sub Z a u)) .inr, hb⟩
  cases o with
  | nx ρ' =>
    simp only [outD] at g
    obtain ⟨dsf, h3, h4⟩ := map_some g
    cases h4
    exact fun σ' H' y hk => q _ _ (finV h3 hk ⟨y, .non⟩)
  | rt o b' ρ' =>
    cases o with
    | val d =>
      simp only [outD] at g
      obtain ⟨dsf, h3, h4⟩ := map_some g
      cases h4
      exact fun σ' v H' y hk => q _ _ (finV h3 hk y)
    | slot i =>
      simp only [outD] at g
      obtain ⟨hio2, g⟩ := ite_some' g
      split at g
      · rename_i d hd
        obtain ⟨dsf, h3, h4⟩ := map_some g
        cases h4
        refine fun σ' v H' y hk => ?_
        obtain ⟨y1, hv, _⟩ := y
        obtain ⟨p, hv2, c, nz, bb⟩ := y1.ow i r hd
        rw [hv] at hv2
        cases hv2
        have hp : H p = none := by
          rcases bb _ List.mem_cons_self with z | z
          · exfalso
            obtain ⟨j, dj, a1, a2⟩ := z
            obtain ⟨a1, a3⟩ := ag_get.mp a1
            obtain ⟨l1, l2, g2, g3⟩ := afterIo_get h3
            have hjl : j < ds'.length := by rw [l1]; exact (List.getElem?_eq_some_iff.mp a3).1
            have a4 := g2 j _ a1 (List.getElem?_eq_getElem hjl)
            rw [Nat.zero_add] at a4
            have hk' := hk
            rw [hCio, hst] at hk'
            have a5 := keep_io hk' hvl j a1
            have := y1.dis i j _ _ p hd a4 hv (by rw [a5]; exact a2)
            subst this
            have : i ∈ C.io := by rw [hCio]; exact ioIx_mem.mpr ⟨i, by omega, a1⟩
            rw [List.contains_iff_mem.mpr this] at hio2
            cases hio2
          · exact z
        have gv := y1.give hd hv fun b hb => by
          rcases List.mem_cons.mp hb with rfl | hb
          · exact hp
          · cases hb
        have ha2 : afterIo 0 e.fe.io ds (ρ'.set i none) = some ds' := by
          have gen : ∀ (io : List Bool) (ds : List PyData) (j : Nat) (dsf : List PyData), i ∉ ioIx j io → afterIo j io ds ρ' = some dsf → afterIo j io ds (ρ'.set i none) = some dsf := by
            intro io
            induction io with
            | nil => intro ds j dsf h1 h2; cases ds <;> exact h2
            | cons b io ih =>
              intro ds j dsf h1 h2
              cases ds with
              | nil => cases b <;> exact h2
              | cons d0 ds =>
                cases b with
                | true =>
                  simp only [ioIx, List.mem_cons, not_or] at h1
                  simp only [afterIo] at h2 ⊢
                  rw [List.getElem?_set_ne h1.1]
                  split at h2
                  · rename_i hd'
                    obtain ⟨q', e1, e2⟩ := map_some h2
                    rw [hd']
                    simp only [ih _ _ _ h1.2 e1]
                    subst e2
                    rfl
                  · cases h2
                | false =>
                  simp only [ioIx] at h1
                  simp only [afterIo] at h2 ⊢
                  obtain ⟨q', e1, e2⟩ := map_some h2
                  rw [ih _ _ _ h1 e1]
                  subst e2
                  rfl
          refine gen _ _ _ _ (fun z => ?_) h3
          rw [← hCio] at z
          rw [List.contains_iff_mem.mpr z] at hio2
          cases hio2
        refine q _ _ (finV ha2 (hk.trans (Keep.set hio2)) gv)
      · cases g
  | bk ρ' => cases g
  | ct ρ' => cases g
theorem table (D : List DefE) (G : List (Str × PyData)) (wf fuel : Nat) (T : TopOk K mg D G) : ∀ k, ∀ e ∈ D, FkAt P w K mg base (Gam D G wf fuel k) k e.fe
  | 0, e, he => fkAt_of (T.defs e he) fun f oc od dV kV doc pm an cdv ct osl params qual _ _ => fk_zero D G wf fuel T he f _
  | k + 1, e, he => fkAt_of (T.defs e he) (fk_step D G wf fuel T k (table D G wf fuel T k) he)
theorem fk_any (D : List DefE) (G : List (Str × PyData)) (wf fuel : Nat) (T : TopOk K mg D G) (k : Nat) {e : DefE} (he : e ∈ D) (f : Addr) (oc : Value) (od : Option Addr) (dV kV doc pm : Value) (an : Option Addr) (cdv ct : Value) (osl : Array (Option Value)) (params : Arguments) (qual : Str)
    (h1 : K.lookup f = some ⟨oc, od, .func (PySem.W.fnOf e.fe.name qual params e.body e.scope dV kV doc pm an cdv ct), osl⟩) (h2 : PySem.W.codeIn K cdv qual = true) :
    Fk P w K mg base k f (PySem.W.fnOf e.fe.name qual params e.body e.scope dV kV doc pm an cdv ct) e.fe.ps (spF K (Gam D G wf fuel k) e.fe.name e.fe.io) := by
  cases k with
  | zero => exact fk_zero D G wf fuel T he f _
  | succ k => exact fk_step D G wf fuel T k (table D G wf fuel T k) he f oc od dV kV doc pm an cdv ct osl params qual h1 h2
end
end Pf


namespace Pf
open PySem PySem.Spec PySem.W PySem.Calls PyProof.Rows L2

/-! ## the law's call -/
/-- the heap in which the script alone is known -/
def scriptH (a : Addr) (o : Obj) (ns : List Int) : Hp := fun b => if b = a then some (.frz o (.lst (ns.map V.int))) else none
structure Lone (P : Program) (w : World) (K : PySem.W.Frag) (h : Heap) (a : Addr) (ns : List Int) (H : Hp) : Prop where
  hok : HOk P w H h
  off : ∀ b, b ≠ a → H b = none
  mine : H a ≠ none → K.lookup a = none
  form : ∀ u, H a = some u → ∃ o xs, u = .frz o (.lst xs)
  rep : ∀ U : Addr → Prop, (∀ b, ¬ U b) → Rep K H U (.ref a) (scrD (ns.map .int))
theorem lone_ex {P : Program} {w : World} {K : PySem.W.Frag} {h : Heap} {a : Addr} {ns : List Int} {vs : List Value} (KX : K.In h) (ha : h.get? a = some { cls := .type "list", data := .seq vs.toArray }) (hi : IntsAre vs ns) (hl : ns.length ≤ sizeLine) : ∃ H, Lone P w K h a ns H := by
  have rv := vals_ints hi
  cases hk : K.lookup a with
  | none =>
    refine ⟨scriptH a { cls := .type "list", data := .seq vs.toArray } ns, fun b u e => ?_, fun b hb => if_neg hb, fun _ => hk, fun u e => ?_, fun U hU => .scr (.inl ⟨if_pos rfl, hU a⟩)⟩
    · unfold scriptH at e
      split at e
      · rename_i hb
        subst hb
        cases e
        exact ⟨ha, by simpa using hl, vs, _, rv, ha⟩
      · cases e
    · unfold scriptH at e
      rw [if_pos rfl] at e
      cases e
      exact ⟨_, _, rfl⟩
  | some o =>
    have e := KX a o hk
    rw [ha] at e
    cases e
    refine ⟨fun _ => none, fun b u e => ?_, fun b hb => rfl, fun z => (z rfl).elim, fun u e => ?_, fun U hU => .scr (o := { cls := .type "list", data := .seq vs.toArray }) (.inr ?_)⟩
    · have e : (none : Option HO) = some u := e
      cases e
    · have e : (none : Option HO) = some u := e
      cases e
    · have hz : vs.toArray.size ≤ sizeLine := by
        rw [List.size_toArray, hi.length]
        exact hl
      exact .inr ⟨_, vs.toArray, _, hk, rfl, rfl, rfl, hz, rv⟩
theorem call_law {P : Program} {w : World} {K : PySem.W.Frag} {mg mb : Str → Option Value} {k : Nat} {fa a : Addr} {fd : FuncData} {x name : Str} {Γ : Sem3} {s : Shared} {vs : List Value} {ns : List Int} {r0 : Bool} {ds0 : List PyData}
    (KX : K.In s.heap) (hg : s.heap.Ns mainGlobals mg) (hb : s.heap.Ns builtinsNs mb) (hbb : ∀ y : Str, y ≠ "__name__" → mb y = bootBuiltins y) (hlim : s.heap.NoLimit) (hgen : s.gens = #[])
    (ha : s.heap.get? a = some { cls := .type "list", data := .seq vs.toArray }) (hi : IntsAre vs ns) (hl : ns.length ≤ sizeLine) (hr : Room k callerA)
    (F : ∀ base : Heap, K.In base → base.Ns mainGlobals mg → Fk P w K mg base k fa fd [x] (spF K Γ name [false])) (hbind : ∀ u : Value, BindsTo s fd ⟨[u], []⟩ [(x, u)])
    (hΓ : Γ name [scrD (ns.map .int)] = some (r0, .bool true, ds0)) (hds : ds0.length = 1) :
    codeAny (model P w) callerA (.call (.ref fa) ⟨[.ref a], []⟩) (fun r s' => r = .ok (.ret (.bool true)) ∧ OldK s.heap s'.heap ∧ s'.os = s.os ∧ AllBare s'.gens) s := by
  obtain ⟨H, L⟩ := lone_ex (P := P) (w := w) KX ha hi hl
  -- off the script all is as it was
  have dict_off : ∀ (b : Addr) (o : Obj) (es : Array DictEntry) (ep : Nat), s.heap.get? b = some o → o.data = .dict es ep → H b = none := fun b o es ep e d => by
    by_cases hb : b = a
    · subst hb
      rw [ha] at e
      cases e
      cases d
    · exact L.off b hb
  have ns_off : ∀ (b : Addr) (m : Str → Option Value), s.heap.Ns b m → (hidT s.heap H).Ns b m := fun b m z => by
    obtain ⟨o, es, ep, e, d, q⟩ := z
    exact ⟨o, es, ep, hidT_get e (dict_off b o es ep e d), d, q⟩
  have kin : K.In (hidT s.heap H) := fun b o e => hidT_get (KX b o e) (by
    by_cases hb : b = a
    · subst hb
      cases q : H b with
      | none => rfl
      | some u =>
        rw [L.mine (by rw [q]; exact Option.some_ne_none u)] at e
        cases e
    · exact L.off b hb)
  obtain ⟨mc, lim1, lim2⟩ := hlim
  have e0 : Env0 P w K mg (hidT s.heap H) callerA [] s H := by
    refine ⟨rfl, ⟨kin, ns_off _ _ hg, ⟨mb, ns_off _ _ hb, hbb⟩, ⟨mc, ns_off _ _ lim1, lim2⟩⟩, fun b o e => of_hidT e, ?_, trivial, fun b z => ?_, L.hok, .of_eq hgen⟩
    · rw [hidT_size]
      exact Nat.le_refl _
    · cases z
  have x0 : Stt K [] (fun _ => False) (ag [false] [scrD (ns.map .int)]) (sv [.ref a]) H := by
    refine ⟨rfl, fun i d h => ?_, fun i d h => ?_, fun i j d e p h => ?_, fun b z => z.elim, fun b z => by cases z⟩
    · obtain ⟨h1, h2⟩ := ag_get.mp h
      cases i with
      | zero =>
        cases h2
        refine ⟨.ref a, rfl, L.rep _ fun b u => ?_⟩
        rcases u with u | ⟨j, e, u, _⟩
        · exact u
        · obtain ⟨u1, _⟩ := ag_get.mp u
          cases j with
          | zero => cases u1
          | succ j => simp at u1
      | succ i => simp at h1
    · obtain ⟨h1, h2⟩ := ag_get.mp h
      cases i with
      | zero => cases h1
      | succ i => simp at h1
    · obtain ⟨h1, h2⟩ := ag_get.mp h
      cases i with
      | zero => cases h1
      | succ i => simp at h1
  have run := (F _ kin (ns_off _ _ hg)).runs callerA [] s H ⟨[.ref a], []⟩ [.ref a] [.ref a] (fun v _ => v = .bl true) (fun _ _ _ => False) rfl hr e0 (hbind (.ref a)) (.cons rfl .nil)
    ⟨_, _, r0, .bool true, ds0, x0, rfl, hΓ, hds, fun v H' y => by
      cases r0 with
      | false => exact y.2.bl_inv
      | true =>
        obtain ⟨p, _, _, _, c, _⟩ := y
        cases c⟩
  refine codeAny_mono run fun r s' z => ?_
  rcases r with e | fl
  · exact False.elim z
  · cases fl with
    | ret u =>
      obtain ⟨v, H', os, bare, un, hok', rv', q⟩ := z
      have q : v = .bl true := q
      subst q
      have rv' : u = Value.bool true := rv'
      subst rv'
      refine ⟨rfl, OldK.of_keep fun b o e => ?_, os, bare⟩
      cases q : H b with
      | none => exact un.keep b o e q (fun z => by cases z) (fun z => by cases z)
      | some u =>
        have hb : b = a := Classical.byContradiction fun n => by
          rw [L.off b n] at q
          cases q
        subst hb
        obtain ⟨ob, xs, rfl⟩ := L.form u q
        have g1 := (L.hok b _ q).1
        have g2 := (hok' b _ (un.frzs b ob _ q)).1
        rw [e] at g1
        cases g1
        exact g2
    | next => exact False.elim z
    | brk => exact False.elim z
    | cont => exact False.elim z
/-- the law's end: what the top has left, and what the law's def comes to -/
theorem walk_end {l : PySem.W.OpenLaw} {n k : Nat} {q : Program} {loose : List Str} {XP : (Str → Option Value) → Heap → Prop} {YP : World → Heap → Prop} {d : DefRec} {K : Params → PySem.W.Frag} {x : Str} {D : List DefE} {G : List (Str × PyData)} {e : DefE} {wf fuel : Nat}
    (hn : l.most = some n) (hn2 : n ≤ sizeLine) (hdf : d.params.defaults = []) (hr : Room k callerA)
    (hY : ∀ (w : World) (h : Heap), YP w h → (K w.params).In h)
    (T : ∀ (w : World) (mg : Str → Option Value) (fa : Addr) (h : Heap), (K w.params).In h → h.Ns mainGlobals mg → mg d.name = some (.ref fa) → TopOk (K w.params) mg D G)
    (he : e ∈ D) (hname : e.fe.name = d.name) (hps : e.fe.ps = [x]) (hio : e.fe.io = [false]) (hpat : ⟨1, [], [.pos 0]⟩ ∈ e.fe.pats)
    (law : ∀ ns : List Int, ns.length ≤ n → ∃ r0 ds0, Gam D G wf fuel k e.fe.name [scrD (ns.map .int)] = some (r0, .bool true, ds0) ∧ ds0.length = 1) :
    PySem.W.WalkO q loose XP YP l.row.toRowW d [] (fun f vs => PySem.call f vs) := by
  refine Att.attach_call hn hdf fun w s₀ s mg mb fa o pm cd doc a vs ns G0 Y ho hd hcd hmg hobj hints hlen hg => ?_
  have KX := hY w _ Y
  have TT := T w mg fa _ KX G0.T.g hmg
  obtain ⟨r0, ds0, h1, h2⟩ := law ns hlen
  obtain ⟨f, oc, od, dV, kV, doc', pm', an, cdv, ct, osl, params, qual, dvs, dus, b1, b2, b3, b4, b5, b6, b7, b8⟩ := (TT.defs e he).ex
  rw [hname, hmg] at b3
  cases b3
  have F : ∀ base : Heap, (K w.params).In base → base.Ns mainGlobals mg → Fk l.prog w (K w.params) mg base k fa (PySem.W.fnOf e.fe.name qual params e.body e.scope dV kV doc' pm' an cdv ct) [x] (spF (K w.params) (Gam D G wf fuel k) e.fe.name [false]) := fun base kb nb => by
    have := fk_any (P := l.prog) (w := w) (base := base) D G wf fuel TT k he fa oc od dV kV doc' pm' an cdv ct osl params qual b1 b2
    rw [hps, hio] at this
    exact this
  refine call_law KX G0.T.g G0.T.b G0.T.builtins G0.T.nolimit hg hobj hints (Nat.le_trans hlen hn2) hr F (fun u => ?_) h1 h2
  obtain ⟨full, c1, c2⟩ := b8 _ hpat s [u] [] KX rfl rfl
  cases c1
  rw [hps] at c2
  exact c2
end Pf


namespace Pf
open PySem PySem.Spec L2

/-! ## the texts' meaning, names resolved -/
abbrev Ex := En → Option (Opn × Bool × En)
abbrev Tx := En → Option (Bool × En)
abbrev Vx := En → Option (Bool × PyData × En)
abbrev Sx := En → Option Out
def xC (d : PyData) (ρ : En) : Option (Opn × Bool × En) := some (.val d, false, ρ)
def xS (i : Nat) (ρ : En) : Option (Opn × Bool × En) := match ρ[i]? with
  | some (some (true, _)) => some (.slot i, false, ρ)
  | some (some (false, d)) => some (.val d, false, ρ)
  | _ => none
def xV (io : List Nat) (f : Ex) (ρ : En) : Option (Bool × PyData × En) := (f ρ).bind fun r => match r.1 with
  | .val d => some (r.2.1, d, r.2.2)
  | .slot i => if io.contains i then none else match r.2.2[i]? with
    | some (some (_, d)) => some (false, d, frz r.2.2 i)
    | _ => none
def xVs : List Vx → En → Option (List PyData × En)
  | [], ρ => some ([], ρ)
  | f :: fs, ρ => (f ρ).bind fun r => (xVs fs r.2.2).bind fun q => some (r.2.1 :: q.1, q.2)
def xOs : List Ex → En → Option (List Opn × En)
  | [], ρ => some ([], ρ)
  | f :: fs, ρ => (f ρ).bind fun r => (xOs fs r.2.2).bind fun q => some (r.1 :: q.1, q.2)
def xBin (op : Operator) (f g : Ex) (ρ : En) : Option (Opn × Bool × En) := (f ρ).bind fun r => (g r.2.2).bind fun q => (rdO q.2.2 r.1).bind fun x => (rdO q.2.2 q.1).bind fun y => (binD op x y).bind fun d => some (resD q.2.2 d)
def xUn (op : UnaryOp) (f : Ex) (ρ : En) : Option (Opn × Bool × En) := (f ρ).bind fun r => (rdO r.2.2 r.1).bind fun x => (unD op x).bind fun d => some (resD r.2.2 d)
def xIf (t : Tx) (f g : Ex) (ρ : En) : Option (Opn × Bool × En) := (t ρ).bind fun r => if r.1 then f r.2 else g r.2
def xTup (fs : List Vx) (ρ : En) : Option (Opn × Bool × En) := (xVs fs ρ).bind fun q => if q.1.length ≤ sizeLine then some (.val (.tuple q.1), false, q.2) else none
def xLst (fs : List Vx) (ρ : En) : Option (Opn × Bool × En) := (xVs fs ρ).bind fun q => if q.1.length ≤ sizeLine then some (.val (.list q.1), true, q.2) else none
def xIx (f g : Ex) (ρ : En) : Option (Opn × Bool × En) := (f ρ).bind fun r => (g r.2.2).bind fun q => (rdO q.2.2 r.1).bind fun x => (rdO q.2.2 q.1).bind fun y => (idxD x y).bind fun d => some (.val d, false, q.2.2)
def xPt : Option Ex → En → Option (Option Int × En)
  | none, ρ => some (none, ρ)
  | some f, ρ => (f ρ).bind fun r => match r.1 with
    | .val (.int i) => some (some i, r.2.2)
    | _ => none
def xCut (f : Ex) (lo hi : Option Ex) (ρ : En) : Option (Opn × Bool × En) := (f ρ).bind fun r => (xPt lo r.2.2).bind fun l => (xPt hi l.2).bind fun h => (rdO h.2 r.1).bind fun d => (cutD d l.1 h.1).bind fun z => some (resD h.2 z)
def xAnd : List Ex → Ex
  | [], _ => none
  | [f], ρ => f ρ
  | f :: fs, ρ => (f ρ).bind fun r => (rdO r.2.2 r.1).bind fun d => (truthD d).bind fun k => if k then xAnd fs r.2.2 else some r
def xOr : List Ex → Ex
  | [], _ => none
  | [f], ρ => f ρ
  | f :: fs, ρ => (f ρ).bind fun r => (rdO r.2.2 r.1).bind fun d => (truthD d).bind fun k => if !k then xOr fs r.2.2 else some r
def tAn : List Tx → Tx
  | [], _ => none
  | [f], ρ => f ρ
  | f :: fs, ρ => (f ρ).bind fun r => if r.1 then tAn fs r.2 else some r
def tOrr : List Tx → Tx
  | [], _ => none
  | [f], ρ => f ρ
  | f :: fs, ρ => (f ρ).bind fun r => if !r.1 then tOrr fs r.2 else some r
def tNt (f : Tx) (ρ : En) : Option (Bool × En) := (f ρ).bind fun r => some (!r.1, r.2)
def tC1 (op : CmpOp) (f g : Ex) (ρ : En) : Option (Bool × En) := (f ρ).bind fun r => (g r.2.2).bind fun q => (rdO q.2.2 r.1).bind fun x => (rdO q.2.2 q.1).bind fun y => (cmpD op x y).bind fun k => some (k, q.2.2)
def tCC (op op' : CmpOp) (f g h : Vx) (ρ : En) : Option (Bool × En) := (f ρ).bind fun r => (g r.2.2).bind fun q => (cmpD op r.2.1 q.2.1).bind fun k =>
  if k then (h q.2.2).bind fun z => (cmpD op' q.2.1 z.2.1).bind fun k' => some (k', z.2.2) else some (false, q.2.2)
def tX (f : Ex) (ρ : En) : Option (Bool × En) := (f ρ).bind fun r => (rdO r.2.2 r.1).bind fun d => (truthD d).bind fun k => some (k, r.2.2)
def xT (t : Tx) (ρ : En) : Option (Opn × Bool × En) := (t ρ).bind fun r => some (.val (.bool r.1), false, r.2)
def xBi (b : Bi) (fs : List Ex) (ρ : En) : Option (Opn × Bool × En) := (xOs fs ρ).bind fun q => (rdOs q.2 q.1).bind fun ds => (biD b ds).bind fun d => some (resD q.2 d)
def xIsi (t : Str) (f : Ex) (ρ : En) : Option (Opn × Bool × En) := (f ρ).bind fun r => (rdO r.2.2 r.1).bind fun d => if notDictD d then (isiT d t).bind fun k => some (.val (.bool k), false, r.2.2) else none
def xMut (m : Str) (f : Ex) (fs : List Vx) (ρ : En) : Option (Opn × Bool × En) := (f ρ).bind fun r => match r.1 with
  | .slot i => match r.2.2[i]? with
    | some (some (true, .list _)) => (xVs fs r.2.2).bind fun q => match q.2[i]? with
      | some (some (true, d)) => (mutD m d q.1).bind fun z => some (.val z.2, false, q.2.set i (some (true, z.1)))
      | _ => none
    | _ => none
  | _ => none
def xMet (m : Str) (f : Ex) (fs : List Ex) (ρ : En) : Option (Opn × Bool × En) := (f ρ).bind fun r => match r.1 with
  | .val d => (xOs fs r.2.2).bind fun q => (rdOs q.2 q.1).bind fun ds => (metD m d ds).bind fun z => some (resD q.2 z)
  | _ => none
inductive Ag where
  | mine (f : Ex) | shr (f : Vx)
def xAgs : List Ag → En → Option (List Opn × En)
  | [], ρ => some ([], ρ)
  | .mine f :: fs, ρ => (f ρ).bind fun r => match r.1 with
    | .slot i => (xAgs fs r.2.2).bind fun q => some (.slot i :: q.1, q.2)
    | _ => none
  | .shr f :: fs, ρ => (f ρ).bind fun r => (xAgs fs r.2.2).bind fun q => some (.val r.2.1 :: q.1, q.2)
def xCall (Γ : Sem3) (name : Str) (dfl : List PyData) (src : List Src) (as : List Ag) (ks : List Vx) (ρ : En) : Option (Opn × Bool × En) :=
  (xAgs as ρ).bind fun q => (xVs ks q.2).bind fun z => (rdOs z.2 q.1).bind fun us => (arr us z.1 dfl src).bind fun full =>
  if nodupB (slotsOf q.1) && ownAll q.1 z.2 then (Γ name full).bind fun r => if r.2.2.length = full.length then some (.val r.2.1, r.1, putBack z.2 q.1 r.2.2) else none else none
def xRng (fs : List Ex) (ρ : En) : Option (List PyData × En) := (xOs fs ρ).bind fun q => (rdOs q.2 q.1).bind fun ds => (rangeD ds).bind fun xs => some (xs, q.2)
def xIt (f : Vx) (ρ : En) : Option (List PyData × En) := (f ρ).bind fun r => (itemsD r.2.1).bind fun xs => some (xs, r.2.2)
def g1 (i : Nat) (d : PyData) (ρ : En) : Option En := some (ρ.set i (some (false, d)))
def setsD : List Nat → List PyData → En → Option En
  | [], [], ρ => some ρ
  | i :: is, d :: ds, ρ => setsD is ds (ρ.set i (some (false, d)))
  | _, _, _ => none
def gN' (is : List Nat) (d : PyData) (ρ : En) : Option En := (seqD d).bind fun xs => setsD is xs ρ
def tTr (ρ : En) : Option (Bool × En) := some (true, ρ)
def xLcL (is : List Nat) (it : En → Option (List PyData × En)) (g : PyData → En → Option En) (t : Tx) (v : Vx) (ρ : En) : Option (List PyData × En) :=
  (it ρ).bind fun r => (lcG g t v is r.1 [] (wipeE (frzs r.2 is) is)).bind fun q => some (q.1, backE (frzs r.2 is) q.2 is)
def xLc (is : List Nat) (it : En → Option (List PyData × En)) (g : PyData → En → Option En) (t : Tx) (v : Vx) (ρ : En) : Option (Opn × Bool × En) := (xLcL is it g t v ρ).bind fun q => some (.val (.list q.1), true, q.2)
/-! statements -/
def kSq : List Sx → Sx
  | [], ρ => some (.nx ρ)
  | s :: ss, ρ => (s ρ).bind fun r => match r with
    | .nx ρ1 => kSq ss ρ1
    | r => some r
def kNx (ρ : En) : Option Out := some (.nx ρ)
def kBk (ρ : En) : Option Out := some (.bk ρ)
def kCt (ρ : En) : Option Out := some (.ct ρ)
def kEx (f : Ex) (ρ : En) : Option Out := (f ρ).bind fun r => some (.nx r.2.2)
def kRtN (ρ : En) : Option Out := some (.rt (.val .none) false ρ)
def kRt (io : List Nat) (f : Ex) (ρ : En) : Option Out := (f ρ).bind fun r => match r.1 with
  | .slot i => if io.contains i then none else some (.rt r.1 false r.2.2)
  | .val _ => some (.rt r.1 r.2.1 r.2.2)
def kIf (t : Tx) (a b : List Sx) (ρ : En) : Option Out := (t ρ).bind fun r => if r.1 then kSq a r.2 else kSq b r.2
def kWh (w : Nat) (t : Tx) (b : List Sx) (ρ : En) : Option Out := whileD t (kSq b) w ρ
def kLoop (g : PyData → En → Option En) (b : List Sx) (xs : List PyData) (ρ : En) : Option Out := forD g (kSq b) xs ρ
def kFor (it : En → Option (List PyData × En)) (g : PyData → En → Option En) (b : List Sx) (ρ : En) : Option Out := (it ρ).bind fun r => kLoop g b r.1 r.2
def kSet (i : Nat) (f : Vx) (ρ : En) : Option Out := (f ρ).bind fun r => some (.nx (r.2.2.set i (some (r.1, r.2.1))))
def kSetL (i : Nat) (f : En → Option (List PyData × En)) (ρ : En) : Option Out := (f ρ).bind fun q => some (.nx (q.2.set i (some (true, .list q.1))))
def kPar (i j : Nat) (f g : Vx) (ρ : En) : Option Out := (xVs [f, g] ρ).bind fun q => match q.1 with
  | [d, d'] => some (.nx ((q.2.set i (some (false, d))).set j (some (false, d'))))
  | _ => none
def kTup (g : PyData → En → Option En) (f : Vx) (ρ : En) : Option Out := (f ρ).bind fun r => (g r.2.1 r.2.2).bind fun ρ1 => some (.nx ρ1)
def kSub (f g : Ex) (v : Vx) (ρ : En) : Option Out := (v ρ).bind fun r => (f r.2.2).bind fun z => match z.1 with
  | .slot j => (g z.2.2).bind fun q => (rdO q.2.2 q.1).bind fun k => match q.2.2[j]? with
    | some (some (true, d)) => (setIx d k r.2.1).bind fun d' => some (.nx (q.2.2.set j (some (true, d'))))
    | _ => none
  | _ => none
def kAug (i : Nat) (op : Operator) (f : Ex) (ρ : En) : Option Out := match ρ[i]? with
  | some (some (false, .int a)) => (f ρ).bind fun r => match r.1 with
    | .val (.int b) => (augD op a b).bind fun z => some (.nx (r.2.2.set i (some (false, .int z))))
    | _ => none
  | _ => none
theorem kLoop_nil {g : PyData → En → Option En} {b : List Sx} {ρ : En} : kLoop g b [] ρ = some (.nx ρ) := rfl
theorem kLoop_cons {g : PyData → En → Option En} {b : List Sx} {x : PyData} {xs : List PyData} {ρ : En} : kLoop g b (x :: xs) ρ = (g x ρ).bind fun ρ0 => (kSq b ρ0).bind fun q => match q with
      | .nx ρ1 => kLoop g b xs ρ1
      | .ct ρ1 => kLoop g b xs ρ1
      | .bk ρ1 => some (.nx ρ1)
      | .rt o k ρ1 => some (.rt o k ρ1) := rfl
theorem kWh_zero {t : Tx} {b : List Sx} {ρ : En} : kWh 0 t b ρ = none := rfl
theorem kWh_succ {t : Tx} {b : List Sx} {w : Nat} {ρ : En} : kWh (w + 1) t b ρ = (t ρ).bind fun r => if r.1 then (kSq b r.2).bind fun q => match q with
      | .nx ρ1 => kWh w t b ρ1
      | .ct ρ1 => kWh w t b ρ1
      | .bk ρ1 => some (.nx ρ1)
      | .rt o k ρ1 => some (.rt o k ρ1)
    else some (.nx r.2) := rfl
/-- what is bound waits (from above: simp only [↓bind_m]) -/
theorem bind_m {α β : Type} (x : Option α) (f : α → Option β) : x.bind f = match x with | some a => f a | none => none := by cases x <;> rfl
def outI (cio : List Nat) (io : List Bool) (ds : List PyData) (r : Out) : Option (Bool × PyData × List PyData) :=
  match r with
  | .nx ρ => (afterIo 0 io ds ρ).map fun ds' => (false, .none, ds')
  | .rt (.val d) b ρ => (afterIo 0 io ds ρ).map fun ds' => (b, d, ds')
  | .rt (.slot i) _ ρ => if cio.contains i then none else match ρ[i]? with
    | some (some (true, d)) => (afterIo 0 io ds ρ).map fun ds' => (true, d, ds')
    | _ => none
  | _ => none
end Pf


namespace Pf
open PySem PySem.Spec L2

/-! ## plain tools -/
theorem eqD_int (a b : Int) : eqD (.int a) (.int b) = some (decide (a = b)) := by
  simp [eqD, PyData.plain, depOk, PyData.depth, PyData.eqv]
  rw [Bool.eq_iff_iff]
  simp
theorem eqD_str (a b : Str) : eqD (.str a) (.str b) = some (decide (a = b)) := by
  simp [eqD, PyData.plain, depOk, PyData.depth, PyData.eqv]
  rw [Bool.eq_iff_iff]
  simp
theorem eqD_bool (a b : Bool) : eqD (.bool a) (.bool b) = some (decide (a = b)) := by
  cases a <;> cases b <;> decide
theorem ltD_int (a b : Int) : ltD (.int a) (.int b) = some (decide (a < b)) := by
  simp [ltD, PyData.plain, depOk, PyData.depth, PySem.W.alike, isNoneD, PySem.W.dataLt_int]
theorem le_int (a b : Int) : (!PySem.W.dataLt (.int b) (.int a)) = decide (a ≤ b) := by
  rw [PySem.W.dataLt_int]
  by_cases h : a ≤ b
  · simp [h, Int.not_lt.mpr h]
  · simp [h, Int.not_le.mp h]
mutual
/-- how long a datum's text may be -/
def wt : PyData → Nat
  | .none => 4
  | .bool _ => 5
  | .int _ => 1922
  | .str x => 10 * x.length + 2
  | .list xs => 2 + wtAll xs
  | .tuple xs => 3 + wtAll xs
  | .dict _ => 0
def wtAll : List PyData → Nat
  | [] => 0
  | x :: xs => wt x + 2 + wtAll xs
end
mutual
/-- no dicts, no strange signs -/
def lowD : PyData → Bool
  | .str x => x.cps.toList.all fun c => decide (c < 16 ^ 8)
  | .list xs => lowAll xs
  | .tuple xs => lowAll xs
  | .dict _ => false
  | _ => true
def lowAll : List PyData → Bool
  | [] => true
  | x :: xs => lowD x && lowAll xs
end
theorem listText_le : ∀ ts : List Str, (listText ts).length ≤ 2 + piled ts
  | [] => by decide
  | t :: ts => by
    have h : (listText (t :: ts)).length = (textFrom 1 (("[" : Str) ++ ("" : Str) ++ t) ts).length + 1 := by
      show (textFrom 1 _ ts ++ ("]" : Str)).length = _
      rw [Str.length_append]
      rfl
    rw [h, textFrom_length_pos _ _ _ (by decide), Str.length_append, Str.length_append]
    have : piled (t :: ts) = (t.length + 2) + piled ts := piled_cons t ts
    have e1 : (("[" : Str)).length = 1 := by decide
    have e2 : (("" : Str)).length = 0 := by decide
    omega
theorem tupleText_le : ∀ ts : List Str, (tupleText ts).length ≤ 3 + piled ts
  | [] => by decide
  | t :: ts => by
    have h := join_length_add (t :: ts) (by simp)
    have h1 : (tupleText (t :: ts)).length = ((("(" : Str)).length + (Str.join ", " (t :: ts)).length) + (Str.ofString (if ((t :: ts).length == 1) = true then ",)" else ")")).length := by
      unfold tupleText
      rw [Str.length_append, Str.length_append]
    have e1 : (("(" : Str)).length = 1 := by decide
    have e2 : (Str.ofString (if ((t :: ts).length == 1) = true then ",)" else ")")).length ≤ 2 := by
      split <;> decide
    omega
mutual
theorem shown_le : ∀ d : PyData, d.showable = true → lowD d = true → d.shown.length ≤ wt d
  | .none, _, _ => by decide
  | .bool b, _, _ => by cases b <;> decide
  | .int i, h, _ => by
    have h : i.natAbs.log2 < 1920 := by simpa [PyData.showable] using h
    have := int_text_length_le (by decide) h
    have e : (Str.ofString (toString i)).length = (toString i).length := PySem.ofString_length _
    show (Str.ofString (toString i)).length ≤ 1922
    omega
  | .str x, _, h => by
    have h : ∀ c ∈ x.cps.toList, c < 16 ^ 8 := fun c hc => of_decide_eq_true (List.all_eq_true.mp (show (x.cps.toList.all fun c => decide (c < 16 ^ 8)) = true from h) c hc)
    exact PySem.StrLaws.reprText_len x h
  | .list xs, h, l => by
    have := showns_le xs (by simpa [PyData.showable] using h) (by simpa [lowD] using l)
    have h2 := listText_le (PyData.shownAll xs)
    show (listText (PyData.shownAll xs)).length ≤ 2 + wtAll xs
    omega
  | .tuple xs, h, l => by
    have := showns_le xs (by simpa [PyData.showable] using h) (by simpa [lowD] using l)
    have h2 := tupleText_le (PyData.shownAll xs)
    show (tupleText (PyData.shownAll xs)).length ≤ 3 + wtAll xs
    omega
  | .dict _, _, l => by simp [lowD] at l
theorem showns_le : ∀ ds : List PyData, PyData.showableAll ds = true → lowAll ds = true → piled (PyData.shownAll ds) ≤ wtAll ds
  | [], _, _ => by decide
  | d :: ds, h, l => by
    simp only [PyData.showableAll, Bool.and_eq_true] at h
    simp only [lowAll, Bool.and_eq_true] at l
    have h1 := shown_le d h.1 l.1
    have h2 := showns_le ds h.2 l.2
    have : piled (PyData.shownAll (d :: ds)) = (d.shown.length + 2) + piled (PyData.shownAll ds) := by rw [PyData.shownAll, piled_cons]
    simp only [wtAll]
    omega
end
theorem reprOk_of {d : PyData} (h1 : d.showable = true) (h2 : d.plain = true) (h3 : d.depth ≤ 60) (h4 : lowD d = true) (h5 : wt d ≤ sizeLine) : reprOk d = true := by
  have := shown_le d h1 h4
  simp [reprOk, h1, h2, h3]
  omega
theorem ixN_zero (n : Nat) : ixN n 0 = if 0 < n then some 0 else none := by
  simp [ixN]
theorem ixN_nat (n k : Nat) : ixN n (k : Int) = if k < n then some k else none := by
  unfold ixN
  rw [if_pos (by omega)]
  by_cases h : k < n
  · rw [if_pos h, if_pos (by omega)]
    rfl
  · rw [if_neg h, if_neg (by omega)]
theorem ixN_1 (n : Nat) : ixN n 1 = if 1 < n then some 1 else none := ixN_nat n 1
theorem ixN_2 (n : Nat) : ixN n 2 = if 2 < n then some 2 else none := ixN_nat n 2
theorem ixN_3 (n : Nat) : ixN n 3 = if 3 < n then some 3 else none := ixN_nat n 3
theorem ixN_4 (n : Nat) : ixN n 4 = if 4 < n then some 4 else none := ixN_nat n 4
theorem ixN_5 (n : Nat) : ixN n 5 = if 5 < n then some 5 else none := ixN_nat n 5
theorem ixN_6 (n : Nat) : ixN n 6 = if 6 < n then some 6 else none := ixN_nat n 6
theorem ixN_7 (n : Nat) : ixN n 7 = if 7 < n then some 7 else none := ixN_nat n 7
theorem ixN_8 (n : Nat) : ixN n 8 = if 8 < n then some 8 else none := ixN_nat n 8
theorem ixN_9 (n : Nat) : ixN n 9 = if 9 < n then some 9 else none := ixN_nat n 9
theorem ixN_10 (n : Nat) : ixN n 10 = if 10 < n then some 10 else none := ixN_nat n 10
theorem ixN_11 (n : Nat) : ixN n 11 = if 11 < n then some 11 else none := ixN_nat n 11
theorem ixN_12 (n : Nat) : ixN n 12 = if 12 < n then some 12 else none := ixN_nat n 12
theorem ixN_neg (n k : Nat) (h : 0 < k) : ixN n (-(k : Int)) = if k ≤ n then some (n - k) else none := by
  unfold ixN
  rw [if_neg (by omega)]
  by_cases h : k ≤ n
  · rw [if_pos h, if_pos (by omega)]
    congr 1
    omega
  · rw [if_neg h, if_neg (by omega)]
theorem ixN_m1 (n : Nat) : ixN n (-1) = if 1 ≤ n then some (n - 1) else none := ixN_neg n 1 (by decide)
theorem ixN_m2 (n : Nat) : ixN n (-2) = if 2 ≤ n then some (n - 2) else none := ixN_neg n 2 (by decide)
theorem eqD_int' (a b : Int) : eqD (.int a) (.int b) = some (decide (a = b)) := eqD_int a b
/-- Euclid's way, in whatever slots -/
theorem euclid {t : Tx} {b : List Sx} (f : Int → Int → En) (hz : ∀ (a : Nat) (w : Nat), kWh (w + 1) t b (f a 0) = some (.nx (f a 0)))
    (hs : ∀ (a c : Nat) (w : Nat), c ≠ 0 → kWh (w + 1) t b (f a c) = kWh w t b (f c ((a : Int).fmod (c : Int)))) : ∀ (m a c : Nat), c < 2 ^ m → ∀ w, 2 * m + 1 ≤ w → kWh w t b (f a c) = some (.nx (f (Nat.gcd a c) 0))
  | 0, a, c, hc, w, hw => by
    obtain rfl : c = 0 := by simpa using hc
    obtain ⟨w, rfl⟩ : ∃ v, w = v + 1 := ⟨w - 1, by omega⟩
    rw [Nat.gcd_zero_right]
    exact hz _ _
  | m + 1, a, c, hc, w, hw => by
    obtain ⟨w, rfl⟩ : ∃ v, w = v + 1 := ⟨w - 1, by omega⟩
    by_cases h0 : c = 0
    · subst h0
      rw [Nat.gcd_zero_right]
      exact hz _ _
    · have e1 : (a : Int).fmod (c : Int) = ((a % c : Nat) : Int) := by rw [Int.fmod_eq_emod_of_nonneg _ (by omega)]; rfl
      rw [hs _ _ _ (by omega), e1]
      obtain ⟨w, rfl⟩ : ∃ v, w = v + 1 := ⟨w - 1, by omega⟩
      have g1 : Nat.gcd a c = Nat.gcd c (a % c) := by rw [Nat.gcd_comm a c, Nat.gcd_rec c a, Nat.gcd_comm]
      by_cases h1 : a % c = 0
      · rw [g1, h1, Nat.gcd_zero_right]
        exact hz _ _
      · have e2 : (c : Int).fmod ((a % c : Nat) : Int) = ((c % (a % c) : Nat) : Int) := by rw [Int.fmod_eq_emod_of_nonneg _ (by omega)]; rfl
        rw [hs _ _ _ (by omega), e2]
        have g2 : Nat.gcd c (a % c) = Nat.gcd (a % c) (c % (a % c)) := by rw [Nat.gcd_comm c, Nat.gcd_rec (a % c) c, Nat.gcd_comm]
        rw [g1, g2]
        refine euclid f hz hs m _ _ ?_ w (by omega)
        have l1 : a % c < c := Nat.mod_lt _ (by omega)
        have l2 : c % (a % c) < a % c := Nat.mod_lt _ (by omega)
        have l3 := Nat.div_add_mod c (a % c)
        have l4 : 1 ≤ c / (a % c) := Nat.div_pos (by omega) (by omega)
        have l5 : a % c * 1 ≤ a % c * (c / (a % c)) := Nat.mul_le_mul_left _ l4
        rw [Nat.pow_succ] at hc
        omega
end Pf


namespace K30
open PySem PySem.Spec L2 Pf
/-! ### the text by places -/
def tp (i : Nat) : Stmt := PySem.Challenge.pw_pairfolds_k30_shares_reckoned.main.body.getD i (.Pass ⟨0, 0, 0, 0⟩)
def e0 : DefE := ⟨⟨"common", ["one", "other"], [false, false], [⟨2, [], [.pos 0, .pos 1]⟩], []⟩, ["one", "other"], defScope (tp 1), defBody (tp 1)⟩
def e1 : DefE := ⟨⟨"share_of", ["top", "bottom"], [false, false], [⟨2, [], [.pos 0, .pos 1]⟩, ⟨1, [], [.pos 0, .dfl 0]⟩, ⟨0, ["top", "bottom"], [.kw 0, .kw 1]⟩], [.int (1)]⟩, ["top", "bottom", "by"], defScope (tp 2), defBody (tp 2)⟩
def e2 : DefE := ⟨⟨"plus", ["share", "other"], [false, false], [⟨2, [], [.pos 0, .pos 1]⟩, ⟨0, ["share", "other"], [.kw 0, .kw 1]⟩], []⟩, ["share", "other"], defScope (tp 3), defBody (tp 3)⟩
def e3 : DefE := ⟨⟨"times", ["share", "other"], [false, false], [⟨2, [], [.pos 0, .pos 1]⟩, ⟨0, ["share", "other"], [.kw 0, .kw 1]⟩], []⟩, ["share", "other"], defScope (tp 4), defBody (tp 4)⟩
def e4 : DefE := ⟨⟨"over", ["share", "other"], [false, false], [⟨2, [], [.pos 0, .pos 1]⟩, ⟨0, ["share", "other"], [.kw 0, .kw 1]⟩], []⟩, ["share", "other"], defScope (tp 5), defBody (tp 5)⟩
def e5 : DefE := ⟨⟨"_law_pen", ["_law_script"], [false], [⟨1, [], [.pos 0]⟩], []⟩, ["_law_script"], defScope (tp 7), defBody (tp 7)⟩
def e6 : DefE := ⟨⟨"_law_take", ["_law_pen_here", "_law_many"], [true, false], [⟨2, [], [.pos 0, .pos 1]⟩], []⟩, ["_law_pen_here", "_law_many", "_law_digit", "_law_turn", "_law_cell", "_law_whole", "_law_stirred"], defScope (tp 8), defBody (tp 8)⟩
def e7 : DefE := ⟨⟨"_law_short", ["_law_up", "_law_down"], [false, false], [⟨2, [], [.pos 0, .pos 1]⟩], []⟩, ["_law_up", "_law_down", "_law_one", "_law_two"], defScope (tp 9), defBody (tp 9)⟩
def e8 : DefE := ⟨⟨"_law_number", ["_law_pen_here"], [true], [⟨1, [], [.pos 0]⟩], []⟩, ["_law_pen_here", "_law_far", "_law_some"], defScope (tp 10), defBody (tp 10)⟩
def e9 : DefE := ⟨⟨"_law_pair_right", ["_law_one", "_law_two"], [false, false], [⟨2, [], [.pos 0, .pos 1]⟩], []⟩, ["_law_one", "_law_two", "_law_due", "_law_found", "_law_named"], defScope (tp 11), defBody (tp 11)⟩
def e10 : DefE := ⟨⟨"law", ["_law_script"], [false], [⟨1, [], [.pos 0]⟩], []⟩, ["_law_script", "_law_pen_here", "_law_shares_made", "_law_turn", "_law_up", "_law_down", "_law_due", "_law_one", "_law_two", "_law_kept"], defScope (tp 12), defBody (tp 12)⟩
def D : List DefE := [e0, e1, e2, e3, e4, e5, e6, e7, e8, e9, e10]
def G0 : List (Str × PyData) := []
/-! ### what the top has left -/
theorem all_mk {K : PySem.W.Frag} {h : Heap} {mg : Str → Option Value} (X : K.In h) (G : h.Ns mainGlobals mg)
    {f0 : Addr} {od0 an0 : Option Addr} {sl0 : Array (Option Value)} {oc0 kV0 dc0 pm0 cd0 ct0 : Value}
    {f1 : Addr} {od1 an1 : Option Addr} {sl1 : Array (Option Value)} {oc1 kV1 dc1 pm1 cd1 ct1 : Value} {t1 : Addr} {oo1 : Option Addr} {os1 : Array (Option Value)} {ot1 : Value} {on1 : Nat} {k1_0 : Tok}
    {f2 : Addr} {od2 an2 : Option Addr} {sl2 : Array (Option Value)} {oc2 kV2 dc2 pm2 cd2 ct2 : Value}
    {f3 : Addr} {od3 an3 : Option Addr} {sl3 : Array (Option Value)} {oc3 kV3 dc3 pm3 cd3 ct3 : Value}
    {f4 : Addr} {od4 an4 : Option Addr} {sl4 : Array (Option Value)} {oc4 kV4 dc4 pm4 cd4 ct4 : Value}
    {f5 : Addr} {od5 an5 : Option Addr} {sl5 : Array (Option Value)} {oc5 kV5 dc5 pm5 cd5 ct5 : Value}
    {f6 : Addr} {od6 an6 : Option Addr} {sl6 : Array (Option Value)} {oc6 kV6 dc6 pm6 cd6 ct6 : Value}
    {f7 : Addr} {od7 an7 : Option Addr} {sl7 : Array (Option Value)} {oc7 kV7 dc7 pm7 cd7 ct7 : Value}
    {f8 : Addr} {od8 an8 : Option Addr} {sl8 : Array (Option Value)} {oc8 kV8 dc8 pm8 cd8 ct8 : Value}
    {f9 : Addr} {od9 an9 : Option Addr} {sl9 : Array (Option Value)} {oc9 kV9 dc9 pm9 cd9 ct9 : Value}
    {f10 : Addr} {od10 an10 : Option Addr} {sl10 : Array (Option Value)} {oc10 kV10 dc10 pm10 cd10 ct10 : Value}
    (a0 : PySem.W.nsIn K mainGlobals "common" = some (some (.ref f0)))
    (l0 : K.lookup f0 = some ⟨oc0, od0, .func (PySem.W.fnOf "common" "common" (defArgs (tp 1)) (defBody (tp 1)) (defScope (tp 1)) .none kV0 dc0 pm0 an0 cd0 ct0), sl0⟩)
    (c0 : PySem.W.codeIn K cd0 "common" = true)
    (q0 : PySem.W.keepIn K (.ref f0) = true)
    (a1 : PySem.W.nsIn K mainGlobals "share_of" = some (some (.ref f1)))
    (l1 : K.lookup f1 = some ⟨oc1, od1, .func (PySem.W.fnOf "share_of" "share_of" (defArgs (tp 2)) (defBody (tp 2)) (defScope (tp 2)) (.ref t1) kV1 dc1 pm1 an1 cd1 ct1), sl1⟩)
    (c1 : PySem.W.codeIn K cd1 "share_of" = true)
    (q1 : PySem.W.keepIn K (.ref f1) = true)
    (d1 : K.lookup t1 = some ⟨ot1, oo1, .seq #[.int (1) k1_0] on1, os1⟩)
    (a2 : PySem.W.nsIn K mainGlobals "plus" = some (some (.ref f2)))
    (l2 : K.lookup f2 = some ⟨oc2, od2, .func (PySem.W.fnOf "plus" "plus" (defArgs (tp 3)) (defBody (tp 3)) (defScope (tp 3)) .none kV2 dc2 pm2 an2 cd2 ct2), sl2⟩)
    (c2 : PySem.W.codeIn K cd2 "plus" = true)
    (q2 : PySem.W.keepIn K (.ref f2) = true)
    (a3 : PySem.W.nsIn K mainGlobals "times" = some (some (.ref f3)))
    (l3 : K.lookup f3 = some ⟨oc3, od3, .func (PySem.W.fnOf "times" "times" (defArgs (tp 4)) (defBody (tp 4)) (defScope (tp 4)) .none kV3 dc3 pm3 an3 cd3 ct3), sl3⟩)
    (c3 : PySem.W.codeIn K cd3 "times" = true)
    (q3 : PySem.W.keepIn K (.ref f3) = true)
    (a4 : PySem.W.nsIn K mainGlobals "over" = some (some (.ref f4)))
    (l4 : K.lookup f4 = some ⟨oc4, od4, .func (PySem.W.fnOf "over" "over" (defArgs (tp 5)) (defBody (tp 5)) (defScope (tp 5)) .none kV4 dc4 pm4 an4 cd4 ct4), sl4⟩)
    (c4 : PySem.W.codeIn K cd4 "over" = true)
    (q4 : PySem.W.keepIn K (.ref f4) = true)
    (a5 : PySem.W.nsIn K mainGlobals "_law_pen" = some (some (.ref f5)))
    (l5 : K.lookup f5 = some ⟨oc5, od5, .func (PySem.W.fnOf "_law_pen" "_law_pen" (defArgs (tp 7)) (defBody (tp 7)) (defScope (tp 7)) .none kV5 dc5 pm5 an5 cd5 ct5), sl5⟩)
    (c5 : PySem.W.codeIn K cd5 "_law_pen" = true)
    (q5 : PySem.W.keepIn K (.ref f5) = true)
    (a6 : PySem.W.nsIn K mainGlobals "_law_take" = some (some (.ref f6)))
    (l6 : K.lookup f6 = some ⟨oc6, od6, .func (PySem.W.fnOf "_law_take" "_law_take" (defArgs (tp 8)) (defBody (tp 8)) (defScope (tp 8)) .none kV6 dc6 pm6 an6 cd6 ct6), sl6⟩)
    (c6 : PySem.W.codeIn K cd6 "_law_take" = true)
    (q6 : PySem.W.keepIn K (.ref f6) = true)
    (a7 : PySem.W.nsIn K mainGlobals "_law_short" = some (some (.ref f7)))
    (l7 : K.lookup f7 = some ⟨oc7, od7, .func (PySem.W.fnOf "_law_short" "_law_short" (defArgs (tp 9)) (defBody (tp 9)) (defScope (tp 9)) .none kV7 dc7 pm7 an7 cd7 ct7), sl7⟩)
    (c7 : PySem.W.codeIn K cd7 "_law_short" = true)
    (q7 : PySem.W.keepIn K (.ref f7) = true)
    (a8 : PySem.W.nsIn K mainGlobals "_law_number" = some (some (.ref f8)))
    (l8 : K.lookup f8 = some ⟨oc8, od8, .func (PySem.W.fnOf "_law_number" "_law_number" (defArgs (tp 10)) (defBody (tp 10)) (defScope (tp 10)) .none kV8 dc8 pm8 an8 cd8 ct8), sl8⟩)
    (c8 : PySem.W.codeIn K cd8 "_law_number" = true)
    (q8 : PySem.W.keepIn K (.ref f8) = true)
    (a9 : PySem.W.nsIn K mainGlobals "_law_pair_right" = some (some (.ref f9)))
    (l9 : K.lookup f9 = some ⟨oc9, od9, .func (PySem.W.fnOf "_law_pair_right" "_law_pair_right" (defArgs (tp 11)) (defBody (tp 11)) (defScope (tp 11)) .none kV9 dc9 pm9 an9 cd9 ct9), sl9⟩)
    (c9 : PySem.W.codeIn K cd9 "_law_pair_right" = true)
    (q9 : PySem.W.keepIn K (.ref f9) = true)
    (a10 : PySem.W.nsIn K mainGlobals "law" = some (some (.ref f10)))
    (l10 : K.lookup f10 = some ⟨oc10, od10, .func (PySem.W.fnOf "law" "law" (defArgs (tp 12)) (defBody (tp 12)) (defScope (tp 12)) .none kV10 dc10 pm10 an10 cd10 ct10), sl10⟩)
    (c10 : PySem.W.codeIn K cd10 "law" = true)
    (q10 : PySem.W.keepIn K (.ref f10) = true)
    (z_len : PySem.W.nsIn K mainGlobals "len" = some none)
    (z_abs : PySem.W.nsIn K mainGlobals "abs" = some none)
    (z_int : PySem.W.nsIn K mainGlobals "int" = some none)
    (z_repr : PySem.W.nsIn K mainGlobals "repr" = some none)
    (z_str : PySem.W.nsIn K mainGlobals "str" = some none)
    (z_range : PySem.W.nsIn K mainGlobals "range" = some none)
    (z_isinstance : PySem.W.nsIn K mainGlobals "isinstance" = some none)
    (z_bool : PySem.W.nsIn K mainGlobals "bool" = some none)
    (z_tuple : PySem.W.nsIn K mainGlobals "tuple" = some none)
    (z_list : PySem.W.nsIn K mainGlobals "list" = some none)
    : TopOk K mg D G0 := by
  have ms : ∀ {x : Str} {v : Value}, PySem.W.nsIn K mainGlobals x = some (some v) → mg x = some v := fun a => PySem.W.mg_of X G a
  have mn : ∀ {x : Str}, PySem.W.nsIn K mainGlobals x = some none → mg x = none := fun a => PySem.W.mg_none_of X G a
  have D0 : DefOk K mg e0 := by
    refine ⟨⟨rfl, rfl, rfl, by decide +kernel, rfl, by decide +kernel, by decide +kernel⟩, rfl, f0, oc0, od0, .none, kV0, dc0, pm0, an0, cd0, ct0, sl0, defArgs (tp 1), "common", [], [], l0, c0, ms a0, q0, .nil, ?_, rfl, ?_⟩
    · intro i d h
      cases h
    · intro p hp s us ws X2 h1 h2
      rcases List.mem_cons.mp hp with rfl | hp
      · exact match us, ws, h1, h2 with | [_, _], [], _, _ => ⟨_, rfl, .of_eq rfl⟩
      · cases hp
  have D1 : DefOk K mg e1 := by
    refine ⟨⟨rfl, rfl, rfl, by decide +kernel, rfl, by decide +kernel, by decide +kernel⟩, rfl, f1, oc1, od1, .ref t1, kV1, dc1, pm1, an1, cd1, ct1, sl1, defArgs (tp 2), "share_of", [.int (1)], [.int (1) k1_0], l1, c1, ms a1, q1, .cons ⟨_, rfl⟩ .nil, ?_, rfl, ?_⟩
    · intro i d h
      match i, h with
      | 0, h => cases h; exact ⟨_, rfl, fun _ _ => .int _⟩
      | n + 1, h => simp [e1] at h
    · intro p hp s us ws X2 h1 h2
      rcases List.mem_cons.mp hp with rfl | hp
      · exact match us, ws, h1, h2 with | [_, _], [], _, _ => ⟨_, rfl, PySem.W.binds_K X2 rfl d1 rfl rfl rfl⟩
      rcases List.mem_cons.mp hp with rfl | hp
      · exact match us, ws, h1, h2 with | [_], [], _, _ => ⟨_, rfl, PySem.W.binds_K X2 rfl d1 rfl rfl rfl⟩
      rcases List.mem_cons.mp hp with rfl | hp
      · exact match us, ws, h1, h2 with | [], [_, _], _, _ => ⟨_, rfl, PySem.W.binds_K X2 rfl d1 rfl rfl rfl⟩
      · cases hp
  have D2 : DefOk K mg e2 := by
    refine ⟨⟨rfl, rfl, rfl, by decide +kernel, rfl, by decide +kernel, by decide +kernel⟩, rfl, f2, oc2, od2, .none, kV2, dc2, pm2, an2, cd2, ct2, sl2, defArgs (tp 3), "plus", [], [], l2, c2, ms a2, q2, .nil, ?_, rfl, ?_⟩
    · intro i d h
      cases h
    · intro p hp s us ws X2 h1 h2
      rcases List.mem_cons.mp hp with rfl | hp
      · exact match us, ws, h1, h2 with | [_, _], [], _, _ => ⟨_, rfl, .of_eq rfl⟩
      rcases List.mem_cons.mp hp with rfl | hp
      · exact match us, ws, h1, h2 with | [], [_, _], _, _ => ⟨_, rfl, .of_eq rfl⟩
      · cases hp
  have D3 : DefOk K mg e3 := by
    refine ⟨⟨rfl, rfl, rfl, by decide +kernel, rfl, by decide +kernel, by decide +kernel⟩, rfl, f3, oc3, od3, .none, kV3, dc3, pm3, an3, cd3, ct3, sl3, defArgs (tp 4), "times", [], [], l3, c3, ms a3, q3, .nil, ?_, rfl, ?_⟩
    · intro i d h
      cases h
    · intro p hp s us ws X2 h1 h2
      rcases List.mem_cons.mp hp with rfl | hp
      · exact match us, ws, h1, h2 with | [_, _], [], _, _ => ⟨_, rfl, .of_eq rfl⟩
      rcases List.mem_cons.mp hp with rfl | hp
      · exact match us, ws, h1, h2 with | [], [_, _], _, _ => ⟨_, rfl, .of_eq rfl⟩
      · cases hp
  have D4 : DefOk K mg e4 := by
    refine ⟨⟨rfl, rfl, rfl, by decide +kernel, rfl, by decide +kernel, by decide +kernel⟩, rfl, f4, oc4, od4, .none, kV4, dc4, pm4, an4, cd4, ct4, sl4, defArgs (tp 5), "over", [], [], l4, c4, ms a4, q4, .nil, ?_, rfl, ?_⟩
    · intro i d h
      cases h
    · intro p hp s us ws X2 h1 h2
      rcases List.mem_cons.mp hp with rfl | hp
      · exact match us, ws, h1, h2 with | [_, _], [], _, _ => ⟨_, rfl, .of_eq rfl⟩
      rcases List.mem_cons.mp hp with rfl | hp
      · exact match us, ws, h1, h2 with | [], [_, _], _, _ => ⟨_, rfl, .of_eq rfl⟩
      · cases hp
  have D5 : DefOk K mg e5 := by
    refine ⟨⟨rfl, rfl, rfl, by decide +kernel, rfl, by decide +kernel, by decide +kernel⟩, rfl, f5, oc5, od5, .none, kV5, dc5, pm5, an5, cd5, ct5, sl5, defArgs (tp 7), "_law_pen", [], [], l5, c5, ms a5, q5, .nil, ?_, rfl, ?_⟩
    · intro i d h
      cases h
    · intro p hp s us ws X2 h1 h2
      rcases List.mem_cons.mp hp with rfl | hp
      · exact match us, ws, h1, h2 with | [_], [], _, _ => ⟨_, rfl, .of_eq rfl⟩
      · cases hp
  have D6 : DefOk K mg e6 := by
    refine ⟨⟨rfl, rfl, rfl, by decide +kernel, rfl, by decide +kernel, by decide +kernel⟩, rfl, f6, oc6, od6, .none, kV6, dc6, pm6, an6, cd6, ct6, sl6, defArgs (tp 8), "_law_take", [], [], l6, c6, ms a6, q6, .nil, ?_, rfl, ?_⟩
    · intro i d h
      cases h
    · intro p hp s us ws X2 h1 h2
      rcases List.mem_cons.mp hp with rfl | hp
      · exact match us, ws, h1, h2 with | [_, _], [], _, _ => ⟨_, rfl, .of_eq rfl⟩
      · cases hp
  have D7 : DefOk K mg e7 := by
    refine ⟨⟨rfl, rfl, rfl, by decide +kernel, rfl, by decide +kernel, by decide +kernel⟩, rfl, f7, oc7, od7, .none, kV7, dc7, pm7, an7, cd7, ct7, sl7, defArgs (tp 9), "_law_short", [], [], l7, c7, ms a7, q7, .nil, ?_, rfl, ?_⟩
    · intro i d h
      cases h
    · intro p hp s us ws X2 h1 h2
      rcases List.mem_cons.mp hp with rfl | hp
      · exact match us, ws, h1, h2 with | [_, _], [], _, _ => ⟨_, rfl, .of_eq rfl⟩
      · cases hp
  have D8 : DefOk K mg e8 := by
    refine ⟨⟨rfl, rfl, rfl, by decide +kernel, rfl, by decide +kernel, by decide +kernel⟩, rfl, f8, oc8, od8, .none, kV8, dc8, pm8, an8, cd8, ct8, sl8, defArgs (tp 10), "_law_number", [], [], l8, c8, ms a8, q8, .nil, ?_, rfl, ?_⟩
    · intro i d h
      cases h
    · intro p hp s us ws X2 h1 h2
      rcases List.mem_cons.mp hp with rfl | hp
      · exact match us, ws, h1, h2 with | [_], [], _, _ => ⟨_, rfl, .of_eq rfl⟩
      · cases hp
  have D9 : DefOk K mg e9 := by
    refine ⟨⟨rfl, rfl, rfl, by decide +kernel, rfl, by decide +kernel, by decide +kernel⟩, rfl, f9, oc9, od9, .none, kV9, dc9, pm9, an9, cd9, ct9, sl9, defArgs (tp 11), "_law_pair_right", [], [], l9, c9, ms a9, q9, .nil, ?_, rfl, ?_⟩
    · intro i d h
      cases h
    · intro p hp s us ws X2 h1 h2
      rcases List.mem_cons.mp hp with rfl | hp
      · exact match us, ws, h1, h2 with | [_, _], [], _, _ => ⟨_, rfl, .of_eq rfl⟩
      · cases hp
  have D10 : DefOk K mg e10 := by
    refine ⟨⟨rfl, rfl, rfl, by decide +kernel, rfl, by decide +kernel, by decide +kernel⟩, rfl, f10, oc10, od10, .none, kV10, dc10, pm10, an10, cd10, ct10, sl10, defArgs (tp 12), "law", [], [], l10, c10, ms a10, q10, .nil, ?_, rfl, ?_⟩
    · intro i d h
      cases h
    · intro p hp s us ws X2 h1 h2
      rcases List.mem_cons.mp hp with rfl | hp
      · exact match us, ws, h1, h2 with | [_], [], _, _ => ⟨_, rfl, .of_eq rfl⟩
      · cases hp
  refine ⟨fun e he => ?_, by decide +kernel, fun b hb => ?_, ⟨mn z_range, mn z_isinstance, mn z_int, mn z_bool, mn z_str, mn z_tuple, mn z_list⟩, fun p hp => by cases hp⟩
  · simp only [D, List.mem_cons, List.not_mem_nil, or_false] at he
    rcases he with rfl | rfl | rfl | rfl | rfl | rfl | rfl | rfl | rfl | rfl | rfl
    · exact D0
    · exact D1
    · exact D2
    · exact D3
    · exact D4
    · exact D5
    · exact D6
    · exact D7
    · exact D8
    · exact D9
    · exact D10
  · simp only [bis, List.mem_cons, List.not_mem_nil, or_false] at hb
    rcases hb with rfl | rfl | rfl | rfl | rfl
    · exact mn z_len
    · exact mn z_abs
    · exact mn z_int
    · exact mn z_repr
    · exact mn z_str
end K30


namespace K30
open PySem PySem.Spec L2 Pf
def wf : Nat := 100000
def fuel : Nat := 30
abbrev Γ (k : Nat) : Sem3 := Gam D G0 wf fuel k
def b0_0 (Γ : Sem3) : List Sx :=
  [kPar 0 1 (xV [] (xS 1)) (xV [] (xBin .Mod (xS 0) (xS 1)))]
def s0 (Γ : Sem3) : Sx := kSq
  [kPar 0 1 (xV [] (xBi .abs [(xS 0)])) (xV [] (xBi .abs [(xS 1)])),
  kWh wf (tC1 .NotEq (xS 1) (xC (.int 0))) (b0_0 Γ),
  kRt [] (xS 0)]
theorem s0_eq (Γ : Sem3) : stmts (fns (ctxOf (D.map (·.fe)) G0 wf Γ e0) fuel) (bkOf e0) e0.body = s0 Γ := by kernel_rfl
theorem c0 (k : Nat) (d0 d1 : PyData) : Γ (k + 1) "common" [d0, d1] = (s0 (Γ k) [some (false, d0), some (false, d1)]).bind (outI [] [false, false] [d0, d1]) :=
  (show Γ (k + 1) "common" [d0, d1] = (stmts (fns (ctxOf (D.map (·.fe)) G0 wf (Γ k) e0) fuel) (bkOf e0) e0.body [some (false, d0), some (false, d1)]).bind (outI [] [false, false] [d0, d1]) by kernel_rfl).trans (by rw [s0_eq])
def s1 (Γ : Sem3) : Sx := kSq
  [kSet 2 (xV [] (xCall Γ "common" [] [.pos 0, .pos 1] [.shr (xV [] (xS 0)), .shr (xV [] (xS 1))] [])),
  kIf (tC1 .Lt (xS 1) (xC (.int 0)))
    [kSet 2 (xV [] (xUn .USub (xS 2)))]
    [],
  kRt [] (xTup [(xV [] (xBin .FloorDiv (xS 0) (xS 2))), (xV [] (xBin .FloorDiv (xS 1) (xS 2)))])]
theorem s1_eq (Γ : Sem3) : stmts (fns (ctxOf (D.map (·.fe)) G0 wf Γ e1) fuel) (bkOf e1) e1.body = s1 Γ := by kernel_rfl
theorem c1 (k : Nat) (d0 d1 : PyData) : Γ (k + 1) "share_of" [d0, d1] = (s1 (Γ k) [some (false, d0), some (false, d1), none]).bind (outI [] [false, false] [d0, d1]) :=
  (show Γ (k + 1) "share_of" [d0, d1] = (stmts (fns (ctxOf (D.map (·.fe)) G0 wf (Γ k) e1) fuel) (bkOf e1) e1.body [some (false, d0), some (false, d1), none]).bind (outI [] [false, false] [d0, d1]) by kernel_rfl).trans (by rw [s1_eq])
def s2 (Γ : Sem3) : Sx := kSq
  [kRt [] (xCall Γ "share_of" [(.int 1)] [.pos 0, .pos 1] [.shr (xV [] (xBin .Add (xBin .Mult (xIx (xS 0) (xC (.int 0))) (xIx (xS 1) (xC (.int 1)))) (xBin .Mult (xIx (xS 1) (xC (.int 0))) (xIx (xS 0) (xC (.int 1)))))), .shr (xV [] (xBin .Mult (xIx (xS 0) (xC (.int 1))) (xIx (xS 1) (xC (.int 1)))))] [])]
theorem s2_eq (Γ : Sem3) : stmts (fns (ctxOf (D.map (·.fe)) G0 wf Γ e2) fuel) (bkOf e2) e2.body = s2 Γ := by kernel_rfl
theorem c2 (k : Nat) (d0 d1 : PyData) : Γ (k + 1) "plus" [d0, d1] = (s2 (Γ k) [some (false, d0), some (false, d1)]).bind (outI [] [false, false] [d0, d1]) :=
  (show Γ (k + 1) "plus" [d0, d1] = (stmts (fns (ctxOf (D.map (·.fe)) G0 wf (Γ k) e2) fuel) (bkOf e2) e2.body [some (false, d0), some (false, d1)]).bind (outI [] [false, false] [d0, d1]) by kernel_rfl).trans (by rw [s2_eq])
def s3 (Γ : Sem3) : Sx := kSq
  [kRt [] (xCall Γ "share_of" [(.int 1)] [.pos 0, .pos 1] [.shr (xV [] (xBin .Mult (xIx (xS 0) (xC (.int 0))) (xIx (xS 1) (xC (.int 0))))), .shr (xV [] (xBin .Mult (xIx (xS 0) (xC (.int 1))) (xIx (xS 1) (xC (.int 1)))))] [])]
theorem s3_eq (Γ : Sem3) : stmts (fns (ctxOf (D.map (·.fe)) G0 wf Γ e3) fuel) (bkOf e3) e3.body = s3 Γ := by kernel_rfl
theorem c3 (k : Nat) (d0 d1 : PyData) : Γ (k + 1) "times" [d0, d1] = (s3 (Γ k) [some (false, d0), some (false, d1)]).bind (outI [] [false, false] [d0, d1]) :=
  (show Γ (k + 1) "times" [d0, d1] = (stmts (fns (ctxOf (D.map (·.fe)) G0 wf (Γ k) e3) fuel) (bkOf e3) e3.body [some (false, d0), some (false, d1)]).bind (outI [] [false, false] [d0, d1]) by kernel_rfl).trans (by rw [s3_eq])
def s4 (Γ : Sem3) : Sx := kSq
  [kRt [] (xCall Γ "share_of" [(.int 1)] [.pos 0, .pos 1] [.shr (xV [] (xBin .Mult (xIx (xS 0) (xC (.int 0))) (xIx (xS 1) (xC (.int 1))))), .shr (xV [] (xBin .Mult (xIx (xS 0) (xC (.int 1))) (xIx (xS 1) (xC (.int 0)))))] [])]
theorem s4_eq (Γ : Sem3) : stmts (fns (ctxOf (D.map (·.fe)) G0 wf Γ e4) fuel) (bkOf e4) e4.body = s4 Γ := by kernel_rfl
theorem c4 (k : Nat) (d0 d1 : PyData) : Γ (k + 1) "over" [d0, d1] = (s4 (Γ k) [some (false, d0), some (false, d1)]).bind (outI [] [false, false] [d0, d1]) :=
  (show Γ (k + 1) "over" [d0, d1] = (stmts (fns (ctxOf (D.map (·.fe)) G0 wf (Γ k) e4) fuel) (bkOf e4) e4.body [some (false, d0), some (false, d1)]).bind (outI [] [false, false] [d0, d1]) by kernel_rfl).trans (by rw [s4_eq])
def s5 (Γ : Sem3) : Sx := kSq
  [kRt [] (xLst [(xV [] (xCut (xS 0) none (some (xC (.int 63))))), (xV [] (xC (.int 0))), (xV [] (xC (.int 0)))])]
theorem s5_eq (Γ : Sem3) : stmts (fns (ctxOf (D.map (·.fe)) G0 wf Γ e5) fuel) (bkOf e5) e5.body = s5 Γ := by kernel_rfl
theorem c5 (k : Nat) (d0 : PyData) : Γ (k + 1) "_law_pen" [d0] = (s5 (Γ k) [some (false, d0)]).bind (outI [] [false] [d0]) :=
  (show Γ (k + 1) "_law_pen" [d0] = (stmts (fns (ctxOf (D.map (·.fe)) G0 wf (Γ k) e5) fuel) (bkOf e5) e5.body [some (false, d0)]).bind (outI [] [false] [d0]) by kernel_rfl).trans (by rw [s5_eq])
def s6 (Γ : Sem3) : Sx := kSq
  [kIf (tC1 .Gt (xIx (xS 0) (xC (.int 2))) (xC (.int 0)))
    [kSet 2 (xV [0] (xBin .Mod (xIx (xS 0) (xC (.int 2))) (xS 1))),
    kSub (xS 0) (xC (.int 2)) (xV [0] (xBin .FloorDiv (xIx (xS 0) (xC (.int 2))) (xS 1))),
    kRt [0] (xS 2)]
    [],
  kSet 3 (xV [0] (xIx (xS 0) (xC (.int 1)))),
  kSub (xS 0) (xC (.int 1)) (xV [0] (xBin .Add (xS 3) (xC (.int 1)))),
  kSet 4 (xV [0] (xC (.int 127))),
  kIf (tC1 .Gt (xBi .len [(xIx (xS 0) (xC (.int 0)))]) (xC (.int 0)))
    [kSet 4 (xV [0] (xIx (xIx (xS 0) (xC (.int 0))) (xBin .Mod (xS 3) (xBi .len [(xIx (xS 0) (xC (.int 0)))]))))]
    [],
  kIf (tAn [(tC1 .Lt (xS 3) (xBi .len [(xIx (xS 0) (xC (.int 0)))])), (tC1 .GtE (xBi .abs [(xS 4)]) (xBin .Pow (xC (.int 10)) (xC (.int 18))))])
    [kSet 5 (xV [0] (xBin .Add (xBin .Mult (xC (.int 2)) (xBi .abs [(xS 4)])) (xBi .int [(xT (tC1 .Lt (xS 4) (xC (.int 0))))]))),
    kSub (xS 0) (xC (.int 2)) (xV [0] (xBin .FloorDiv (xS 5) (xS 1))),
    kRt [0] (xBin .Mod (xS 5) (xS 1))]
    [],
  kSet 6 (xV [0] (xBin .Mod (xBin .Pow (xBin .Add (xBin .Add (xBin .Mod (xS 4) (xC (.int 2147483563))) (xBin .Mult (xC (.int 9461)) (xS 3))) (xC (.int 257))) (xC (.int 3))) (xC (.int 2147483647)))),
  kSet 6 (xV [0] (xBin .Mod (xBin .Pow (xBin .Add (xBin .Mult (xS 6) (xBin .Add (xS 3) (xC (.int 50021)))) (xBin .Mod (xS 4) (xC (.int 1033)))) (xC (.int 2))) (xC (.int 2147483629)))),
  kRt [0] (xBin .Mod (xBin .FloorDiv (xS 6) (xC (.int 128))) (xS 1))]
theorem s6_eq (Γ : Sem3) : stmts (fns (ctxOf (D.map (·.fe)) G0 wf Γ e6) fuel) (bkOf e6) e6.body = s6 Γ := by kernel_rfl
theorem c6 (k : Nat) (d0 d1 : PyData) : Γ (k + 1) "_law_take" [d0, d1] = (s6 (Γ k) [some (true, d0), some (false, d1), none, none, none, none, none]).bind (outI [0] [true, false] [d0, d1]) :=
  (show Γ (k + 1) "_law_take" [d0, d1] = (stmts (fns (ctxOf (D.map (·.fe)) G0 wf (Γ k) e6) fuel) (bkOf e6) e6.body [some (true, d0), some (false, d1), none, none, none, none, none]).bind (outI [0] [true, false] [d0, d1]) by kernel_rfl).trans (by rw [s6_eq])
def b7_0 (Γ : Sem3) : List Sx :=
  [kPar 2 3 (xV [] (xS 3)) (xV [] (xBin .Mod (xS 2) (xS 3)))]
def s7 (Γ : Sem3) : Sx := kSq
  [kPar 2 3 (xV [] (xBi .abs [(xS 0)])) (xV [] (xBi .abs [(xS 1)])),
  kWh wf (tC1 .Gt (xS 3) (xC (.int 0))) (b7_0 Γ),
  kIf (tC1 .Lt (xS 1) (xC (.int 0)))
    [kSet 2 (xV [] (xBin .Sub (xC (.int 0)) (xS 2)))]
    [],
  kRt [] (xTup [(xV [] (xBin .FloorDiv (xS 0) (xS 2))), (xV [] (xBin .FloorDiv (xS 1) (xS 2)))])]
theorem s7_eq (Γ : Sem3) : stmts (fns (ctxOf (D.map (·.fe)) G0 wf Γ e7) fuel) (bkOf e7) e7.body = s7 Γ := by kernel_rfl
theorem c7 (k : Nat) (d0 d1 : PyData) : Γ (k + 1) "_law_short" [d0, d1] = (s7 (Γ k) [some (false, d0), some (false, d1), none, none]).bind (outI [] [false, false] [d0, d1]) :=
  (show Γ (k + 1) "_law_short" [d0, d1] = (stmts (fns (ctxOf (D.map (·.fe)) G0 wf (Γ k) e7) fuel) (bkOf e7) e7.body [some (false, d0), some (false, d1), none, none]).bind (outI [] [false, false] [d0, d1]) by kernel_rfl).trans (by rw [s7_eq])
def s8 (Γ : Sem3) : Sx := kSq
  [kSet 1 (xV [0] (xBin .Add (xBin .Mult (xCall Γ "_law_take" [] [.pos 0, .pos 1] [.mine (xS 0), .shr (xV [0] (xBin .Pow (xC (.int 10)) (xC (.int 6))))] []) (xBin .Pow (xC (.int 10)) (xC (.int 6)))) (xCall Γ "_law_take" [] [.pos 0, .pos 1] [.mine (xS 0), .shr (xV [0] (xBin .Pow (xC (.int 10)) (xC (.int 6))))] []))),
  kSet 2 (xV [0] (xLst [(xV [0] (xC (.int 0))), (xV [0] (xC (.int 1))), (xV [0] (xCall Γ "_law_take" [] [.pos 0, .pos 1] [.mine (xS 0), .shr (xV [0] (xC (.int 13)))] [])), (xV [0] (xS 1)), (xV [0] (xBin .Mult (xBin .Mult (xBin .Mult (xBin .Mult (xS 1) (xS 1)) (xS 1)) (xS 1)) (xS 1))), (xV [0] (xC (.int 720720))), (xV [0] (xBin .Mult (xC (.int 2)) (xS 1))), (xV [0] (xBin .Pow (xC (.int 10)) (xC (.int 9))))])),
  kRt [0] (xBin .Mult (xIx (xS 2) (xCall Γ "_law_take" [] [.pos 0, .pos 1] [.mine (xS 0), .shr (xV [0] (xC (.int 8)))] [])) (xIx (xLst [(xV [0] (xC (.int 1))), (xV [0] (xUn .USub (xC (.int 1))))]) (xCall Γ "_law_take" [] [.pos 0, .pos 1] [.mine (xS 0), .shr (xV [0] (xC (.int 2)))] [])))]
theorem s8_eq (Γ : Sem3) : stmts (fns (ctxOf (D.map (·.fe)) G0 wf Γ e8) fuel) (bkOf e8) e8.body = s8 Γ := by kernel_rfl
theorem c8 (k : Nat) (d0 : PyData) : Γ (k + 1) "_law_number" [d0] = (s8 (Γ k) [some (true, d0), none, none]).bind (outI [0] [true] [d0]) :=
  (show Γ (k + 1) "_law_number" [d0] = (stmts (fns (ctxOf (D.map (·.fe)) G0 wf (Γ k) e8) fuel) (bkOf e8) e8.body [some (true, d0), none, none]).bind (outI [0] [true] [d0]) by kernel_rfl).trans (by rw [s8_eq])
def s9 (Γ : Sem3) : Sx := kSq
  [kSet 2 (xV [] (xLst [(xV [] (xCall Γ "_law_short" [] [.pos 0, .pos 1] [.shr (xV [] (xBin .Add (xBin .Mult (xIx (xS 0) (xC (.int 0))) (xIx (xS 1) (xC (.int 1)))) (xBin .Mult (xIx (xS 1) (xC (.int 0))) (xIx (xS 0) (xC (.int 1)))))), .shr (xV [] (xBin .Mult (xIx (xS 0) (xC (.int 1))) (xIx (xS 1) (xC (.int 1)))))] [])), (xV [] (xCall Γ "_law_short" [] [.pos 0, .pos 1] [.shr (xV [] (xBin .Mult (xIx (xS 0) (xC (.int 0))) (xIx (xS 1) (xC (.int 0))))), .shr (xV [] (xBin .Mult (xIx (xS 0) (xC (.int 1))) (xIx (xS 1) (xC (.int 1)))))] []))])),
  kSet 3 (xV [] (xLst [(xV [] (xCall Γ "plus" [] [.pos 0, .pos 1] [.shr (xV [] (xS 0)), .shr (xV [] (xS 1))] [])), (xV [] (xCall Γ "times" [] [.pos 0, .pos 1] [.shr (xV [] (xS 0)), .shr (xV [] (xS 1))] []))])),
  kSet 4 (xV [] (xLst [(xV [] (xCall Γ "plus" [] [.kw 0, .kw 1] [] [(xV [] (xS 0)), (xV [] (xS 1))])), (xV [] (xCall Γ "times" [] [.kw 0, .kw 1] [] [(xV [] (xS 0)), (xV [] (xS 1))]))])),
  kIf (tC1 .NotEq (xIx (xS 1) (xC (.int 0))) (xC (.int 0)))
    [kEx (xMut "append" (xS 2) [(xV [] (xCall Γ "_law_short" [] [.pos 0, .pos 1] [.shr (xV [] (xBin .Mult (xIx (xS 0) (xC (.int 0))) (xIx (xS 1) (xC (.int 1))))), .shr (xV [] (xBin .Mult (xIx (xS 0) (xC (.int 1))) (xIx (xS 1) (xC (.int 0)))))] []))]),
    kEx (xMut "append" (xS 3) [(xV [] (xCall Γ "over" [] [.pos 0, .pos 1] [.shr (xV [] (xS 0)), .shr (xV [] (xS 1))] []))]),
    kEx (xMut "append" (xS 4) [(xV [] (xCall Γ "over" [] [.kw 0, .kw 1] [] [(xV [] (xS 0)), (xV [] (xS 1))]))])]
    [],
  kRt [] (xAnd [(xT (tC1 .Eq (xBi .repr [(xS 3)]) (xBi .repr [(xS 2)]))), (xT (tC1 .Eq (xBi .repr [(xS 4)]) (xBi .repr [(xS 2)])))])]
theorem s9_eq (Γ : Sem3) : stmts (fns (ctxOf (D.map (·.fe)) G0 wf Γ e9) fuel) (bkOf e9) e9.body = s9 Γ := by kernel_rfl
theorem c9 (k : Nat) (d0 d1 : PyData) : Γ (k + 1) "_law_pair_right" [d0, d1] = (s9 (Γ k) [some (false, d0), some (false, d1), none, none, none]).bind (outI [] [false, false] [d0, d1]) :=
  (show Γ (k + 1) "_law_pair_right" [d0, d1] = (stmts (fns (ctxOf (D.map (·.fe)) G0 wf (Γ k) e9) fuel) (bkOf e9) e9.body [some (false, d0), some (false, d1), none, none, none]).bind (outI [] [false, false] [d0, d1]) by kernel_rfl).trans (by rw [s9_eq])
def b10_1 (Γ : Sem3) : List Sx :=
  [kSet 7 (xV [] (xIx (xS 2) (xCall Γ "_law_take" [] [.pos 0, .pos 1] [.mine (xS 1), .shr (xV [] (xC (.int 10)))] []))),
  kSet 8 (xV [] (xIx (xS 2) (xCall Γ "_law_take" [] [.pos 0, .pos 1] [.mine (xS 1), .shr (xV [] (xC (.int 10)))] []))),
  kSet 9 (xV [] (xBi .repr [(xTup [(xV [] (xS 7)), (xV [] (xS 8))])])),
  kIf (tOrr [(tNt (tX (xCall Γ "_law_pair_right" [] [.pos 0, .pos 1] [.shr (xV [] (xS 7)), .shr (xV [] (xS 8))] []))), (tC1 .NotEq (xBi .repr [(xTup [(xV [] (xS 7)), (xV [] (xS 8))])]) (xS 9))])
    [kRt [] (xC (.bool false))]
    []]
def b10_0 (Γ : Sem3) : List Sx :=
  [kPar 4 5 (xV [] (xCall Γ "_law_number" [] [.pos 0] [.mine (xS 1)] [])) (xV [] (xCall Γ "_law_number" [] [.pos 0] [.mine (xS 1)] [])),
  kIf (tC1 .Eq (xS 5) (xC (.int 0)))
    [kSet 5 (xV [] (xIx (xLst [(xV [] (xC (.int 1))), (xV [] (xUn .USub (xC (.int 1)))), (xV [] (xC (.int 6)))]) (xCall Γ "_law_take" [] [.pos 0, .pos 1] [.mine (xS 1), .shr (xV [] (xC (.int 3)))] [])))]
    [],
  kSet 6 (xV [] (xCall Γ "_law_short" [] [.pos 0, .pos 1] [.shr (xV [] (xS 4)), .shr (xV [] (xS 5))] [])),
  kIf (tOrr [(tC1 .NotEq (xBi .repr [(xCall Γ "share_of" [(.int 1)] [.pos 0, .pos 1] [.shr (xV [] (xS 4)), .shr (xV [] (xS 5))] [])]) (xBi .repr [(xS 6)])), (tC1 .NotEq (xBi .repr [(xCall Γ "share_of" [(.int 1)] [.kw 0, .kw 1] [] [(xV [] (xS 4)), (xV [] (xS 5))])]) (xBi .repr [(xS 6)]))])
    [kRt [] (xC (.bool false))]
    [],
  kIf (tC1 .NotEq (xBi .repr [(xCall Γ "share_of" [(.int 1)] [.pos 0, .dfl 0] [.shr (xV [] (xS 4))] [])]) (xBi .repr [(xTup [(xV [] (xS 4)), (xV [] (xC (.int 1)))])]))
    [kRt [] (xC (.bool false))]
    [],
  kEx (xMut "append" (xS 2) [(xV [] (xS 6))])]
def s10 (Γ : Sem3) : Sx := kSq
  [kSet 1 (xV [] (xCall Γ "_law_pen" [] [.pos 0] [.shr (xV [] (xS 0))] [])),
  kSet 2 (xV [] (xLst [(xV [] (xTup [(xV [] (xC (.int 0))), (xV [] (xC (.int 1)))])), (xV [] (xTup [(xV [] (xC (.int 1))), (xV [] (xC (.int 1)))]))])),
  kFor (xRng [(xC (.int 8))]) (g1 3) (b10_0 Γ),
  kFor (xRng [(xC (.int 16))]) (g1 3) (b10_1 Γ),
  kRt [] (xC (.bool true))]
theorem s10_eq (Γ : Sem3) : stmts (fns (ctxOf (D.map (·.fe)) G0 wf Γ e10) fuel) (bkOf e10) e10.body = s10 Γ := by kernel_rfl
theorem c10 (k : Nat) (d0 : PyData) : Γ (k + 1) "law" [d0] = (s10 (Γ k) [some (false, d0), none, none, none, none, none, none, none, none, none]).bind (outI [] [false] [d0]) :=
  (show Γ (k + 1) "law" [d0] = (stmts (fns (ctxOf (D.map (·.fe)) G0 wf (Γ k) e10) fuel) (bkOf e10) e10.body [some (false, d0), none, none, none, none, none, none, none, none, none]).bind (outI [] [false] [d0]) by kernel_rfl).trans (by rw [s10_eq])
end K30


namespace K30
open PySem PySem.Spec L2 Pf
/-! ## the shares -/
theorem size_two : (2 : Nat) ≤ sizeLine := by decide
theorem common_ok (k : Nat) (a b : Int) (hb : b.natAbs < 2 ^ 4000) : Γ (k + 1) "common" [.int a, .int b] = some (false, .int (Nat.gcd a.natAbs b.natAbs : Nat), [.int a, .int b]) := by
  rw [c0]
  have hw : kWh wf (tC1 .NotEq (xS 1) (xC (.int 0))) (b0_0 (Γ k)) [some (false, .int a.natAbs), some (false, .int b.natAbs)] = some (.nx [some (false, .int (Nat.gcd a.natAbs b.natAbs : Nat)), some (false, .int 0)]) := by
    refine euclid (fun x y => [some (false, .int x), some (false, .int y)]) (fun x w => ?_) (fun x y w h => ?_) 4000 a.natAbs b.natAbs hb wf (by decide)
    · simp [kWh_succ, b0_0, b7_0, ↓bind_m, kSq, kRt, kRtN, kSet, kSetL, kIf, kPar, kTup, kSub, kAug, kEx, kNx, kBk, kCt, kFor, xCall, xAgs, xV, xBin, xUn, xIf, xTup, xLst, xIx, xCut, xPt, xAnd, xOr, tAn, tOrr, tNt, tC1, tCC, tX, xT, xBi, xIsi, xMut, xMet, xOs, xS, xC, rdO, rdOs, idxD, atI, ixN, binD, addD, subD, mulD, divD, modD, powD, unD, truthD, resD, newB, arr, pickS, nodupB, slotsOf, ownAll, xVs, outI, afterIo, putBack, biD, lenB, lenD, absB, intB, cmpD, eqD_int, eqD_str, eqD_bool, ltD_int, PySem.W.dataLt_int, isD, isNoneD, g1, gN', setsD, seqD, frz, mutD, setIx, xRng, xIt, itemsD, augD, tTr]
    · simp [kWh_succ, b0_0, b7_0, ↓bind_m, kSq, kRt, kRtN, kSet, kSetL, kIf, kPar, kTup, kSub, kAug, kEx, kNx, kBk, kCt, kFor, xCall, xAgs, xV, xBin, xUn, xIf, xTup, xLst, xIx, xCut, xPt, xAnd, xOr, tAn, tOrr, tNt, tC1, tCC, tX, xT, xBi, xIsi, xMut, xMet, xOs, xS, xC, rdO, rdOs, idxD, atI, ixN, binD, addD, subD, mulD, divD, modD, powD, unD, truthD, resD, newB, arr, pickS, nodupB, slotsOf, ownAll, xVs, outI, afterIo, putBack, biD, lenB, lenD, absB, intB, cmpD, eqD_int, eqD_str, eqD_bool, ltD_int, PySem.W.dataLt_int, isD, isNoneD, g1, gN', setsD, seqD, frz, mutD, setIx, xRng, xIt, itemsD, augD, tTr, h]
  have ea : ∀ x : Int, (if x < 0 then -x else x) = (x.natAbs : Int) := fun x => by split <;> omega
  simp [s0, ↓bind_m, kSq, kRt, kRtN, kSet, kSetL, kIf, kPar, kTup, kSub, kAug, kEx, kNx, kBk, kCt, kFor, xCall, xAgs, xV, xBin, xUn, xIf, xTup, xLst, xIx, xCut, xPt, xAnd, xOr, tAn, tOrr, tNt, tC1, tCC, tX, xT, xBi, xIsi, xMut, xMet, xOs, xS, xC, rdO, rdOs, idxD, atI, ixN, binD, addD, subD, mulD, divD, modD, powD, unD, truthD, resD, newB, arr, pickS, nodupB, slotsOf, ownAll, xVs, outI, afterIo, putBack, biD, lenB, lenD, absB, intB, cmpD, eqD_int, eqD_str, eqD_bool, ltD_int, PySem.W.dataLt_int, isD, isNoneD, g1, gN', setsD, seqD, frz, mutD, setIx, xRng, xIt, itemsD, augD, tTr, ea, hw]
def shD (t b : Int) : PyData :=
  let g : Int := if b < 0 then -(Nat.gcd t.natAbs b.natAbs : Int) else (Nat.gcd t.natAbs b.natAbs : Int)
  .tuple [.int (t.fdiv g), .int (b.fdiv g)]
theorem gcd_log {t b : Int} (h0 : b ≠ 0) (hb : b.natAbs < 2 ^ 4000) : (Nat.gcd t.natAbs b.natAbs) ≠ 0 ∧ (Nat.gcd t.natAbs b.natAbs).log2 < 9000 := by
  have h1 : 0 < b.natAbs := by omega
  have h2 : Nat.gcd t.natAbs b.natAbs ≤ b.natAbs := Nat.gcd_le_right _ h1
  have h3 : 0 < Nat.gcd t.natAbs b.natAbs := Nat.gcd_pos_of_pos_right _ h1
  refine ⟨by omega, ?_⟩
  rw [Nat.log2_lt (by omega)]
  exact Nat.lt_of_lt_of_le (Nat.lt_of_le_of_lt h2 hb) (Nat.pow_le_pow_right (by decide) (by decide))
theorem share_ok (k : Nat) (t b : Int) (h0 : b ≠ 0) (hb : b.natAbs < 2 ^ 4000) : Γ (k + 2) "share_of" [.int t, .int b] = some (false, shD t b, [.int t, .int b]) := by
  rw [c1]
  obtain ⟨g0, g1'⟩ := gcd_log (t := t) h0 hb
  have cm := common_ok k t b hb
  unfold shD
  generalize Nat.gcd t.natAbs b.natAbs = g at g0 g1' cm
  by_cases hn : b < 0
  · simp [s1, ↓bind_m, kSq, kRt, kRtN, kSet, kSetL, kIf, kPar, kTup, kSub, kAug, kEx, kNx, kBk, kCt, kFor, xCall, xAgs, xV, xBin, xUn, xIf, xTup, xLst, xIx, xCut, xPt, xAnd, xOr, tAn, tOrr, tNt, tC1, tCC, tX, xT, xBi, xIsi, xMut, xMet, xOs, xS, xC, rdO, rdOs, idxD, atI, ixN, binD, addD, subD, mulD, divD, modD, powD, unD, truthD, resD, newB, arr, pickS, nodupB, slotsOf, ownAll, xVs, outI, afterIo, putBack, biD, lenB, lenD, absB, intB, cmpD, eqD_int, eqD_str, eqD_bool, ltD_int, PySem.W.dataLt_int, isD, isNoneD, g1, gN', setsD, seqD, frz, mutD, setIx, xRng, xIt, itemsD, augD, tTr, cm, hn, g0, g1', size_two]
  · simp [s1, ↓bind_m, kSq, kRt, kRtN, kSet, kSetL, kIf, kPar, kTup, kSub, kAug, kEx, kNx, kBk, kCt, kFor, xCall, xAgs, xV, xBin, xUn, xIf, xTup, xLst, xIx, xCut, xPt, xAnd, xOr, tAn, tOrr, tNt, tC1, tCC, tX, xT, xBi, xIsi, xMut, xMet, xOs, xS, xC, rdO, rdOs, idxD, atI, ixN, binD, addD, subD, mulD, divD, modD, powD, unD, truthD, resD, newB, arr, pickS, nodupB, slotsOf, ownAll, xVs, outI, afterIo, putBack, biD, lenB, lenD, absB, intB, cmpD, eqD_int, eqD_str, eqD_bool, ltD_int, PySem.W.dataLt_int, isD, isNoneD, g1, gN', setsD, seqD, frz, mutD, setIx, xRng, xIt, itemsD, augD, tTr, cm, hn, g0, g1', size_two]
theorem short_ok (k : Nat) (t b : Int) (h0 : b ≠ 0) (hb : b.natAbs < 2 ^ 4000) : Γ (k + 1) "_law_short" [.int t, .int b] = some (false, shD t b, [.int t, .int b]) := by
  rw [c7]
  obtain ⟨g0, g1'⟩ := gcd_log (t := t) h0 hb
  have gz : ¬ ((Nat.gcd t.natAbs b.natAbs : Nat) : Int) = 0 := by omega
  have hw : kWh wf (tC1 .Gt (xS 3) (xC (.int 0))) (b7_0 (Γ k)) [some (false, .int t), some (false, .int b), some (false, .int t.natAbs), some (false, .int b.natAbs)] = some (.nx [some (false, .int t), some (false, .int b), some (false, .int (Nat.gcd t.natAbs b.natAbs : Nat)), some (false, .int 0)]) := by
    refine euclid (fun x y => [some (false, .int t), some (false, .int b), some (false, .int x), some (false, .int y)]) (fun x w => ?_) (fun x y w h => ?_) 4000 t.natAbs b.natAbs hb wf (by decide)
    · simp [kWh_succ, b0_0, b7_0, ↓bind_m, kSq, kRt, kRtN, kSet, kSetL, kIf, kPar, kTup, kSub, kAug, kEx, kNx, kBk, kCt, kFor, xCall, xAgs, xV, xBin, xUn, xIf, xTup, xLst, xIx, xCut, xPt, xAnd, xOr, tAn, tOrr, tNt, tC1, tCC, tX, xT, xBi, xIsi, xMut, xMet, xOs, xS, xC, rdO, rdOs, idxD, atI, ixN, binD, addD, subD, mulD, divD, modD, powD, unD, truthD, resD, newB, arr, pickS, nodupB, slotsOf, ownAll, xVs, outI, afterIo, putBack, biD, lenB, lenD, absB, intB, cmpD, eqD_int, eqD_str, eqD_bool, ltD_int, PySem.W.dataLt_int, isD, isNoneD, g1, gN', setsD, seqD, frz, mutD, setIx, xRng, xIt, itemsD, augD, tTr]
    · have : 0 < y := by omega
      simp [kWh_succ, b0_0, b7_0, ↓bind_m, kSq, kRt, kRtN, kSet, kSetL, kIf, kPar, kTup, kSub, kAug, kEx, kNx, kBk, kCt, kFor, xCall, xAgs, xV, xBin, xUn, xIf, xTup, xLst, xIx, xCut, xPt, xAnd, xOr, tAn, tOrr, tNt, tC1, tCC, tX, xT, xBi, xIsi, xMut, xMet, xOs, xS, xC, rdO, rdOs, idxD, atI, ixN, binD, addD, subD, mulD, divD, modD, powD, unD, truthD, resD, newB, arr, pickS, nodupB, slotsOf, ownAll, xVs, outI, afterIo, putBack, biD, lenB, lenD, absB, intB, cmpD, eqD_int, eqD_str, eqD_bool, ltD_int, PySem.W.dataLt_int, isD, isNoneD, g1, gN', setsD, seqD, frz, mutD, setIx, xRng, xIt, itemsD, augD, tTr, h, this]
  have ea : ∀ x : Int, (if x < 0 then -x else x) = (x.natAbs : Int) := fun x => by split <;> omega
  unfold shD
  generalize Nat.gcd t.natAbs b.natAbs = g at g0 g1' hw
  have gi : ((g : Int) = 0) = False := eq_false (by omega)
  by_cases hn : b < 0
  · have hn1 : decide (b < 0) = true := decide_eq_true hn
    rw [if_pos hn]
    simp only [s7, ↓bind_m, Option.map_some, Option.map_none, List.getElem?_cons_zero, List.getElem?_cons_succ, List.getElem?_nil, List.set_cons_zero, List.set_cons_succ, List.length_cons, List.length_nil, List.length_append, Nat.zero_add, Nat.reduceAdd, Nat.reduceSub, Nat.reduceLT, Nat.reduceLeDiff, Nat.reduceBEq, Nat.reduceEqDiff, Int.reduceLT, Int.reduceLE, Int.reduceNeg, Int.reduceEq, Int.reduceToNat, reduceIte, reduceCtorEq, List.contains_nil, List.contains_cons, List.cons_append, List.nil_append, if_true, if_false, ite_true, ite_false, Bool.false_eq_true, decide_true, decide_false, Bool.not_true, Bool.not_false, Bool.and_true, Bool.true_and, Bool.and_self, Bool.and_false, Bool.false_and, Bool.or_false, Bool.or_true, Bool.false_or, Bool.true_or, List.all_cons, List.all_nil, ixN_zero, ixN_1, ixN_2, ixN_3, ixN_4, ixN_5, ixN_6, ixN_7, ixN_8, ixN_9, ixN_10, ixN_11, ixN_12, ixN_m1, ixN_m2, ixN_nat, Nat.reduceLT, and_self, and_true, true_and, not_false_eq_true, not_true_eq_false, beq_self_eq_true, ne_eq, not_true, not_false_iff, Nat.succ_ne_self, kSq, kRt, kRtN, kSet, kSetL, kIf, kPar, kTup, kSub, kAug, kEx, kNx, kBk, kCt, kFor, xCall, xAgs, xV, xBin, xUn, xIf, xTup, xLst, xIx, xCut, xPt, xAnd, xOr, tAn, tOrr, tNt, tC1, tCC, tX, xT, xBi, xIsi, xMut, xMet, xOs, xS, xC, rdO, rdOs, idxD, atI, binD, addD, subD, mulD, divD, modD, unD, truthD, resD, newB, arr, pickS, nodupB, slotsOf, ownAll, xVs, outI, afterIo, putBack, biD, lenB, lenD, absB, intB, cmpD, eqD_int, eqD_str, eqD_bool, ltD_int, PySem.W.dataLt_int, isD, isNoneD, g1, gN', setsD, seqD, frz, mutD, setIx, xRng, xIt, itemsD, augD, tTr, ea, hw, hn1, g1', gi, size_two, Int.zero_sub, Int.natAbs_neg, Int.natAbs_natCast, Int.neg_eq_zero]
  · have hn1 : decide (b < 0) = false := decide_eq_false hn
    rw [if_neg hn]
    simp only [s7, ↓bind_m, Option.map_some, Option.map_none, List.getElem?_cons_zero, List.getElem?_cons_succ, List.getElem?_nil, List.set_cons_zero, List.set_cons_succ, List.length_cons, List.length_nil, List.length_append, Nat.zero_add, Nat.reduceAdd, Nat.reduceSub, Nat.reduceLT, Nat.reduceLeDiff, Nat.reduceBEq, Nat.reduceEqDiff, Int.reduceLT, Int.reduceLE, Int.reduceNeg, Int.reduceEq, Int.reduceToNat, reduceIte, reduceCtorEq, List.contains_nil, List.contains_cons, List.cons_append, List.nil_append, if_true, if_false, ite_true, ite_false, Bool.false_eq_true, decide_true, decide_false, Bool.not_true, Bool.not_false, Bool.and_true, Bool.true_and, Bool.and_self, Bool.and_false, Bool.false_and, Bool.or_false, Bool.or_true, Bool.false_or, Bool.true_or, List.all_cons, List.all_nil, ixN_zero, ixN_1, ixN_2, ixN_3, ixN_4, ixN_5, ixN_6, ixN_7, ixN_8, ixN_9, ixN_10, ixN_11, ixN_12, ixN_m1, ixN_m2, ixN_nat, Nat.reduceLT, and_self, and_true, true_and, not_false_eq_true, not_true_eq_false, beq_self_eq_true, ne_eq, not_true, not_false_iff, Nat.succ_ne_self, kSq, kRt, kRtN, kSet, kSetL, kIf, kPar, kTup, kSub, kAug, kEx, kNx, kBk, kCt, kFor, xCall, xAgs, xV, xBin, xUn, xIf, xTup, xLst, xIx, xCut, xPt, xAnd, xOr, tAn, tOrr, tNt, tC1, tCC, tX, xT, xBi, xIsi, xMut, xMet, xOs, xS, xC, rdO, rdOs, idxD, atI, binD, addD, subD, mulD, divD, modD, unD, truthD, resD, newB, arr, pickS, nodupB, slotsOf, ownAll, xVs, outI, afterIo, putBack, biD, lenB, lenD, absB, intB, cmpD, eqD_int, eqD_str, eqD_bool, ltD_int, PySem.W.dataLt_int, isD, isNoneD, g1, gN', setsD, seqD, frz, mutD, setIx, xRng, xIt, itemsD, augD, tTr, ea, hw, hn1, g1', gi, size_two, Int.natAbs_natCast]
/-! ## pairs of shares -/
abbrev Bd (a : Int) : Prop := a.natAbs < 2 ^ 600
theorem pow_fit {i j : Nat} (h : i ≤ j) : (2 : Nat) ^ i ≤ 2 ^ j := Nat.pow_le_pow_right (by decide) h
theorem mul_lt {a b : Int} {i j : Nat} (h1 : a.natAbs < 2 ^ i) (h2 : b.natAbs < 2 ^ j) : (a * b).natAbs < 2 ^ (i + j) := by
  rw [Int.natAbs_mul, Nat.pow_add]
  exact Nat.mul_lt_mul'' h1 h2
theorem add_lt {a b : Int} {i : Nat} (h1 : a.natAbs < 2 ^ i) (h2 : b.natAbs < 2 ^ i) : (a + b).natAbs < 2 ^ (i + 1) := by
  rw [Nat.pow_succ]
  omega
theorem log_lt {a : Int} {i : Nat} (h : a.natAbs < 2 ^ i) (hi : 0 < i) : a.natAbs.log2 < i := by
  by_cases h0 : a.natAbs = 0
  · rw [h0]
    simpa using hi
  · rw [Nat.log2_lt h0]
    exact h
theorem mulOk_of {a b : Int} {i j : Nat} (h1 : a.natAbs < 2 ^ i) (h2 : b.natAbs < 2 ^ j) (hi : 0 < i) (hj : 0 < j) (h : i + j ≤ 1000000) : mulOk a b = true := by
  have := log_lt h1 hi
  have := log_lt h2 hj
  unfold mulOk
  simp only [Bool.or_eq_true, decide_eq_true_eq]
  right
  omega
def tw (a b : Int) : PyData := .tuple [.int a, .int b]
theorem plus_ok (k : Nat) {a b c d : Int} (ha : Bd a) (hb : Bd b) (hc : Bd c) (hd : Bd d) (h0 : b ≠ 0) (h1 : d ≠ 0) : Γ (k + 3) "plus" [tw a b, tw c d] = some (false, shD (a * d + c * b) (b * d), [tw a b, tw c d]) := by
  have m1 := mulOk_of ha hd (by decide) (by decide) (by decide)
  have m2 := mulOk_of hc hb (by decide) (by decide) (by decide)
  have m3 := mulOk_of hb hd (by decide) (by decide) (by decide)
  have sk := share_ok k (a * d + c * b) (b * d) (Int.mul_ne_zero h0 h1) (Nat.lt_of_lt_of_le (mul_lt hb hd) (pow_fit (by decide)))
  rw [c2]
  simp only [s2, tw, ↓bind_m, Option.map_some, Option.map_none, List.getElem?_cons_zero, List.getElem?_cons_succ, List.getElem?_nil, List.set_cons_zero, List.set_cons_succ, List.length_cons, List.length_nil, List.length_append, Nat.zero_add, Nat.reduceAdd, Nat.reduceSub, Nat.reduceLT, Nat.reduceLeDiff, Nat.reduceBEq, Nat.reduceEqDiff, Int.reduceLT, Int.reduceLE, Int.reduceNeg, Int.reduceEq, Int.reduceToNat, reduceIte, reduceCtorEq, List.contains_nil, List.contains_cons, List.cons_append, List.nil_append, if_true, if_false, ite_true, ite_false, Bool.false_eq_true, decide_true, decide_false, Bool.not_true, Bool.not_false, Bool.and_true, Bool.true_and, Bool.and_self, Bool.and_false, Bool.false_and, Bool.or_false, Bool.or_true, Bool.false_or, Bool.true_or, List.all_cons, List.all_nil, ixN_zero, ixN_1, ixN_2, ixN_3, ixN_4, ixN_5, ixN_6, ixN_7, ixN_8, ixN_9, ixN_10, ixN_11, ixN_12, ixN_m1, ixN_m2, ixN_nat, Nat.reduceLT, and_self, and_true, true_and, not_false_eq_true, not_true_eq_false, beq_self_eq_true, ne_eq, not_true, not_false_iff, Nat.succ_ne_self, kSq, kRt, kRtN, kSet, kSetL, kIf, kPar, kTup, kSub, kAug, kEx, kNx, kBk, kCt, kFor, xCall, xAgs, xV, xBin, xUn, xIf, xTup, xLst, xIx, xCut, xPt, xAnd, xOr, tAn, tOrr, tNt, tC1, tCC, tX, xT, xBi, xIsi, xMut, xMet, xOs, xS, xC, rdO, rdOs, idxD, atI, binD, addD, subD, mulD, divD, modD, unD, truthD, resD, newB, arr, pickS, nodupB, slotsOf, ownAll, xVs, outI, afterIo, putBack, biD, lenB, lenD, absB, intB, cmpD, eqD_int, eqD_str, eqD_bool, ltD_int, PySem.W.dataLt_int, isD, isNoneD, g1, gN', setsD, seqD, frz, mutD, setIx, xRng, xIt, itemsD, augD, tTr, m1, m2, m3, sk]
theorem times_ok (k : Nat) {a b c d : Int} (ha : Bd a) (hb : Bd b) (hc : Bd c) (hd : Bd d) (h0 : b ≠ 0) (h1 : d ≠ 0) : Γ (k + 3) "times" [tw a b, tw c d] = some (false, shD (a * c) (b * d), [tw a b, tw c d]) := by
  have m1 := mulOk_of ha hc (by decide) (by decide) (by decide)
  have m3 := mulOk_of hb hd (by decide) (by decide) (by decide)
  have sk := share_ok k (a * c) (b * d) (Int.mul_ne_zero h0 h1) (Nat.lt_of_lt_of_le (mul_lt hb hd) (pow_fit (by decide)))
  rw [c3]
  simp only [s3, tw, ↓bind_m, Option.map_some, Option.map_none, List.getElem?_cons_zero, List.getElem?_cons_succ, List.getElem?_nil, List.set_cons_zero, List.set_cons_succ, List.length_cons, List.length_nil, List.length_append, Nat.zero_add, Nat.reduceAdd, Nat.reduceSub, Nat.reduceLT, Nat.reduceLeDiff, Nat.reduceBEq, Nat.reduceEqDiff, Int.reduceLT, Int.reduceLE, Int.reduceNeg, Int.reduceEq, Int.reduceToNat, reduceIte, reduceCtorEq, List.contains_nil, List.contains_cons, List.cons_append, List.nil_append, if_true, if_false, ite_true, ite_false, Bool.false_eq_true, decide_true, decide_false, Bool.not_true, Bool.not_false, Bool.and_true, Bool.true_and, Bool.and_self, Bool.and_false, Bool.false_and, Bool.or_false, Bool.or_true, Bool.false_or, Bool.true_or, List.all_cons, List.all_nil, ixN_zero, ixN_1, ixN_2, ixN_3, ixN_4, ixN_5, ixN_6, ixN_7, ixN_8, ixN_9, ixN_10, ixN_11, ixN_12, ixN_m1, ixN_m2, ixN_nat, Nat.reduceLT, and_self, and_true, true_and, not_false_eq_true, not_true_eq_false, beq_self_eq_true, ne_eq, not_true, not_false_iff, Nat.succ_ne_self, kSq, kRt, kRtN, kSet, kSetL, kIf, kPar, kTup, kSub, kAug, kEx, kNx, kBk, kCt, kFor, xCall, xAgs, xV, xBin, xUn, xIf, xTup, xLst, xIx, xCut, xPt, xAnd, xOr, tAn, tOrr, tNt, tC1, tCC, tX, xT, xBi, xIsi, xMut, xMet, xOs, xS, xC, rdO, rdOs, idxD, atI, binD, addD, subD, mulD, divD, modD, unD, truthD, resD, newB, arr, pickS, nodupB, slotsOf, ownAll, xVs, outI, afterIo, putBack, biD, lenB, lenD, absB, intB, cmpD, eqD_int, eqD_str, eqD_bool, ltD_int, PySem.W.dataLt_int, isD, isNoneD, g1, gN', setsD, seqD, frz, mutD, setIx, xRng, xIt, itemsD, augD, tTr, m1, m3, sk]
theorem over_ok (k : Nat) {a b c d : Int} (ha : Bd a) (hb : Bd b) (hc : Bd c) (hd : Bd d) (h0 : b ≠ 0) (h1 : c ≠ 0) : Γ (k + 3) "over" [tw a b, tw c d] = some (false, shD (a * d) (b * c), [tw a b, tw c d]) := by
  have m1 := mulOk_of ha hd (by decide) (by decide) (by decide)
  have m3 := mulOk_of hb hc (by decide) (by decide) (by decide)
  have sk := share_ok k (a * d) (b * c) (Int.mul_ne_zero h0 h1) (Nat.lt_of_lt_of_le (mul_lt hb hc) (pow_fit (by decide)))
  rw [c4]
  simp only [s4, tw, ↓bind_m, Option.map_some, Option.map_none, List.getElem?_cons_zero, List.getElem?_cons_succ, List.getElem?_nil, List.set_cons_zero, List.set_cons_succ, List.length_cons, List.length_nil, List.length_append, Nat.zero_add, Nat.reduceAdd, Nat.reduceSub, Nat.reduceLT, Nat.reduceLeDiff, Nat.reduceBEq, Nat.reduceEqDiff, Int.reduceLT, Int.reduceLE, Int.reduceNeg, Int.reduceEq, Int.reduceToNat, reduceIte, reduceCtorEq, List.contains_nil, List.contains_cons, List.cons_append, List.nil_append, if_true, if_false, ite_true, ite_false, Bool.false_eq_true, decide_true, decide_false, Bool.not_true, Bool.not_false, Bool.and_true, Bool.true_and, Bool.and_self, Bool.and_false, Bool.false_and, Bool.or_false, Bool.or_true, Bool.false_or, Bool.true_or, List.all_cons, List.all_nil, ixN_zero, ixN_1, ixN_2, ixN_3, ixN_4, ixN_5, ixN_6, ixN_7, ixN_8, ixN_9, ixN_10, ixN_11, ixN_12, ixN_m1, ixN_m2, ixN_nat, Nat.reduceLT, and_self, and_true, true_and, not_false_eq_true, not_true_eq_false, beq_self_eq_true, ne_eq, not_true, not_false_iff, Nat.succ_ne_self, kSq, kRt, kRtN, kSet, kSetL, kIf, kPar, kTup, kSub, kAug, kEx, kNx, kBk, kCt, kFor, xCall, xAgs, xV, xBin, xUn, xIf, xTup, xLst, xIx, xCut, xPt, xAnd, xOr, tAn, tOrr, tNt, tC1, tCC, tX, xT, xBi, xIsi, xMut, xMet, xOs, xS, xC, rdO, rdOs, idxD, atI, binD, addD, subD, mulD, divD, modD, unD, truthD, resD, newB, arr, pickS, nodupB, slotsOf, ownAll, xVs, outI, afterIo, putBack, biD, lenB, lenD, absB, intB, cmpD, eqD_int, eqD_str, eqD_bool, ltD_int, PySem.W.dataLt_int, isD, isNoneD, g1, gN', setsD, seqD, frz, mutD, setIx, xRng, xIt, itemsD, augD, tTr, m1, m3, sk]
theorem fdiv_dvd {t g : Int} (hg : g ≠ 0) (hd : g ∣ t) : (t.fdiv g).natAbs ≤ t.natAbs ∧ (t ≠ 0 → t.fdiv g ≠ 0) := by
  obtain ⟨q, rfl⟩ := hd
  rw [Int.mul_fdiv_cancel_left _ hg]
  refine ⟨?_, fun h e => h (by rw [e, Int.mul_zero])⟩
  rw [Int.natAbs_mul]
  exact Nat.le_mul_of_pos_left _ (by omega)
theorem shD_tw (t b : Int) (h0 : b ≠ 0) : ∃ x y, shD t b = tw x y ∧ x.natAbs ≤ t.natAbs ∧ y.natAbs ≤ b.natAbs ∧ y ≠ 0 := by
  have h3 : 0 < Nat.gcd t.natAbs b.natAbs := Nat.gcd_pos_of_pos_right _ (by omega)
  have d1 : ((Nat.gcd t.natAbs b.natAbs : Nat) : Int) ∣ t := Int.ofNat_dvd_left.mpr (Nat.gcd_dvd_left _ _)
  have d2 : ((Nat.gcd t.natAbs b.natAbs : Nat) : Int) ∣ b := Int.ofNat_dvd_left.mpr (Nat.gcd_dvd_right _ _)
  by_cases hn : b < 0
  · have g0 : -((Nat.gcd t.natAbs b.natAbs : Nat) : Int) ≠ 0 := by omega
    refine ⟨_, _, ?_, (fdiv_dvd g0 (Int.neg_dvd.mpr d1)).1, (fdiv_dvd g0 (Int.neg_dvd.mpr d2)).1, (fdiv_dvd g0 (Int.neg_dvd.mpr d2)).2 h0⟩
    simp only [shD, hn, if_true, tw]
  · have g0 : ((Nat.gcd t.natAbs b.natAbs : Nat) : Int) ≠ 0 := by omega
    refine ⟨_, _, ?_, (fdiv_dvd g0 d1).1, (fdiv_dvd g0 d2).1, (fdiv_dvd g0 d2).2 h0⟩
    simp only [shD, hn, if_false, tw]
abbrev Fine (d : PyData) : Prop := ∃ x y, d = tw x y ∧ x.natAbs < 2 ^ 1300 ∧ y.natAbs < 2 ^ 1300
theorem fine_of {t b : Int} (ht : t.natAbs < 2 ^ 1300) (hb : b.natAbs < 2 ^ 1300) (h0 : b ≠ 0) : Fine (shD t b) := by
  obtain ⟨x, y, e, h1, h2, _⟩ := shD_tw t b h0
  exact ⟨x, y, e, Nat.lt_of_le_of_lt h1 ht, Nat.lt_of_le_of_lt h2 hb⟩
theorem log_1920 {x : Int} (h : x.natAbs < 2 ^ 1300) : x.natAbs.log2 < 1920 := Nat.lt_trans (log_lt h (by decide)) (by decide)
theorem fine_show {d : PyData} (h : Fine d) : d.showable = true ∧ d.plain = true ∧ d.depth ≤ 3 ∧ lowD d = true ∧ wt d ≤ 4000 := by
  obtain ⟨x, y, rfl, h1, h2⟩ := h
  have h1 := log_1920 h1
  have h2 := log_1920 h2
  simp [tw, PyData.showable, PyData.showableAll, PyData.plain, PyData.plainAll, PyData.depth, PyData.depthAll, lowD, lowAll, wt, wtAll, h1, h2]
theorem fines {ds : List PyData} (h : ∀ d ∈ ds, Fine d) : PyData.showableAll ds = true ∧ PyData.plainAll ds = true ∧ PyData.depthAll ds ≤ 3 ∧ lowAll ds = true ∧ wtAll ds ≤ 4002 * ds.length := by
  induction ds with
  | nil => simp [PyData.showableAll, PyData.plainAll, PyData.depthAll, lowAll, wtAll]
  | cons d ds ih =>
    obtain ⟨a1, a2, a3, a4, a5⟩ := ih fun x hx => h x (List.mem_cons_of_mem _ hx)
    obtain ⟨b1, b2, b3, b4, b5⟩ := fine_show (h d List.mem_cons_self)
    simp only [PyData.showableAll, PyData.plainAll, PyData.depthAll, lowAll, wtAll, a1, a2, a4, b1, b2, b4, List.length_cons]
    refine ⟨rfl, rfl, ?_, rfl, ?_⟩ <;> omega
theorem repr_list {ds : List PyData} (h : ∀ d ∈ ds, Fine d) (hl : ds.length ≤ 10) : reprOk (.list ds) = true := by
  obtain ⟨a1, a2, a3, a4, a5⟩ := fines h
  refine reprOk_of ?_ ?_ ?_ ?_ ?_
  · simpa [PyData.showable] using a1
  · simpa [PyData.plain] using a2
  · simp only [PyData.depth]; omega
  · simpa [lowD] using a4
  · have : sizeLine = 16777216 := rfl
    simp only [wt]
    omega
theorem repr_tup {ds : List PyData} (h : ∀ d ∈ ds, Fine d) (hl : ds.length ≤ 10) : reprOk (.tuple ds) = true := by
  obtain ⟨a1, a2, a3, a4, a5⟩ := fines h
  refine reprOk_of ?_ ?_ ?_ ?_ ?_
  · simpa [PyData.showable] using a1
  · simpa [PyData.plain] using a2
  · simp only [PyData.depth]; omega
  · simpa [lowD] using a4
  · have : sizeLine = 16777216 := rfl
    simp only [wt]
    omega
theorem repr_one {d : PyData} (h : Fine d) : reprOk d = true := by
  obtain ⟨b1, b2, b3, b4, b5⟩ := fine_show h
  refine reprOk_of b1 b2 (by omega) b4 ?_
  have : sizeLine = 16777216 := rfl
  omega
theorem repr_sh {ds : List PyData} (h : ∀ d ∈ ds, ∃ t b, d = shD t b ∧ t.natAbs < 2 ^ 1300 ∧ b.natAbs < 2 ^ 1300 ∧ b ≠ 0) (hl : ds.length ≤ 10) : reprOk (.list ds) = true :=
  repr_list (fun d hd => by
    obtain ⟨t, b, rfl, h1, h2, h3⟩ := h d hd
    exact fine_of h1 h2 h3) hl
theorem pair_ok (k : Nat) {a b c d : Int} (ha : Bd a) (hb : Bd b) (hc : Bd c) (hd : Bd d) (h0 : b ≠ 0) (h1 : d ≠ 0) : Γ (k + 4) "_law_pair_right" [tw a b, tw c d] = some (false, .bool true, [tw a b, tw c d]) := by
  have m1 := mulOk_of ha hd (by decide) (by decide) (by decide)
  have m2 := mulOk_of hc hb (by decide) (by decide) (by decide)
  have m3 := mulOk_of hb hd (by decide) (by decide) (by decide)
  have m4 := mulOk_of ha hc (by decide) (by decide) (by decide)
  have m5 := mulOk_of hb hc (by decide) (by decide) (by decide)
  have l1 : (b * d).natAbs < 2 ^ 4000 := Nat.lt_of_lt_of_le (mul_lt hb hd) (pow_fit (by decide))
  have l2 : (b * c).natAbs < 2 ^ 4000 := Nat.lt_of_lt_of_le (mul_lt hb hc) (pow_fit (by decide))
  have bd0 : b * d ≠ 0 := Int.mul_ne_zero h0 h1
  have q1 := short_ok (k + 2) (a * d + c * b) (b * d) bd0 l1
  have q2 := short_ok (k + 2) (a * c) (b * d) bd0 l1
  have p1 := plus_ok k ha hb hc hd h0 h1
  have p2 := times_ok k ha hb hc hd h0 h1
  have z1 : (b * d).natAbs < 2 ^ 1300 := Nat.lt_of_lt_of_le (mul_lt hb hd) (pow_fit (by decide))
  have z2 : (a * d + c * b).natAbs < 2 ^ 1300 := Nat.lt_of_lt_of_le (add_lt (mul_lt ha hd) (mul_lt hc hb)) (pow_fit (by decide))
  have z3 : (a * c).natAbs < 2 ^ 1300 := Nat.lt_of_lt_of_le (mul_lt ha hc) (pow_fit (by decide))
  have z4 : (a * d).natAbs < 2 ^ 1300 := Nat.lt_of_lt_of_le (mul_lt ha hd) (pow_fit (by decide))
  have z5 : (b * c).natAbs < 2 ^ 1300 := Nat.lt_of_lt_of_le (mul_lt hb hc) (pow_fit (by decide))
  rw [c9]
  by_cases hcz : c = 0
  · have rp : reprOk (.list [shD (a * d + c * b) (b * d), shD (a * c) (b * d)]) = true := repr_sh (fun x hx => by
      rcases List.mem_cons.mp hx with rfl | hx
      · exact ⟨_, _, rfl, z2, z1, bd0⟩
      · rcases List.mem_cons.mp hx with rfl | hx
        · exact ⟨_, _, rfl, z3, z1, bd0⟩
        · cases hx) ((by simp))
    simp only [tw] at p1 p2 ⊢
    generalize shD (a * d + c * b) (b * d) = r1 at *
    generalize shD (a * c) (b * d) = r2 at *
    have hd0 : decide (c = 0) = true := decide_eq_true hcz
    simp only [s9, ↓bind_m, Option.map_some, Option.map_none, List.getElem?_cons_zero, List.getElem?_cons_succ, List.getElem?_nil, List.set_cons_zero, List.set_cons_succ, List.length_cons, List.length_nil, List.length_append, Nat.zero_add, Nat.reduceAdd, Nat.reduceSub, Nat.reduceLT, Nat.reduceLeDiff, Nat.reduceBEq, Nat.reduceEqDiff, Int.reduceLT, Int.reduceLE, Int.reduceNeg, Int.reduceEq, Int.reduceToNat, reduceIte, reduceCtorEq, List.contains_nil, List.contains_cons, List.cons_append, List.nil_append, if_true, if_false, ite_true, ite_false, Bool.false_eq_true, decide_true, decide_false, Bool.not_true, Bool.not_false, Bool.and_true, Bool.true_and, Bool.and_self, Bool.and_false, Bool.false_and, Bool.or_false, Bool.or_true, Bool.false_or, Bool.true_or, List.all_cons, List.all_nil, ixN_zero, ixN_1, ixN_2, ixN_3, ixN_4, ixN_5, ixN_6, ixN_7, ixN_8, ixN_9, ixN_10, ixN_11, ixN_12, ixN_m1, ixN_m2, ixN_nat, Nat.reduceLT, and_self, and_true, true_and, not_false_eq_true, not_true_eq_false, beq_self_eq_true, ne_eq, not_true, not_false_iff, Nat.succ_ne_self, kSq, kRt, kRtN, kSet, kSetL, kIf, kPar, kTup, kSub, kAug, kEx, kNx, kBk, kCt, kFor, xCall, xAgs, xV, xBin, xUn, xIf, xTup, xLst, xIx, xCut, xPt, xAnd, xOr, tAn, tOrr, tNt, tC1, tCC, tX, xT, xBi, xIsi, xMut, xMet, xOs, xS, xC, rdO, rdOs, idxD, atI, binD, addD, subD, mulD, divD, modD, unD, truthD, resD, newB, arr, pickS, nodupB, slotsOf, ownAll, xVs, outI, afterIo, putBack, biD, lenB, lenD, absB, intB, cmpD, eqD_int, eqD_str, eqD_bool, ltD_int, PySem.W.dataLt_int, isD, isNoneD, g1, gN', setsD, seqD, frz, mutD, setIx, xRng, xIt, itemsD, augD, tTr, m1, m2, m3, m4, q1, q2, p1, p2, rp, reprB, size_two, hd0]
  · have bc0 : b * c ≠ 0 := Int.mul_ne_zero h0 hcz
    have q3 := short_ok (k + 2) (a * d) (b * c) bc0 l2
    have p3 := over_ok k ha hb hc hd h0 hcz
    have rp : reprOk (.list [shD (a * d + c * b) (b * d), shD (a * c) (b * d), shD (a * d) (b * c)]) = true := repr_sh (fun x hx => by
      rcases List.mem_cons.mp hx with rfl | hx
      · exact ⟨_, _, rfl, z2, z1, bd0⟩
      · rcases List.mem_cons.mp hx with rfl | hx
        · exact ⟨_, _, rfl, z3, z1, bd0⟩
        · rcases List.mem_cons.mp hx with rfl | hx
          · exact ⟨_, _, rfl, z4, z5, bc0⟩
          · cases hx) (by simp)
    simp only [tw] at p1 p2 p3 ⊢
    generalize shD (a * d + c * b) (b * d) = r1 at *
    generalize shD (a * c) (b * d) = r2 at *
    generalize shD (a * d) (b * c) = r3 at *
    have lt2 : 2 < sizeLine := by decide
    have hd0 : decide (c = 0) = false := decide_eq_false hcz
    simp only [s9, ↓bind_m, Option.map_some, Option.map_none, List.getElem?_cons_zero, List.getElem?_cons_succ, List.getElem?_nil, List.set_cons_zero, List.set_cons_succ, List.length_cons, List.length_nil, List.length_append, Nat.zero_add, Nat.reduceAdd, Nat.reduceSub, Nat.reduceLT, Nat.reduceLeDiff, Nat.reduceBEq, Nat.reduceEqDiff, Int.reduceLT, Int.reduceLE, Int.reduceNeg, Int.reduceEq, Int.reduceToNat, reduceIte, reduceCtorEq, List.contains_nil, List.contains_cons, List.cons_append, List.nil_append, if_true, if_false, ite_true, ite_false, Bool.false_eq_true, decide_true, decide_false, Bool.not_true, Bool.not_false, Bool.and_true, Bool.true_and, Bool.and_self, Bool.and_false, Bool.false_and, Bool.or_false, Bool.or_true, Bool.false_or, Bool.true_or, List.all_cons, List.all_nil, ixN_zero, ixN_1, ixN_2, ixN_3, ixN_4, ixN_5, ixN_6, ixN_7, ixN_8, ixN_9, ixN_10, ixN_11, ixN_12, ixN_m1, ixN_m2, ixN_nat, Nat.reduceLT, and_self, and_true, true_and, not_false_eq_true, not_true_eq_false, beq_self_eq_true, ne_eq, not_true, not_false_iff, Nat.succ_ne_self, kSq, kRt, kRtN, kSet, kSetL, kIf, kPar, kTup, kSub, kAug, kEx, kNx, kBk, kCt, kFor, xCall, xAgs, xV, xBin, xUn, xIf, xTup, xLst, xIx, xCut, xPt, xAnd, xOr, tAn, tOrr, tNt, tC1, tCC, tX, xT, xBi, xIsi, xMut, xMet, xOs, xS, xC, rdO, rdOs, idxD, atI, binD, addD, subD, mulD, divD, modD, unD, truthD, resD, newB, arr, pickS, nodupB, slotsOf, ownAll, xVs, outI, afterIo, putBack, biD, lenB, lenD, absB, intB, cmpD, eqD_int, eqD_str, eqD_bool, ltD_int, PySem.W.dataLt_int, isD, isNoneD, g1, gN', setsD, seqD, frz, mutD, setIx, xRng, xIt, itemsD, augD, tTr, m1, m2, m3, m4, m5, q1, q2, q3, p1, p2, p3, rp, reprB, size_two, hd0, lt2]
end K30


namespace K30
open PySem PySem.Spec L2 Pf
/-! ## the pen -/
abbrev pn (cs : List Int) (n l : Int) : PyData := .list [.list (cs.map .int), .int n, .int l]
def Pen (t : Nat) (p : PyData) : Prop := ∃ cs n l, p = pn cs n l ∧ 0 ≤ n ∧ n ≤ t ∧ cs.length ≤ 63
theorem Pen.mono {t u : Nat} {p : PyData} (h : Pen t p) (l : t ≤ u) : Pen u p := by
  obtain ⟨cs, n, q, h1, h2, h3, h4⟩ := h
  exact ⟨cs, n, q, h1, h2, by omega, h4⟩
theorem fmod_rng {a m : Int} (h : 0 < m) : 0 ≤ a.fmod m ∧ a.fmod m < m := by
  rw [Int.fmod_eq_emod_of_nonneg _ (by omega)]
  exact ⟨Int.emod_nonneg _ (by omega), Int.emod_lt_of_pos _ h⟩
theorem p1018 : powD (.int 10) (.int 18) = some (.int 1000000000000000000) := rfl
theorem p106 : powD (.int 10) (.int 6) = some (.int 1000000) := rfl
theorem p109 : powD (.int 10) (.int 9) = some (.int 1000000000) := rfl
theorem pow3 {a : Int} (h : a.natAbs < 2 ^ 64) : powD (.int a) (.int 3) = some (.int (a ^ 3)) := by
  show (if (0 : Int) ≤ _ ∧ _ ∧ _ then _ else _) = _
  rw [if_pos ⟨by decide, by decide, h⟩]
  rfl
theorem pow2 {a : Int} (h : a.natAbs < 2 ^ 64) : powD (.int a) (.int 2) = some (.int (a ^ 2)) := by
  show (if (0 : Int) ≤ _ ∧ _ ∧ _ then _ else _) = _
  rw [if_pos ⟨by decide, by decide, h⟩]
  rfl
theorem mul_small {a b : Int} (h : a.natAbs < 2 ^ 64) : mulOk a b = true := by
  unfold mulOk
  rw [decide_eq_true h]
  rfl
theorem len_map (cs : List Int) : (cs.map PyData.int).length = cs.length := by simp
theorem get_map (cs : List Int) (i : Nat) : (cs.map PyData.int)[i]? = (cs[i]?).map .int := by simp
/-- what is drawn lies below many -/
theorem take_ok (k : Nat) {t : Nat} {p : PyData} {many : Int} (hp : Pen t p) (hm : 0 < many) (hm2 : many < 1073741824) (ht : t < 4294967296) : ∃ v p', Γ (k + 1) "_law_take" [p, .int many] = some (false, .int v, [p', .int many]) ∧ 0 ≤ v ∧ v < many ∧ Pen (t + 1) p' := by
  obtain ⟨cs, n, l, rfl, h0, h1, h2⟩ := hp
  have m0 : many ≠ 0 := by omega
  have mL : many.natAbs.log2 < 9000 := Nat.lt_trans (log_lt (i := 30) (by omega) (by decide)) (by decide)
  rw [c6]
  by_cases hl : l > 0
  · refine ⟨l.fmod many, pn cs n (l.fdiv many), ?_, (fmod_rng hm).1, (fmod_rng hm).2, cs, n, _, rfl, h0, by omega, h2⟩
    have hd0 : decide (0 < l) = true := decide_eq_true hl
    simp only [s6, ↓bind_m, Option.map_some, Option.map_none, List.getElem?_cons_zero, List.getElem?_cons_succ, List.getElem?_nil, List.set_cons_zero, List.set_cons_succ, List.length_cons, List.length_nil, List.length_append, Nat.zero_add, Nat.reduceAdd, Nat.reduceSub, Nat.reduceLT, Nat.reduceLeDiff, Nat.reduceBEq, Nat.reduceEqDiff, Int.reduceLT, Int.reduceLE, Int.reduceNeg, Int.reduceEq, Int.reduceToNat, reduceIte, reduceCtorEq, List.contains_nil, List.contains_cons, List.cons_append, List.nil_append, if_true, if_false, ite_true, ite_false, Bool.false_eq_true, decide_true, decide_false, Bool.not_true, Bool.not_false, Bool.and_true, Bool.true_and, Bool.and_self, Bool.and_false, Bool.false_and, Bool.or_false, Bool.or_true, Bool.false_or, Bool.true_or, List.all_cons, List.all_nil, ixN_zero, ixN_1, ixN_2, ixN_3, ixN_4, ixN_5, ixN_6, ixN_7, ixN_8, ixN_9, ixN_10, ixN_11, ixN_12, ixN_m1, ixN_m2, ixN_nat, Nat.reduceLT, and_self, and_true, true_and, not_false_eq_true, not_true_eq_false, beq_self_eq_true, ne_eq, not_true, not_false_iff, Nat.succ_ne_self, kSq, kRt, kRtN, kSet, kSetL, kIf, kPar, kTup, kSub, kAug, kEx, kNx, kBk, kCt, kFor, xCall, xAgs, xV, xBin, xUn, xIf, xTup, xLst, xIx, xCut, xPt, xAnd, xOr, tAn, tOrr, tNt, tC1, tCC, tX, xT, xBi, xIsi, xMut, xMet, xOs, xS, xC, rdO, rdOs, idxD, atI, binD, addD, subD, mulD, divD, modD, unD, truthD, resD, newB, arr, pickS, nodupB, slotsOf, ownAll, xVs, outI, afterIo, putBack, biD, lenB, lenD, absB, intB, cmpD, eqD_int, eqD_str, eqD_bool, ltD_int, PySem.W.dataLt_int, isD, isNoneD, g1, gN', setsD, seqD, frz, mutD, setIx, xRng, xIt, itemsD, augD, tTr, hd0, m0, mL]
  · have hd0 : decide (0 < l) = false := decide_eq_false hl
    have sz : cs.length ≤ sizeLine := Nat.le_trans h2 (by decide)
    have low : ∀ cell : Int, powD (.int (cell.fmod 2147483563 + 9461 * n + 257)) (.int 3) = some (.int ((cell.fmod 2147483563 + 9461 * n + 257) ^ 3)) ∧
        powD (.int (((cell.fmod 2147483563 + 9461 * n + 257) ^ 3).fmod 2147483647 * (n + 50021) + cell.fmod 1033)) (.int 2) = some (.int ((((cell.fmod 2147483563 + 9461 * n + 257) ^ 3).fmod 2147483647 * (n + 50021) + cell.fmod 1033) ^ 2)) ∧ mulOk 9461 n = true ∧ mulOk (((cell.fmod 2147483563 + 9461 * n + 257) ^ 3).fmod 2147483647) (n + 50021) = true := fun cell => by
      obtain ⟨a1, a2⟩ := fmod_rng (a := cell) (show (0 : Int) < 2147483563 by decide)
      obtain ⟨b1, b2⟩ := fmod_rng (a := cell) (show (0 : Int) < 1033 by decide)
      obtain ⟨c1, c2⟩ := fmod_rng (a := (cell.fmod 2147483563 + 9461 * n + 257) ^ 3) (show (0 : Int) < 2147483647 by decide)
      refine ⟨pow3 (by omega), pow2 ?_, mul_small (by decide), mul_small (by omega)⟩
      generalize ((cell.fmod 2147483563 + 9461 * n + 257) ^ 3).fmod 2147483647 = w3 at c1 c2 ⊢
      have q : w3 * (n + 50021) ≤ 2147483646 * 4295017316 := Int.mul_le_mul (by omega) (by omega) (by omega) (by decide)
      have q2 : 0 ≤ w3 * (n + 50021) := Int.mul_nonneg c1 (by omega)
      generalize w3 * (n + 50021) = w4 at q q2 ⊢
      omega
    have nm2 : ((2147483563 : Int) = 0) = False := eq_false (by decide)
    have nm3 : ((2147483647 : Int) = 0) = False := eq_false (by decide)
    have nm4 : ((2147483629 : Int) = 0) = False := eq_false (by decide)
    have nm5 : ((1033 : Int) = 0) = False := eq_false (by decide)
    have dv : ((128 : Int).natAbs.log2 < 9000) = True := eq_true (by decide)
    have nm6 : ((128 : Int) = 0) = False := eq_false (by decide)
    by_cases hcs : 0 < (cs.length : Int)
    · have hc1 : decide (0 < (cs.length : Int)) = true := decide_eq_true hcs
      have hc0 : ((cs.length : Int) = 0) = False := eq_false (by omega)
      obtain ⟨r1, r2⟩ := fmod_rng (a := n) hcs
      have hx1 : ixN cs.length (n.fmod cs.length) = some (n.fmod cs.length).toNat := by
        unfold ixN
        rw [if_pos r1, if_pos r2]
      have hlt : (n.fmod cs.length).toNat < cs.length := by omega
      have hx2 : (cs.map PyData.int)[(n.fmod cs.length).toNat]? = some (.int cs[(n.fmod cs.length).toNat]) := by simp [hlt]
      generalize cs[(n.fmod cs.length).toNat] = cell at hx2
      obtain ⟨w1, w2, w3, w4⟩ := low cell
      by_cases hn : n < (cs.length : Int)
      · have hn1 : decide (n < (cs.length : Int)) = true := decide_eq_true hn
        obtain ⟨ab, hab⟩ : ∃ ab : Int, (if cell < 0 then -cell else cell) = ab := ⟨_, rfl⟩
        by_cases hb : ab < 1000000000000000000
        · have hb1 : decide (ab < 1000000000000000000) = true := decide_eq_true hb
          refine ⟨((((((cell.fmod 2147483563 + 9461 * n + 257) ^ 3).fmod 2147483647 * (n + 50021) + cell.fmod 1033) ^ 2).fmod 2147483629).fdiv 128).fmod many, pn cs (n + 1) l, ?_, (fmod_rng hm).1, (fmod_rng hm).2, cs, n + 1, l, rfl, by omega, by omega, h2⟩
          skip
          simp only [s6, ↓bind_m, Option.map_some, Option.map_none, List.getElem?_cons_zero, List.getElem?_cons_succ, List.getElem?_nil, List.set_cons_zero, List.set_cons_succ, List.length_cons, List.length_nil, List.length_append, Nat.zero_add, Nat.reduceAdd, Nat.reduceSub, Nat.reduceLT, Nat.reduceLeDiff, Nat.reduceBEq, Nat.reduceEqDiff, Int.reduceLT, Int.reduceLE, Int.reduceNeg, Int.reduceEq, Int.reduceToNat, reduceIte, reduceCtorEq, List.contains_nil, List.contains_cons, List.cons_append, List.nil_append, if_true, if_false, ite_true, ite_false, Bool.false_eq_true, decide_true, decide_false, Bool.not_true, Bool.not_false, Bool.and_true, Bool.true_and, Bool.and_self, Bool.and_false, Bool.false_and, Bool.or_false, Bool.or_true, Bool.false_or, Bool.true_or, List.all_cons, List.all_nil, ixN_zero, ixN_1, ixN_2, ixN_3, ixN_4, ixN_5, ixN_6, ixN_7, ixN_8, ixN_9, ixN_10, ixN_11, ixN_12, ixN_m1, ixN_m2, ixN_nat, Nat.reduceLT, and_self, and_true, true_and, not_false_eq_true, not_true_eq_false, beq_self_eq_true, ne_eq, not_true, not_false_iff, Nat.succ_ne_self, kSq, kRt, kRtN, kSet, kSetL, kIf, kPar, kTup, kSub, kAug, kEx, kNx, kBk, kCt, kFor, xCall, xAgs, xV, xBin, xUn, xIf, xTup, xLst, xIx, xCut, xPt, xAnd, xOr, tAn, tOrr, tNt, tC1, tCC, tX, xT, xBi, xIsi, xMut, xMet, xOs, xS, xC, rdO, rdOs, idxD, atI, binD, addD, subD, mulD, divD, modD, unD, truthD, resD, newB, arr, pickS, nodupB, slotsOf, ownAll, xVs, outI, afterIo, putBack, biD, lenB, lenD, absB, intB, cmpD, eqD_int, eqD_str, eqD_bool, ltD_int, PySem.W.dataLt_int, isD, isNoneD, g1, gN', setsD, seqD, frz, mutD, setIx, xRng, xIt, itemsD, augD, tTr, hd0, hc1, hc0, hx1, hx2, hn1, hab, hb1, p1018, m0, mL, List.length_map, sz, w1, w2, w3, w4, nm2, nm3, nm4, nm5, nm6, dv]
        · have hb1 : decide (ab < 1000000000000000000) = false := decide_eq_false hb
          have mk : ∀ x : Int, mulOk 2 x = true := fun x => mul_small (by decide)
          by_cases hneg : cell < 0
          · have hg1 : decide (cell < 0) = true := decide_eq_true hneg
            refine ⟨(2 * ab + 1).fmod many, pn cs (n + 1) ((2 * ab + 1).fdiv many), ?_, (fmod_rng hm).1, (fmod_rng hm).2, cs, n + 1, _, rfl, by omega, by omega, h2⟩
            skip
            simp only [s6, ↓bind_m, Option.map_some, Option.map_none, List.getElem?_cons_zero, List.getElem?_cons_succ, List.getElem?_nil, List.set_cons_zero, List.set_cons_succ, List.length_cons, List.length_nil, List.length_append, Nat.zero_add, Nat.reduceAdd, Nat.reduceSub, Nat.reduceLT, Nat.reduceLeDiff, Nat.reduceBEq, Nat.reduceEqDiff, Int.reduceLT, Int.reduceLE, Int.reduceNeg, Int.reduceEq, Int.reduceToNat, reduceIte, reduceCtorEq, List.contains_nil, List.contains_cons, List.cons_append, List.nil_append, if_true, if_false, ite_true, ite_false, Bool.false_eq_true, decide_true, decide_false, Bool.not_true, Bool.not_false, Bool.and_true, Bool.true_and, Bool.and_self, Bool.and_false, Bool.false_and, Bool.or_false, Bool.or_true, Bool.false_or, Bool.true_or, List.all_cons, List.all_nil, ixN_zero, ixN_1, ixN_2, ixN_3, ixN_4, ixN_5, ixN_6, ixN_7, ixN_8, ixN_9, ixN_10, ixN_11, ixN_12, ixN_m1, ixN_m2, ixN_nat, Nat.reduceLT, and_self, and_true, true_and, not_false_eq_true, not_true_eq_false, beq_self_eq_true, ne_eq, not_true, not_false_iff, Nat.succ_ne_self, kSq, kRt, kRtN, kSet, kSetL, kIf, kPar, kTup, kSub, kAug, kEx, kNx, kBk, kCt, kFor, xCall, xAgs, xV, xBin, xUn, xIf, xTup, xLst, xIx, xCut, xPt, xAnd, xOr, tAn, tOrr, tNt, tC1, tCC, tX, xT, xBi, xIsi, xMut, xMet, xOs, xS, xC, rdO, rdOs, idxD, atI, binD, addD, subD, mulD, divD, modD, unD, truthD, resD, newB, arr, pickS, nodupB, slotsOf, ownAll, xVs, outI, afterIo, putBack, biD, lenB, lenD, absB, intB, cmpD, eqD_int, eqD_str, eqD_bool, ltD_int, PySem.W.dataLt_int, isD, isNoneD, g1, gN', setsD, seqD, frz, mutD, setIx, xRng, xIt, itemsD, augD, tTr, hd0, hc1, hc0, hx1, hx2, hn1, hab, hb1, hg1, p1018, m0, mL, List.length_map, sz, mk]
          · have hg1 : decide (cell < 0) = false := decide_eq_false hneg
            refine ⟨(2 * ab + 0).fmod many, pn cs (n + 1) ((2 * ab + 0).fdiv many), ?_, (fmod_rng hm).1, (fmod_rng hm).2, cs, n + 1, _, rfl, by omega, by omega, h2⟩
            skip
            simp only [s6, ↓bind_m, Option.map_some, Option.map_none, List.getElem?_cons_zero, List.getElem?_cons_succ, List.getElem?_nil, List.set_cons_zero, List.set_cons_succ, List.length_cons, List.length_nil, List.length_append, Nat.zero_add, Nat.reduceAdd, Nat.reduceSub, Nat.reduceLT, Nat.reduceLeDiff, Nat.reduceBEq, Nat.reduceEqDiff, Int.reduceLT, Int.reduceLE, Int.reduceNeg, Int.reduceEq, Int.reduceToNat, reduceIte, reduceCtorEq, List.contains_nil, List.contains_cons, List.cons_append, List.nil_append, if_true, if_false, ite_true, ite_false, Bool.false_eq_true, decide_true, decide_false, Bool.not_true, Bool.not_false, Bool.and_true, Bool.true_and, Bool.and_self, Bool.and_false, Bool.false_and, Bool.or_false, Bool.or_true, Bool.false_or, Bool.true_or, List.all_cons, List.all_nil, ixN_zero, ixN_1, ixN_2, ixN_3, ixN_4, ixN_5, ixN_6, ixN_7, ixN_8, ixN_9, ixN_10, ixN_11, ixN_12, ixN_m1, ixN_m2, ixN_nat, Nat.reduceLT, and_self, and_true, true_and, not_false_eq_true, not_true_eq_false, beq_self_eq_true, ne_eq, not_true, not_false_iff, Nat.succ_ne_self, kSq, kRt, kRtN, kSet, kSetL, kIf, kPar, kTup, kSub, kAug, kEx, kNx, kBk, kCt, kFor, xCall, xAgs, xV, xBin, xUn, xIf, xTup, xLst, xIx, xCut, xPt, xAnd, xOr, tAn, tOrr, tNt, tC1, tCC, tX, xT, xBi, xIsi, xMut, xMet, xOs, xS, xC, rdO, rdOs, idxD, atI, binD, addD, subD, mulD, divD, modD, unD, truthD, resD, newB, arr, pickS, nodupB, slotsOf, ownAll, xVs, outI, afterIo, putBack, biD, lenB, lenD, absB, intB, cmpD, eqD_int, eqD_str, eqD_bool, ltD_int, PySem.W.dataLt_int, isD, isNoneD, g1, gN', setsD, seqD, frz, mutD, setIx, xRng, xIt, itemsD, augD, tTr, hd0, hc1, hc0, hx1, hx2, hn1, hab, hb1, hg1, p1018, m0, mL, List.length_map, sz, mk]
      · have hn1 : decide (n < (cs.length : Int)) = false := decide_eq_false hn
        refine ⟨((((((cell.fmod 2147483563 + 9461 * n + 257) ^ 3).fmod 2147483647 * (n + 50021) + cell.fmod 1033) ^ 2).fmod 2147483629).fdiv 128).fmod many, pn cs (n + 1) l, ?_, (fmod_rng hm).1, (fmod_rng hm).2, cs, n + 1, l, rfl, by omega, by omega, h2⟩
        skip
        simp only [s6, ↓bind_m, Option.map_some, Option.map_none, List.getElem?_cons_zero, List.getElem?_cons_succ, List.getElem?_nil, List.set_cons_zero, List.set_cons_succ, List.length_cons, List.length_nil, List.length_append, Nat.zero_add, Nat.reduceAdd, Nat.reduceSub, Nat.reduceLT, Nat.reduceLeDiff, Nat.reduceBEq, Nat.reduceEqDiff, Int.reduceLT, Int.reduceLE, Int.reduceNeg, Int.reduceEq, Int.reduceToNat, reduceIte, reduceCtorEq, List.contains_nil, List.contains_cons, List.cons_append, List.nil_append, if_true, if_false, ite_true, ite_false, Bool.false_eq_true, decide_true, decide_false, Bool.not_true, Bool.not_false, Bool.and_true, Bool.true_and, Bool.and_self, Bool.and_false, Bool.false_and, Bool.or_false, Bool.or_true, Bool.false_or, Bool.true_or, List.all_cons, List.all_nil, ixN_zero, ixN_1, ixN_2, ixN_3, ixN_4, ixN_5, ixN_6, ixN_7, ixN_8, ixN_9, ixN_10, ixN_11, ixN_12, ixN_m1, ixN_m2, ixN_nat, Nat.reduceLT, and_self, and_true, true_and, not_false_eq_true, not_true_eq_false, beq_self_eq_true, ne_eq, not_true, not_false_iff, Nat.succ_ne_self, kSq, kRt, kRtN, kSet, kSetL, kIf, kPar, kTup, kSub, kAug, kEx, kNx, kBk, kCt, kFor, xCall, xAgs, xV, xBin, xUn, xIf, xTup, xLst, xIx, xCut, xPt, xAnd, xOr, tAn, tOrr, tNt, tC1, tCC, tX, xT, xBi, xIsi, xMut, xMet, xOs, xS, xC, rdO, rdOs, idxD, atI, binD, addD, subD, mulD, divD, modD, unD, truthD, resD, newB, arr, pickS, nodupB, slotsOf, ownAll, xVs, outI, afterIo, putBack, biD, lenB, lenD, absB, intB, cmpD, eqD_int, eqD_str, eqD_bool, ltD_int, PySem.W.dataLt_int, isD, isNoneD, g1, gN', setsD, seqD, frz, mutD, setIx, xRng, xIt, itemsD, augD, tTr, hd0, hc1, hc0, hx1, hx2, hn1, m0, mL, List.length_map, sz, w1, w2, w3, w4, nm2, nm3, nm4, nm5, nm6, dv]
    · have hc1 : decide (0 < (cs.length : Int)) = false := decide_eq_false hcs
      have hn1 : decide (n < (cs.length : Int)) = false := decide_eq_false (by omega)
      obtain ⟨w1, w2, w3, w4⟩ := low 127
      refine ⟨(((((((127 : Int).fmod 2147483563 + 9461 * n + 257) ^ 3).fmod 2147483647 * (n + 50021) + (127 : Int).fmod 1033) ^ 2).fmod 2147483629).fdiv 128).fmod many, pn cs (n + 1) l, ?_, (fmod_rng hm).1, (fmod_rng hm).2, cs, n + 1, l, rfl, by omega, by omega, h2⟩
      skip
      simp only [s6, ↓bind_m, Option.map_some, Option.map_none, List.getElem?_cons_zero, List.getElem?_cons_succ, List.getElem?_nil, List.set_cons_zero, List.set_cons_succ, List.length_cons, List.length_nil, List.length_append, Nat.zero_add, Nat.reduceAdd, Nat.reduceSub, Nat.reduceLT, Nat.reduceLeDiff, Nat.reduceBEq, Nat.reduceEqDiff, Int.reduceLT, Int.reduceLE, Int.reduceNeg, Int.reduceEq, Int.reduceToNat, reduceIte, reduceCtorEq, List.contains_nil, List.contains_cons, List.cons_append, List.nil_append, if_true, if_false, ite_true, ite_false, Bool.false_eq_true, decide_true, decide_false, Bool.not_true, Bool.not_false, Bool.and_true, Bool.true_and, Bool.and_self, Bool.and_false, Bool.false_and, Bool.or_false, Bool.or_true, Bool.false_or, Bool.true_or, List.all_cons, List.all_nil, ixN_zero, ixN_1, ixN_2, ixN_3, ixN_4, ixN_5, ixN_6, ixN_7, ixN_8, ixN_9, ixN_10, ixN_11, ixN_12, ixN_m1, ixN_m2, ixN_nat, Nat.reduceLT, and_self, and_true, true_and, not_false_eq_true, not_true_eq_false, beq_self_eq_true, ne_eq, not_true, not_false_iff, Nat.succ_ne_self, kSq, kRt, kRtN, kSet, kSetL, kIf, kPar, kTup, kSub, kAug, kEx, kNx, kBk, kCt, kFor, xCall, xAgs, xV, xBin, xUn, xIf, xTup, xLst, xIx, xCut, xPt, xAnd, xOr, tAn, tOrr, tNt, tC1, tCC, tX, xT, xBi, xIsi, xMut, xMet, xOs, xS, xC, rdO, rdOs, idxD, atI, binD, addD, subD, mulD, divD, modD, unD, truthD, resD, newB, arr, pickS, nodupB, slotsOf, ownAll, xVs, outI, afterIo, putBack, biD, lenB, lenD, absB, intB, cmpD, eqD_int, eqD_str, eqD_bool, ltD_int, PySem.W.dataLt_int, isD, isNoneD, g1, gN', setsD, seqD, frz, mutD, setIx, xRng, xIt, itemsD, augD, tTr, hd0, hc1, hn1, m0, mL, List.length_map, sz, w1, w2, w3, w4, nm2, nm3, nm4, nm5, nm6, dv]
end K30


namespace K30
open PySem PySem.Spec L2 Pf
/-! ## numbers -/
theorem at_ok {n : Nat} {v : Int} (h0 : 0 ≤ v) (h1 : v < n) : ixN n v = some v.toNat ∧ v.toNat < n := by
  unfold ixN
  rw [if_pos h0, if_pos h1]
  exact ⟨rfl, by omega⟩
theorem pick_int {zs : List Int} {j : Nat} (hj : j < zs.length) (h : ∀ z ∈ zs, Bd z) : ∃ z, (zs.map PyData.int)[j]? = some (.int z) ∧ Bd z :=
  ⟨zs[j], by simp [hj], h _ (List.getElem_mem hj)⟩
theorem number_ok (k : Nat) {t : Nat} {p : PyData} (hp : Pen t p) (ht : t < 1000000) : ∃ v p', Γ (k + 2) "_law_number" [p] = some (false, .int v, [p']) ∧ v.natAbs < 2 ^ 500 ∧ Pen (t + 5) p' := by
  obtain ⟨v1, p1, e1, a1, b1, h1⟩ := take_ok k hp (many := 1000000) (by decide) (by decide) (by omega)
  obtain ⟨v2, p2, e2, a2, b2, h2⟩ := take_ok k h1 (many := 1000000) (by decide) (by decide) (by omega)
  obtain ⟨v3, p3, e3, a3, b3, h3⟩ := take_ok k h2 (many := 13) (by decide) (by decide) (by omega)
  obtain ⟨v4, p4, e4, a4, b4, h4⟩ := take_ok k h3 (many := 8) (by decide) (by decide) (by omega)
  obtain ⟨v5, p5, e5, a5, b5, h5⟩ := take_ok k h4 (many := 2) (by decide) (by decide) (by omega)
  have mk1 : mulOk v1 1000000 = true := mul_small (by omega)
  obtain ⟨far, hf⟩ : ∃ far, v1 * 1000000 + v2 = far := ⟨_, rfl⟩
  have f1 : far.natAbs < 2 ^ 40 := by omega
  have f2 := mul_lt f1 f1
  have f3 := mul_lt f2 f1
  have f4 := mul_lt f3 f1
  have f5 := mul_lt f4 f1
  have m2 := mulOk_of f1 f1 (by decide) (by decide) (by decide)
  have m3 := mulOk_of f2 f1 (by decide) (by decide) (by decide)
  have m4 := mulOk_of f3 f1 (by decide) (by decide) (by decide)
  have m5 := mulOk_of f4 f1 (by decide) (by decide) (by decide)
  have m6 : mulOk 2 far = true := mul_small (by decide)
  obtain ⟨i1, j1⟩ := at_ok (n := 8) a4 b4
  obtain ⟨i2, j2⟩ := at_ok (n := 2) a5 b5
  obtain ⟨z, z1, z2⟩ : ∃ z, ([.int 0, .int 1, .int v3, .int far, .int (far * far * far * far * far), .int 720720, .int (2 * far), .int 1000000000] : List PyData)[v4.toNat]? = some (.int z) ∧ z.natAbs < 2 ^ 450 := by
    have big : far.natAbs < 2 ^ 450 := Nat.lt_of_lt_of_le f1 (pow_fit (by decide))
    have one : ∀ x : Int, x.natAbs < 2 ^ 60 → x.natAbs < 2 ^ 450 := fun x h => Nat.lt_of_lt_of_le h (pow_fit (by decide))
    have : v4.toNat = 0 ∨ v4.toNat = 1 ∨ v4.toNat = 2 ∨ v4.toNat = 3 ∨ v4.toNat = 4 ∨ v4.toNat = 5 ∨ v4.toNat = 6 ∨ v4.toNat = 7 := by omega
    rcases this with h | h | h | h | h | h | h | h <;> rw [h]
    · exact ⟨0, rfl, one _ (by decide)⟩
    · exact ⟨1, rfl, one _ (by decide)⟩
    · exact ⟨v3, rfl, one _ (by omega)⟩
    · exact ⟨far, rfl, big⟩
    · exact ⟨_, rfl, Nat.lt_of_lt_of_le f5 (pow_fit (by decide))⟩
    · exact ⟨720720, rfl, one _ (by decide)⟩
    · exact ⟨2 * far, rfl, one _ (by omega)⟩
    · exact ⟨1000000000, rfl, one _ (by decide)⟩
  obtain ⟨s, s1, s2⟩ : ∃ s, ([.int 1, .int (-1)] : List PyData)[v5.toNat]? = some (.int s) ∧ s.natAbs < 2 ^ 2 := by
    have : v5.toNat = 0 ∨ v5.toNat = 1 := by omega
    rcases this with h | h <;> rw [h]
    · exact ⟨1, rfl, by decide⟩
    · exact ⟨-1, rfl, by decide⟩
  have m7 := mulOk_of z2 s2 (by decide) (by decide) (by decide)
  have l8 : 8 ≤ sizeLine := by decide
  refine ⟨z * s, p5, ?_, Nat.lt_of_lt_of_le (mul_lt z2 s2) (pow_fit (by decide)), h5⟩
  rw [c8]
  simp only [s8, ↓bind_m, Option.map_some, Option.map_none, List.getElem?_cons_zero, List.getElem?_cons_succ, List.getElem?_nil, List.set_cons_zero, List.set_cons_succ, List.length_cons, List.length_nil, List.length_append, Nat.zero_add, Nat.reduceAdd, Nat.reduceSub, Nat.reduceLT, Nat.reduceLeDiff, Nat.reduceBEq, Nat.reduceEqDiff, Int.reduceLT, Int.reduceLE, Int.reduceNeg, Int.reduceEq, Int.reduceToNat, reduceIte, reduceCtorEq, List.contains_nil, List.contains_cons, List.cons_append, List.nil_append, if_true, if_false, ite_true, ite_false, Bool.false_eq_true, decide_true, decide_false, Bool.not_true, Bool.not_false, Bool.and_true, Bool.true_and, Bool.and_self, Bool.and_false, Bool.false_and, Bool.or_false, Bool.or_true, Bool.false_or, Bool.true_or, List.all_cons, List.all_nil, ixN_zero, ixN_1, ixN_2, ixN_3, ixN_4, ixN_5, ixN_6, ixN_7, ixN_8, ixN_9, ixN_10, ixN_11, ixN_12, ixN_m1, ixN_m2, ixN_nat, Nat.reduceLT, and_self, and_true, true_and, not_false_eq_true, not_true_eq_false, beq_self_eq_true, ne_eq, not_true, not_false_iff, Nat.succ_ne_self, kSq, kRt, kRtN, kSet, kSetL, kIf, kPar, kTup, kSub, kAug, kEx, kNx, kBk, kCt, kFor, xCall, xAgs, xV, xBin, xUn, xIf, xTup, xLst, xIx, xCut, xPt, xAnd, xOr, tAn, tOrr, tNt, tC1, tCC, tX, xT, xBi, xIsi, xMut, xMet, xOs, xS, xC, rdO, rdOs, idxD, atI, binD, addD, subD, mulD, divD, modD, unD, truthD, resD, newB, arr, pickS, nodupB, slotsOf, ownAll, xVs, outI, afterIo, putBack, biD, lenB, lenD, absB, intB, cmpD, eqD_int, eqD_str, eqD_bool, ltD_int, PySem.W.dataLt_int, isD, isNoneD, g1, gN', setsD, seqD, frz, mutD, setIx, xRng, xIt, itemsD, augD, tTr, p106, p109, e1, e2, e3, e4, e5, mk1, hf, m2, m3, m4, m5, m6, m7, i1, i2, z1, s1, l8, size_two]
end K30


namespace K30
open PySem PySem.Spec L2 Pf
theorem pen_ok (k : Nat) (ns : List Int) (h : ns.length ≤ 63) : ∃ p, Γ (k + 1) "_law_pen" [scrD (ns.map .int)] = some (true, p, [scrD (ns.map .int)]) ∧ Pen 0 p := by
  obtain ⟨cs, e, l⟩ : ∃ cs : List Int, cutP (ns.map PyData.int) none (some 63) = cs.map .int ∧ cs.length ≤ 63 := by
    refine ⟨(ns.drop (HT.sIx (ns.map PyData.int).length 0 none)).take (HT.sIx (ns.map PyData.int).length (ns.map PyData.int).length (some 63) - HT.sIx (ns.map PyData.int).length 0 none), ?_, ?_⟩
    · unfold cutP
      rw [List.map_take, List.map_drop]
    · simp only [List.length_take, List.length_drop]
      omega
  refine ⟨pn cs 0 0, ?_, cs, 0, 0, rfl, by decide, by simp, l⟩
  rw [c5]
  have l3 : 3 ≤ sizeLine := by decide
  simp only [s5, scrD, cutD, ↓bind_m, Option.map_some, Option.map_none, List.getElem?_cons_zero, List.getElem?_cons_succ, List.getElem?_nil, List.set_cons_zero, List.set_cons_succ, List.length_cons, List.length_nil, List.length_append, Nat.zero_add, Nat.reduceAdd, Nat.reduceSub, Nat.reduceLT, Nat.reduceLeDiff, Nat.reduceBEq, Nat.reduceEqDiff, Int.reduceLT, Int.reduceLE, Int.reduceNeg, Int.reduceEq, Int.reduceToNat, reduceIte, reduceCtorEq, List.contains_nil, List.contains_cons, List.cons_append, List.nil_append, if_true, if_false, ite_true, ite_false, Bool.false_eq_true, decide_true, decide_false, Bool.not_true, Bool.not_false, Bool.and_true, Bool.true_and, Bool.and_self, Bool.and_false, Bool.false_and, Bool.or_false, Bool.or_true, Bool.false_or, Bool.true_or, List.all_cons, List.all_nil, ixN_zero, ixN_1, ixN_2, ixN_3, ixN_4, ixN_5, ixN_6, ixN_7, ixN_8, ixN_9, ixN_10, ixN_11, ixN_12, ixN_m1, ixN_m2, ixN_nat, Nat.reduceLT, and_self, and_true, true_and, not_false_eq_true, not_true_eq_false, beq_self_eq_true, ne_eq, not_true, not_false_iff, Nat.succ_ne_self, kSq, kRt, kRtN, kSet, kSetL, kIf, kPar, kTup, kSub, kAug, kEx, kNx, kBk, kCt, kFor, xCall, xAgs, xV, xBin, xUn, xIf, xTup, xLst, xIx, xCut, xPt, xAnd, xOr, tAn, tOrr, tNt, tC1, tCC, tX, xT, xBi, xIsi, xMut, xMet, xOs, xS, xC, rdO, rdOs, idxD, atI, binD, addD, subD, mulD, divD, modD, unD, truthD, resD, newB, arr, pickS, nodupB, slotsOf, ownAll, xVs, outI, afterIo, putBack, biD, lenB, lenD, absB, intB, cmpD, eqD_int, eqD_str, eqD_bool, ltD_int, PySem.W.dataLt_int, isD, isNoneD, g1, gN', setsD, seqD, frz, mutD, setIx, xRng, xIt, itemsD, augD, tTr, e, l3]
def Sh (d : PyData) : Prop := ∃ a b, d = tw a b ∧ Bd a ∧ Bd b ∧ b ≠ 0
theorem Sh.fine {d : PyData} (h : Sh d) : Fine d := by
  obtain ⟨a, b, rfl, h1, h2, _⟩ := h
  exact ⟨a, b, rfl, Nat.lt_of_lt_of_le h1 (pow_fit (by decide)), Nat.lt_of_lt_of_le h2 (pow_fit (by decide))⟩
theorem shD_one (t : Int) : shD t 1 = tw t 1 := by
  simp [shD, tw, Int.fdiv_one]
theorem repr_eq (d : PyData) (h : reprOk d = true) : reprB [d] = some (.str d.shown) := by
  simp only [reprB, h, if_true]
/-- the first eight turns -/
theorem turn1 (k : Nat) {t : Nat} {p a0 : PyData} {a4 a5 a6 : Option (Bool × PyData)} {ds : List PyData} {x : PyData} (hp : Pen t p) (ht : t < 900000) (hl : ds.length ≤ 100) :
    ∃ p' b4 b5 b6 d, Pen (t + 20) p' ∧ Sh d ∧ kSq (b10_0 (Γ (k + 4))) [some (false, a0), some (true, p), some (true, .list ds), some (false, x), a4, a5, a6, none, none, none] =
      some (.nx [some (false, a0), some (true, p'), some (true, .list (ds ++ [d])), some (false, x), b4, b5, b6, none, none, none]) := by
  obtain ⟨up, p1, e1, u1, h1⟩ := number_ok (k + 2) hp (by omega)
  obtain ⟨dn, p2, e2, u2, h2⟩ := number_ok (k + 2) h1 (by omega)
  have fin : ∀ dw : Int, dw ≠ 0 → dw.natAbs < 2 ^ 500 → Sh (shD up dw) ∧ Γ (k + 4) "_law_short" [.int up, .int dw] = some (false, shD up dw, [.int up, .int dw]) ∧ Γ (k + 4) "share_of" [.int up, .int dw] = some (false, shD up dw, [.int up, .int dw]) ∧ reprOk (shD up dw) = true := fun dw h0 hb => by
    have w1 : up.natAbs < 2 ^ 1300 := Nat.lt_of_lt_of_le u1 (pow_fit (by decide))
    have w2 : dw.natAbs < 2 ^ 1300 := Nat.lt_of_lt_of_le hb (pow_fit (by decide))
    have w3 : dw.natAbs < 2 ^ 4000 := Nat.lt_of_lt_of_le hb (pow_fit (by decide))
    refine ⟨?_, short_ok (k + 3) up dw h0 w3, share_ok (k + 2) up dw h0 w3, repr_one (fine_of w1 w2 h0)⟩
    obtain ⟨x, y, e, q1, q2, q3⟩ := shD_tw up dw h0
    exact ⟨x, y, e, Nat.lt_of_lt_of_le (Nat.lt_of_le_of_lt q1 u1) (pow_fit (by decide)), Nat.lt_of_lt_of_le (Nat.lt_of_le_of_lt q2 hb) (pow_fit (by decide)), q3⟩
  have so := share_ok (k + 2) up 1 (by decide) (by decide)
  rw [shD_one] at so
  simp only [tw] at so
  have ro : reprOk (.tuple [.int up, .int 1]) = true := repr_one ⟨up, 1, rfl, Nat.lt_of_lt_of_le u1 (pow_fit (by decide)), Nat.lt_of_lt_of_le (show (1 : Int).natAbs < 2 ^ 1 by decide) (pow_fit (by decide))⟩
  have dl : ds.length < sizeLine := Nat.lt_of_le_of_lt hl (by decide)
  by_cases hd : dn = 0
  · obtain ⟨v, p3, e3, a3, b3, h3⟩ := take_ok (k + 3) h2 (many := 3) (by decide) (by decide) (by omega)
    obtain ⟨i1, j1⟩ := at_ok (n := 3) a3 b3
    obtain ⟨z, z1, z2, z3⟩ : ∃ z, ([.int 1, .int (-1), .int 6] : List PyData)[v.toNat]? = some (.int z) ∧ z ≠ 0 ∧ z.natAbs < 2 ^ 500 := by
      have : v.toNat = 0 ∨ v.toNat = 1 ∨ v.toNat = 2 := by omega
      rcases this with h | h | h <;> rw [h]
      · exact ⟨1, rfl, by decide, Nat.lt_of_lt_of_le (show (1 : Int).natAbs < 2 ^ 3 by decide) (pow_fit (by decide))⟩
      · exact ⟨-1, rfl, by decide, Nat.lt_of_lt_of_le (show (-1 : Int).natAbs < 2 ^ 3 by decide) (pow_fit (by decide))⟩
      · exact ⟨6, rfl, by decide, Nat.lt_of_lt_of_le (show (6 : Int).natAbs < 2 ^ 3 by decide) (pow_fit (by decide))⟩
    obtain ⟨s1, s2, s3, s4⟩ := fin z z2 z3
    generalize shD up z = r at s1 s2 s3 s4
    have hd0 : decide (dn = 0) = true := decide_eq_true hd
    have l3 : 3 ≤ sizeLine := by decide
    refine ⟨p3, some (false, .int up), some (false, .int z), some (false, r), r, h3.mono (by omega), s1, ?_⟩
    simp only [b10_0, ↓bind_m, Option.map_some, Option.map_none, List.getElem?_cons_zero, List.getElem?_cons_succ, List.getElem?_nil, List.set_cons_zero, List.set_cons_succ, List.length_cons, List.length_nil, List.length_append, Nat.zero_add, Nat.reduceAdd, Nat.reduceSub, Nat.reduceLT, Nat.reduceLeDiff, Nat.reduceBEq, Nat.reduceEqDiff, Int.reduceLT, Int.reduceLE, Int.reduceNeg, Int.reduceEq, Int.reduceToNat, reduceIte, reduceCtorEq, List.contains_nil, List.contains_cons, List.cons_append, List.nil_append, if_true, if_false, ite_true, ite_false, Bool.false_eq_true, decide_true, decide_false, Bool.not_true, Bool.not_false, Bool.and_true, Bool.true_and, Bool.and_self, Bool.and_false, Bool.false_and, Bool.or_false, Bool.or_true, Bool.false_or, Bool.true_or, List.all_cons, List.all_nil, ixN_zero, ixN_1, ixN_2, ixN_3, ixN_4, ixN_5, ixN_6, ixN_7, ixN_8, ixN_9, ixN_10, ixN_11, ixN_12, ixN_m1, ixN_m2, ixN_nat, Nat.reduceLT, and_self, and_true, true_and, not_false_eq_true, not_true_eq_false, beq_self_eq_true, ne_eq, not_true, not_false_iff, Nat.succ_ne_self, kSq, kRt, kRtN, kSet, kSetL, kIf, kPar, kTup, kSub, kAug, kEx, kNx, kBk, kCt, kFor, xCall, xAgs, xV, xBin, xUn, xIf, xTup, xLst, xIx, xCut, xPt, xAnd, xOr, tAn, tOrr, tNt, tC1, tCC, tX, xT, xBi, xIsi, xMut, xMet, xOs, xS, xC, rdO, rdOs, idxD, atI, binD, addD, subD, mulD, divD, modD, unD, truthD, resD, newB, arr, pickS, nodupB, slotsOf, ownAll, xVs, outI, afterIo, putBack, biD, lenB, lenD, absB, intB, cmpD, eqD_int, eqD_str, eqD_bool, ltD_int, PySem.W.dataLt_int, isD, isNoneD, g1, gN', setsD, seqD, frz, mutD, setIx, xRng, xIt, itemsD, augD, tTr, e1, e2, e3, hd0, i1, z1, l3, s2, s3, so, repr_eq _ s4, repr_eq _ ro, size_two, dl]
  · obtain ⟨s1, s2, s3, s4⟩ := fin dn hd u2
    generalize shD up dn = r at s1 s2 s3 s4
    have hd0 : decide (dn = 0) = false := decide_eq_false hd
    refine ⟨p2, some (false, .int up), some (false, .int dn), some (false, r), r, h2.mono (by omega), s1, ?_⟩
    simp only [b10_0, ↓bind_m, Option.map_some, Option.map_none, List.getElem?_cons_zero, List.getElem?_cons_succ, List.getElem?_nil, List.set_cons_zero, List.set_cons_succ, List.length_cons, List.length_nil, List.length_append, Nat.zero_add, Nat.reduceAdd, Nat.reduceSub, Nat.reduceLT, Nat.reduceLeDiff, Nat.reduceBEq, Nat.reduceEqDiff, Int.reduceLT, Int.reduceLE, Int.reduceNeg, Int.reduceEq, Int.reduceToNat, reduceIte, reduceCtorEq, List.contains_nil, List.contains_cons, List.cons_append, List.nil_append, if_true, if_false, ite_true, ite_false, Bool.false_eq_true, decide_true, decide_false, Bool.not_true, Bool.not_false, Bool.and_true, Bool.true_and, Bool.and_self, Bool.and_false, Bool.false_and, Bool.or_false, Bool.or_true, Bool.false_or, Bool.true_or, List.all_cons, List.all_nil, ixN_zero, ixN_1, ixN_2, ixN_3, ixN_4, ixN_5, ixN_6, ixN_7, ixN_8, ixN_9, ixN_10, ixN_11, ixN_12, ixN_m1, ixN_m2, ixN_nat, Nat.reduceLT, and_self, and_true, true_and, not_false_eq_true, not_true_eq_false, beq_self_eq_true, ne_eq, not_true, not_false_iff, Nat.succ_ne_self, kSq, kRt, kRtN, kSet, kSetL, kIf, kPar, kTup, kSub, kAug, kEx, kNx, kBk, kCt, kFor, xCall, xAgs, xV, xBin, xUn, xIf, xTup, xLst, xIx, xCut, xPt, xAnd, xOr, tAn, tOrr, tNt, tC1, tCC, tX, xT, xBi, xIsi, xMut, xMet, xOs, xS, xC, rdO, rdOs, idxD, atI, binD, addD, subD, mulD, divD, modD, unD, truthD, resD, newB, arr, pickS, nodupB, slotsOf, ownAll, xVs, outI, afterIo, putBack, biD, lenB, lenD, absB, intB, cmpD, eqD_int, eqD_str, eqD_bool, ltD_int, PySem.W.dataLt_int, isD, isNoneD, g1, gN', setsD, seqD, frz, mutD, setIx, xRng, xIt, itemsD, augD, tTr, e1, e2, hd0, s2, s3, so, repr_eq _ s4, repr_eq _ ro, size_two, dl]
end K30


namespace K30
open PySem PySem.Spec L2 Pf
theorem turn2 (k : Nat) {t : Nat} {p a0 : PyData} {a4 a5 a6 a7 a8 a9 : Option (Bool × PyData)} {ds : List PyData} {x : PyData} (hp : Pen t p) (ht : t < 900000) (hl : ds.length = 10) (hs : ∀ d ∈ ds, Sh d) :
    ∃ p' b7 b8 b9, Pen (t + 20) p' ∧ kSq (b10_1 (Γ (k + 4))) [some (false, a0), some (true, p), some (true, .list ds), some (false, x), a4, a5, a6, a7, a8, a9] =
      some (.nx [some (false, a0), some (true, p'), some (true, .list ds), some (false, x), a4, a5, a6, b7, b8, b9]) := by
  obtain ⟨v, p1, e1, u1, w1, h1⟩ := take_ok (k + 3) hp (many := 10) (by decide) (by decide) (by omega)
  obtain ⟨v', p2, e2, u2, w2, h2⟩ := take_ok (k + 3) h1 (many := 10) (by decide) (by decide) (by omega)
  obtain ⟨i1, j1⟩ := at_ok (n := ds.length) u1 (by omega)
  obtain ⟨i2, j2⟩ := at_ok (n := ds.length) u2 (by omega)
  have g1 : ds[v.toNat]? = some ds[v.toNat] := List.getElem?_eq_getElem j1
  have g2 : ds[v'.toNat]? = some ds[v'.toNat] := List.getElem?_eq_getElem j2
  obtain ⟨a, b, q1, r1, r2, r3⟩ := hs _ (List.getElem_mem j1)
  obtain ⟨c, d, q2, r4, r5, r6⟩ := hs _ (List.getElem_mem j2)
  have po := pair_ok k r1 r2 r4 r5 r3 r6
  have rp : reprOk (.tuple [tw a b, tw c d]) = true := repr_tup (fun z hz => by
    rcases List.mem_cons.mp hz with rfl | hz
    · exact Sh.fine ⟨a, b, rfl, r1, r2, r3⟩
    · rcases List.mem_cons.mp hz with rfl | hz
      · exact Sh.fine ⟨c, d, rfl, r4, r5, r6⟩
      · cases hz) (by simp)
  rw [q1] at g1
  rw [q2] at g2
  generalize tw a b = m1 at *
  generalize tw c d = m2 at *
  refine ⟨p2, some (false, m1), some (false, m2), some (false, .str (PyData.tuple [m1, m2]).shown), h2.mono (by omega), ?_⟩
  skip
  simp only [b10_1, ↓bind_m, Option.map_some, Option.map_none, List.getElem?_cons_zero, List.getElem?_cons_succ, List.getElem?_nil, List.set_cons_zero, List.set_cons_succ, List.length_cons, List.length_nil, List.length_append, Nat.zero_add, Nat.reduceAdd, Nat.reduceSub, Nat.reduceLT, Nat.reduceLeDiff, Nat.reduceBEq, Nat.reduceEqDiff, Int.reduceLT, Int.reduceLE, Int.reduceNeg, Int.reduceEq, Int.reduceToNat, reduceIte, reduceCtorEq, List.contains_nil, List.contains_cons, List.cons_append, List.nil_append, if_true, if_false, ite_true, ite_false, Bool.false_eq_true, decide_true, decide_false, Bool.not_true, Bool.not_false, Bool.and_true, Bool.true_and, Bool.and_self, Bool.and_false, Bool.false_and, Bool.or_false, Bool.or_true, Bool.false_or, Bool.true_or, List.all_cons, List.all_nil, ixN_zero, ixN_1, ixN_2, ixN_3, ixN_4, ixN_5, ixN_6, ixN_7, ixN_8, ixN_9, ixN_10, ixN_11, ixN_12, ixN_m1, ixN_m2, ixN_nat, Nat.reduceLT, and_self, and_true, true_and, not_false_eq_true, not_true_eq_false, beq_self_eq_true, ne_eq, not_true, not_false_iff, Nat.succ_ne_self, kSq, kRt, kRtN, kSet, kSetL, kIf, kPar, kTup, kSub, kAug, kEx, kNx, kBk, kCt, kFor, xCall, xAgs, xV, xBin, xUn, xIf, xTup, xLst, xIx, xCut, xPt, xAnd, xOr, tAn, tOrr, tNt, tC1, tCC, tX, xT, xBi, xIsi, xMut, xMet, xOs, xS, xC, rdO, rdOs, idxD, atI, binD, addD, subD, mulD, divD, modD, unD, truthD, resD, newB, arr, pickS, nodupB, slotsOf, ownAll, xVs, outI, afterIo, putBack, biD, lenB, lenD, absB, intB, cmpD, eqD_int, eqD_str, eqD_bool, ltD_int, PySem.W.dataLt_int, isD, isNoneD, g1, gN', setsD, seqD, frz, mutD, setIx, xRng, xIt, itemsD, augD, tTr, e1, e2, i1, i2, g1, g2, po, repr_eq _ rp, size_two]
theorem loop1 (k : Nat) {a0 : PyData} : ∀ (xs : List PyData) (t : Nat) (p : PyData) (a3 a4 a5 a6 : Option (Bool × PyData)) (ds : List PyData), Pen t p → t + 20 * xs.length < 900000 → ds.length + xs.length ≤ 100 → (∀ d ∈ ds, Sh d) →
    ∃ p' b3 b4 b5 b6 ds', Pen (t + 20 * xs.length) p' ∧ ds'.length = ds.length + xs.length ∧ (∀ d ∈ ds', Sh d) ∧ kLoop (Pf.g1 3) (b10_0 (Γ (k + 4))) xs [some (false, a0), some (true, p), some (true, .list ds), a3, a4, a5, a6, none, none, none] =
      some (.nx [some (false, a0), some (true, p'), some (true, .list ds'), b3, b4, b5, b6, none, none, none])
  | [], t, p, a3, a4, a5, a6, ds, hp, _, _, hs => ⟨p, a3, a4, a5, a6, ds, hp, rfl, hs, kLoop_nil⟩
  | x :: xs, t, p, a3, a4, a5, a6, ds, hp, ht, hl, hs => by
    simp only [List.length_cons] at ht hl
    obtain ⟨p1, b4, b5, b6, d, h1, h2, e⟩ := turn1 k (a0 := a0) (a4 := a4) (a5 := a5) (a6 := a6) (ds := ds) (x := x) hp (by omega) (by omega)
    obtain ⟨p', c3, c4, c5, c6, ds', h3, h4, h5, e2⟩ := loop1 k (a0 := a0) xs (t + 20) p1 (some (false, x)) b4 b5 b6 (ds ++ [d]) h1 (by omega) (by simp; omega) (fun z hz => by
      rcases List.mem_append.mp hz with hz | hz
      · exact hs z hz
      · rw [List.mem_singleton.mp hz]; exact h2)
    refine ⟨p', c3, c4, c5, c6, ds', h3.mono (by simp only [List.length_cons]; omega), by rw [h4]; simp; omega, h5, ?_⟩
    rw [kLoop_cons]
    simp only [Pf.g1, List.set_cons_zero, List.set_cons_succ, Option.bind_some, e, e2]
theorem loop2 (k : Nat) {a0 : PyData} {ds : List PyData} {a4 a5 a6 : Option (Bool × PyData)} (hl : ds.length = 10) (hs : ∀ d ∈ ds, Sh d) : ∀ (xs : List PyData) (t : Nat) (p : PyData) (a3 a7 a8 a9 : Option (Bool × PyData)), Pen t p → t + 20 * xs.length < 900000 →
    ∃ p' b3 b7 b8 b9, kLoop (Pf.g1 3) (b10_1 (Γ (k + 4))) xs [some (false, a0), some (true, p), some (true, .list ds), a3, a4, a5, a6, a7, a8, a9] =
      some (.nx [some (false, a0), some (true, p'), some (true, .list ds), b3, a4, a5, a6, b7, b8, b9])
  | [], t, p, a3, a7, a8, a9, hp, _ => ⟨p, a3, a7, a8, a9, kLoop_nil⟩
  | x :: xs, t, p, a3, a7, a8, a9, hp, ht => by
    simp only [List.length_cons] at ht
    obtain ⟨p1, b7, b8, b9, h1, e⟩ := turn2 k (a0 := a0) (a4 := a4) (a5 := a5) (a6 := a6) (a7 := a7) (a8 := a8) (a9 := a9) (ds := ds) (x := x) hp (by omega) hl hs
    obtain ⟨p', c3, c7, c8, c9, e2⟩ := loop2 k (a0 := a0) (a4 := a4) (a5 := a5) (a6 := a6) hl hs xs (t + 20) p1 (some (false, x)) b7 b8 b9 h1 (by omega)
    refine ⟨p', c3, c7, c8, c9, ?_⟩
    rw [kLoop_cons]
    simp only [Pf.g1, List.set_cons_zero, List.set_cons_succ, Option.bind_some, e, e2]
def depth : Nat := 6
theorem law : ∀ ns : List Int, ns.length ≤ 63 → ∃ r0 ds0, Gam D G0 wf fuel depth e10.fe.name [scrD (ns.map .int)] = some (r0, .bool true, ds0) ∧ ds0.length = 1 := fun ns hns => by
  refine ⟨false, [scrD (ns.map .int)], ?_, rfl⟩
  obtain ⟨p, e1, h1⟩ := pen_ok 4 ns hns
  have d01 : Sh (.tuple [.int 0, .int 1]) := ⟨0, 1, rfl, Nat.lt_of_lt_of_le (show (0 : Int).natAbs < 2 ^ 1 by decide) (pow_fit (by decide)), Nat.lt_of_lt_of_le (show (1 : Int).natAbs < 2 ^ 1 by decide) (pow_fit (by decide)), by decide⟩
  have d11 : Sh (.tuple [.int 1, .int 1]) := ⟨1, 1, rfl, Nat.lt_of_lt_of_le (show (1 : Int).natAbs < 2 ^ 1 by decide) (pow_fit (by decide)), Nat.lt_of_lt_of_le (show (1 : Int).natAbs < 2 ^ 1 by decide) (pow_fit (by decide)), by decide⟩
  obtain ⟨p1, b3, b4, b5, b6, ds, h2, h3, h4, e2⟩ := loop1 1 (a0 := scrD (ns.map .int)) (intsFrom 0 8) 0 p none none none none [.tuple [.int 0, .int 1], .tuple [.int 1, .int 1]] h1 (by simp [intsFrom_length]) (by simp [intsFrom_length]) (fun d hd => by
    rcases List.mem_cons.mp hd with rfl | hd
    · exact d01
    · rw [List.mem_singleton.mp hd]; exact d11)
  rw [intsFrom_length] at h2 h3
  obtain ⟨p2, c3, c7, c8, c9, e3⟩ := loop2 1 (a0 := scrD (ns.map .int)) (a4 := b4) (a5 := b5) (a6 := b6) (by rw [h3]; rfl) h4 (intsFrom 0 16) _ p1 b3 none none none h2 (by simp [intsFrom_length])
  have r8 : rangeD [.int 8] = some (intsFrom 0 8) := rfl
  have r16 : rangeD [.int 16] = some (intsFrom 0 16) := rfl
  show Γ (5 + 1) "law" [scrD (ns.map .int)] = _
  rw [c10]
  simp only [s10, ↓bind_m, Option.map_some, Option.map_none, List.getElem?_cons_zero, List.getElem?_cons_succ, List.getElem?_nil, List.set_cons_zero, List.set_cons_succ, List.length_cons, List.length_nil, List.length_append, Nat.zero_add, Nat.reduceAdd, Nat.reduceSub, Nat.reduceLT, Nat.reduceLeDiff, Nat.reduceBEq, Nat.reduceEqDiff, Int.reduceLT, Int.reduceLE, Int.reduceNeg, Int.reduceEq, Int.reduceToNat, reduceIte, reduceCtorEq, List.contains_nil, List.contains_cons, List.cons_append, List.nil_append, if_true, if_false, ite_true, ite_false, Bool.false_eq_true, decide_true, decide_false, Bool.not_true, Bool.not_false, Bool.and_true, Bool.true_and, Bool.and_self, Bool.and_false, Bool.false_and, Bool.or_false, Bool.or_true, Bool.false_or, Bool.true_or, List.all_cons, List.all_nil, ixN_zero, ixN_1, ixN_2, ixN_3, ixN_4, ixN_5, ixN_6, ixN_7, ixN_8, ixN_9, ixN_10, ixN_11, ixN_12, ixN_m1, ixN_m2, ixN_nat, Nat.reduceLT, and_self, and_true, true_and, not_false_eq_true, not_true_eq_false, beq_self_eq_true, ne_eq, not_true, not_false_iff, Nat.succ_ne_self, kSq, kRt, kRtN, kSet, kSetL, kIf, kPar, kTup, kSub, kAug, kEx, kNx, kBk, kCt, kFor, xCall, xAgs, xV, xBin, xUn, xIf, xTup, xLst, xIx, xCut, xPt, xAnd, xOr, tAn, tOrr, tNt, tC1, tCC, tX, xT, xBi, xIsi, xMut, xMet, xOs, xS, xC, rdO, rdOs, idxD, atI, binD, addD, subD, mulD, divD, modD, unD, truthD, resD, newB, arr, pickS, nodupB, slotsOf, ownAll, xVs, outI, afterIo, putBack, biD, lenB, lenD, absB, intB, cmpD, eqD_int, eqD_str, eqD_bool, ltD_int, PySem.W.dataLt_int, isD, isNoneD, g1, gN', setsD, seqD, frz, mutD, setIx, xRng, xIt, itemsD, augD, tTr, e1, r8, r16, e2, e3, size_two]
end K30


open PySem PySem.W PyProof.Rows in
set_option maxRecDepth 100000 in
set_option maxHeartbeats 0 in
theorem PySem.Challenge.cw_pairfolds_k30_shares_reckoned_holds : PySem.Challenge.rw_pairfolds_k30_shares_reckoned.Holds := by
  w_on; o_law; k_head; (case hw => w_witness2)
  k_fill
  refine Pf.walk_end (l := PySem.Challenge.rw_pairfolds_k30_shares_reckoned) (n := 63) (k := K30.depth) (x := "_law_script") (D := K30.D) (G := K30.G0) (e := K30.e10) (wf := K30.wf) (fuel := K30.fuel) rfl (by decide) rfl ⟨rfl, by decide, by decide⟩ (fun w h Y => PySem.W.kIn_of Y) ?T (by simp [K30.D]) rfl rfl rfl List.mem_cons_self K30.law
  case T =>
    intro w mg fa h KX G hmg
    refine' K30.all_mk KX G ?a0 ?l0 ?c0 ?q0 ?a1 ?l1 ?c1 ?q1 ?d1 ?a2 ?l2 ?c2 ?q2 ?a3 ?l3 ?c3 ?q3 ?a4 ?l4 ?c4 ?q4 ?a5 ?l5 ?c5 ?q5 ?a6 ?l6 ?c6 ?q6 ?a7 ?l7 ?c7 ?q7 ?a8 ?l8 ?c8 ?q8 ?a9 ?l9 ?c9 ?q9 ?a10 ?l10 ?c10 ?q10 ?z_len ?z_abs ?z_int ?z_repr ?z_str ?z_range ?z_isinstance ?z_bool ?z_tuple ?z_list
    (case a0 => k_is)
    (case l0 => k_is)
    (case c0 => k_is)
    (case q0 => k_is)
    (case a1 => k_is)
    (case l1 => k_is)
    (case c1 => k_is)
    (case q1 => k_is)
    (case d1 => k_is)
    (case a2 => k_is)
    (case l2 => k_is)
    (case c2 => k_is)
    (case q2 => k_is)
    (case a3 => k_is)
    (case l3 => k_is)
    (case c3 => k_is)
    (case q3 => k_is)
    (case a4 => k_is)
    (case l4 => k_is)
    (case c4 => k_is)
    (case q4 => k_is)
    (case a5 => k_is)
    (case l5 => k_is)
    (case c5 => k_is)
    (case q5 => k_is)
    (case a6 => k_is)
    (case l6 => k_is)
    (case c6 => k_is)
    (case q6 => k_is)
    (case a7 => k_is)
    (case l7 => k_is)
    (case c7 => k_is)
    (case q7 => k_is)
    (case a8 => k_is)
    (case l8 => k_is)
    (case c8 => k_is)
    (case q8 => k_is)
    (case a9 => k_is)
    (case l9 => k_is)
    (case c9 => k_is)
    (case q9 => k_is)
    (case a10 => k_is)
    (case l10 => k_is)
    (case c10 => k_is)
    (case q10 => k_is)
    (case z_len => k_is)
    (case z_abs => k_is)
    (case z_int => k_is)
    (case z_repr => k_is)
    (case z_str => k_is)
    (case z_range => k_is)
    (case z_isinstance => k_is)
    (case z_bool => k_is)
    (case z_tuple => k_is)
    (case z_list => k_is)

