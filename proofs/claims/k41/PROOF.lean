import PyProof.Rows.All
import Wide.All
import OpenK.AllK
import Wide.FinOn
import HandS.ForMost
import HandS.ForSpec
import HandS.Wide
import HandS.Style
import HandS.Deep
import HandS.More
import HandS.Flow
import HandS.IsInst
import HandS.Zip
import HandS.TupAny
import HandS.TupLe
import KE.SortData
import KE.DataCmp
import HandS.DictTup
import HandS.Steps
import KE.GoesEnum
import PySem.Challenge.RW_tiedaloft_k41_whole_fewest_cuts
set_option Elab.async false
set_option linter.all false
set_option maxRecDepth 100000
set_option maxHeartbeats 4000000
/-! TdJ: a data layer over HandS: values as PyData (never changed again) and cells (still changed), readings as functions of these. -/
namespace Td
open PySem PySem.Spec PyProof.Rows L2

/-! ### data -/
mutual
inductive Dq (K : PySem.W.Frag) (F : Hp) : V → PyData → Prop
  | non : Dq K F .non .none
  | bl (b : Bool) : Dq K F (.bl b) (.bool b)
  | int (i : Int) : Dq K F (.int i) (.int i)
  | str (x : Str) : Dq K F (.str x) (.str x)
  | lst {a : Addr} {xs : List V} {ds : List PyData} : F a = some (.lst xs) → DqAll K F xs ds → Dq K F (.ref a) (.list ds)
  | tup {a : Addr} {xs : List V} {ds : List PyData} : F a = some (.tup xs) → DqAll K F xs ds → Dq K F (.ref a) (.tuple ds)
  | zero {a : Addr} : SqT K F a [.int 0, .int 1] → Dq K F (.ref a) (.tuple [.int 0, .int 1])
inductive DqAll (K : PySem.W.Frag) (F : Hp) : List V → List PyData → Prop
  | nil : DqAll K F [] []
  | cons {v : V} {vs : List V} {d : PyData} {ds : List PyData} : Dq K F v d → DqAll K F vs ds → DqAll K F (v :: vs) (d :: ds)
end
def Le (F F' : Hp) : Prop := ∀ a o, F a = some o → F' a = some o
theorem Le.refl (F : Hp) : Le F F := fun _ _ h => h
theorem Le.trans {F G H : Hp} (a : Le F G) (b : Le G H) : Le F H := fun c o h => b c o (a c o h)
theorem Le.sqT {K : PySem.W.Frag} {F F' : Hp} {a : Addr} {xs : List V} (e : Le F F') (h : SqT K F a xs) : SqT K F' a xs := by
  rcases h with (h | ⟨o, h⟩) | h
  · exact .inl (.inl (e _ _ h))
  · exact .inl (.inr ⟨o, e _ _ h⟩)
  · exact .inr h
theorem Le.sqL {K : PySem.W.Frag} {F F' : Hp} {a : Addr} {xs : List V} (e : Le F F') (h : SqL K F a xs) : SqL K F' a xs := by
  rcases h with (h | ⟨o, h⟩) | h
  · exact .inl (.inl (e _ _ h))
  · exact .inl (.inr ⟨o, e _ _ h⟩)
  · exact .inr h
theorem Le.upd {F : Hp} {p : Addr} {o : HO} (h : F p = none) : Le F (upd F p o) := fun a u e => by
  rw [upd_ne (ne_of_none e h)]; exact e
/-- what F says of an object: a hidden list (one that is being built) is written .frz _ (.lst ..) -/
def unh : HO → HO
  | .frz _ (.lst xs) => .lst xs
  | o => o
def LeH (F H : Hp) : Prop := ∀ a o, F a = some o → H a = some (unh o)
theorem Le.h {F F' H : Hp} (a : Le F F') (b : LeH F' H) : LeH F H := fun c o h => b c o (a c o h)
theorem LeH.sqT {K : PySem.W.Frag} {F F' : Hp} {a : Addr} {xs : List V} (e : LeH F F') (h : SqT K F a xs) : SqT K F' a xs := by
  rcases h with (h | ⟨o, h⟩) | h
  · exact .inl (.inl (e _ _ h))
  · exact .inl (.inr ⟨o, e _ _ h⟩)
  · exact .inr h
mutual
theorem Dq.up {K : PySem.W.Frag} {F F' : Hp} (e : LeH F F') : ∀ {v : V} {d : PyData}, Dq K F v d → Dq K F' v d
  | _, _, .non => .non
  | _, _, .bl b => .bl b
  | _, _, .int i => .int i
  | _, _, .str x => .str x
  | _, _, .lst h r => .lst (e _ _ h) (DqAll.up e r)
  | _, _, .tup h r => .tup (e _ _ h) (DqAll.up e r)
  | _, _, .zero h => .zero (e.sqT h)
theorem DqAll.up {K : PySem.W.Frag} {F F' : Hp} (e : LeH F F') : ∀ {v : List V} {d : List PyData}, DqAll K F v d → DqAll K F' v d
  | _, _, .nil => .nil
  | _, _, .cons h r => .cons (Dq.up e h) (DqAll.up e r)
end
/-- a hidden list may change -/
def Hid (p : Addr) (F F' : Hp) : Prop := (∀ a, a ≠ p → F a = F' a) ∧ ∃ o xs, F p = some (.frz o (.lst xs))
theorem Hid.sqT {K : PySem.W.Frag} {p : Addr} {F F' : Hp} {a : Addr} {xs : List V} (e : Hid p F F') (h : SqT K F a xs) : SqT K F' a xs := by
  obtain ⟨e, o1, x1, e1⟩ := e
  rcases h with (h | ⟨o, h⟩) | h
  · have q : a ≠ p := by rintro rfl; rw [e1] at h; cases h
    exact .inl (.inl (by rw [← e a q]; exact h))
  · have q : a ≠ p := by rintro rfl; rw [e1] at h; cases h
    exact .inl (.inr ⟨o, by rw [← e a q]; exact h⟩)
  · exact .inr h
theorem Hid.at {p : Addr} {F F' : Hp} {a : Addr} {o : HO} (e : Hid p F F') (h : F a = some o) (ho : ∀ u xs, o ≠ .frz u (.lst xs)) : F' a = some o := by
  obtain ⟨e, o1, x1, e1⟩ := e
  have q : a ≠ p := by rintro rfl; rw [e1] at h; cases h; exact ho _ _ rfl
  rw [← e a q]; exact h
mutual
theorem Dq.hid {K : PySem.W.Frag} {p : Addr} {F F' : Hp} (e : Hid p F F') : ∀ {v : V} {d : PyData}, Dq K F v d → Dq K F' v d
  | _, _, .non => .non
  | _, _, .bl b => .bl b
  | _, _, .int i => .int i
  | _, _, .str x => .str x
  | _, _, .lst h r => .lst (e.at h (by intro u xs z; cases z)) (DqAll.hid e r)
  | _, _, .tup h r => .tup (e.at h (by intro u xs z; cases z)) (DqAll.hid e r)
  | _, _, .zero h => .zero (e.sqT h)
theorem DqAll.hid {K : PySem.W.Frag} {p : Addr} {F F' : Hp} (e : Hid p F F') : ∀ {v : List V} {d : List PyData}, DqAll K F v d → DqAll K F' v d
  | _, _, .nil => .nil
  | _, _, .cons h r => .cons (Dq.hid e h) (DqAll.hid e r)
end
mutual
theorem Dq.mono {K : PySem.W.Frag} {F F' : Hp} (e : Le F F') : ∀ {v : V} {d : PyData}, Dq K F v d → Dq K F' v d
  | _, _, .non => .non
  | _, _, .bl b => .bl b
  | _, _, .int i => .int i
  | _, _, .str x => .str x
  | _, _, .lst h r => .lst (e _ _ h) (DqAll.mono e r)
  | _, _, .tup h r => .tup (e _ _ h) (DqAll.mono e r)
  | _, _, .zero h => .zero (e.sqT h)
theorem DqAll.mono {K : PySem.W.Frag} {F F' : Hp} (e : Le F F') : ∀ {v : List V} {d : List PyData}, DqAll K F v d → DqAll K F' v d
  | _, _, .nil => .nil
  | _, _, .cons h r => .cons (Dq.mono e h) (DqAll.mono e r)
end
mutual
theorem Dq.dp {K : PySem.W.Frag} {F : Hp} : ∀ {v : V} {d : PyData}, Dq K F v d → Dp K F v d
  | _, _, .non => .non
  | _, _, .bl b => .bl b
  | _, _, .int i => .int i
  | _, _, .str x => .str x
  | _, _, .lst h r => .lst (SqL.of h) (DqAll.dp r)
  | _, _, .tup h r => .tup (SqT.of h) (DqAll.dp r)
  | _, _, .zero h => .tup h (.cons (.int 0) (.cons (.int 1) .nil))
theorem DqAll.dp {K : PySem.W.Frag} {F : Hp} : ∀ {v : List V} {d : List PyData}, DqAll K F v d → DpAll K F v d
  | _, _, .nil => .nil
  | _, _, .cons h r => .cons (Dq.dp h) (DqAll.dp r)
end
theorem DqAll.length {K : PySem.W.Frag} {F : Hp} : ∀ {v : List V} {d : List PyData}, DqAll K F v d → v.length = d.length
  | _, _, .nil => rfl
  | _, _, .cons _ r => by rw [List.length_cons, List.length_cons, DqAll.length r]
theorem DqAll.get {K : PySem.W.Frag} {F : Hp} : ∀ {v : List V} {d : List PyData} {i : Nat} {x : V}, DqAll K F v d → v[i]? = some x → ∃ y, d[i]? = some y ∧ Dq K F x y
  | _, _, _, _, .nil, h => by simp at h
  | _, _, 0, _, .cons h _, e => ⟨_, rfl, by simp at e; subst e; exact h⟩
  | _, _, i + 1, _, .cons _ r, e => by simpa using DqAll.get (i := i) r (by simpa using e)
theorem DqAll.get' {K : PySem.W.Frag} {F : Hp} : ∀ {v : List V} {d : List PyData} {i : Nat} {y : PyData}, DqAll K F v d → d[i]? = some y → ∃ x, v[i]? = some x ∧ Dq K F x y
  | _, _, _, _, .nil, h => by simp at h
  | _, _, 0, _, .cons h _, e => ⟨_, rfl, by simp at e; subst e; exact h⟩
  | _, _, i + 1, _, .cons _ r, e => by simpa using DqAll.get' (i := i) r (by simpa using e)
theorem DqAll.append {K : PySem.W.Frag} {F : Hp} : ∀ {v w : List V} {d e : List PyData}, DqAll K F v d → DqAll K F w e → DqAll K F (v ++ w) (d ++ e)
  | _, _, _, _, .nil, s => s
  | _, _, _, _, .cons h r, s => .cons h (DqAll.append r s)
theorem DqAll.take {K : PySem.W.Frag} {F : Hp} : ∀ {v : List V} {d : List PyData} (n : Nat), DqAll K F v d → DqAll K F (v.take n) (d.take n)
  | _, _, 0, _ => .nil
  | _, _, _ + 1, .nil => .nil
  | _, _, n + 1, .cons h r => .cons h (DqAll.take n r)
theorem DqAll.drop {K : PySem.W.Frag} {F : Hp} : ∀ {v : List V} {d : List PyData} (n : Nat), DqAll K F v d → DqAll K F (v.drop n) (d.drop n)
  | _, _, 0, r => r
  | _, _, _ + 1, .nil => .nil
  | _, _, n + 1, .cons _ r => DqAll.drop n r
/-- a tuple that is no (0, 1) is tracked -/
theorem Dq.tuple {K : PySem.W.Frag} {F : Hp} {v : V} {ds : List PyData} (h : Dq K F v (.tuple ds)) : ∃ a xs, v = .ref a ∧ SqT K F a xs ∧ DqAll K F xs ds := by
  cases h with
  | tup h r => exact ⟨_, _, rfl, SqT.of h, r⟩
  | zero h => exact ⟨_, _, rfl, h, .cons (.int 0) (.cons (.int 1) .nil)⟩
theorem Dq.list {K : PySem.W.Frag} {F : Hp} {v : V} {ds : List PyData} (h : Dq K F v (.list ds)) : ∃ a xs, v = .ref a ∧ F a = some (.lst xs) ∧ DqAll K F xs ds := by
  cases h with
  | lst h r => exact ⟨_, _, rfl, h, r⟩

/-! ### values, cells -/
/-- what a name holds: data, or a value that is none (a cell's address, a def, a class) -/
inductive EV where
  | d (x : PyData)
  | v (x : V)
def VD (K : PySem.W.Frag) (F : Hp) (v : V) : EV → Prop
  | .d x => Dq K F v x
  | .v y => v = y
abbrev VDs (K : PySem.W.Frag) (F : Hp) : List V → List EV → Prop := Paired (VD K F)
theorem VD.mono {K : PySem.W.Frag} {F F' : Hp} (e : Le F F') {v : V} {x : EV} (h : VD K F v x) : VD K F' v x := by
  cases x with
  | d x => exact Dq.mono e h
  | v y => exact h
theorem VDs.mono {K : PySem.W.Frag} {F F' : Hp} (e : Le F F') {v : List V} {x : List EV} (h : VDs K F v x) : VDs K F' v x := Paired.mapP h fun _ _ => VD.mono e
theorem VDs.of {K : PySem.W.Frag} {F : Hp} : ∀ {v : List V} {d : List PyData}, DqAll K F v d → VDs K F v (d.map .d)
  | _, _, .nil => .nil
  | _, _, .cons h r => .cons h (VDs.of r)
/-- what stands in a cell -/
inductive MO where
  | lst (xs : List EV)
  | dic (kvs : List (Key × EV))
  | dicT (kvs : List (List Key × EV))
  | raw (o : HO)
  | fdic (od : Obj) (ks : List (Key × V)) (kvs : List (Key × EV))
abbrev KVD {κ : Type} (K : PySem.W.Frag) (F : Hp) : List (κ × V) → List (κ × EV) → Prop := Paired fun p q => p.1 = q.1 ∧ VD K F p.2 q.2
def MOk (K : PySem.W.Frag) (F H : Hp) (a : Addr) : MO → Prop
  | .lst xs => ∃ vs, H a = some (.lst vs) ∧ VDs K F vs xs
  | .dic kvs => ∃ ks, H a = some (.dK ks) ∧ KVD K F ks kvs
  | .dicT kvs => ∃ ks, H a = some (.dT ks) ∧ KVD K F ks kvs
  | .raw o => H a = some o
  | .fdic od ks kvs => H a = some (.frz od (.dK ks)) ∧ KVD K F ks kvs
theorem MOk.mono {K : PySem.W.Frag} {F F' H H' : Hp} {a : Addr} (e : Le F F') (eh : ∀ o, H a = some o → H' a = some o) : ∀ {m : MO}, MOk K F H a m → MOk K F' H' a m
  | .lst xs, ⟨vs, h, r⟩ => ⟨vs, eh _ h, r.mono e⟩
  | .dic kvs, ⟨vs, h, r⟩ => ⟨vs, eh _ h, Paired.mapP r fun _ _ q => ⟨q.1, q.2.mono e⟩⟩
  | .dicT kvs, ⟨vs, h, r⟩ => ⟨vs, eh _ h, Paired.mapP r fun _ _ q => ⟨q.1, q.2.mono e⟩⟩
  | .raw o, h => eh _ h
  | .fdic od ks kvs, ⟨h, r⟩ => ⟨eh _ h, Paired.mapP r fun _ _ q => ⟨q.1, q.2.mono e⟩⟩
theorem MOk.there {K : PySem.W.Frag} {F H : Hp} {a : Addr} : ∀ {m : MO}, MOk K F H a m → ∃ o, H a = some o
  | .lst xs, ⟨vs, h, r⟩ => ⟨_, h⟩
  | .dic kvs, ⟨vs, h, r⟩ => ⟨_, h⟩
  | .dicT kvs, ⟨vs, h, r⟩ => ⟨_, h⟩
  | .raw o, h => ⟨_, h⟩
  | .fdic od ks kvs, ⟨h, r⟩ => ⟨_, h⟩
abbrev Mem := Addr → Option MO
def Mem.set (M : Mem) (p : Addr) (m : MO) : Mem := fun b => if b = p then some m else M b
def Mem.del (M : Mem) (p : Addr) : Mem := fun b => if b = p then none else M b
theorem Mem.set_same {M : Mem} {p : Addr} {m : MO} : M.set p m p = some m := by unfold Mem.set; rw [if_pos rfl]
theorem Mem.set_ne {M : Mem} {p q : Addr} {m : MO} (h : q ≠ p) : M.set p m q = M q := by unfold Mem.set; rw [if_neg h]
theorem Mem.del_same {M : Mem} {p : Addr} : M.del p p = none := by unfold Mem.del; rw [if_pos rfl]
theorem Mem.del_ne {M : Mem} {p q : Addr} (h : q ≠ p) : M.del p q = M q := by unfold Mem.del; rw [if_neg h]
theorem Mem.del_set {M : Mem} {p : Addr} {m : MO} (h : M p = none) : (M.set p m).del p = M := by
  funext b
  show (if b = p then none else if b = p then some m else M b) = M b
  by_cases e : b = p
  · subst e; rw [if_pos rfl]; exact h.symm
  · rw [if_neg e, if_neg e]
theorem Mem.set_set {M : Mem} {p : Addr} {m n : MO} : (M.set p m).set p n = M.set p n := by
  funext b; unfold Mem.set
  by_cases e : b = p
  · rw [if_pos e, if_pos e]
  · rw [if_neg e, if_neg e, if_neg e]
theorem Mem.set_comm {M : Mem} {p q : Addr} {m n : MO} (h : p ≠ q) : (M.set p m).set q n = (M.set q n).set p m := by
  funext b; unfold Mem.set
  by_cases e : b = q
  · rw [if_pos e, if_pos e, if_neg (by rintro rfl; exact h e)]
  · rw [if_neg e, if_neg e]
theorem Mem.del_set_ne {M : Mem} {p q : Addr} {m : MO} (h : p ≠ q) : (M.set p m).del q = (M.del q).set p m := by
  funext b
  show (if b = q then none else if b = p then some m else M b) = if b = p then some m else if b = q then none else M b
  by_cases e : b = q
  · rw [if_pos e, if_pos e, if_neg (by rintro rfl; exact h e)]
  · rw [if_neg e, if_neg e]

/-- the world: frozen part F, cells M, in the heap H -/
structure Wd (K : PySem.W.Frag) (M : Mem) (H F : Hp) : Prop where
  sub : LeH F H
  mem : ∀ a m, M a = some m → F a = none ∧ MOk K F H a m
def SV (K : PySem.W.Frag) (F : Hp) : L2.St → List (Option EV) → Prop := Paired fun (o : Option V) (p : Option EV) => ∀ x, p = some x → ∃ v, o = some v ∧ VD K F v x
theorem SV.mono {K : PySem.W.Frag} {F F' : Hp} (e : Le F F') {σ : L2.St} {ρ : List (Option EV)} (h : SV K F σ ρ) : SV K F' σ ρ :=
  Paired.mapP h fun _ _ q x e1 => let ⟨v, e2, r⟩ := q x e1; ⟨v, e2, r.mono e⟩
theorem SV.get {K : PySem.W.Frag} {F : Hp} : ∀ {σ : L2.St} {ρ : List (Option EV)} {i : Nat} {x : EV}, SV K F σ ρ → ρ[i]? = some (some x) → ∃ v, σ[i]? = some (some v) ∧ VD K F v x
  | _, _, _, _, .nil, e => by simp at e
  | _, _, 0, x, .cons r _, e => by
    simp at e
    obtain ⟨v, e1, r1⟩ := r x e
    exact ⟨v, by simp [e1], r1⟩
  | _, _, i + 1, x, .cons _ t, e => by simpa using SV.get (i := i) t (by simpa using e)
theorem SV.set {K : PySem.W.Frag} {F : Hp} {v : V} {x : EV} (r : VD K F v x) : ∀ {σ : L2.St} {ρ : List (Option EV)} (i : Nat), SV K F σ ρ → SV K F (σ.set i (some v)) (ρ.set i (some x))
  | _, _, _, .nil => .nil
  | _, _, 0, .cons _ t => .cons (fun y e => by cases e; exact ⟨v, rfl, r⟩) t
  | _, _, i + 1, .cons q t => .cons q (SV.set r i t)
theorem SV.forget {K : PySem.W.Frag} {F : Hp} : ∀ {σ : L2.St} {ρ : List (Option EV)} (i : Nat), SV K F σ ρ → SV K F (σ.set i none) (ρ.set i none)
  | _, _, _, .nil => .nil
  | _, _, 0, .cons _ t => .cons (fun y e => by cases e) t
  | _, _, i + 1, .cons q t => .cons q (SV.forget i t)

section
variable {K : PySem.W.Frag} {M : Mem} {H F : Hp} {p : Addr}
theorem Wd.freeM (W : Wd K M H F) (h : H p = none) : M p = none := by
  cases e : M p with
  | none => rfl
  | some m =>
    obtain ⟨o, q⟩ := (W.mem p m e).2.there
    rw [h] at q; cases q
theorem Wd.freeF (W : Wd K M H F) (h : H p = none) : F p = none := by
  cases e : F p with
  | none => rfl
  | some m => rw [W.sub p m e] at h; cases h
/-- a new frozen object -/
theorem Wd.lay (W : Wd K M H F) (h : H p = none) (o : HO) (ho : unh o = o := by rfl) : Wd K M (upd H p o) (upd F p o) := by
  have hF := W.freeF h
  have hM := W.freeM h
  refine ⟨fun a u e => ?_, fun a m e => ?_⟩
  · by_cases q : a = p
    · subst q; rw [upd_same] at e ⊢; cases e; rw [ho]
    · rw [upd_ne q] at e ⊢; exact W.sub a u e
  · have q : a ≠ p := by rintro rfl; rw [hM] at e; cases e
    obtain ⟨e1, e2⟩ := W.mem a m e
    refine ⟨by rw [upd_ne q]; exact e1, e2.mono (Le.upd hF) fun u e3 => by rw [upd_ne q]; exact e3⟩
theorem Wd.le (W : Wd K M H F) (h : H p = none) (o : HO) : Le F (upd F p o) := Le.upd (W.freeF h)
/-- a new cell -/
theorem Wd.cell (W : Wd K M H F) (h : H p = none) {o : HO} {m : MO} (hm : ∀ H' : Hp, H' p = some o → MOk K F H' p m) : Wd K (M.set p m) (upd H p o) F := by
  have hF := W.freeF h
  refine ⟨fun a u e => ?_, fun a n e => ?_⟩
  · rw [upd_ne (ne_of_none e hF)]; exact W.sub a u e
  · by_cases q : a = p
    · subst q; rw [Mem.set_same] at e; cases e
      exact ⟨hF, hm _ upd_same⟩
    · rw [Mem.set_ne q] at e
      obtain ⟨e1, e2⟩ := W.mem a n e
      exact ⟨e1, e2.mono (Le.refl F) fun u e3 => by rw [upd_ne q]; exact e3⟩
/-- a cell is written -/
theorem Wd.write {m0 : MO} (W : Wd K M H F) (h : M p = some m0) {o : HO} {m : MO} (hm : ∀ H' : Hp, H' p = some o → MOk K F H' p m) : Wd K (M.set p m) (upd H p o) F := by
  have hF := (W.mem p m0 h).1
  refine ⟨fun a u e => ?_, fun a n e => ?_⟩
  · rw [upd_ne (ne_of_none e hF)]; exact W.sub a u e
  · by_cases q : a = p
    · subst q; rw [Mem.set_same] at e; cases e
      exact ⟨hF, hm _ upd_same⟩
    · rw [Mem.set_ne q] at e
      obtain ⟨e1, e2⟩ := W.mem a n e
      exact ⟨e1, e2.mono (Le.refl F) fun u e3 => by rw [upd_ne q]; exact e3⟩
/-- a cell is frozen -/
theorem Wd.freeze {m0 : MO} {o : HO} (W : Wd K M H F) (h : M p = some m0) (ho : H p = some o) (hn : unh o = o := by rfl) : Wd K (M.del p) H (upd F p o) := by
  have hF := (W.mem p m0 h).1
  refine ⟨fun a u e => ?_, fun a n e => ?_⟩
  · by_cases q : a = p
    · subst q; rw [upd_same] at e; cases e; rw [hn]; exact ho
    · rw [upd_ne q] at e; exact W.sub a u e
  · have q : a ≠ p := by rintro rfl; rw [Mem.del_same] at e; cases e
    rw [Mem.del_ne q] at e
    obtain ⟨e1, e2⟩ := W.mem a n e
    exact ⟨by rw [upd_ne q]; exact e1, e2.mono (Le.upd hF) fun u e3 => e3⟩
theorem VD.hid {K : PySem.W.Frag} {p : Addr} {F F' : Hp} (e : Hid p F F') {v : V} {x : EV} (h : VD K F v x) : VD K F' v x := by
  cases x with
  | d x => exact Dq.hid e h
  | v y => exact h
theorem VDs.hid {K : PySem.W.Frag} {p : Addr} {F F' : Hp} (e : Hid p F F') {v : List V} {x : List EV} (h : VDs K F v x) : VDs K F' v x := Paired.mapP h fun _ _ => VD.hid e
theorem MOk.hid {K : PySem.W.Frag} {p : Addr} {F F' H H' : Hp} {a : Addr} (e : Hid p F F') (eh : ∀ o, H a = some o → H' a = some o) : ∀ {m : MO}, MOk K F H a m → MOk K F' H' a m
  | .lst xs, ⟨vs, h, r⟩ => ⟨vs, eh _ h, VDs.hid e r⟩
  | .dic kvs, ⟨vs, h, r⟩ => ⟨vs, eh _ h, Paired.mapP r fun _ _ q => ⟨q.1, q.2.hid e⟩⟩
  | .dicT kvs, ⟨vs, h, r⟩ => ⟨vs, eh _ h, Paired.mapP r fun _ _ q => ⟨q.1, q.2.hid e⟩⟩
  | .raw o, h => eh _ h
  | .fdic od ks kvs, ⟨h, r⟩ => ⟨eh _ h, Paired.mapP r fun _ _ q => ⟨q.1, q.2.hid e⟩⟩
/-- the marker of hidden lists -/
def hidO : Obj := { cls := .none, data := .fields #[] }
/-- a new hidden list -/
theorem Wd.hide (W : Wd K M H F) (h : H p = none) (xs : List V) : Wd K M (upd H p (.lst xs)) (upd F p (.frz hidO (.lst xs))) := by
  have hF := W.freeF h
  have hM := W.freeM h
  refine ⟨fun a u e => ?_, fun a m e => ?_⟩
  · by_cases q : a = p
    · subst q; rw [upd_same] at e ⊢; cases e; rfl
    · rw [upd_ne q] at e ⊢; exact W.sub a u e
  · have q : a ≠ p := by rintro rfl; rw [hM] at e; cases e
    obtain ⟨e1, e2⟩ := W.mem a m e
    refine ⟨by rw [upd_ne q]; exact e1, e2.mono (Le.upd hF) fun u e3 => by rw [upd_ne q]; exact e3⟩
/-- a hidden list is changed -/
theorem hid_upd {xs : List V} {o : HO} (h : F p = some (.frz hidO (.lst xs))) : Hid p F (upd F p o) :=
  ⟨fun a q => by rw [upd_ne q], _, _, h⟩
def cut1 (F : Hp) (p : Addr) : Hp := fun a => if a = p then none else F a
theorem cut1_same : cut1 F p p = none := by unfold cut1; rw [if_pos rfl]
theorem cut1_ne {a : Addr} (h : a ≠ p) : cut1 F p a = F a := by unfold cut1; rw [if_neg h]
theorem hid_cut {xs : List V} (h : F p = some (.frz hidO (.lst xs))) : Hid p F (cut1 F p) := ⟨fun a q => (cut1_ne q).symm, _, _, h⟩
theorem Wd.rehide {xs : List V} (W : Wd K M H F) (h : F p = some (.frz hidO (.lst xs))) (ys : List V) : Wd K M (upd H p (.lst ys)) (upd F p (.frz hidO (.lst ys))) := by
  refine ⟨fun a u e => ?_, fun a m e => ?_⟩
  · by_cases q : a = p
    · subst q; rw [upd_same] at e ⊢; cases e; rfl
    · rw [upd_ne q] at e ⊢; exact W.sub a u e
  · have q : a ≠ p := by rintro rfl; rw [(W.mem a m e).1] at h; cases h
    obtain ⟨e1, e2⟩ := W.mem a m e
    refine ⟨by rw [upd_ne q]; exact e1, e2.hid (hid_upd h) fun u e3 => by rw [upd_ne q]; exact e3⟩
/-- a hidden list is shown: as a frozen one, as a cell -/
theorem Wd.show {xs : List V} (W : Wd K M H F) (h : F p = some (.frz hidO (.lst xs))) : Wd K M H (upd F p (.lst xs)) := by
  have hH : H p = some (.lst xs) := W.sub _ _ h
  refine ⟨fun a u e => ?_, fun a m e => ?_⟩
  · by_cases q : a = p
    · subst q; rw [upd_same] at e; cases e; exact hH
    · rw [upd_ne q] at e; exact W.sub a u e
  · have q : a ≠ p := by rintro rfl; rw [(W.mem a m e).1] at h; cases h
    obtain ⟨e1, e2⟩ := W.mem a m e
    exact ⟨by rw [upd_ne q]; exact e1, e2.hid (hid_upd h) fun u e3 => e3⟩
theorem Wd.uncover {xs : List V} {m : MO} (W : Wd K M H F) (h : F p = some (.frz hidO (.lst xs))) (hm : ∀ H' : Hp, H' p = some (.lst xs) → MOk K (cut1 F p) H' p m) : Wd K (M.set p m) H (cut1 F p) := by
  have hH : H p = some (.lst xs) := W.sub _ _ h
  refine ⟨fun a u e => ?_, fun a n e => ?_⟩
  · by_cases q : a = p
    · subst q; rw [cut1_same] at e; cases e
    · rw [cut1_ne q] at e; exact W.sub a u e
  · by_cases q : a = p
    · subst q; rw [Mem.set_same] at e; cases e
      exact ⟨cut1_same, hm _ hH⟩
    · rw [Mem.set_ne q] at e
      obtain ⟨e1, e2⟩ := W.mem a n e
      exact ⟨by rw [cut1_ne q]; exact e1, e2.hid (hid_cut h) fun u e3 => e3⟩
/-- fewer cells -/
theorem Wd.drop {M' : Mem} (W : Wd K M H F) (h : ∀ a m, M' a = some m → M a = some m) : Wd K M' H F := ⟨W.sub, fun a m e => W.mem a m (h a m e)⟩
end

/-- an EV's data, if it is data, or a list cell whose items are data -/
def allD : List EV → Option (List PyData)
  | [] => some []
  | .d x :: r => match allD r with
    | some ds => some (x :: ds)
    | none => none
  | .v _ :: _ => none
theorem allD_map : ∀ {xs : List EV} {ds : List PyData}, allD xs = some ds → xs = ds.map .d
  | [], ds, h => by cases h; rfl
  | .d x :: r, ds, h => by
    unfold allD at h
    split at h
    · rename_i e; cases h; rw [List.map_cons, allD_map e]
    · cases h
  | .v _ :: _, ds, h => by cases h
theorem allD_of : ∀ (ds : List PyData), allD (ds.map .d) = some ds
  | [] => rfl
  | x :: r => by
    rw [List.map_cons]; unfold allD; rw [allD_of r]
theorem DqAll.of {K : PySem.W.Frag} {F : Hp} : ∀ {vs : List V} {ds : List PyData}, VDs K F vs (ds.map .d) → DqAll K F vs ds
  | _, [], h => by cases h; exact .nil
  | _, d :: ds, h => by
    cases h with
    | cons r t => exact .cons r (DqAll.of t)
end Td

/-! TdJ2: the readings over data and cells, and their rules. -/
namespace Td
open PySem PySem.Spec PyProof.Rows L2

abbrev JEnv := List (Option EV)
abbrev JK := EV → Mem → Prop
abbrev JTE := JEnv → Mem → JK → Prop
abbrev JTT := JEnv → Mem → (Bool → Mem → Prop) → Prop
abbrev JTA := JEnv → Mem → (List EV → Mem → Prop) → Prop
abbrev JTG := EV → JEnv → Mem → (JEnv → Mem → Prop) → Prop
abbrev JXK := Value → Mem → Prop
structure JEnds where
  nx : JEnv → Mem → Prop
  rt : JK
  bk : JEnv → Mem → Prop := fun _ _ => False
  ct : JEnv → Mem → Prop := fun _ _ => False
  xr : JXK := fun _ _ => False
abbrev JTS := JEnds → JEnv → Mem → Prop

/-! ### lifting ends -/
def LE (K : PySem.W.Frag) (F : Hp) (Φ : JK) (Q : VK) : Prop := ∀ v H' F' x M', Le F F' → Wd K M' H' F' → VD K F' v x → Φ x M' → Q v H'
def LT' (K : PySem.W.Frag) (F : Hp) (Φ : Bool → Mem → Prop) (Q : Bool → Hp → Prop) : Prop := ∀ b H' F' M', Le F F' → Wd K M' H' F' → Φ b M' → Q b H'
def LA (K : PySem.W.Frag) (F : Hp) (Φ : List EV → Mem → Prop) (Q : List V → Hp → Prop) : Prop := ∀ vs H' F' xs M', Le F F' → Wd K M' H' F' → VDs K F' vs xs → Φ xs M' → Q vs H'
def LN (K : PySem.W.Frag) (F : Hp) (Φ : JEnv → Mem → Prop) (Q : L2.St → Hp → Prop) : Prop := ∀ σ' H' F' ρ' M', Le F F' → Wd K M' H' F' → SV K F' σ' ρ' → Φ ρ' M' → Q σ' H'
def LX (K : PySem.W.Frag) (F : Hp) (Ψ : JXK) (E : XK) : Prop := ∀ c d H' F' M', Le F F' → Wd K M' H' F' → Ψ c M' → E c d H'
structure LD (K : PySem.W.Frag) (F : Hp) (E : XK) (J : JEnds) (D : Ends) : Prop where
  nx : LN K F J.nx D.nx
  rt : LE K F J.rt D.rt
  bk : LN K F J.bk D.bk
  ct : LN K F J.ct D.ct
  xr : LX K F J.xr E
section
variable {K : PySem.W.Frag} {F F' : Hp}
theorem LE.mono {Φ : JK} {Q : VK} (h : LE K F Φ Q) (e : Le F F') : LE K F' Φ Q := fun v H' G x M' e' => h v H' G x M' (e.trans e')
theorem LT'.mono {Φ : Bool → Mem → Prop} {Q : Bool → Hp → Prop} (h : LT' K F Φ Q) (e : Le F F') : LT' K F' Φ Q := fun v H' G x e' => h v H' G x (e.trans e')
theorem LA.mono {Φ : List EV → Mem → Prop} {Q : List V → Hp → Prop} (h : LA K F Φ Q) (e : Le F F') : LA K F' Φ Q := fun v H' G x M' e' => h v H' G x M' (e.trans e')
theorem LN.mono {Φ : JEnv → Mem → Prop} {Q : L2.St → Hp → Prop} (h : LN K F Φ Q) (e : Le F F') : LN K F' Φ Q := fun v H' G x M' e' => h v H' G x M' (e.trans e')
theorem LX.mono {Φ : JXK} {E : XK} (h : LX K F Φ E) (e : Le F F') : LX K F' Φ E := fun c d H' G M' e' => h c d H' G M' (e.trans e')
theorem LD.mono {E : XK} {J : JEnds} {D : Ends} (h : LD K F E J D) (e : Le F F') : LD K F' E J D := ⟨h.nx.mono e, h.rt.mono e, h.bk.mono e, h.ct.mono e, h.xr.mono e⟩
theorem LD.withNx {E : XK} {J : JEnds} {D : Ends} (h : LD K F E J D) {Φ : JEnv → Mem → Prop} {Q : L2.St → Hp → Prop} (q : LN K F Φ Q) : LD K F E { J with nx := Φ } { D with nx := Q } := ⟨q, h.rt, h.bk, h.ct, h.xr⟩
end

theorem VD.bl {K : PySem.W.Frag} {F : Hp} (b : Bool) : VD K F (.bl b) (.d (.bool b)) := Dq.bl b
theorem VD.non {K : PySem.W.Frag} {F : Hp} : VD K F .non (.d .none) := Dq.non
theorem VD.int {K : PySem.W.Frag} {F : Hp} (i : Int) : VD K F (.int i) (.d (.int i)) := Dq.int i
theorem VD.str {K : PySem.W.Frag} {F : Hp} (i : Str) : VD K F (.str i) (.d (.str i)) := Dq.str i
/-! ### canonical readings -/
def rdE (K : PySem.W.Frag) (je : JTE) : TE := fun σ H Q => ∃ F ρ M Φ, Wd K M H F ∧ SV K F σ ρ ∧ je ρ M Φ ∧ LE K F Φ Q
def rdT (K : PySem.W.Frag) (je : JTT) : TT := fun σ H Q => ∃ F ρ M Φ, Wd K M H F ∧ SV K F σ ρ ∧ je ρ M Φ ∧ LT' K F Φ Q
def rdA (K : PySem.W.Frag) (je : JTA) : TA := fun σ H Q => ∃ F ρ M Φ, Wd K M H F ∧ SV K F σ ρ ∧ je ρ M Φ ∧ LA K F Φ Q
def rdG (K : PySem.W.Frag) (jg : JTG) : TG := fun v σ H Q => ∃ F ρ M x Φ, Wd K M H F ∧ SV K F σ ρ ∧ VD K F v x ∧ jg x ρ M Φ ∧ LN K F Φ Q
def rdS (K : PySem.W.Frag) (E : XK) (js : JTS) : TS := fun D σ H => ∃ F ρ M J, Wd K M H F ∧ SV K F σ ρ ∧ js J ρ M ∧ LD K F E J D
abbrev JE (X : Cx) (e : Expr) (je : JTE) : Prop := PE X e (rdE X.K je)
abbrev JT (X : Cx) (e : Expr) (jt : JTT) : Prop := PT X e (rdT X.K jt)
abbrev JW (X : Cx) (e : Expr) (jt : JTT) : Prop := PW X e (rdT X.K jt)
abbrev JA (X : Cx) (es : List Expr) (ja : JTA) : Prop := PA X es (rdA X.K ja)
abbrev JG (X : Cx) (e : Expr) (jg : JTG) : Prop := PG X e (rdG X.K jg)
abbrev JS (X : Cx) (E : XK) (st : Stmt) (js : JTS) : Prop := PS X st (rdS X.K E js)
abbrev JSs (X : Cx) (E : XK) (st : List Stmt) (js : JTS) : Prop := PSs X st (rdS X.K E js)
section
variable {X : Cx} {e : Expr} {es : List Expr} {st : Stmt} {sts : List Stmt}
theorem _root_.L2.PE.imp {t t' : TE} (h : PE X e t) (i : ∀ σ H Q, t' σ H Q → t σ H Q) : PE X e t' := ⟨fun pins s σ H Q I q => h.run pins s σ H Q I (i σ H Q q)⟩
theorem _root_.L2.PT.imp {t t' : TT} (h : PT X e t) (i : ∀ σ H Q, t' σ H Q → t σ H Q) : PT X e t' := ⟨fun pins s σ H Q I q => h.run pins s σ H Q I (i σ H Q q)⟩
theorem _root_.L2.PW.imp {t t' : TT} (h : PW X e t) (i : ∀ σ H Q, t' σ H Q → t σ H Q) : PW X e t' := ⟨fun wh pins s σ H Q I q => h.run wh pins s σ H Q I (i σ H Q q)⟩
theorem _root_.L2.PA.imp {t t' : TA} (h : PA X es t) (i : ∀ σ H Q, t' σ H Q → t σ H Q) : PA X es t' := ⟨fun pos pins s σ H Q I q => h.run pos pins s σ H Q I (i σ H Q q)⟩
theorem _root_.L2.PG.imp {t t' : TG} (h : PG X e t) (i : ∀ v σ H Q, t' v σ H Q → t v σ H Q) : PG X e t' := ⟨fun pins s σ H v u Q I r q => h.run pins s σ H v u Q I r (i v σ H Q q)⟩
theorem _root_.L2.PS.imp {t t' : TS} (h : PS X st t) (i : ∀ D σ H, t' D σ H → t D σ H) : PS X st t' := ⟨fun pins s σ H D I q => h.run pins s σ H D I (i D σ H q)⟩
theorem _root_.L2.PSs.imp {t t' : TS} (h : PSs X sts t) (i : ∀ D σ H, t' D σ H → t D σ H) : PSs X sts t' := ⟨fun pins s σ H D I q => h.run pins s σ H D I (i D σ H q)⟩
theorem _root_.L2.PO.imp {e : Option Expr} {t t' : TO} (h : PO X e t) (i : ∀ σ H Q, t' σ H Q → t σ H Q) : PO X e t' := ⟨fun pins s σ H Q I q => h.run pins s σ H Q I (i σ H Q q)⟩
end
/-- a reading is run from a world -/
theorem rdE.at {K : PySem.W.Frag} {M : Mem} {H F : Hp} {σ : L2.St} {ρ : JEnv} {je : JTE} {Φ : JK} {Q : VK} (W : Wd K M H F) (S : SV K F σ ρ) (h : je ρ M Φ) (l : LE K F Φ Q) : rdE K je σ H Q := ⟨F, ρ, M, Φ, W, S, h, l⟩
theorem rdT.at {K : PySem.W.Frag} {M : Mem} {H F : Hp} {σ : L2.St} {ρ : JEnv} {je : JTT} {Φ : Bool → Mem → Prop} {Q : Bool → Hp → Prop} (W : Wd K M H F) (S : SV K F σ ρ) (h : je ρ M Φ) (l : LT' K F Φ Q) : rdT K je σ H Q := ⟨F, ρ, M, Φ, W, S, h, l⟩
theorem rdA.at {K : PySem.W.Frag} {M : Mem} {H F : Hp} {σ : L2.St} {ρ : JEnv} {je : JTA} {Φ : List EV → Mem → Prop} {Q : List V → Hp → Prop} (W : Wd K M H F) (S : SV K F σ ρ) (h : je ρ M Φ) (l : LA K F Φ Q) : rdA K je σ H Q := ⟨F, ρ, M, Φ, W, S, h, l⟩
theorem rdG.at {K : PySem.W.Frag} {M : Mem} {H F : Hp} {σ : L2.St} {ρ : JEnv} {jg : JTG} {v : V} {x : EV} {Φ : JEnv → Mem → Prop} {Q : L2.St → Hp → Prop} (W : Wd K M H F) (S : SV K F σ ρ) (r : VD K F v x) (h : jg x ρ M Φ) (l : LN K F Φ Q) : rdG K jg v σ H Q := ⟨F, ρ, M, x, Φ, W, S, r, h, l⟩
theorem rdS.at {K : PySem.W.Frag} {E : XK} {M : Mem} {H F : Hp} {σ : L2.St} {ρ : JEnv} {js : JTS} {J : JEnds} {D : Ends} (W : Wd K M H F) (S : SV K F σ ρ) (h : js J ρ M) (l : LD K F E J D) : rdS K E js D σ H := ⟨F, ρ, M, J, W, S, h, l⟩

/-! ### names, constants -/
def look : JEnv → Nat → Option EV
  | [], _ => none
  | x :: _, 0 => x
  | _ :: r, i + 1 => look r i
theorem look_eq : ∀ {ρ : JEnv} {i : Nat} {x : EV}, look ρ i = some x → ρ[i]? = some (some x)
  | [], _, _, h => by cases h
  | y :: _, 0, x, h => by show some y = _; rw [show y = some x from h]
  | _ :: r, i + 1, x, h => by simpa using look_eq (ρ := r) (i := i) h
def jVar (i : Nat) : JTE := fun ρ M Φ => match look ρ i with
  | some x => Φ x M
  | none => False
def jC (d : PyData) : JTE := fun _ M Φ => Φ (.d d) M
def jV (v : V) : JTE := fun _ M Φ => Φ (.v v) M
section
variable {X : Cx} {pos : Pos}
theorem je_var (i : Nat) {x : Str} (hN : X.N[i]? = some x := by rfl) (hv : Vis X.env.scope x := by first | exact Or.inl rfl | exact Or.inr (Or.inl rfl) | exact Or.inr (Or.inr rfl)) (hd : (x == ("__debug__" : Str)) = false := by decide)
    (hcd : (x == ("__classdict__" : Str)) = false := by decide) : JE X (.Name x pos) (jVar i) := (pe_var hN hv hd hcd).imp fun σ H Q ⟨F, ρ, M, Φ, W, S, h, l⟩ => by
  unfold jVar at h
  split at h
  · rename_i x e
    obtain ⟨v, e1, r⟩ := S.get (look_eq e)
    exact ⟨v, e1, l v H F x M (Le.refl F) W r h⟩
  · exact h.elim
theorem je_of {e : Expr} {v : V} {d : PyData} (h : PE X e (tC v)) (r : ∀ F, Dq X.K F v d) : JE X e (jC d) := h.imp fun σ H Q ⟨F, ρ, M, Φ, W, S, h, l⟩ => l v H F (.d d) M (Le.refl F) W (r F) h
theorem je_int {i j} : JE X (.Constant (.int i) j pos) (jC (.int i)) := je_of pe_int fun _ => .int i
theorem je_bl {b j} : JE X (.Constant (.bool b) j pos) (jC (.bool b)) := je_of pe_bl fun _ => .bl b
theorem je_non {j} : JE X (.Constant .none j pos) (jC .none) := je_of pe_non fun _ => .non
theorem je_str {x j} : JE X (.Constant (.str x) j pos) (jC (.str x)) := je_of pe_str fun _ => .str x
theorem je_val {e : Expr} {v : V} (h : PE X e (tC v)) : JE X e (jV v) := h.imp fun σ H Q ⟨F, ρ, M, Φ, W, S, h, l⟩ => l v H F (.v v) M (Le.refl F) W rfl h
/-- a module's def or class as a value; its int; its text; the tuple (0, 1) -/
theorem je_gref {x : Str} {a : Addr} (hg : Gl X x) (hm : X.mg x = some (.ref a)) (hd : (x == ("__debug__" : Str)) = false := by decide) : JE X (.Name x pos) (jV (.ref a)) := je_val (pe_glob (v := .ref a) hg hm rfl hd)
theorem je_gint {x : Str} {i : Int} (hg : Gl X x) (hm : ∃ t, X.mg x = some (.int i t)) (hd : (x == ("__debug__" : Str)) = false := by decide) : JE X (.Name x pos) (jC (.int i)) := by
  obtain ⟨t, hm⟩ := hm
  exact je_of (pe_glob (v := .int i) hg hm ⟨t, rfl⟩ hd) fun _ => .int i
theorem je_gstr {x : Str} {i : Str} (hg : Gl X x) (hm : ∃ t, X.mg x = some (.str i t)) (hd : (x == ("__debug__" : Str)) = false := by decide) : JE X (.Name x pos) (jC (.str i)) := by
  obtain ⟨t, hm⟩ := hm
  exact je_of (pe_glob (v := .str i) hg hm ⟨t, rfl⟩ hd) fun _ => .str i
theorem je_zero {x : Str} {a : Addr} (hg : Gl X x) (hm : X.mg x = some (.ref a)) (hz : ∀ F, SqT X.K F a [.int 0, .int 1]) (hd : (x == ("__debug__" : Str)) = false := by decide) : JE X (.Name x pos) (jC (.tuple [.int 0, .int 1])) :=
  je_of (pe_glob (v := .ref a) hg hm rfl hd) fun F => .zero (hz F)
theorem je_ty {x : Str} {n : String} (hg : Gl X x) (hm : X.mg x = none) (hv : bootBuiltins x = some (.type n)) (hn : x ≠ "__name__" := by decide) (hd : (x == ("__debug__" : Str)) = false := by decide) : JE X (.Name x pos) (jV (.ty n)) :=
  je_val (pe_bltn (v := .ty n) hg hm hv rfl hn hd)
end

/-! ### operators by values -/
abbrev JR2 := EV → EV → Mem → JK → Prop
abbrev JR1 := EV → Mem → JK → Prop
def SR2 (K : PySem.W.Frag) (r : R2) (rj : JR2) : Prop := ∀ F M H x y X Y Φ Q, Wd K M H F → VD K F x X → VD K F y Y → rj X Y M Φ → LE K F Φ Q → r x y H Q
def SR1 (K : PySem.W.Frag) (r : V → Hp → VK → Prop) (rj : JR1) : Prop := ∀ F M H x X Φ Q, Wd K M H F → VD K F x X → rj X M Φ → LE K F Φ Q → r x H Q
def OpJ (X : Cx) (f : Value → Value → Sem Value) (rj : JR2) : Prop := ∃ r, OpR X f r ∧ SR2 X.K r rj
def UnJ (X : Cx) (f : Value → Sem Value) (rj : JR1) : Prop := ∃ r, UnR X f r ∧ SR1 X.K r rj
def jOp (rj : JR2) (ja jb : JTE) : JTE := fun ρ M Φ => ja ρ M fun x M1 => jb ρ M1 fun y M2 => rj x y M2 Φ
def jUn (rj : JR1) (ja : JTE) : JTE := fun ρ M Φ => ja ρ M fun x M1 => rj x M1 Φ
theorem snd_op {K : PySem.W.Frag} {r : R2} {rj : JR2} {ja jb : JTE} (hs : SR2 K r rj) {σ : L2.St} {H : Hp} {Q : VK} (h : rdE K (jOp rj ja jb) σ H Q) : tOp r (rdE K ja) (rdE K jb) σ H Q := by
  obtain ⟨F, ρ, M, Φ, W, S, h, l⟩ := h
  refine rdE.at W S h fun v H1 F1 x M1 e1 W1 r1 h1 => ?_
  refine rdE.at W1 (S.mono e1) h1 fun w H2 F2 y M2 e2 W2 r2 h2 => ?_
  exact hs F2 M2 H2 v w x y Φ Q W2 (r1.mono e2) r2 h2 (l.mono (e1.trans e2))
section
variable {X : Cx} {a b : Expr} {ja jb : JTE} {pos : Pos}
theorem je_op {op : Operator} {rj : JR2} (ho : OpJ X (binaryOp op) rj) (ha : JE X a ja) (hb : JE X b jb) : JE X (.BinOp a op b pos) (jOp rj ja jb) :=
  let ⟨_, h1, h2⟩ := ho
  (pe_op h1 ha hb).imp fun _ _ _ => snd_op h2
theorem je_un {op : UnaryOp} {rj : JR1} (ho : UnJ X (unaryOp op) rj) (ha : JE X a ja) : JE X (.UnaryOp op a pos) (jUn rj ja) :=
  let ⟨_, h1, hs⟩ := ho
  (pe_un h1 ha).imp fun σ H Q ⟨F, ρ, M, Φ, W, S, h, l⟩ => rdE.at W S h fun v H1 F1 x M1 e1 W1 r1 h1 => hs F1 M1 H1 v x Φ Q W1 r1 h1 (l.mono e1)
theorem je_cmp {op : CmpOp} {rj : JR2} (ho : OpJ X (compareOp op) rj) (ha : JE X a ja) (hb : JE X b jb) (hm : behindInMarks op b = false := by first | exact nomark _ | rfl) : JE X (.Compare a [op] [b] pos) (jOp rj ja jb) :=
  let ⟨_, h1, h2⟩ := ho
  (pe_cmpR h1 ha hb hm).imp fun _ _ _ => snd_op h2
/-- a test by a truth value -/
def jTest (je : JTE) : JTT := fun ρ M Φ => je ρ M fun x M1 => match x with
  | .d (.bool k) => Φ k M1
  | _ => False
theorem snd_test {K : PySem.W.Frag} {je : JTE} {te : TE} (hs : ∀ {σ : L2.St} {H : Hp} {Q : VK}, rdE K je σ H Q → te σ H Q) {σ : L2.St} {H : Hp} {Q : Bool → Hp → Prop} (h : rdT K (jTest je) σ H Q) : te σ H fun x H' => ∃ k, x = .bl k ∧ Q k H' := by
  obtain ⟨F, ρ, M, Φ, W, S, h, l⟩ := h
  refine hs (rdE.at W S h fun v H1 F1 x M1 e1 W1 r1 h1 => ?_)
  match x, r1, h1 with
  | .d (.bool k), r1, h1 =>
    cases r1
    exact ⟨k, rfl, l k H1 F1 M1 e1 W1 h1⟩
theorem jt_cmp {op : CmpOp} {rj : JR2} (ho : OpJ X (compareOp op) rj) (ha : JE X a ja) (hb : JE X b jb) (hm : behindInMarks op b = false := by first | exact nomark _ | rfl) : JT X (.Compare a [op] [b] pos) (jTest (jOp rj ja jb)) :=
  let ⟨_, h1, h2⟩ := ho
  (pt_cmpR h1 ha hb hm).imp fun _ _ _ h => snd_test (snd_op h2) h
theorem jt_val {e : Expr} {je : JTE} (h : JE X e je) (he : ∀ whole, isTrue e X.env whole = (do let v ← whole; standAt e.pos; holding [v] (truthy v)) := by intro _; rfl) : JT X e (jTest je) :=
  (pt_val h he).imp fun _ _ _ h => snd_test (fun h => h) h
/-! chains -/
def jChain (r r' : JR2) (ja jb jc : JTE) : JTE := fun ρ M Φ => ja ρ M fun x M1 => jb ρ M1 fun y M2 => r x y M2 fun z M3 => match z with
  | .d (.bool true) => jc ρ M3 fun w M4 => r' y w M4 Φ
  | .d (.bool false) => Φ (.d (.bool false)) M3
  | _ => False
theorem snd_chain {K : PySem.W.Frag} {r r' : R2} {rj rj' : JR2} {ja jb jc : JTE} (hs : SR2 K r rj) (hs' : SR2 K r' rj') {σ : L2.St} {H : Hp} {Q : VK} (h : rdE K (jChain rj rj' ja jb jc) σ H Q) : tChain r r' (rdE K ja) (rdE K jb) (rdE K jc) σ H Q := by
  obtain ⟨F, ρ, M, Φ, W, S, h, l⟩ := h
  refine rdE.at W S h fun v H1 F1 x M1 e1 W1 r1 h1 => ?_
  refine rdE.at W1 (S.mono e1) h1 fun w H2 F2 y M2 e2 W2 r2 h2 => ?_
  refine hs F2 M2 H2 v w x y _ _ W2 (r1.mono e2) r2 h2 fun z H3 F3 zx M3 e3 W3 r3 h3 => ?_
  match zx, r3, h3 with
  | .d (.bool true), r3, h3 =>
    cases r3
    refine ⟨true, rfl, ?_⟩
    rw [if_pos rfl]
    refine rdE.at W3 (S.mono ((e1.trans e2).trans e3)) h3 fun u H4 F4 ux M4 e4 W4 r4 h4 => ?_
    exact hs' F4 M4 H4 w u y ux Φ Q W4 (r2.mono (e3.trans e4)) r4 h4 (l.mono (((e1.trans e2).trans e3).trans e4))
  | .d (.bool false), r3, h3 =>
    cases r3
    refine ⟨false, rfl, ?_⟩
    rw [if_neg Bool.false_ne_true]
    exact l _ H3 F3 _ M3 ((e1.trans e2).trans e3) W3 (VD.bl false) h3
theorem je_chain {c : Expr} {jc : JTE} {op op' : CmpOp} {rj rj' : JR2} (ho : OpJ X (compareOp op) rj) (ho' : OpJ X (compareOp op') rj') (ha : JE X a ja) (hb : JE X b jb) (hc : JE X c jc)
    (hm : lastMarks [op, op'] [b, c] = false := by with_unfolding_all rfl) : JE X (.Compare a [op, op'] [b, c] pos) (jChain rj rj' ja jb jc) :=
  let ⟨_, h1, h2⟩ := ho
  let ⟨_, h1', h2'⟩ := ho'
  (pe_chain h1 h1' ha hb hc hm).imp fun _ _ _ h => snd_chain h2 h2' h
theorem jt_chain {c : Expr} {jc : JTE} {op op' : CmpOp} {rj rj' : JR2} (ho : OpJ X (compareOp op) rj) (ho' : OpJ X (compareOp op') rj') (ha : JE X a ja) (hb : JE X b jb) (hc : JE X c jc)
    (hm : lastMarks [op, op'] [b, c] = false := by with_unfolding_all rfl) : JT X (.Compare a [op, op'] [b, c] pos) (jTest (jChain rj rj' ja jb jc)) :=
  let ⟨_, h1, h2⟩ := ho
  let ⟨_, h1', h2'⟩ := ho'
  (pt_chain h1 h1' ha hb hc hm).imp fun _ _ _ h => snd_test (snd_chain h2 h2') h
end

/-! ### and, or, not; if -/
def jAnd (t u : JTT) : JTT := fun ρ M Φ => t ρ M fun c M1 => match c with
  | true => u ρ M1 Φ
  | false => Φ false M1
def jOr (t u : JTT) : JTT := fun ρ M Φ => t ρ M fun c M1 => match c with
  | true => Φ true M1
  | false => u ρ M1 Φ
def jNot (t : JTT) : JTT := fun ρ M Φ => t ρ M fun c M1 => Φ (!c) M1
def jAndV (ja jb : JTE) : JTE := fun ρ M Φ => ja ρ M fun x M1 => match x with
  | .d (.bool true) => jb ρ M1 Φ
  | .d (.bool false) => Φ (.d (.bool false)) M1
  | _ => False
def jOrV (ja jb : JTE) : JTE := fun ρ M Φ => ja ρ M fun x M1 => match x with
  | .d (.bool true) => Φ (.d (.bool true)) M1
  | .d (.bool false) => jb ρ M1 Φ
  | _ => False
def jNotV (ja : JTE) : JTE := fun ρ M Φ => ja ρ M fun x M1 => match x with
  | .d (.bool b) => Φ (.d (.bool (!b))) M1
  | _ => False
def jIf (t : JTT) (ja jb : JTE) : JTE := fun ρ M Φ => t ρ M fun c M1 => match c with
  | true => ja ρ M1 Φ
  | false => jb ρ M1 Φ
section
variable {X : Cx} {a b c : Expr} {rest : List Expr} {ja jb : JTE} {ta tb : JTT} {pos : Pos}
theorem jw_and1 (ha : JT X a ta) : JW X (.BoolOp .And [a] pos) ta := pw_and1 ha
theorem jw_or1 (ha : JT X a ta) : JW X (.BoolOp .Or [a] pos) ta := pw_or1 ha
theorem jw_and (ha : JT X a ta) (hb : JW X (.BoolOp .And (b :: rest) pos) tb) : JW X (.BoolOp .And (a :: b :: rest) pos) (jAnd ta tb) := (pw_and ha hb).imp fun σ H Q ⟨F, ρ, M, Φ, W, S, h, l⟩ =>
  rdT.at W S h fun c H1 F1 M1 e1 W1 h1 => by
    cases c with
    | true => rw [if_pos rfl]; exact rdT.at W1 (S.mono e1) h1 (l.mono e1)
    | false => rw [if_neg Bool.false_ne_true]; exact l false H1 F1 M1 e1 W1 h1
theorem jw_or (ha : JT X a ta) (hb : JW X (.BoolOp .Or (b :: rest) pos) tb) : JW X (.BoolOp .Or (a :: b :: rest) pos) (jOr ta tb) := (pw_or ha hb).imp fun σ H Q ⟨F, ρ, M, Φ, W, S, h, l⟩ =>
  rdT.at W S h fun c H1 F1 M1 e1 W1 h1 => by
    cases c with
    | false => rw [if_neg Bool.false_ne_true]; exact rdT.at W1 (S.mono e1) h1 (l.mono e1)
    | true => rw [if_pos rfl]; exact l true H1 F1 M1 e1 W1 h1
theorem jt_not (ha : JT X a ta) : JT X (.UnaryOp .Not a pos) (jNot ta) := (pt_not ha).imp fun σ H Q ⟨F, ρ, M, Φ, W, S, h, l⟩ =>
  rdT.at W S h fun c H1 F1 M1 e1 W1 h1 => l (!c) H1 F1 M1 e1 W1 h1
theorem jt_w (h : JW X a ta) : JT X a ta := h.pt
theorem je_one {op} {t : JTE} (h : JE X a t) : JE X (.BoolOp op [a] pos) t := pe_one h
theorem je_and (ha : JE X a ja) (hb : JE X (.BoolOp .And (b :: rest) pos) jb) : JE X (.BoolOp .And (a :: b :: rest) pos) (jAndV ja jb) := (pe_and ha hb).imp fun σ H Q ⟨F, ρ, M, Φ, W, S, h, l⟩ =>
  rdE.at W S h fun v H1 F1 x M1 e1 W1 r1 h1 => by
    match x, r1, h1 with
    | .d (.bool true), r1, h1 => cases r1; exact ⟨true, rfl, by rw [if_pos rfl]; exact rdE.at W1 (S.mono e1) h1 (l.mono e1)⟩
    | .d (.bool false), r1, h1 => cases r1; exact ⟨false, rfl, by rw [if_neg Bool.false_ne_true]; exact l _ H1 F1 _ M1 e1 W1 (VD.bl false) h1⟩
theorem je_or (ha : JE X a ja) (hb : JE X (.BoolOp .Or (b :: rest) pos) jb) : JE X (.BoolOp .Or (a :: b :: rest) pos) (jOrV ja jb) := (pe_or ha hb).imp fun σ H Q ⟨F, ρ, M, Φ, W, S, h, l⟩ =>
  rdE.at W S h fun v H1 F1 x M1 e1 W1 r1 h1 => by
    match x, r1, h1 with
    | .d (.bool false), r1, h1 => cases r1; exact ⟨false, rfl, by rw [if_neg Bool.false_ne_true]; exact rdE.at W1 (S.mono e1) h1 (l.mono e1)⟩
    | .d (.bool true), r1, h1 => cases r1; exact ⟨true, rfl, by rw [if_pos rfl]; exact l _ H1 F1 _ M1 e1 W1 (VD.bl true) h1⟩
theorem je_not (ha : JE X a ja) : JE X (.UnaryOp .Not a pos) (jNotV ja) := (pe_not ha).imp fun σ H Q ⟨F, ρ, M, Φ, W, S, h, l⟩ =>
  rdE.at W S h fun v H1 F1 x M1 e1 W1 r1 h1 => by
    match x, r1, h1 with
    | .d (.bool b), r1, h1 => cases r1; exact ⟨b, rfl, l _ H1 F1 _ M1 e1 W1 (VD.bl _) h1⟩
theorem je_if (hc : JT X c ta) (ha : JE X a ja) (hb : JE X b jb) : JE X (.IfExp c a b pos) (jIf ta ja jb) := (pe_ifExp hc ha hb).imp fun σ H Q ⟨F, ρ, M, Φ, W, S, h, l⟩ =>
  rdT.at W S h fun c H1 F1 M1 e1 W1 h1 => by
    cases c with
    | true => rw [if_pos rfl]; exact rdE.at W1 (S.mono e1) h1 (l.mono e1)
    | false => rw [if_neg Bool.false_ne_true]; exact rdE.at W1 (S.mono e1) h1 (l.mono e1)
end

/-! ### arguments, displays -/
def jNil : JTA := fun _ M Φ => Φ [] M
def jCons (je : JTE) (ja : JTA) : JTA := fun ρ M Φ => je ρ M fun x M1 => ja ρ M1 fun xs M2 => Φ (x :: xs) M2
/-- an EV as data: a list cell of data is frozen -/
def fz : EV → Mem → Option (PyData × Mem)
  | .d x, M => some (x, M)
  | .v (.ref p), M => match M p with
    | some (.lst xs) => match allD xs with
      | some ds => some (.list ds, M.del p)
      | none => none
    | _ => none
  | _, _ => none
def fzs : List EV → Mem → Option (List PyData × Mem)
  | [], M => some ([], M)
  | x :: xs, M => match fz x M with
    | some (d, M1) => match fzs xs M1 with
      | some (ds, M2) => some (d :: ds, M2)
      | none => none
    | none => none
theorem fz_ok {K : PySem.W.Frag} {M M' : Mem} {H F : Hp} {x : EV} {v : V} {d : PyData} (W : Wd K M H F) (r : VD K F v x) (h : fz x M = some (d, M')) : ∃ F', Le F F' ∧ Wd K M' H F' ∧ Dq K F' v d := by
  unfold fz at h
  split at h
  · cases h; exact ⟨F, Le.refl F, W, r⟩
  · rename_i M p
    split at h
    · rename_i xs e
      split at h
      · rename_i ds ed
        cases h
        cases allD_map ed
        cases (show v = .ref p from r)
        obtain ⟨hF, vs, hH, hv⟩ := W.mem p _ e
        exact ⟨_, Le.upd hF, W.freeze e hH, .lst upd_same ((DqAll.of hv).mono (Le.upd hF))⟩
      · cases h
    · cases h
  · cases h
theorem fzs_ok {K : PySem.W.Frag} {H : Hp} : ∀ {xs : List EV} {M M' : Mem} {F : Hp} {vs : List V} {ds : List PyData}, Wd K M H F → VDs K F vs xs → fzs xs M = some (ds, M') → ∃ F', Le F F' ∧ Wd K M' H F' ∧ DqAll K F' vs ds
  | [], M, M', F, vs, ds, W, r, h => by
    cases r; cases h
    exact ⟨F, Le.refl F, W, .nil⟩
  | x :: xs, M, M', F, vs, ds, W, r, h => by
    cases r with
    | cons r t =>
      unfold fzs at h
      split at h
      · rename_i d M1 e1
        split at h
        · rename_i ds' M2 e2
          cases h
          obtain ⟨F1, l1, W1, q1⟩ := fz_ok W r e1
          obtain ⟨F2, l2, W2, q2⟩ := fzs_ok W1 (VDs.mono l1 t) e2
          exact ⟨F2, l1.trans l2, W2, .cons (q1.mono l2) q2⟩
        · cases h
      · cases h
def smallLen (n : Nat) : Bool := decide (n ≤ 1000)
theorem smallLen_ok {n : Nat} (h : smallLen n = true) : n ≤ sizeLine := Nat.le_trans (of_decide_eq_true h) (by decide)
def jTup (ja : JTA) : JTE := fun ρ M Φ => ja ρ M fun xs M1 => match smallLen xs.length, fzs xs M1 with
  | true, some (ds, M2) => Φ (.d (.tuple ds)) M2
  | _, _ => False
/-- a list display as data -/
def jLstD (ja : JTA) : JTE := fun ρ M Φ => ja ρ M fun xs M1 => match smallLen xs.length, fzs xs M1 with
  | true, some (ds, M2) => Φ (.d (.list ds)) M2
  | _, _ => False
/-- .. as a cell -/
def jLstC (ja : JTA) : JTE := fun ρ M Φ => ja ρ M fun xs M1 => match smallLen xs.length with
  | true => ∀ p, M1 p = none → Φ (.v (.ref p)) (M1.set p (.lst xs))
  | false => False
section
variable {X : Cx} {e : Expr} {es : List Expr} {je : JTE} {ja : JTA} {pos : Pos}
theorem ja_nil : JA X [] jNil := pa_nil.imp fun σ H Q ⟨F, ρ, M, Φ, W, S, h, l⟩ => l [] H F [] M (Le.refl F) W .nil h
theorem ja_cons (ha : JE X e je) (hr : JA X es ja) (hs : starEach (e :: es) X.env = (false, eval e X.env) :: starEach es X.env := by rfl) : JA X (e :: es) (jCons je ja) := (pa_cons ha hr hs).imp fun σ H Q ⟨F, ρ, M, Φ, W, S, h, l⟩ =>
  rdE.at W S h fun v H1 F1 x M1 e1 W1 r1 h1 => rdA.at W1 (S.mono e1) h1 fun vs H2 F2 xs M2 e2 W2 r2 h2 => l (v :: vs) H2 F2 (x :: xs) M2 (e1.trans e2) W2 (.cons (r1.mono e2) r2) h2
theorem je_tup {k} (h : JA X es ja) : JE X (.Tuple es k pos) (jTup ja) := (pe_tup h).imp fun σ H Q ⟨F, ρ, M, Φ, W, S, h, l⟩ =>
  rdA.at W S h fun vs H1 F1 xs M1 e1 W1 r1 h1 => by
    split at h1
    · rename_i ds M2 e2 e3
      obtain ⟨F2, l2, W2, q2⟩ := fzs_ok W1 r1 e3
      refine ⟨by rw [Paired.length r1]; exact smallLen_ok e2, fun p hp => ?_⟩
      exact l _ _ _ (.d (.tuple ds)) M2 ((e1.trans l2).trans (W2.le hp (.tup vs))) (W2.lay hp (.tup vs)) (Dq.tup upd_same (q2.mono (W2.le hp _))) h1
    · exact h1.elim
theorem je_lstD (h : JA X es ja) : JE X (.List es pos) (jLstD ja) := (pe_lst h).imp fun σ H Q ⟨F, ρ, M, Φ, W, S, h, l⟩ =>
  rdA.at W S h fun vs H1 F1 xs M1 e1 W1 r1 h1 => by
    split at h1
    · rename_i ds M2 e2 e3
      obtain ⟨F2, l2, W2, q2⟩ := fzs_ok W1 r1 e3
      refine ⟨by rw [Paired.length r1]; exact smallLen_ok e2, fun p hp => ?_⟩
      exact l _ _ _ (.d (.list ds)) M2 ((e1.trans l2).trans (W2.le hp (.lst vs))) (W2.lay hp (.lst vs)) (Dq.lst upd_same (q2.mono (W2.le hp _))) h1
    · exact h1.elim
theorem je_lstC (h : JA X es ja) : JE X (.List es pos) (jLstC ja) := (pe_lst h).imp fun σ H Q ⟨F, ρ, M, Φ, W, S, h, l⟩ =>
  rdA.at W S h fun vs H1 F1 xs M1 e1 W1 r1 h1 => by
    split at h1
    · rename_i e2
      refine ⟨by rw [Paired.length r1]; exact smallLen_ok e2, fun p hp => ?_⟩
      exact l _ _ F1 (.v (.ref p)) _ e1 (W1.cell (m := .lst xs) hp fun H' e => ⟨vs, e, r1⟩) rfl (h1 p (W1.freeM hp))
    · exact h1.elim
end

/-! ### statements -/
section
variable {X : Cx} {E : XK} {st : Stmt} {rest : List Stmt} {e : Expr} {je : JTE} {js ju : JTS} {pos : Pos}
def jNext : JTS := fun J ρ M => J.nx ρ M
def jSeq (t u : JTS) : JTS := fun J ρ M => t { J with nx := fun ρ1 M1 => u J ρ1 M1 } ρ M
theorem jss_nil : JSs X E [] jNext := pss_nil.imp fun D σ H ⟨F, ρ, M, J, W, S, h, l⟩ => l.nx σ H F ρ M (Le.refl F) W S h
theorem jss_cons (h1 : JS X E st js) (h2 : JSs X E rest ju) : JSs X E (st :: rest) (jSeq js ju) := (pss_cons h1 h2).imp fun D σ H ⟨F, ρ, M, J, W, S, h, l⟩ =>
  rdS.at (J := { J with nx := fun ρ1 M1 => ju J ρ1 M1 }) W S h (l.withNx fun σ1 H1 F1 ρ1 M1 e1 W1 S1 h1 => rdS.at W1 S1 h1 (l.mono e1))
theorem jss_one (h1 : JS X E st js) : JSs X E [st] js := pss_one h1
def jBreak : JTS := fun J ρ M => J.bk ρ M
def jCont : JTS := fun J ρ M => J.ct ρ M
theorem js_pass : JS X E (.Pass pos) jNext := ps_pass.imp fun D σ H ⟨F, ρ, M, J, W, S, h, l⟩ => l.nx σ H F ρ M (Le.refl F) W S h
theorem js_break : JS X E (.Break pos) jBreak := ps_break.imp fun D σ H ⟨F, ρ, M, J, W, S, h, l⟩ => l.bk σ H F ρ M (Le.refl F) W S h
theorem js_continue : JS X E (.Continue pos) jCont := ps_continue.imp fun D σ H ⟨F, ρ, M, J, W, S, h, l⟩ => l.ct σ H F ρ M (Le.refl F) W S h
theorem js_doc {x j pos'} : JS X E (.Expr (.Constant (.str x) j pos) pos') jNext := ps_doc.imp fun D σ H ⟨F, ρ, M, J, W, S, h, l⟩ => l.nx σ H F ρ M (Le.refl F) W S h
def jDrop (je : JTE) : JTS := fun J ρ M => je ρ M fun _ M1 => J.nx ρ M1
theorem js_expr (he : JE X e je) (hs : swapsWith e none pos.line X.env = pure false := by rfl) : JS X E (.Expr e pos) (jDrop je) := (ps_expr he hs).imp fun D σ H ⟨F, ρ, M, J, W, S, h, l⟩ =>
  rdE.at W S h fun v H1 F1 x M1 e1 W1 r1 h1 => l.nx σ H1 F1 ρ M1 e1 W1 (S.mono e1) h1
def jRet (je : JTE) : JTS := fun J ρ M => je ρ M J.rt
theorem js_ret (he : JE X e je) : JS X E (.Return (some e) pos) (jRet je) := (ps_ret he).imp fun D σ H ⟨F, ρ, M, J, W, S, h, l⟩ => rdE.at W S h l.rt
def jRetN : JTS := fun J ρ M => J.rt (.d .none) M
theorem js_retN : JS X E (.Return none pos) jRetN := ps_retN.imp fun D σ H ⟨F, ρ, M, J, W, S, h, l⟩ => l.rt .non H F _ M (Le.refl F) W VD.non h
/-- return, a list cell of data frozen -/
def jFz (je : JTE) : JTE := fun ρ M Φ => je ρ M fun x M1 => match fz x M1 with
  | some (d, M2) => Φ (.d d) M2
  | none => False
theorem je_fz (h : JE X e je) : JE X e (jFz je) := h.imp fun σ H Q ⟨F, ρ, M, Φ, W, S, h, l⟩ =>
  rdE.at W S h fun v H1 F1 x M1 e1 W1 r1 h1 => by
    split at h1
    · rename_i d M2 e2
      obtain ⟨F2, l2, W2, q2⟩ := fz_ok W1 r1 e2
      exact l v H1 F2 (.d d) M2 (e1.trans l2) W2 q2 h1
    · exact h1.elim
/-- a slot's list cell is frozen on the way -/
def jFzAt (i : Nat) (js : JTS) : JTS := fun J ρ M => match look ρ i with
  | some x => match fz x M with
    | some (d, M2) => js J (ρ.set i (some (.d d))) M2
    | none => False
  | none => False
theorem sv_at {K : PySem.W.Frag} {F : Hp} {v : V} {x : EV} (r : VD K F v x) : ∀ {σ : L2.St} {ρ : JEnv} {i : Nat}, SV K F σ ρ → σ[i]? = some (some v) → SV K F σ (ρ.set i (some x))
  | _, _, _, .nil, _ => .nil
  | _, _, 0, .cons _ t, e => .cons (fun y q => by cases q; simp at e; exact ⟨v, e, r⟩) t
  | _, _, i + 1, .cons q t, e => .cons q (sv_at r (i := i) t (by simpa using e))
theorem jss_fz (i : Nat) {sts : List Stmt} (h : JSs X E sts js) : JSs X E sts (jFzAt i js) := h.imp fun D σ H ⟨F, ρ, M, J, W, S, h, l⟩ => by
  unfold jFzAt at h
  split at h
  · rename_i x e
    split at h
    · rename_i d M2 e2
      obtain ⟨v, e1, r⟩ := S.get (look_eq e)
      obtain ⟨F2, l2, W2, q2⟩ := fz_ok W r e2
      exact rdS.at W2 (sv_at (show VD X.K F2 v (.d d) from q2) (S.mono l2) e1) h (l.mono l2)
    · exact h.elim
  · exact h.elim
theorem js_fz (i : Nat) {st : Stmt} (h : JS X E st js) : JS X E st (jFzAt i js) := PS.imp h fun D σ H ⟨F, ρ, M, J, W, S, h, l⟩ => by
  unfold jFzAt at h
  split at h
  · rename_i x e
    split at h
    · rename_i d M2 e2
      obtain ⟨v, e1, r⟩ := S.get (look_eq e)
      obtain ⟨F2, l2, W2, q2⟩ := fz_ok W r e2
      exact rdS.at W2 (sv_at (show VD X.K F2 v (.d d) from q2) (S.mono l2) e1) h (l.mono l2)
    · exact h.elim
  · exact h.elim
def jIfS (c : JTT) (t u : JTS) : JTS := fun J ρ M => c ρ M fun b M1 => match b with
  | true => t J ρ M1
  | false => u J ρ M1
theorem js_if {c : Expr} {a b : List Stmt} {jc : JTT} (hc : JT X c jc) (ha : JSs X E a js) (hb : JSs X E b ju) : JS X E (.If c a b pos) (jIfS jc js ju) := (ps_if hc ha hb).imp fun D σ H ⟨F, ρ, M, J, W, S, h, l⟩ =>
  rdT.at W S h fun c H1 F1 M1 e1 W1 h1 => by
    cases c with
    | true => rw [if_pos rfl]; exact rdS.at W1 (S.mono e1) h1 (l.mono e1)
    | false => rw [if_neg Bool.false_ne_true]; exact rdS.at W1 (S.mono e1) h1 (l.mono e1)
def jNever : JTS := fun _ _ _ => False
theorem js_never : JS X E st jNever := (ps_never (st := st)).imp fun D σ H ⟨F, ρ, M, J, W, S, h, l⟩ => h
theorem jss_never {sts : List Stmt} : JSs X E sts jNever := (pss_never (sts := sts)).imp fun D σ H ⟨F, ρ, M, J, W, S, h, l⟩ => h
/-! targets -/
def jName (i : Nat) : JTG := fun x ρ M Φ => Φ (ρ.set i (some x)) M
theorem jg_name {i : Nat} {x : Str} (hN : X.N.Nodup) (hi : X.N[i]? = some x) (hx : Loc X.env.scope x) (hf : X.fn x = true ∨ X.env.scope.names.lookup x = some .local := by first | exact .inl rfl | exact .inr rfl | assumption) : JG X (.Name x pos) (jName i) :=
  (pg_name hN hi hx hf).imp fun v σ H Q ⟨F, ρ, M, x, Φ, W, S, r, h, l⟩ => l _ H F _ M (Le.refl F) W (S.set r i) h
abbrev JTGs := List EV → JEnv → Mem → (JEnv → Mem → Prop) → Prop
def rdGs (K : PySem.W.Frag) (jg : JTGs) : TGs := fun vs σ H Q => ∃ F ρ M xs Φ, Wd K M H F ∧ SV K F σ ρ ∧ VDs K F vs xs ∧ jg xs ρ M Φ ∧ LN K F Φ Q
abbrev JGs (X : Cx) (es : List Expr) (jg : JTGs) : Prop := PGs X es (rdGs X.K jg)
def jgNil : JTGs := fun xs ρ M Φ => match xs with
  | [] => Φ ρ M
  | _ => False
def jgCons (t : JTG) (u : JTGs) : JTGs := fun xs ρ M Φ => match xs with
  | x :: r => t x ρ M fun ρ1 M1 => u r ρ1 M1 Φ
  | [] => False
theorem jgs_nil : JGs X [] jgNil := ⟨fun pins s σ H vs us Q I r ⟨F, ρ, M, xs, Φ, W, S, rv, h, l⟩ => pgs_nil.run pins s σ H vs us Q I r (by
  cases rv with
  | nil => exact ⟨rfl, l σ H F ρ M (Le.refl F) W S h⟩
  | cons _ _ => exact h.elim)⟩
theorem jgs_cons {es : List Expr} {t : JTG} {u : JTGs} (h1 : JG X e t) (h2 : JGs X es u)
    (hs : (assignEach (e :: es) X.env).map (·.2) = assign e X.env :: (assignEach es X.env).map (·.2) := by rfl) : JGs X (e :: es) (jgCons t u) := ⟨fun pins s σ H vs us Q I r ⟨F, ρ, M, xs, Φ, W, S, rv, h, l⟩ =>
  (pgs_cons h1 h2 hs).run pins s σ H vs us Q I r (by
    cases rv with
    | nil => exact h.elim
    | cons rv rt => exact ⟨_, _, rfl, rdG.at W S rv h fun σ1 H1 F1 ρ1 M1 e1 W1 S1 h1 => ⟨F1, ρ1, M1, _, Φ, W1, S1, VDs.mono e1 rt, h1, l.mono e1⟩⟩)⟩
def jgTup (n : Nat) (t : JTGs) : JTG := fun x ρ M Φ => match x with
  | .d (.tuple ds) => match decide (ds.length = n) with
    | true => t (ds.map .d) ρ M Φ
    | false => False
  | _ => False
theorem jg_tup {es : List Expr} {k : Nat} {t : JTGs} {n : Nat} (hc : X.calm = true) (h : JGs X es t)
    (hn : (assignEach es X.env).length = n := by rfl) (hst : (assignEach es X.env).findIdx? (·.1) = none := by rfl) : JG X (.Tuple es k pos) (jgTup n t) :=
  (pg_tup hc h hn hst).imp fun v σ H Q ⟨F, ρ, M, x, Φ, W, S, r, h, l⟩ => by
    unfold jgTup at h
    split at h
    · rename_i ds
      split at h
      · rename_i hl
        obtain ⟨a, xs, rfl, ht, q⟩ := Dq.tuple r
        exact ⟨a, xs, rfl, W.sub.sqT ht, q.length.trans (of_decide_eq_true hl), F, ρ, M, _, Φ, W, S, VDs.of q, h, l⟩
      · exact h.elim
    · exact h.elim
def jAsg (je : JTE) (g : JTG) : JTS := fun J ρ M => je ρ M fun x M1 => g x ρ M1 J.nx
theorem snd_asg {K : PySem.W.Frag} {je : JTE} {g : JTG} {D : Ends} {σ : L2.St} {H : Hp} (h : rdS K E (jAsg je g) D σ H) : tAsg (rdE K je) (rdG K g) D σ H := by
  obtain ⟨F, ρ, M, J, W, S, h, l⟩ := h
  exact rdE.at W S h fun v H1 F1 x M1 e1 W1 r1 h1 => rdG.at W1 (S.mono e1) r1 h1 (l.nx.mono e1)
theorem js_asg {tg : Expr} {g : JTG} (he : JE X e je) (hg : JG X tg g) (hs : swapsWithSole [tg] e pos.line X.env = pure false := by rfl) (hw : swappedStores [tg] e X.env = pure none := by rfl)
    (h1 : (assignEach [tg] X.env).map (·.2) = [assign tg X.env] := by rfl) : JS X E (.Assign [tg] e pos) (jAsg je g) := (ps_asg he hg hs hw h1).imp fun D σ H h => snd_asg h
theorem js_set {i : Nat} {x : Str} {pos' : Pos} (hN : X.N.Nodup) (hi : X.N[i]? = some x) (hx : Loc X.env.scope x) (he : JE X e je) (hs : swapsWith e (some (.Name x pos')) pos.line X.env = pure false := by rfl)
    (hf : X.fn x = true ∨ X.env.scope.names.lookup x = some .local := by first | exact .inl rfl | exact .inr rfl | assumption) : JS X E (.Assign [.Name x pos'] e pos) (jAsg je (jName i)) :=
  (ps_set hN hi hx he hs hf).imp fun D σ H ⟨F, ρ, M, J, W, S, h, l⟩ => rdE.at W S h fun v H1 F1 x M1 e1 W1 r1 h1 => l.nx _ H1 F1 _ M1 e1 W1 ((S.mono e1).set r1 i) h1
def jPar (i j : Nat) (ja : JTA) : JTS := fun J ρ M => ja ρ M fun xs M1 => match xs with
  | [x, y] => J.nx ((ρ.set i (some x)).set j (some y)) M1
  | _ => False
theorem js_par {i j : Nat} {x y : Str} {a b : Expr} {ja : JTA} {px py pt : Pos} {kt k2 pt2} (hc : X.calm = true) (hN : X.N.Nodup) (hi : X.N[i]? = some x) (hj : X.N[j]? = some y) (hij : i ≠ j)
    (hx : X.env.scope.names.lookup x = some .local) (hy : X.env.scope.names.lookup y = some .local) (ha : JA X [a, b] ja)
    (hw : swappedStores [.Tuple [.Name x px, .Name y py] kt pt] (.Tuple [a, b] k2 pt2) X.env = pure (some [x, y]))
    (hs : swapsWithSole [.Tuple [.Name x px, .Name y py] kt pt] (.Tuple [a, b] k2 pt2) pos.line X.env = pure false := by rfl) :
    JS X E (.Assign [.Tuple [.Name x px, .Name y py] kt pt] (.Tuple [a, b] k2 pt2) pos) (jPar i j ja) := (ps_par hc hN hi hj hij hx hy ha hw hs).imp fun D σ H ⟨F, ρ, M, J, W, S, h, l⟩ =>
  rdA.at W S h fun vs H1 F1 xs M1 e1 W1 r1 h1 => by
    match xs, r1, h1 with
    | [x, y], .cons rx (.cons ry .nil), h1 => exact ⟨_, _, rfl, l.nx _ H1 F1 _ M1 e1 W1 (((S.mono e1).set rx i).set ry j) h1⟩
/-! while -/
def jWhile (c : JTT) (jb : JTS) : JTS := fun J ρ M => ∃ W : Nat → JEnv → Mem → Prop, (∃ m, W m ρ M) ∧ ∀ m ρ M, W m ρ M → c ρ M fun b M1 => match b with
  | true => jb { J with nx := fun ρ' M' => ∃ m', m' < m ∧ W m' ρ' M', ct := fun ρ' M' => ∃ m', m' < m ∧ W m' ρ' M', bk := J.nx } ρ M1
  | false => J.nx ρ M1
theorem js_while {c : Expr} {body : List Stmt} {jc : JTT} {jb : JTS} (hp : PassesOwn (model X.prog X.w) X.A X.env X.xe) (hc : JT X c jc) (hb : JSs X E body jb) : JS X E (.While c body [] pos) (jWhile jc jb) := (ps_while hp hc hb).imp fun D σ H ⟨F, ρ, M, J, W, S, h, l⟩ => by
  obtain ⟨Wj, ⟨m0, w0⟩, turn⟩ := h
  refine ⟨fun m σ' H' => ∃ F' ρ' M', Le F F' ∧ Wd X.K M' H' F' ∧ SV X.K F' σ' ρ' ∧ Wj m ρ' M', ⟨m0, F, ρ, M, Le.refl F, W, S, w0⟩, ?_⟩
  rintro m σ1 H1 ⟨F1, ρ1, M1, l1, W1, S1, w1⟩
  refine rdT.at W1 S1 (turn m ρ1 M1 w1) fun b H2 F2 M2 e2 W2 h2 => ?_
  cases b with
  | true =>
    rw [if_pos rfl]
    refine ⟨fun σ' H' => ∃ m', m' < m ∧ ∃ F' ρ' M', Le F F' ∧ Wd X.K M' H' F' ∧ SV X.K F' σ' ρ' ∧ Wj m' ρ' M', fun σ' H' q => q, ?_⟩
    have again : LN X.K F2 (fun ρ' M' => ∃ m', m' < m ∧ Wj m' ρ' M') (fun σ' H' => ∃ m', m' < m ∧ ∃ F' ρ' M', Le F F' ∧ Wd X.K M' H' F' ∧ SV X.K F' σ' ρ' ∧ Wj m' ρ' M') :=
      fun σ3 H3 F3 ρ3 M3 e3 W3 S3 ⟨m', hm, w3⟩ => ⟨m', hm, F3, ρ3, M3, (l1.trans e2).trans e3, W3, S3, w3⟩
    exact rdS.at W2 (S1.mono e2) h2 ⟨again, l.rt.mono (l1.trans e2), l.nx.mono (l1.trans e2), again, l.xr.mono (l1.trans e2)⟩
  | false =>
    rw [if_neg Bool.false_ne_true]
    exact l.nx σ1 H2 F2 ρ1 M2 (l1.trans e2) W2 (S1.mono e2) h2
end

/-! ### calls of defs -/
abbrev TJ := List EV → Mem → JK → JXK → Prop
/-- a def's promise -/
def spJ (K : PySem.W.Frag) (T : TJ) : Sp := fun vs H Q E => ∃ F M xs Φ Ψ, Wd K M H F ∧ VDs K F vs xs ∧ T xs M Φ Ψ ∧ LE K F Φ Q ∧ LX K F Ψ E
def jCall (T : TJ) (ja : JTA) : JTE := fun ρ M Φ => ja ρ M fun xs M1 => T xs M1 Φ fun _ _ => False
theorem lx0 {K : PySem.W.Frag} {F : Hp} {E : XK} : LX K F (fun _ _ => False) E := fun _ _ _ _ _ _ _ z => z.elim
section
variable {X : Cx} {CX : CXT} {k : Nat} {f : Addr} {fd : FuncData} {ps : List Str} {T : TJ} {E : XK} {x : Str} {p pos : Pos} {e : Expr} {es : List Expr} {ja : JTA}
theorem je_call (F : FnOk X.prog X.w X.K X.mg X.base CX k f fd ps (spJ X.K T)) (hr : Room k X.A) (hg : Gl X x) (hm : X.mg x = some (.ref f)) (hk : PySem.W.keepIn X.K (.ref f) = true) (hb : Binds X.K fd ps [])
    (ha : JA X (e :: es) ja) (hx : Passes CX X E0 := by first | exact pass0 | exact passL) (hdb : (x == ("__debug__" : Str)) = false := by decide) (he : starEach (e :: es) X.env = (false, eval e X.env) :: starEach es X.env := by rfl) (hpl : (backTo pos (starEach es X.env)).any (·.1) = false := by rfl) :
    JE X (.Call (.Name x p) (e :: es) [] pos) (jCall T ja) := (pe_call F hr hg hm hk hb .nil hx ha hdb he hpl).imp fun σ H Q ⟨F, ρ, M, Φ, W, S, h, l⟩ =>
  rdA.at W S h fun vs H1 F1 xs M1 e1 W1 r1 h1 => by
    show spJ X.K T (vs ++ []) H1 Q E0
    rw [List.append_nil]
    exact ⟨F1, M1, xs, Φ, _, W1, r1, h1, l.mono e1, lx0⟩
/-- a call that may raise, as a statement's whole: its raising way is the statement's -/
def jDropX (T : TJ) (ja : JTA) : JTS := fun J ρ M => ja ρ M fun xs M1 => T xs M1 (fun _ M2 => J.nx ρ M2) J.xr
def jRetX (T : TJ) (ja : JTA) : JTS := fun J ρ M => ja ρ M fun xs M1 => T xs M1 J.rt J.xr
theorem js_callX {pos' : Pos} (F : FnOk X.prog X.w X.K X.mg X.base CX k f fd ps (spJ X.K T)) (hr : Room k X.A) (hg : Gl X x) (hm : X.mg x = some (.ref f)) (hk : PySem.W.keepIn X.K (.ref f) = true) (hb : Binds X.K fd ps [])
    (ha : JA X (e :: es) ja) (hx : Passes CX X E) (hdb : (x == ("__debug__" : Str)) = false := by decide) (he : starEach (e :: es) X.env = (false, eval e X.env) :: starEach es X.env := by rfl) (hpl : (backTo pos (starEach es X.env)).any (·.1) = false := by rfl)
    (hs : swapsWith (.Call (.Name x p) (e :: es) [] pos) none pos'.line X.env = pure false := by rfl) :
    JS X E (.Expr (.Call (.Name x p) (e :: es) [] pos) pos') (jDropX T ja) := (ps_expr (pe_call F hr hg hm hk hb .nil hx ha hdb he hpl) hs).imp fun D σ H ⟨F, ρ, M, J, W, S, h, l⟩ =>
  rdA.at W S h fun vs H1 F1 xs M1 e1 W1 r1 h1 => by
    show spJ X.K T (vs ++ []) H1 _ E
    rw [List.append_nil]
    exact ⟨F1, M1, xs, _, _, W1, r1, h1, fun v H2 F2 y M2 e2 W2 r2 h2 => l.nx σ H2 F2 ρ M2 (e1.trans e2) W2 (S.mono (e1.trans e2)) h2, l.xr.mono e1⟩
end
/-- the slots at a def's entry -/
def jstart (n : Nat) (xs : List EV) : JEnv := xs.map some ++ List.replicate (n - xs.length) none
theorem sv_start {K : PySem.W.Frag} {F : Hp} {N : List Str} {vs : List V} {xs : List EV} (r : VDs K F vs xs) : SV K F (L2.start N vs) (jstart N.length xs) := by
  have h1 : ∀ {vs : List V} {xs : List EV}, VDs K F vs xs → SV K F (vs.map some) (xs.map some) := by
    intro vs xs r
    induction r with
    | nil => exact .nil
    | cons r _ ih => exact .cons (fun y e => by cases e; exact ⟨_, rfl, r⟩) ih
  have h2 : ∀ n, SV K F (List.replicate n none) (List.replicate n none) := by
    intro n
    induction n with
    | zero => exact .nil
    | succ n ih => exact .cons (fun y e => by cases e) ih
  have app : ∀ {a : L2.St} {b : JEnv} {c : L2.St} {d : JEnv}, SV K F a b → SV K F c d → SV K F (a ++ c) (b ++ d) := by
    intro a b c d r s
    induction r with
    | nil => exact s
    | cons r _ ih => exact .cons r ih
  unfold L2.start jstart
  rw [Paired.length r]
  exact app (h1 r) (h2 _)
section
variable {P : Program} {w : World} {K : PySem.W.Frag} {mg : Str → Option Value} {base : Heap}
/-- THE RULE for a def that raises nothing -/
theorem fn_j {x qual : Str} {st : Stmt} {f : Addr} {fd : FuncData} {N ps : List Str} {k : Nat} {T : TJ} (F : Fun K x qual st f fd) (S : FnScope N ps (defScope st)) (len : ∀ xs M Φ Ψ, T xs M Φ Ψ → xs.length = ps.length)
    (hbody : ∀ (cdv : Value) (A : Around) (outer : List Env) (s : Shared) (H : Hp) (E : XK), Room k (A.deeper (envOfC qual (defScope st) s.heap.objs.size f cdv)) →
      ∃ js, JSs (cxOf CX0 P w K mg base N qual (defScope st) f cdv A outer s H E).nox E (defBody st) js ∧ ∀ xs M Φ Ψ, T xs M Φ Ψ → js { nx := fun _ M' => Φ (.d .none) M', rt := Φ, xr := Ψ } (jstart N.length xs) M) :
    FnOk P w K mg base CX0 (k + 1) f fd ps (spJ K T) := by
  refine F.ok S (fun vs H Q E h => ?_) (fun cdv A outer s H vs Q E hr h => ?_)
  · obtain ⟨F, M, xs, Φ, Ψ, W, r, h, l, lx⟩ := h
    rw [Paired.length r]; exact len _ _ _ _ h
  · obtain ⟨js, h1, h2⟩ := hbody cdv A outer s H E hr
    obtain ⟨F, M, xs, Φ, Ψ, W, r, h, l, lx⟩ := h
    exact ⟨_, h1, rdS.at W (sv_start r) (h2 _ _ _ _ h) ⟨fun σ' H' F' ρ' M' e W' S' h' => l .non H' F' _ M' e W' VD.non h', l, fun _ _ _ _ _ _ _ _ z => z.elim, fun _ _ _ _ _ _ _ _ z => z.elim, lx⟩⟩
/-- .. that may raise -/
theorem fn_jX {x qual : Str} {st : Stmt} {f : Addr} {fd : FuncData} {N ps : List Str} {k : Nat} {T : TJ} (F : Fun K x qual st f fd) (S : FnScope N ps (defScope st)) (len : ∀ xs M Φ Ψ, T xs M Φ Ψ → xs.length = ps.length)
    (hbody : ∀ (cdv : Value) (A : Around) (outer : List Env) (s : Shared) (H : Hp) (E : XK), Room k (A.deeper (envOfC qual (defScope st) s.heap.objs.size f cdv)) →
      ∃ js, JSs (cxOf (L2.CX P w) P w K mg base N qual (defScope st) f cdv A outer s H E) E (defBody st) js ∧ ∀ xs M Φ Ψ, T xs M Φ Ψ → js { nx := fun _ M' => Φ (.d .none) M', rt := Φ, xr := Ψ } (jstart N.length xs) M) :
    FnOk P w K mg base (L2.CX P w) (k + 1) f fd ps (spJ K T) := by
  refine F.okX S (fun vs H Q E h => ?_) (fun cdv A outer s H vs Q E hr h => ?_)
  · obtain ⟨F, M, xs, Φ, Ψ, W, r, h, l, lx⟩ := h
    rw [Paired.length r]; exact len _ _ _ _ h
  · obtain ⟨js, h1, h2⟩ := hbody cdv A outer s H E hr
    obtain ⟨F, M, xs, Φ, Ψ, W, r, h, l, lx⟩ := h
    exact ⟨_, h1, rdS.at W (sv_start r) (h2 _ _ _ _ h) ⟨fun σ' H' F' ρ' M' e W' S' h' => l .non H' F' _ M' e W' VD.non h', l, fun _ _ _ _ _ _ _ _ z => z.elim, fun _ _ _ _ _ _ _ _ z => z.elim, lx⟩⟩
end
end Td

/-! TdJ3: operators, indices, slices, built-ins, dicts, methods. -/
namespace Td
open PySem PySem.Spec PyProof.Rows L2

/-! ### reading an EV as data, as a sequence -/
/-- data, or a list cell of data as it stands -/
def rdD (M : Mem) : EV → Option PyData
  | .d x => some x
  | .v (.ref p) => match M p with
    | some (.lst xs) => match allD xs with
      | some ds => some (.list ds)
      | none => none
    | _ => none
  | .v _ => none
theorem rdD_ok {K : PySem.W.Frag} {M : Mem} {H F : Hp} {x : EV} {v : V} {d : PyData} (W : Wd K M H F) (r : VD K F v x) (h : rdD M x = some d) : Dq K H v d := by
  unfold rdD at h
  split at h
  · cases h; exact Dq.up W.sub r
  · rename_i p
    split at h
    · rename_i xs e
      split at h
      · rename_i ds ed
        cases h
        cases allD_map ed
        cases (show v = .ref p from r)
        obtain ⟨hF, vs, hH, hv⟩ := W.mem p _ e
        exact .lst hH ((DqAll.of hv).up W.sub)
      · cases h
    · cases h
  · cases h
/-- the items of a list (data, a cell, the frozen script) -/
def rdL (M : Mem) : EV → Option (List EV)
  | .d (.list ds) => some (ds.map .d)
  | .v (.ref p) => match M p with
    | some (.lst xs) => some xs
    | _ => none
  | _ => none
theorem rdL_ok {K : PySem.W.Frag} {M : Mem} {H F : Hp} {x : EV} {v : V} {xs : List EV} (W : Wd K M H F) (r : VD K F v x) (h : rdL M x = some xs) : ∃ a vs, v = .ref a ∧ H a = some (.lst vs) ∧ VDs K F vs xs := by
  unfold rdL at h
  split at h
  · rename_i ds
    cases h
    obtain ⟨a, vs, rfl, h1, h2⟩ := Dq.list r
    exact ⟨a, vs, rfl, W.sub _ _ h1, VDs.of h2⟩
  · rename_i p
    split at h
    · rename_i ys e
      cases h
      cases (show v = .ref p from r)
      obtain ⟨hF, vs, hH, hv⟩ := W.mem p _ e
      exact ⟨p, vs, rfl, hH, hv⟩
    · cases h
  · cases h
theorem VDs.get {K : PySem.W.Frag} {F : Hp} : ∀ {vs : List V} {xs : List EV} {i : Nat} {x : EV}, VDs K F vs xs → xs[i]? = some x → ∃ v, vs[i]? = some v ∧ VD K F v x
  | _, _, _, _, .nil, h => by simp at h
  | _, _, 0, _, .cons h _, e => ⟨_, rfl, by simp at e; subst e; exact h⟩
  | _, _, i + 1, _, .cons _ r, e => by simpa using VDs.get (i := i) r (by simpa using e)
theorem VDs.append {K : PySem.W.Frag} {F : Hp} : ∀ {v w : List V} {d e : List EV}, VDs K F v d → VDs K F w e → VDs K F (v ++ w) (d ++ e)
  | _, _, _, _, .nil, s => s
  | _, _, _, _, .cons h r, s => .cons h (VDs.append r s)
theorem VDs.take {K : PySem.W.Frag} {F : Hp} : ∀ {v : List V} {d : List EV} (n : Nat), VDs K F v d → VDs K F (v.take n) (d.take n)
  | _, _, 0, _ => .nil
  | _, _, _ + 1, .nil => .nil
  | _, _, n + 1, .cons h r => .cons h (VDs.take n r)
theorem VDs.drop {K : PySem.W.Frag} {F : Hp} : ∀ {v : List V} {d : List EV} (n : Nat), VDs K F v d → VDs K F (v.drop n) (d.drop n)
  | _, _, 0, r => r
  | _, _, _ + 1, .nil => .nil
  | _, _, n + 1, .cons _ r => VDs.drop n r
theorem VDs.setAt {K : PySem.W.Frag} {F : Hp} {v : V} {x : EV} (r : VD K F v x) : ∀ {vs : List V} {xs : List EV} (i : Nat), VDs K F vs xs → VDs K F (vs.set i v) (xs.set i x)
  | _, _, _, .nil => .nil
  | _, _, 0, .cons _ t => .cons r t
  | _, _, i + 1, .cons q t => .cons q (VDs.setAt r i t)
theorem VDs.erase {K : PySem.W.Frag} {F : Hp} : ∀ {vs : List V} {xs : List EV} (i : Nat), VDs K F vs xs → VDs K F (vs.eraseIdx i) (xs.eraseIdx i)
  | _, _, _, .nil => .nil
  | _, _, 0, .cons _ t => t
  | _, _, i + 1, .cons q t => .cons q (VDs.erase i t)

/-! ### ints -/
def jrI (g : Int → Int → PyData) : JR2 := fun x y M Φ => match x, y with
  | .d (.int i), .d (.int j) => Φ (.d (g i j)) M
  | _, _ => False
def jrIc (C : Int → Int → Prop) (g : Int → Int → PyData) : JR2 := fun x y M Φ => match x, y with
  | .d (.int i), .d (.int j) => C i j ∧ Φ (.d (g i j)) M
  | _, _ => False
theorem sr2_I {K : PySem.W.Frag} {g : Int → Int → V} {g' : Int → Int → PyData} (h : ∀ F i j, Dq K F (g i j) (g' i j)) : SR2 K (rI0 g) (jrI g') := fun F M H x y X Y Φ Q W rx ry q l => by
  unfold jrI at q
  split at q
  · rename_i i j
    cases rx; cases ry
    exact ⟨_, _, rfl, rfl, l _ _ F (.d (g' i j)) M (Le.refl F) W (h F i j) q⟩
  · exact q.elim
theorem sr2_Ic {K : PySem.W.Frag} {C C' : Int → Int → Prop} {g : Int → Int → V} {g' : Int → Int → PyData} (h : ∀ F i j, Dq K F (g i j) (g' i j)) (hc : ∀ i j, C' i j → C i j) : SR2 K (rI C g) (jrIc C' g') := fun F M H x y X Y Φ Q W rx ry q l => by
  unfold jrIc at q
  split at q
  · rename_i i j
    cases rx; cases ry
    exact ⟨_, _, rfl, rfl, hc _ _ q.1, l _ _ F (.d (g' i j)) M (Le.refl F) W (h F i j) q.2⟩
  · exact q.elim
/-- a number of at most so many bits -/
def Bt (n : Nat) (i : Int) : Prop := i.natAbs < 2 ^ n
def BMul (i j : Int) : Prop := Bt 4000 i ∧ Bt 4000 j
def BDiv (i j : Int) : Prop := 0 < j ∧ Bt 8000 j
section
variable {X : Cx}
theorem oj_add : OpJ X (binaryOp .Add) (jrI fun i j => .int (i + j)) := ⟨_, op_add, sr2_I fun _ _ _ => .int _⟩
theorem oj_sub : OpJ X (binaryOp .Sub) (jrI fun i j => .int (i - j)) := ⟨_, op_sub, sr2_I fun _ _ _ => .int _⟩
theorem oj_mul : OpJ X (binaryOp .Mult) (jrIc BMul fun i j => .int (i * j)) := ⟨_, op_mulW, sr2_Ic (fun _ _ _ => .int _) fun i j h => wide_mul h.1 h.2 (by decide) (by decide) (by decide)⟩
theorem oj_fdiv : OpJ X (binaryOp .FloorDiv) (jrIc BDiv fun i j => .int (i / j)) := ⟨_, op_fdivW, sr2_Ic (fun _ _ _ => .int _) fun i j h => wide_div h.1 h.2 (by decide) (by decide)⟩
theorem oj_mod : OpJ X (binaryOp .Mod) (jrIc (fun _ j => 0 < j) fun i j => .int (i % j)) := ⟨_, op_mod, sr2_Ic (fun _ _ _ => .int _) fun i j h => h⟩
theorem oj_pow : OpJ X (binaryOp .Pow) (jrIc CPow fun i j => .int (i ^ j.toNat)) := ⟨_, op_pow, sr2_Ic (fun _ _ _ => .int _) fun i j h => h⟩
theorem oj_lt : OpJ X (compareOp .Lt) (jrI fun i j => .bool (decide (i < j))) := ⟨_, op_lt, sr2_I fun _ _ _ => .bl _⟩
theorem oj_le : OpJ X (compareOp .LtE) (jrI fun i j => .bool (decide (i ≤ j))) := ⟨_, op_le, sr2_I fun _ _ _ => .bl _⟩
theorem oj_gt : OpJ X (compareOp .Gt) (jrI fun i j => .bool (decide (j < i))) := ⟨_, op_gt, sr2_I fun _ _ _ => .bl _⟩
theorem oj_ge : OpJ X (compareOp .GtE) (jrI fun i j => .bool (decide (j ≤ i))) := ⟨_, op_ge, sr2_I fun _ _ _ => .bl _⟩
def jrU (g : Int → PyData) : JR1 := fun x M Φ => match x with
  | .d (.int i) => Φ (.d (g i)) M
  | _ => False
theorem uj_neg : UnJ X (unaryOp .USub) (jrU fun i => .int (-i)) := ⟨_, un_neg, fun F M H x X Φ Q W rx q l => by
  unfold jrU at q
  split at q
  · cases rx
    exact ⟨_, rfl, l _ _ F _ M (Le.refl F) W (VD.int _) q⟩
  · exact q.elim⟩
/-! texts -/
def jrS (g : Str → Str → PyData) : JR2 := fun x y M Φ => match x, y with
  | .d (.str i), .d (.str j) => Φ (.d (g i j)) M
  | _, _ => False
def sLt (i j : Str) : Bool := decide (i.cps.toList < j.cps.toList)
theorem oj_ltS : OpJ X (compareOp .Lt) (jrS fun i j => .bool (sLt i j)) := ⟨_, op_lt_str, fun F M H x y X Y Φ Q W rx ry q l => by
  unfold jrS at q
  split at q
  · cases rx; cases ry
    exact ⟨_, _, rfl, rfl, l _ _ F _ M (Le.refl F) W (VD.bl _) q⟩
  · exact q.elim⟩
def jrSc (C : Str → Str → Prop) (g : Str → Str → PyData) : JR2 := fun x y M Φ => match x, y with
  | .d (.str i), .d (.str j) => C i j ∧ Φ (.d (g i j)) M
  | _, _ => False
theorem oj_addS : OpJ X (binaryOp .Add) (jrSc (fun i j => i.length + j.length ≤ sizeLine) fun i j => .str (i ++ j)) := ⟨_, op_add_str, fun F M H x y X Y Φ Q W rx ry q l => by
  unfold jrSc at q
  split at q
  · cases rx; cases ry
    exact ⟨_, _, rfl, rfl, q.1, l _ _ F _ M (Le.refl F) W (VD.str _) q.2⟩
  · exact q.elim⟩
/-! == and != -/
def jrEqD (neg : Bool) : JR2 := fun x y M Φ => match rdD M x, rdD M y with
  | some d, some e => (SeqAt.shaped d = true ∧ SeqAt.shaped e = true) ∧ Φ (.d (.bool (neg ^^ PyData.eqv d e))) M
  | _, _ => False
/-- ints and texts by decide, other data by eqv -/
def jrEq (neg : Bool) : JR2 := fun x y M Φ => match x, y with
  | .d (.int i), .d (.int j) => Φ (.d (.bool (neg ^^ decide (i = j)))) M
  | .d (.str i), .d (.str j) => Φ (.d (.bool (neg ^^ decide (i = j)))) M
  | x, y => jrEqD neg x y M Φ
theorem xor_f (b : Bool) : (false ^^ b) = b := by cases b <;> rfl
theorem xor_t (b : Bool) : (true ^^ b) = !b := by cases b <;> rfl
theorem dec_vi {i j : Int} : decide (V.int i = V.int j) = decide (i = j) := by
  by_cases h : i = j
  · subst h; simp
  · rw [decide_eq_false h, decide_eq_false fun z => h (V.int.inj z)]
theorem dec_vs {i j : Str} : decide (V.str i = V.str j) = decide (i = j) := by
  by_cases h : i = j
  · subst h; simp
  · rw [decide_eq_false h, decide_eq_false fun z => h (V.str.inj z)]
theorem oj_eq (hu : X.A.units + 64 < cLine) : OpJ X (compareOp .Eq) (jrEq false) := ⟨_, op_eq.or (op_eqD hu), fun F M H x y X Y Φ Q W rx ry q l => by
  unfold jrEq at q
  split at q
  · cases rx; cases ry
    refine .inl ⟨rfl, l _ _ F _ M (Le.refl F) W (VD.bl _) ?_⟩
    rw [dec_vi]; rw [xor_f] at q; exact q
  · cases rx; cases ry
    refine .inl ⟨rfl, l _ _ F _ M (Le.refl F) W (VD.bl _) ?_⟩
    rw [dec_vs]; rw [xor_f] at q; exact q
  · unfold jrEqD at q
    split at q
    · rename_i d e e1 e2
      refine .inr ⟨d, e, (rdD_ok W rx e1).dp, (rdD_ok W ry e2).dp, q.1.1, q.1.2, l _ _ F _ M (Le.refl F) W (VD.bl _) ?_⟩
      rw [xor_f] at q; exact q.2
    · exact q.elim⟩
theorem oj_ne (hu : X.A.units + 64 < cLine) : OpJ X (compareOp .NotEq) (jrEq true) := ⟨_, op_ne.or (op_neD hu), fun F M H x y X Y Φ Q W rx ry q l => by
  unfold jrEq at q
  split at q
  · cases rx; cases ry
    refine .inl ⟨rfl, l _ _ F _ M (Le.refl F) W (VD.bl _) ?_⟩
    rw [dec_vi]; rw [xor_t] at q; exact q
  · cases rx; cases ry
    refine .inl ⟨rfl, l _ _ F _ M (Le.refl F) W (VD.bl _) ?_⟩
    rw [dec_vs]; rw [xor_t] at q; exact q
  · unfold jrEqD at q
    split at q
    · rename_i d e e1 e2
      refine .inr ⟨d, e, (rdD_ok W rx e1).dp, (rdD_ok W ry e2).dp, q.1.1, q.1.2, l _ _ F _ M (Le.refl F) W (VD.bl _) ?_⟩
      rw [xor_t] at q; exact q.2
    · exact q.elim⟩
/-! in, not in: a list or a tuple of data; a text -/
def inD (d : PyData) (ds : List PyData) : Bool := ds.any fun z => PyData.eqv z d
def jrIn (neg : Bool) : JR2 := fun x y M Φ => match rdD M x, rdD M y with
  | some d, some (.list ds) => (SeqAt.shaped d = true ∧ SeqAt.shaped (.list ds) = true) ∧ Φ (.d (.bool (neg ^^ inD d ds))) M
  | some d, some (.tuple ds) => (SeqAt.shaped d = true ∧ SeqAt.shaped (.list ds) = true) ∧ Φ (.d (.bool (neg ^^ inD d ds))) M
  | _, _ => False
def rInT (K : PySem.W.Frag) : R2 := fun x y H Q => ∃ d ds, Dp K H x d ∧ Dp K H y (.tuple ds) ∧ SeqAt.shaped d = true ∧ SeqAt.shaped (.list ds) = true ∧ Q (.bl (ds.any fun z => PyData.eqv z d)) H
def rNotInT (K : PySem.W.Frag) : R2 := fun x y H Q => ∃ d ds, Dp K H x d ∧ Dp K H y (.tuple ds) ∧ SeqAt.shaped d = true ∧ SeqAt.shaped (.list ds) = true ∧ Q (.bl (!ds.any fun z => PyData.eqv z d)) H
theorem op_inT (hu : X.A.units + 65 < cLine) : OpR X (compareOp .In) (rInT X.K) := by
  intro pins s σ H x y v u Q I rx ry h
  obtain ⟨d, ds, hd, he, sd, se, q⟩ := h
  obtain ⟨as, r1⟩ := Dp.reads I d x v hd rx
  obtain ⟨bs, r2⟩ := Dp.reads I (.tuple ds) y u he ry
  exact SeqAt.in_tuple_reads r2 r1 (SeqAt.canLay_of_shaped (d := .list ds) se) (SeqAt.canLay_of_shaped sd) (room_in_shaped sd hu) ⟨.bl _, H, I, rfl, q⟩
theorem op_notInT (hu : X.A.units + 65 < cLine) : OpR X (compareOp .NotIn) (rNotInT X.K) := by
  intro pins s σ H x y v u Q I rx ry h
  obtain ⟨d, ds, hd, he, sd, se, q⟩ := h
  obtain ⟨as, r1⟩ := Dp.reads I d x v hd rx
  obtain ⟨bs, r2⟩ := Dp.reads I (.tuple ds) y u he ry
  exact SeqAt.notIn_tuple_reads r2 r1 (SeqAt.canLay_of_shaped (d := .list ds) se) (SeqAt.canLay_of_shaped sd) (room_in_shaped sd hu) ⟨.bl _, H, I, rfl, q⟩
theorem oj_in (hu : X.A.units + 65 < cLine) : OpJ X (compareOp .In) (jrIn false) := ⟨_, (op_inD hu).or (op_inT hu), fun F M H x y X Y Φ Q W rx ry q l => by
  unfold jrIn at q
  split at q
  · rename_i d ds e1 e2
    refine .inl ⟨d, ds, (rdD_ok W rx e1).dp, (rdD_ok W ry e2).dp, q.1.1, q.1.2, l _ _ F _ M (Le.refl F) W (VD.bl _) ?_⟩
    rw [xor_f] at q; exact q.2
  · rename_i d ds e1 e2
    refine .inr ⟨d, ds, (rdD_ok W rx e1).dp, (rdD_ok W ry e2).dp, q.1.1, q.1.2, l _ _ F _ M (Le.refl F) W (VD.bl _) ?_⟩
    rw [xor_f] at q; exact q.2
  · exact q.elim⟩
theorem oj_notIn (hu : X.A.units + 65 < cLine) : OpJ X (compareOp .NotIn) (jrIn true) := ⟨_, (op_notInD hu).or (op_notInT hu), fun F M H x y X Y Φ Q W rx ry q l => by
  unfold jrIn at q
  split at q
  · rename_i d ds e1 e2
    refine .inl ⟨d, ds, (rdD_ok W rx e1).dp, (rdD_ok W ry e2).dp, q.1.1, q.1.2, l _ _ F _ M (Le.refl F) W (VD.bl _) ?_⟩
    rw [xor_t] at q; exact q.2
  · rename_i d ds e1 e2
    refine .inr ⟨d, ds, (rdD_ok W rx e1).dp, (rdD_ok W ry e2).dp, q.1.1, q.1.2, l _ _ F _ M (Le.refl F) W (VD.bl _) ?_⟩
    rw [xor_t] at q; exact q.2
  · exact q.elim⟩
/-! is None, is True .. -/
def isNone : EV → Bool
  | .d .none => true
  | .v .non => true
  | _ => false
theorem isNone_ok {K : PySem.W.Frag} {F : Hp} {v : V} {x : EV} (r : VD K F v x) : decide (v = .non) = isNone x := by
  cases x with
  | d d =>
    cases r with
    | non => rfl
    | bl _ => rfl
    | int _ => rfl
    | str _ => rfl
    | lst _ _ => rfl
    | tup _ _ => rfl
    | zero _ => rfl
  | v y =>
    cases (show v = y from r)
    cases v <;> rfl
def jrIsN (neg : Bool) : JR2 := fun x y M Φ => match y with
  | .d .none => Φ (.d (.bool (neg ^^ isNone x))) M
  | _ => False
theorem oj_isN : OpJ X (compareOp .Is) (jrIsN false) := ⟨_, op_isN, fun F M H x y X Y Φ Q W rx ry q l => by
  unfold jrIsN at q
  split at q
  · cases ry
    refine ⟨rfl, l _ _ F _ M (Le.refl F) W (VD.bl _) ?_⟩
    rw [isNone_ok rx]; rw [xor_f] at q; exact q
  · exact q.elim⟩
theorem oj_notN : OpJ X (compareOp .IsNot) (jrIsN true) := ⟨_, op_notN, fun F M H x y X Y Φ Q W rx ry q l => by
  unfold jrIsN at q
  split at q
  · cases ry
    refine ⟨rfl, l _ _ F _ M (Le.refl F) W (VD.bl _) ?_⟩
    rw [isNone_ok rx]; rw [xor_t] at q; exact q
  · exact q.elim⟩
def jrB (g : Bool → Bool → PyData) : JR2 := fun x y M Φ => match x, y with
  | .d (.bool i), .d (.bool j) => Φ (.d (g i j)) M
  | _, _ => False
end

/-! ### indices -/
def jrIx : JR2 := fun x y M Φ => match x, y with
  | .d (.tuple ds), .d (.int i) => match atI ds i with
    | some d => Φ (.d d) M
    | none => False
  | x, .d (.int i) => match rdL M x with
    | some xs => match atI xs i with
      | some e => Φ e M
      | none => False
    | none => False
  | _, _ => False
theorem atI_rel {α β : Type} {R : α → β → Prop} {xs : List α} {ys : List β} (hl : xs.length = ys.length) (h : ∀ (i : Nat) (y : β), ys[i]? = some y → ∃ x, xs[i]? = some x ∧ R x y) {i : Int} {y : β} (e : atI ys i = some y) : ∃ x, atI xs i = some x ∧ R x y := by
  unfold atI at e ⊢
  rw [hl]
  cases q : ixN ys.length i with
  | none => rw [q] at e; cases e
  | some j =>
    rw [q] at e
    exact h j y e
section
variable {X : Cx} {a b : Expr} {ja jb : JTE} {pos : Pos}
theorem je_ix (ha : JE X a ja) (hb : JE X b jb) (hs : PlainIx b := by intro _ _; rfl) : JE X (.Subscript a b pos) (jOp jrIx ja jb) :=
  (pe_ix (ix_list.or ix_tup) ha hb hs).imp fun _ _ _ => snd_op fun F M H x y X Y Φ Q W rx ry q l => by
    unfold jrIx at q
    split at q
    · rename_i ds i
      split at q
      · rename_i d e
        obtain ⟨p, vs, rfl, ht, hq⟩ := Dq.tuple rx
        cases ry
        obtain ⟨v, e1, r1⟩ := atI_rel hq.length (fun i y h => hq.get' h) e
        exact .inr ⟨p, vs, i, v, rfl, rfl, W.sub.sqT ht, e1, l v H F (.d d) M (Le.refl F) W r1 q⟩
      · exact q.elim
    · rename_i i _
      split at q
      · rename_i xs ex
        split at q
        · rename_i d e
          obtain ⟨p, vs, rfl, hH, hv⟩ := rdL_ok W rx ex
          cases ry
          obtain ⟨v, e1, r1⟩ := atI_rel (Paired.length hv) (fun i y h => hv.get h) e
          exact .inl ⟨p, vs, i, v, rfl, rfl, SqL.of hH, e1, l v H F d M (Le.refl F) W r1 q⟩
        · exact q.elim
      · exact q.elim
    · exact q.elim
end

/-! ### slices -/
abbrev JTO := JEnv → Mem → (Option Int → Mem → Prop) → Prop
def rdO (K : PySem.W.Frag) (jo : JTO) : TO := fun σ H Q => ∃ F ρ M Φ, Wd K M H F ∧ SV K F σ ρ ∧ jo ρ M Φ ∧ ∀ o H' F' M', Le F F' → Wd K M' H' F' → Φ o M' → Q o H'
abbrev JO (X : Cx) (e : Option Expr) (jo : JTO) : Prop := PO X e (rdO X.K jo)
def jNoPart : JTO := fun _ M Φ => Φ none M
def jPart (je : JTE) : JTO := fun ρ M Φ => je ρ M fun x M1 => match x with
  | .d (.int i) => Φ (some i) M1
  | _ => False
/-- a slice of any list -/
def cutD {α : Type} (xs : List α) (lo hi : Option Int) : List α := (xs.drop (HT.sIx xs.length 0 lo)).take (HT.sIx xs.length xs.length hi - HT.sIx xs.length 0 lo)
def rdLD (M : Mem) (x : EV) : Option (List PyData) := match rdL M x with
  | some xs => allD xs
  | none => none
theorem rdLD_ok {K : PySem.W.Frag} {M : Mem} {H F : Hp} {x : EV} {v : V} {ds : List PyData} (W : Wd K M H F) (r : VD K F v x) (h : rdLD M x = some ds) : ∃ a vs, v = .ref a ∧ H a = some (.lst vs) ∧ DqAll K F vs ds := by
  unfold rdLD at h
  split at h
  · rename_i xs e
    cases allD_map h
    obtain ⟨a, vs, e1, e2, e3⟩ := rdL_ok W r e
    exact ⟨a, vs, e1, e2, DqAll.of e3⟩
  · cases h
def jSlL (te : JTE) (tl th : JTO) : JTE := fun ρ M Φ => te ρ M fun x M1 => tl ρ M1 fun l M2 => th ρ M2 fun u M3 => match rdLD M3 x with
  | some ds => Φ (.d (.list (cutD ds l u))) M3
  | _ => False
def jSlLC (te : JTE) (tl th : JTO) : JTE := fun ρ M Φ => te ρ M fun x M1 => tl ρ M1 fun l M2 => th ρ M2 fun u M3 => match rdL M3 x with
  | some xs => ∀ p, M3 p = none → Φ (.v (.ref p)) (M3.set p (.lst (cutD xs l u)))
  | _ => False
/-- a slice of a tuple (the whole: itself) -/
def jSlT (te : JTE) (tl th : JTO) : JTE := fun ρ M Φ => te ρ M fun x M1 => tl ρ M1 fun l M2 => th ρ M2 fun u M3 => match x with
  | .d (.tuple ds) => Φ (.d (.tuple (cutD ds l u))) M3
  | _ => False
theorem DqAll.cut {K : PySem.W.Frag} {F : Hp} {vs : List V} {ds : List PyData} (h : DqAll K F vs ds) (l u : Option Int) : DqAll K F (cutV vs l u) (cutD ds l u) := by
  unfold cutV cutD
  rw [h.length]
  exact (h.drop _).take _
theorem VDs.cut {K : PySem.W.Frag} {F : Hp} {vs : List V} {ds : List EV} (h : VDs K F vs ds) (l u : Option Int) : VDs K F (cutV vs l u) (cutD ds l u) := by
  unfold cutV cutD
  rw [Paired.length h]
  exact (h.drop _).take _
section
variable {X : Cx} {e : Expr} {lo hi : Option Expr} {je : JTE} {tl th : JTO} {pos p2 : Pos}
theorem jo_none : JO X none jNoPart := po_none.imp fun σ H Q ⟨F, ρ, M, Φ, W, S, h, l⟩ => l none H F M (Le.refl F) W h
theorem jo_some (h : JE X e je) : JO X (some e) (jPart je) := (po_some h).imp fun σ H Q ⟨F, ρ, M, Φ, W, S, h, l⟩ =>
  rdE.at W S h fun v H1 F1 x M1 e1 W1 r1 h1 => by
    match x, r1, h1 with
    | .d (.int i), r1, h1 => cases r1; exact ⟨i, rfl, l _ H1 F1 M1 e1 W1 h1⟩
theorem je_slL (he : JE X e je) (hl : JO X lo tl) (hu : JO X hi th) : JE X (.Subscript e (.Slice lo hi none p2) pos) (jSlL je tl th) := (pe_slice sl_list he hl hu).imp fun σ H Q ⟨F, ρ, M, Φ, W, S, h, l⟩ =>
  rdE.at W S h fun v H1 F1 x M1 e1 W1 r1 h1 => ⟨F1, ρ, M1, _, W1, S.mono e1, h1, fun o H2 F2 M2 e2 W2 h2 => ⟨F2, ρ, M2, _, W2, S.mono (e1.trans e2), h2, fun o2 H3 F3 M3 e3 W3 h3 => by
    split at h3
    · rename_i ds ed
      obtain ⟨a, vs, rfl, hH, hv⟩ := rdLD_ok W3 (r1.mono (e2.trans e3)) ed
      refine ⟨a, vs, rfl, SqL.of hH, fun p hp => ?_⟩
      exact l _ _ _ (.d (.list _)) M3 (((e1.trans e2).trans e3).trans (W3.le hp _)) (W3.lay hp _) (Dq.lst upd_same ((hv.cut o o2).mono (W3.le hp _))) h3
    · exact h3.elim⟩⟩
theorem je_slLC (he : JE X e je) (hl : JO X lo tl) (hu : JO X hi th) : JE X (.Subscript e (.Slice lo hi none p2) pos) (jSlLC je tl th) := (pe_slice sl_list he hl hu).imp fun σ H Q ⟨F, ρ, M, Φ, W, S, h, l⟩ =>
  rdE.at W S h fun v H1 F1 x M1 e1 W1 r1 h1 => ⟨F1, ρ, M1, _, W1, S.mono e1, h1, fun o H2 F2 M2 e2 W2 h2 => ⟨F2, ρ, M2, _, W2, S.mono (e1.trans e2), h2, fun o2 H3 F3 M3 e3 W3 h3 => by
    split at h3
    · rename_i ds ed
      obtain ⟨a, vs, rfl, hH, hv⟩ := rdL_ok W3 (r1.mono (e2.trans e3)) ed
      refine ⟨a, vs, rfl, SqL.of hH, fun p hp => ?_⟩
      exact l _ _ F3 (.v (.ref p)) _ ((e1.trans e2).trans e3) (W3.cell (m := .lst _) hp fun H' e => ⟨_, e, VDs.cut hv o o2⟩) rfl (h3 p (W3.freeM hp))
    · exact h3.elim⟩⟩
theorem je_slT (he : JE X e je) (hl : JO X lo tl) (hu : JO X hi th) : JE X (.Subscript e (.Slice lo hi none p2) pos) (jSlT je tl th) := (pe_slice sl_tupA he hl hu).imp fun σ H Q ⟨F, ρ, M, Φ, W, S, h, l⟩ =>
  rdE.at W S h fun v H1 F1 x M1 e1 W1 r1 h1 => ⟨F1, ρ, M1, _, W1, S.mono e1, h1, fun o H2 F2 M2 e2 W2 h2 => ⟨F2, ρ, M2, _, W2, S.mono (e1.trans e2), h2, fun o2 H3 F3 M3 e3 W3 h3 => by
    match x, r1, h3 with
    | .d (.tuple ds), r1, h3 =>
      obtain ⟨a, vs, rfl, ht, hv⟩ := Dq.tuple (Dq.mono (e2.trans e3) r1)
      refine ⟨a, vs, rfl, W3.sub.sqT ht, fun hw => ?_, fun _ p hp => ?_⟩
      · refine l _ H3 F3 (.d (.tuple _)) M3 ((e1.trans e2).trans e3) W3 ?_ h3
        have e : cutD ds o o2 = ds := by
          unfold cutD
          rw [← hv.length, hw.1, hw.2, List.drop_zero, Nat.sub_zero, hv.length, List.take_length]
        rw [e]
        exact Dq.mono (e2.trans e3) r1
      · exact l _ _ _ (.d (.tuple _)) M3 (((e1.trans e2).trans e3).trans (W3.le hp _)) (W3.lay hp _) (Dq.tup upd_same ((hv.cut o o2).mono (W3.le hp _))) h3⟩⟩
end

/-! ### built-ins by values -/
abbrev JRC := List EV → Mem → JK → Prop
def CallJ (X : Cx) (f : Value) (rj : JRC) : Prop := ∃ r, CallR X f r ∧ ∀ F M H vs xs Φ Q, Wd X.K M H F → VDs X.K F vs xs → rj xs M Φ → LE X.K F Φ Q → r vs H Q
def jCB (rj : JRC) (ja : JTA) : JTE := fun ρ M Φ => ja ρ M fun xs M1 => rj xs M1 Φ
section
variable {X : Cx} {x : Str} {p pos : Pos} {e : Expr} {es : List Expr} {ja : JTA} {id T : String} {rj : JRC}
theorem je_callB (hc : CallJ X (.builtin id) rj) (hg : Gl X x) (hm : X.mg x = none) (hv : bootBuiltins x = some (.builtin id)) (ha : JA X (e :: es) ja) (hn : x ≠ "__name__" := by decide) (hdb : (x == ("__debug__" : Str)) = false := by decide)
    (he : starEach (e :: es) X.env = (false, eval e X.env) :: starEach es X.env := by rfl) (hpl : (backTo pos (starEach es X.env)).any (·.1) = false := by rfl) : JE X (.Call (.Name x p) (e :: es) [] pos) (jCB rj ja) :=
  let ⟨_, h1, h2⟩ := hc
  (pe_callB h1 hg hm hv ha hn hdb he hpl).imp fun σ H Q ⟨F, ρ, M, Φ, W, S, h, l⟩ => rdA.at W S h fun vs H1 F1 xs M1 e1 W1 r1 q1 => h2 F1 M1 H1 vs xs Φ Q W1 r1 q1 (l.mono e1)
theorem je_callTy (hc : CallJ X (.type T) rj) (hg : Gl X x) (hm : X.mg x = none) (hv : bootBuiltins x = some (.type T)) (ha : JA X (e :: es) ja) (hn : x ≠ "__name__" := by decide) (hdb : (x == ("__debug__" : Str)) = false := by decide)
    (he : starEach (e :: es) X.env = (false, eval e X.env) :: starEach es X.env := by rfl) (hpl : (backTo pos (starEach es X.env)).any (·.1) = false := by rfl) : JE X (.Call (.Name x p) (e :: es) [] pos) (jCB rj ja) :=
  let ⟨_, h1, h2⟩ := hc
  (pe_callTy h1 hg hm hv ha hn hdb he hpl).imp fun σ H Q ⟨F, ρ, M, Φ, W, S, h, l⟩ => rdA.at W S h fun vs H1 F1 xs M1 e1 W1 r1 q1 => h2 F1 M1 H1 vs xs Φ Q W1 r1 q1 (l.mono e1)
/-! abs, min, max -/
def jrAbs : JRC := fun xs M Φ => match xs with
  | [.d (.int i)] => Φ (.d (.int (if i < 0 then -i else i))) M
  | _ => False
theorem cj_abs : CallJ X (.builtin "abs") jrAbs := ⟨_, call_abs, fun F M H vs xs Φ Q W r q l => by
  unfold jrAbs at q
  split at q
  · cases r with
    | cons r t =>
      cases t; cases r
      exact ⟨_, rfl, l _ H F _ M (Le.refl F) W (VD.int _) q⟩
  · exact q.elim⟩
def jrMM (g : Int → Int → Int) : JRC := fun xs M Φ => match xs with
  | [.d (.int i), .d (.int j)] => Φ (.d (.int (g i j))) M
  | _ => False
theorem cj_max (hc : X.calm = true) : CallJ X (.builtin "max") (jrMM fun i j => if j > i then j else i) := ⟨_, call_max2 hc, fun F M H vs xs Φ Q W r q l => by
  unfold jrMM at q
  split at q
  · cases r with
    | cons r t => cases t with
      | cons r2 t =>
        cases t; cases r; cases r2
        exact ⟨_, _, rfl, l _ H F _ M (Le.refl F) W (VD.int _) q⟩
  · exact q.elim⟩
theorem cj_min (hc : X.calm = true) : CallJ X (.builtin "min") (jrMM fun i j => if j < i then j else i) := ⟨_, call_min2 hc, fun F M H vs xs Φ Q W r q l => by
  unfold jrMM at q
  split at q
  · cases r with
    | cons r t => cases t with
      | cons r2 t =>
        cases t; cases r; cases r2
        exact ⟨_, _, rfl, l _ H F _ M (Le.refl F) W (VD.int _) q⟩
  · exact q.elim⟩
end
/-! min, max of two texts -/
section
variable {prog : Program} {w : World} {A : Around} {E : Value → Shared → Prop} {s : Shared}
def strItem (a b : Str) : Nat → Str := fun i => if i = 0 then a else b
theorem strItem_at {a b : Str} {t u : Tok} {i : Nat} {v : Value} (h : (#[Value.str a t, Value.str b u] : Array Value)[i]? = some v) : ∃ t, v = .str (strItem a b i) t := by
  match i, h with
  | 0, h => simp at h; exact ⟨t, h.symm⟩
  | 1, h => simp at h; exact ⟨u, h.symm⟩
  | i + 2, h => simp at h
theorem cmp_strs_gt {P : Nat → Value → Prop} (val : Nat → Str) (hval : ∀ i v, P i v → ∃ t, v = .str (val i) t) : CmpOf prog w A .Gt P (fun i j => decide ((val j).cps.toList < (val i).cps.toList)) := fun i j vi vj s Q E hi hj h => by
  obtain ⟨t, rfl⟩ := hval i vi hi
  obtain ⟨u, rfl⟩ := hval j vj hj
  exact richCompare_gives (op := .Gt) (typeIs_str s _ t) (typeIs_str s _ u) F.slot_str_gt F.entry_str_gt (F.args_str_gt_2 _ _) (gives_str_gt _ _ t u) (fun x => nomatch x) h
theorem cmp_strs_lt {P : Nat → Value → Prop} (val : Nat → Str) (hval : ∀ i v, P i v → ∃ t, v = .str (val i) t) : CmpOf prog w A .Lt P (fun i j => decide ((val i).cps.toList < (val j).cps.toList)) := fun i j vi vj s Q E hi hj h => by
  obtain ⟨t, rfl⟩ := hval i vi hi
  obtain ⟨u, rfl⟩ := hval j vj hj
  exact richCompare_gives (op := .Lt) (typeIs_str s _ t) (typeIs_str s _ u) F.slot_str_lt F.entry_str_lt (F.args_str_lt_2 _ _) (gives_str_lt _ _ t u) (fun x => nomatch x) h
theorem max_two_strs {a b : Str} {t u : Tok} {Q : Value → Shared → Prop} (hh : A.handled = none)
    (h : ∀ h' tk, (∀ c o, s.heap.get? c = some o → h'.get? c = some o) → Q (if a.cps.toList < b.cps.toList then .str b u else .str a t) { s with heap := h', toks := tk }) :
    wpAny (model prog w) A (call (.builtin "max") [.str a t, .str b u]) Q E s := by
  have hT : (s.heap.push { cls := .type "tuple", data := .seq #[.str a t, .str b u] }).IsTuple s.heap.objs.size #[.str a t, .str b u] := ⟨_, Heap.get?_push_size _ rfl, rfl, 0, rfl⟩
  refine call_max_two (wpAny_pyIter_tuple hT ?_)
  have hsz : (s.heap.push { cls := .type "tuple", data := .seq #[.str a t, .str b u] }).objs.size = s.heap.objs.size + 1 := Heap.size_push ..
  refine ⟨_, [_, s.heap.objs.size], [_], _, _, _, _, rfl, Walks.tuple (A := A.in1) hh _ s.heap.objs.size (by rw [hsz]; exact Nat.ne_of_lt (Nat.lt_succ_self _)) #[.str a t, .str b u],
    ⟨⟨_, Heap.get?_push_size _ rfl, rfl, rfl⟩, hT.push _⟩, fun c hc => ?_, by simp, cmp_strs_gt (strItem a b) (fun _ _ => strItem_at), fun v h' tk hP hk => ?_⟩
  · show c < ((s.heap.push _).push _).objs.size
    rw [Heap.size_push, hsz]
    rcases List.mem_cons.mp hc with rfl | hc
    · rw [hsz]; exact Nat.lt_succ_self _
    · rcases List.mem_cons.mp hc with rfl | hc
      · exact Nat.lt_succ_of_lt (Nat.lt_succ_self _)
      · cases hc
  · have hold : ∀ c o, s.heap.get? c = some o → h'.get? c = some o := fun c o e => by
      refine hk c o (fun hm => ?_) (Heap.get?_push_of_some _ (Heap.get?_push_of_some _ e))
      rcases List.mem_cons.mp hm with e1 | hm
      · have := Heap.lt_size e; rw [e1, hsz] at this; exact Nat.lt_irrefl _ (Nat.lt_of_succ_lt this)
      · cases hm
    have := h h' tk hold
    have hv : v = if a.cps.toList < b.cps.toList then Value.str b u else Value.str a t := by
      have hP' : (#[Value.str a t, Value.str b u] : Array Value)[argBest (fun i j => decide ((strItem a b j).cps.toList < (strItem a b i).cps.toList)) 1]? = some v := hP
      by_cases hba : a.cps.toList < b.cps.toList
      · have e : argBest (fun i j => decide ((strItem a b j).cps.toList < (strItem a b i).cps.toList)) 1 = 1 := by
          show (if decide ((strItem a b 0).cps.toList < (strItem a b 1).cps.toList) = true then 1 else 0) = 1
          exact if_pos (decide_eq_true hba)
        rw [e] at hP'
        rw [if_pos hba]
        exact (Option.some.inj hP').symm
      · have e : argBest (fun i j => decide ((strItem a b j).cps.toList < (strItem a b i).cps.toList)) 1 = 0 := by
          show (if decide ((strItem a b 0).cps.toList < (strItem a b 1).cps.toList) = true then 1 else 0) = 0
          refine if_neg ?_
          simpa [strItem] using hba
        rw [e] at hP'
        rw [if_neg hba]
        exact (Option.some.inj hP').symm
    rw [hv]; exact this
theorem min_two_strs {a b : Str} {t u : Tok} {Q : Value → Shared → Prop} (hh : A.handled = none)
    (h : ∀ h' tk, (∀ c o, s.heap.get? c = some o → h'.get? c = some o) → Q (if b.cps.toList < a.cps.toList then .str b u else .str a t) { s with heap := h', toks := tk }) :
    wpAny (model prog w) A (call (.builtin "min") [.str a t, .str b u]) Q E s := by
  have hT : (s.heap.push { cls := .type "tuple", data := .seq #[.str a t, .str b u] }).IsTuple s.heap.objs.size #[.str a t, .str b u] := ⟨_, Heap.get?_push_size _ rfl, rfl, 0, rfl⟩
  refine call_min_two (wpAny_pyIter_tuple hT ?_)
  have hsz : (s.heap.push { cls := .type "tuple", data := .seq #[.str a t, .str b u] }).objs.size = s.heap.objs.size + 1 := Heap.size_push ..
  refine ⟨_, [_, s.heap.objs.size], [_], _, _, _, _, rfl, Walks.tuple (A := A.in1) hh _ s.heap.objs.size (by rw [hsz]; exact Nat.ne_of_lt (Nat.lt_succ_self _)) #[.str a t, .str b u],
    ⟨⟨_, Heap.get?_push_size _ rfl, rfl, rfl⟩, hT.push _⟩, fun c hc => ?_, by simp, cmp_strs_lt (strItem a b) (fun _ _ => strItem_at), fun v h' tk hP hk => ?_⟩
  · show c < ((s.heap.push _).push _).objs.size
    rw [Heap.size_push, hsz]
    rcases List.mem_cons.mp hc with rfl | hc
    · rw [hsz]; exact Nat.lt_succ_self _
    · rcases List.mem_cons.mp hc with rfl | hc
      · exact Nat.lt_succ_of_lt (Nat.lt_succ_self _)
      · cases hc
  · have hold : ∀ c o, s.heap.get? c = some o → h'.get? c = some o := fun c o e => by
      refine hk c o (fun hm => ?_) (Heap.get?_push_of_some _ (Heap.get?_push_of_some _ e))
      rcases List.mem_cons.mp hm with e1 | hm
      · have := Heap.lt_size e; rw [e1, hsz] at this; exact Nat.lt_irrefl _ (Nat.lt_of_succ_lt this)
      · cases hm
    have := h h' tk hold
    have hv : v = if b.cps.toList < a.cps.toList then Value.str b u else Value.str a t := by
      have hP' : (#[Value.str a t, Value.str b u] : Array Value)[argBest (fun i j => decide ((strItem a b i).cps.toList < (strItem a b j).cps.toList)) 1]? = some v := hP
      by_cases hba : b.cps.toList < a.cps.toList
      · have e : argBest (fun i j => decide ((strItem a b i).cps.toList < (strItem a b j).cps.toList)) 1 = 1 := by
          show (if decide ((strItem a b 1).cps.toList < (strItem a b 0).cps.toList) = true then 1 else 0) = 1
          exact if_pos (decide_eq_true hba)
        rw [e] at hP'
        rw [if_pos hba]
        exact (Option.some.inj hP').symm
      · have e : argBest (fun i j => decide ((strItem a b i).cps.toList < (strItem a b j).cps.toList)) 1 = 0 := by
          show (if decide ((strItem a b 1).cps.toList < (strItem a b 0).cps.toList) = true then 1 else 0) = 0
          refine if_neg ?_
          simpa [strItem] using hba
        rw [e] at hP'
        rw [if_neg hba]
        exact (Option.some.inj hP').symm
    rw [hv]; exact this
end
section
variable {X : Cx}
def jrMMS (g : Str → Str → Str) : JRC := fun xs M Φ => match xs with
  | [.d (.str i), .d (.str j)] => Φ (.d (.str (g i j))) M
  | _ => False
def sMax (i j : Str) : Str := if sLt i j = true then j else i
def sMin (i j : Str) : Str := if sLt j i = true then j else i
theorem cj_maxS (hc : X.calm = true) : CallJ X (.builtin "max") (jrMMS sMax) := ⟨fun xs H Q => ∃ i j, xs = [.str i, .str j] ∧ Q (.str (sMax i j)) H, fun pins s σ H xs us Q I r h => by
  obtain ⟨i, j, rfl, q⟩ := h
  obtain ⟨u, w', rfl, ⟨t, rfl⟩, ⟨t', rfl⟩⟩ := vals2 r
  refine max_two_strs (I.ok.hd hc) fun h' tk k => ⟨_, H, I.kept k, ?_, q⟩
  unfold sMax sLt
  by_cases hj : i.cps.toList < j.cps.toList
  · rw [if_pos hj, if_pos (decide_eq_true hj)]; exact ⟨_, rfl⟩
  · rw [if_neg hj, if_neg (by simpa using hj)]; exact ⟨_, rfl⟩, fun F M H vs xs Φ Q W r q l => by
  unfold jrMMS at q
  split at q
  · cases r with
    | cons r t => cases t with
      | cons r2 t =>
        cases t; cases r; cases r2
        exact ⟨_, _, rfl, l _ H F _ M (Le.refl F) W (VD.str _) q⟩
  · exact q.elim⟩
theorem cj_minS (hc : X.calm = true) : CallJ X (.builtin "min") (jrMMS sMin) := ⟨fun xs H Q => ∃ i j, xs = [.str i, .str j] ∧ Q (.str (sMin i j)) H, fun pins s σ H xs us Q I r h => by
  obtain ⟨i, j, rfl, q⟩ := h
  obtain ⟨u, w', rfl, ⟨t, rfl⟩, ⟨t', rfl⟩⟩ := vals2 r
  refine min_two_strs (I.ok.hd hc) fun h' tk k => ⟨_, H, I.kept k, ?_, q⟩
  unfold sMin sLt
  by_cases hj : j.cps.toList < i.cps.toList
  · rw [if_pos hj, if_pos (decide_eq_true hj)]; exact ⟨_, rfl⟩
  · rw [if_neg hj, if_neg (by simpa using hj)]; exact ⟨_, rfl⟩, fun F M H vs xs Φ Q W r q l => by
  unfold jrMMS at q
  split at q
  · cases r with
    | cons r t => cases t with
      | cons r2 t =>
        cases t; cases r; cases r2
        exact ⟨_, _, rfl, l _ H F _ M (Le.refl F) W (VD.str _) q⟩
  · exact q.elim⟩
/-! len -/
def jrLen : JRC := fun xs M Φ => match xs with
  | [.d (.tuple ds)] => Φ (.d (.int ds.length)) M
  | [x] => match rdL M x with
    | some ys => Φ (.d (.int ys.length)) M
    | none => False
  | _ => False
theorem cj_len : CallJ X (.builtin "len") jrLen := ⟨_, call_len_seq, fun F M H vs xs Φ Q W r q l => by
  unfold jrLen at q
  split at q
  · cases r with
    | cons r t =>
      cases t
      obtain ⟨a, vs, rfl, h1, h2⟩ := Dq.tuple r
      refine ⟨a, vs, rfl, .inr (W.sub.sqT h1), l _ H F _ M (Le.refl F) W (VD.int _) ?_⟩
      rw [h2.length]; exact q
  · split at q
    · rename_i ys e
      cases r with
      | cons r t =>
        cases t
        obtain ⟨a, vs, rfl, h1, h2⟩ := rdL_ok W r e
        refine ⟨a, vs, rfl, .inl (SqL.of h1), l _ H F _ M (Le.refl F) W (VD.int _) ?_⟩
        rw [Paired.length h2]; exact q
    · exact q.elim
  · exact q.elim⟩
/-! all of a list of truths -/
def allB : List PyData → Option (List Bool)
  | [] => some []
  | .bool b :: r => match allB r with
    | some bs => some (b :: bs)
    | none => none
  | _ :: _ => none
theorem allB_map : ∀ {ds : List PyData} {bs : List Bool}, allB ds = some bs → ds = bs.map .bool
  | [], bs, h => by cases h; rfl
  | .bool b :: r, bs, h => by
    unfold allB at h
    split at h
    · rename_i e; cases h; rw [List.map_cons, allB_map e]
    · cases h
  | .none :: _, bs, h => by cases h
  | .int _ :: _, bs, h => by cases h
  | .str _ :: _, bs, h => by cases h
  | .list _ :: _, bs, h => by cases h
  | .tuple _ :: _, bs, h => by cases h
  | .dict _ :: _, bs, h => by cases h
theorem allB_of : ∀ bs : List Bool, allB (bs.map .bool) = some bs
  | [] => rfl
  | b :: r => by rw [List.map_cons]; unfold allB; rw [allB_of r]
theorem bls_of {K : PySem.W.Frag} {F : Hp} : ∀ {vs : List V} {bs : List Bool}, DqAll K F vs (bs.map .bool) → vs = bs.map V.bl
  | _, [], h => by cases h; rfl
  | _, b :: bs, h => by
    cases h with
    | cons r t => cases r; rw [bls_of t]; rfl
def jrAll : JRC := fun xs M Φ => match xs with
  | [.d (.list ds)] => match allB ds with
    | some bs => Φ (.d (.bool (bs.all fun b => b))) M
    | none => False
  | _ => False
theorem cj_all (hc : X.calm = true) : CallJ X (.builtin "all") jrAll := ⟨_, cr_all hc, fun F M H vs xs Φ Q W r q l => by
  unfold jrAll at q
  split at q
  · split at q
    · rename_i bs e
      cases allB_map e
      cases r with
      | cons r t =>
        cases t
        obtain ⟨a, vs, rfl, h1, h2⟩ := Dq.list r
        cases bls_of h2
        exact ⟨a, bs, rfl, SqL.of (W.sub _ _ h1), l _ H F _ M (Le.refl F) W (VD.bl _) q⟩
    · exact q.elim
  · exact q.elim⟩
/-! list(..), tuple(..), int(..) -/
def rdS1 (M : Mem) : EV → Option (List EV)
  | .d (.tuple ds) => some (ds.map .d)
  | x => rdL M x
def jrList : JRC := fun xs M Φ => match xs with
  | [x] => match rdS1 M x with
    | some ys => ∀ p, M p = none → Φ (.v (.ref p)) (M.set p (.lst ys))
    | none => False
  | _ => False
theorem cj_list : CallJ X (.type "list") jrList := ⟨_, call_list_of, fun F M H vs xs Φ Q W r q l => by
  unfold jrList at q
  split at q
  · rename_i x
    split at q
    · rename_i ys e
      cases r with
      | cons r t =>
        cases t
        have z : ∀ v, VD X.K F v x → ∃ a vs, v = V.ref a ∧ (SqL X.K H a vs ∨ SqT X.K H a vs) ∧ VDs X.K F vs ys := by
          intro v r
          unfold rdS1 at e
          split at e
          · rename_i ds
            cases e
            obtain ⟨a, vs, rfl, h1, h2⟩ := Dq.tuple r
            exact ⟨a, vs, rfl, .inr (W.sub.sqT h1), VDs.of h2⟩
          · obtain ⟨a, vs, rfl, h1, h2⟩ := rdL_ok W r e
            exact ⟨a, vs, rfl, .inl (SqL.of h1), h2⟩
        obtain ⟨a, vs, rfl, h1, h2⟩ := z _ r
        exact ⟨a, vs, rfl, h1, fun p hp => l _ _ F (.v (.ref p)) _ (Le.refl F) (W.cell (m := .lst ys) hp fun H' e => ⟨vs, e, h2⟩) rfl (q p (W.freeM hp))⟩
    · exact q.elim
  · exact q.elim⟩
def jrTuple : JRC := fun xs M Φ => match xs with
  | [.d (.tuple ds)] => Φ (.d (.tuple ds)) M
  | [x] => match rdLD M x with
    | some ds => Φ (.d (.tuple ds)) M
    | none => False
  | _ => False
theorem cj_tuple : CallJ X (.type "tuple") jrTuple := ⟨_, call_tuple_of, fun F M H vs xs Φ Q W r q l => by
  unfold jrTuple at q
  split at q
  · cases r with
    | cons r t =>
      cases t
      obtain ⟨a, vs, rfl, h1, h2⟩ := Dq.tuple r
      exact ⟨a, vs, rfl, .inr ⟨W.sub.sqT h1, l _ H F _ M (Le.refl F) W r q⟩⟩
  · split at q
    · rename_i ds e
      cases r with
      | cons r t =>
        cases t
        obtain ⟨a, vs, rfl, h1, h2⟩ := rdLD_ok W r e
        exact ⟨a, vs, rfl, .inl ⟨SqL.of h1, fun p hp => l _ _ _ (.d (.tuple ds)) M (W.le hp _) (W.lay hp _) (Dq.tup upd_same (h2.mono (W.le hp _))) q⟩⟩
    · exact q.elim
  · exact q.elim⟩
def jrInt : JRC := fun xs M Φ => match xs with
  | [.d (.int i)] => Φ (.d (.int i)) M
  | [.d (.bool b)] => Φ (.d (.int (if b then 1 else 0))) M
  | _ => False
theorem cj_int : CallJ X (.type "int") jrInt := ⟨_, call_int1, fun F M H vs xs Φ Q W r q l => by
  unfold jrInt at q
  split at q
  · cases r with
    | cons r t =>
      cases t; cases r
      exact .inl ⟨_, rfl, l _ H F _ M (Le.refl F) W (VD.int _) q⟩
  · cases r with
    | cons r t =>
      cases t; cases r
      exact .inr ⟨_, rfl, l _ H F _ M (Le.refl F) W (VD.int _) q⟩
  · exact q.elim⟩
/-! isinstance(data, a built-in class) -/
def tyName : PyData → String
  | .none => "NoneType"
  | .bool _ => "bool"
  | .int _ => "int"
  | .str _ => "str"
  | .list _ => "list"
  | .tuple _ => "tuple"
  | .dict _ => "dict"
/-- what isinstance answers: a truth is an int, too -/
def isiD (d : PyData) (n : String) : Bool := match d with
  | .none => false
  | .bool _ => n == "bool" || n == "int"
  | .int _ => n == "int"
  | .str _ => n == "str"
  | .list _ => n == "list"
  | .tuple _ => n == "tuple"
  | .dict _ => false
def jrIsi (n : String) : JRC := fun xs M Φ => match xs with
  | [.d d, .v (.ty m)] => m = n ∧ Φ (.d (.bool (isiD d n))) M
  | _ => False
theorem tyx_of {K : PySem.W.Frag} {M : Mem} {H F : Hp} (W : Wd K M H F) : ∀ {v : V} {d : PyData}, Dq K F v d → TyX K H v (.type (tyName d))
  | _, _, .non => .base .non
  | _, _, .bl b => .base (.bl b)
  | _, _, .int i => .base (.int i)
  | _, _, .str x => .base (.str x)
  | _, _, .lst h _ => .base (.lst (W.sub _ _ h))
  | _, _, .tup h _ => .base (.tup (W.sub _ _ h))
  | _, _, .zero h => by
    rcases W.sub.sqT h with (h | ⟨o, h⟩) | ⟨o, its, n, h1, h2, _⟩
    · exact .base (.tup h)
    · exact .fTuple h
    · exact .kTuple h1 h2
def isiTy : List (String × String × Bool) := [("NoneType", "int", false), ("NoneType", "str", false), ("NoneType", "bool", false), ("NoneType", "tuple", false), ("NoneType", "list", false),
  ("bool", "int", true), ("bool", "str", false), ("bool", "bool", true), ("bool", "tuple", false), ("bool", "list", false),
  ("int", "int", true), ("int", "str", false), ("int", "bool", false), ("int", "tuple", false), ("int", "list", false),
  ("str", "int", false), ("str", "str", true), ("str", "bool", false), ("str", "tuple", false), ("str", "list", false),
  ("list", "int", false), ("list", "str", false), ("list", "bool", false), ("list", "tuple", false), ("list", "list", true),
  ("tuple", "int", false), ("tuple", "str", false), ("tuple", "bool", false), ("tuple", "tuple", true), ("tuple", "list", false)]
theorem isiTy_ok : ∀ p ∈ isiTy, kitB p.1 p.2.1 = some p.2.2 := by decide +kernel
theorem isi_kit {K : PySem.W.Frag} {d : PyData} {n : String} (hn : n = "int" ∨ n = "str" ∨ n = "bool" ∨ n = "tuple") (hd : ∀ kvs, d ≠ .dict kvs) : PySem.W.kitOne K (.type (tyName d)) (.type n) = some (isiD d n) := by
  refine kit_ty ?_
  cases d with
  | dict kvs => exact (hd kvs rfl).elim
  | none => rcases hn with rfl | rfl | rfl | rfl <;> exact isiTy_ok (_, _, _) (by decide +kernel)
  | bool b => rcases hn with rfl | rfl | rfl | rfl <;> exact isiTy_ok (_, _, _) (by decide +kernel)
  | int b => rcases hn with rfl | rfl | rfl | rfl <;> exact isiTy_ok (_, _, _) (by decide +kernel)
  | str b => rcases hn with rfl | rfl | rfl | rfl <;> exact isiTy_ok (_, _, _) (by decide +kernel)
  | list b => rcases hn with rfl | rfl | rfl | rfl <;> exact isiTy_ok (_, _, _) (by decide +kernel)
  | tuple b => rcases hn with rfl | rfl | rfl | rfl <;> exact isiTy_ok (_, _, _) (by decide +kernel)
theorem dq_nodict {K : PySem.W.Frag} {F : Hp} {v : V} {d : PyData} (h : Dq K F v d) (kvs) : d ≠ .dict kvs := by rintro rfl; cases h
theorem cj_isi {n : String} (hn : n = "int" ∨ n = "str" ∨ n = "bool" ∨ n = "tuple") : CallJ X (.builtin "isinstance") (jrIsi n) := ⟨_, call_isi, fun F M H vs xs Φ Q W r q l => by
  unfold jrIsi at q
  split at q
  · rename_i d m
    obtain ⟨rfl, q⟩ := q
    cases r with
    | cons r t => cases t with
      | cons r2 t =>
        cases t
        cases (show _ = V.ty m from r2)
        exact ⟨_, _, _, _, _, rfl, .ty _, tyx_of W r, isi_kit hn (dq_nodict r), l _ H F _ M (Le.refl F) W (VD.bl _) q⟩
  · exact q.elim⟩
end
end Td

/-! TdJ4: walks, loops, comprehensions, lists by methods, dicts. -/
namespace Td
open PySem PySem.Spec PyProof.Rows L2

/-! ### what is walked -/
inductive Src where
  | fixed (xs : List EV)
  | cell (p : Addr) (xs : List EV)
  | dkeys (p : Addr) (od : Obj) (ks : List (Key × V)) (kvs : List (Key × EV))
def keyE : Key → EV
  | .inl i => .d (.int i)
  | .inr s => .d (.str s)
def Src.items : Src → List EV
  | .fixed xs => xs
  | .cell _ xs => xs
  | .dkeys _ _ _ kvs => kvs.map fun q => keyE q.1
def okS : Src → Mem → Prop
  | .fixed _, _ => True
  | .cell p xs, M => M p = some (.lst xs)
  | .dkeys p od ks kvs, M => M p = some (.fdic od ks kvs)
structure Walks (K : PySem.W.Frag) (J : It) (src : Src) (F0 : Hp) : Prop where
  go : ∀ i H F M x, Le F0 F → Wd K M H F → okS src M → src.items[i]? = some x → J.go i H ∧ ∀ v H', J.yld i H v H' → ∃ F', Le F F' ∧ Wd K M H' F' ∧ VD K F' v x
  stop : ∀ i H F M, Le F0 F → Wd K M H F → okS src M → src.items.length ≤ i → J.stop i H
theorem Walks.mono {K : PySem.W.Frag} {J : It} {src : Src} {F F' : Hp} (w : Walks K J src F) (e : Le F F') : Walks K J src F' :=
  ⟨fun i H G M x e' => w.go i H G M x (e.trans e'), fun i H G M e' => w.stop i H G M (e.trans e')⟩
abbrev JTI := JEnv → Mem → (Src → Mem → Prop) → Prop
def rdI (K : PySem.W.Frag) (ji : JTI) : TI := fun σ H R => ∃ F ρ M Φ, Wd K M H F ∧ SV K F σ ρ ∧ ji ρ M Φ ∧ ∀ src M' F' H' J, Le F F' → Wd K M' H' F' → Φ src M' → okS src M' → Walks K J src F' → R J H'
abbrev JI (X : Cx) (tg e : Expr) (ji : JTI) : Prop := PI X tg e (rdI X.K ji)
theorem _root_.L2.PI.imp {X : Cx} {tg e : Expr} {t t' : TI} (h : PI X tg e t) (i : ∀ σ H Q, t' σ H Q → t σ H Q) : PI X tg e t' := ⟨fun pins s σ H Q I q => h.run pins s σ H Q I (i σ H Q q)⟩
def srcL (M : Mem) : EV → Option Src
  | .d (.list ds) => some (.fixed (ds.map .d))
  | .v (.ref p) => match M p with
    | some (.lst xs) => some (.cell p xs)
    | _ => none
  | _ => none
theorem sqL_inj {K : PySem.W.Frag} {H : Hp} {a : Addr} {xs : List V} (h : H a = some (.lst xs)) : SqL K H a xs := SqL.of h
/-- a list at a, as it stands -/
theorem srcL_at {K : PySem.W.Frag} {M : Mem} {H F : Hp} {x : EV} {v : V} {src : Src} (W : Wd K M H F) (r : VD K F v x) (h : srcL M x = some src) :
    okS src M ∧ ∃ a, v = .ref a ∧ ∀ H' F' M', Le F F' → Wd K M' H' F' → okS src M' → ∃ vs, H' a = some (.lst vs) ∧ VDs K F' vs src.items := by
  unfold srcL at h
  split at h
  · rename_i ds
    cases h
    obtain ⟨a, vs, rfl, h1, h2⟩ := Dq.list r
    exact ⟨trivial, a, rfl, fun H' F' M' e W' _ => ⟨vs, W'.sub _ _ (e _ _ h1), VDs.mono e (VDs.of h2)⟩⟩
  · rename_i p
    split at h
    · rename_i xs e
      cases h
      cases (show v = .ref p from r)
      refine ⟨e, p, rfl, fun H' F' M' _ W' ok => ?_⟩
      obtain ⟨_, vs, h1, h2⟩ := W'.mem p _ ok
      exact ⟨vs, h1, h2⟩
    · cases h
  · cases h
def jiL (je : JTE) : JTI := fun ρ M Φ => je ρ M fun x M1 => match srcL M1 x with
  | some src => Φ src M1
  | none => False
section
variable {X : Cx} {tg e e2 : Expr} {je : JTE} {ja : JTA} {p pos : Pos}
/-- what list is at a (Itl): it is told in the step itself, by its items -/
theorem walks_list {K : PySem.W.Frag} {a : Addr} {src : Src} {F : Hp} (h : ∀ H' F' M', Le F F' → Wd K M' H' F' → okS src M' → ∃ vs, H' a = some (.lst vs) ∧ VDs K F' vs src.items) : Walks K (Itl K a) src F where
  go := fun i H G M x e W ok hx => by
    obtain ⟨vs, h1, h2⟩ := h H G M e W ok
    obtain ⟨v, hv, r⟩ := h2.get hx
    refine ⟨⟨vs, v, SqL.of h1, hv⟩, fun v' H' y => ?_⟩
    obtain ⟨rfl, y⟩ := y
    have := y vs (SqL.of h1)
    rw [hv] at this; cases this
    exact ⟨G, Le.refl G, W, r⟩
  stop := fun i H G M e W ok hi => by
    obtain ⟨vs, h1, h2⟩ := h H G M e W ok
    exact ⟨vs, SqL.of h1, by rw [Paired.length h2]; exact hi⟩
theorem ji_list (he : JE X e je) : JI X tg e (jiL je) := (pi_list he).imp fun σ H R ⟨F, ρ, M, Φ, W, S, h, l⟩ =>
  rdE.at W S h fun v H1 F1 x M1 e1 W1 r1 h1 => by
    split at h1
    · rename_i src e2
      obtain ⟨ok, a, rfl, hs⟩ := srcL_at W1 r1 e2
      obtain ⟨vs, h3, _⟩ := hs H1 F1 M1 (Le.refl F1) W1 ok
      exact ⟨a, rfl, ⟨vs, SqL.of h3⟩, l src M1 F1 H1 _ e1 W1 h1 ok (walks_list hs)⟩
    · exact h1.elim
def jiT (je : JTE) : JTI := fun ρ M Φ => je ρ M fun x M1 => match x with
  | .d (.tuple ds) => Φ (.fixed (ds.map .d)) M1
  | _ => False
theorem walks_tup {K : PySem.W.Frag} {a : Addr} {vs : List V} {ds : List PyData} {F : Hp} (h1 : SqT K F a vs) (h2 : DqAll K F vs ds) : Walks K (Itt K a) (.fixed (ds.map .d)) F where
  go := fun i H G M x e W ok hx => by
    obtain ⟨v, hv, r⟩ := (VDs.mono e (VDs.of h2)).get hx
    refine ⟨⟨vs, v, W.sub.sqT (e.sqT h1), hv⟩, fun v' H' y => ?_⟩
    obtain ⟨rfl, y⟩ := y
    have := y vs (W.sub.sqT (e.sqT h1))
    rw [hv] at this; cases this
    exact ⟨G, Le.refl G, W, r⟩
  stop := fun i H G M e W ok hi => ⟨vs, W.sub.sqT (e.sqT h1), by rw [h2.length]; simpa [Src.items] using hi⟩
theorem ji_tup (he : JE X e je) : JI X tg e (jiT je) := (pi_tup he).imp fun σ H R ⟨F, ρ, M, Φ, W, S, h, l⟩ =>
  rdE.at W S h fun v H1 F1 x M1 e1 W1 r1 h1 => by
    match x, r1, h1 with
    | .d (.tuple ds), r1, h1 =>
      obtain ⟨a, vs, rfl, h3, h4⟩ := Dq.tuple r1
      exact ⟨a, rfl, ⟨vs, W1.sub.sqT h3⟩, l _ M1 F1 H1 _ e1 W1 h1 trivial (walks_tup h3 h4)⟩
def rangeD (lo : Int) (n : Nat) : List EV := (List.range n).map fun (i : Nat) => .d (.int (lo + (i : Nat)))
theorem walks_range {K : PySem.W.Frag} {lo : Int} {n : Nat} {F : Hp} : Walks K (Itr lo n) (.fixed (rangeD lo n)) F where
  go := fun i H G M x e W ok hx => by
    have hx : (rangeD lo n)[i]? = some x := hx
    unfold rangeD at hx
    rw [List.getElem?_map] at hx
    cases q : (List.range n)[i]? with
    | none => rw [q] at hx; cases hx
    | some j =>
      rw [q] at hx
      obtain ⟨q1, q2⟩ := List.getElem?_eq_some_iff.mp q
      rw [List.getElem_range] at q2
      subst q2
      rw [List.length_range] at q1
      cases hx
      refine ⟨q1, fun v H' y => ?_⟩
      obtain ⟨rfl, rfl⟩ := y
      exact ⟨G, Le.refl G, W, VD.int _⟩
  stop := fun i H G M e W ok hi => by
    have hi : (rangeD lo n).length ≤ i := hi
    unfold rangeD at hi
    rw [List.length_map, List.length_range] at hi
    exact hi
def jiR1 (ja : JTA) : JTI := fun ρ M Φ => ja ρ M fun xs M1 => match xs with
  | [.d (.int j)] => (-(2 ^ 62) ≤ j ∧ j < 2 ^ 62) ∧ Φ (.fixed (rangeD 0 j.toNat)) M1
  | _ => False
theorem ji_range1 (hg : Gl X "range") (hm : X.mg "range" = none) (ha : JA X [e] ja) (hs : starEach [e] X.env = [(false, eval e X.env)] := by rfl) : JI X tg (.Call (.Name "range" p) [e] [] pos) (jiR1 ja) :=
  (pi_range1 hg hm ha hs).imp fun σ H R ⟨F, ρ, M, Φ, W, S, h, l⟩ => rdA.at W S h fun vs H1 F1 xs M1 e1 W1 r1 h1 => by
    match xs, r1, h1 with
    | [.d (.int j)], .cons r .nil, h1 =>
      cases r
      exact ⟨j, rfl, h1.1.1, h1.1.2, l _ M1 F1 H1 _ e1 W1 h1.2 trivial walks_range⟩
def jiR2 (ja : JTA) : JTI := fun ρ M Φ => ja ρ M fun xs M1 => match xs with
  | [.d (.int i), .d (.int j)] => (-(2 ^ 62) ≤ i ∧ i < 2 ^ 62 ∧ -(2 ^ 62) ≤ j ∧ j < 2 ^ 62) ∧ Φ (.fixed (rangeD i (j - i).toNat)) M1
  | _ => False
theorem ji_range2 (hg : Gl X "range") (hm : X.mg "range" = none) (ha : JA X [e, e2] ja) (hs : starEach [e, e2] X.env = [(false, eval e X.env), (false, eval e2 X.env)] := by rfl) (hs2 : starEach [e2] X.env = [(false, eval e2 X.env)] := by rfl) :
    JI X tg (.Call (.Name "range" p) [e, e2] [] pos) (jiR2 ja) :=
  (pi_range2 hg hm ha hs hs2).imp fun σ H R ⟨F, ρ, M, Φ, W, S, h, l⟩ => rdA.at W S h fun vs H1 F1 xs M1 e1 W1 r1 h1 => by
    match xs, r1, h1 with
    | [.d (.int i), .d (.int j)], .cons r (.cons r2 .nil), h1 =>
      cases r; cases r2
      exact ⟨i, j, rfl, h1.1, l _ M1 F1 H1 _ e1 W1 h1.2 trivial walks_range⟩
/-! enumerate(list), zip of two lists or two tuples: data -/
def enumD : Nat → List PyData → List EV
  | _, [] => []
  | i, d :: r => .d (.tuple [.int (i : Nat), d]) :: enumD (i + 1) r
theorem enumD_get : ∀ {ds : List PyData} {k i : Nat} {x : EV}, (enumD k ds)[i]? = some x → ∃ d, ds[i]? = some d ∧ x = .d (.tuple [.int ((k + i : Nat) : Int), d])
  | [], _, _, _, h => by simp [enumD] at h
  | d :: r, k, 0, x, h => by
    simp [enumD] at h
    exact ⟨d, rfl, h.symm⟩
  | d :: r, k, i + 1, x, h => by
    simp only [enumD, List.getElem?_cons_succ] at h
    obtain ⟨d', h1, h2⟩ := enumD_get h
    have e : k + 1 + i = k + (i + 1) := by omega
    exact ⟨d', by simpa using h1, by rw [h2, e]⟩
theorem enumD_length : ∀ (ds : List PyData) (k : Nat), (enumD k ds).length = ds.length
  | [], _ => rfl
  | _ :: r, k => by rw [enumD, List.length_cons, List.length_cons, enumD_length r]
def jiE (ja : JTA) : JTI := fun ρ M Φ => ja ρ M fun xs M1 => match xs with
  | [.d (.list ds)] => Φ (.fixed (enumD 0 ds)) M1
  | _ => False
theorem ji_enum {tpos : Pos} {elts : List Expr} {kk : Nat} (hg : Gl X "enumerate") (hm : X.mg "enumerate" = none) (ha : JA X [e] ja) (hs : starEach [e] X.env = [(false, eval e X.env)] := by rfl) :
    JI X (.Tuple elts kk tpos) (.Call (.Name "enumerate" p) [e] [] pos) (jiE ja) :=
  (pi_enum hg hm ha hs).imp fun σ H R ⟨F, ρ, M, Φ, W, S, h, l⟩ => rdA.at W S h fun vs H1 F1 xs M1 e1 W1 r1 h1 => by
    match xs, r1, h1 with
    | [.d (.list ds)], .cons r .nil, h1 =>
      obtain ⟨a, vs, rfl, h3, h4⟩ := Dq.list r
      refine ⟨a, vs, rfl, SqL.of (W1.sub _ _ h3), l _ M1 F1 H1 _ e1 W1 h1 trivial ⟨fun i H G M x e W ok hx => ?_, fun i H G M e W ok hi => ?_⟩⟩
      · obtain ⟨d, hd, rfl⟩ := enumD_get (show (enumD 0 ds)[i]? = some x from hx)
        obtain ⟨v, hv, rv⟩ := (h4.mono e).get' hd
        have hl := SqL.of (K := X.K) (W.sub _ _ (e _ _ h3))
        refine ⟨⟨vs, v, hl, hv⟩, fun v' H' y => ?_⟩
        obtain ⟨T, w, rfl, hT, rfl, hy⟩ := y
        have := hy vs hl
        rw [hv] at this; cases this
        refine ⟨_, W.le hT _, W.lay hT _, Dq.tup upd_same (.cons ?_ (.cons (rv.mono (W.le hT _)) .nil))⟩
        rw [Nat.zero_add]
        exact .int _
      · have hi : (enumD 0 ds).length ≤ i := hi
        rw [enumD_length] at hi
        exact ⟨vs, SqL.of (W.sub _ _ (e _ _ h3)), by rw [h4.length]; exact hi⟩
def zipD : List PyData → List PyData → List EV
  | a :: r, b :: s => .d (.tuple [a, b]) :: zipD r s
  | _, _ => []
theorem zipD_get : ∀ {ds es : List PyData} {i : Nat} {x : EV}, (zipD ds es)[i]? = some x → ∃ d e, ds[i]? = some d ∧ es[i]? = some e ∧ x = .d (.tuple [d, e])
  | [], _, _, _, h => by simp [zipD] at h
  | _ :: _, [], _, _, h => by simp [zipD] at h
  | a :: r, b :: s, 0, x, h => by
    simp [zipD] at h
    exact ⟨a, b, rfl, rfl, h.symm⟩
  | a :: r, b :: s, i + 1, x, h => by
    simp only [zipD, List.getElem?_cons_succ] at h
    simpa using zipD_get h
theorem zipD_end : ∀ {ds es : List PyData} {i : Nat}, (zipD ds es).length ≤ i → ds.length ≤ i ∨ es.length ≤ i
  | [], _, _, _ => .inl (Nat.zero_le _)
  | _ :: _, [], _, _ => .inr (Nat.zero_le _)
  | a :: r, b :: s, 0, h => by simp [zipD] at h
  | a :: r, b :: s, i + 1, h => by
    simp only [zipD, List.length_cons, Nat.add_le_add_iff_right] at h
    simpa using zipD_end h
def jiZ (ja : JTA) : JTI := fun ρ M Φ => ja ρ M fun xs M1 => match xs with
  | [.d (.list ds), .d (.list es)] => Φ (.fixed (zipD ds es)) M1
  | [.d (.tuple ds), .d (.tuple es)] => Φ (.fixed (zipD ds es)) M1
  | _ => False
theorem ji_zip {tpos : Pos} {elts : List Expr} {kk : Nat} (hg : Gl X "zip") (hm : X.mg "zip" = none) (ha : JA X [e, e2] ja)
    (hs : starEach [e, e2] X.env = (false, eval e X.env) :: starEach [e2] X.env := by rfl) (hpl : (backTo pos (starEach [e2] X.env)).any (·.1) = false := by rfl) :
    JI X (.Tuple elts kk tpos) (.Call (.Name "zip" p) [e, e2] [] pos) (jiZ ja) :=
  (RZ.pi_zipA hg hm ha hs hpl).imp fun σ H R ⟨F, ρ, M, Φ, W, S, h, l⟩ => rdA.at W S h fun vs H1 F1 xs M1 e1 W1 r1 h1 => by
    match xs, r1, h1 with
    | [.d (.list ds), .d (.list es)], .cons r (.cons r2 .nil), h1 =>
      obtain ⟨a, vs, rfl, h3, h4⟩ := Dq.list r
      obtain ⟨b, ws, rfl, h5, h6⟩ := Dq.list r2
      refine ⟨a, b, vs, ws, rfl, .inl ⟨SqL.of (W1.sub _ _ h3), SqL.of (W1.sub _ _ h5), l _ M1 F1 H1 _ e1 W1 h1 trivial ⟨fun i H G M x e W ok hx => ?_, fun i H G M e W ok hi => ?_⟩⟩⟩
      · obtain ⟨d, d2, hd, hd2, rfl⟩ := zipD_get (show (zipD ds es)[i]? = some x from hx)
        obtain ⟨v, hv, rv⟩ := (h4.mono e).get' hd
        obtain ⟨u, hu, ru⟩ := (h6.mono e).get' hd2
        have hl := SqL.of (K := X.K) (W.sub _ _ (e _ _ h3))
        have hl2 := SqL.of (K := X.K) (W.sub _ _ (e _ _ h5))
        refine ⟨⟨vs, ws, v, u, hl, hl2, hv, hu⟩, fun v' H' y => ?_⟩
        obtain ⟨T, x1, y1, rfl, hT, rfl, hy, hy2⟩ := y
        have := hy vs hl
        rw [hv] at this; cases this
        have := hy2 ws hl2
        rw [hu] at this; cases this
        exact ⟨_, W.le hT _, W.lay hT _, Dq.tup upd_same (.cons (rv.mono (W.le hT _)) (.cons (ru.mono (W.le hT _)) .nil))⟩
      · refine ⟨vs, ws, SqL.of (W.sub _ _ (e _ _ h3)), SqL.of (W.sub _ _ (e _ _ h5)), ?_⟩
        rw [h4.length, h6.length]
        exact zipD_end hi
    | [.d (.tuple ds), .d (.tuple es)], .cons r (.cons r2 .nil), h1 =>
      obtain ⟨a, vs, rfl, h3, h4⟩ := Dq.tuple r
      obtain ⟨b, ws, rfl, h5, h6⟩ := Dq.tuple r2
      refine ⟨a, b, vs, ws, rfl, .inr ⟨W1.sub.sqT h3, W1.sub.sqT h5, l _ M1 F1 H1 _ e1 W1 h1 trivial ⟨fun i H G M x e W ok hx => ?_, fun i H G M e W ok hi => ?_⟩⟩⟩
      · obtain ⟨d, d2, hd, hd2, rfl⟩ := zipD_get (show (zipD ds es)[i]? = some x from hx)
        obtain ⟨v, hv, rv⟩ := (h4.mono e).get' hd
        obtain ⟨u, hu, ru⟩ := (h6.mono e).get' hd2
        have hl := W.sub.sqT (e.sqT h3)
        have hl2 := W.sub.sqT (e.sqT h5)
        refine ⟨⟨vs, ws, v, u, hl, hl2, hv, hu⟩, fun v' H' y => ?_⟩
        obtain ⟨T, x1, y1, rfl, hT, rfl, hy, hy2⟩ := y
        have := hy vs hl
        rw [hv] at this; cases this
        have := hy2 ws hl2
        rw [hu] at this; cases this
        exact ⟨_, W.le hT _, W.lay hT _, Dq.tup upd_same (.cons (rv.mono (W.le hT _)) (.cons (ru.mono (W.le hT _)) .nil))⟩
      · refine ⟨vs, ws, W.sub.sqT (e.sqT h3), W.sub.sqT (e.sqT h5), ?_⟩
        rw [h4.length, h6.length]
        exact zipD_end hi
end

/-! ### for -/
def jLoopF (g : JTG) (jb : JTS) (J : JEnds) : List EV → JEnv → Mem → Prop
  | [], ρ, M => J.nx ρ M
  | x :: xs, ρ, M => g x ρ M fun ρ1 M1 => jb { J with nx := jLoopF g jb J xs, ct := jLoopF g jb J xs, bk := J.nx } ρ1 M1
def jLoopC (ok : Mem → Prop) (g : JTG) (jb : JTS) (J : JEnds) : List EV → JEnv → Mem → Prop
  | [], ρ, M => ok M ∧ J.nx ρ M
  | x :: xs, ρ, M => ok M ∧ g x ρ M fun ρ1 M1 => jb { J with nx := jLoopC ok g jb J xs, ct := jLoopC ok g jb J xs, bk := J.nx } ρ1 M1
def jFor (ji : JTI) (g : JTG) (jb : JTS) : JTS := fun J ρ M => ji ρ M fun src M1 => match src with
  | .fixed xs => jLoopF g jb J xs ρ M1
  | .cell p xs => jLoopC (fun M => M p = some (.lst xs)) g jb J xs ρ M1
  | .dkeys p od ks kvs => jLoopC (fun M => M p = some (.fdic od ks kvs)) g jb J (kvs.map fun q => keyE q.1) ρ M1
/-- all loops in one -/
def jLoop (src : Src) (g : JTG) (jb : JTS) (J : JEnds) : List EV → JEnv → Mem → Prop := match src with
  | .fixed _ => jLoopF g jb J
  | .cell p ys => jLoopC (fun M => M p = some (.lst ys)) g jb J
  | .dkeys p od ks kvs => jLoopC (fun M => M p = some (.fdic od ks kvs)) g jb J
section
variable {X : Cx} {E : XK} {tg iter : Expr} {body : List Stmt} {ji : JTI} {g : JTG} {jb : JTS} {pos : Pos}
theorem js_for (hp : PassesOwn (model X.prog X.w) X.A X.env X.xe) (hi : JI X tg iter ji) (hg : JG X tg g) (hb : JSs X E body jb) (hc : X.calm = true := by rfl)
    (hs : ∀ x, foldedSetIterable iter X.env x = pure x := by intro _; rfl) : JS X E (.For tg iter body [] pos) (jFor ji g jb) := (ps_for hp hc hi hg hb hs).imp fun D σ H ⟨F, ρ, M, J, W, S, h, l⟩ => by
  refine ⟨F, ρ, M, _, W, S, h, fun src M1 F1 H1 It e1 W1 h1 ok1 wk => ?_⟩
  have h1 : jLoop src g jb J src.items ρ M1 := by cases src <;> exact h1
  have nil_of : ∀ {ρ M}, jLoop src g jb J [] ρ M → okS src M ∧ J.nx ρ M := by
    intro ρ M h
    cases src with
    | fixed xs => exact ⟨trivial, h⟩
    | cell p ys => exact h
    | dkeys p od ks kvs => exact h
  have cons_of : ∀ {x xs ρ M}, jLoop src g jb J (x :: xs) ρ M → okS src M ∧ g x ρ M fun ρ1 M1 => jb { J with nx := jLoop src g jb J xs, ct := jLoop src g jb J xs, bk := J.nx } ρ1 M1 := by
    intro x xs ρ M h
    cases src with
    | fixed xs => exact ⟨trivial, h⟩
    | cell p ys => exact h
    | dkeys p od ks kvs => exact h
  refine ⟨fun i m σ' H' => m = src.items.length - i ∧ i ≤ src.items.length ∧ ∃ F' ρ' M', Le F1 F' ∧ Wd X.K M' H' F' ∧ SV X.K F' σ' ρ' ∧ jLoop src g jb J (src.items.drop i) ρ' M', ⟨_, rfl, Nat.zero_le _, F1, ρ, M1, Le.refl F1, W1, S.mono e1, h1⟩, ?_⟩
  rintro i m σ2 H2 ⟨rfl, hi, F2, ρ2, M2, e2, W2, S2, h2⟩
  by_cases hlt : i < src.items.length
  · have hx : src.items[i]? = some src.items[i] := by simp [hlt]
    rw [List.drop_eq_getElem_cons hlt] at h2
    obtain ⟨ok2, h2⟩ := cons_of h2
    obtain ⟨g1, g2⟩ := wk.go i H2 F2 M2 _ e2 W2 ok2 hx
    refine .inr ⟨g1, fun σ' H' => ∃ F' ρ' M', Le F1 F' ∧ Wd X.K M' H' F' ∧ SV X.K F' σ' ρ' ∧ jLoop src g jb J (src.items.drop (i + 1)) ρ' M', fun σ' H' q => ⟨_, by omega, rfl, hlt, q⟩, fun v H' y => ?_⟩
    obtain ⟨F3, e3, W3, r3⟩ := g2 v H' y
    refine rdG.at W3 (S2.mono e3) r3 h2 fun σ4 H4 F4 ρ4 M4 e4 W4 S4 h4 => ?_
    have le4 : Le F1 F4 := e2.trans (e3.trans e4)
    have again : LN X.K F4 (jLoop src g jb J (src.items.drop (i + 1))) (fun σ' H' => ∃ F' ρ' M', Le F1 F' ∧ Wd X.K M' H' F' ∧ SV X.K F' σ' ρ' ∧ jLoop src g jb J (src.items.drop (i + 1)) ρ' M') :=
      fun σ5 H5 F5 ρ5 M5 e5 W5 S5 h5 => ⟨F5, ρ5, M5, le4.trans e5, W5, S5, h5⟩
    exact rdS.at W4 S4 h4 ⟨again, l.rt.mono (e1.trans le4), l.nx.mono (e1.trans le4), again, l.xr.mono (e1.trans le4)⟩
  · have e : src.items.drop i = [] := List.drop_eq_nil_of_le (by omega)
    rw [e] at h2
    obtain ⟨ok2, h2⟩ := nil_of h2
    exact .inl ⟨wk.stop i H2 F2 M2 e2 W2 ok2 (by omega), l.nx σ2 H2 F2 ρ2 M2 (e1.trans e2) W2 S2 h2⟩
end

/-! ### comprehensions -/
theorem wipe_set {σ : L2.St} {i : Nat} {x : Option V} : ∀ {vs : List Nat}, i ∈ vs → wipe (σ.set i x) vs = wipe σ vs
  | [], h => by cases h
  | v :: vs, h => by
    unfold wipe
    by_cases e : v = i
    · subst e
      by_cases m : v ∈ vs
      · rw [wipe_set m]
      · have q : ∀ ws : List Nat, v ∉ ws → wipe (σ.set v x) ws = (wipe σ ws).set v x := by
          intro ws
          induction ws with
          | nil => intro _; rfl
          | cons a ws ih =>
            intro hn
            have hn := not_or.mp (fun z => hn (List.mem_cons.mpr z))
            unfold wipe
            rw [ih hn.2, List.set_comm _ _ hn.1]
        rw [q vs m, List.set_set]
    · have m : i ∈ vs := by
        rcases List.mem_cons.mp h with z | z
        · exact (e z.symm).elim
        · exact z
      rw [wipe_set m]
def jwipe (ρ : JEnv) : List Nat → JEnv
  | [] => ρ
  | v :: vs => (jwipe ρ vs).set v none
theorem sv_wipe {K : PySem.W.Frag} {F : Hp} {σ : L2.St} {ρ : JEnv} (S : SV K F σ ρ) : ∀ vs : List Nat, SV K F (wipe σ vs) (jwipe ρ vs)
  | [] => S
  | v :: vs => by unfold wipe jwipe; exact (sv_wipe S vs).forget v
/-- a target that stores at vs alone -/
def rdGw (K : PySem.W.Frag) (vs : List Nat) (jg : JTG) : TG := fun v σ H Q => ∃ F ρ M x Φ, Wd K M H F ∧ SV K F σ ρ ∧ VD K F v x ∧ jg x ρ M Φ ∧ ∀ σ' H' F' ρ' M', Le F F' → Wd K M' H' F' → SV K F' σ' ρ' → wipe σ' vs = wipe σ vs → Φ ρ' M' → Q σ' H'
abbrev JGw (X : Cx) (vs : List Nat) (e : Expr) (jg : JTG) : Prop := PG X e (rdGw X.K vs jg)
def rdGsw (K : PySem.W.Frag) (vs : List Nat) (jg : JTGs) : TGs := fun ws σ H Q => ∃ F ρ M xs Φ, Wd K M H F ∧ SV K F σ ρ ∧ VDs K F ws xs ∧ jg xs ρ M Φ ∧ ∀ σ' H' F' ρ' M', Le F F' → Wd K M' H' F' → SV K F' σ' ρ' → wipe σ' vs = wipe σ vs → Φ ρ' M' → Q σ' H'
abbrev JGsw (X : Cx) (vs : List Nat) (es : List Expr) (jg : JTGs) : Prop := PGs X es (rdGsw X.K vs jg)
section
variable {X : Cx} {vs : List Nat} {e : Expr} {pos : Pos}
theorem jgw_name {i : Nat} {x : Str} (hN : X.N.Nodup) (hi : X.N[i]? = some x) (hx : Loc X.env.scope x) (hv : i ∈ vs) (hf : X.fn x = true ∨ X.env.scope.names.lookup x = some .local := by first | exact .inl rfl | exact .inr rfl | assumption) : JGw X vs (.Name x pos) (jName i) :=
  (pg_name hN hi hx hf).imp fun v σ H Q ⟨F, ρ, M, x, Φ, W, S, r, h, l⟩ => l _ H F _ M (Le.refl F) W (S.set r i) (wipe_set hv) h
theorem jgsw_nil : JGsw X vs [] jgNil := ⟨fun pins s σ H ws us Q I r ⟨F, ρ, M, xs, Φ, W, S, rv, h, l⟩ => pgs_nil.run pins s σ H ws us Q I r (by
  cases rv with
  | nil => exact ⟨rfl, l σ H F ρ M (Le.refl F) W S rfl h⟩
  | cons _ _ => exact h.elim)⟩
theorem jgsw_cons {es : List Expr} {t : JTG} {u : JTGs} (h1 : JGw X vs e t) (h2 : JGsw X vs es u)
    (hs : (assignEach (e :: es) X.env).map (·.2) = assign e X.env :: (assignEach es X.env).map (·.2) := by rfl) : JGsw X vs (e :: es) (jgCons t u) := ⟨fun pins s σ H ws us Q I r ⟨F, ρ, M, xs, Φ, W, S, rv, h, l⟩ =>
  (pgs_cons h1 h2 hs).run pins s σ H ws us Q I r (by
    cases rv with
    | nil => exact h.elim
    | cons rv rt => exact ⟨_, _, rfl, F, ρ, M, _, _, W, S, rv, h, fun σ1 H1 F1 ρ1 M1 e1 W1 S1 w1 h1 => ⟨F1, ρ1, M1, _, Φ, W1, S1, VDs.mono e1 rt, h1, fun σ2 H2 F2 ρ2 M2 e2 W2 S2 w2 h2 => l σ2 H2 F2 ρ2 M2 (e1.trans e2) W2 S2 (w2.trans w1) h2⟩⟩)⟩
theorem jgw_tup {es : List Expr} {k : Nat} {t : JTGs} {n : Nat} (hc : X.calm = true) (h : JGsw X vs es t)
    (hn : (assignEach es X.env).length = n := by rfl) (hst : (assignEach es X.env).findIdx? (·.1) = none := by rfl) : JGw X vs (.Tuple es k pos) (jgTup n t) :=
  (pg_tup hc h hn hst).imp fun v σ H Q ⟨F, ρ, M, x, Φ, W, S, r, h, l⟩ => by
    unfold jgTup at h
    split at h
    · rename_i ds
      split at h
      · rename_i hl
        obtain ⟨a, xs, rfl, ht, q⟩ := Dq.tuple r
        exact ⟨a, xs, rfl, W.sub.sqT ht, q.length.trans (of_decide_eq_true hl), F, ρ, M, _, Φ, W, S, VDs.of q, h, l⟩
      · exact h.elim
    · exact h.elim
end
abbrev JTs (X : Cx) (ifs : List Expr) (t : JTT) : Prop := PTs X ifs (rdT X.K t)
def jYes : JTT := fun _ M Φ => Φ true M
theorem _root_.L2.PTs.imp {X : Cx} {es : List Expr} {t t' : TT} (h : PTs X es t) (i : ∀ σ H Q, t' σ H Q → t σ H Q) : PTs X es t' := ⟨fun pins s σ H Q I q => h.run pins s σ H Q I (i σ H Q q)⟩
theorem jts_nil {X : Cx} : JTs X [] jYes := pts_nil.imp fun σ H Q ⟨F, ρ, M, Φ, W, S, h, l⟩ => l true H F M (Le.refl F) W h
theorem jts_one {X : Cx} {c : Expr} {t : JTT} (h : JT X c t) : JTs X [c] t := pts_one h
/-- the items made, from env ρ0 at each turn -/
def jAccF (g : JTG) (jt : JTT) (je : JTE) (ρ0 : JEnv) (Ψ : List EV → Mem → Prop) : List EV → List EV → Mem → Prop
  | [], acc, M => Ψ acc M
  | x :: xs, acc, M => g x ρ0 M fun ρ1 M1 => jt ρ1 M1 fun b M2 => match b with
    | true => je ρ1 M2 fun y M3 => jAccF g jt je ρ0 Ψ xs (acc ++ [y]) M3
    | false => jAccF g jt je ρ0 Ψ xs acc M2
def jAccC (ok : Mem → Prop) (g : JTG) (jt : JTT) (je : JTE) (ρ0 : JEnv) (Ψ : List EV → Mem → Prop) : List EV → List EV → Mem → Prop
  | [], acc, M => ok M ∧ Ψ acc M
  | x :: xs, acc, M => ok M ∧ g x ρ0 M fun ρ1 M1 => jt ρ1 M1 fun b M2 => match b with
    | true => je ρ1 M2 fun y M3 => jAccC ok g jt je ρ0 Ψ xs (acc ++ [y]) M3
    | false => jAccC ok g jt je ρ0 Ψ xs acc M2
def jAcc (src : Src) (g : JTG) (jt : JTT) (je : JTE) (ρ0 : JEnv) (Ψ : List EV → Mem → Prop) : List EV → List EV → Mem → Prop := match src with
  | .fixed _ => jAccF g jt je ρ0 Ψ
  | .cell p ys => jAccC (fun M => M p = some (.lst ys)) g jt je ρ0 Ψ
  | .dkeys p od ks kvs => jAccC (fun M => M p = some (.fdic od ks kvs)) g jt je ρ0 Ψ
/-- the list made as data; as a cell -/
def lenOk (n : Nat) : Prop := n ≤ 1000000
theorem lenOk.line {n : Nat} (h : lenOk n) : n ≤ sizeLine := Nat.le_trans h (by decide)
def jLc (ji : JTI) (g : JTG) (jt : JTT) (je : JTE) (vs : List Nat) : JTE := fun ρ M Φ => ji ρ M fun src M1 => lenOk src.items.length ∧ match src with
  | .fixed xs => jAccF g jt je (jwipe ρ vs) (fun acc M2 => match fzs acc M2 with
    | some (ds, M3) => Φ (.d (.list ds)) M3
    | none => False) xs [] M1
  | .cell p xs => jAccC (fun M => M p = some (.lst xs)) g jt je (jwipe ρ vs) (fun acc M2 => match fzs acc M2 with
    | some (ds, M3) => Φ (.d (.list ds)) M3
    | none => False) xs [] M1
  | .dkeys p od ks kvs => jAccC (fun M => M p = some (.fdic od ks kvs)) g jt je (jwipe ρ vs) (fun acc M2 => match fzs acc M2 with
    | some (ds, M3) => Φ (.d (.list ds)) M3
    | none => False) (kvs.map fun q => keyE q.1) [] M1
def jLcC (ji : JTI) (g : JTG) (jt : JTT) (je : JTE) (vs : List Nat) : JTE := fun ρ M Φ => ji ρ M fun src M1 => lenOk src.items.length ∧ match src with
  | .fixed xs => jAccF g jt je (jwipe ρ vs) (fun acc M2 => ∀ p, M2 p = none → Φ (.v (.ref p)) (M2.set p (.lst acc))) xs [] M1
  | .cell q xs => jAccC (fun M => M q = some (.lst xs)) g jt je (jwipe ρ vs) (fun acc M2 => ∀ p, M2 p = none → Φ (.v (.ref p)) (M2.set p (.lst acc))) xs [] M1
  | .dkeys q od ks kvs => jAccC (fun M => M q = some (.fdic od ks kvs)) g jt je (jwipe ρ vs) (fun acc M2 => ∀ p, M2 p = none → Φ (.v (.ref p)) (M2.set p (.lst acc))) (kvs.map fun q => keyE q.1) [] M1
/-- the machine of both: Ψ is what is wanted of the items, at the end they lie hidden at D -/
theorem lc_run {K : PySem.W.Frag} {src : Src} {J : It} {g : JTG} {jt : JTT} {je : JTE} {vs : List Nat} {σ : L2.St} {ρ : JEnv} {Q : Hp → Prop} {Ψ : List EV → Mem → Prop} {M1 : Mem} {H1 F1 : Hp} {D : Addr} (W1 : Wd K M1 H1 F1) (S : SV K F1 σ ρ) (wk : Walks K J src F1)
    (h : jAcc src g jt je (jwipe ρ vs) Ψ src.items [] M1) (hD : H1 D = none) (hlen : src.items.length ≤ sizeLine)
    (hQ : ∀ H F M acc accV, Le F1 F → Wd K M H F → F D = some (.frz hidO (.lst accV)) → VDs K F accV acc → Ψ acc M → Q H) :
    ∃ W : Nat → Nat → Hp → Prop, (∃ m, W 0 m (upd H1 D (.lst []))) ∧ ∀ i m H, W i m H →
      (J.stop i H ∧ Q H) ∨ (J.go i H ∧ ∃ Nx : Hp → Prop, (∀ H', Nx H' → ∃ m', m' < m ∧ W (i + 1) m' H') ∧ ∀ x H', J.yld i H x H' → rdGw K vs g x (wipe σ vs) H' fun σ2 H2 => wipe σ2 vs = wipe σ vs ∧ rdT K jt σ2 H2 fun b H3 =>
        if b = true then rdE K je σ2 H3 fun y H4 => ∃ acc, H4 D = some (.lst acc) ∧ acc.length < sizeLine ∧ Nx (upd H4 D (.lst (acc ++ [y]))) else Nx H3) := by
  have fD : F1 D = none := W1.freeF hD
  have nil_of : ∀ {acc M}, jAcc src g jt je (jwipe ρ vs) Ψ [] acc M → okS src M ∧ Ψ acc M := by
    intro acc M h
    cases src with
    | fixed xs => exact ⟨trivial, h⟩
    | cell p ys => exact h
    | dkeys p od ks kvs => exact h
  have cons_of : ∀ {x xs acc M}, jAcc src g jt je (jwipe ρ vs) Ψ (x :: xs) acc M → okS src M ∧ g x (jwipe ρ vs) M fun ρ1 M1 => jt ρ1 M1 fun b M2 => match b with
      | true => je ρ1 M2 fun y M3 => jAcc src g jt je (jwipe ρ vs) Ψ xs (acc ++ [y]) M3
      | false => jAcc src g jt je (jwipe ρ vs) Ψ xs acc M2 := by
    intro x xs acc M h
    cases src with
    | fixed xs => exact ⟨trivial, h⟩
    | cell p ys => exact h
    | dkeys p od ks kvs => exact h
  refine ⟨fun i m H' => m = src.items.length - i ∧ i ≤ src.items.length ∧ ∃ F' M' acc accV, Le F1 F' ∧ Wd K M' H' F' ∧ F' D = some (.frz hidO (.lst accV)) ∧ VDs K F' accV acc ∧ acc.length ≤ i ∧ jAcc src g jt je (jwipe ρ vs) Ψ (src.items.drop i) acc M',
    ⟨_, rfl, Nat.zero_le _, _, M1, [], [], Le.upd fD, W1.hide hD [], upd_same, .nil, Nat.le_refl _, h⟩, ?_⟩
  rintro i m H2 ⟨rfl, hi, F2, M2, acc, accV, e2, W2, hF2, ra, hacc, h2⟩
  by_cases hlt : i < src.items.length
  · have hx : src.items[i]? = some src.items[i] := by simp [hlt]
    rw [List.drop_eq_getElem_cons hlt] at h2
    obtain ⟨ok2, h2⟩ := cons_of h2
    obtain ⟨g1, g2⟩ := wk.go i H2 F2 M2 _ e2 W2 ok2 hx
    refine .inr ⟨g1, fun H' => ∃ F' M' acc accV, Le F1 F' ∧ Wd K M' H' F' ∧ F' D = some (.frz hidO (.lst accV)) ∧ VDs K F' accV acc ∧ acc.length ≤ i + 1 ∧ jAcc src g jt je (jwipe ρ vs) Ψ (src.items.drop (i + 1)) acc M', fun H' q => ⟨_, by omega, rfl, hlt, q⟩, fun v H' y => ?_⟩
    obtain ⟨F3, e3, W3, r3⟩ := g2 v H' y
    refine ⟨F3, _, M2, _, _, W3, sv_wipe (S.mono (e2.trans e3)) vs, r3, h2, fun σ4 H4 F4 ρ4 M4 e4 W4 S4 w4 h4 => ⟨?_, ?_⟩⟩
    · have q : ∀ ws : List Nat, (∀ i ∈ ws, i ∈ vs) → wipe (wipe σ vs) ws = wipe σ vs := by
        intro ws
        induction ws with
        | nil => intro _; rfl
        | cons a ws ih =>
          intro hs
          show (wipe (wipe σ vs) ws).set a none = wipe σ vs
          rw [ih fun i hi => hs i (List.mem_cons_of_mem _ hi)]
          have ha := hs a List.mem_cons_self
          have z : ∀ us : List Nat, a ∈ us → (wipe σ us).set a none = wipe σ us := by
            intro us
            induction us with
            | nil => intro hm; cases hm
            | cons b us ihu =>
              intro hm
              show ((wipe σ us).set b none).set a none = (wipe σ us).set b none
              by_cases eb : b = a
              · subst eb; rw [List.set_set]
              · have hm' : a ∈ us := by
                  rcases List.mem_cons.mp hm with q | q
                  · exact (eb q.symm).elim
                  · exact q
                rw [List.set_comm _ _ eb, ihu hm']
          exact z vs ha
      rw [w4]
      exact q vs fun i hi => hi
    · refine rdT.at W4 S4 h4 fun b H5 F5 M5 e5 W5 h5 => ?_
      have le5 : Le F2 F5 := e3.trans (e4.trans e5)
      cases b with
      | true =>
        rw [if_pos rfl]
        refine rdE.at W5 (S4.mono e5) h5 fun y H6 F6 yx M6 e6 W6 r6 h6 => ?_
        have hD6 : F6 D = some (.frz hidO (.lst accV)) := e6 _ _ (le5 _ _ hF2)
        have hl : accV.length = acc.length := Paired.length ra
        refine ⟨accV, W6.sub _ _ hD6, by omega, _, M6, acc ++ [yx], accV ++ [y], ?_, W6.rehide hD6 _, upd_same, ?_, by simp; omega, h6⟩
        · intro a o q
          have na : a ≠ D := by rintro rfl; rw [fD] at q; cases q
          rw [upd_ne na]
          exact e6 _ _ (le5 _ _ (e2 _ _ q))
        · exact (VDs.hid (hid_upd hD6) (VDs.mono (le5.trans e6) ra)).snoc (r6.hid (hid_upd hD6))
      | false =>
        rw [if_neg Bool.false_ne_true]
        exact ⟨F5, M5, acc, accV, e2.trans le5, W5, le5 _ _ hF2, VDs.mono le5 ra, by omega, h5⟩
  · have e : src.items.drop i = [] := List.drop_eq_nil_of_le (by omega)
    rw [e] at h2
    obtain ⟨ok2, h2⟩ := nil_of h2
    exact .inl ⟨wk.stop i H2 F2 M2 e2 W2 ok2 (by omega), hQ H2 F2 M2 acc accV e2 W2 hF2 ra h2⟩
section
variable {X : Cx} {elt tg iter : Expr} {ifs : List Expr} {scope : Scope} {own : List (Str × Nat)} {pos : Pos} {ji : JTI} {g : JTG} {jt : JTT} {je : JTE}
theorem fz_show {K : PySem.W.Frag} {H : Hp} {xs : List EV} {M M' : Mem} {F : Hp} {vs : List V} {ds : List PyData} {D : Addr} (W : Wd K M H F) (r : VDs K F vs xs) (hD : F D = some (.frz hidO (.lst vs))) (h : fzs xs M = some (ds, M')) (F0 : Hp) (e : Le F0 F) (f0 : F0 D = none) :
    ∃ F', Le F0 F' ∧ Wd K M' H F' ∧ Dq K F' (.ref D) (.list ds) := by
  obtain ⟨F2, l2, W2, q2⟩ := fzs_ok W r h
  have hD2 := l2 _ _ hD
  refine ⟨upd F2 D (.lst vs), fun a o q => ?_, W2.show hD2, .lst upd_same (q2.hid (hid_upd hD2))⟩
  have na : a ≠ D := by rintro rfl; rw [f0] at q; cases q
  rw [upd_ne na]
  exact l2 _ _ (e _ _ q)
theorem je_lc (hc : X.calm = true) (hN : X.N.Nodup) (hi : JI X tg iter ji) (ok : BlkOk X.N X.env.scope scope own)
    (hg : ∀ (s : Shared) (H : Hp) (C : Addr) (cl : List (Str × Addr)) (fp : List Addr), JGw (X.blk s H scope (compEnvC scope cl C X.env) fp) (own.map (·.2)) tg g)
    (ht : ∀ (s : Shared) (H : Hp) (C : Addr) (cl : List (Str × Addr)) (fp : List Addr), JTs (X.blk s H scope (compEnvC scope cl C X.env) fp) ifs jt)
    (he : ∀ (s : Shared) (H : Hp) (C : Addr) (cl : List (Str × Addr)) (fp : List Addr), JE (X.blk s H scope (compEnvC scope cl C X.env) fp) elt je) (hs : ∀ x, foldedSetIterable iter X.env x = pure x := by intro _; rfl) :
    JE X (.ListComp elt [⟨tg, iter, ifs, 0⟩] scope pos) (jLc ji g jt je (own.map (·.2))) := (pe_lc hc hN hi ok hg ht he hs).imp fun σ H Q ⟨F, ρ, M, Φ, W, S, h, l⟩ =>
  ⟨F, ρ, M, _, W, S, h, fun src M1 F1 H1 It e1 W1 h1 ok1 wk D hD => by
    obtain ⟨hl, h1⟩ := h1
    have h1 : jAcc src g jt je (jwipe ρ (own.map (·.2))) (fun acc M2 => match fzs acc M2 with
      | some (ds, M3) => Φ (.d (.list ds)) M3
      | none => False) src.items [] M1 := by cases src <;> exact h1
    refine lc_run W1 (S.mono e1) wk h1 hD hl.line fun H2 F2 M2 acc accV e2 W2 hF2 ra h2 => ?_
    split at h2
    · rename_i ds M3 e3
      obtain ⟨F4, l4, W4, q4⟩ := fz_show W2 ra hF2 e3 F1 e2 (W1.freeF hD)
      exact l (.ref D) H2 F4 (.d (.list ds)) M3 (e1.trans l4) W4 q4 h2
    · exact h2.elim⟩
theorem js_setLc {E : XK} {i : Nat} {y : Str} {py spos : Pos} (hc : X.calm = true) (hN : X.N.Nodup) (hy : X.N[i]? = some y) (hyl : X.env.scope.names.lookup y = some .local)
    (hsw : swapsWith (.ListComp elt [⟨tg, iter, ifs, 0⟩] scope pos) (some (.Name y py)) spos.line X.env = pure true) (hi : JI X tg iter ji) (ok : BlkOk X.N X.env.scope scope own)
    (hg : ∀ (s : Shared) (H : Hp) (C : Addr) (cl : List (Str × Addr)) (fp : List Addr), JGw (X.blk s H scope (compEnvC scope cl C X.env) fp) (own.map (·.2)) tg g)
    (ht : ∀ (s : Shared) (H : Hp) (C : Addr) (cl : List (Str × Addr)) (fp : List Addr), JTs (X.blk s H scope (compEnvC scope cl C X.env) fp) ifs jt)
    (he : ∀ (s : Shared) (H : Hp) (C : Addr) (cl : List (Str × Addr)) (fp : List Addr), JE (X.blk s H scope (compEnvC scope cl C X.env) fp) elt je) (hs : ∀ x, foldedSetIterable iter X.env x = pure x := by intro _; rfl) :
    JS X E (.Assign [.Name y py] (.ListComp elt [⟨tg, iter, ifs, 0⟩] scope pos) spos) (jAsg (jLc ji g jt je (own.map (·.2))) (jName i)) := (ps_setLc hc hN hy hyl hsw hi ok hg ht he hs).imp fun D σ H ⟨F, ρ, M, J, W, S, h, l⟩ =>
  ⟨F, ρ, M, _, W, S, h, fun src M1 F1 H1 It e1 W1 h1 ok1 wk D' hD => by
    obtain ⟨hl, h1⟩ := h1
    have h1 : jAcc src g jt je (jwipe ρ (own.map (·.2))) (fun acc M2 => match fzs acc M2 with
      | some (ds, M3) => J.nx (ρ.set i (some (.d (.list ds)))) M3
      | none => False) src.items [] M1 := by cases src <;> exact h1
    refine lc_run W1 (S.mono e1) wk h1 hD hl.line fun H2 F2 M2 acc accV e2 W2 hF2 ra h2 => ?_
    split at h2
    · rename_i ds M3 e3
      obtain ⟨F4, l4, W4, q4⟩ := fz_show W2 ra hF2 e3 F1 e2 (W1.freeF hD)
      exact l.nx _ H2 F4 _ M3 (e1.trans l4) W4 ((S.mono (e1.trans l4)).set (show VD X.K F4 (.ref D') (.d (.list ds)) from q4) i) h2
    · exact h2.elim⟩
/-- as cells -/
theorem uncov {K : PySem.W.Frag} {H : Hp} {xs : List EV} {M : Mem} {F : Hp} {vs : List V} {D : Addr} (W : Wd K M H F) (r : VDs K F vs xs) (hD : F D = some (.frz hidO (.lst vs))) (F0 : Hp) (e : Le F0 F) (f0 : F0 D = none) :
    Le F0 (cut1 F D) ∧ Wd K (M.set D (.lst xs)) H (cut1 F D) ∧ M D = none := by
  refine ⟨fun a o q => ?_, W.uncover hD fun H' e' => ⟨vs, e', VDs.hid (hid_cut hD) r⟩, ?_⟩
  · have na : a ≠ D := by rintro rfl; rw [f0] at q; cases q
    rw [cut1_ne na]; exact e _ _ q
  · cases q : M D with
    | none => rfl
    | some m => rw [(W.mem D m q).1] at hD; cases hD
theorem je_lcC (hc : X.calm = true) (hN : X.N.Nodup) (hi : JI X tg iter ji) (ok : BlkOk X.N X.env.scope scope own)
    (hg : ∀ (s : Shared) (H : Hp) (C : Addr) (cl : List (Str × Addr)) (fp : List Addr), JGw (X.blk s H scope (compEnvC scope cl C X.env) fp) (own.map (·.2)) tg g)
    (ht : ∀ (s : Shared) (H : Hp) (C : Addr) (cl : List (Str × Addr)) (fp : List Addr), JTs (X.blk s H scope (compEnvC scope cl C X.env) fp) ifs jt)
    (he : ∀ (s : Shared) (H : Hp) (C : Addr) (cl : List (Str × Addr)) (fp : List Addr), JE (X.blk s H scope (compEnvC scope cl C X.env) fp) elt je) (hs : ∀ x, foldedSetIterable iter X.env x = pure x := by intro _; rfl) :
    JE X (.ListComp elt [⟨tg, iter, ifs, 0⟩] scope pos) (jLcC ji g jt je (own.map (·.2))) := (pe_lc hc hN hi ok hg ht he hs).imp fun σ H Q ⟨F, ρ, M, Φ, W, S, h, l⟩ =>
  ⟨F, ρ, M, _, W, S, h, fun src M1 F1 H1 It e1 W1 h1 ok1 wk D hD => by
    obtain ⟨hl, h1⟩ := h1
    have h1 : jAcc src g jt je (jwipe ρ (own.map (·.2))) (fun acc M2 => ∀ p, M2 p = none → Φ (.v (.ref p)) (M2.set p (.lst acc))) src.items [] M1 := by cases src <;> exact h1
    refine lc_run W1 (S.mono e1) wk h1 hD hl.line fun H2 F2 M2 acc accV e2 W2 hF2 ra h2 => ?_
    obtain ⟨q1, q2, q3⟩ := uncov W2 ra hF2 F1 e2 (W1.freeF hD)
    exact l (.ref D) H2 _ (.v (.ref D)) _ (e1.trans q1) q2 rfl (h2 D q3)⟩
theorem js_setLcC {E : XK} {i : Nat} {y : Str} {py spos : Pos} (hc : X.calm = true) (hN : X.N.Nodup) (hy : X.N[i]? = some y) (hyl : X.env.scope.names.lookup y = some .local)
    (hsw : swapsWith (.ListComp elt [⟨tg, iter, ifs, 0⟩] scope pos) (some (.Name y py)) spos.line X.env = pure true) (hi : JI X tg iter ji) (ok : BlkOk X.N X.env.scope scope own)
    (hg : ∀ (s : Shared) (H : Hp) (C : Addr) (cl : List (Str × Addr)) (fp : List Addr), JGw (X.blk s H scope (compEnvC scope cl C X.env) fp) (own.map (·.2)) tg g)
    (ht : ∀ (s : Shared) (H : Hp) (C : Addr) (cl : List (Str × Addr)) (fp : List Addr), JTs (X.blk s H scope (compEnvC scope cl C X.env) fp) ifs jt)
    (he : ∀ (s : Shared) (H : Hp) (C : Addr) (cl : List (Str × Addr)) (fp : List Addr), JE (X.blk s H scope (compEnvC scope cl C X.env) fp) elt je) (hs : ∀ x, foldedSetIterable iter X.env x = pure x := by intro _; rfl) :
    JS X E (.Assign [.Name y py] (.ListComp elt [⟨tg, iter, ifs, 0⟩] scope pos) spos) (jAsg (jLcC ji g jt je (own.map (·.2))) (jName i)) := (ps_setLc hc hN hy hyl hsw hi ok hg ht he hs).imp fun D σ H ⟨F, ρ, M, J, W, S, h, l⟩ =>
  ⟨F, ρ, M, _, W, S, h, fun src M1 F1 H1 It e1 W1 h1 ok1 wk D' hD => by
    obtain ⟨hl, h1⟩ := h1
    have h1 : jAcc src g jt je (jwipe ρ (own.map (·.2))) (fun acc M2 => ∀ p, M2 p = none → J.nx (ρ.set i (some (.v (.ref p)))) (M2.set p (.lst acc))) src.items [] M1 := by cases src <;> exact h1
    refine lc_run W1 (S.mono e1) wk h1 hD hl.line fun H2 F2 M2 acc accV e2 W2 hF2 ra h2 => ?_
    obtain ⟨q1, q2, q3⟩ := uncov W2 ra hF2 F1 e2 (W1.freeF hD)
    exact l.nx _ H2 _ _ _ (e1.trans q1) q2 ((S.mono (e1.trans q1)).set (show VD X.K _ (.ref D') (.v (.ref D')) from rfl) i) (h2 D' q3)⟩
end
end Td

/-! TdJ5: list and tuple operators, methods, dicts. -/
namespace Td
open PySem PySem.Spec PyProof.Rows L2

/-! ### lists, tuples: + * -/
def jrCat : JR2 := fun x y M Φ => match rdL M x, rdL M y with
  | some xs, some ys => match allD (xs ++ ys) with
    | some ds => lenOk (xs ++ ys).length ∧ Φ (.d (.list ds)) M
    | none => False
  | _, _ => False
def jrCatT : JR2 := fun x y M Φ => match x, y with
  | .d (.tuple ds), .d (.tuple es) => lenOk (ds ++ es).length ∧ Φ (.d (.tuple (ds ++ es))) M
  | _, _ => False
def jrRep : JR2 := fun x y M Φ => match rdLD M x, y with
  | some ds, .d (.int k) => (0 ≤ k ∧ k ≤ 1000 ∧ ds.length ≤ 1000) ∧ Φ (.d (.list (List.replicate k.toNat ds).flatten)) M
  | _, _ => False
theorem DqAll.rep {K : PySem.W.Frag} {F : Hp} {vs : List V} {ds : List PyData} (h : DqAll K F vs ds) : ∀ k : Nat, DqAll K F (List.replicate k vs).flatten (List.replicate k ds).flatten
  | 0 => .nil
  | k + 1 => by
    rw [List.replicate_succ, List.replicate_succ, List.flatten_cons, List.flatten_cons]
    exact h.append (DqAll.rep h k)
section
variable {X : Cx}
theorem oj_cat : OpJ X (binaryOp .Add) jrCat := ⟨_, op_cat, fun F M H x y A B Φ Q W rx ry q l => by
  unfold jrCat at q
  split at q
  · rename_i xs ys e1 e2
    split at q
    · rename_i ds e3
      obtain ⟨a, vs, rfl, h1, h2⟩ := rdL_ok W rx e1
      obtain ⟨b, ws, rfl, h3, h4⟩ := rdL_ok W ry e2
      have h5 := h2.append h4
      refine ⟨a, b, vs, ws, rfl, rfl, h1, h3, ?_, fun p hp => ?_⟩
      · rw [Paired.length h2, Paired.length h4, ← List.length_append]; exact q.1.line
      · rw [allD_map e3] at h5
        exact l _ _ _ (.d (.list ds)) M (W.le hp _) (W.lay hp _) (Dq.lst upd_same ((DqAll.of h5).mono (W.le hp _))) q.2
    · exact q.elim
  · exact q.elim⟩
theorem oj_catT : OpJ X (binaryOp .Add) jrCatT := ⟨_, op_catA, fun F M H x y A B Φ Q W rx ry q l => by
  unfold jrCatT at q
  split at q
  · rename_i ds es
    obtain ⟨a, vs, rfl, h1, h2⟩ := Dq.tuple rx
    obtain ⟨b, ws, rfl, h3, h4⟩ := Dq.tuple ry
    refine ⟨a, b, vs, ws, rfl, rfl, W.sub.sqT h1, W.sub.sqT h3, ?_, fun e => ?_, fun _ e => ?_, fun _ _ p hp => ?_⟩
    · rw [h2.length, h4.length, ← List.length_append]; exact q.1.line
    · subst e
      cases h2
      exact l _ _ F (.d (.tuple es)) M (Le.refl F) W ry q.2
    · subst e
      cases h4
      refine l _ _ F (.d (.tuple (ds ++ []))) M (Le.refl F) W ?_ q.2
      rw [List.append_nil]; exact rx
    · exact l _ _ _ (.d (.tuple (ds ++ es))) M (W.le hp _) (W.lay hp _) (Dq.tup upd_same ((h2.append h4).mono (W.le hp _))) q.2
  · exact q.elim⟩
theorem oj_rep : OpJ X (binaryOp .Mult) jrRep := ⟨_, op_rep, fun F M H x y A B Φ Q W rx ry q l => by
  unfold jrRep at q
  split at q
  · rename_i ds k e1
    obtain ⟨a, vs, rfl, h1, h2⟩ := rdLD_ok W rx e1
    cases ry
    obtain ⟨⟨k0, k1, k2⟩, q⟩ := q
    refine ⟨a, k, vs, rfl, rfl, h1, by omega, by omega, ?_, fun p hp => ?_⟩
    · rw [h2.length]
      have : ds.length * k.toNat ≤ 1000 * 1000 := Nat.mul_le_mul k2 (by omega)
      exact Nat.le_trans this (by decide)
    · exact l _ _ _ (.d (.list _)) M (W.le hp _) (W.lay hp _) (Dq.lst upd_same ((h2.rep k.toNat).mono (W.le hp _))) q
  · exact q.elim⟩
end

/-! ### methods of lists -/
abbrev JRM := EV → List EV → Mem → JK → Prop
def MtJ (X : Cx) (T id : String) (rj : JRM) : Prop := ∃ r, MtR X id r ∧ ∀ F M H v vs x xs Φ Q, Wd X.K M H F → VD X.K F v x → VDs X.K F vs xs → rj x xs M Φ → LE X.K F Φ Q → tyV X.K T v H ∧ r v vs H Q
def jBM0 (T : EV → Mem → Prop) (rj : JRM) (jo : JTE) : JTE := fun ρ M Φ => jo ρ M fun x M1 => T x M1 ∧ rj x [] M1 Φ
def jBM (T : EV → Mem → Prop) (rj : JRM) (jo : JTE) (ja : JTA) : JTE := fun ρ M Φ => jo ρ M fun x M1 => T x M1 ∧ ja ρ M1 fun xs M2 => rj x xs M2 Φ
/-- it is a list -/
def isLst (x : EV) (M : Mem) : Prop := match rdL M x with
  | some _ => True
  | none => False
theorem isLst_ty {K : PySem.W.Frag} {M : Mem} {H F : Hp} {x : EV} {v : V} (W : Wd K M H F) (r : VD K F v x) (h : isLst x M) : tyV K "list" v H := by
  unfold isLst at h
  split at h
  · rename_i ys e
    obtain ⟨a, vs, rfl, h1, h2⟩ := rdL_ok W r e
    exact .inl ⟨rfl, vs, SqL.of h1⟩
  · exact h.elim
section
variable {X : Cx} {o e : Expr} {es : List Expr} {jo : JTE} {ja : JTA} {name : Str} {apos cpos : Pos} {id : String} {rj : JRM}
def MtL (X : Cx) (id : String) (rj : JRM) : Prop := ∃ r, MtR X id r ∧ ∀ F M H v vs x xs Φ Q, Wd X.K M H F → VD X.K F v x → VDs X.K F vs xs → rj x xs M Φ → LE X.K F Φ Q → r v vs H Q
theorem je_lm0 (slot : Slot "list" name id) (hty : typeOf (.builtin id) = pure (.type "method_descriptor")) (hm : MtL X id rj) (ho : JE X o jo)
    (hbase : attributeBase o name X.env (eval o X.env) = eval o X.env := by rfl) (hline : (apos.endLine == cpos.line) = true := by rfl) : JE X (.Call (.Attribute o name apos) [] [] cpos) (jBM0 isLst rj jo) :=
  let ⟨_, h1, h2⟩ := hm
  (pe_bm0 PySem.F.plainAttrs_list slot hty h1 ho hbase hline).imp fun σ H Q ⟨F, ρ, M, Φ, W, S, h, l⟩ =>
    rdE.at W S h fun v H1 F1 x M1 e1 W1 r1 q1 => ⟨isLst_ty W1 r1 q1.1, h2 F1 M1 H1 v [] x [] Φ Q W1 r1 .nil q1.2 (l.mono e1)⟩
theorem je_lm (slot : Slot "list" name id) (hty : typeOf (.builtin id) = pure (.type "method_descriptor")) (hm : MtL X id rj) (ho : JE X o jo) (ha : JA X (e :: es) ja)
    (hbase : attributeBase o name X.env (eval o X.env) = eval o X.env := by rfl)
    (hfew : ((backTo cpos (starEach (e :: es) X.env)).all (fun x => !x.1) && (backToKw cpos (keywordEach [] X.env)).all (fun x => x.1.isSome)
      && decide ((e :: es).length + ([] : List Keyword).length + (if ([] : List Keyword).isEmpty then 0 else 1) < 30)) = true := by rfl)
    (hline : (apos.endLine == cpos.line) = true := by rfl) (hs : starEach (e :: es) X.env = (false, eval e X.env) :: starEach es X.env := by rfl) (hplain : (backTo cpos (starEach es X.env)).any (·.1) = false := by rfl) :
    JE X (.Call (.Attribute o name apos) (e :: es) [] cpos) (jBM isLst rj jo ja) :=
  let ⟨_, h1, h2⟩ := hm
  (pe_bm PySem.F.plainAttrs_list slot hty h1 ho ha hbase hfew hline hs hplain).imp fun σ H Q ⟨F, ρ, M, Φ, W, S, h, l⟩ =>
    rdE.at W S h fun v H1 F1 x M1 e1 W1 r1 q1 => ⟨isLst_ty W1 r1 q1.1, rdA.at W1 (S.mono e1) q1.2 fun vs H2 F2 xs M2 e2 W2 r2 q2 => h2 F2 M2 H2 v vs x xs Φ Q W2 (r1.mono e2) r2 q2 (l.mono (e1.trans e2))⟩
/-- a list cell -/
def cellL (M : Mem) : EV → Option (Addr × List EV)
  | .v (.ref p) => match M p with
    | some (.lst xs) => some (p, xs)
    | _ => none
  | _ => none
theorem cellL_ok {K : PySem.W.Frag} {M : Mem} {H F : Hp} {x : EV} {v : V} {p : Addr} {xs : List EV} (W : Wd K M H F) (r : VD K F v x) (h : cellL M x = some (p, xs)) : v = .ref p ∧ M p = some (.lst xs) ∧ ∃ vs, H p = some (.lst vs) ∧ VDs K F vs xs := by
  unfold cellL at h
  split at h
  · rename_i q
    split at h
    · rename_i ys e
      cases h
      obtain ⟨_, vs, h1, h2⟩ := W.mem _ _ e
      exact ⟨r, e, vs, h1, h2⟩
    · cases h
  · cases h
def jrAppend : JRM := fun x ys M Φ => match cellL M x, ys with
  | some (p, xs), [y] => lenOk (xs.length + 1) ∧ Φ (.d .none) (M.set p (.lst (xs ++ [y])))
  | _, _ => False
theorem mj_append : MtL X "list.append" jrAppend := ⟨_, mt_append, fun F M H v vs x xs Φ Q W r rs q l => by
  unfold jrAppend at q
  split at q
  · rename_i p ys y e
    obtain ⟨rfl, hM, ws, h1, h2⟩ := cellL_ok W r e
    cases rs with
    | cons r1 t =>
      cases t
      refine ⟨p, ws, _, rfl, rfl, h1, ?_, ?_⟩
      · rw [Paired.length h2]; exact Nat.lt_of_lt_of_le (Nat.lt_succ_self _) q.1.line
      · exact l .non _ F (.d .none) _ (Le.refl F) (W.write (m := .lst _) hM fun H' e' => ⟨_, e', h2.snoc r1⟩) VD.non q.2
  · exact q.elim⟩
def jrExtend : JRM := fun x ys M Φ => match cellL M x, ys with
  | some (p, xs), [y] => match rdL M y with
    | some zs => lenOk (xs ++ zs).length ∧ Φ (.d .none) (M.set p (.lst (xs ++ zs)))
    | none => False
  | _, _ => False
theorem mj_extend : MtL X "list.extend" jrExtend := ⟨_, mt_extend, fun F M H v vs x xs Φ Q W r rs q l => by
  unfold jrExtend at q
  split at q
  · rename_i p ys y e
    split at q
    · rename_i zs e2
      obtain ⟨rfl, hM, ws, h1, h2⟩ := cellL_ok W r e
      cases rs with
      | cons r1 t =>
        cases t
        obtain ⟨b, us, rfl, h3, h4⟩ := rdL_ok W r1 e2
        refine ⟨p, b, ws, us, rfl, rfl, h1, h3, ?_, ?_⟩
        · rw [Paired.length h2, Paired.length h4, ← List.length_append]; exact q.1.line
        · exact l .non _ F (.d .none) _ (Le.refl F) (W.write (m := .lst _) hM fun H' e' => ⟨_, e', h2.append h4⟩) VD.non q.2
    · exact q.elim
  · exact q.elim⟩
def jrInsert : JRM := fun x ys M Φ => match cellL M x, ys with
  | some (p, xs), [.d (.int i), y] => (lenOk (xs.length + 1) ∧ 0 ≤ i ∧ i < 2 ^ 63) ∧ Φ (.d .none) (M.set p (.lst (xs.take i.toNat ++ [y] ++ xs.drop i.toNat)))
  | _, _ => False
theorem mj_insert : MtL X "list.insert" jrInsert := ⟨_, mt_insert, fun F M H v vs x xs Φ Q W r rs q l => by
  unfold jrInsert at q
  split at q
  · rename_i p ys i y e
    obtain ⟨rfl, hM, ws, h1, h2⟩ := cellL_ok W r e
    cases rs with
    | cons r1 t =>
      cases t with
      | cons r2 t =>
        cases t; cases r1
        refine ⟨p, ws, i, _, rfl, rfl, h1, ?_, q.1.2.1, q.1.2.2, ?_⟩
        · rw [Paired.length h2]; exact Nat.lt_of_lt_of_le (Nat.lt_succ_self _) q.1.1.line
        · exact l .non _ F (.d .none) _ (Le.refl F) (W.write (m := .lst _) hM fun H' e' => ⟨_, e', ((h2.take _).append (.cons r2 .nil)).append (h2.drop _)⟩) VD.non q.2
  · exact q.elim⟩
def jrPop : JRM := fun x ys M Φ => match cellL M x, ys with
  | some (p, xs), [] => match xs[xs.length - 1]? with
    | some y => Φ y (M.set p (.lst xs.dropLast))
    | none => False
  | _, _ => False
theorem VDs.dropLast {K : PySem.W.Frag} {F : Hp} {vs : List V} {xs : List EV} (h : VDs K F vs xs) : VDs K F vs.dropLast xs.dropLast := by
  rw [List.dropLast_eq_take, List.dropLast_eq_take, Paired.length h]
  exact h.take _
theorem mj_pop : MtL X "list.pop" jrPop := ⟨_, mt_pop, fun F M H v vs x xs Φ Q W r rs q l => by
  unfold jrPop at q
  split at q
  · rename_i p ys e
    split at q
    · rename_i y ey
      obtain ⟨rfl, hM, ws, h1, h2⟩ := cellL_ok W r e
      cases rs
      obtain ⟨u, hu, ru⟩ := h2.get ey
      refine ⟨p, ws, u, rfl, rfl, h1, by rw [Paired.length h2]; exact hu, ?_⟩
      exact l u _ F y _ (Le.refl F) (W.write (m := .lst _) hM fun H' e' => ⟨_, e', h2.dropLast⟩) ru q
    · exact q.elim
  · exact q.elim⟩
def jrPopAt : JRM := fun x ys M Φ => match cellL M x, ys with
  | some (p, xs), [.d (.int i)] => (0 ≤ i ∧ i < 2 ^ 63) ∧ match xs[i.toNat]? with
    | some y => Φ y (M.set p (.lst (xs.eraseIdx i.toNat)))
    | none => False
  | _, _ => False
theorem seqIndex_nat {n : Nat} {i : Int} (h0 : 0 ≤ i) (h : i.toNat < n) : seqIndex? i n = some i.toNat := by
  have q : ixN n i = some i.toNat := by
    unfold ixN
    rw [if_pos h0, if_pos (by omega)]
  exact (ixN_seq q).1
theorem mj_popAt : MtL X "list.pop" jrPopAt := ⟨_, mt_popAt, fun F M H v vs x xs Φ Q W r rs q l => by
  unfold jrPopAt at q
  split at q
  · rename_i p ys i e
    obtain ⟨⟨q0, q1⟩, q⟩ := q
    split at q
    · rename_i y ey
      obtain ⟨rfl, hM, ws, h1, h2⟩ := cellL_ok W r e
      cases rs with
      | cons r1 t =>
        cases t; cases r1
        obtain ⟨u, hu, ru⟩ := h2.get ey
        have hl : i.toNat < ws.length := (List.getElem?_eq_some_iff.mp hu).1
        refine ⟨p, ws, i, i.toNat, u, rfl, rfl, h1, by omega, q1, seqIndex_nat q0 hl, hu, ?_⟩
        exact l u _ F y _ (Le.refl F) (W.write (m := .lst _) hM fun H' e' => ⟨_, e', h2.erase _⟩) ru q
    · exact q.elim
  · exact q.elim⟩
end

/-! ### dicts -/
section
variable {κ : Type} [DecidableEq κ]
def valE (kvs : List (κ × EV)) (k : κ) : Option EV := (kvs.find? fun kv => decide (kv.1 = k)).map (·.2)
def putE (kvs : List (κ × EV)) (k : κ) (v : EV) : List (κ × EV) :=
  if (kvs.any fun kv => decide (kv.1 = k)) = true then kvs.map fun kv => if kv.1 = k then (kv.1, v) else kv else kvs ++ [(k, v)]
theorem valV_cons {p : κ × V} {r : List (κ × V)} {k : κ} : valV (p :: r) k = if p.1 = k then some p.2 else valV r k := by
  by_cases h : p.1 = k
  · rw [valV_pos h, if_pos h]
  · rw [valV_neg h, if_neg h]
theorem valE_cons {p : κ × EV} {r : List (κ × EV)} {k : κ} : valE (p :: r) k = if p.1 = k then some p.2 else valE r k := by
  by_cases h : p.1 = k
  · simp [valE, List.find?_cons, h]
  · simp [valE, List.find?_cons, h]
theorem KVD.val {K : PySem.W.Frag} {F : Hp} : ∀ {ks : List (κ × V)} {kvs : List (κ × EV)} (_ : KVD K F ks kvs) (k : κ), (∀ x, valE kvs k = some x → ∃ v, valV ks k = some v ∧ VD K F v x) ∧ (valE kvs k = none → valV ks k = none)
  | _, _, .nil, k => ⟨fun x h => (by cases h), fun _ => rfl⟩
  | _, _, .cons (a := p) (b := q) r t, k => by
    obtain ⟨h1, h2⟩ := KVD.val t k
    rw [valV_cons, valE_cons, r.1]
    by_cases e : q.1 = k
    · rw [if_pos e, if_pos e]
      exact ⟨fun x h => ⟨_, rfl, by cases h; exact r.2⟩, fun h => (by cases h)⟩
    · rw [if_neg e, if_neg e]
      exact ⟨h1, h2⟩
theorem KVD.isSome {K : PySem.W.Frag} {F : Hp} {ks : List (κ × V)} {kvs : List (κ × EV)} (h : KVD K F ks kvs) (k : κ) : (valV ks k).isSome = (valE kvs k).isSome := by
  obtain ⟨h1, h2⟩ := KVD.val h k
  cases e : valE kvs k with
  | none => rw [h2 e]; rfl
  | some x => obtain ⟨v, q, _⟩ := h1 x e; rw [q]; rfl
theorem KVD.any {K : PySem.W.Frag} {F : Hp} (k : κ) : ∀ {ks : List (κ × V)} {kvs : List (κ × EV)}, KVD K F ks kvs → (ks.any fun kv => decide (kv.1 = k)) = kvs.any fun kv => decide (kv.1 = k)
  | _, _, .nil => rfl
  | _, _, .cons r t => by rw [List.any_cons, List.any_cons, KVD.any k t, r.1]
theorem KVD.put {K : PySem.W.Frag} {F : Hp} {ks : List (κ × V)} {kvs : List (κ × EV)} (h : KVD K F ks kvs) (k : κ) {v : V} {x : EV} (r : VD K F v x) : KVD K F (putK ks k v) (putE kvs k x) := by
  unfold putK putE
  rw [KVD.any k h]
  by_cases e : (kvs.any fun kv => decide (kv.1 = k)) = true
  · rw [if_pos e, if_pos e]
    clear e
    induction h with
    | nil => exact .nil
    | cons q t ih =>
      rw [List.map_cons, List.map_cons]
      refine .cons ?_ ih
      rw [q.1]
      split
      · exact ⟨rfl, r⟩
      · exact q
  · rw [if_neg e, if_neg e]
    exact Paired.snoc h ⟨rfl, r⟩
end
theorem KVD.length {κ : Type} {K : PySem.W.Frag} {F : Hp} {ks : List (κ × V)} {kvs : List (κ × EV)} (h : KVD K F ks kvs) : ks.length = kvs.length := Paired.length h
def keyD : PyData → Option Key
  | .int i => some (.inl i)
  | .str x => some (.inr x)
  | _ => none
def keysD : List PyData → Option (List Key)
  | [] => some []
  | d :: r => match keyD d, keysD r with
    | some k, some ks => some (k :: ks)
    | _, _ => none
theorem keyD_ok {K : PySem.W.Frag} {F : Hp} {v : V} {d : PyData} {k : Key} (r : Dq K F v d) (h : keyD d = some k) : v = kV k := by
  unfold keyD at h
  split at h
  · cases h; cases r; rfl
  · cases h; cases r; rfl
  · cases h
theorem keysD_ok {K : PySem.W.Frag} {F : Hp} : ∀ {vs : List V} {ds : List PyData} {ks : List Key}, DqAll K F vs ds → keysD ds = some ks → vs = ks.map kV
  | _, [], _, h, e => by cases h; cases e; rfl
  | _, d :: r, _, h, e => by
    cases h with
    | cons h t =>
      unfold keysD at e
      split at e
      · rename_i k ks e1 e2
        cases e
        rw [keyD_ok h e1, keysD_ok t e2]; rfl
      · cases e
/-- a tuple key's tuple is tracked: its texts and ints are not (0, 1) written in the module -/
def tupKeyD : PyData → Option (List Key)
  | .tuple ds => match keysD ds with
    | some (.inr s :: ks) => some (.inr s :: ks)
    | _ => none
  | _ => none
theorem tupKeyD_ok {K : PySem.W.Frag} {F : Hp} {v : V} {d : PyData} {ks : List Key} (r : Dq K F v d) (h : tupKeyD d = some ks) : ∃ b, v = .ref b ∧ F b = some (.tup (ks.map kV)) := by
  unfold tupKeyD at h
  split at h
  · rename_i ds
    split at h
    · rename_i s ks e
      cases h
      cases r with
      | tup h1 h2 => rw [keysD_ok h2 e] at h1; exact ⟨_, rfl, h1⟩
      | zero h1 => cases e
    · cases h
  · cases h
/-- what a dict holds at a key: none in the outer place where it is no dict or no key -/
def dGetE (M : Mem) (x : EV) (y : PyData) : Option (Option EV) := match x with
  | .v (.ref p) => match M p with
    | some (.dic kvs) => match keyD y with
      | some k => some (valE kvs k)
      | none => none
    | some (.fdic _ _ kvs) => match keyD y with
      | some k => some (valE kvs k)
      | none => none
    | some (.dicT kvs) => match tupKeyD y with
      | some k => some (valE kvs k)
      | none => none
    | _ => none
  | _ => none
theorem dGetE_ok {K : PySem.W.Frag} {M : Mem} {H F : Hp} {x : EV} {y : PyData} {v u : V} {o : Option EV} (W : Wd K M H F) (r : VD K F v x) (ry : Dq K F u y) (h : dGetE M x y = some o) :
    ∃ a w, v = .ref a ∧ DGet H a u w ∧ w.isSome = o.isSome ∧ ∀ z, o = some z → ∃ t, w = some t ∧ VD K F t z := by
  unfold dGetE at h
  split at h
  · rename_i p
    cases (show v = .ref p from r)
    split at h
    · rename_i kvs e
      split at h
      · rename_i k ek
        cases h
        obtain ⟨_, ks, h1, h2⟩ := W.mem _ _ e
        rw [keyD_ok ry ek]
        exact ⟨p, _, rfl, DGet.k h1, KVD.isSome h2 k, fun z hz => (KVD.val h2 k).1 z hz⟩
      · cases h
    · rename_i od ks kvs e
      split at h
      · rename_i k ek
        cases h
        obtain ⟨_, h1, h2⟩ := W.mem _ _ e
        rw [keyD_ok ry ek]
        exact ⟨p, _, rfl, .inl ⟨ks, k, .inr ⟨od, h1⟩, rfl, rfl⟩, KVD.isSome h2 k, fun z hz => (KVD.val h2 k).1 z hz⟩
      · cases h
    · rename_i kvs e
      split at h
      · rename_i k ek
        cases h
        obtain ⟨_, ks, h1, h2⟩ := W.mem _ _ e
        obtain ⟨b, rfl, h3⟩ := tupKeyD_ok ry ek
        exact ⟨p, _, rfl, DGet.t h1 (W.sub _ _ h3), KVD.isSome h2 k, fun z hz => (KVD.val h2 k).1 z hz⟩
      · cases h
    · cases h
  · cases h
def jDGet (jd jy : JTE) : JTE := fun ρ M Φ => jd ρ M fun x M1 => jy ρ M1 fun y M2 => match y with
  | .d y => match dGetE M2 x y with
    | some (some z) => Φ z M2
    | _ => False
  | _ => False
def jDIn (neg : Bool) (jy jd : JTE) : JTE := fun ρ M Φ => jy ρ M fun y M1 => jd ρ M1 fun x M2 => match y with
  | .d y => match dGetE M2 x y with
    | some o => Φ (.d (.bool (neg ^^ o.isSome))) M2
    | none => False
  | _ => False
/-- a dict with one more at a key -/
def dPutE (M : Mem) (x : EV) (y : PyData) (z : EV) : Option Mem := match x with
  | .v (.ref p) => match M p with
    | some (.dic kvs) => match keyD y with
      | some k => some (M.set p (.dic (putE kvs k z)))
      | none => none
    | some (.dicT kvs) => match tupKeyD y with
      | some k => some (M.set p (.dicT (putE kvs k z)))
      | none => none
    | _ => none
  | _ => none
def dLen (M : Mem) (x : EV) : Nat := match x with
  | .v (.ref p) => match M p with
    | some (.dic kvs) => kvs.length
    | some (.fdic _ _ kvs) => kvs.length
    | some (.dicT kvs) => kvs.length
    | _ => 0
  | _ => 0
theorem dPutE_ok {K : PySem.W.Frag} {M M' : Mem} {H F : Hp} {x z : EV} {y : PyData} {v u t : V} (W : Wd K M H F) (r : VD K F v x) (ry : Dq K F u y) (rz : VD K F t z) (h : dPutE M x y z = some M') (hl : lenOk (dLen M x + 1)) :
    ∃ a H', v = .ref a ∧ DPut H a u t H' ∧ Wd K M' H' F := by
  unfold dPutE at h
  split at h
  · rename_i p
    cases (show v = .ref p from r)
    split at h
    · rename_i kvs e
      split at h
      · rename_i k ek
        cases h
        obtain ⟨_, ks, h1, h2⟩ := W.mem _ _ e
        rw [keyD_ok ry ek]
        have hl' : ks.length < sizeLine := by
          rw [KVD.length h2]
          have z : dLen M (.v (.ref p)) = kvs.length := by unfold dLen; simp [e]
          rw [z] at hl
          exact Nat.lt_of_lt_of_le (Nat.lt_succ_self _) hl.line
        exact ⟨p, _, rfl, DPut.k h1 hl', W.write (m := .dic _) e fun H' e' => ⟨_, e', KVD.put h2 k rz⟩⟩
      · cases h
    · rename_i kvs e
      split at h
      · rename_i k ek
        cases h
        obtain ⟨_, ks, h1, h2⟩ := W.mem _ _ e
        obtain ⟨b, rfl, h3⟩ := tupKeyD_ok ry ek
        have hl' : ks.length < sizeLine := by
          rw [KVD.length h2]
          have z : dLen M (.v (.ref p)) = kvs.length := by unfold dLen; simp [e]
          rw [z] at hl
          exact Nat.lt_of_lt_of_le (Nat.lt_succ_self _) hl.line
        exact ⟨p, _, rfl, DPut.t h1 (W.sub _ _ h3) hl', W.write (m := .dicT _) e fun H' e' => ⟨_, e', KVD.put h2 k rz⟩⟩
      · cases h
    · cases h
  · cases h
def jDPut (jd jy jv : JTE) : JTS := fun J ρ M => jv ρ M fun z M1 => jd ρ M1 fun x M2 => jy ρ M2 fun y M3 => match y with
  | .d y => match dPutE M3 x y z with
    | some M4 => lenOk (dLen M3 x + 1) ∧ J.nx ρ M4
    | none => False
  | _ => False
def jDNew : JTE := fun _ M Φ => ∀ p, M p = none → Φ (.v (.ref p)) (M.set p (.dic []))
def jDNewT : JTE := fun _ M Φ => ∀ p, M p = none → Φ (.v (.ref p)) (M.set p (.dicT []))
/-- d.get(k, x), k a text or an int -/
def isDic (x : EV) (M : Mem) : Prop := match x with
  | .v (.ref p) => match M p with
    | some (.dic _) => True
    | some (.dicT _) => True
    | some (.fdic _ _ _) => True
    | _ => False
  | _ => False
theorem isDic_ok {K : PySem.W.Frag} {M : Mem} {H F : Hp} {x : EV} {v : V} (W : Wd K M H F) (r : VD K F v x) (h : isDic x M) : ∃ a, v = .ref a ∧ IsD H a := by
  unfold isDic at h
  split at h
  · rename_i p
    cases (show v = .ref p from r)
    split at h
    · rename_i kvs e
      obtain ⟨_, ks, h1, _⟩ := W.mem _ _ e
      exact ⟨p, rfl, .inl ⟨ks, .inl h1⟩⟩
    · rename_i kvs e
      obtain ⟨_, ks, h1, _⟩ := W.mem _ _ e
      exact ⟨p, rfl, .inr ⟨ks, .inl h1⟩⟩
    · rename_i od ks kvs e
      obtain ⟨_, h1, _⟩ := W.mem _ _ e
      exact ⟨p, rfl, .inl ⟨ks, .inr ⟨od, h1⟩⟩⟩
    · exact h.elim
  · exact h.elim
def jDGet2 (jd jy jx : JTE) : JTE := fun ρ M Φ => jd ρ M fun x M1 => isDic x M1 ∧ jy ρ M1 fun y M2 => jx ρ M2 fun w M3 => match y with
  | .d y => match dGetE M3 x y with
    | some o => Φ (o.getD w) M3
    | _ => False
  | _ => False
section
variable {X : Cx} {E : XK} {o i e f value : Expr} {pos pos' tpos apos cpos : Pos} {jd jy jv jx : JTE}
theorem je_dget (hu : X.A.units + 1 < cLine) (ho : JE X o jd) (hi : JE X i jy) (hs : NoSl i := by intro _ _; rfl) : JE X (.Subscript o i pos) (jDGet jd jy) := (pe_dget hu ho hi hs).imp fun σ H Q ⟨F, ρ, M, Φ, W, S, h, l⟩ =>
  rdE.at W S h fun v H1 F1 x M1 e1 W1 r1 h1 => rdE.at W1 (S.mono e1) h1 fun u H2 F2 y M2 e2 W2 r2 h2 => by
    match y, r2, h2 with
    | .d y, r2, h2 =>
      dsimp only at h2
      split at h2
      · rename_i z eg
        obtain ⟨a, w, rfl, g, _, q⟩ := dGetE_ok W2 (r1.mono e2) r2 eg
        obtain ⟨t, rfl, rt⟩ := q z rfl
        exact ⟨a, t, rfl, g, l t H2 F2 z M2 (e1.trans e2) W2 rt h2⟩
      · exact h2.elim
theorem je_din (hu : X.A.units + 1 < cLine) (hi : JE X i jy) (ho : JE X o jd) (h1 : behindInMarks .In o = false := by rfl) : JE X (.Compare i [.In] [o] pos) (jDIn false jy jd) := (pe_cmp (pc_din hu hi ho) h1).imp fun σ H Q ⟨F, ρ, M, Φ, W, S, h, l⟩ =>
  rdE.at W S h fun u H1 F1 y M1 e1 W1 r1 h1 => rdE.at W1 (S.mono e1) h1 fun v H2 F2 x M2 e2 W2 r2 h2 => by
    match y, r1, h2 with
    | .d y, r1, h2 =>
      dsimp only at h2
      split at h2
      · rename_i o eg
        obtain ⟨a, w, rfl, g, hs, q⟩ := dGetE_ok W2 r2 (Dq.mono e2 r1) eg
        refine ⟨a, w, rfl, g, l _ H2 F2 _ M2 (e1.trans e2) W2 (VD.bl _) ?_⟩
        rw [xor_f] at h2; rw [hs]; exact h2
      · exact h2.elim
theorem je_dnotin (hu : X.A.units + 1 < cLine) (hi : JE X i jy) (ho : JE X o jd) (h1 : behindInMarks .NotIn o = false := by rfl) : JE X (.Compare i [.NotIn] [o] pos) (jDIn true jy jd) := (pe_cmp (pc_dnotin hu hi ho) h1).imp fun σ H Q ⟨F, ρ, M, Φ, W, S, h, l⟩ =>
  rdE.at W S h fun u H1 F1 y M1 e1 W1 r1 h1 => rdE.at W1 (S.mono e1) h1 fun v H2 F2 x M2 e2 W2 r2 h2 => by
    match y, r1, h2 with
    | .d y, r1, h2 =>
      dsimp only at h2
      split at h2
      · rename_i o eg
        obtain ⟨a, w, rfl, g, hs, q⟩ := dGetE_ok W2 r2 (Dq.mono e2 r1) eg
        refine ⟨a, w, rfl, g, l _ H2 F2 _ M2 (e1.trans e2) W2 (VD.bl _) ?_⟩
        rw [xor_t] at h2; rw [hs]; exact h2
      · exact h2.elim
theorem jt_din (hu : X.A.units + 1 < cLine) (hi : JE X i jy) (ho : JE X o jd) (h1 : behindInMarks .In o = false := by rfl) : JT X (.Compare i [.In] [o] pos) (jTest (jDIn false jy jd)) := (pt_cmp (pc_din hu hi ho) h1).imp fun σ H Q h => snd_test (te := tDIn (rdE X.K jy) (rdE X.K jd)) (fun {σ H Q} ⟨F, ρ, M, Φ, W, S, h, l⟩ =>
  rdE.at W S h fun u H1 F1 y M1 e1 W1 r1 h1 => rdE.at W1 (S.mono e1) h1 fun v H2 F2 x M2 e2 W2 r2 h2 => by
    match y, r1, h2 with
    | .d y, r1, h2 =>
      dsimp only at h2
      split at h2
      · rename_i o eg
        obtain ⟨a, w, rfl, g, hs, q⟩ := dGetE_ok W2 r2 (Dq.mono e2 r1) eg
        refine ⟨a, w, rfl, g, l _ H2 F2 _ M2 (e1.trans e2) W2 (VD.bl _) ?_⟩
        rw [xor_f] at h2; rw [hs]; exact h2
      · exact h2.elim) h
theorem jt_dnotin (hu : X.A.units + 1 < cLine) (hi : JE X i jy) (ho : JE X o jd) (h1 : behindInMarks .NotIn o = false := by rfl) : JT X (.Compare i [.NotIn] [o] pos) (jTest (jDIn true jy jd)) := (pt_cmp (pc_dnotin hu hi ho) h1).imp fun σ H Q h => snd_test (te := tDNotIn (rdE X.K jy) (rdE X.K jd)) (fun {σ H Q} ⟨F, ρ, M, Φ, W, S, h, l⟩ =>
  rdE.at W S h fun u H1 F1 y M1 e1 W1 r1 h1 => rdE.at W1 (S.mono e1) h1 fun v H2 F2 x M2 e2 W2 r2 h2 => by
    match y, r1, h2 with
    | .d y, r1, h2 =>
      dsimp only at h2
      split at h2
      · rename_i o eg
        obtain ⟨a, w, rfl, g, hs, q⟩ := dGetE_ok W2 r2 (Dq.mono e2 r1) eg
        refine ⟨a, w, rfl, g, l _ H2 F2 _ M2 (e1.trans e2) W2 (VD.bl _) ?_⟩
        rw [xor_t] at h2; rw [hs]; exact h2
      · exact h2.elim) h
theorem js_dput (hu : X.A.units + 1 < cLine) (ho : JE X o jd) (hi : JE X i jy) (hv : JE X value jv) (hs : swapsWith value (some (.Subscript o i pos')) pos.line X.env = pure false := by rfl) :
    JS X E (.Assign [.Subscript o i pos'] value pos) (jDPut jd jy jv) := (ps_dput hu ho hi hv hs).imp fun D σ H ⟨F, ρ, M, J, W, S, h, l⟩ =>
  rdE.at W S h fun t H1 F1 z M1 e1 W1 r1 h1 => rdE.at W1 (S.mono e1) h1 fun v H2 F2 x M2 e2 W2 r2 h2 => rdE.at W2 (S.mono (e1.trans e2)) h2 fun u H3 F3 y M3 e3 W3 r3 h3 => by
    match y, r3, h3 with
    | .d y, r3, h3 =>
      dsimp only at h3
      split at h3
      · rename_i M4 eg
        obtain ⟨a, H', rfl, g, W4⟩ := dPutE_ok W3 (r2.mono e3) r3 (r1.mono (e2.trans e3)) eg h3.1
        exact ⟨a, H', rfl, g, l.nx σ H' F3 ρ M4 ((e1.trans e2).trans e3) W4 (S.mono ((e1.trans e2).trans e3)) h3.2⟩
      · exact h3.elim
theorem je_dnew : JE X (.Dict [] [] pos) jDNew := pe_dnewK.imp fun σ H Q ⟨F, ρ, M, Φ, W, S, h, l⟩ p hp =>
  l (.ref p) _ F (.v (.ref p)) _ (Le.refl F) (W.cell (m := .dic []) hp fun H' e => ⟨[], e, .nil⟩) rfl (h p (W.freeM hp))
theorem je_dnewT : JE X (.Dict [] [] pos) jDNewT := pe_dnewT.imp fun σ H Q ⟨F, ρ, M, Φ, W, S, h, l⟩ p hp =>
  l (.ref p) _ F (.v (.ref p)) _ (Le.refl F) (W.cell (m := .dicT []) hp fun H' e => ⟨[], e, .nil⟩) rfl (h p (W.freeM hp))
theorem je_dget2 (hu : X.A.units + 1 < cLine) (ho : JE X o jd) (he : JE X e jy) (hf : JE X f jx) (m : M2 X o "get" apos e f cpos := by exact ⟨rfl, rfl, rfl, rfl⟩) : JE X (.Call (.Attribute o "get" apos) [e, f] [] cpos) (jDGet2 jd jy jx) := (pe_dget2 hu ho he hf m).imp fun σ H Q ⟨F, ρ, M, Φ, W, S, h, l⟩ =>
  rdE.at W S h fun v H1 F1 x M1 e1 W1 r1 h1 => by
    obtain ⟨d1, h1⟩ := h1
    obtain ⟨a, rfl, d2⟩ := isDic_ok W1 r1 d1
    refine ⟨a, rfl, d2, rdE.at W1 (S.mono e1) h1 fun u H2 F2 y M2 e2 W2 r2 h2 => rdE.at W2 (S.mono (e1.trans e2)) h2 fun t H3 F3 z M3 e3 W3 r3 h3 => ?_⟩
    match y, r2, h3 with
    | .d y, r2, h3 =>
      dsimp only at h3
      split at h3
      · rename_i o eg
        obtain ⟨a', w, ea, g, hs, q⟩ := dGetE_ok W3 (r1.mono (e2.trans e3)) (Dq.mono e3 r2) eg
        cases ea
        refine ⟨w, g, ?_⟩
        cases o with
        | none =>
          cases w with
          | none => exact l t H3 F3 z M3 ((e1.trans e2).trans e3) W3 r3 h3
          | some _ => cases hs
        | some x2 =>
          obtain ⟨t2, rfl, rt⟩ := q x2 rfl
          exact l t2 H3 F3 x2 M3 ((e1.trans e2).trans e3) W3 rt h3
      · exact h3.elim
/-- d[k] = v as a target of its own -/
def jgDSet (jd jy : JTE) : JTG := fun z ρ M Φ => jd ρ M fun x M1 => jy ρ M1 fun y M2 => match y with
  | .d y => match dPutE M2 x y z with
    | some M3 => lenOk (dLen M2 x + 1) ∧ Φ ρ M3
    | none => False
  | _ => False
theorem pset_dict (hu : X.A.units + 1 < cLine) : PSet X (fun o i v H Q => ∃ a H', o = .ref a ∧ DPut H a i v H' ∧ Q H') := by
  intro pins s σ H o i v ov iv u Q I ro ri rv h
  obtain ⟨a, H', rfl, g, q⟩ := h
  cases ro
  exact d_setItem hu I g ri rv fun s' I' => ⟨H', I', q⟩
theorem jg_dset (hu : X.A.units + 1 < cLine) (ho : JE X o jd) (hi : JE X i jy) (ha : ∀ v, assign (.Subscript o i pos) X.env v = (do
      let ov ← holding [v] (eval o X.env)
      let iv ← holding [v, ov] (eval i X.env)
      standAt pos
      holding [v, ov, iv] (setItem ov iv v)
      release [v, ov, iv] []) := by intro _; rfl) : JG X (.Subscript o i pos) (jgDSet jd jy) := (pg_sub ho hi (pset_dict hu) ha).imp fun t σ H Q ⟨F, ρ, M, z, Φ, W, S, r, h, l⟩ =>
  rdE.at W S h fun v H1 F1 x M1 e1 W1 r1 h1 => rdE.at W1 (S.mono e1) h1 fun u H2 F2 y M2 e2 W2 r2 h2 => by
    match y, r2, h2 with
    | .d y, r2, h2 =>
      dsimp only at h2
      split at h2
      · rename_i M3 eg
        obtain ⟨a, H', rfl, g, W3⟩ := dPutE_ok W2 (r1.mono e2) r2 (r.mono (e1.trans e2)) eg h2.1
        exact ⟨a, H', rfl, g, l σ H' F2 ρ M3 (e1.trans e2) W3 (S.mono (e1.trans e2)) h2.2⟩
      · exact h2.elim
/-- xs[i] = v of a list cell -/
def jgLSet (jd jy : JTE) : JTG := fun z ρ M Φ => jd ρ M fun x M1 => jy ρ M1 fun y M2 => match cellL M2 x, y with
  | some (p, xs), .d (.int i) => match ixN xs.length i with
    | some j => Φ ρ (M2.set p (.lst (xs.set j z)))
    | none => False
  | _, _ => False
theorem jg_lset (ho : JE X o jd) (hi : JE X i jy) (ha : ∀ v, assign (.Subscript o i pos) X.env v = (do
      let ov ← holding [v] (eval o X.env)
      let iv ← holding [v, ov] (eval i X.env)
      standAt pos
      holding [v, ov, iv] (setItem ov iv v)
      release [v, ov, iv] []) := by intro _; rfl) : JG X (.Subscript o i pos) (jgLSet jd jy) := (pg_sub ho hi set_list ha).imp fun t σ H Q ⟨F, ρ, M, z, Φ, W, S, r, h, l⟩ =>
  rdE.at W S h fun v H1 F1 x M1 e1 W1 r1 h1 => rdE.at W1 (S.mono e1) h1 fun u H2 F2 y M2 e2 W2 r2 h2 => by
    split at h2
    · rename_i p xs i ec
      split at h2
      · rename_i j ej
        obtain ⟨rfl, hM, vs, h3, h4⟩ := cellL_ok W2 (r1.mono e2) ec
        cases r2
        exact ⟨p, vs, i, j, rfl, rfl, h3, by rw [Paired.length h4]; exact ej, l σ _ F2 ρ _ (e1.trans e2) (W2.write (m := .lst _) hM fun H' e' => ⟨_, e', VDs.setAt (r.mono (e1.trans e2)) j h4⟩) (S.mono (e1.trans e2)) h2⟩
      · exact h2.elim
    · exact h2.elim
/-! a dict walked by its keys, locked -/
theorem keyE_ok {K : PySem.W.Frag} {F : Hp} (k : Key) : VD K F (kV k) (keyE k) := by
  cases k with
  | inl i => exact VD.int i
  | inr s => exact VD.str s
def jiK (je : JTE) : JTI := fun ρ M Φ => je ρ M fun x M1 => match x with
  | .v (.ref p) => match M1 p with
    | some (.fdic od ks kvs) => Φ (.dkeys p od ks kvs) M1
    | _ => False
  | _ => False
theorem ji_keys {tg : Expr} (he : JE X e jd) : JI X tg e (jiK jd) := (pi_keys he).imp fun σ H R ⟨F, ρ, M, Φ, W, S, h, l⟩ =>
  rdE.at W S h fun v H1 F1 x M1 e1 W1 r1 h1 => by
    split at h1
    · rename_i p
      split at h1
      · rename_i od ks kvs e
        cases (show v = .ref p from r1)
        obtain ⟨_, h3, h4⟩ := W1.mem _ _ e
        have hl := KVD.length h4
        refine ⟨p, od, rfl, .inl ⟨ks, h3, l _ M1 F1 H1 _ e1 W1 h1 e ⟨fun i H G M x e' W' ok hx => ?_, fun i H G M e' W' ok hi => ?_⟩⟩⟩
        · obtain ⟨_, h5, h6⟩ := W'.mem _ _ ok
          have hx : (kvs.map fun q => keyE q.1)[i]? = some x := hx
          rw [List.getElem?_map] at hx
          cases q : kvs[i]? with
          | none => rw [q] at hx; cases hx
          | some kv =>
            rw [q] at hx
            have hi : i < kvs.length := (List.getElem?_eq_some_iff.mp q).1
            refine ⟨⟨h5, by omega⟩, fun w H' y => ?_⟩
            obtain ⟨rfl, k, u, hk, rfl⟩ := y
            refine ⟨G, Le.refl G, W', ?_⟩
            have ek : k = kv.1 := by
              have z : ∀ {ks : List (Key × V)} {kvs : List (Key × EV)} {i : Nat} {k : Key} {u : V} {kv : Key × EV}, KVD X.K G ks kvs → ks[i]? = some (k, u) → kvs[i]? = some kv → k = kv.1 := by
                intro ks kvs i k u kv h
                induction h generalizing i with
                | nil => intro h _; simp at h
                | cons r t ih =>
                  intro h1 h2
                  cases i with
                  | zero => simp at h1 h2; subst h1; subst h2; exact r.1
                  | succ i => exact ih (by simpa using h1) (by simpa using h2)
              exact z h6 hk q
            cases hx
            rw [ek]
            exact keyE_ok _
        · obtain ⟨_, h5, h6⟩ := W'.mem _ _ ok
          have hi : (kvs.map fun q => keyE q.1).length ≤ i := hi
          rw [List.length_map] at hi
          exact ⟨h5, by omega⟩
      · exact h1.elim
    · exact h1.elim
/-- the statement runs with the dict at slot i locked -/
def jLockS (i : Nat) (t : JTS) : JTS := fun J ρ M => match look ρ i with
  | some (.v (.ref p)) => match M p with
    | some (.dic kvs) => ∀ od ks, t { nx := fun ρ' M' => M' p = some (.fdic od ks kvs) ∧ J.nx ρ' (M'.set p (.dic kvs)), rt := fun v M' => M' p = some (.fdic od ks kvs) ∧ J.rt v (M'.set p (.dic kvs)), bk := fun ρ' M' => M' p = some (.fdic od ks kvs) ∧ J.bk ρ' (M'.set p (.dic kvs)), ct := fun ρ' M' => M' p = some (.fdic od ks kvs) ∧ J.ct ρ' (M'.set p (.dic kvs)) } ρ (M.set p (.fdic od ks kvs))
    | _ => False
  | _ => False
def jLockE (i : Nat) (t : JTE) : JTE := fun ρ M Φ => match look ρ i with
  | some (.v (.ref p)) => match M p with
    | some (.dic kvs) => ∀ od ks, t ρ (M.set p (.fdic od ks kvs)) fun v M' => M' p = some (.fdic od ks kvs) ∧ Φ v (M'.set p (.dic kvs))
    | _ => False
  | _ => False
theorem unlock_wd {K : PySem.W.Frag} {M : Mem} {H F : Hp} {p : Addr} {od : Obj} {ks : List (Key × V)} {kvs : List (Key × EV)} (W : Wd K M H F) (h : M p = some (.fdic od ks kvs)) : H p = some (.frz od (.dK ks)) ∧ Wd K (M.set p (.dic kvs)) (upd H p (.dK ks)) F := by
  obtain ⟨_, h1, h2⟩ := W.mem _ _ h
  exact ⟨h1, W.write (m := .dic kvs) h fun H' e' => ⟨ks, e', h2⟩⟩
theorem js_lock {st : Stmt} {js : JTS} (i : Nat) (h : JS X E st js) : JS X E st (jLockS i js) := (ps_lock h).imp fun D σ H ⟨F, ρ, M, J, W, S, h, l⟩ => by
  unfold jLockS at h
  split at h
  · rename_i p e
    split at h
    · rename_i kvs em
      obtain ⟨_, ks, h1, h2⟩ := W.mem _ _ em
      refine ⟨p, .dK ks, h1, trivial, fun od => ?_⟩
      refine rdS.at (W.write (m := .fdic od ks kvs) em fun H' e' => ⟨e', h2⟩) S (h od ks) ⟨fun σ' H' F' ρ' M' e' W' S' q => ?_, fun v H' F' x M' e' W' r q => ?_, fun σ' H' F' ρ' M' e' W' S' q => ?_, fun σ' H' F' ρ' M' e' W' S' q => ?_, fun _ _ _ _ _ _ _ z => z.elim⟩
      · obtain ⟨q1, q2⟩ := unlock_wd W' q.1
        exact ⟨q1, l.nx _ _ F' ρ' _ e' q2 S' q.2⟩
      · obtain ⟨q1, q2⟩ := unlock_wd W' q.1
        exact ⟨q1, l.rt _ _ F' x _ e' q2 r q.2⟩
      · obtain ⟨q1, q2⟩ := unlock_wd W' q.1
        exact ⟨q1, l.bk _ _ F' ρ' _ e' q2 S' q.2⟩
      · obtain ⟨q1, q2⟩ := unlock_wd W' q.1
        exact ⟨q1, l.ct _ _ F' ρ' _ e' q2 S' q.2⟩
    · exact h.elim
  · exact h.elim
theorem je_lock {je : JTE} (i : Nat) (h : JE X e je) : JE X e (jLockE i je) := (pe_lock h).imp fun σ H Q ⟨F, ρ, M, Φ, W, S, h, l⟩ => by
  unfold jLockE at h
  split at h
  · rename_i p ep
    split at h
    · rename_i kvs em
      obtain ⟨_, ks, h1, h2⟩ := W.mem _ _ em
      refine ⟨p, .dK ks, h1, trivial, fun od => ?_⟩
      refine rdE.at (W.write (m := .fdic od ks kvs) em fun H' e' => ⟨e', h2⟩) S (h od ks) fun v H' F' x M' e' W' r q => ?_
      obtain ⟨q1, q2⟩ := unlock_wd W' q.1
      exact ⟨q1, l _ _ F' x _ e' q2 r q.2⟩
    · exact h.elim
  · exact h.elim
end
end Td

/-! TdJ6: defs by name, built-ins by name. -/
namespace Td
open PySem PySem.Spec PyProof.Rows L2

theorem units65 {k : Nat} {A : Around} (hr : Room k A) : A.units + 65 < cLine := by have := hr.un; omega
/-- a def of the text stands at its name -/
structure DefAt (K : PySem.W.Frag) (mg : Str → Option Value) (x : Str) (st : Stmt) (ps : List Str) : Prop where
  ex : ∃ f fd, mg x = some (.ref f) ∧ Fun K x x st f fd ∧ Binds K fd ps []
/-- the def named x keeps the promise T, by level k -/
structure FnJ (P : Program) (w : World) (K : PySem.W.Frag) (mg : Str → Option Value) (base : Heap) (k : Nat) (x : Str) (ps : List Str) (T : TJ) : Prop where
  ex : ∃ f fd, mg x = some (.ref f) ∧ PySem.W.keepIn K (.ref f) = true ∧ Binds K fd ps [] ∧ FnOk P w K mg base CX0 k f fd ps (spJ K T)
/-- .. that may raise -/
structure FnJX (P : Program) (w : World) (K : PySem.W.Frag) (mg : Str → Option Value) (base : Heap) (k : Nat) (x : Str) (ps : List Str) (T : TJ) : Prop where
  ex : ∃ f fd, mg x = some (.ref f) ∧ PySem.W.keepIn K (.ref f) = true ∧ Binds K fd ps [] ∧ FnOk P w K mg base (L2.CX P w) k f fd ps (spJ K T)
theorem FnJ.mono {P : Program} {w : World} {K : PySem.W.Frag} {mg : Str → Option Value} {base : Heap} {j k : Nat} {x : Str} {ps : List Str} {T : TJ} (h : FnJ P w K mg base j x ps T) (e : j ≤ k) : FnJ P w K mg base k x ps T :=
  let ⟨f, fd, h1, h2, h3, h4⟩ := h.ex
  ⟨f, fd, h1, h2, h3, h4.mono e⟩
theorem FnJ.imp {P : Program} {w : World} {K : PySem.W.Frag} {mg : Str → Option Value} {base : Heap} {k : Nat} {x : Str} {ps : List Str} {T T' : TJ} (h : FnJ P w K mg base k x ps T) (e : ∀ xs M Φ Ψ, T' xs M Φ Ψ → T xs M Φ Ψ) : FnJ P w K mg base k x ps T' :=
  let ⟨f, fd, h1, h2, h3, h4⟩ := h.ex
  ⟨f, fd, h1, h2, h3, h4.imp fun vs H Q E ⟨F, M, xs, Φ, Ψ, W, r, q, l, lx⟩ => ⟨F, M, xs, Φ, Ψ, W, r, e _ _ _ _ q, l, lx⟩⟩
section
variable {X : Cx} {k : Nat} {ps : List Str} {T : TJ} {x : Str} {p pos : Pos} {e : Expr} {es : List Expr} {ja : JTA}
theorem je_callJ (F : FnJ X.prog X.w X.K X.mg X.base k x ps T) (hr : Room k X.A) (ha : JA X (e :: es) ja) (hg : Gl X x := by rfl)
    (hdb : (x == ("__debug__" : Str)) = false := by decide) (he : starEach (e :: es) X.env = (false, eval e X.env) :: starEach es X.env := by rfl) (hpl : (backTo pos (starEach es X.env)).any (·.1) = false := by rfl) :
    JE X (.Call (.Name x p) (e :: es) [] pos) (jCall T ja) :=
  let ⟨_, _, h1, h2, h3, h4⟩ := F.ex
  je_call h4 hr hg h1 h2 h3 ha pass0 hdb he hpl
theorem je_callJX (F : FnJX X.prog X.w X.K X.mg X.base k x ps T) (hr : Room k X.A) (ha : JA X (e :: es) ja) (hg : Gl X x := by rfl)
    (hdb : (x == ("__debug__" : Str)) = false := by decide) (he : starEach (e :: es) X.env = (false, eval e X.env) :: starEach es X.env := by rfl) (hpl : (backTo pos (starEach es X.env)).any (·.1) = false := by rfl) :
    JE X (.Call (.Name x p) (e :: es) [] pos) (jCall T ja) :=
  let ⟨_, _, h1, h2, h3, h4⟩ := F.ex
  je_call h4 hr hg h1 h2 h3 ha passL hdb he hpl
end
section
variable {P : Program} {w : World} {K : PySem.W.Frag} {mg : Str → Option Value} {base : Heap}
theorem DefAt.fnj {x : Str} {st : Stmt} {N ps : List Str} {k : Nat} {T : TJ} {js : JTS} (D : DefAt K mg x st ps) (S : FnScope N ps (defScope st)) (len : ∀ xs M Φ Ψ, T xs M Φ Ψ → xs.length = ps.length)
    (hb : ∀ (f : Addr) (cdv : Value) (A : Around) (outer : List Env) (s : Shared) (H : Hp) (E : XK), Room k (A.deeper (envOfC x (defScope st) s.heap.objs.size f cdv)) →
      JSs (cxOf CX0 P w K mg base N x (defScope st) f cdv A outer s H E).nox E (defBody st) js)
    (hq : ∀ xs M Φ Ψ, T xs M Φ Ψ → js { nx := fun _ M' => Φ (.d .none) M', rt := Φ, xr := Ψ } (jstart N.length xs) M) :
    FnJ P w K mg base (k + 1) x ps T :=
  let ⟨f, fd, h1, h2, h3⟩ := D.ex
  ⟨f, fd, h1, h2.kp, h3, fn_j h2 S len fun cdv A outer s H E hr => ⟨js, hb f cdv A outer s H E hr, hq⟩⟩
theorem DefAt.fnjX {x : Str} {st : Stmt} {N ps : List Str} {k : Nat} {T : TJ} {js : JTS} (D : DefAt K mg x st ps) (S : FnScope N ps (defScope st)) (len : ∀ xs M Φ Ψ, T xs M Φ Ψ → xs.length = ps.length)
    (hb : ∀ (f : Addr) (cdv : Value) (A : Around) (outer : List Env) (s : Shared) (H : Hp) (E : XK), Room k (A.deeper (envOfC x (defScope st) s.heap.objs.size f cdv)) →
      JSs (cxOf (L2.CX P w) P w K mg base N x (defScope st) f cdv A outer s H E) E (defBody st) js)
    (hq : ∀ xs M Φ Ψ, T xs M Φ Ψ → js { nx := fun _ M' => Φ (.d .none) M', rt := Φ, xr := Ψ } (jstart N.length xs) M) :
    FnJX P w K mg base (k + 1) x ps T :=
  let ⟨f, fd, h1, h2, h3⟩ := D.ex
  ⟨f, fd, h1, h2.kp, h3, fn_jX h2 S len fun cdv A outer s H E hr => ⟨js, hb f cdv A outer s H E hr, hq⟩⟩
end
/-- the built-ins' names are not taken -/
structure Blt (mg : Str → Option Value) : Prop where
  len : mg "len" = none
  abs : mg "abs" = none
  all : mg "all" = none
  isi : mg "isinstance" = none
  min : mg "min" = none
  max : mg "max" = none
  range : mg "range" = none
  enum : mg "enumerate" = none
  zip : mg "zip" = none
  sorted : mg "sorted" = none
  tuple : mg "tuple" = none
  list : mg "list" = none
  dict : mg "dict" = none
  int : mg "int" = none
  bool : mg "bool" = none
  str : mg "str" = none
  set : mg "set" = none
theorem bt_abs : bootBuiltins "abs" = some (.builtin "abs") := by decide +kernel
theorem bt_all : bootBuiltins "all" = some (.builtin "all") := by decide +kernel
theorem bt_isi : bootBuiltins "isinstance" = some (.builtin "isinstance") := by decide +kernel
theorem bt_min : bootBuiltins "min" = some (.builtin "min") := by decide +kernel
theorem bt_max : bootBuiltins "max" = some (.builtin "max") := by decide +kernel
theorem bt_len : bootBuiltins "len" = some (.builtin "len") := by decide +kernel
theorem bt_sorted : bootBuiltins "sorted" = some (.builtin "sorted") := by decide +kernel
theorem bt_tuple : bootBuiltins "tuple" = some (.type "tuple") := by decide +kernel
theorem bt_list : bootBuiltins "list" = some (.type "list") := by decide +kernel
theorem bt_dict : bootBuiltins "dict" = some (.type "dict") := by decide +kernel
theorem bt_int : bootBuiltins "int" = some (.type "int") := by decide +kernel
theorem bt_bool : bootBuiltins "bool" = some (.type "bool") := by decide +kernel
theorem bt_str : bootBuiltins "str" = some (.type "str") := by decide +kernel
theorem bt_set : bootBuiltins "set" = some (.type "set") := by decide +kernel
section
variable {X : Cx} {p pos : Pos} {e : Expr} {es : List Expr} {ja : JTA}
theorem jb_len (B : Blt X.mg) (ha : JA X (e :: es) ja) (hg : Gl X "len" := by rfl) (he : starEach (e :: es) X.env = (false, eval e X.env) :: starEach es X.env := by rfl) (hpl : (backTo pos (starEach es X.env)).any (·.1) = false := by rfl) :
    JE X (.Call (.Name "len" p) (e :: es) [] pos) (jCB jrLen ja) := je_callB cj_len hg B.len bt_len ha (by decide) (by decide) he hpl
theorem jb_abs (B : Blt X.mg) (ha : JA X (e :: es) ja) (hg : Gl X "abs" := by rfl) (he : starEach (e :: es) X.env = (false, eval e X.env) :: starEach es X.env := by rfl) (hpl : (backTo pos (starEach es X.env)).any (·.1) = false := by rfl) :
    JE X (.Call (.Name "abs" p) (e :: es) [] pos) (jCB jrAbs ja) := je_callB cj_abs hg B.abs bt_abs ha (by decide) (by decide) he hpl
theorem jb_all (B : Blt X.mg) (ha : JA X (e :: es) ja) (hc : X.calm = true := by rfl) (hg : Gl X "all" := by rfl) (he : starEach (e :: es) X.env = (false, eval e X.env) :: starEach es X.env := by rfl) (hpl : (backTo pos (starEach es X.env)).any (·.1) = false := by rfl) :
    JE X (.Call (.Name "all" p) (e :: es) [] pos) (jCB jrAll ja) := je_callB (cj_all hc) hg B.all bt_all ha (by decide) (by decide) he hpl
theorem jb_isi (n : String) (B : Blt X.mg) (ha : JA X (e :: es) ja) (hn : n = "int" ∨ n = "str" ∨ n = "bool" ∨ n = "tuple" := by simp) (hg : Gl X "isinstance" := by rfl) (he : starEach (e :: es) X.env = (false, eval e X.env) :: starEach es X.env := by rfl) (hpl : (backTo pos (starEach es X.env)).any (·.1) = false := by rfl) :
    JE X (.Call (.Name "isinstance" p) (e :: es) [] pos) (jCB (jrIsi n) ja) := je_callB (cj_isi hn) hg B.isi bt_isi ha (by decide) (by decide) he hpl
theorem jb_min (B : Blt X.mg) (ha : JA X (e :: es) ja) (hc : X.calm = true := by rfl) (hg : Gl X "min" := by rfl) (he : starEach (e :: es) X.env = (false, eval e X.env) :: starEach es X.env := by rfl) (hpl : (backTo pos (starEach es X.env)).any (·.1) = false := by rfl) :
    JE X (.Call (.Name "min" p) (e :: es) [] pos) (jCB (jrMM fun i j => if j < i then j else i) ja) := je_callB (cj_min hc) hg B.min bt_min ha (by decide) (by decide) he hpl
theorem jb_max (B : Blt X.mg) (ha : JA X (e :: es) ja) (hc : X.calm = true := by rfl) (hg : Gl X "max" := by rfl) (he : starEach (e :: es) X.env = (false, eval e X.env) :: starEach es X.env := by rfl) (hpl : (backTo pos (starEach es X.env)).any (·.1) = false := by rfl) :
    JE X (.Call (.Name "max" p) (e :: es) [] pos) (jCB (jrMM fun i j => if j > i then j else i) ja) := je_callB (cj_max hc) hg B.max bt_max ha (by decide) (by decide) he hpl
theorem jb_minS (B : Blt X.mg) (ha : JA X (e :: es) ja) (hc : X.calm = true := by rfl) (hg : Gl X "min" := by rfl) (he : starEach (e :: es) X.env = (false, eval e X.env) :: starEach es X.env := by rfl) (hpl : (backTo pos (starEach es X.env)).any (·.1) = false := by rfl) :
    JE X (.Call (.Name "min" p) (e :: es) [] pos) (jCB (jrMMS sMin) ja) := je_callB (cj_minS hc) hg B.min bt_min ha (by decide) (by decide) he hpl
theorem jb_maxS (B : Blt X.mg) (ha : JA X (e :: es) ja) (hc : X.calm = true := by rfl) (hg : Gl X "max" := by rfl) (he : starEach (e :: es) X.env = (false, eval e X.env) :: starEach es X.env := by rfl) (hpl : (backTo pos (starEach es X.env)).any (·.1) = false := by rfl) :
    JE X (.Call (.Name "max" p) (e :: es) [] pos) (jCB (jrMMS sMax) ja) := je_callB (cj_maxS hc) hg B.max bt_max ha (by decide) (by decide) he hpl
theorem jb_tuple (B : Blt X.mg) (ha : JA X (e :: es) ja) (hg : Gl X "tuple" := by rfl) (he : starEach (e :: es) X.env = (false, eval e X.env) :: starEach es X.env := by rfl) (hpl : (backTo pos (starEach es X.env)).any (·.1) = false := by rfl) :
    JE X (.Call (.Name "tuple" p) (e :: es) [] pos) (jCB jrTuple ja) := je_callTy cj_tuple hg B.tuple bt_tuple ha (by decide) (by decide) he hpl
theorem jb_list (B : Blt X.mg) (ha : JA X (e :: es) ja) (hg : Gl X "list" := by rfl) (he : starEach (e :: es) X.env = (false, eval e X.env) :: starEach es X.env := by rfl) (hpl : (backTo pos (starEach es X.env)).any (·.1) = false := by rfl) :
    JE X (.Call (.Name "list" p) (e :: es) [] pos) (jCB jrList ja) := je_callTy cj_list hg B.list bt_list ha (by decide) (by decide) he hpl
theorem jb_int (B : Blt X.mg) (ha : JA X (e :: es) ja) (hg : Gl X "int" := by rfl) (he : starEach (e :: es) X.env = (false, eval e X.env) :: starEach es X.env := by rfl) (hpl : (backTo pos (starEach es X.env)).any (·.1) = false := by rfl) :
    JE X (.Call (.Name "int" p) (e :: es) [] pos) (jCB jrInt ja) := je_callTy cj_int hg B.int bt_int ha (by decide) (by decide) he hpl
theorem je_tint (B : Blt X.mg) (hg : Gl X "int" := by rfl) : JE X (.Name "int" pos) (jV (.ty "int")) := je_ty hg B.int bt_int
theorem je_tbool (B : Blt X.mg) (hg : Gl X "bool" := by rfl) : JE X (.Name "bool" pos) (jV (.ty "bool")) := je_ty hg B.bool bt_bool
theorem je_tstr (B : Blt X.mg) (hg : Gl X "str" := by rfl) : JE X (.Name "str" pos) (jV (.ty "str")) := je_ty hg B.str bt_str
theorem je_ttuple (B : Blt X.mg) (hg : Gl X "tuple" := by rfl) : JE X (.Name "tuple" pos) (jV (.ty "tuple")) := je_ty hg B.tuple bt_tuple
end
/-- what the module's constants hold -/
structure Cst (K : PySem.W.Frag) (mg : Str → Option Value) : Prop where
  nought : ∃ a, mg "NOUGHT" = some (.ref a) ∧ ∀ F, SqT K F a [.int 0, .int 1]
  letters : ∃ t, mg "LETTERS" = some (.str "abcdefghijklmnopqrstuvwxyz" t)
  own : ∃ t, mg "MOST_OWN" = some (.int 1000 t)
  strong : ∃ t, mg "MOST_STRONG" = some (.int 100 t)
  long : ∃ t, mg "MOST_LONG" = some (.int 1000 t)
  balloons : ∃ t, mg "MOST_BALLOONS" = some (.int 8 t)
theorem je_nought {X : Cx} {pos : Pos} (C : Cst X.K X.mg) (hg : Gl X "NOUGHT" := by rfl) : JE X (.Name "NOUGHT" pos) (jC (.tuple [.int 0, .int 1])) :=
  let ⟨_, h1, h2⟩ := C.nought
  je_zero hg h1 h2
end Td

/-! TdM1: pulls by height: stretches with integer slopes, bends, sums, cords. No program here. -/
namespace Td

structure Row where
  h : Rat
  b : Option Rat
  a : Rat
structure Pulls where
  rows : List Row
  rate : Rat
/-- a pull function: the least and the greatest pull at a height (at 0 there is no least) -/
structure Fn where
  lo : Rat → Rat
  hi : Rat → Rat
def Fn.add (F G : Fn) : Fn := ⟨fun h => F.lo h + G.lo h, fun h => F.hi h + G.hi h⟩
def below (F : Fn) (x : Rat) : Option Rat := if x = 0 then none else some (F.lo x)
def rowAt (F : Fn) (x : Rat) : Row := ⟨x, below F x, F.hi x⟩
/-- s h - c between a and b -/
def Pc (m k : Int) (F : Fn) (a b : Rat) : Prop := ∃ s c : Int, (0 ≤ s ∧ s ≤ m ∧ -k ≤ c ∧ c ≤ k) ∧ F.hi a = s * a - c ∧ (∀ h, a < h → h < b → F.lo h = s * h - c ∧ F.hi h = s * h - c) ∧ F.lo b = s * b - c
def PcE (k : Int) (F : Fn) (a : Rat) (r : Int) : Prop := ∃ c : Int, (-k ≤ c ∧ c ≤ k) ∧ F.hi a = r * a - c ∧ ∀ h, a < h → F.lo h = r * h - c ∧ F.hi h = r * h - c
def Segs (m k : Int) (F : Fn) (r : Int) : List Rat → Prop
  | [] => False
  | [a] => PcE k F a r
  | a :: b :: t => a < b ∧ Pc m k F a b ∧ Segs m k F r (b :: t)

theorem Pc.cut {m k : Int} {F : Fn} {x y a b : Rat} (h : Pc m k F x y) (h1 : x ≤ a) (h2 : a < b) (h3 : b ≤ y) : Pc m k F a b := by
  obtain ⟨s, c, hb, e1, e2, e3⟩ := h
  refine ⟨s, c, hb, ?_, fun h g1 g2 => e2 h (by grind) (by grind), ?_⟩
  · by_cases q : a = x
    · subst q; exact e1
    · exact (e2 a (by grind) (by grind)).2
  · by_cases q : b = y
    · subst q; exact e3
    · exact (e2 b (by grind) (by grind)).1
theorem PcE.cut {m k : Int} {F : Fn} {x a b : Rat} {r : Int} (h : PcE k F x r) (hr : 0 ≤ r ∧ r ≤ m) (h1 : x ≤ a) (h2 : a < b) : Pc m k F a b := by
  obtain ⟨c, hb, e1, e2⟩ := h
  refine ⟨r, c, ⟨hr.1, hr.2, hb.1, hb.2⟩, ?_, fun h g1 g2 => e2 h (by grind), (e2 b (by grind)).1⟩
  by_cases q : a = x
  · subst q; exact e1
  · exact (e2 a (by grind)).2
theorem PcE.up {k : Int} {F : Fn} {x a : Rat} {r : Int} (h : PcE k F x r) (h1 : x ≤ a) : PcE k F a r := by
  obtain ⟨c, hb, e1, e2⟩ := h
  refine ⟨c, hb, ?_, fun h g => e2 h (by grind)⟩
  by_cases q : a = x
  · subst q; exact e1
  · exact (e2 a (by grind)).2
/-- the stretch that holds a and b -/
theorem Segs.find {m k : Int} {F : Fn} {r : Int} (hr : 0 ≤ r ∧ r ≤ m) {a b : Rat} (hab : a < b) : ∀ {S : List Rat} {x : Rat}, Segs m k F r (x :: S) → x ≤ a → (∀ y ∈ x :: S, ¬ (a < y ∧ y < b)) → Pc m k F a b
  | [], x, h, h1, _ => PcE.cut h hr h1 hab
  | y :: S, x, h, h1, h2 => by
    obtain ⟨g1, g2, g3⟩ := h
    by_cases q : y ≤ a
    · exact Segs.find hr hab g3 q fun z hz => h2 z (List.mem_cons_of_mem _ hz)
    · have := h2 y (by simp)
      exact g2.cut h1 hab (by grind)
theorem Segs.findE {m k : Int} {F : Fn} {r : Int} {a : Rat} : ∀ {S : List Rat} {x : Rat}, Segs m k F r (x :: S) → x ≤ a → (∀ y ∈ x :: S, y ≤ a) → PcE k F a r
  | [], x, h, h1, _ => PcE.up h h1
  | y :: S, x, h, h1, h2 => Segs.findE h.2.2 (h2 y (by simp)) fun z hz => h2 z (List.mem_cons_of_mem _ hz)
/-- strictly rising -/
def Up : List Rat → Prop := List.Pairwise (· < ·)
theorem Segs.up {m k : Int} {F : Fn} {r : Int} : ∀ {S : List Rat}, Segs m k F r S → Up S
  | [], _ => List.Pairwise.nil
  | [a], _ => List.pairwise_singleton _ _
  | a :: b :: t, h => by
    have ih := Segs.up h.2.2
    refine List.pairwise_cons.mpr ⟨fun x hx => ?_, ih⟩
    rcases List.mem_cons.mp hx with rfl | hx
    · exact h.1
    · have := (List.pairwise_cons.mp ih).1 x hx
      have := h.1
      grind
/-- any finer points -/
theorem Segs.of_gaps {m k : Int} {F : Fn} {r : Int} : ∀ {S : List Rat}, S ≠ [] → Up S → (∀ a b, a ∈ S → b ∈ S → a < b → (∀ y ∈ S, ¬ (a < y ∧ y < b)) → Pc m k F a b) → (∀ a ∈ S, (∀ y ∈ S, y ≤ a) → PcE k F a r) → Segs m k F r S
  | [], h, _, _, _ => (h rfl).elim
  | [a], _, _, _, h2 => h2 a (by simp) (by simp)
  | a :: b :: t, _, hu, h1, h2 => by
    obtain ⟨u1, u2⟩ := List.pairwise_cons.mp hu
    have hab : a < b := u1 b (by simp)
    have hb := (List.pairwise_cons.mp u2).1
    refine ⟨hab, h1 a b (by simp) (by simp) hab fun y hy => ?_, Segs.of_gaps (by simp) u2 (fun x y hx hy hxy hn => h1 x y (List.mem_cons_of_mem _ hx) (List.mem_cons_of_mem _ hy) hxy fun z hz => ?_) fun x hx hm => h2 x (List.mem_cons_of_mem _ hx) fun y hy => ?_⟩
    · rcases List.mem_cons.mp hy with rfl | hy
      · grind
      · rcases List.mem_cons.mp hy with rfl | hy
        · grind
        · have := hb y hy; grind
    · rcases List.mem_cons.mp hz with rfl | hz
      · have := u1 x hx; grind
      · exact hn z hz
    · rcases List.mem_cons.mp hy with rfl | hy
      · have := u1 x hx; grind
      · exact hm y hy
theorem Segs.finer {m k : Int} {F : Fn} {r : Int} (hr : 0 ≤ r ∧ r ≤ m) {S S' : List Rat} {x : Rat} (h : Segs m k F r (x :: S)) (hu : Up S') (hn : S' ≠ []) (hs : ∀ y ∈ x :: S, y ∈ S') (hx : ∀ y ∈ S', x ≤ y) : Segs m k F r S' :=
  Segs.of_gaps hn hu (fun a b ha hb hab hno => h.find hr hab (hx a ha) fun y hy => hno y (hs y hy)) fun a ha hm => h.findE (hx a ha) fun y hy => hm y (hs y hy)
theorem Pc.add {m k m' k' : Int} {F G : Fn} {a b : Rat} (h : Pc m k F a b) (h' : Pc m' k' G a b) : Pc (m + m') (k + k') (F.add G) a b := by
  obtain ⟨s, c, hb, e1, e2, e3⟩ := h
  obtain ⟨s', c', hb', e1', e2', e3'⟩ := h'
  refine ⟨s + s', c + c', ⟨by omega, by omega, by omega, by omega⟩, ?_, fun h g1 g2 => ?_, ?_⟩
  · show F.hi a + G.hi a = _
    rw [e1, e1', Rat.intCast_add, Rat.intCast_add]; grind
  · obtain ⟨q1, q2⟩ := e2 h g1 g2
    obtain ⟨q3, q4⟩ := e2' h g1 g2
    refine ⟨?_, ?_⟩
    · show F.lo h + G.lo h = _
      rw [q1, q3, Rat.intCast_add, Rat.intCast_add]; grind
    · show F.hi h + G.hi h = _
      rw [q2, q4, Rat.intCast_add, Rat.intCast_add]; grind
  · show F.lo b + G.lo b = _
    rw [e3, e3', Rat.intCast_add, Rat.intCast_add]; grind
theorem PcE.add {k k' : Int} {F G : Fn} {a : Rat} {r r' : Int} (h : PcE k F a r) (h' : PcE k' G a r') : PcE (k + k') (F.add G) a (r + r') := by
  obtain ⟨c, hb, e1, e2⟩ := h
  obtain ⟨c', hb', e1', e2'⟩ := h'
  refine ⟨c + c', ⟨by omega, by omega⟩, ?_, fun h g => ?_⟩
  · show F.hi a + G.hi a = _
    rw [e1, e1', Rat.intCast_add, Rat.intCast_add]; grind
  · obtain ⟨q1, q2⟩ := e2 h g
    obtain ⟨q3, q4⟩ := e2' h g
    refine ⟨?_, ?_⟩
    · show F.lo h + G.lo h = _
      rw [q1, q3, Rat.intCast_add, Rat.intCast_add]; grind
    · show F.hi h + G.hi h = _
      rw [q2, q4, Rat.intCast_add, Rat.intCast_add]; grind
theorem Segs.add {m k m' k' : Int} {F G : Fn} {r r' : Int} : ∀ {S : List Rat}, Segs m k F r S → Segs m' k' G r' S → Segs (m + m') (k + k') (F.add G) (r + r') S
  | [], h, _ => h.elim
  | [a], h, h' => PcE.add h h'
  | a :: b :: t, h, h' => ⟨h.1, h.2.1.add h'.2.1, Segs.add h.2.2 h'.2.2⟩

/-! ### where nothing pulls; a cord -/
/-- it rises: strictly -/
structure SMono (F : Fn) : Prop where
  at_ : ∀ x, 0 < x → F.lo x ≤ F.hi x
  lt : ∀ a b, 0 ≤ a → a < b → F.hi a < F.lo b
structure WMono (F : Fn) : Prop where
  at_ : ∀ x, 0 < x → F.lo x ≤ F.hi x
  le : ∀ a b, 0 ≤ a → a < b → F.hi a ≤ F.lo b
theorem SMono.add {F G : Fn} (h : SMono F) (g : WMono G) : SMono (F.add G) := by
  refine ⟨fun x hx => ?_, fun a b ha hab => ?_⟩
  · have := h.at_ x hx; have := g.at_ x hx; show F.lo x + G.lo x ≤ F.hi x + G.hi x; grind
  · have := h.lt a b ha hab; have := g.le a b ha hab; show F.hi a + G.hi a < F.lo b + G.lo b; grind
/-- nothing pulls at z -/
structure Zero (F : Fn) (z : Rat) : Prop where
  nn : 0 ≤ z
  lo : z = 0 ∨ F.lo z ≤ 0
  hi : 0 ≤ F.hi z
theorem Zero.uniq {F : Fn} (M : SMono F) {y z : Rat} (h : Zero F y) (g : Zero F z) : y = z := by
  have h1 := h.nn; have h2 := h.lo; have h3 := h.hi; have g1 := g.nn; have g2 := g.lo; have g3 := g.hi
  by_cases q : y < z
  · have := M.lt y z h1 q; grind
  · by_cases q2 : z < y
    · have := M.lt z y g1 q2; grind
    · grind
/-- what a tree is felt as through a cord of length l, its still height z -/
def felt (F : Fn) (z l : Rat) : Fn where
  lo := fun h => if h < z - l then F.lo (h + l) else if z + l < h then F.lo (h - l) else if h = z - l then F.lo z else 0
  hi := fun h => if h < z - l then F.hi (h + l) else if z + l < h then F.hi (h - l) else if h = z + l then F.hi z else 0
theorem felt_mono {F : Fn} (M : SMono F) {z l : Rat} (Z : Zero F z) (hl : 0 ≤ l) : WMono (felt F z l) := by
  have z1 := Z.nn; have z2 := Z.lo; have z3 := Z.hi
  -- the signs on both sides
  have neg : ∀ x, 0 ≤ x → x < z → F.hi x < 0 := fun x h0 hx => by have := M.lt x z h0 hx; grind
  have negl : ∀ x, 0 < x → x < z → F.lo x < 0 := fun x h0 hx => by have := neg x (by grind) hx; have := M.at_ x h0; grind
  have pos : ∀ x, z < x → 0 < F.lo x := fun x hx => by have := M.lt z x z1 hx; grind
  have posh : ∀ x, z < x → 0 < F.hi x := fun x hx => by have := pos x hx; have := M.at_ x (by grind); grind
  have hiz : 0 ≤ F.hi z := z3
  refine ⟨fun x hx => ?_, fun a b ha hab => ?_⟩
  · show (if x < z - l then F.lo (x + l) else if z + l < x then F.lo (x - l) else if x = z - l then F.lo z else 0) ≤ (if x < z - l then F.hi (x + l) else if z + l < x then F.hi (x - l) else if x = z + l then F.hi z else 0)
    by_cases c1 : x < z - l
    · rw [if_pos c1, if_pos c1]; exact M.at_ _ (by grind)
    · rw [if_neg c1, if_neg c1]
      by_cases c2 : z + l < x
      · rw [if_pos c2, if_pos c2]; exact M.at_ _ (by grind)
      · rw [if_neg c2, if_neg c2]
        by_cases c3 : x = z - l
        · rw [if_pos c3]
          have : F.lo z ≤ 0 := by grind
          by_cases c4 : x = z + l
          · rw [if_pos c4]; grind
          · rw [if_neg c4]; exact this
        · rw [if_neg c3]
          by_cases c4 : x = z + l
          · rw [if_pos c4]; exact hiz
          · rw [if_neg c4]; grind
  · show (if a < z - l then F.hi (a + l) else if z + l < a then F.hi (a - l) else if a = z + l then F.hi z else 0) ≤ (if b < z - l then F.lo (b + l) else if z + l < b then F.lo (b - l) else if b = z - l then F.lo z else 0)
    by_cases c1 : a < z - l
    · rw [if_pos c1]
      have n1 := neg (a + l) (by grind) (by grind)
      by_cases d1 : b < z - l
      · rw [if_pos d1]; have := M.lt (a + l) (b + l) (by grind) (by grind); grind
      · rw [if_neg d1]
        by_cases d2 : z + l < b
        · rw [if_pos d2]; have := pos (b - l) (by grind); grind
        · rw [if_neg d2]
          by_cases d3 : b = z - l
          · rw [if_pos d3]; have := M.lt (a + l) z (by grind) (by grind); grind
          · rw [if_neg d3]; grind
    · rw [if_neg c1]
      have e1 : ¬ b < z - l := by grind
      have e3 : ¬ b = z - l := by grind
      rw [if_neg e1]
      by_cases c2 : z + l < a
      · rw [if_pos c2, if_pos (by grind : z + l < b)]
        have := M.lt (a - l) (b - l) (by grind) (by grind); grind
      · rw [if_neg c2, if_neg e3]
        by_cases c4 : a = z + l
        · rw [if_pos c4, if_pos (by grind : z + l < b)]
          have := M.lt z (b - l) z1 (by grind); grind
        · rw [if_neg c4]
          by_cases d2 : z + l < b
          · rw [if_pos d2]; have := pos (b - l) (by grind); grind
          · rw [if_neg d2]; grind
/-- the bends of a felt tree -/
theorem felt_segs {m k : Int} {F : Fn} {r : Int} {S S' : List Rat} {z : Rat} {l : Int} (hr : 0 ≤ r ∧ r ≤ m) (h : Segs m k F r (0 :: S)) (Z : Zero F z) (hl : 0 ≤ l) (hu : Up S')
    (hn : ∀ y ∈ S', 0 ≤ y) (h0 : (0 : Rat) ∈ S') (hz1 : 0 ≤ z - l → z - l ∈ S') (hz2 : z + l ∈ S') (hs1 : ∀ x ∈ 0 :: S, x < z → 0 ≤ x - l → x - l ∈ S') (hs2 : ∀ x ∈ 0 :: S, ¬ x < z → x + l ∈ S') :
    Segs m (k + m * l) (felt F z l) r S' := by
  have z1 := Z.nn
  have hk : 0 ≤ m * l := Int.mul_nonneg (by omega) hl
  have hlq : (0 : Rat) ≤ (l : Rat) := by exact_mod_cast hl
  have nonneg0 : ∀ x ∈ 0 :: S, (0 : Rat) ≤ x := fun x hx => by
    rcases List.mem_cons.mp hx with rfl | hx
    · exact Rat.le_refl
    · exact Rat.le_of_lt ((List.pairwise_cons.mp h.up).1 x hx)
  have bnd : ∀ s c : Int, 0 ≤ s → s ≤ m → -k ≤ c → c ≤ k → (-(k + m * l) ≤ c - s * l ∧ c - s * l ≤ k + m * l) ∧ (-(k + m * l) ≤ c + s * l ∧ c + s * l ≤ k + m * l) := fun s c h1 h2 h3 h4 => by
    have g1 : 0 ≤ s * l := Int.mul_nonneg h1 hl
    have g2 : s * l ≤ m * l := Int.mul_le_mul_of_nonneg_right h2 hl
    omega
  refine Segs.of_gaps (List.ne_nil_of_mem h0) hu (fun a b ha hb hab hno => ?_) fun a ha hm => ?_
  · have na := hn a ha
    by_cases c1 : b ≤ z - l
    · -- to the left
      obtain ⟨s, c, hbd, e1, e2, e3⟩ := h.find hr (a := a + l) (b := b + l) (by grind) (by grind) fun y hy ⟨g1, g2⟩ => hno (y - l) (hs1 y hy (by grind) (by grind)) ⟨by grind, by grind⟩
      have B := bnd s c hbd.1 hbd.2.1 hbd.2.2.1 hbd.2.2.2
      refine ⟨s, c - s * l, ⟨hbd.1, hbd.2.1, B.1.1, B.1.2⟩, ?_, fun x g1 g2 => ?_, ?_⟩
      · show (if a < z - l then F.hi (a + l) else if z + l < a then F.hi (a - l) else if a = z + l then F.hi z else 0) = _
        rw [if_pos (by grind), e1, Rat.intCast_sub, Rat.intCast_mul]; grind
      · obtain ⟨q1, q2⟩ := e2 (x + l) (by grind) (by grind)
        refine ⟨?_, ?_⟩
        · show (if x < z - l then F.lo (x + l) else if z + l < x then F.lo (x - l) else if x = z - l then F.lo z else 0) = _
          rw [if_pos (by grind), q1, Rat.intCast_sub, Rat.intCast_mul]; grind
        · show (if x < z - l then F.hi (x + l) else if z + l < x then F.hi (x - l) else if x = z + l then F.hi z else 0) = _
          rw [if_pos (by grind), q2, Rat.intCast_sub, Rat.intCast_mul]; grind
      · show (if b < z - l then F.lo (b + l) else if z + l < b then F.lo (b - l) else if b = z - l then F.lo z else 0) = _
        by_cases d : b < z - l
        · rw [if_pos d, e3, Rat.intCast_sub, Rat.intCast_mul]; grind
        · have d' : b = z - l := by grind
          rw [if_neg d, if_neg (by grind), if_pos d']
          have : b + l = z := by grind
          rw [this] at e3
          rw [e3, Rat.intCast_sub, Rat.intCast_mul]; grind
    · by_cases c2 : z + l ≤ a
      · obtain ⟨s, c, hbd, e1, e2, e3⟩ := h.find hr (a := a - l) (b := b - l) (by grind) (by grind) fun y hy ⟨g1, g2⟩ => hno (y + l) (hs2 y hy (by grind)) ⟨by grind, by grind⟩
        have B := bnd s c hbd.1 hbd.2.1 hbd.2.2.1 hbd.2.2.2
        refine ⟨s, c + s * l, ⟨hbd.1, hbd.2.1, B.2.1, B.2.2⟩, ?_, fun x g1 g2 => ?_, ?_⟩
        · show (if a < z - l then F.hi (a + l) else if z + l < a then F.hi (a - l) else if a = z + l then F.hi z else 0) = _
          rw [if_neg (by grind)]
          by_cases d : z + l < a
          · rw [if_pos d, e1, Rat.intCast_add, Rat.intCast_mul]; grind
          · have d' : a = z + l := by grind
            rw [if_neg d, if_pos d']
            have : a - l = z := by grind
            rw [this] at e1
            rw [e1, Rat.intCast_add, Rat.intCast_mul]; grind
        · obtain ⟨q1, q2⟩ := e2 (x - l) (by grind) (by grind)
          refine ⟨?_, ?_⟩
          · show (if x < z - l then F.lo (x + l) else if z + l < x then F.lo (x - l) else if x = z - l then F.lo z else 0) = _
            rw [if_neg (by grind), if_pos (by grind), q1, Rat.intCast_add, Rat.intCast_mul]; grind
          · show (if x < z - l then F.hi (x + l) else if z + l < x then F.hi (x - l) else if x = z + l then F.hi z else 0) = _
            rw [if_neg (by grind), if_pos (by grind), q2, Rat.intCast_add, Rat.intCast_mul]; grind
        · show (if b < z - l then F.lo (b + l) else if z + l < b then F.lo (b - l) else if b = z - l then F.lo z else 0) = _
          rw [if_neg (by grind), if_pos (by grind), e3, Rat.intCast_add, Rat.intCast_mul]; grind
      · -- between
        have d1 : z - l ≤ a := by
          by_cases q : 0 ≤ z - l
          · have := hno (z - l) (hz1 q); grind
          · grind
        have d2 : b ≤ z + l := by have := hno (z + l) hz2; grind
        refine ⟨0, 0, ⟨by omega, by omega, ?_, ?_⟩, ?_, fun x g1 g2 => ⟨?_, ?_⟩, ?_⟩
        · have : 0 ≤ k := by
            cases S with
            | nil => obtain ⟨c, hb, _⟩ := h; omega
            | cons y t => obtain ⟨_, ⟨s, c, hb, _⟩, _⟩ := h; omega
          omega
        · have : 0 ≤ k := by
            cases S with
            | nil => obtain ⟨c, hb, _⟩ := h; omega
            | cons y t => obtain ⟨_, ⟨s, c, hb, _⟩, _⟩ := h; omega
          omega
        · show (if a < z - l then F.hi (a + l) else if z + l < a then F.hi (a - l) else if a = z + l then F.hi z else 0) = _
          rw [if_neg (by grind), if_neg (by grind), if_neg (by grind), Rat.intCast_zero]; grind
        · show (if x < z - l then F.lo (x + l) else if z + l < x then F.lo (x - l) else if x = z - l then F.lo z else 0) = _
          rw [if_neg (by grind), if_neg (by grind), if_neg (by grind), Rat.intCast_zero]; grind
        · show (if x < z - l then F.hi (x + l) else if z + l < x then F.hi (x - l) else if x = z + l then F.hi z else 0) = _
          rw [if_neg (by grind), if_neg (by grind), if_neg (by grind), Rat.intCast_zero]; grind
        · show (if b < z - l then F.lo (b + l) else if z + l < b then F.lo (b - l) else if b = z - l then F.lo z else 0) = _
          rw [if_neg (by grind), if_neg (by grind), if_neg (by grind), Rat.intCast_zero]; grind
  · -- the last
    have ha2 : z + l ≤ a := hm _ hz2
    obtain ⟨c, hb, e1, e2⟩ := h.findE (a := a - l) (by grind) fun y hy => by
      by_cases q : y < z
      · grind
      · have := hm _ (hs2 y hy q); grind
    have B := bnd r c hr.1 hr.2 hb.1 hb.2
    refine ⟨c + r * l, ⟨B.2.1, B.2.2⟩, ?_, fun x g => ?_⟩
    · show (if a < z - l then F.hi (a + l) else if z + l < a then F.hi (a - l) else if a = z + l then F.hi z else 0) = _
      rw [if_neg (by grind)]
      by_cases d : z + l < a
      · rw [if_pos d, e1, Rat.intCast_add, Rat.intCast_mul]; grind
      · have d' : a = z + l := by grind
        rw [if_neg d, if_pos d']
        have : a - l = z := by grind
        rw [this] at e1
        rw [e1, Rat.intCast_add, Rat.intCast_mul]; grind
    · obtain ⟨q1, q2⟩ := e2 (x - l) (by grind)
      refine ⟨?_, ?_⟩
      · show (if x < z - l then F.lo (x + l) else if z + l < x then F.lo (x - l) else if x = z - l then F.lo z else 0) = _
        rw [if_neg (by grind), if_pos (by grind), q1, Rat.intCast_add, Rat.intCast_mul]; grind
      · show (if x < z - l then F.hi (x + l) else if z + l < x then F.hi (x - l) else if x = z + l then F.hi z else 0) = _
        rw [if_neg (by grind), if_pos (by grind), q2, Rat.intCast_add, Rat.intCast_mul]; grind
end Td

/-! TdM2: the program's pulls as lists, and what they stand for. -/
namespace Td

/-! ### the program's functions over rationals -/
def pullAt (P : Pulls) (h : Rat) : Option Rat × Rat :=
  let ahead := P.rows.filter fun r => !decide (h < r.h)
  match ahead[ahead.length - 1]? with
  | none => (none, 0)
  | some here => if here.h = h then (here.b, here.a) else if ahead.length = P.rows.length then (some (here.a + P.rate * (h - here.h)), here.a + P.rate * (h - here.h))
    else match P.rows[ahead.length]? with
      | none => (none, 0)
      | some there => match there.b with
        | none => (none, 0)
        | some lo => (some (here.a + (h - here.h) / (there.h - here.h) * (lo - here.a)), here.a + (h - here.h) / (there.h - here.h) * (lo - here.a))
def noughtGo (rate : Rat) : Row → List Row → Rat
  | p, [] => p.h + (0 - p.a) / rate
  | p, r :: rest => if r.a < 0 then noughtGo rate r rest else match r.b with
    | none => r.h
    | some lo => if 0 < lo then p.h + (0 - p.a) / (lo - p.a) * (r.h - p.h) else r.h
def noughtOf (P : Pulls) : Rat := match P.rows with
  | [] => 0
  | r :: rest => noughtGo P.rate r (r :: rest)
def insAt (found : List Rat) (x : Rat) : List Rat := found.take (found.filter fun y => decide (y < x)).length ++ [x] ++ found.drop (found.filter fun y => decide (y < x)).length
def insNew (found : List Rat) (x : Rat) : List Rat := if x ∈ found then found else insAt found x
def inOrder (xs : List Rat) : List Rat := xs.foldl insNew []
def addO : Option Rat → Option Rat → Option Rat
  | some a, some b => some (a + b)
  | _, _ => none
def bothRow (P Q : Pulls) (h : Rat) : Row := ⟨h, addO (pullAt P h).1 (pullAt Q h).1, (pullAt P h).2 + (pullAt Q h).2⟩
def both (P Q : Pulls) : Pulls := ⟨(inOrder (P.rows.map (·.h) ++ Q.rows.map (·.h))).map (bothRow P Q), P.rate + Q.rate⟩
def feltP (P : Pulls) (h still far : Rat) : Option Rat × Rat :=
  if h < still - far then pullAt P (h + far) else if still + far < h then pullAt P (h - far) else
    (if h = still - far then (pullAt P still).1 else some 0, if h = still + far then (pullAt P still).2 else 0)
def cordSpots (P : Pulls) (still far : Rat) : List Rat := [0, still - far, still + far] ++ P.rows.map fun r => if r.h < still then r.h - far else r.h + far
def cordRow (P : Pulls) (still far h : Rat) : Row := ⟨h, if h = 0 then none else (feltP P h still far).1, (feltP P h still far).2⟩
def byCord (P : Pulls) (far : Rat) : Pulls := ⟨(inOrder ((cordSpots P (noughtOf P) far).filter fun s => decide (0 ≤ s))).map (cordRow P (noughtOf P) far), P.rate⟩
def alone (own strong : Int) : Pulls := ⟨[⟨0, none, ((0 - strong * own : Int) : Rat)⟩], (strong : Rat)⟩

/-! ### in order -/
theorem filter_lt_up : ∀ {S : List Rat} (x : Rat), Up S → ∃ A B, S = A ++ B ∧ S.filter (fun y => decide (y < x)) = A ∧ (∀ y ∈ A, y < x) ∧ ∀ y ∈ B, x ≤ y
  | [], x, _ => ⟨[], [], rfl, rfl, by simp, by simp⟩
  | a :: S, x, h => by
    obtain ⟨h1, h2⟩ := List.pairwise_cons.mp h
    by_cases q : a < x
    · obtain ⟨A, B, e1, e2, e3, e4⟩ := filter_lt_up x h2
      refine ⟨a :: A, B, by rw [e1]; rfl, ?_, ?_, e4⟩
      · rw [List.filter_cons, if_pos (decide_eq_true q), e2]
      · intro y hy
        rcases List.mem_cons.mp hy with rfl | hy
        · exact q
        · exact e3 y hy
    · refine ⟨[], a :: S, rfl, ?_, by simp, ?_⟩
      · refine List.filter_eq_nil_iff.mpr fun y hy => ?_
        rcases List.mem_cons.mp hy with rfl | hy
        · simpa using q
        · have := h1 y hy
          simp; grind
      · intro y hy
        rcases List.mem_cons.mp hy with rfl | hy
        · grind
        · have := h1 y hy; grind
theorem insNew_up {S : List Rat} (x : Rat) (h : Up S) : Up (insNew S x) ∧ ∀ y, y ∈ insNew S x ↔ y ∈ S ∨ y = x := by
  unfold insNew
  by_cases q : x ∈ S
  · rw [if_pos q]
    exact ⟨h, fun y => ⟨.inl, fun z => z.elim id fun e => e ▸ q⟩⟩
  · rw [if_neg q]
    obtain ⟨A, B, e1, e2, e3, e4⟩ := filter_lt_up x h
    unfold insAt
    rw [e2, e1]
    have t1 : (A ++ B).take A.length = A := by simp
    have t2 : (A ++ B).drop A.length = B := by simp
    rw [t1, t2]
    have e4' : ∀ y ∈ B, x < y := fun y hy => by
      have := e4 y hy
      have : y ≠ x := fun z => q (by rw [e1, ← z]; exact List.mem_append_right _ hy)
      grind
    rw [e1] at h
    obtain ⟨u1, u2, u3⟩ := List.pairwise_append.mp h
    refine ⟨?_, fun y => by simp only [List.mem_append, List.mem_singleton]; grind⟩
    rw [List.append_assoc]
    refine List.pairwise_append.mpr ⟨u1, List.pairwise_cons.mpr ⟨e4', u2⟩, fun a ha b hb => ?_⟩
    rcases List.mem_append.mp hb with hb | hb
    · rw [List.mem_singleton.mp hb]; exact e3 a ha
    · exact u3 a ha b hb
theorem inOrder_go : ∀ (xs S : List Rat), Up S → Up (xs.foldl insNew S) ∧ ∀ y, y ∈ xs.foldl insNew S ↔ y ∈ S ∨ y ∈ xs
  | [], S, h => ⟨h, fun y => by simp⟩
  | x :: xs, S, h => by
    obtain ⟨h1, h2⟩ := insNew_up x h
    obtain ⟨h3, h4⟩ := inOrder_go xs _ h1
    refine ⟨h3, fun y => ?_⟩
    rw [List.foldl_cons, h4, h2, List.mem_cons]
    grind
theorem inOrder_up (xs : List Rat) : Up (inOrder xs) := (inOrder_go xs [] List.Pairwise.nil).1
theorem inOrder_mem (xs : List Rat) (y : Rat) : y ∈ inOrder xs ↔ y ∈ xs := by
  have := (inOrder_go xs [] List.Pairwise.nil).2 y
  unfold inOrder
  rw [this]; simp
theorem insNew_length (S : List Rat) (x : Rat) : (insNew S x).length ≤ S.length + 1 := by
  unfold insNew insAt
  split
  · omega
  · simp only [List.length_append, List.length_take, List.length_drop, List.length_singleton]
    have := List.length_filter_le (fun y => decide (y < x)) S
    omega
theorem inOrder_length (xs : List Rat) : (inOrder xs).length ≤ xs.length := by
  have go : ∀ (xs S : List Rat), (xs.foldl insNew S).length ≤ S.length + xs.length := by
    intro xs
    induction xs with
    | nil => intro S; simp
    | cons x xs ih => intro S; have := ih (insNew S x); have := insNew_length S x; simp only [List.foldl_cons, List.length_cons]; omega
  have := go xs []
  simpa [inOrder] using this

/-! ### what a list of bends stands for -/
structure IsP (m k : Int) (F : Fn) (r : Int) (S : List Rat) (P : Pulls) : Prop where
  rows : P.rows = (0 :: S).map (rowAt F)
  rate : P.rate = (r : Rat)
  segs : Segs m k F r (0 :: S)
  hr : 0 < r ∧ r ≤ m
theorem Segs.tail {m k : Int} {F : Fn} {r : Int} : ∀ {A : List Rat} {x : Rat} {B : List Rat}, Segs m k F r (A ++ x :: B) → Segs m k F r (x :: B)
  | [], _, _, h => h
  | [a], x, B, h => h.2.2
  | a :: b :: A, x, B, h => Segs.tail (A := b :: A) h.2.2
theorem filter_le_up : ∀ {S : List Rat} (x : Rat), Up S → ∃ A B, S = A ++ B ∧ S.filter (fun y => !decide (x < y)) = A ∧ (∀ y ∈ A, y ≤ x) ∧ ∀ y ∈ B, x < y
  | [], x, _ => ⟨[], [], rfl, rfl, by simp, by simp⟩
  | a :: S, x, h => by
    obtain ⟨h1, h2⟩ := List.pairwise_cons.mp h
    by_cases q : x < a
    · refine ⟨[], a :: S, rfl, ?_, by simp, ?_⟩
      · refine List.filter_eq_nil_iff.mpr fun y hy => ?_
        rcases List.mem_cons.mp hy with rfl | hy
        · simpa using q
        · have := h1 y hy
          simp; grind
      · intro y hy
        rcases List.mem_cons.mp hy with rfl | hy
        · exact q
        · have := h1 y hy; grind
    · obtain ⟨A, B, e1, e2, e3, e4⟩ := filter_le_up x h2
      refine ⟨a :: A, B, by rw [e1]; rfl, ?_, ?_, e4⟩
      · rw [List.filter_cons, if_pos (by simpa using q), e2]
      · intro y hy
        rcases List.mem_cons.mp hy with rfl | hy
        · grind
        · exact e3 y hy
theorem pullAt_eq {m k : Int} {F : Fn} {r : Int} {S : List Rat} {P : Pulls} (I : IsP m k F r S P) {h : Rat} (h0 : 0 ≤ h) : pullAt P h = (below F h, F.hi h) := by
  obtain ⟨A, B, e1, e2, e3, e4⟩ := filter_le_up h I.segs.up
  have hA : ∃ A' x, A = A' ++ [x] := by
    have : A ≠ [] := by
      intro z
      have m0 : (0 : Rat) ∈ (0 :: S).filter (fun y => !decide (h < y)) := List.mem_filter.mpr ⟨by simp, by simp; grind⟩
      rw [e2, z] at m0; cases m0
    exact ⟨A.dropLast, A.getLast this, (List.dropLast_concat_getLast this).symm⟩
  obtain ⟨A', x, rfl⟩ := hA
  have hx : x ≤ h := e3 x (by simp)
  have hx0 : 0 ≤ x := by
    have u := I.segs.up
    have : x ∈ 0 :: S := by rw [e1]; simp
    rcases List.mem_cons.mp this with z | z
    · rw [z]; exact Rat.le_refl
    · exact Rat.le_of_lt ((List.pairwise_cons.mp u).1 x z)
  have sg := I.segs
  rw [e1, List.append_assoc] at sg
  have sg2 : Segs m k F r (x :: B) := Segs.tail (A := A') sg
  have hf : P.rows.filter (fun r => !decide (h < r.h)) = (A' ++ [x]).map (rowAt F) := by
    rw [I.rows, List.filter_map]
    congr 1
  have hrows : P.rows = (A' ++ [x] ++ B).map (rowAt F) := by rw [I.rows, e1]
  unfold pullAt
  simp only [hf]
  have g1 : ((A' ++ [x]).map (rowAt F))[((A' ++ [x]).map (rowAt F)).length - 1]? = some (rowAt F x) := by simp
  rw [g1]
  dsimp only
  by_cases q : x = h
  · subst q
    rw [if_pos (show (rowAt F x).h = x from rfl)]; rfl
  · rw [if_neg (show ¬ (rowAt F x).h = h from q)]
    have hne : h ≠ 0 := by grind
    have hxh : x < h := by grind
    cases B with
    | nil =>
      rw [if_pos (by rw [hrows]; simp)]
      obtain ⟨c, hb, g2, g3⟩ := sg2
      obtain ⟨g4, g5⟩ := g3 h hxh
      unfold below
      rw [if_neg hne, g4, g5, I.rate]
      show (some (F.hi x + r * (h - x)), F.hi x + r * (h - x)) = _
      rw [g2]
      have : r * x - c + r * (h - x) = r * h - c := by grind
      rw [this]
    | cons y B =>
      rw [if_neg (by rw [hrows]; simp)]
      have g6 : P.rows[((A' ++ [x]).map (rowAt F)).length]? = some (rowAt F y) := by
        rw [hrows, List.length_map, List.getElem?_map]
        simp
      rw [g6]
      have hy : h < y := e4 y (by simp)
      obtain ⟨g7, ⟨s, c, hb, g2, g3, g8⟩, _⟩ := sg2
      obtain ⟨g4, g5⟩ := g3 h hxh hy
      have hby : (rowAt F y).b = some (F.lo y) := by show below F y = _; unfold below; rw [if_neg (by grind)]
      dsimp only
      rw [hby]
      dsimp only
      unfold below
      rw [if_neg hne, g4, g5]
      show (some (F.hi x + (h - x) / (y - x) * (F.lo y - F.hi x)), F.hi x + (h - x) / (y - x) * (F.lo y - F.hi x)) = _
      rw [g2, g8]
      have : s * x - c + (h - x) / (y - x) * (s * y - c - (s * x - c)) = s * h - c := by
        have : y - x ≠ 0 := by grind
        grind
      rw [this]
theorem noughtGo_zero {m k : Int} {F : Fn} {r : Int} (M : SMono F) (hr : 0 < r) : ∀ {S : List Rat} {p : Rat}, 0 ≤ p → F.hi p < 0 → Segs m k F r (p :: S) → Zero F (noughtGo (r : Rat) (rowAt F p) (S.map (rowAt F)))
  | [], p, hp, hneg, h => by
    obtain ⟨c, hb, g2, g3⟩ := h
    show Zero F (p + (0 - F.hi p) / r)
    have hr' : (0 : Rat) < (r : Rat) := by exact_mod_cast hr
    have e : p + (0 - F.hi p) / r = c / r := by rw [g2]; grind
    have hgt : p < c / (r : Rat) := by
      rw [← e]
      have : 0 < (0 - F.hi p) / (r : Rat) := by
        rw [Rat.div_def]
        exact Rat.mul_pos (by grind) (Rat.inv_pos.mpr hr')
      grind
    obtain ⟨g4, g5⟩ := g3 (c / r) hgt
    have ez : (r : Rat) * (c / r) - c = 0 := by grind
    rw [e]
    exact ⟨by grind, .inr (by rw [g4, ez]; exact Rat.le_refl), by rw [g5, ez]; exact Rat.le_refl⟩
  | y :: S, p, hp, hneg, h => by
    obtain ⟨g7, ⟨s, c, hb, g2, g3, g8⟩, g9⟩ := h
    show Zero F (if F.hi y < 0 then noughtGo (r : Rat) (rowAt F y) (S.map (rowAt F)) else match below F y with
      | none => y
      | some lo => if 0 < lo then p + (0 - F.hi p) / (lo - F.hi p) * (y - p) else y)
    have hy0 : 0 < y := by grind
    by_cases q : F.hi y < 0
    · rw [if_pos q]
      exact noughtGo_zero M hr (by grind) q g9
    · rw [if_neg q]
      have hby : below F y = some (F.lo y) := by unfold below; rw [if_neg (by grind)]
      rw [hby]
      dsimp only
      by_cases q2 : 0 < F.lo y
      · rw [if_pos q2]
        have hd : F.lo y - F.hi p ≠ 0 := by grind
        have hs : (0 : Rat) < (s : Rat) := by
          by_cases z : s = 0
          · subst z; rw [Rat.intCast_zero] at g2 g8; grind
          · have : 0 < s := by omega
            exact_mod_cast this
        have e : p + (0 - F.hi p) / (F.lo y - F.hi p) * (y - p) = c / s := by
          rw [g2, g8]
          have : y - p ≠ 0 := by grind
          have : (s : Rat) * (y - p) ≠ 0 := by grind
          have h1 : (s * y - c - (s * p - c) : Rat) = s * (y - p) := by grind
          rw [h1]
          grind
        rw [e]
        have l1 : p < c / (s : Rat) := by
          have : (s : Rat) * p - c < 0 := by rw [← g2]; exact hneg
          have e1 : (s : Rat) * (c / s) = c := by grind
          by_cases z : p < c / (s : Rat)
          · exact z
          · have : (s : Rat) * (c / s) ≤ s * p := Rat.mul_le_mul_of_nonneg_left (by grind) (by grind)
            grind
        have l2 : c / (s : Rat) < y := by
          have : 0 < (s : Rat) * y - c := by rw [← g8]; exact q2
          have e1 : (s : Rat) * (c / s) = c := by grind
          by_cases z : c / (s : Rat) < y
          · exact z
          · have : (s : Rat) * y ≤ s * (c / s) := Rat.mul_le_mul_of_nonneg_left (by grind) (by grind)
            grind
        obtain ⟨g4, g5⟩ := g3 (c / s) l1 l2
        have ez : (s : Rat) * (c / s) - c = 0 := by grind
        exact ⟨by grind, .inr (by rw [g4, ez]; exact Rat.le_refl), by rw [g5, ez]; exact Rat.le_refl⟩
      · rw [if_neg q2]
        exact ⟨by grind, .inr (by grind), by grind⟩
theorem nought_zero {m k : Int} {F : Fn} {r : Int} {S : List Rat} {P : Pulls} (I : IsP m k F r S P) (M : SMono F) : Zero F (noughtOf P) := by
  unfold noughtOf
  rw [I.rows, I.rate]
  show Zero F (noughtGo (r : Rat) (rowAt F 0) (rowAt F 0 :: S.map (rowAt F)))
  show Zero F (if F.hi 0 < 0 then noughtGo (r : Rat) (rowAt F 0) (S.map (rowAt F)) else match below F 0 with
    | none => 0
    | some lo => if 0 < lo then 0 + (0 - F.hi 0) / (lo - F.hi 0) * (0 - 0) else 0)
  by_cases q : F.hi 0 < 0
  · rw [if_pos q]
    exact noughtGo_zero M I.hr.1 Rat.le_refl q I.segs
  · rw [if_neg q]
    have : below F 0 = none := by unfold below; rw [if_pos rfl]
    rw [this]
    exact ⟨Rat.le_refl, .inl rfl, by grind⟩
theorem up_head {S : List Rat} (hu : Up S) (h0 : (0 : Rat) ∈ S) (hn : ∀ y ∈ S, 0 ≤ y) : ∃ S', S = 0 :: S' := by
  cases S with
  | nil => cases h0
  | cons x S' =>
    rcases List.mem_cons.mp h0 with e | e
    · exact ⟨S', by rw [e]⟩
    · have := (List.pairwise_cons.mp hu).1 0 e
      have := hn x (by simp)
      grind
theorem IsP.nn {m k : Int} {F : Fn} {r : Int} {S : List Rat} {P : Pulls} (I : IsP m k F r S P) : ∀ y ∈ 0 :: S, (0 : Rat) ≤ y := fun x hx => by
  rcases List.mem_cons.mp hx with rfl | hx
  · exact Rat.le_refl
  · exact Rat.le_of_lt ((List.pairwise_cons.mp I.segs.up).1 x hx)
theorem IsP.hs {m k : Int} {F : Fn} {r : Int} {S : List Rat} {P : Pulls} (I : IsP m k F r S P) : P.rows.map (·.h) = 0 :: S := by
  rw [I.rows, List.map_map]
  have : ((fun x : Row => x.h) ∘ rowAt F) = id := by funext x; rfl
  rw [this, List.map_id]
theorem below_add (F G : Fn) (x : Rat) : addO (below F x) (below G x) = below (F.add G) x := by
  unfold below
  by_cases q : x = 0
  · rw [if_pos q, if_pos q, if_pos q]; rfl
  · rw [if_neg q, if_neg q, if_neg q]; rfl
theorem both_is {m k m' k' : Int} {F G : Fn} {r r' : Int} {S S' : List Rat} {P Q : Pulls} (I : IsP m k F r S P) (J : IsP m' k' G r' S' Q) :
    ∃ T, 0 :: T = inOrder ((0 :: S) ++ (0 :: S')) ∧ IsP (m + m') (k + k') (F.add G) (r + r') T (both P Q) := by
  have hn : ∀ y ∈ inOrder ((0 :: S) ++ (0 :: S')), (0 : Rat) ≤ y := fun y hy => by
    rcases List.mem_append.mp ((inOrder_mem _ _).mp hy) with q | q
    · exact I.nn y q
    · exact J.nn y q
  obtain ⟨T, hT⟩ := up_head (inOrder_up _) ((inOrder_mem _ _).mpr (List.mem_append_left _ (List.mem_cons_self ..))) hn
  have hu := inOrder_up ((0 :: S) ++ (0 :: S'))
  refine ⟨T, hT.symm, ?_, ?_, ?_, ?_⟩
  · show (inOrder (P.rows.map (·.h) ++ Q.rows.map (·.h))).map (bothRow P Q) = _
    rw [I.hs, J.hs, hT]
    refine List.map_congr_left fun x hx => ?_
    have hx0 : 0 ≤ x := hn x (by rw [hT]; exact hx)
    unfold bothRow
    rw [pullAt_eq I hx0, pullAt_eq J hx0]
    show (⟨x, addO (below F x) (below G x), F.hi x + G.hi x⟩ : Row) = _
    rw [below_add]; rfl
  · show P.rate + Q.rate = _
    rw [I.rate, J.rate, Rat.intCast_add]
  · rw [← hT]
    have s1 := I.segs.finer ⟨Int.le_of_lt I.hr.1, I.hr.2⟩ hu (by rw [hT]; simp) (fun y hy => (inOrder_mem _ _).mpr (List.mem_append_left _ hy)) hn
    have s2 := J.segs.finer ⟨Int.le_of_lt J.hr.1, J.hr.2⟩ hu (by rw [hT]; simp) (fun y hy => (inOrder_mem _ _).mpr (List.mem_append_right _ hy)) hn
    exact s1.add s2
  · have := I.hr; have := J.hr; omega
theorem feltP_eq {m k : Int} {F : Fn} {r : Int} {S : List Rat} {P : Pulls} (I : IsP m k F r S P) {z l h : Rat} (hl : 0 ≤ l) (hz : 0 ≤ z) (h0 : 0 ≤ h) :
    (⟨h, if h = 0 then none else (feltP P h z l).1, (feltP P h z l).2⟩ : Row) = rowAt (felt F z l) h := by
  unfold rowAt below feltP
  show _ = (⟨h, if h = 0 then none else some (if h < z - l then F.lo (h + l) else if z + l < h then F.lo (h - l) else if h = z - l then F.lo z else 0),
    if h < z - l then F.hi (h + l) else if z + l < h then F.hi (h - l) else if h = z + l then F.hi z else 0⟩ : Row)
  by_cases c1 : h < z - l
  · rw [if_pos c1, if_pos c1, if_pos c1, pullAt_eq I (by grind)]
    by_cases q : h = 0
    · rw [if_pos q, if_pos q]
    · rw [if_neg q, if_neg q]
      unfold below
      rw [if_neg (by grind)]
  · rw [if_neg c1, if_neg c1, if_neg c1]
    by_cases c2 : z + l < h
    · rw [if_pos c2, if_pos c2, if_pos c2, pullAt_eq I (by grind)]
      by_cases q : h = 0
      · rw [if_pos q, if_pos q]
      · rw [if_neg q, if_neg q]
        unfold below
        rw [if_neg (by grind)]
    · rw [if_neg c2, if_neg c2, if_neg c2, pullAt_eq I hz]
      by_cases q : h = 0
      · rw [if_pos q, if_pos q]
      · rw [if_neg q, if_neg q]
        by_cases c3 : h = z - l
        · rw [if_pos c3, if_pos c3]
          unfold below
          rw [if_neg (by grind)]
        · rw [if_neg c3, if_neg c3]
theorem cord_is {m k : Int} {F : Fn} {r : Int} {S : List Rat} {P : Pulls} (I : IsP m k F r S P) (M : SMono F) {l : Int} (hl : 0 ≤ l) :
    ∃ T, 0 :: T = inOrder ((cordSpots P (noughtOf P) (l : Rat)).filter fun s => decide (0 ≤ s)) ∧ IsP m (k + m * l) (felt F (noughtOf P) (l : Rat)) r T (byCord P (l : Rat)) := by
  have Z := nought_zero I M
  have hlq : (0 : Rat) ≤ (l : Rat) := by exact_mod_cast hl
  have mem : ∀ y, y ∈ inOrder ((cordSpots P (noughtOf P) (l : Rat)).filter fun s => decide (0 ≤ s)) ↔ y ∈ cordSpots P (noughtOf P) (l : Rat) ∧ 0 ≤ y := fun y => by
    rw [inOrder_mem, List.mem_filter]; simp
  have hn : ∀ y ∈ inOrder ((cordSpots P (noughtOf P) (l : Rat)).filter fun s => decide (0 ≤ s)), (0 : Rat) ≤ y := fun y hy => ((mem y).mp hy).2
  have h0 : (0 : Rat) ∈ inOrder ((cordSpots P (noughtOf P) (l : Rat)).filter fun s => decide (0 ≤ s)) := (mem 0).mpr ⟨by unfold cordSpots; simp, Rat.le_refl⟩
  obtain ⟨T, hT⟩ := up_head (inOrder_up _) h0 hn
  have hr0 : 0 ≤ r ∧ r ≤ m := ⟨Int.le_of_lt I.hr.1, I.hr.2⟩
  have spotmem : ∀ x ∈ 0 :: S, (if x < noughtOf P then x - (l : Rat) else x + l) ∈ cordSpots P (noughtOf P) (l : Rat) := fun x hx => by
    unfold cordSpots
    refine List.mem_append_right _ (List.mem_map.mpr ⟨rowAt F x, ?_, rfl⟩)
    rw [I.rows]
    exact List.mem_map.mpr ⟨x, hx, rfl⟩
  refine ⟨T, hT.symm, ?_, I.rate, ?_, I.hr⟩
  · show (inOrder ((cordSpots P (noughtOf P) (l : Rat)).filter fun s => decide (0 ≤ s))).map (cordRow P (noughtOf P) (l : Rat)) = _
    rw [hT]
    refine List.map_congr_left fun x hx => ?_
    exact feltP_eq I hlq Z.nn (hn x (by rw [hT]; exact hx))
  · rw [← hT]
    refine felt_segs hr0 I.segs Z hl (inOrder_up _) hn h0 (fun h => (mem _).mpr ⟨by unfold cordSpots; simp, h⟩) ((mem _).mpr ⟨by unfold cordSpots; simp, by have := Z.nn; grind⟩) (fun x hx q h => (mem _).mpr ⟨?_, h⟩) fun x hx q => (mem _).mpr ⟨?_, ?_⟩
    · have := spotmem x hx; rw [if_pos q] at this; exact this
    · have := spotmem x hx; rw [if_neg q] at this; exact this
    · have := Z.nn; grind
def ownF (own strong : Int) : Fn := ⟨fun h => strong * h - ((strong * own : Int) : Rat), fun h => strong * h - ((strong * own : Int) : Rat)⟩
theorem alone_is {own strong : Int} (h : 0 < strong) : IsP strong (strong * own.natAbs) (ownF own strong) strong [] (alone own strong) := by
  have hb : -(strong * (own.natAbs : Int)) ≤ strong * own ∧ strong * own ≤ strong * own.natAbs := by
    have h1 : own ≤ own.natAbs := by omega
    have h2 : -(own.natAbs : Int) ≤ own := by omega
    have g1 := Int.mul_le_mul_of_nonneg_left h1 (Int.le_of_lt h)
    have g2 := Int.mul_le_mul_of_nonneg_left h2 (Int.le_of_lt h)
    rw [Int.mul_neg] at g2
    exact ⟨g2, g1⟩
  refine ⟨?_, rfl, ⟨strong * own, hb, rfl, fun h _ => ⟨rfl, rfl⟩⟩, h, Int.le_refl _⟩
  show [(⟨0, none, ((0 - strong * own : Int) : Rat)⟩ : Row)] = [⟨0, below (ownF own strong) 0, (ownF own strong).hi 0⟩]
  have e1 : below (ownF own strong) 0 = none := by unfold below; rw [if_pos rfl]
  have e2 : (ownF own strong).hi 0 = ((0 - strong * own : Int) : Rat) := by
    show strong * (0 : Rat) - ((strong * own : Int) : Rat) = _
    rw [Rat.intCast_sub, Rat.intCast_zero]; grind
  rw [e1, e2]
theorem own_mono {own strong : Int} (h : 0 < strong) : SMono (ownF own strong) := by
  have h' : (0 : Rat) < (strong : Rat) := by exact_mod_cast h
  refine ⟨fun x _ => Rat.le_refl, fun a b ha hab => ?_⟩
  show strong * a - ((strong * own : Int) : Rat) < strong * b - ((strong * own : Int) : Rat)
  have := Rat.mul_lt_mul_of_pos_left hab h'
  grind
end Td

/-! TdM3: how great the numbers are. -/
namespace Td

/-- top and bottom of at most so many bits -/
def Sm (n : Nat) (q : Rat) : Prop := q.num.natAbs < 2 ^ n ∧ q.den < 2 ^ n
theorem Sm.mono {n m : Nat} {q : Rat} (h : Sm n q) (e : n ≤ m) : Sm m q :=
  ⟨Nat.lt_of_lt_of_le h.1 (Nat.pow_le_pow_right (by decide) e), Nat.lt_of_lt_of_le h.2 (Nat.pow_le_pow_right (by decide) e)⟩
theorem mkRat_le (n : Int) (d : Nat) (hd : d ≠ 0) : (mkRat n d).num.natAbs ≤ n.natAbs ∧ (mkRat n d).den ≤ d := by
  rw [Rat.num_mkRat, Rat.den_mkRat, if_neg hd, if_neg hd]
  refine ⟨?_, Nat.div_le_self _ _⟩
  have : (n / ((d.gcd n.natAbs : Nat) : Int)).natAbs = n.natAbs / (d.gcd n.natAbs) := by
    have hdvd : ((d.gcd n.natAbs : Nat) : Int) ∣ n := Int.ofNat_dvd_left.mpr (Nat.gcd_dvd_right _ _)
    rw [Int.natAbs_ediv_of_dvd hdvd, Int.natAbs_natCast]
  rw [this]
  exact Nat.div_le_self _ _
theorem Sm.mk {k : Nat} {n : Int} {d : Nat} (hd : d ≠ 0) (h1 : n.natAbs < 2 ^ k) (h2 : d < 2 ^ k) : Sm k (mkRat n d) :=
  ⟨Nat.lt_of_le_of_lt (mkRat_le n d hd).1 h1, Nat.lt_of_le_of_lt (mkRat_le n d hd).2 h2⟩
theorem pow_mul_lt {a b m n : Nat} (h : a < 2 ^ m) (g : b < 2 ^ n) : a * b < 2 ^ (m + n) := by
  rw [Nat.pow_add]
  exact Nat.mul_lt_mul'' h g
theorem Sm.add {n m : Nat} {a b : Rat} (h : Sm n a) (g : Sm m b) : Sm (n + m + 1) (a + b) := by
  rw [Rat.add_def']
  have e : 2 ^ (n + m + 1) = 2 ^ (n + m) + 2 ^ (n + m) := by rw [Nat.pow_succ]; omega
  refine Sm.mk (Nat.mul_ne_zero a.den_nz b.den_nz) ?_ ?_
  · have h1 : (a.num * b.den).natAbs < 2 ^ (n + m) := by rw [Int.natAbs_mul, Int.natAbs_natCast]; exact pow_mul_lt h.1 g.2
    have h2 : (b.num * a.den).natAbs < 2 ^ (n + m) := by rw [Int.natAbs_mul, Int.natAbs_natCast, Nat.add_comm]; exact pow_mul_lt g.1 h.2
    omega
  · have := pow_mul_lt h.2 g.2; omega
theorem Sm.neg {n : Nat} {a : Rat} (h : Sm n a) : Sm n (-a) := ⟨by rw [Rat.neg_num, Int.natAbs_neg]; exact h.1, by rw [Rat.neg_den]; exact h.2⟩
theorem Sm.sub {n m : Nat} {a b : Rat} (h : Sm n a) (g : Sm m b) : Sm (n + m + 1) (a - b) := by
  rw [Rat.sub_eq_add_neg]; exact h.add g.neg
theorem Sm.mul {n m : Nat} {a b : Rat} (h : Sm n a) (g : Sm m b) : Sm (n + m) (a * b) := by
  rw [Rat.mul_def']
  refine Sm.mk (Nat.mul_ne_zero a.den_nz b.den_nz) ?_ (pow_mul_lt h.2 g.2)
  rw [Int.natAbs_mul]; exact pow_mul_lt h.1 g.1
theorem Sm.int {n : Nat} {i : Int} (h : i.natAbs < 2 ^ n) (h0 : 0 < n) : Sm n (i : Rat) := ⟨by rw [Rat.num_intCast]; exact h, by rw [Rat.den_intCast]; exact Nat.one_lt_two_pow (by omega)⟩
/-- one by another -/
theorem num_pos' {b : Rat} (h : 0 < b) : 0 < b.num := by
  have h1 : 0 ≤ b.num := Rat.num_nonneg.mpr (Rat.le_of_lt h)
  have h2 : b.num ≠ 0 := fun e => by
    have := Rat.num_eq_zero.mp e
    subst this
    exact absurd h (by decide)
  omega
theorem div_mk {a b : Rat} (h : 0 < b) : a / b = mkRat (a.num * b.den) (a.den * b.num.toNat) ∧ a.den * b.num.toNat ≠ 0 := by
  have hn : 0 < b.num := num_pos' h
  have hz : a.den * b.num.toNat ≠ 0 := Nat.mul_ne_zero a.den_nz (by omega)
  refine ⟨?_, hz⟩
  have e : ((b.num.toNat : Nat) : Int) = b.num := by omega
  rw [Rat.div_def, Rat.inv_def]
  have : Rat.divInt (b.den : Int) b.num = mkRat b.den b.num.toNat := by
    rw [← Rat.divInt_ofNat, e]
  rw [this]
  conv => lhs; rw [← Rat.mkRat_self a]
  rw [Rat.mkRat_mul_mkRat]
theorem Sm.div {n m : Nat} {a b : Rat} (h : Sm n a) (g : Sm m b) (hb : 0 < b) : Sm (n + m) (a / b) := by
  obtain ⟨e, hz⟩ := div_mk (a := a) hb
  rw [e]
  have hn : 0 < b.num := num_pos' hb
  refine Sm.mk hz ?_ (pow_mul_lt h.2 (by have := g.1; omega))
  rw [Int.natAbs_mul, Int.natAbs_natCast]; exact pow_mul_lt h.1 g.2

/-! ### heights of bends: a whole number by a small one -/
def HB (d b : Int) (x : Rat) : Prop := ∃ n q : Int, (0 < q ∧ q ≤ d) ∧ (-b ≤ n ∧ n ≤ b) ∧ x = (n : Rat) / (q : Rat)
theorem HB.mono {d b d' b' : Int} {x : Rat} (h : HB d b x) (h1 : d ≤ d') (h2 : b ≤ b') : HB d' b' x := by
  obtain ⟨n, q, g1, g2, e⟩ := h
  exact ⟨n, q, by omega, by omega, e⟩
theorem HB.zero {d b : Int} (h : 0 < d) (h2 : 0 ≤ b) : HB d b 0 := ⟨0, 1, by omega, by omega, by rw [Rat.intCast_zero]; grind⟩
theorem HB.shift {d b : Int} {x : Rat} (h : HB d b x) {l : Int} (hl : 0 ≤ l) : HB d (b + d * l) (x + l) ∧ HB d (b + d * l) (x - l) := by
  obtain ⟨n, q, g1, g2, e⟩ := h
  have h1 : 0 ≤ q * l := Int.mul_nonneg (by omega) hl
  have h2 : q * l ≤ d * l := Int.mul_le_mul_of_nonneg_right g1.2 hl
  have hq : (q : Rat) ≠ 0 := by
    have : q ≠ 0 := by omega
    exact_mod_cast this
  refine ⟨⟨n + q * l, q, g1, by omega, ?_⟩, ⟨n - q * l, q, g1, by omega, ?_⟩⟩
  · rw [e, Rat.intCast_add, Rat.intCast_mul]; grind
  · rw [e, Rat.intCast_sub, Rat.intCast_mul]; grind
theorem HB.sm {d b : Int} {x : Rat} (h : HB d b x) {k : Nat} (h1 : d < 2 ^ k) (h2 : b < 2 ^ k) : Sm k x := by
  obtain ⟨n, q, g1, g2, e⟩ := h
  have e2 : (q : Rat) = ((q.toNat : Nat) : Rat) := by
    have : q = ((q.toNat : Nat) : Int) := by omega
    conv => lhs; rw [this]
    rfl
  rw [e, e2, ← Rat.mkRat_eq_div]
  refine Sm.mk (by omega) ?_ ?_
  · have : ((2 ^ k : Nat) : Int) = 2 ^ k := by push_cast; rfl
    omega
  · have : ((2 ^ k : Nat) : Int) = 2 ^ k := by push_cast; rfl
    omega
theorem noughtGo_hb {m k : Int} {F : Fn} {r : Int} {b : Int} (hr : 0 < r ∧ r ≤ m) : ∀ {S : List Rat} {p : Rat}, F.hi p < 0 → Segs m k F r (p :: S) → (∀ x ∈ p :: S, HB m b x) → (∀ x ∈ p :: S, 0 ≤ x) → HB m (max b k) (noughtGo (r : Rat) (rowAt F p) (S.map (rowAt F)))
  | [], p, hneg, h, hb, hn => by
    obtain ⟨c, hc, g2, g3⟩ := h
    show HB m (max b k) (p + (0 - F.hi p) / r)
    have hr' : (r : Rat) ≠ 0 := by
      have : r ≠ 0 := by omega
      exact_mod_cast this
    exact ⟨c, r, by omega, by omega, by rw [g2]; grind⟩
  | y :: S, p, hneg, h, hb, hn => by
    obtain ⟨g7, ⟨s, c, hc, g2, g3, g8⟩, g9⟩ := h
    show HB m (max b k) (if F.hi y < 0 then noughtGo (r : Rat) (rowAt F y) (S.map (rowAt F)) else match below F y with
      | none => y
      | some lo => if 0 < lo then p + (0 - F.hi p) / (lo - F.hi p) * (y - p) else y)
    have hy := (hb y (by simp)).mono (Int.le_refl m) (Int.le_max_left b k)
    by_cases q : F.hi y < 0
    · rw [if_pos q]
      exact noughtGo_hb hr q g9 (fun x hx => hb x (List.mem_cons_of_mem _ hx)) fun x hx => hn x (List.mem_cons_of_mem _ hx)
    · rw [if_neg q]
      have hby : below F y = some (F.lo y) := by unfold below; rw [if_neg (by have := hn p (by simp); grind)]
      rw [hby]
      dsimp only
      by_cases q2 : 0 < F.lo y
      · rw [if_pos q2]
        have hs : 0 < s := by
          by_cases z : s = 0
          · subst z; rw [Rat.intCast_zero] at g2 g8; grind
          · omega
        have hs' : (s : Rat) ≠ 0 := by
          have : s ≠ 0 := by omega
          exact_mod_cast this
        refine ⟨c, s, by omega, by omega, ?_⟩
        rw [g2, g8]
        have : y - p ≠ 0 := by grind
        have : (s : Rat) * (y - p) ≠ 0 := by grind
        have h1 : (s * y - c - (s * p - c) : Rat) = s * (y - p) := by grind
        rw [h1]
        grind
      · rw [if_neg q2]; exact hy
theorem nought_hb {m k : Int} {F : Fn} {r : Int} {S : List Rat} {P : Pulls} {b : Int} (I : IsP m k F r S P) (hb : ∀ x ∈ 0 :: S, HB m b x) : HB m (max b k) (noughtOf P) := by
  unfold noughtOf
  rw [I.rows, I.rate]
  show HB m (max b k) (if F.hi 0 < 0 then noughtGo (r : Rat) (rowAt F 0) (S.map (rowAt F)) else match below F 0 with
    | none => 0
    | some lo => if 0 < lo then 0 + (0 - F.hi 0) / (lo - F.hi 0) * (0 - 0) else 0)
  by_cases q : F.hi 0 < 0
  · rw [if_pos q]
    exact noughtGo_hb I.hr q I.segs hb I.nn
  · rw [if_neg q]
    have : below F 0 = none := by unfold below; rw [if_pos rfl]
    rw [this]
    exact (hb 0 (by simp)).mono (Int.le_refl m) (Int.le_max_left b k)
/-- every value is a piece's -/
theorem val_hi {m k : Int} {F : Fn} {r : Int} (hr : 0 ≤ r ∧ r ≤ m) {a : Rat} : ∀ {S : List Rat} {x : Rat}, Segs m k F r (x :: S) → x ≤ a → ∃ s c : Int, (0 ≤ s ∧ s ≤ m ∧ -k ≤ c ∧ c ≤ k) ∧ F.hi a = s * a - c
  | [], x, h, h1 => by
    obtain ⟨c, hb, e1, _⟩ := PcE.up h h1
    exact ⟨r, c, ⟨hr.1, hr.2, hb.1, hb.2⟩, e1⟩
  | y :: S, x, h, h1 => by
    obtain ⟨g1, g2, g3⟩ := h
    by_cases q : y ≤ a
    · exact val_hi hr g3 q
    · obtain ⟨s, c, hb, e1, _⟩ := g2.cut h1 (by grind : a < y) Rat.le_refl
      exact ⟨s, c, hb, e1⟩
theorem val_lo {m k : Int} {F : Fn} {r : Int} (hr : 0 ≤ r ∧ r ≤ m) {a : Rat} : ∀ {S : List Rat} {x : Rat}, Segs m k F r (x :: S) → x < a → ∃ s c : Int, (0 ≤ s ∧ s ≤ m ∧ -k ≤ c ∧ c ≤ k) ∧ F.lo a = s * a - c
  | [], x, h, h1 => by
    obtain ⟨c, hb, e1, e2⟩ := h
    exact ⟨r, c, ⟨hr.1, hr.2, hb.1, hb.2⟩, (e2 a h1).1⟩
  | y :: S, x, h, h1 => by
    obtain ⟨g1, g2, g3⟩ := h
    by_cases q : y < a
    · exact val_lo hr g3 q
    · obtain ⟨s, c, hb, _, _, e1⟩ := g2.cut Rat.le_refl h1 (by grind : a ≤ y)
      exact ⟨s, c, hb, e1⟩

/-! ### pulls as the program has them -/
/-- bends that the program may reckon with -/
structure QP (F : Fn) (P : Pulls) : Prop where
  ex : ∃ m k r S, IsP m k F r S P ∧ m ≤ 4000 ∧ k ≤ 1000000000 ∧ (∀ x ∈ 0 :: S, HB m 1000000000000 x) ∧ P.rows.length ≤ 300
/-- .. that rise strictly -/
structure TP (n : Nat) (F : Fn) (P : Pulls) : Prop where
  ex : ∃ m k r S, IsP m k F r S P ∧ (m ≤ 100 * n ∧ k ≤ 100000 * (n * n) ∧ (∀ x ∈ 0 :: S, HB m (1000000 * (n * n * n)) x)) ∧ P.rows.length + 4 ≤ 8 * n
  mono : SMono F
theorem TP.qp {n : Nat} {F : Fn} {P : Pulls} (h : TP n F P) (hn : n ≤ 16) : QP F P := by
  obtain ⟨m, k, r, S, I, ⟨h1, h2, h3⟩, h4⟩ := h.ex
  have n1 : (n : Int) ≤ 16 := by omega
  have n2 : (n * n : Int) ≤ 256 := by
    have : n * n ≤ 16 * 16 := Nat.mul_le_mul hn hn
    exact_mod_cast this
  have n3 : (n * n * n : Int) ≤ 4096 := by
    have : n * n * n ≤ 16 * 16 * 16 := Nat.mul_le_mul (Nat.mul_le_mul hn hn) hn
    exact_mod_cast this
  exact ⟨m, k, r, S, I, by omega, by omega, fun x hx => (h3 x hx).mono (Int.le_refl m) (by omega), by omega⟩
theorem QP.at {F : Fn} {P : Pulls} (Q : QP F P) {h : Rat} (h0 : 0 ≤ h) : pullAt P h = (below F h, F.hi h) := by
  obtain ⟨m, k, r, S, I, _⟩ := Q.ex
  exact pullAt_eq I h0
theorem QP.smHi {F : Fn} {P : Pulls} (Q : QP F P) {h : Rat} (h0 : 0 ≤ h) {n : Nat} (hs : Sm n h) : Sm (n + 50) (F.hi h) := by
  obtain ⟨m, k, r, S, I, h1, h2, h3, _⟩ := Q.ex
  obtain ⟨s, c, hb, e⟩ := val_hi ⟨Int.le_of_lt I.hr.1, I.hr.2⟩ I.segs h0
  rw [e]
  have q1 : Sm 13 (s : Rat) := Sm.int (by have : (2 : Nat) ^ 13 = 8192 := by decide
                                          omega) (by decide)
  have q2 : Sm 31 (c : Rat) := Sm.int (by have : (2 : Nat) ^ 31 = 2147483648 := by decide
                                          omega) (by decide)
  exact ((q1.mul hs).sub q2).mono (by omega)
theorem QP.smLo {F : Fn} {P : Pulls} (Q : QP F P) {h : Rat} (h0 : 0 < h) {n : Nat} (hs : Sm n h) : Sm (n + 50) (F.lo h) := by
  obtain ⟨m, k, r, S, I, h1, h2, h3, _⟩ := Q.ex
  obtain ⟨s, c, hb, e⟩ := val_lo ⟨Int.le_of_lt I.hr.1, I.hr.2⟩ I.segs h0
  rw [e]
  have q1 : Sm 13 (s : Rat) := Sm.int (by have : (2 : Nat) ^ 13 = 8192 := by decide
                                          omega) (by decide)
  have q2 : Sm 31 (c : Rat) := Sm.int (by have : (2 : Nat) ^ 31 = 2147483648 := by decide
                                          omega) (by decide)
  exact ((q1.mul hs).sub q2).mono (by omega)
theorem QP.rowSm {F : Fn} {P : Pulls} (Q : QP F P) : ∀ r ∈ P.rows, 0 ≤ r.h ∧ Sm 50 r.h ∧ Sm 100 r.a ∧ (∀ b, r.b = some b → Sm 100 b) ∧ (r.b = none → r.h = 0) := by
  obtain ⟨m, k, r, S, I, h1, h2, h3, h4⟩ := Q.ex
  intro row hr
  rw [I.rows] at hr
  obtain ⟨x, hx, rfl⟩ := List.mem_map.mp hr
  have hx0 := I.nn x hx
  have hs : Sm 50 x := (h3 x hx).sm (by have : (2 : Int) ^ 50 = 1125899906842624 := by decide
                                        omega) (by decide)
  refine ⟨hx0, hs, (Q.smHi hx0 hs).mono (by decide), fun b hb => ?_, fun hb => ?_⟩
  · have hb : below F x = some b := hb
    unfold below at hb
    by_cases q : x = 0
    · rw [if_pos q] at hb; cases hb
    · rw [if_neg q] at hb; cases hb
      exact (Q.smLo (by grind) hs).mono (by decide)
  · have hb : below F x = none := hb
    unfold below at hb
    by_cases q : x = 0
    · exact q
    · rw [if_neg q] at hb; cases hb
theorem TP.nought {n : Nat} {F : Fn} {P : Pulls} (h : TP n F P) : Zero F (noughtOf P) := by
  obtain ⟨m, k, r, S, I, _⟩ := h.ex
  exact nought_zero I h.mono
theorem TP.noughtSm {n : Nat} {F : Fn} {P : Pulls} (h : TP n F P) (hn : n ≤ 16) : Sm 50 (noughtOf P) := by
  obtain ⟨m, k, r, S, I, h1, h2, h3, h4⟩ := (h.qp hn).ex
  exact (nought_hb I h3).sm (by have : (2 : Int) ^ 50 = 1125899906842624 := by decide
                                omega) (by have : (2 : Int) ^ 50 = 1125899906842624 := by decide
                                           omega)
theorem TP.alone {own strong : Int} (h1 : 1 ≤ strong ∧ strong ≤ 100) (h2 : -1000 ≤ own ∧ own ≤ 1000) : TP 1 (ownF own strong) (alone own strong) := by
  refine ⟨⟨strong, strong * own.natAbs, strong, [], alone_is (by omega), ⟨by omega, ?_, fun x hx => ?_⟩, by show 1 + 4 ≤ 8; decide⟩, own_mono (by omega)⟩
  · have : strong * (own.natAbs : Int) ≤ 100 * 1000 := Int.mul_le_mul h1.2 (by omega) (by omega) (by decide)
    simpa using this
  · rw [List.mem_singleton.mp hx]
    exact HB.zero (by omega) (by decide)
/-- a cord with a tree is tied on -/
theorem TP.tie {n a : Nat} {F G : Fn} {P Q : Pulls} (h : TP n F P) (g : TP a G Q) (hn : 0 < n) (ha : 0 < a) {l : Int} (hl : 0 ≤ l ∧ l ≤ 1000) :
    TP (n + a) (F.add (felt G (noughtOf Q) (l : Rat))) (both P (byCord Q (l : Rat))) := by
  obtain ⟨m, k, r, S, I, ⟨h1, h2, h3⟩, h4⟩ := h.ex
  obtain ⟨m', k', r', S', J, ⟨g1, g2, g3⟩, g4⟩ := g.ex
  obtain ⟨T, hT, C⟩ := cord_is J g.mono hl.1
  obtain ⟨U, hU, B⟩ := both_is I C
  have Z := g.nought
  have m0 : 0 < m' := by have := J.hr; omega
  have mm0 : 0 < m := by have := I.hr; omega
  have ml : m' * l ≤ 100000 * a := by
    have e1 : m' * l ≤ m' * 1000 := Int.mul_le_mul_of_nonneg_left hl.2 (by omega)
    omega
  have ml0 : 0 ≤ m' * l := Int.mul_nonneg (by omega) hl.1
  have na : (0 : Int) ≤ n * a := Int.mul_nonneg (by omega) (by omega)
  have na1 : (a : Int) ≤ n * a := by
    have : 1 * a ≤ n * a := Nat.mul_le_mul_right a hn
    have : a ≤ n * a := by omega
    exact_mod_cast this
  have a2 : (a : Int) ≤ a * a := by
    have : 1 * a ≤ a * a := Nat.mul_le_mul_right a ha
    have : a ≤ a * a := by omega
    exact_mod_cast this
  have sq : ((n + a : Nat) : Int) * ((n + a : Nat) : Int) = n * n + 2 * (n * a) + a * a := by push_cast; grind
  refine ⟨⟨m + m', k + (k' + m' * l), r + r', U, B, ⟨?_, ?_, fun x hx => ?_⟩, ?_⟩, h.mono.add (felt_mono g.mono Z (by exact_mod_cast hl.1))⟩
  · push_cast; omega
  · have e : ((n + a : Nat) * (n + a : Nat) : Int) = n * n + 2 * (n * a) + a * a := sq
    rw [e]
    omega
  · -- heights
    have cube : (1000000 * ((n + a : Nat) * (n + a : Nat) * (n + a : Nat)) : Int) = 1000000 * (n * n * n) + 1000000 * (a * a * a) + 3000000 * (n * n * a) + 3000000 * (n * (a * a)) := by push_cast; grind
    have p1 : (0 : Int) ≤ n * n * n := Int.mul_nonneg (Int.mul_nonneg (by omega) (by omega)) (by omega)
    have p2 : (0 : Int) ≤ a * a * a := Int.mul_nonneg (Int.mul_nonneg (by omega) (by omega)) (by omega)
    have p3 : (0 : Int) ≤ n * n * a := Int.mul_nonneg (Int.mul_nonneg (by omega) (by omega)) (by omega)
    have p4 : (a : Int) * a ≤ n * (a * a) := by
      have : 1 * (a * a) ≤ n * (a * a) := Nat.mul_le_mul_right _ hn
      have : a * a ≤ n * (a * a) := by omega
      exact_mod_cast this
    have a3 : (a : Int) * a ≤ a * a * a := by
      have : a * a * 1 ≤ a * a * a := Nat.mul_le_mul_left _ ha
      have : a * a ≤ a * a * a := by omega
      exact_mod_cast this
    rw [hU, inOrder_mem] at hx
    rcases List.mem_append.mp hx with hx | hx
    · exact (h3 x hx).mono (by omega) (by rw [cube]; omega)
    · rw [hT, inOrder_mem] at hx
      have hx := (List.mem_filter.mp hx).1
      have hz := nought_hb J g3
      have bb : max (1000000 * ((a : Int) * a * a)) k' + m' * l ≤ 1000000 * (a * a * a) + 100000 * (a * a) := by omega
      have fin : ∀ x, HB m' (max (1000000 * ((a : Int) * a * a)) k' + m' * l) x → HB (m + m') (1000000 * ((n + a : Nat) * (n + a : Nat) * (n + a : Nat))) x := fun x hx =>
        hx.mono (by omega) (by rw [cube]; omega)
      unfold cordSpots at hx
      rcases List.mem_append.mp hx with hx | hx
      · simp only [List.mem_cons, List.not_mem_nil, or_false] at hx
        rcases hx with rfl | rfl | rfl
        · exact HB.zero (by omega) (by rw [cube]; omega)
        · exact fin _ (hz.shift hl.1).2
        · exact fin _ (hz.shift hl.1).1
      · obtain ⟨row, hrow, rfl⟩ := List.mem_map.mp hx
        rw [J.rows] at hrow
        obtain ⟨y, hy, rfl⟩ := List.mem_map.mp hrow
        have hy' := ((g3 y hy).mono (Int.le_refl m') (Int.le_max_left _ k')).shift hl.1
        show HB _ _ (if y < noughtOf Q then y - (l : Rat) else y + l)
        by_cases q : y < noughtOf Q
        · rw [if_pos q]; exact fin _ hy'.2
        · rw [if_neg q]; exact fin _ hy'.1
  · -- how many bends
    show ((inOrder (P.rows.map (·.h) ++ (byCord Q (l : Rat)).rows.map (·.h))).map (bothRow P (byCord Q (l : Rat)))).length + 4 ≤ 8 * (n + a)
    rw [List.length_map]
    have l1 := inOrder_length (P.rows.map (·.h) ++ (byCord Q (l : Rat)).rows.map (·.h))
    rw [List.length_append, List.length_map, List.length_map] at l1
    have l2 : (byCord Q (l : Rat)).rows.length ≤ Q.rows.length + 3 := by
      show ((inOrder ((cordSpots Q (noughtOf Q) (l : Rat)).filter fun s => decide (0 ≤ s))).map (cordRow Q (noughtOf Q) (l : Rat))).length ≤ _
      rw [List.length_map]
      refine Nat.le_trans (inOrder_length _) (Nat.le_trans (List.length_filter_le _ _) ?_)
      unfold cordSpots
      rw [List.length_append, List.length_map]
      simp; omega
    omega
/-- what is felt of a tree may be reckoned with -/
theorem TP.cord {a : Nat} {G : Fn} {Q : Pulls} (g : TP a G Q) (ha : 0 < a ∧ a ≤ 12) {l : Int} (hl : 0 ≤ l ∧ l ≤ 1000) : QP (felt G (noughtOf Q) (l : Rat)) (byCord Q (l : Rat)) := by
  obtain ⟨m', k', r', S', J, g1, g2, g3, g4⟩ := (g.qp (by omega)).ex
  obtain ⟨m2, k2, r2, S2, J2, ⟨q1, q2, q3⟩, q4⟩ := g.ex
  obtain ⟨T, hT, C⟩ := cord_is J2 g.mono hl.1
  have n1 : (a : Int) ≤ 12 := by omega
  have n2 : (a * a : Int) ≤ 144 := by
    have : a * a ≤ 12 * 12 := Nat.mul_le_mul ha.2 ha.2
    exact_mod_cast this
  have n3 : (a * a * a : Int) ≤ 1728 := by
    have : a * a * a ≤ 12 * 12 * 12 := Nat.mul_le_mul (Nat.mul_le_mul ha.2 ha.2) ha.2
    exact_mod_cast this
  have m0 : 0 < m2 := by have := J2.hr; omega
  have ml : m2 * l ≤ 1200 * 1000 := Int.mul_le_mul (by omega) hl.2 hl.1 (by decide)
  have ml0 : 0 ≤ m2 * l := Int.mul_nonneg (by omega) hl.1
  refine ⟨m2, k2 + m2 * l, r2, T, C, by omega, by omega, fun x hx => ?_, ?_⟩
  · rw [hT, inOrder_mem] at hx
    have hx := (List.mem_filter.mp hx).1
    have hz := nought_hb J2 q3
    have fin : ∀ x, HB m2 (max (1000000 * ((a : Int) * a * a)) k2 + m2 * l) x → HB m2 1000000000000 x := fun x hx => hx.mono (Int.le_refl _) (by omega)
    unfold cordSpots at hx
    rcases List.mem_append.mp hx with hx | hx
    · simp only [List.mem_cons, List.not_mem_nil, or_false] at hx
      rcases hx with rfl | rfl | rfl
      · exact HB.zero (by omega) (by decide)
      · exact fin _ (hz.shift hl.1).2
      · exact fin _ (hz.shift hl.1).1
    · obtain ⟨row, hrow, rfl⟩ := List.mem_map.mp hx
      rw [J2.rows] at hrow
      obtain ⟨y, hy, rfl⟩ := List.mem_map.mp hrow
      have hy' := ((q3 y hy).mono (Int.le_refl m2) (Int.le_max_left _ k2)).shift hl.1
      show HB _ _ (if y < noughtOf Q then y - (l : Rat) else y + l)
      by_cases q : y < noughtOf Q
      · rw [if_pos q]; exact fin _ hy'.2
      · rw [if_neg q]; exact fin _ hy'.1
  · show ((inOrder ((cordSpots Q (noughtOf Q) (l : Rat)).filter fun s => decide (0 ≤ s))).map (cordRow Q (noughtOf Q) (l : Rat))).length ≤ _
    rw [List.length_map]
    refine Nat.le_trans (inOrder_length _) (Nat.le_trans (List.length_filter_le _ _) ?_)
    unfold cordSpots
    rw [List.length_append, List.length_map]
    simp; omega
end Td

/-! TdJ7: sorting, order of data, texts, views of dicts. -/
namespace Td
open PySem PySem.Spec PyProof.Rows L2
open PySem.W (alike dataLt AllAlike Sortable EachIs dataLe)

/-! ### sorted: rules over HandS -/
theorem each_vals {bs : List (V × PyData)} : ∀ {us : List Value}, Vals (bs.map (·.1)) us → EachIs (fun (u : Value) (b : V × PyData) => RelV b.1 u) us bs := by
  induction bs with
  | nil => intro us r; cases r; exact .nil
  | cons b bs ih =>
    intro us r
    rw [List.map_cons] at r
    cases r with
    | cons h t => exact .cons h (ih t)
theorem vals_each {bs : List (V × PyData)} {us : List Value} (h : EachIs (fun (u : Value) (b : V × PyData) => RelV b.1 u) us bs) : Vals (bs.map (·.1)) us := by
  induction h with
  | nil => exact .nil
  | cons h t ih => exact .cons h ih
theorem each_with {α β : Type} {R S : α → β → Prop} {as : List α} {bs : List β} (h : EachIs R as bs) (g : ∀ a b, b ∈ bs → R a b → S a b) : EachIs S as bs := by
  induction h with
  | nil => exact .nil
  | cons h t ih => exact .cons (g _ _ (List.mem_cons_self ..) h) (ih fun a b hb => g a b (List.mem_cons_of_mem _ hb))
def leP (x y : V × PyData) : Bool := dataLe false (fun b : V × PyData => b.2) x y
def rSortD (K : PySem.W.Frag) : List V → Hp → VK → Prop := fun xs H Q => ∃ (a : Addr) (ps : List (V × PyData)), xs = [V.ref a] ∧ SqL K H a (ps.map (·.1)) ∧ (∀ p ∈ ps, Dp K H p.1 p.2) ∧ AllAlike (ps.map (·.2)) ∧ Sortable (ps.map (·.2)) ∧ (∀ p ∈ ps, p.2.depth ≤ 60) ∧
  ∀ p, H p = none → Q (.ref p) (upd H p (.lst ((ps.mergeSort leP).map (·.1))))
theorem cr_sortD {X : Cx} (hu : X.A.units + 64 < cLine) : CallR X (.builtin "sorted") (rSortD X.K) := by
  intro pins s σ H xs us Q I r h
  obtain ⟨a, ps, rfl, hs, hd, hal, hso, hde, q⟩ := h
  obtain rfl := Vals.ref1 r
  obtain ⟨its, rv, hl, hz⟩ := I.list hs
  have ev := each_vals rv
  have hlen : its.length = ps.length := by have := rv.length; rw [List.length_map] at this; exact this.symm
  refine PySem.W.sorted_data (β := V × PyData) (bs := ps) (enc := fun b => b.2) (R := fun u b => RelV b.1 u) hl.isList ev (each_with ev fun u b hb hr => Dp.reads I b.2 b.1 u (hd b hb) hr) hal hso (by rw [List.length_map] at hz; exact hz) (fun b hb => by have := hde b hb; omega) fun out h1 h2 => ?_
  obtain ⟨ep, he'⟩ := PyProof.Rows.sortedAll_at s.heap its out.toArray
  have hl2 : ((ps.mergeSort leP).map (·.1)).length ≤ sizeLine := by
    rw [List.length_map, List.length_mergeSort]; rw [List.length_map] at hz; exact hz
  exact ⟨.ref _, upd H (s.heap.objs.size + 1) (.lst ((ps.mergeSort leP).map (·.1))), I.laid (t' := s.toks) (fun _ _ => PyProof.Rows.sortedAll_old) (Nat.le_succ _) ⟨hl2, out, ep, vals_each h2, he'⟩, rfl, q _ (I.hok.fresh (Nat.le_succ _))⟩

/-! ### d.items() of a dict by ints and texts -/
def rItemsK : V → List V → Hp → VK → Prop := fun x xs H Q => ∃ (a : Addr) (kvs : List (Key × V)), x = .ref a ∧ xs = [] ∧ H a = some (.dK kvs) ∧ ∀ p, H p = none → Q (.ref p) (upd H p (L2.DX.itemsO p a))
theorem mt_itemsK {X : Cx} : MtR X "dict.items" rItemsK := by
  intro pins s σ H x xs v us Q I rx rxs h
  obtain ⟨a, kvs, rfl, rfl, ha, q⟩ := h
  cases rx
  cases rxs
  obtain ⟨z, hd, vs, rel, o, es, ep, ho, hx, hdat, _⟩ := dk_of I.hok ha
  refine DT.callItems (es := es) (ep := ep) hd ⟨o, ho, hx, hdat⟩ ?_
  have hf : H s.heap.objs.size = none := I.hok.fresh (Nat.le_refl _)
  exact ⟨.ref s.heap.objs.size, upd H s.heap.objs.size (L2.DX.itemsO s.heap.objs.size a), I.laid (t' := s.toks) (fun b u e => Heap.get?_push_of_some _ e) (Nat.le_refl _) (L2.DX.itemsO_ok (Heap.get?_push_size _ rfl)), rfl, q _ hf⟩

mutual
theorem reads_lt {h : Heap} : ∀ {v : Value} {d : PyData} {as : List Addr}, Reads h v d as → ∀ a ∈ as, a < h.objs.size
  | _, _, _, .none => fun a ha => by cases ha
  | _, _, _, .bool _ => fun a ha => by cases ha
  | _, _, _, .int _ _ => fun a ha => by cases ha
  | _, _, _, .str _ _ => fun a ha => by cases ha
  | _, _, _, .list h1 _ _ r => fun a ha => by
    rcases List.mem_cons.mp ha with rfl | ha
    · exact Heap.lt_size h1
    · exact readsAll_lt r a ha
  | _, _, _, .tuple _ _ _ r => fun a ha => readsAll_lt r a ha
  | _, _, _, .dict h1 _ _ r1 r2 => fun a ha => by
    rcases List.mem_append.mp ha with ha | ha
    · rcases List.mem_cons.mp ha with rfl | ha
      · exact Heap.lt_size h1
      · exact readsAll_lt r1 a ha
    · exact readsAll_lt r2 a ha
theorem readsAll_lt {h : Heap} : ∀ {vs : List Value} {ds : List PyData} {as : List Addr}, ReadsAll h vs ds as → ∀ a ∈ as, a < h.objs.size
  | _, _, _, .nil => fun a ha => by cases ha
  | _, _, _, .cons r t => fun a ha => by
    rcases List.mem_append.mp ha with ha | ha
    · exact reads_lt r a ha
    · exact readsAll_lt t a ha
end
def keyP : Key → PyData
  | .inl i => .int i
  | .inr x => .str x
def pairP (r : Key × V × PyData) : PyData := .tuple [keyP r.1, r.2.2]
def leR (x y : Key × V × PyData) : Bool := dataLe false pairP x y
theorem key_reads {h : Heap} {k : Key} {u : Value} (r : RelV (kV k) u) : Reads h u (keyP k) [] := by
  cases k with
  | inl i => obtain ⟨t, e⟩ := (show ∃ t, u = Value.int i t from r); subst e; exact .int i t
  | inr x => obtain ⟨t, e⟩ := (show ∃ t, u = Value.str x t from r); subst e; exact .str x t
theorem key_rel {k : Key} {u : Value} (h : keyIs k u = true) : RelV (kV k) u := by
  rcases keyIs_shape h with ⟨i, t, rfl, rfl⟩ | ⟨x, t, rfl, rfl⟩
  · exact ⟨t, rfl⟩
  · exact ⟨t, rfl⟩
theorem keyP_depth (k : Key) : (keyP k).depth = 0 := by cases k <;> simp [keyP, PyData.depth]
def rSortItK (K : PySem.W.Frag) : List V → Hp → VK → Prop := fun xs H Q => ∃ (p a : Addr) (rows : List (Key × V × PyData)), xs = [V.ref p] ∧ H p = some (L2.DX.itemsO p a) ∧ H a = some (.dK (rows.map fun r => (r.1, r.2.1))) ∧
  (∀ r ∈ rows, Dp K H r.2.1 r.2.2 ∧ r.2.2.depth ≤ 50) ∧ AllAlike (rows.map pairP) ∧
  ∀ (H' : Hp) (l : Addr) (qs : List (Addr × Key × V × PyData)), (∀ b o, H b = some o → H' b = some o) → qs.map (·.2) = rows.mergeSort leR → H l = none → H' l = some (.lst (qs.map fun q => V.ref q.1)) →
    (∀ q ∈ qs, H q.1 = none ∧ q.1 ≠ l ∧ H' q.1 = some (.tup [kV q.2.1, q.2.2.1])) → Q (.ref l) H'
theorem pairs_at {P : Program} {w : World} {knd : PySem.KeyKind P w Key} : ∀ {es : List DictEntry} {vs : List (Key × Value)} {j : Nat} {e : DictEntry}, PySem.Pairs knd es vs → es[j]? = some e → ∃ kv, vs[j]? = some kv ∧ knd.is kv.1 e.key = true ∧ e.val = kv.2
  | _, _, _, _, .nil, h => by simp at h
  | _, _, 0, _, .cons h1 h2 _, h => ⟨_, rfl, by simp at h; subst h; exact h1, by simp at h; subst h; exact h2⟩
  | _, _, j + 1, _, .cons _ _ t, h => by simpa using pairs_at (j := j) t (by simpa using h)
theorem pairs_len {P : Program} {w : World} {knd : PySem.KeyKind P w Key} : ∀ {es : List DictEntry} {vs : List (Key × Value)}, PySem.Pairs knd es vs → es.length = vs.length
  | _, _, .nil => rfl
  | _, _, .cons _ _ t => by rw [List.length_cons, List.length_cons, pairs_len t]
theorem each_zip {R : Value → Addr × Key × V × PyData → Prop} : ∀ {as : List Addr} {rows : List (Key × V × PyData)}, as.length = rows.length → (∀ (j : Nat) a r, as[j]? = some a → rows[j]? = some r → R (.ref a) (a, r)) → EachIs R (as.map Value.ref) (as.zip rows)
  | [], [], _, _ => .nil
  | [], _ :: _, h, _ => by cases h
  | _ :: _, [], h, _ => by cases h
  | a :: as, r :: rows, h, g => .cons (g 0 a r rfl rfl) (each_zip (by simpa using h) fun j b q h1 h2 => g (j + 1) b q (by simpa using h1) (by simpa using h2))
theorem each_out {bs : List (Addr × Key × V × PyData)} {out : List Value} (h : EachIs (fun v b => v = Value.ref b.1) out bs) : out = bs.map fun b => Value.ref b.1 := by
  induction h with
  | nil => rfl
  | cons h t ih => rw [List.map_cons, ← ih, h]
theorem vals_ref1 {α : Type} (f : α → Addr) : ∀ bs : List α, Vals (bs.map fun b => V.ref (f b)) (bs.map fun b => Value.ref (f b))
  | [] => .nil
  | b :: bs => .cons rfl (vals_ref1 f bs)
theorem cr_sortItK {X : Cx} (hc : X.calm = true) (hu : X.A.units + 64 < cLine) : CallR X (.builtin "sorted") (rSortItK X.K) := by
  intro pins s σ H xs us Q I r h
  obtain ⟨p, a, rows, rfl, hp, ha, hv, hal, q⟩ := h
  obtain rfl := Vals.ref1 r
  have view : s.heap.IsItemsView p a := (show ObjOk X.prog X.w H s.heap p (L2.DX.itemsO p a) from I.hok p _ hp).1
  obtain ⟨z, hd, vs, rel, o, es, ep, ho, hx, hdat, hes, hpr, hn⟩ := dk_of I.hok ha
  have l1 : rows.length = vs.length := by have := KV.length rel; rw [List.length_map] at this; exact this
  have l2 : es.size = vs.length := by have := pairs_len hpr; rw [Array.length_toList] at this; exact this
  rw [List.length_map] at z
  have hh : X.A.handled = none := I.ok.hd hc
  refine DT.sortedI (es := es) (ep := ep) hh view ⟨o, ho, hx, hdat⟩ (by omega) fun h' tk as hk hlt hl hG => ?_
  have lak : as.length = rows.length := by omega
  have nd : as.Nodup := List.Pairwise.imp (fun h => Nat.ne_of_lt h) hG.rise
  -- the pairs that were made
  have pr : ∀ (j : Nat) (b : Addr) (r : Key × V × PyData), as[j]? = some b → rows[j]? = some r → ∃ ku vu : Value, RelV (kV r.1) ku ∧ RelV r.2.1 vu ∧ h'.get? b = some { cls := .type "tuple", data := .seq #[ku, vu] } := by
    intro j b r hj hr
    obtain ⟨en, he, hg⟩ := hG.pairs j b hj
    have he' : es.toList[j]? = some en := by rw [Array.getElem?_toList]; exact he
    obtain ⟨kv, hkv, k1, k2⟩ := pairs_at hpr he'
    obtain ⟨y, hy, f1, f2⟩ := L2.DX.pget rel hkv
    rw [List.getElem?_map, hr] at hy
    cases hy
    refine ⟨en.key, en.val, ?_, ?_, hg⟩
    · rw [← f1] at k1; exact key_rel k1
    · rw [k2]; exact f2
  have hob : (h'.push { cls := .type "list", data := .seq (as.map Value.ref).toArray }).get? h'.objs.size = some (seqObj "list" (as.map Value.ref).toArray 0) := Heap.get?_push_size _ rfl
  have ka : ∀ b o, h'.get? b = some o → (h'.push { cls := .type "list", data := .seq (as.map Value.ref).toArray }).get? b = some o := fun b o e => Heap.get?_push_of_some _ e
  have ne0 : ∀ b o, h'.get? b = some o → b ≠ h'.objs.size := fun b o e => Nat.ne_of_lt (Heap.lt_size e)
  generalize hh2 : h'.push { cls := .type "list", data := .seq (as.map Value.ref).toArray } = h2 at hob ka ⊢
  have kb : ∀ b o, s.heap.get? b = some o → h2.get? b = some o := fun b o e => ka b o (hk b o e)
  have rd : ∀ (j : Nat) (b : Addr) (r : Key × V × PyData), as[j]? = some b → rows[j]? = some r → ∃ as', Reads h2 (.ref b) (pairP r) as' ∧ h'.objs.size ∉ as' := by
    intro j b r hj hr
    obtain ⟨ku, vu, r1, r2, hg⟩ := pr j b r hj hr
    obtain ⟨as', q1⟩ := Dp.reads I r.2.2 r.2.1 vu (hv r (List.mem_of_getElem? hr)).1 r2
    have q2 : Reads h' vu r.2.2 as' := PyProof.Rows.Reads.keeps (fun b o e => hk b o e) q1
    have q3 : Reads h' (.ref b) (pairP r) ([] ++ (as' ++ [])) := .tuple hg rfl rfl (.cons (key_reads r1) (.cons q2 .nil))
    exact ⟨_, PyProof.Rows.Reads.keeps ka q3, fun hm => Nat.lt_irrefl _ (reads_lt q3 _ hm)⟩
  have ee := each_zip (R := fun v b => v = Value.ref b.1) lak fun j a r h1 h2 => rfl
  have er := each_zip (R := fun v b => ∃ as', Reads h2 v (pairP b.2) as' ∧ h'.objs.size ∉ as') lak fun j a r h1 h2 => rd j a r h1 h2
  have mz : (as.zip rows).map (·.2) = rows := List.map_snd_zip (by rw [lak]; exact Nat.le_refl _)
  have mz1 : (as.zip rows).map (·.1) = as := List.map_fst_zip (by rw [lak]; exact Nat.le_refl _)
  have hmap : (as.zip rows).map (fun b => pairP b.2) = rows.map pairP := by
    conv => rhs; rw [← mz]
    rw [List.map_map]; rfl
  refine PySem.W.list_sort_data (s := { s with heap := h2, toks := tk }) (β := Addr × Key × V × PyData) (bs := as.zip rows) (enc := fun b => pairP b.2) (R := fun v b => v = Value.ref b.1) hob ee er (by rw [hmap]; exact hal) (.inl fun d hd => ?_) (by rw [List.length_zip]; omega) (fun b hb => ?_) fun out h1 h3 => ?_
  · obtain ⟨b, _, rfl⟩ := List.mem_map.mp hd
    exact ⟨_, _, rfl⟩
  · have hm : b.2 ∈ rows := by rw [← mz]; exact List.mem_map.mpr ⟨b, hb, rfl⟩
    have hb2 := (hv b.2 hm).2
    have : (pairP b.2).depth ≤ 51 := by
      unfold pairP
      simp only [PyData.depth, PyData.depthAll, keyP_depth]
      omega
    show X.A.units + 1 + 1 + _ < cLine
    omega
  · show EP X pins σ Q (.ref h'.objs.size) { s with heap := sortedHeap h2 h'.objs.size (as.map Value.ref) out.toArray, toks := tk }
    have ho := each_out h3
    generalize hqs : (as.zip rows).mergeSort (dataLe false fun b => pairP b.2) = qs at ho h3
    have perm : qs.Perm (as.zip rows) := by rw [← hqs]; exact List.mergeSort_perm _ _
    have idx : ∀ z ∈ qs, ∃ j : Nat, as[j]? = some z.1 ∧ rows[j]? = some z.2 := by
      intro z' hz'
      obtain ⟨j, hj⟩ := List.mem_iff_getElem?.mp (perm.mem_iff.mp hz')
      exact ⟨j, List.getElem?_zip_eq_some.mp hj⟩
    have kF : ∀ b o, b ≠ h'.objs.size → h2.get? b = some o → (sortedHeap h2 h'.objs.size (as.map Value.ref) out.toArray).get? b = some o := fun b o hb e => (PyProof.Rows.sortedHeap_old hb (Heap.lt_size e)).trans e
    have kS : ∀ b o, s.heap.get? b = some o → (sortedHeap h2 h'.objs.size (as.map Value.ref) out.toArray).get? b = some o := fun b o e => kF b o (ne0 _ _ (hk b o e)) (kb b o e)
    obtain ⟨eF, heF⟩ := PyProof.Rows.sortedHeap_at (vs := as.map Value.ref) (out := out.toArray) hob
    have I1 : Inv X pins σ H { s with heap := sortedHeap h2 h'.objs.size (as.map Value.ref) out.toArray, toks := tk } := I.kept (t' := tk) kS
    have hn0 : H h'.objs.size = none := I.hok.fresh (Nat.le_of_lt hlt)
    have hlen : (qs.map fun z => V.ref z.1).length ≤ sizeLine := by
      rw [List.length_map, perm.length_eq, List.length_zip]; omega
    have rv : Vals (qs.map fun z => V.ref z.1) out := by rw [ho]; exact vals_ref1 _ qs
    have I2 : Inv X pins σ (upd H h'.objs.size (.lst (qs.map fun z => V.ref z.1))) { s with heap := sortedHeap h2 h'.objs.size (as.map Value.ref) out.toArray, toks := tk } :=
      I1.take (h' := sortedHeap h2 h'.objs.size (as.map Value.ref) out.toArray) (t' := tk) (fun b ob _ e => e) (I.fpOk (Nat.le_of_lt hlt) hn0) ⟨hlen, out, eF, rv, heF⟩
    obtain ⟨H2, I3, g, qt⟩ := L2.DX.takeT (P := fun b vs => ∃ (j : Nat) (e : Key × V × PyData), as[j]? = some b ∧ rows[j]? = some e ∧ vs = [kV e.1, e.2.1]) I as _ I2 nd fun b hb => by
      obtain ⟨j, hj⟩ := List.mem_iff_getElem?.mp hb
      have hjl : j < rows.length := by have := (List.getElem?_eq_some_iff.mp hj).1; omega
      have hr : rows[j]? = some rows[j] := List.getElem?_eq_getElem hjl
      obtain ⟨ku, vu, r1, r2, hg⟩ := pr j b _ hj hr
      have hbl : s.heap.objs.size ≤ b := Nat.le_of_lt (hG.above b hb)
      refine ⟨hbl, ?_, _, ⟨j, _, hj, hr, rfl⟩, fun H3 => ⟨(by rw [sizeLine_eq]; show 2 ≤ 16777216; omega), [ku, vu], .cons r1 (.cons r2 .nil), ⟨_, kF _ _ (ne0 _ _ hg) (ka _ _ hg), rfl, 0, rfl⟩⟩⟩
      rw [upd_ne (ne0 _ _ hg)]
      exact I.hok.fresh hbl
    have gr : ∀ b o, H b = some o → H2 b = some o := fun b o e => g b o (by rw [upd_ne (ne_of_none e hn0)]; exact e)
    have hq2 : qs.map (·.2) = rows.mergeSort leR := by
      rw [← hqs]
      have := List.map_mergeSort (f := fun z : Addr × Key × V × PyData => z.2) (r := dataLe false fun b : Addr × Key × V × PyData => pairP b.2) (s := leR) (l := as.zip rows) (fun a _ b _ => rfl)
      rw [this, mz]
    refine ⟨.ref h'.objs.size, H2, I3, rfl, q H2 h'.objs.size qs gr hq2 hn0 (g _ _ upd_same) fun z' hz' => ?_⟩
    obtain ⟨i, i1, i2⟩ := idx z' hz'
    obtain ⟨vs', ⟨j, e, j1, j2, ev⟩, hH⟩ := qt z'.1 (List.mem_of_getElem? i1)
    have eij : i = j := (List.getElem?_inj (List.getElem?_eq_some_iff.mp i1).1 nd).mp (i1.trans j1.symm)
    subst eij
    have ee : e = z'.2 := Option.some.inj (j2.symm.trans i2)
    rw [ev, ee] at hH
    obtain ⟨ku, vu, r1, r2, hg⟩ := pr i z'.1 _ i1 i2
    refine ⟨I.hok.fresh (Nat.le_of_lt (hG.above _ (List.mem_of_getElem? i1))), ne0 _ _ hg, hH⟩

/-! ### the same over data -/
def leD (x y : PyData) : Bool := dataLe false (fun d : PyData => d) x y
def jrSortD : JRC := fun xs M Φ => match xs with
  | [x] => match rdLD M x with
    | some ds => (AllAlike ds ∧ Sortable ds ∧ ∀ d ∈ ds, d.depth ≤ 60) ∧ ∀ p, M p = none → Φ (.v (.ref p)) (M.set p (.lst ((ds.mergeSort leD).map .d)))
    | none => False
  | _ => False
theorem dqAll_zip {K : PySem.W.Frag} {F : Hp} : ∀ {vs : List V} {ds : List PyData}, DqAll K F vs ds → ∀ p ∈ vs.zip ds, Dq K F p.1 p.2
  | _, _, .nil, p, h => by cases h
  | _, _, .cons h t, p, m => by
    rw [List.zip_cons_cons] at m
    rcases List.mem_cons.mp m with rfl | m
    · exact h
    · exact dqAll_zip t p m
theorem vds_of_pairs {K : PySem.W.Frag} {F : Hp} : ∀ {ps : List (V × PyData)}, (∀ p ∈ ps, Dq K F p.1 p.2) → VDs K F (ps.map (·.1)) ((ps.map (·.2)).map .d)
  | [], _ => .nil
  | p :: ps, h => .cons (h p (List.mem_cons_self ..)) (vds_of_pairs fun q hq => h q (List.mem_cons_of_mem _ hq))
section
variable {X : Cx}
theorem cj_sortD (hu : X.A.units + 64 < cLine) : CallJ X (.builtin "sorted") jrSortD := ⟨_, cr_sortD hu, fun F M H vs xs Φ Q W r q l => by
  unfold jrSortD at q
  split at q
  · rename_i x
    split at q
    · rename_i ds e
      cases r with
      | cons r t =>
        cases t
        obtain ⟨a, ws, rfl, h1, h2⟩ := rdLD_ok W r e
        obtain ⟨⟨q1, q2, q3⟩, q⟩ := q
        have m1 : (ws.zip ds).map (·.1) = ws := List.map_fst_zip (by rw [h2.length]; exact Nat.le_refl _)
        have m2 : (ws.zip ds).map (·.2) = ds := List.map_snd_zip (by rw [h2.length]; exact Nat.le_refl _)
        have hz := dqAll_zip h2
        refine ⟨a, ws.zip ds, rfl, by rw [m1]; exact SqL.of h1, fun p hp => Dq.dp (Dq.up W.sub (hz p hp)), by rw [m2]; exact q1, by rw [m2]; exact q2, fun p hp => q3 _ (by rw [← m2]; exact List.mem_map.mpr ⟨p, hp, rfl⟩), fun p hp => ?_⟩
        have e2 : (((ws.zip ds).mergeSort leP).map (·.2)) = ds.mergeSort leD := by
          rw [List.map_mergeSort (f := fun z : V × PyData => z.2) (r := leP) (s := leD) (fun a _ b _ => rfl), m2]
        have hv : VDs X.K F (((ws.zip ds).mergeSort leP).map (·.1)) ((ds.mergeSort leD).map .d) := by
          rw [← e2]
          exact vds_of_pairs fun p hp => hz p ((List.mergeSort_perm _ _).mem_iff.mp hp)
        exact l _ _ F (.v (.ref p)) _ (Le.refl F) (W.cell (m := .lst _) hp fun H' e => ⟨_, e, hv⟩) rfl (q p (W.freeM hp))
    · exact q.elim
  · exact q.elim⟩
/-! d.items() -/
def jrItems : JRM := fun x ys M Φ => match x, ys with
  | .v (.ref a), [] => match M a with
    | some (.dic _) => ∀ p, M p = none → Φ (.v (.ref p)) (M.set p (.raw (L2.DX.itemsO p a)))
    | _ => False
  | _, _ => False
def isDk (x : EV) (M : Mem) : Prop := match x with
  | .v (.ref a) => match M a with
    | some (.dic _) => True
    | _ => False
  | _ => False
theorem isDk_ok {K : PySem.W.Frag} {M : Mem} {H F : Hp} {x : EV} {v : V} (W : Wd K M H F) (r : VD K F v x) (h : isDk x M) : tyV K "dict" v H := by
  unfold isDk at h
  split at h
  · rename_i a
    cases (show v = .ref a from r)
    split at h
    · rename_i kvs e
      obtain ⟨_, ks, h1, _⟩ := W.mem _ _ e
      exact .inr (.inr (.inl ⟨rfl, .inl ⟨_, h1⟩⟩))
    · exact h.elim
  · exact h.elim

theorem je_items {o : Expr} {jo : JTE} {apos cpos : Pos} (ho : JE X o jo)
    (hbase : attributeBase o "items" X.env (eval o X.env) = eval o X.env := by rfl) (hline : (apos.endLine == cpos.line) = true := by rfl) : JE X (.Call (.Attribute o "items" apos) [] [] cpos) (jBM0 isDk jrItems jo) :=
  (pe_bm0 PySem.F.plainAttrs_dict PySem.F.slot_dict_items PySem.F.type_dict_items mt_itemsK ho hbase hline).imp fun σ H Q ⟨F, ρ, M, Φ, W, S, h, l⟩ =>
    rdE.at W S h fun v H1 F1 x M1 e1 W1 r1 q1 => by
      obtain ⟨q0, q1⟩ := q1
      refine ⟨isDk_ok W1 r1 q0, ?_⟩
      unfold jrItems at q1
      split at q1
      · rename_i a _
        split at q1
        · rename_i kvs e
          cases (show v = .ref a from r1)
          obtain ⟨_, ks, h1, _⟩ := W1.mem _ _ e
          exact ⟨a, ks, rfl, rfl, h1, fun p hp => l _ _ F1 (.v (.ref p)) _ e1 (W1.cell (m := .raw _) hp fun H' e => e) rfl (q1 p (W1.freeM hp))⟩
        · exact q1.elim
      · exact q1.elim
/-- a dict whose values are data -/
def rowsD : List (Key × EV) → Option (List (Key × PyData))
  | [] => some []
  | (k, .d d) :: r => match rowsD r with
    | some ds => some ((k, d) :: ds)
    | none => none
  | (_, .v _) :: _ => none
theorem rowsD_map : ∀ {kvs : List (Key × EV)} {rs : List (Key × PyData)}, rowsD kvs = some rs → kvs = rs.map fun r => (r.1, .d r.2)
  | [], rs, h => by cases h; rfl
  | (k, .d d) :: r, rs, h => by
    unfold rowsD at h
    split at h
    · rename_i e; cases h; rw [List.map_cons, rowsD_map e]
    · cases h
  | (_, .v _) :: _, rs, h => by cases h
theorem rowsD_of : ∀ rs : List (Key × PyData), rowsD (rs.map fun r => (r.1, .d r.2)) = some rs
  | [] => rfl
  | (k, d) :: r => by
    rw [List.map_cons]
    show (match rowsD (r.map fun r => (r.1, EV.d r.2)) with
      | some ds => some ((k, d) :: ds)
      | none => none) = _
    rw [rowsD_of r]
def pairD (r : Key × PyData) : PyData := .tuple [keyP r.1, r.2]
def leK (x y : Key × PyData) : Bool := dataLe false pairD x y
def jrSortIt : JRC := fun xs M Φ => match xs with
  | [.v (.ref p)] => ∃ (a : Addr) (rs : List (Key × PyData)), M p = some (.raw (L2.DX.itemsO p a)) ∧ M a = some (.dic (rs.map fun r => (r.1, .d r.2))) ∧ AllAlike (rs.map pairD) ∧ (∀ r ∈ rs, r.2.depth ≤ 50) ∧
    ∀ l, M l = none → Φ (.v (.ref l)) (M.set l (.lst ((rs.mergeSort leK).map fun r => .d (pairD r))))
  | _ => False
theorem kvd_rows {K : PySem.W.Frag} {F : Hp} : ∀ {ks : List (Key × V)} {rs : List (Key × PyData)}, KVD K F ks (rs.map fun r => (r.1, .d r.2)) → ∃ rows : List (Key × V × PyData), ks = rows.map (fun r => (r.1, r.2.1)) ∧ rs = rows.map (fun r => (r.1, r.2.2)) ∧ ∀ r ∈ rows, Dq K F r.2.1 r.2.2
  | _, [], h => by cases h; exact ⟨[], rfl, rfl, fun r hr => by cases hr⟩
  | _, r :: rs, h => by
    cases h with
    | cons h t =>
      rename_i k ks
      obtain ⟨rows, e1, e2, e3⟩ := kvd_rows t
      refine ⟨(r.1, k.2, r.2) :: rows, ?_, ?_, fun q hq => ?_⟩
      · rw [List.map_cons, ← e1]
        obtain ⟨k1, k2⟩ := k
        have := h.1
        dsimp only at this
        rw [this]
      · rw [List.map_cons, ← e2]
      · rcases List.mem_cons.mp hq with rfl | hq
        · exact h.2
        · exact e3 q hq
theorem cj_sortIt (hc : X.calm = true) (hu : X.A.units + 64 < cLine) : CallJ X (.builtin "sorted") jrSortIt := ⟨_, cr_sortItK hc hu, fun F M H vs xs Φ Q W r q l => by
  unfold jrSortIt at q
  split at q
  · rename_i p
    obtain ⟨a, rs, m1, m2, hal, hde, q⟩ := q
    cases r with
    | cons r t =>
      cases t
      cases (show _ = V.ref p from r)
      obtain ⟨_, hp⟩ := W.mem _ _ m1
      obtain ⟨_, ks, ha, hk⟩ := W.mem _ _ m2
      obtain ⟨rows, e1, e2, e3⟩ := kvd_rows hk
      have epair : rows.map pairP = rs.map pairD := by rw [e2, List.map_map]; rfl
      refine ⟨p, a, rows, rfl, hp, by rw [← e1]; exact ha, fun r hr => ⟨Dq.dp (Dq.up W.sub (e3 r hr)), hde (r.1, r.2.2) (by rw [e2]; exact List.mem_map.mpr ⟨r, hr, rfl⟩)⟩, by rw [epair]; exact hal, fun H' l' qs g1 g2 g3 g4 g5 => ?_⟩
      -- the new world
      have srt : (qs.map fun q => (q.2.1, q.2.2.2)) = rs.mergeSort leK := by
        have : (qs.map fun q => (q.2.1, q.2.2.2)) = (qs.map (·.2)).map fun r => (r.1, r.2.2) := by rw [List.map_map]; rfl
        rw [this, g2, e2]
        rw [List.map_mergeSort (f := fun r : Key × V × PyData => (r.1, r.2.2)) (r := leR) (s := leK) (fun a _ b _ => rfl)]
      have qin : ∀ z ∈ qs, z.2 ∈ rows := fun z hz => by
        have : z.2 ∈ qs.map (·.2) := List.mem_map.mpr ⟨z, hz, rfl⟩
        rw [g2] at this
        exact (List.mergeSort_perm _ _).mem_iff.mp this
      let F' : Hp := fun b => if b ∈ qs.map (·.1) then H' b else F b
      have fq : ∀ z ∈ qs, F' z.1 = H' z.1 := fun z hz => by
        show (if z.1 ∈ qs.map (·.1) then H' z.1 else F z.1) = _
        rw [if_pos (List.mem_map.mpr ⟨z, hz, rfl⟩)]
      have fn : ∀ b, (∃ o, H b = some o) → F' b = F b := fun b ⟨o, ho⟩ => by
        show (if b ∈ qs.map (·.1) then H' b else F b) = _
        rw [if_neg]
        intro hm
        obtain ⟨z, hz, rfl⟩ := List.mem_map.mp hm
        rw [(g5 z hz).1] at ho; cases ho
      have le : Le F F' := fun b o e => by rw [fn b ⟨_, W.sub b o e⟩]; exact e
      have hv : VDs X.K F' (qs.map fun q => V.ref q.1) ((rs.mergeSort leK).map fun r => .d (pairD r)) := by
        rw [← srt, List.map_map]
        have : ∀ L : List (Addr × Key × V × PyData), (∀ z ∈ L, z ∈ qs) → VDs X.K F' (L.map fun q => V.ref q.1) (L.map ((fun r : Key × PyData => EV.d (pairD r)) ∘ fun q => (q.2.1, q.2.2.2))) := by
          intro L
          induction L with
          | nil => intro _; exact .nil
          | cons z L ih =>
            intro h
            refine .cons ?_ (ih fun y hy => h y (List.mem_cons_of_mem _ hy))
            have hz := h z (List.mem_cons_self ..)
            show Dq X.K F' (.ref z.1) (.tuple [keyP z.2.1, z.2.2.2])
            refine .tup (xs := [kV z.2.1, z.2.2.1]) (by rw [fq z hz]; exact (g5 z hz).2.2) (.cons ?_ (.cons ((e3 z.2 (qin z hz)).mono le) .nil))
            cases z.2.1 with
            | inl i => exact .int i
            | inr x => exact .str x
        exact this qs fun z hz => hz
      have W' : Wd X.K (M.set l' (.lst ((rs.mergeSort leK).map fun r => .d (pairD r)))) H' F' := by
        refine ⟨fun b o e => ?_, fun b m e => ?_⟩
        · by_cases hm : b ∈ qs.map (·.1)
          · obtain ⟨z, hz, rfl⟩ := List.mem_map.mp hm
            have h5 := (g5 z hz).2.2
            rw [fq z hz] at e
            rw [h5] at e; cases e
            rw [h5]; rfl
          · have : F' b = F b := if_neg hm
            rw [this] at e
            exact g1 _ _ (W.sub b o e)
        · by_cases hb : b = l'
          · subst hb
            rw [Mem.set_same] at e; cases e
            refine ⟨?_, _, g4, hv⟩
            have : b ∉ qs.map (·.1) := fun hm => by
              obtain ⟨z, hz, ez⟩ := List.mem_map.mp hm
              exact (g5 z hz).2.1 ez
            have e : F' b = F b := if_neg this
            rw [e]; exact W.freeF g3
          · rw [Mem.set_ne hb] at e
            obtain ⟨k1, k2⟩ := W.mem b m e
            refine ⟨?_, k2.mono le fun o ho => g1 _ _ ho⟩
            rw [fn b k2.there]; exact k1
      exact l _ H' F' (.v (.ref l')) _ le W' rfl (q l' (W.freeM g3))
  · exact q.elim⟩
/-! texts -/
def jrLenS : JRC := fun xs M Φ => match xs with
  | [.d (.str z)] => lenOk z.length ∧ Φ (.d (.int z.length)) M
  | _ => False
theorem cj_lenS : CallJ X (.builtin "len") jrLenS := ⟨_, call_len_str, fun F M H vs xs Φ Q W r q l => by
  unfold jrLenS at q
  split at q
  · cases r with
    | cons r t =>
      cases t; cases r
      exact ⟨_, rfl, q.1.line, l _ H F _ M (Le.refl F) W (VD.int _) q.2⟩
  · exact q.elim⟩
def signs (x : Str) : List EV := x.cps.toList.map fun c => .d (.str ⟨#[c]⟩)
def sign1 (x : Str) : Option Nat := match x.cps.toList with
  | [c] => some c
  | _ => none
theorem sign1_ok {x : Str} {c : Nat} (h : sign1 x = some c) : x = ⟨#[c]⟩ := by
  unfold sign1 at h
  split at h
  · rename_i c' e
    cases h
    exact PySem.W.str_of_cps (by rw [e])
  · cases h
def jrInS : JR2 := fun x y M Φ => match x, y with
  | .d (.str a), .d (.str z) => match sign1 a with
    | some c => Φ (.d (.bool (decide (c ∈ z.cps.toList)))) M
    | none => False
  | _, _ => False
theorem oj_inS : OpJ X (compareOp .In) jrInS := ⟨_, op_inS, fun F M H x y X Y Φ Q W rx ry q l => by
  unfold jrInS at q
  split at q
  · split at q
    · rename_i c e
      cases rx; cases ry
      exact ⟨c, _, by rw [sign1_ok e], rfl, l _ _ F _ M (Le.refl F) W (VD.bl _) q⟩
    · exact q.elim
  · exact q.elim⟩
def jrNotInS : JR2 := fun x y M Φ => match x, y with
  | .d (.str a), .d (.str z) => match sign1 a with
    | some c => Φ (.d (.bool (!decide (c ∈ z.cps.toList)))) M
    | none => False
  | _, _ => False
theorem oj_notInS : OpJ X (compareOp .NotIn) jrNotInS := ⟨_, op_notInS, fun F M H x y X Y Φ Q W rx ry q l => by
  unfold jrNotInS at q
  split at q
  · split at q
    · rename_i c e
      cases rx; cases ry
      exact ⟨c, _, by rw [sign1_ok e], rfl, l _ _ F _ M (Le.refl F) W (VD.bl _) q⟩
    · exact q.elim
  · exact q.elim⟩
def jiS (je : JTE) : JTI := fun ρ M Φ => je ρ M fun x M1 => match x with
  | .d (.str z) => Φ (.fixed (signs z)) M1
  | _ => False
theorem ji_str {tg e : Expr} {je : JTE} (he : JE X e je) : JI X tg e (jiS je) := (pi_str he).imp fun σ H R ⟨F, ρ, M, Φ, W, S, h, l⟩ =>
  rdE.at W S h fun v H1 F1 x M1 e1 W1 r1 h1 => by
    match x, r1, h1 with
    | .d (.str z), r1, h1 =>
      cases r1
      refine ⟨z, rfl, l _ M1 F1 H1 _ e1 W1 h1 trivial ⟨fun i H G M x e W ok hx => ?_, fun i H G M e W ok hi => ?_⟩⟩
      · have hx : (z.cps.toList.map fun c => EV.d (.str ⟨#[c]⟩))[i]? = some x := hx
        rw [List.getElem?_map] at hx
        cases q : z.cps.toList[i]? with
        | none => rw [q] at hx; cases hx
        | some c =>
          rw [q] at hx
          cases hx
          have hi : i < z.cps.size := by have := (List.getElem?_eq_some_iff.mp q).1; simpa using this
          refine ⟨hi, fun v' H' y => ?_⟩
          obtain ⟨rfl, c', hc', rfl⟩ := y
          refine ⟨G, Le.refl G, W, ?_⟩
          have : c' = c := by
            rw [Array.getElem?_toList] at q
            rw [hc'] at q; exact Option.some.inj q
          subst this
          exact VD.str _
      · have hi : (z.cps.toList.map fun c => EV.d (.str ⟨#[c]⟩)).length ≤ i := hi
        rw [List.length_map, Array.length_toList] at hi
        exact hi
/-! < of data -/
def rLtD (K : PySem.W.Frag) : R2 := fun x y H Q => ∃ d e, Dp K H x d ∧ Dp K H y e ∧ alike d e = true ∧ d ≠ .none ∧ d.depth ≤ 60 ∧ Q (.bl (dataLt d e)) H
theorem op_ltD (hu : X.A.units + 64 < cLine) : OpR X (compareOp .Lt) (rLtD X.K) := by
  intro pins s σ H x y v u Q I rx ry h
  obtain ⟨d, e, hd, he, ha, hn, hde, q⟩ := h
  obtain ⟨as, r1⟩ := Dp.reads I d x v hd rx
  obtain ⟨bs, r2⟩ := Dp.reads I e y u he ry
  exact PySem.W.lt_data r1 r2 ha hn (by have := Nat.min_le_left d.depth e.depth; omega) ⟨.bl _, H, I, rfl, q⟩
def jrLtD : JR2 := fun x y M Φ => match rdD M x, rdD M y with
  | some d, some e => (alike d e = true ∧ d ≠ .none ∧ d.depth ≤ 60) ∧ Φ (.d (.bool (dataLt d e))) M
  | _, _ => False
theorem oj_ltD (hu : X.A.units + 64 < cLine) : OpJ X (compareOp .Lt) jrLtD := ⟨_, op_ltD hu, fun F M H x y X Y Φ Q W rx ry q l => by
  unfold jrLtD at q
  split at q
  · rename_i d e e1 e2
    exact ⟨d, e, (rdD_ok W rx e1).dp, (rdD_ok W ry e2).dp, q.1.1, q.1.2.1, q.1.2.2, l _ _ F _ M (Le.refl F) W (VD.bl _) q.2⟩
  · exact q.elim⟩
end
/-! by name -/
section
variable {X : Cx} {p pos : Pos} {e : Expr} {es : List Expr} {ja : JTA}
theorem jb_sorted (B : Blt X.mg) (hu : X.A.units + 64 < cLine) (ha : JA X (e :: es) ja) (hg : Gl X "sorted" := by rfl) (he : starEach (e :: es) X.env = (false, eval e X.env) :: starEach es X.env := by rfl) (hpl : (backTo pos (starEach es X.env)).any (·.1) = false := by rfl) :
    JE X (.Call (.Name "sorted" p) (e :: es) [] pos) (jCB jrSortD ja) := je_callB (cj_sortD hu) hg B.sorted bt_sorted ha (by decide) (by decide) he hpl
theorem jb_sortedI (B : Blt X.mg) (hu : X.A.units + 64 < cLine) (ha : JA X (e :: es) ja) (hc : X.calm = true := by rfl) (hg : Gl X "sorted" := by rfl) (he : starEach (e :: es) X.env = (false, eval e X.env) :: starEach es X.env := by rfl) (hpl : (backTo pos (starEach es X.env)).any (·.1) = false := by rfl) :
    JE X (.Call (.Name "sorted" p) (e :: es) [] pos) (jCB jrSortIt ja) := je_callB (cj_sortIt hc hu) hg B.sorted bt_sorted ha (by decide) (by decide) he hpl
theorem jb_lenS (B : Blt X.mg) (ha : JA X (e :: es) ja) (hg : Gl X "len" := by rfl) (he : starEach (e :: es) X.env = (false, eval e X.env) :: starEach es X.env := by rfl) (hpl : (backTo pos (starEach es X.env)).any (·.1) = false := by rfl) :
    JE X (.Call (.Name "len" p) (e :: es) [] pos) (jCB jrLenS ja) := je_callB cj_lenS hg B.len bt_len ha (by decide) (by decide) he hpl
end

/-! ### defs that leave cells behind -/
def MLe (M0 M : Mem) : Prop := ∀ a m, M0 a = some m → M a = some m
def Dr (Φ : JK) : JK := fun v M' => ∃ M0, MLe M0 M' ∧ Φ v M0
def DrX (Ψ : JXK) : JXK := fun v M' => ∃ M0, MLe M0 M' ∧ Ψ v M0
theorem MLe.refl (M : Mem) : MLe M M := fun _ _ h => h
theorem MLe.trans {A B C : Mem} (h : MLe A B) (g : MLe B C) : MLe A C := fun a m e => g a m (h a m e)
theorem MLe.set {M : Mem} {p : Addr} {m : MO} (h : M p = none) : MLe M (M.set p m) := fun a n e => by
  have : a ≠ p := by rintro rfl; rw [h] at e; cases e
  rw [Mem.set_ne this]; exact e
theorem Dr.of {Φ : JK} {v : EV} {M : Mem} (h : Φ v M) : Dr Φ v M := ⟨M, MLe.refl M, h⟩
theorem Dr.set {Φ : JK} {v : EV} {M : Mem} {p : Addr} {m : MO} (hp : M p = none) (h : Φ v M) : Dr Φ v (M.set p m) := ⟨M, MLe.set hp, h⟩
theorem LE.dr {K : PySem.W.Frag} {F : Hp} {Φ : JK} {Q : VK} (l : LE K F Φ Q) : LE K F (Dr Φ) Q := fun v H' F' x M' e W r ⟨M0, s, h⟩ => l v H' F' x M0 e (W.drop s) r h
theorem LX.dr {K : PySem.W.Frag} {F : Hp} {Ψ : JXK} {E : XK} (l : LX K F Ψ E) : LX K F (DrX Ψ) E := fun c d H' F' M' e W ⟨M0, s, h⟩ => l c d H' F' M0 e (W.drop s) h
section
variable {P : Program} {w : World} {K : PySem.W.Frag} {mg : Str → Option Value} {base : Heap}
theorem DefAt.fnjW {x : Str} {st : Stmt} {N ps : List Str} {k : Nat} {T : TJ} {js : JTS} (D : DefAt K mg x st ps) (S : FnScope N ps (defScope st)) (len : ∀ xs M Φ Ψ, T xs M Φ Ψ → xs.length = ps.length)
    (hb : ∀ (f : Addr) (cdv : Value) (A : Around) (outer : List Env) (s : Shared) (H : Hp) (E : XK), Room k (A.deeper (envOfC x (defScope st) s.heap.objs.size f cdv)) →
      JSs (cxOf CX0 P w K mg base N x (defScope st) f cdv A outer s H E).nox E (defBody st) js)
    (hq : ∀ xs M Φ Ψ, T xs M Φ Ψ → js { nx := fun _ M' => Dr Φ (.d .none) M', rt := Dr Φ, xr := DrX Ψ } (jstart N.length xs) M) :
    FnJ P w K mg base (k + 1) x ps T :=
  (DefAt.fnj (T := fun xs M Φ Ψ => xs.length = ps.length ∧ js { nx := fun _ M' => Φ (.d .none) M', rt := Φ, xr := Ψ } (jstart N.length xs) M) D S (fun _ _ _ _ h => h.1) hb fun _ _ _ _ h => h.2) |> fun F =>
    let ⟨f, fd, h1, h2, h3, h4⟩ := F.ex
    ⟨f, fd, h1, h2, h3, h4.imp fun vs H Q E ⟨F, M, xs, Φ, Ψ, W, r, q, l, lx⟩ => ⟨F, M, xs, Dr Φ, DrX Ψ, W, r, ⟨len _ _ _ _ q, hq _ _ _ _ q⟩, l.dr, lx.dr⟩⟩
theorem DefAt.fnjXW {x : Str} {st : Stmt} {N ps : List Str} {k : Nat} {T : TJ} {js : JTS} (D : DefAt K mg x st ps) (S : FnScope N ps (defScope st)) (len : ∀ xs M Φ Ψ, T xs M Φ Ψ → xs.length = ps.length)
    (hb : ∀ (f : Addr) (cdv : Value) (A : Around) (outer : List Env) (s : Shared) (H : Hp) (E : XK), Room k (A.deeper (envOfC x (defScope st) s.heap.objs.size f cdv)) →
      JSs (cxOf (L2.CX P w) P w K mg base N x (defScope st) f cdv A outer s H E) E (defBody st) js)
    (hq : ∀ xs M Φ Ψ, T xs M Φ Ψ → js { nx := fun _ M' => Dr Φ (.d .none) M', rt := Dr Φ, xr := DrX Ψ } (jstart N.length xs) M) :
    FnJX P w K mg base (k + 1) x ps T :=
  (DefAt.fnjX (T := fun xs M Φ Ψ => xs.length = ps.length ∧ js { nx := fun _ M' => Φ (.d .none) M', rt := Φ, xr := Ψ } (jstart N.length xs) M) D S (fun _ _ _ _ h => h.1) hb fun _ _ _ _ h => h.2) |> fun F =>
    let ⟨f, fd, h1, h2, h3, h4⟩ := F.ex
    ⟨f, fd, h1, h2, h3, h4.imp fun vs H Q E ⟨F, M, xs, Φ, Ψ, W, r, q, l, lx⟩ => ⟨F, M, xs, Dr Φ, DrX Ψ, W, r, ⟨len _ _ _ _ q, hq _ _ _ _ q⟩, l.dr, lx.dr⟩⟩
end
end Td

/-! TdR0: tools for readings: tests, comprehensions, loops, equality of data. -/
namespace Td
open PySem PySem.Spec PyProof.Rows L2

/-! ### a test's two ways -/
def sel (b : Bool) (p q : Prop) : Prop := match b with
  | true => p
  | false => q
theorem sel_dec {c : Prop} [Decidable c] {p q : Prop} (h1 : c → p) (h2 : ¬ c → q) : sel (decide c) p q := by
  by_cases h : c
  · rw [decide_eq_true h]; exact h1 h
  · rw [decide_eq_false h]; exact h2 h
theorem sel_ndec {c : Prop} [Decidable c] {p q : Prop} (h1 : ¬ c → p) (h2 : c → q) : sel (!decide c) p q := by
  by_cases h : c
  · rw [decide_eq_true h]; exact h2 h
  · rw [decide_eq_false h]; exact h1 h
theorem sel_xdec {c : Prop} [Decidable c] {p q : Prop} (h1 : ¬ c → p) (h2 : c → q) : sel (true ^^ decide c) p q := by
  by_cases h : c
  · rw [decide_eq_true h]; exact h2 h
  · rw [decide_eq_false h]; exact h1 h
theorem sel_fdec {c : Prop} [Decidable c] {p q : Prop} (h1 : c → p) (h2 : ¬ c → q) : sel (false ^^ decide c) p q := by
  by_cases h : c
  · rw [decide_eq_true h]; exact h1 h
  · rw [decide_eq_false h]; exact h2 h
theorem sel_b {b : Bool} {p q : Prop} (h1 : b = true → p) (h2 : b = false → q) : sel b p q := by
  cases b
  · exact h2 rfl
  · exact h1 rfl
def selE (x : EV) (p q : Prop) : Prop := match x with
  | .d (.bool true) => p
  | .d (.bool false) => q
  | _ => False
theorem selE_dec {c : Prop} [Decidable c] {p q : Prop} (h1 : c → p) (h2 : ¬ c → q) : selE (.d (.bool (decide c))) p q := by
  by_cases h : c
  · rw [decide_eq_true h]; exact h1 h
  · rw [decide_eq_false h]; exact h2 h
theorem selE_b {b : Bool} {p q : Prop} (h1 : b = true → p) (h2 : b = false → q) : selE (.d (.bool b)) p q := by
  cases b
  · exact h2 rfl
  · exact h1 rfl

/-! ### comprehensions that change nothing -/
theorem fzs_d (M : Mem) : ∀ ds : List PyData, fzs (ds.map .d) M = some (ds, M)
  | [] => rfl
  | d :: ds => by
    show (match (some (d, M) : Option (PyData × Mem)) with
      | some (d, M1) => match fzs (ds.map .d) M1 with
        | some (ds, M2) => some (d :: ds, M2)
        | none => none
      | none => none) = _
    show (match fzs (ds.map .d) M with
        | some (ds, M2) => some (d :: ds, M2)
        | none => none) = _
    rw [fzs_d M ds]
theorem accF {α : Type} {g : JTG} {jt : JTT} {je : JTE} {ρ0 : JEnv} {Ψ : List EV → Mem → Prop} {M : Mem} (enc : α → PyData) (p : α → Bool) (f : α → PyData) :
    ∀ (xs : List α) (acc : List PyData), (∀ a ∈ xs, ∀ (K1 : JK) (K2 : Mem → Prop), (p a = true → K1 (.d (f a)) M) → (p a = false → K2 M) → g (.d (enc a)) ρ0 M fun ρ1 M1 => jt ρ1 M1 fun b M2 => match b with
      | true => je ρ1 M2 K1
      | false => K2 M2) → Ψ ((acc ++ (xs.filter p).map f).map .d) M → jAccF g jt je ρ0 Ψ ((xs.map enc).map .d) (acc.map .d) M
  | [], acc, _, h => by rw [List.filter_nil, List.map_nil, List.append_nil] at h; exact h
  | a :: xs, acc, st, h => by
    refine st a (List.mem_cons_self ..) (fun y M3 => jAccF g jt je ρ0 Ψ ((xs.map enc).map .d) (acc.map .d ++ [y]) M3) (fun M2 => jAccF g jt je ρ0 Ψ ((xs.map enc).map .d) (acc.map .d) M2) (fun hp => ?_) fun hp => ?_
    · have := accF enc p f (Ψ := Ψ) (M := M) xs (acc ++ [f a]) (fun b hb => st b (List.mem_cons_of_mem _ hb)) (by
        rw [List.filter_cons_of_pos hp, List.map_cons] at h
        rw [List.append_assoc]; exact h)
      rw [List.map_append] at this
      exact this
    · exact accF enc p f xs acc (fun b hb => st b (List.mem_cons_of_mem _ hb)) (by
        rw [List.filter_cons_of_neg (by rw [hp]; decide)] at h
        exact h)
theorem lcF {α : Type} {ji : JTI} {g : JTG} {jt : JTT} {je : JTE} {vs : List Nat} {ρ : JEnv} {M : Mem} {Φ : JK} (enc : α → PyData) (p : α → Bool) (f : α → PyData) (xs : List α)
    (hji : ∀ Φ' : Src → Mem → Prop, Φ' (.fixed ((xs.map enc).map .d)) M → ji ρ M Φ') (hl : lenOk xs.length)
    (st : ∀ a ∈ xs, ∀ (K1 : JK) (K2 : Mem → Prop), (p a = true → K1 (.d (f a)) M) → (p a = false → K2 M) → g (.d (enc a)) (jwipe ρ vs) M fun ρ1 M1 => jt ρ1 M1 fun b M2 => match b with
      | true => je ρ1 M2 K1
      | false => K2 M2)
    (h : Φ (.d (.list ((xs.filter p).map f))) M) : jLc ji g jt je vs ρ M Φ := by
  refine hji _ ⟨?_, ?_⟩
  · show lenOk ((xs.map enc).map EV.d).length
    rw [List.length_map, List.length_map]; exact hl
  · refine accF enc p f xs [] st ?_
    show (match fzs (([] ++ (xs.filter p).map f).map .d) M with
      | some (ds, M3) => Φ (.d (.list ds)) M3
      | none => False)
    rw [fzs_d, List.nil_append]
    exact h
/-- a comprehension's items -/
theorem accG {α : Type} {g : JTG} {jt : JTT} {je : JTE} {ρ0 : JEnv} {Ψ : List EV → Mem → Prop} {M : Mem} (enc : α → PyData) (p : α → Bool) (f : α → PyData) (xs : List α)
    (st : ∀ a ∈ xs, ∀ (K1 : JK) (K2 : Mem → Prop), (p a = true → K1 (.d (f a)) M) → (p a = false → K2 M) → g (.d (enc a)) ρ0 M fun ρ1 M1 => jt ρ1 M1 fun b M2 => match b with
      | true => je ρ1 M2 K1
      | false => K2 M2) (h : Ψ (((xs.filter p).map f).map .d) M) : jAccF g jt je ρ0 Ψ ((xs.map enc).map .d) [] M :=
  accF enc p f xs [] st (by rw [List.nil_append]; exact h)
theorem accG1 {α : Type} {g : JTG} {je : JTE} {ρ0 : JEnv} {Ψ : List EV → Mem → Prop} {M : Mem} (enc : α → PyData) (f : α → PyData) (xs : List α)
    (st : ∀ a ∈ xs, ∀ (K1 : JK), K1 (.d (f a)) M → g (.d (enc a)) ρ0 M fun ρ1 M1 => je ρ1 M1 K1) (h : Ψ ((xs.map f).map .d) M) : jAccF g jYes je ρ0 Ψ ((xs.map enc).map .d) [] M := by
  have e : xs.filter (fun _ => true) = xs := by simp
  exact accG enc (fun _ => true) f xs (fun a ha K1 K2 k1 _ => st a ha K1 (k1 rfl)) (by rw [e]; exact h)
theorem lenF {α : Type} {enc : α → PyData} {xs : List α} (h : xs.length ≤ 1000000) : lenOk (Src.fixed ((xs.map enc).map .d)).items.length := by
  show lenOk ((xs.map enc).map EV.d).length
  rw [List.length_map, List.length_map]; exact h
theorem lenC {α : Type} {enc : α → PyData} {xs : List α} {q : Addr} (h : xs.length ≤ 1000000) : lenOk (Src.cell q ((xs.map enc).map .d)).items.length := by
  show lenOk ((xs.map enc).map EV.d).length
  rw [List.length_map, List.length_map]; exact h
/-- .. over a cell -/
theorem accC {α : Type} {ok : Mem → Prop} {g : JTG} {jt : JTT} {je : JTE} {ρ0 : JEnv} {Ψ : List EV → Mem → Prop} {M : Mem} (hok : ok M) (enc : α → PyData) (p : α → Bool) (f : α → PyData) :
    ∀ (xs : List α) (acc : List PyData), (∀ a ∈ xs, ∀ (K1 : JK) (K2 : Mem → Prop), (p a = true → K1 (.d (f a)) M) → (p a = false → K2 M) → g (.d (enc a)) ρ0 M fun ρ1 M1 => jt ρ1 M1 fun b M2 => match b with
      | true => je ρ1 M2 K1
      | false => K2 M2) → Ψ ((acc ++ (xs.filter p).map f).map .d) M → jAccC ok g jt je ρ0 Ψ ((xs.map enc).map .d) (acc.map .d) M
  | [], acc, _, h => by rw [List.filter_nil, List.map_nil, List.append_nil] at h; exact ⟨hok, h⟩
  | a :: xs, acc, st, h => by
    refine ⟨hok, st a (List.mem_cons_self ..) (fun y M3 => jAccC ok g jt je ρ0 Ψ ((xs.map enc).map .d) (acc.map .d ++ [y]) M3) (fun M2 => jAccC ok g jt je ρ0 Ψ ((xs.map enc).map .d) (acc.map .d) M2) (fun hp => ?_) fun hp => ?_⟩
    · have := accC hok enc p f (Ψ := Ψ) (M := M) xs (acc ++ [f a]) (fun b hb => st b (List.mem_cons_of_mem _ hb)) (by
        rw [List.filter_cons_of_pos hp, List.map_cons] at h
        rw [List.append_assoc]; exact h)
      rw [List.map_append] at this
      exact this
    · exact accC hok enc p f xs acc (fun b hb => st b (List.mem_cons_of_mem _ hb)) (by
        rw [List.filter_cons_of_neg (by rw [hp]; decide)] at h
        exact h)
theorem accCG {α : Type} {ok : Mem → Prop} {g : JTG} {jt : JTT} {je : JTE} {ρ0 : JEnv} {Ψ : List EV → Mem → Prop} {M : Mem} (enc : α → PyData) (p : α → Bool) (f : α → PyData) (xs : List α) (hok : ok M)
    (st : ∀ a ∈ xs, ∀ (K1 : JK) (K2 : Mem → Prop), (p a = true → K1 (.d (f a)) M) → (p a = false → K2 M) → g (.d (enc a)) ρ0 M fun ρ1 M1 => jt ρ1 M1 fun b M2 => match b with
      | true => je ρ1 M2 K1
      | false => K2 M2) (h : Ψ (((xs.filter p).map f).map .d) M) : jAccC ok g jt je ρ0 Ψ ((xs.map enc).map .d) [] M :=
  accC hok enc p f xs [] st (by rw [List.nil_append]; exact h)
theorem lcC {α : Type} {ji : JTI} {g : JTG} {jt : JTT} {je : JTE} {vs : List Nat} {ρ : JEnv} {M : Mem} {Φ : JK} {q : Addr} (enc : α → PyData) (p : α → Bool) (f : α → PyData) (xs : List α) (hq : M q = some (.lst ((xs.map enc).map .d)))
    (hji : ∀ Φ' : Src → Mem → Prop, Φ' (.cell q ((xs.map enc).map .d)) M → ji ρ M Φ') (hl : lenOk xs.length)
    (st : ∀ a ∈ xs, ∀ (K1 : JK) (K2 : Mem → Prop), (p a = true → K1 (.d (f a)) M) → (p a = false → K2 M) → g (.d (enc a)) (jwipe ρ vs) M fun ρ1 M1 => jt ρ1 M1 fun b M2 => match b with
      | true => je ρ1 M2 K1
      | false => K2 M2)
    (h : Φ (.d (.list ((xs.filter p).map f))) M) : jLc ji g jt je vs ρ M Φ := by
  refine hji _ ⟨?_, ?_⟩
  · show lenOk ((xs.map enc).map EV.d).length
    rw [List.length_map, List.length_map]; exact hl
  · refine accC hq enc p f xs [] st ?_
    show (match fzs (([] ++ (xs.filter p).map f).map .d) M with
      | some (ds, M3) => Φ (.d (.list ds)) M3
      | none => False)
    rw [fzs_d, List.nil_append]
    exact h
/-- a cell read as a walk's list -/
theorem jiL_cell {je : JTE} {ρ : JEnv} {M : Mem} {Φ : Src → Mem → Prop} {q : Addr} {xs : List EV} (hq : M q = some (.lst xs)) (he : ∀ K : JK, K (.v (.ref q)) M → je ρ M K) (h : Φ (.cell q xs) M) : jiL je ρ M Φ := by
  refine he _ ?_
  show (match srcL M (.v (.ref q)) with
    | some src => Φ src M
    | none => False)
  have : srcL M (.v (.ref q)) = some (.cell q xs) := by unfold srcL; simp [hq]
  rw [this]; exact h

/-! ### loops -/
theorem loopF {α : Type} {g : JTG} {jb : JTS} {J : JEnds} (enc : α → PyData) (Inv : List α → JEnv → Mem → Prop)
    (h0 : ∀ ρ M, Inv [] ρ M → J.nx ρ M)
    (h1 : ∀ x xs ρ M, Inv (x :: xs) ρ M → ∀ N : JEnv → Mem → Prop, (∀ ρ M, Inv xs ρ M → N ρ M) → g (.d (enc x)) ρ M fun ρ1 M1 => jb { J with nx := N, ct := N, bk := J.nx } ρ1 M1) :
    ∀ (xs : List α) (ρ : JEnv) (M : Mem), Inv xs ρ M → jLoopF g jb J ((xs.map enc).map .d) ρ M
  | [], ρ, M, h => h0 ρ M h
  | x :: xs, ρ, M, h => h1 x xs ρ M h _ fun ρ M h => loopF enc Inv h0 h1 xs ρ M h
theorem loopE {α : Type} {g : JTG} {jb : JTS} {J : JEnds} (enc : α → EV) (Inv : List α → JEnv → Mem → Prop)
    (h0 : ∀ ρ M, Inv [] ρ M → J.nx ρ M)
    (h1 : ∀ x xs ρ M, Inv (x :: xs) ρ M → ∀ N : JEnv → Mem → Prop, (∀ ρ M, Inv xs ρ M → N ρ M) → g (enc x) ρ M fun ρ1 M1 => jb { J with nx := N, ct := N, bk := J.nx } ρ1 M1) :
    ∀ (xs : List α) (ρ : JEnv) (M : Mem), Inv xs ρ M → jLoopF g jb J (xs.map enc) ρ M
  | [], ρ, M, h => h0 ρ M h
  | x :: xs, ρ, M, h => h1 x xs ρ M h _ fun ρ M h => loopE enc Inv h0 h1 xs ρ M h

theorem loopEnum {α : Type} {g : JTG} {jb : JTS} {J : JEnds} (enc : α → PyData) (Inv : Nat → List α → JEnv → Mem → Prop)
    (h0 : ∀ k ρ M, Inv k [] ρ M → J.nx ρ M)
    (h1 : ∀ k x xs ρ M, Inv k (x :: xs) ρ M → ∀ N : JEnv → Mem → Prop, (∀ ρ M, Inv (k + 1) xs ρ M → N ρ M) → g (.d (.tuple [.int (k : Nat), enc x])) ρ M fun ρ1 M1 => jb { J with nx := N, ct := N, bk := J.nx } ρ1 M1) :
    ∀ (xs : List α) (k : Nat) (ρ : JEnv) (M : Mem), Inv k xs ρ M → jLoopF g jb J (enumD k (xs.map enc)) ρ M
  | [], k, ρ, M, h => h0 k ρ M h
  | x :: xs, k, ρ, M, h => h1 k x xs ρ M h _ fun ρ M h => loopEnum enc Inv h0 h1 xs (k + 1) ρ M h
theorem atI_last {α : Type} {xs : List α} {z : α} : atI (xs ++ [z]) (-1) = some z := by
  unfold atI
  have : ixN (xs ++ [z]).length (-1) = some xs.length := by
    unfold ixN
    rw [if_neg (by decide), List.length_append, List.length_singleton]
    rw [if_pos (by omega)]
    congr 1
    omega
  rw [this]
  simp
theorem atI_nat {α : Type} {xs : List α} {i : Nat} {z : α} (h : xs[i]? = some z) : atI xs (i : Int) = some z := by
  obtain ⟨h1, h2⟩ := List.getElem?_eq_some_iff.mp h
  unfold atI
  have : ixN xs.length (i : Int) = some i := by
    unfold ixN
    rw [if_pos (by omega), if_pos (by omega)]
    congr 1
  rw [this]
  exact h
theorem atI_m1 {α : Type} {xs : List α} {z : α} (h : xs[xs.length - 1]? = some z) : atI xs (-1) = some z := by
  obtain ⟨h1, h2⟩ := List.getElem?_eq_some_iff.mp h
  have hx : xs ≠ [] := by rintro rfl; simp at h1
  have e := (List.dropLast_concat_getLast hx)
  have : xs.getLast hx = z := by rw [List.getLast_eq_getElem]; exact h2
  rw [this] at e
  rw [← e]; exact atI_last
/-! ### targets -/
theorem tup2 {a b : PyData} {t u : JTG} {ρ : JEnv} {M : Mem} {Φ : JEnv → Mem → Prop} (h : t (.d a) ρ M fun ρ1 M1 => u (.d b) ρ1 M1 Φ) : jgTup 2 (jgCons t (jgCons u jgNil)) (.d (.tuple [a, b])) ρ M Φ := h
theorem tup3 {a b c : PyData} {t u v : JTG} {ρ : JEnv} {M : Mem} {Φ : JEnv → Mem → Prop} (h : t (.d a) ρ M fun ρ1 M1 => u (.d b) ρ1 M1 fun ρ2 M2 => v (.d c) ρ2 M2 Φ) : jgTup 3 (jgCons t (jgCons u (jgCons v jgNil))) (.d (.tuple [a, b, c])) ρ M Φ := h
/-! ### cells -/
theorem isLst_cell {M : Mem} {p : Addr} {xs : List EV} (h : M p = some (.lst xs)) : isLst (.v (.ref p)) M := by
  have : rdL M (.v (.ref p)) = some xs := by unfold rdL; simp [h]
  unfold isLst; rw [this]; trivial
theorem cellL_at {M : Mem} {p : Addr} {xs : List EV} (h : M p = some (.lst xs)) : cellL M (.v (.ref p)) = some (p, xs) := by unfold cellL; simp [h]
theorem srcL_cell {M : Mem} {p : Addr} {xs : List EV} (h : M p = some (.lst xs)) : srcL M (.v (.ref p)) = some (.cell p xs) := by unfold srcL; simp [h]
theorem rdL_at {M : Mem} {p : Addr} {xs : List EV} (h : M p = some (.lst xs)) : rdL M (.v (.ref p)) = some xs := by unfold rdL; simp [h]
theorem rdD_at {M : Mem} {p : Addr} {ds : List PyData} (h : M p = some (.lst (ds.map .d))) : rdD M (.v (.ref p)) = some (.list ds) := by unfold rdD; simp [h, allD_of]
theorem fz_at {M : Mem} {p : Addr} {ds : List PyData} (h : M p = some (.lst (ds.map .d))) : fz (.v (.ref p)) M = some (.list ds, M.del p) := by unfold fz; simp [h, allD_of]
theorem do_append {M : Mem} {p : Addr} {xs : List EV} {y : EV} {Φ : JK} (h : M p = some (.lst xs)) (hl : lenOk (xs.length + 1)) (q : Φ (.d .none) (M.set p (.lst (xs ++ [y])))) : jrAppend (.v (.ref p)) [y] M Φ := by
  unfold jrAppend; rw [cellL_at h]; exact ⟨hl, q⟩
theorem do_insert {M : Mem} {p : Addr} {xs : List EV} {y : EV} {i : Int} {Φ : JK} (h : M p = some (.lst xs)) (hl : lenOk (xs.length + 1) ∧ 0 ≤ i ∧ i < 2 ^ 63) (q : Φ (.d .none) (M.set p (.lst (xs.take i.toNat ++ [y] ++ xs.drop i.toNat)))) : jrInsert (.v (.ref p)) [.d (.int i), y] M Φ := by
  unfold jrInsert; rw [cellL_at h]; exact ⟨hl, q⟩
theorem do_fz {M : Mem} {p : Addr} {ds : List PyData} {Φ : JK} (h : M p = some (.lst (ds.map .d))) (q : Φ (.d (.list ds)) (M.del p)) : (match fz (.v (.ref p)) M with
  | some (d, M2) => Φ (.d d) M2
  | none => False) := by rw [fz_at h]; exact q

/-! ### equality of data -/
structure Shp (n : Nat) (d : PyData) : Prop where
  lay : d.canLay0 = true
  deep : d.depth ≤ n
theorem Shp.mono {n m : Nat} {d : PyData} (h : Shp n d) (e : n ≤ m) : Shp m d := ⟨h.lay, Nat.le_trans h.deep e⟩
theorem Shp.ok {n : Nat} {d : PyData} (h : Shp n d) (hn : n ≤ 64) : SeqAt.shaped d = true := by
  unfold SeqAt.shaped; rw [h.lay, decide_eq_true (Nat.le_trans h.deep hn)]; rfl
theorem shp_all {n : Nat} : ∀ {ds : List PyData}, (∀ d ∈ ds, Shp n d) → PyData.canLayAll0 ds = true ∧ PyData.depthAll ds ≤ n
  | [], _ => ⟨by simp [PyData.canLayAll0], by simp [PyData.depthAll]⟩
  | d :: ds, h => by
    obtain ⟨h1, h2⟩ := shp_all (ds := ds) fun x hx => h x (List.mem_cons_of_mem _ hx)
    have h3 := h d (List.mem_cons_self ..)
    refine ⟨by simp only [PyData.canLayAll0]; rw [h3.lay, h1]; rfl, ?_⟩
    simp only [PyData.depthAll]
    have := h3.deep
    omega
theorem Shp.list {n : Nat} {ds : List PyData} (h : ∀ d ∈ ds, Shp n d) : Shp (n + 1) (.list ds) := by
  obtain ⟨h1, h2⟩ := shp_all h
  exact ⟨by simp only [PyData.canLay0]; exact h1, by simp only [PyData.depth]; omega⟩
theorem Shp.tup {n : Nat} {ds : List PyData} (h : ∀ d ∈ ds, Shp n d) : Shp (n + 1) (.tuple ds) := by
  obtain ⟨h1, h2⟩ := shp_all h
  exact ⟨by simp only [PyData.canLay0]; exact h1, by simp only [PyData.depth]; omega⟩
theorem Shp.int {n : Nat} {i : Int} : Shp n (.int i) := ⟨by simp [PyData.canLay0], by simp [PyData.depth]⟩
theorem Shp.bool {n : Nat} {i : Bool} : Shp n (.bool i) := ⟨by simp [PyData.canLay0], by simp [PyData.depth]⟩
theorem Shp.none {n : Nat} : Shp n .none := ⟨by simp [PyData.canLay0], by simp [PyData.depth]⟩
/-- an encoding that equality tells apart -/
structure EncEq {α : Type} (enc : α → PyData) : Prop where
  eq : ∀ a b, PyData.eqv (enc a) (enc b) = true ↔ a = b
theorem EncEq.dec {α : Type} {enc : α → PyData} (h : EncEq enc) (a b : α) [Decidable (a = b)] : PyData.eqv (enc a) (enc b) = decide (a = b) := by
  by_cases q : a = b
  · rw [decide_eq_true q]; exact (h.eq a b).mpr q
  · rw [decide_eq_false q]
    cases e : PyData.eqv (enc a) (enc b) with
    | false => rfl
    | true => exact (q ((h.eq a b).mp e)).elim
theorem EncEq.list {α : Type} {enc : α → PyData} (h : EncEq enc) : ∀ xs ys : List α, PyData.eqvAll (xs.map enc) (ys.map enc) = true ↔ xs = ys
  | [], [] => by simp [PyData.eqvAll]
  | [], _ :: _ => by simp [PyData.eqvAll]
  | _ :: _, [] => by simp [PyData.eqvAll]
  | x :: xs, y :: ys => by
    rw [List.map_cons, List.map_cons]
    simp only [PyData.eqvAll, Bool.and_eq_true, List.cons.injEq]
    rw [h.eq, EncEq.list h xs ys]
theorem EncEq.any {α : Type} [DecidableEq α] {enc : α → PyData} (h : EncEq enc) (a : α) : ∀ xs : List α, inD (enc a) (xs.map enc) = decide (a ∈ xs)
  | [] => by simp [inD]
  | x :: xs => by
    have ih := EncEq.any h a xs
    unfold inD at ih ⊢
    rw [List.map_cons, List.any_cons, ih, h.dec x a]
    by_cases q : x = a
    · subst q; simp
    · have q' : ¬ a = x := fun z => q z.symm
      simp [q, q']
def encQ (q : Rat) : PyData := .tuple [.int q.num, .int (q.den : Int)]
theorem encQ_shp (q : Rat) : Shp 1 (encQ q) := Shp.tup (n := 0) (by
  intro d hd
  simp only [List.mem_cons, List.not_mem_nil, or_false] at hd
  rcases hd with rfl | rfl <;> exact Shp.int)
theorem rat_eq {a b : Rat} (h1 : a.num = b.num) (h2 : a.den = b.den) : a = b := by
  rw [← Rat.mkRat_self a, ← Rat.mkRat_self b, h1, h2]
theorem encQ_eq : EncEq encQ := ⟨fun a b => by
  unfold encQ
  simp only [PyData.eqv, PyData.eqvAll, Bool.and_true, Bool.and_eq_true, beq_iff_eq]
  constructor
  · rintro ⟨h1, h2⟩
    exact rat_eq h1 (by omega)
  · rintro rfl
    exact ⟨rfl, rfl⟩⟩
end Td

/-! TdR1: fractions: readings, promises, what the defs do. -/
namespace Td
open PySem PySem.Spec PyProof.Rows L2

def j_divisor : JTS :=
  jSeq (jWhile (jTest (jOp (jrEq true) (jVar 1) (jC (.int 0)))) (jPar 0 1 (jCons (jVar 1) (jCons (jOp (jrIc (fun _ j => 0 < j) fun i j => .int (i % j)) (jVar 0) (jVar 1)) (jNil)))))
    (jRet (jVar 0))
def j_fraction (T_divisor : TJ) : JTS :=
  jSeq (jAsg (jOp (jrIc BMul fun i j => .int (i * j)) (jCall T_divisor (jCons (jCB jrAbs (jCons (jVar 0) (jNil))) (jCons (jCB jrAbs (jCons (jVar 1) (jNil))) (jNil)))) (jIf (jTest (jOp (jrI fun i j => .bool (decide (j < i))) (jVar 1) (jC (.int 0)))) (jC (.int 1)) (jUn (jrU fun i => .int (-i)) (jC (.int 1))))) (jName 2))
    (jRet (jTup (jCons (jOp (jrIc BDiv fun i j => .int (i / j)) (jVar 0) (jVar 2)) (jCons (jOp (jrIc BDiv fun i j => .int (i / j)) (jVar 1) (jVar 2)) (jNil)))))
def j_plus (T_fraction : TJ) : JTS :=
  jRet (jCall T_fraction (jCons (jOp (jrI fun i j => .int (i + j)) (jOp (jrIc BMul fun i j => .int (i * j)) (jOp jrIx (jVar 0) (jC (.int 0))) (jOp jrIx (jVar 1) (jC (.int 1)))) (jOp (jrIc BMul fun i j => .int (i * j)) (jOp jrIx (jVar 1) (jC (.int 0))) (jOp jrIx (jVar 0) (jC (.int 1))))) (jCons (jOp (jrIc BMul fun i j => .int (i * j)) (jOp jrIx (jVar 0) (jC (.int 1))) (jOp jrIx (jVar 1) (jC (.int 1)))) (jNil))))
def j_minus (T_fraction : TJ) : JTS :=
  jRet (jCall T_fraction (jCons (jOp (jrI fun i j => .int (i - j)) (jOp (jrIc BMul fun i j => .int (i * j)) (jOp jrIx (jVar 0) (jC (.int 0))) (jOp jrIx (jVar 1) (jC (.int 1)))) (jOp (jrIc BMul fun i j => .int (i * j)) (jOp jrIx (jVar 1) (jC (.int 0))) (jOp jrIx (jVar 0) (jC (.int 1))))) (jCons (jOp (jrIc BMul fun i j => .int (i * j)) (jOp jrIx (jVar 0) (jC (.int 1))) (jOp jrIx (jVar 1) (jC (.int 1)))) (jNil))))
def j_times (T_fraction : TJ) : JTS :=
  jRet (jCall T_fraction (jCons (jOp (jrIc BMul fun i j => .int (i * j)) (jOp jrIx (jVar 0) (jC (.int 0))) (jOp jrIx (jVar 1) (jC (.int 0)))) (jCons (jOp (jrIc BMul fun i j => .int (i * j)) (jOp jrIx (jVar 0) (jC (.int 1))) (jOp jrIx (jVar 1) (jC (.int 1)))) (jNil))))
def j_shared (T_fraction : TJ) : JTS :=
  jRet (jCall T_fraction (jCons (jOp (jrIc BMul fun i j => .int (i * j)) (jOp jrIx (jVar 0) (jC (.int 0))) (jOp jrIx (jVar 1) (jC (.int 1)))) (jCons (jOp (jrIc BMul fun i j => .int (i * j)) (jOp jrIx (jVar 0) (jC (.int 1))) (jOp jrIx (jVar 1) (jC (.int 0)))) (jNil))))
def j_is_less : JTS :=
  jRet (jOp (jrI fun i j => .bool (decide (i < j))) (jOp (jrIc BMul fun i j => .int (i * j)) (jOp jrIx (jVar 0) (jC (.int 0))) (jOp jrIx (jVar 1) (jC (.int 1)))) (jOp (jrIc BMul fun i j => .int (i * j)) (jOp jrIx (jVar 1) (jC (.int 0))) (jOp jrIx (jVar 0) (jC (.int 1)))))
def j_is_whole : JTS :=
  jRet (jAndV (jCB (jrIsi "int") (jCons (jVar 0) (jCons (jV (.ty "int")) (jNil)))) (jAndV (jNotV (jCB (jrIsi "bool") (jCons (jVar 0) (jCons (jV (.ty "bool")) (jNil))))) (jChain (jrI fun i j => .bool (decide (i ≤ j))) (jrI fun i j => .bool (decide (i ≤ j))) (jVar 1) (jVar 0) (jVar 2))))
def j_is_fraction (T_divisor : TJ) : JTS :=
  jSeq (jIfS (jOr (jNot (jTest (jCB (jrIsi "tuple") (jCons (jVar 0) (jCons (jV (.ty "tuple")) (jNil)))))) (jTest (jOp (jrEq true) (jCB jrLen (jCons (jVar 0) (jNil))) (jC (.int 2))))) (jRet (jC (.bool false))) (jNext))
    (jSeq (jIfS (jNot (jTest (jCB jrAll (jCons (jLc (jiT (jVar 0)) (jName 1) (jYes) (jAndV (jCB (jrIsi "int") (jCons (jVar 1) (jCons (jV (.ty "int")) (jNil)))) (jNotV (jCB (jrIsi "bool") (jCons (jVar 1) (jCons (jV (.ty "bool")) (jNil)))))) [1]) (jNil))))) (jRet (jC (.bool false))) (jNext))
    (jRet (jAndV (jOp (jrI fun i j => .bool (decide (j < i))) (jOp jrIx (jVar 0) (jC (.int 1))) (jC (.int 0))) (jOp (jrEq false) (jCall T_divisor (jCons (jCB jrAbs (jCons (jOp jrIx (jVar 0) (jC (.int 0))) (jNil))) (jCons (jOp jrIx (jVar 0) (jC (.int 1))) (jNil)))) (jC (.int 1))))))
/-! ### promises -/
def T_divisor : TJ := fun xs M Φ _ => ∃ a b : Nat, xs = [.d (.int a), .d (.int b)] ∧ Φ (.d (.int (Nat.gcd a b : Nat))) M
def T_fraction : TJ := fun xs M Φ _ => ∃ (t : Int) (n : Nat), xs = [.d (.int t), .d (.int n)] ∧ (n ≠ 0 ∧ Bt 3900 t ∧ Bt 3900 n) ∧ Φ (.d (encQ (mkRat t n))) M
def T_op (f : Rat → Rat → Rat) : TJ := fun xs M Φ _ => ∃ a b : Rat, xs = [.d (encQ a), .d (encQ b)] ∧ (Sm 1900 a ∧ Sm 1900 b) ∧ Φ (.d (encQ (f a b))) M
def T_plus : TJ := T_op (· + ·)
def T_minus : TJ := T_op (· - ·)
def T_times : TJ := T_op (· * ·)
def T_shared : TJ := fun xs M Φ _ => ∃ a b : Rat, xs = [.d (encQ a), .d (encQ b)] ∧ (Sm 1900 a ∧ Sm 1900 b ∧ 0 < b) ∧ Φ (.d (encQ (a / b))) M
def T_is_less : TJ := fun xs M Φ _ => ∃ a b : Rat, xs = [.d (encQ a), .d (encQ b)] ∧ (Sm 3900 a ∧ Sm 3900 b) ∧ Φ (.d (.bool (decide (a < b)))) M
/-- a whole number, no truth, between two -/
def wholeD (d : PyData) (lo hi : Int) : Bool := match d with
  | .int i => decide (lo ≤ i) && decide (i ≤ hi)
  | _ => false
def T_is_whole : TJ := fun xs M Φ _ => ∃ (d : PyData) (lo hi : Int), xs = [.d d, .d (.int lo), .d (.int hi)] ∧ Φ (.d (.bool (wholeD d lo hi))) M
def fracD : PyData → Option Rat
  | .tuple [.int t, .int n] => if 0 < n ∧ Nat.gcd t.natAbs n.natAbs = 1 then some (mkRat t n.toNat) else none
  | _ => none
def T_is_fraction : TJ := fun xs M Φ _ => ∃ d : PyData, xs = [.d d] ∧ (∀ ds, d = .tuple ds → lenOk ds.length) ∧ Φ (.d (.bool (fracD d).isSome)) M

/-! ### bits -/
theorem Bt.mono {n m : Nat} {i : Int} (h : Bt n i) (e : n ≤ m) : Bt m i := Nat.lt_of_lt_of_le h (Nat.pow_le_pow_right (by decide) e)
theorem Bt.mul {n m : Nat} {i j : Int} (h : Bt n i) (g : Bt m j) : Bt (n + m) (i * j) := by
  unfold Bt; rw [Int.natAbs_mul]; exact pow_mul_lt h g
theorem Bt.add {n : Nat} {i j : Int} (h : Bt n i) (g : Bt n j) : Bt (n + 1) (i + j) := by
  unfold Bt at *
  have : 2 ^ (n + 1) = 2 ^ n + 2 ^ n := by rw [Nat.pow_succ]; omega
  omega
theorem Bt.sub {n : Nat} {i j : Int} (h : Bt n i) (g : Bt n j) : Bt (n + 1) (i - j) := by
  unfold Bt at *
  have : 2 ^ (n + 1) = 2 ^ n + 2 ^ n := by rw [Nat.pow_succ]; omega
  omega
theorem Sm.n {n : Nat} {a : Rat} (h : Sm n a) : Bt n a.num := h.1
theorem Sm.d {n : Nat} {a : Rat} (h : Sm n a) : Bt n (a.den : Int) := by unfold Bt; rw [Int.natAbs_natCast]; exact h.2

/-! ### what the defs do -/
theorem r_divisor : ∀ xs M Φ Ψ, T_divisor xs M Φ Ψ → j_divisor { nx := fun _ M' => Φ (.d .none) M', rt := Φ, xr := Ψ } (jstart 2 xs) M := by
  rintro _ M Φ Ψ ⟨a, b, rfl, h⟩
  refine ⟨fun m ρ M' => M' = M ∧ ∃ x y : Nat, y = m ∧ ρ = [some (.d (.int x)), some (.d (.int y))] ∧ Nat.gcd x y = Nat.gcd a b, ⟨_, rfl, a, b, rfl, rfl, rfl⟩, ?_⟩
  rintro m _ _ ⟨rfl, x, y, hm, rfl, e⟩
  subst hm
  show sel (true ^^ decide ((y : Int) = 0)) _ _
  refine sel_xdec (fun q => ?_) fun q => ?_
  · refine ⟨by omega, x % y, Nat.mod_lt _ (by omega), rfl, y, x % y, rfl, rfl, ?_⟩
    rw [← e, Nat.gcd_comm x y, Nat.gcd_rec y x, Nat.gcd_comm]
  · have q : y = 0 := by omega
    subst q
    rw [Nat.gcd_zero_right] at e
    subst e
    exact h
theorem enc_mk {t : Int} {n : Nat} (hn : n ≠ 0) : encQ (mkRat t n) = .tuple [.int (t / (Nat.gcd t.natAbs n : Nat)), .int ((n : Int) / (Nat.gcd t.natAbs n : Nat))] := by
  unfold encQ
  rw [Rat.num_mkRat, Rat.den_mkRat, if_neg hn, if_neg hn, Nat.gcd_comm]
  rfl
theorem r_fraction : ∀ xs M Φ Ψ, T_fraction xs M Φ Ψ → j_fraction T_divisor { nx := fun _ M' => Φ (.d .none) M', rt := Φ, xr := Ψ } (jstart 3 xs) M := by
  rintro _ M Φ Ψ ⟨t, n, rfl, ⟨hn, h1, h2⟩, h⟩
  have abs1 : ∀ i : Int, (if i < 0 then -i else i) = (i.natAbs : Int) := fun i => by split <;> omega
  refine ⟨t.natAbs, n, by rw [abs1, abs1]; rfl, ?_⟩
  show sel (decide ((0 : Int) < n)) _ _
  refine sel_dec (fun _ => ?_) fun q => (q (by omega)).elim
  have hg : 0 < Nat.gcd t.natAbs n := Nat.gcd_pos_of_pos_right _ (by omega)
  have hb : Bt 3900 (Nat.gcd t.natAbs n : Nat) := by
    unfold Bt at *
    rw [Int.natAbs_natCast] at h2 ⊢
    exact Nat.lt_of_le_of_lt (Nat.gcd_le_right _ (by omega)) h2
  have e1 : ((Nat.gcd t.natAbs n : Nat) : Int) * 1 = (Nat.gcd t.natAbs n : Nat) := Int.mul_one _
  have bd : BDiv t ((Nat.gcd t.natAbs n : Nat) * 1 : Int) := by rw [e1]; exact ⟨by omega, hb.mono (by decide)⟩
  refine ⟨⟨hb.mono (by decide), (by show (1 : Int).natAbs < 2 ^ 4000; exact Nat.one_lt_two_pow (by decide))⟩, bd, bd, ?_⟩
  rw [enc_mk hn] at h
  rw [← e1] at h
  exact h
theorem r_plus : ∀ xs M Φ Ψ, T_plus xs M Φ Ψ → j_plus T_fraction { nx := fun _ M' => Φ (.d .none) M', rt := Φ, xr := Ψ } (jstart 2 xs) M := by
  rintro _ M Φ Ψ ⟨a, b, rfl, ⟨ha, hb⟩, h⟩
  refine ⟨⟨ha.n.mono (by decide), hb.d.mono (by decide)⟩, ⟨hb.n.mono (by decide), ha.d.mono (by decide)⟩, ⟨ha.d.mono (by decide), hb.d.mono (by decide)⟩, _, a.den * b.den, rfl, ⟨Nat.mul_ne_zero a.den_nz b.den_nz, ((ha.n.mul hb.d).add (hb.n.mul ha.d)).mono (by decide), ?_⟩, ?_⟩
  · rw [Int.natCast_mul]; exact (ha.d.mul hb.d).mono (by decide)
  · rw [← Rat.add_def']; exact h
theorem r_minus : ∀ xs M Φ Ψ, T_minus xs M Φ Ψ → j_minus T_fraction { nx := fun _ M' => Φ (.d .none) M', rt := Φ, xr := Ψ } (jstart 2 xs) M := by
  rintro _ M Φ Ψ ⟨a, b, rfl, ⟨ha, hb⟩, h⟩
  refine ⟨⟨ha.n.mono (by decide), hb.d.mono (by decide)⟩, ⟨hb.n.mono (by decide), ha.d.mono (by decide)⟩, ⟨ha.d.mono (by decide), hb.d.mono (by decide)⟩, _, a.den * b.den, rfl, ⟨Nat.mul_ne_zero a.den_nz b.den_nz, ((ha.n.mul hb.d).sub (hb.n.mul ha.d)).mono (by decide), ?_⟩, ?_⟩
  · rw [Int.natCast_mul]; exact (ha.d.mul hb.d).mono (by decide)
  · rw [← Rat.sub_def']; exact h
theorem r_times : ∀ xs M Φ Ψ, T_times xs M Φ Ψ → j_times T_fraction { nx := fun _ M' => Φ (.d .none) M', rt := Φ, xr := Ψ } (jstart 2 xs) M := by
  rintro _ M Φ Ψ ⟨a, b, rfl, ⟨ha, hb⟩, h⟩
  refine ⟨⟨ha.n.mono (by decide), hb.n.mono (by decide)⟩, ⟨ha.d.mono (by decide), hb.d.mono (by decide)⟩, _, a.den * b.den, rfl, ⟨Nat.mul_ne_zero a.den_nz b.den_nz, (ha.n.mul hb.n).mono (by decide), ?_⟩, ?_⟩
  · rw [Int.natCast_mul]; exact (ha.d.mul hb.d).mono (by decide)
  · rw [← Rat.mul_def']; exact h
theorem r_shared : ∀ xs M Φ Ψ, T_shared xs M Φ Ψ → j_shared T_fraction { nx := fun _ M' => Φ (.d .none) M', rt := Φ, xr := Ψ } (jstart 2 xs) M := by
  rintro _ M Φ Ψ ⟨a, b, rfl, ⟨ha, hb, h0⟩, h⟩
  obtain ⟨e, hz⟩ := div_mk (a := a) h0
  have hn : ((b.num.toNat : Nat) : Int) = b.num := by have := num_pos' h0; omega
  refine ⟨⟨ha.n.mono (by decide), hb.d.mono (by decide)⟩, ⟨ha.d.mono (by decide), hb.n.mono (by decide)⟩, _, a.den * b.num.toNat, ?_, ⟨hz, (ha.n.mul hb.d).mono (by decide), ?_⟩, ?_⟩
  · rw [Int.natCast_mul, hn]
  · rw [Int.natCast_mul, hn]; exact (ha.d.mul hb.n).mono (by decide)
  · rw [← e]; exact h
theorem lt_iff {a b : Rat} : a < b ↔ a.num * b.den < b.num * a.den := Rat.lt_iff a b
theorem r_is_less : ∀ xs M Φ Ψ, T_is_less xs M Φ Ψ → j_is_less { nx := fun _ M' => Φ (.d .none) M', rt := Φ, xr := Ψ } (jstart 2 xs) M := by
  rintro _ M Φ Ψ ⟨a, b, rfl, ⟨ha, hb⟩, h⟩
  refine ⟨⟨ha.n.mono (by decide), hb.d.mono (by decide)⟩, ⟨hb.n.mono (by decide), ha.d.mono (by decide)⟩, ?_⟩
  have : decide (a < b) = decide (a.num * b.den < b.num * a.den) := by
    by_cases q : a < b
    · rw [decide_eq_true q, decide_eq_true (lt_iff.mp q)]
    · rw [decide_eq_false q, decide_eq_false fun z => q (lt_iff.mpr z)]
  rw [this] at h
  exact h
/-! isinstance of data -/
theorem isi_int (d : PyData) : isiD d "int" = (match d with
    | .int _ => true
    | .bool _ => true
    | _ => false) := by
  cases d with
  | none => rfl
  | bool b => show ("int" == "bool" || "int" == "int" : Bool) = true; decide +kernel
  | int b => show ("int" == "int" : Bool) = true; decide +kernel
  | str b => show ("int" == "str" : Bool) = false; decide +kernel
  | list b => show ("int" == "list" : Bool) = false; decide +kernel
  | tuple b => show ("int" == "tuple" : Bool) = false; decide +kernel
  | dict b => rfl
theorem isi_bool (d : PyData) : isiD d "bool" = (match d with
    | .bool _ => true
    | _ => false) := by
  cases d with
  | none => rfl
  | bool b => show ("bool" == "bool" || "bool" == "int" : Bool) = true; decide +kernel
  | int b => show ("bool" == "int" : Bool) = false; decide +kernel
  | str b => show ("bool" == "str" : Bool) = false; decide +kernel
  | list b => show ("bool" == "list" : Bool) = false; decide +kernel
  | tuple b => show ("bool" == "tuple" : Bool) = false; decide +kernel
  | dict b => rfl
theorem isi_str (d : PyData) : isiD d "str" = (match d with
    | .str _ => true
    | _ => false) := by
  cases d with
  | none => rfl
  | bool b => show ("str" == "bool" || "str" == "int" : Bool) = false; decide +kernel
  | int b => show ("str" == "int" : Bool) = false; decide +kernel
  | str b => show ("str" == "str" : Bool) = true; decide +kernel
  | list b => show ("str" == "list" : Bool) = false; decide +kernel
  | tuple b => show ("str" == "tuple" : Bool) = false; decide +kernel
  | dict b => rfl
theorem isi_tuple (d : PyData) : isiD d "tuple" = (match d with
    | .tuple _ => true
    | _ => false) := by
  cases d with
  | none => rfl
  | bool b => show ("tuple" == "bool" || "tuple" == "int" : Bool) = false; decide +kernel
  | int b => show ("tuple" == "int" : Bool) = false; decide +kernel
  | str b => show ("tuple" == "str" : Bool) = false; decide +kernel
  | list b => show ("tuple" == "list" : Bool) = false; decide +kernel
  | tuple b => show ("tuple" == "tuple" : Bool) = true; decide +kernel
  | dict b => rfl
theorem r_is_whole : ∀ xs M Φ Ψ, T_is_whole xs M Φ Ψ → j_is_whole { nx := fun _ M' => Φ (.d .none) M', rt := Φ, xr := Ψ } (jstart 3 xs) M := by
  rintro _ M Φ Ψ ⟨d, lo, hi, rfl, h⟩
  refine ⟨rfl, ?_⟩
  cases d with
  | int i =>
    refine ⟨rfl, ?_⟩
    have h : Φ (.d (.bool (decide (lo ≤ i) && decide (i ≤ hi)))) M := h
    rw [isi_bool]
    show selE (.d (.bool (decide (lo ≤ i)))) _ _
    refine selE_dec (fun q => ?_) fun q => ?_
    · rw [decide_eq_true q] at h; exact h
    · rw [decide_eq_false q] at h; exact h
  | bool b => exact ⟨rfl, h⟩
  | none => exact h
  | str _ => exact h
  | list _ => exact h
  | tuple _ => exact h
  | dict _ => exact h
def isI : PyData → Bool
  | .int _ => true
  | _ => false
theorem allI {x y : PyData} {K : JK} {M : Mem} (h : K (.d (.bool (isI x && isI y))) M) : jrAll [.d (.list (([x, y].filter fun _ => true).map fun d => .bool (isI d)))] M K := by
  have e : ([x, y].filter fun _ => true) = [x, y] := rfl
  rw [e]
  show K (.d (.bool (isI x && (isI y && true)))) M
  rw [Bool.and_true]; exact h
theorem isI_step (d : PyData) {M : Mem} {K : JK} {ρ : JEnv} {i : Nat} (hρ : look ρ i = some (.d d)) (h : K (.d (.bool (isI d))) M) :
    jAndV (jCB (jrIsi "int") (jCons (jVar i) (jCons (jV (.ty "int")) (jNil)))) (jNotV (jCB (jrIsi "bool") (jCons (jVar i) (jCons (jV (.ty "bool")) (jNil))))) ρ M K := by
  have v : ∀ K : JK, K (.d d) M → jVar i ρ M K := fun K h => by unfold jVar; rw [hρ]; exact h
  refine v _ ?_
  refine ⟨rfl, ?_⟩
  rw [isi_int]
  cases d with
  | int i =>
    refine v _ ?_
    refine ⟨rfl, ?_⟩
    rw [isi_bool]; exact h
  | bool b =>
    refine v _ ?_
    refine ⟨rfl, ?_⟩
    rw [isi_bool]; exact h
  | none => exact h
  | str _ => exact h
  | list _ => exact h
  | tuple _ => exact h
  | dict _ => exact h
theorem fracD_pair (t n : Int) : fracD (.tuple [.int t, .int n]) = if 0 < n ∧ Nat.gcd t.natAbs n.natAbs = 1 then some (mkRat t n.toNat) else none := rfl
theorem r_is_fraction : ∀ xs M Φ Ψ, T_is_fraction xs M Φ Ψ → j_is_fraction T_divisor { nx := fun _ M' => Φ (.d .none) M', rt := Φ, xr := Ψ } (jstart 2 xs) M := by
  rintro _ M Φ Ψ ⟨d, rfl, hl, h⟩
  refine ⟨rfl, ?_⟩
  rw [isi_tuple]
  cases d with
  | none => exact h
  | bool _ => exact h
  | int _ => exact h
  | str _ => exact h
  | list _ => exact h
  | dict _ => exact h
  | tuple ds =>
    show sel (true ^^ decide ((ds.length : Int) = 2)) _ _
    refine sel_xdec (fun q => ?_) fun q => ?_
    · have : fracD (.tuple ds) = none := by
        unfold fracD
        split
        · rename_i e; cases e; exact (q rfl).elim
        · rfl
      rw [this] at h; exact h
    · obtain ⟨x, y, rfl⟩ : ∃ x y, ds = [x, y] := by
        match ds, q with
        | [x, y], _ => exact ⟨x, y, rfl⟩
        | [], q => simp at q
        | [_], q => simp at q
        | _ :: _ :: _ :: r, q => simp at q; omega
      dsimp only [jNext, jSeq, jIfS, jNot, jTest, jCB, jCons, jNil]
      refine lcF id (fun _ => true) (fun d => .bool (isI d)) [x, y] ?_ ?_ ?_ ?_
      · exact fun Φ' h => h
      · show 2 ≤ 1000000; decide
      · intro a _ K1 K2 k1 _
        dsimp only [jName, jYes]
        exact isI_step a rfl (k1 rfl)
      refine allI ?_
      show sel (!(isI x && isI y)) _ _
      refine sel_b (fun q => ?_) fun q => ?_
      · have : fracD (.tuple [x, y]) = none := by
          cases x <;> cases y <;> first | rfl | (simp [isI] at q)
        rw [this] at h; exact h
      · obtain ⟨t, n, rfl, rfl⟩ : ∃ t n, x = .int t ∧ y = .int n := by
          cases x <;> cases y <;> first | exact ⟨_, _, rfl, rfl⟩ | (simp [isI] at q)
        show selE (.d (.bool (decide (0 < n)))) _ _
        refine selE_dec (fun q => ?_) fun q => ?_
        · have abs1 : ∀ i : Int, (if i < 0 then -i else i) = (i.natAbs : Int) := fun i => by split <;> omega
          refine ⟨t.natAbs, n.natAbs, ?_, ?_⟩
          · have : (n.natAbs : Int) = n := by omega
            rw [abs1, this]
          · have e : (fracD (.tuple [.int t, .int n])).isSome = decide (((Nat.gcd t.natAbs n.natAbs : Nat) : Int) = 1) := by
              rw [fracD_pair]
              by_cases g : Nat.gcd t.natAbs n.natAbs = 1
              · rw [if_pos ⟨q, g⟩, decide_eq_true (by omega)]; rfl
              · rw [if_neg (fun z => g z.2), decide_eq_false (by omega)]; rfl
            rw [e] at h
            show Φ (.d (.bool (false ^^ decide (((Nat.gcd t.natAbs n.natAbs : Nat) : Int) = 1)))) M
            rw [xor_f]; exact h
        · have : fracD (.tuple [.int t, .int n]) = none := by rw [fracD_pair, if_neg (fun z => q z.1)]
          rw [this] at h; exact h
end Td

/-! TdR2: bends: readings, promises, what the defs do. -/
namespace Td
open PySem PySem.Spec PyProof.Rows L2

def j_alone : JTS :=
  jRet (jTup (jCons (jLstD (jCons (jTup (jCons (jC (.tuple [.int 0, .int 1])) (jCons (jC .none) (jCons (jTup (jCons (jOp (jrI fun i j => .int (i - j)) (jC (.int 0)) (jOp (jrIc BMul fun i j => .int (i * j)) (jVar 1) (jVar 0))) (jCons (jC (.int 1)) (jNil)))) (jNil))))) (jNil))) (jCons (jTup (jCons (jVar 1) (jCons (jC (.int 1)) (jNil)))) (jNil))))
def j_pull_at (T_plus T_times T_minus T_shared T_is_less : TJ) : JTS :=
  jSeq (jAsg (jVar 0) (jgTup 2 (jgCons (jName 2) (jgCons (jName 3) (jgNil)))))
    (jSeq (jAsg (jLc (jiL (jVar 2)) (jName 9) (jNot (jTest (jCall T_is_less (jCons (jVar 1) (jCons (jOp jrIx (jVar 9) (jC (.int 0))) (jNil)))))) (jVar 9) [9]) (jName 4))
    (jSeq (jAsg (jOp jrIx (jVar 4) (jUn (jrU fun i => .int (-i)) (jC (.int 1)))) (jName 5))
    (jSeq (jIfS (jTest (jOp (jrEq false) (jOp jrIx (jVar 5) (jC (.int 0))) (jVar 1))) (jRet (jTup (jCons (jOp jrIx (jVar 5) (jC (.int 1))) (jCons (jOp jrIx (jVar 5) (jC (.int 2))) (jNil))))) (jNext))
    (jSeq (jIfS (jTest (jOp (jrEq false) (jCB jrLen (jCons (jVar 4) (jNil))) (jCB jrLen (jCons (jVar 2) (jNil))))) (jSeq (jAsg (jCall T_plus (jCons (jOp jrIx (jVar 5) (jC (.int 2))) (jCons (jCall T_times (jCons (jVar 3) (jCons (jCall T_minus (jCons (jVar 1) (jCons (jOp jrIx (jVar 5) (jC (.int 0))) (jNil)))) (jNil)))) (jNil)))) (jName 8))
    (jRet (jTup (jCons (jVar 8) (jCons (jVar 8) (jNil)))))) (jNext))
    (jSeq (jAsg (jOp jrIx (jVar 2) (jCB jrLen (jCons (jVar 4) (jNil)))) (jName 6))
    (jSeq (jAsg (jCall T_shared (jCons (jCall T_minus (jCons (jVar 1) (jCons (jOp jrIx (jVar 5) (jC (.int 0))) (jNil)))) (jCons (jCall T_minus (jCons (jOp jrIx (jVar 6) (jC (.int 0))) (jCons (jOp jrIx (jVar 5) (jC (.int 0))) (jNil)))) (jNil)))) (jName 7))
    (jSeq (jAsg (jCall T_plus (jCons (jOp jrIx (jVar 5) (jC (.int 2))) (jCons (jCall T_times (jCons (jVar 7) (jCons (jCall T_minus (jCons (jOp jrIx (jVar 6) (jC (.int 1))) (jCons (jOp jrIx (jVar 5) (jC (.int 2))) (jNil)))) (jNil)))) (jNil)))) (jName 8))
    (jRet (jTup (jCons (jVar 8) (jCons (jVar 8) (jNil))))))))))))
def j_nought_of (T_plus T_shared T_minus T_is_less T_times : TJ) : JTS :=
  jSeq (jAsg (jVar 0) (jgTup 2 (jgCons (jName 1) (jgCons (jName 2) (jgNil)))))
    (jSeq (jFor (jiE (jCons (jVar 1) (jNil))) (jgTup 2 (jgCons (jName 3) (jgCons (jgTup 3 (jgCons (jName 4) (jgCons (jName 5) (jgCons (jName 6) (jgNil))))) (jgNil)))) (jIfS (jNot (jTest (jCall T_is_less (jCons (jVar 6) (jCons (jC (.tuple [.int 0, .int 1])) (jNil)))))) (jSeq (jIfS (jOr (jTest (jOp (jrIsN false) (jVar 5) (jC .none))) (jNot (jTest (jCall T_is_less (jCons (jC (.tuple [.int 0, .int 1])) (jCons (jVar 5) (jNil))))))) (jRet (jVar 4)) (jNext))
    (jSeq (jAsg (jOp jrIx (jVar 1) (jOp (jrI fun i j => .int (i - j)) (jVar 3) (jC (.int 1)))) (jName 7))
    (jSeq (jAsg (jCall T_shared (jCons (jCall T_minus (jCons (jC (.tuple [.int 0, .int 1])) (jCons (jOp jrIx (jVar 7) (jC (.int 2))) (jNil)))) (jCons (jCall T_minus (jCons (jVar 5) (jCons (jOp jrIx (jVar 7) (jC (.int 2))) (jNil)))) (jNil)))) (jName 8))
    (jRet (jCall T_plus (jCons (jOp jrIx (jVar 7) (jC (.int 0))) (jCons (jCall T_times (jCons (jVar 8) (jCons (jCall T_minus (jCons (jVar 4) (jCons (jOp jrIx (jVar 7) (jC (.int 0))) (jNil)))) (jNil)))) (jNil)))))))) (jNext)))
    (jRet (jCall T_plus (jCons (jOp jrIx (jOp jrIx (jVar 1) (jUn (jrU fun i => .int (-i)) (jC (.int 1)))) (jC (.int 0))) (jCons (jCall T_shared (jCons (jCall T_minus (jCons (jC (.tuple [.int 0, .int 1])) (jCons (jOp jrIx (jOp jrIx (jVar 1) (jUn (jrU fun i => .int (-i)) (jC (.int 1)))) (jC (.int 2))) (jNil)))) (jCons (jVar 2) (jNil)))) (jNil))))))
def j_in_order (T_is_less : TJ) : JTS :=
  jSeq (jAsg (jLstC (jNil)) (jName 1))
    (jSeq (jFor (jiL (jVar 0)) (jName 2) (jIfS (jTest (jOp (jrIn true) (jVar 2) (jVar 1))) (jDrop (jBM isLst jrInsert (jVar 1) (jCons (jCB jrLen (jCons (jLc (jiL (jVar 1)) (jName 3) (jTest (jCall T_is_less (jCons (jVar 3) (jCons (jVar 2) (jNil))))) (jVar 3) [3]) (jNil))) (jCons (jVar 2) (jNil))))) (jNext)))
    (jRet (jFz (jVar 1))))
def j_both (T_plus T_pull_at T_in_order : TJ) : JTS :=
  jSeq (jAsg (jCall T_in_order (jCons (jOp jrCat (jLc (jiL (jOp jrIx (jVar 0) (jC (.int 0)))) (jName 8) (jYes) (jOp jrIx (jVar 8) (jC (.int 0))) [8]) (jLc (jiL (jOp jrIx (jVar 1) (jC (.int 0)))) (jName 8) (jYes) (jOp jrIx (jVar 8) (jC (.int 0))) [8])) (jNil))) (jName 2))
    (jSeq (jAsg (jLstC (jNil)) (jName 3))
    (jSeq (jFor (jiL (jVar 2)) (jName 4) (jSeq (jPar 5 6 (jCons (jCall T_pull_at (jCons (jVar 0) (jCons (jVar 4) (jNil)))) (jCons (jCall T_pull_at (jCons (jVar 1) (jCons (jVar 4) (jNil)))) (jNil))))
    (jSeq (jAsg (jIf (jOr (jTest (jOp (jrIsN false) (jOp jrIx (jVar 5) (jC (.int 0))) (jC .none))) (jTest (jOp (jrIsN false) (jOp jrIx (jVar 6) (jC (.int 0))) (jC .none)))) (jC .none) (jCall T_plus (jCons (jOp jrIx (jVar 5) (jC (.int 0))) (jCons (jOp jrIx (jVar 6) (jC (.int 0))) (jNil))))) (jName 7))
    (jDrop (jBM isLst jrAppend (jVar 3) (jCons (jTup (jCons (jVar 4) (jCons (jVar 7) (jCons (jCall T_plus (jCons (jOp jrIx (jVar 5) (jC (.int 1))) (jCons (jOp jrIx (jVar 6) (jC (.int 1))) (jNil)))) (jNil))))) (jNil)))))))
    (jRet (jTup (jCons (jVar 3) (jCons (jCall T_plus (jCons (jOp jrIx (jVar 0) (jC (.int 1))) (jCons (jOp jrIx (jVar 1) (jC (.int 1))) (jNil)))) (jNil)))))))
def j_by_cord (T_in_order T_felt T_is_less T_minus T_plus T_nought_of : TJ) : JTS :=
  jSeq (jPar 2 3 (jCons (jCall T_nought_of (jCons (jVar 0) (jNil))) (jCons (jTup (jCons (jVar 1) (jCons (jC (.int 1)) (jNil)))) (jNil))))
    (jSeq (jPar 4 5 (jCons (jCall T_minus (jCons (jVar 2) (jCons (jVar 3) (jNil)))) (jCons (jCall T_plus (jCons (jVar 2) (jCons (jVar 3) (jNil)))) (jNil))))
    (jSeq (jAsg (jLstC (jCons (jC (.tuple [.int 0, .int 1])) (jCons (jVar 4) (jCons (jVar 5) (jNil))))) (jName 6))
    (jSeq (jFor (jiL (jOp jrIx (jVar 0) (jC (.int 0)))) (jName 7) (jDrop (jBM isLst jrAppend (jVar 6) (jCons (jIf (jTest (jCall T_is_less (jCons (jOp jrIx (jVar 7) (jC (.int 0))) (jCons (jVar 2) (jNil))))) (jCall T_minus (jCons (jOp jrIx (jVar 7) (jC (.int 0))) (jCons (jVar 3) (jNil)))) (jCall T_plus (jCons (jOp jrIx (jVar 7) (jC (.int 0))) (jCons (jVar 3) (jNil))))) (jNil)))))
    (jSeq (jFzAt 6 (jAsg (jLstC (jNil)) (jName 8)))
    (jSeq (jFor (jiL (jCall T_in_order (jCons (jLc (jiL (jVar 6)) (jName 12) (jTest (jOp (jrI fun i j => .bool (decide (j ≤ i))) (jOp jrIx (jVar 12) (jC (.int 0))) (jC (.int 0)))) (jVar 12) [12]) (jNil)))) (jName 9) (jSeq (jAsg (jCall T_felt (jCons (jVar 0) (jCons (jVar 9) (jCons (jVar 2) (jCons (jVar 3) (jNil)))))) (jgTup 2 (jgCons (jName 10) (jgCons (jName 11) (jgNil)))))
    (jDrop (jBM isLst jrAppend (jVar 8) (jCons (jTup (jCons (jVar 9) (jCons (jIf (jTest (jOp (jrEq false) (jVar 9) (jC (.tuple [.int 0, .int 1])))) (jC .none) (jVar 10)) (jCons (jVar 11) (jNil))))) (jNil))))))
    (jRet (jTup (jCons (jVar 8) (jCons (jOp jrIx (jVar 0) (jC (.int 1))) (jNil))))))))))
def j_felt (T_pull_at T_is_less T_minus T_plus : TJ) : JTS :=
  jSeq (jPar 4 5 (jCons (jCall T_minus (jCons (jVar 2) (jCons (jVar 3) (jNil)))) (jCons (jCall T_plus (jCons (jVar 2) (jCons (jVar 3) (jNil)))) (jNil))))
    (jSeq (jIfS (jTest (jCall T_is_less (jCons (jVar 1) (jCons (jVar 4) (jNil))))) (jRet (jCall T_pull_at (jCons (jVar 0) (jCons (jCall T_plus (jCons (jVar 1) (jCons (jVar 3) (jNil)))) (jNil))))) (jNext))
    (jSeq (jIfS (jTest (jCall T_is_less (jCons (jVar 5) (jCons (jVar 1) (jNil))))) (jRet (jCall T_pull_at (jCons (jVar 0) (jCons (jCall T_minus (jCons (jVar 1) (jCons (jVar 3) (jNil)))) (jNil))))) (jNext))
    (jSeq (jAsg (jCall T_pull_at (jCons (jVar 0) (jCons (jVar 2) (jNil)))) (jName 6))
    (jRet (jTup (jCons (jIf (jTest (jOp (jrEq false) (jVar 1) (jVar 4))) (jOp jrIx (jVar 6) (jC (.int 0))) (jC (.tuple [.int 0, .int 1]))) (jCons (jIf (jTest (jOp (jrEq false) (jVar 1) (jVar 5))) (jOp jrIx (jVar 6) (jC (.int 1))) (jC (.tuple [.int 0, .int 1]))) (jNil))))))))
/-! ### promises -/
def encO : Option Rat → PyData
  | none => .none
  | some q => encQ q
def encRow (r : Row) : PyData := .tuple [encQ r.h, encO r.b, encQ r.a]
def encP (P : Pulls) : PyData := .tuple [.list (P.rows.map encRow), encQ P.rate]
def T_alone : TJ := fun xs M Φ _ => ∃ own strong : Int, xs = [.d (.int own), .d (.int strong)] ∧ (Bt 3900 own ∧ Bt 3900 strong) ∧ Φ (.d (encP (alone own strong))) M
def T_pull_at : TJ := fun xs M Φ _ => ∃ P h, xs = [.d (encP P), .d (encQ h)] ∧ ((∃ F, QP F P) ∧ 0 ≤ h ∧ Sm 300 h) ∧ Φ (.d (.tuple [encO (pullAt P h).1, encQ (pullAt P h).2])) M

theorem r_alone : ∀ xs M Φ Ψ, T_alone xs M Φ Ψ → j_alone { nx := fun _ M' => Φ (.d .none) M', rt := Φ, xr := Ψ } (jstart 2 xs) M := by
  rintro _ M Φ Ψ ⟨own, strong, rfl, ⟨h1, h2⟩, h⟩
  exact ⟨⟨h2.mono (by decide), h1.mono (by decide)⟩, h⟩
theorem QP.facts {F : Fn} {P : Pulls} (Q : QP F P) {h : Rat} (h0 : 0 ≤ h) : ∃ A here, (P.rows.filter fun r => !decide (h < r.h)) = A ++ [here] ∧ here ∈ P.rows ∧ here.h ≤ h ∧
    ((A ++ [here]).length = P.rows.length ∨ ∃ there lo, there ∈ P.rows ∧ P.rows[(A ++ [here]).length]? = some there ∧ there.b = some lo ∧ h < there.h) := by
  obtain ⟨m, k, r, S, I, _⟩ := Q.ex
  obtain ⟨A, B, e1, e2, e3, e4⟩ := filter_le_up h I.segs.up
  have fm : (P.rows.filter fun r => !decide (h < r.h)) = A.map (rowAt F) := by
    rw [I.rows, e1, List.map_append, List.filter_append]
    have f1 : (A.map (rowAt F)).filter (fun r => !decide (h < r.h)) = A.map (rowAt F) := by
      rw [List.filter_eq_self]
      intro a ha
      obtain ⟨x, hx, rfl⟩ := List.mem_map.mp ha
      have := e3 x hx
      show (!decide (h < x)) = true
      rw [decide_eq_false (by grind)]; rfl
    have f2 : (B.map (rowAt F)).filter (fun r => !decide (h < r.h)) = [] := by
      rw [List.filter_eq_nil_iff]
      intro a ha
      obtain ⟨x, hx, rfl⟩ := List.mem_map.mp ha
      have := e4 x hx
      show ¬ (!decide (h < x)) = true
      rw [decide_eq_true this]; decide
    rw [f1, f2, List.append_nil]
  have hA : A ≠ [] := by
    intro z
    have m0 : (0 : Rat) ∈ (0 :: S).filter (fun y => !decide (h < y)) := List.mem_filter.mpr ⟨by simp, by simp; grind⟩
    rw [e2, z] at m0; cases m0
  have hA' := (List.dropLast_concat_getLast hA).symm
  refine ⟨A.dropLast.map (rowAt F), rowAt F (A.getLast hA), ?_, ?_, ?_, ?_⟩
  · rw [fm]
    conv => lhs; rw [hA']
    rw [List.map_append]; rfl
  · rw [I.rows, e1]
    exact List.mem_map.mpr ⟨_, List.mem_append_left _ (List.getLast_mem hA), rfl⟩
  · exact e3 _ (List.getLast_mem hA)
  · have hl : (A.dropLast.map (rowAt F) ++ [rowAt F (A.getLast hA)]).length = A.length := by
      rw [List.length_append, List.length_map, List.length_dropLast, List.length_singleton]
      have : 0 < A.length := List.length_pos_iff.mpr hA
      omega
    rw [hl, I.rows, e1]
    cases B with
    | nil => left; simp
    | cons y B =>
      right
      have hy := e4 y (by simp)
      refine ⟨rowAt F y, F.lo y, ?_, ?_, ?_, hy⟩
      · exact List.mem_map.mpr ⟨y, by simp, rfl⟩
      · simp
      · show below F y = some (F.lo y)
        unfold below
        rw [if_neg (by grind)]
theorem r_pull_at : ∀ xs M Φ Ψ, T_pull_at xs M Φ Ψ → j_pull_at T_plus T_times T_minus T_shared T_is_less { nx := fun _ M' => Φ (.d .none) M', rt := Φ, xr := Ψ } (jstart 10 xs) M := by
  rintro _ M Φ Ψ ⟨P, h, rfl, ⟨⟨F, Q⟩, h0, hs⟩, hp⟩
  have RS := Q.rowSm
  have hlen : P.rows.length ≤ 300 := by obtain ⟨m, k, r, S, I, _, _, _, q⟩ := Q.ex; exact q
  have hrate : Sm 50 P.rate := by
    obtain ⟨m, k, r, S, I, q1, q2, _, q⟩ := Q.ex
    rw [I.rate]
    exact Sm.int (by have := I.hr; have : (2 : Nat) ^ 50 = 1125899906842624 := by decide
                     omega) (by decide)
  refine ⟨lenF (by omega), accG encRow (fun r => !decide (h < r.h)) encRow P.rows ?_ ?_⟩
  · intro r hr K1 K2 k1 k2
    refine ⟨h, r.h, rfl, ⟨hs.mono (by decide), (RS r hr).2.1.mono (by decide)⟩, ?_⟩
    exact sel_b (fun q => k1 q) fun q => k2 q
  obtain ⟨A, here, e1, m1, l1, alt⟩ := Q.facts h0
  obtain ⟨t0, t1, t2, t3, t4⟩ := RS here m1
  have t1' := t1.mono (show 50 ≤ 1900 by decide)
  have hs' := hs.mono (show 300 ≤ 1900 by decide)
  have hsub := (hs.sub t1)
  have hpa : pullAt P h = if here.h = h then (here.b, here.a) else if (A ++ [here]).length = P.rows.length then (some (here.a + P.rate * (h - here.h)), here.a + P.rate * (h - here.h))
    else match P.rows[(A ++ [here]).length]? with
      | none => (none, 0)
      | some there => match there.b with
        | none => (none, 0)
        | some lo => (some (here.a + (h - here.h) / (there.h - here.h) * (lo - here.a)), here.a + (h - here.h) / (there.h - here.h) * (lo - here.a)) := by
    unfold pullAt
    rw [e1]
    dsimp only
    have : (A ++ [here])[(A ++ [here]).length - 1]? = some here := by simp
    rw [this] <;> rfl
  rw [fzs_d, e1]
  show (match atI (((A ++ [here]).map encRow).map EV.d) (-1) with
    | some e => _
    | none => False)
  have hla : atI (((A ++ [here]).map encRow).map EV.d) (-1) = some (.d (encRow here)) := by
    rw [List.map_append, List.map_append]; exact atI_last
  rw [hla]
  refine ⟨⟨(encQ_shp _).ok (by decide), (encQ_shp _).ok (by decide)⟩, ?_⟩
  rw [encQ_eq.dec]
  show sel (false ^^ decide (here.h = h)) _ _
  refine sel_fdec (fun q => ?_) fun q => ?_
  · rw [hpa, if_pos q] at hp
    exact hp
  · rw [if_neg q] at hpa
    show sel (false ^^ decide (((((A ++ [here]).map encRow).map EV.d).length : Int) = ((P.rows.map encRow).map EV.d).length)) _ _
    rw [List.length_map, List.length_map, List.length_map, List.length_map]
    refine sel_fdec (fun q2 => ?_) fun q2 => ?_
    · rw [if_pos (by omega)] at hpa
      rw [hpa] at hp
      refine ⟨h, here.h, rfl, ⟨hs', t1'⟩, P.rate, h - here.h, rfl, ⟨hrate.mono (by decide), hsub.mono (by decide)⟩, here.a, P.rate * (h - here.h), rfl, ⟨t2.mono (by decide), (hrate.mul hsub).mono (by decide)⟩, ?_⟩
      exact hp
    · have q3 : ¬ (A ++ [here]).length = P.rows.length := by omega
      rw [if_neg q3] at hpa
      obtain ⟨there, lo, m2, g1, g2, g3⟩ := alt.resolve_left q3
      obtain ⟨u0, u1, u2, u3, u4⟩ := RS there m2
      have u5 := u3 lo g2
      rw [g1] at hpa
      dsimp only at hpa
      rw [g2] at hpa
      dsimp only at hpa
      rw [hpa] at hp
      have hat : atI ((P.rows.map encRow).map EV.d) (((((A ++ [here]).map encRow).map EV.d).length : Nat) : Int) = some (.d (encRow there)) := by
        refine atI_nat ?_
        rw [List.length_map, List.length_map, List.getElem?_map, List.getElem?_map, g1]
        rfl
      show (match atI ((P.rows.map encRow).map EV.d) (((((A ++ [here]).map encRow).map EV.d).length : Nat) : Int) with
        | some e => _
        | none => False)
      rw [hat]
      have pos : 0 < there.h - here.h := by grind
      have s1 := u1.sub t1
      have s2 := hsub.div s1 pos
      have s3 := u5.sub t2
      refine ⟨h, here.h, rfl, ⟨hs', t1'⟩, there.h, here.h, rfl, ⟨u1.mono (by decide), t1'⟩, h - here.h, there.h - here.h, rfl, ⟨hsub.mono (by decide), s1.mono (by decide), pos⟩, lo, here.a, ?_, ⟨u5.mono (by decide), t2.mono (by decide)⟩,
        (h - here.h) / (there.h - here.h), lo - here.a, rfl, ⟨s2.mono (by decide), s3.mono (by decide)⟩, here.a, (h - here.h) / (there.h - here.h) * (lo - here.a), rfl, ⟨t2.mono (by decide), (s2.mul s3).mono (by decide)⟩, ?_⟩
      · show [EV.d (encO there.b), EV.d (encQ here.a)] = _
        rw [g2]; rfl
      · exact hp
def T_nought_of : TJ := fun xs M Φ _ => ∃ P, xs = [.d (encP P)] ∧ (∃ F n, TP n F P ∧ n ≤ 16) ∧ Φ (.d (encQ (noughtOf P))) M
theorem sm0 : Sm 1 (0 : Rat) := ⟨by decide, by decide⟩
theorem r_nought_of : ∀ xs M Φ Ψ, T_nought_of xs M Φ Ψ → j_nought_of T_plus T_shared T_minus T_is_less T_times { nx := fun _ M' => Φ (.d .none) M', rt := Φ, xr := Ψ } (jstart 9 xs) M := by
  rintro _ M Φ Ψ ⟨P, rfl, ⟨F, n, tp, hn⟩, hp⟩
  have Q := tp.qp hn
  have RS := Q.rowSm
  obtain ⟨m, kk, r, S, I, _⟩ := Q.ex
  have hr0 : (0 : Rat) < P.rate := by rw [I.rate]; exact_mod_cast I.hr.1
  have hrate : Sm 50 P.rate := by
    obtain ⟨m, k, r, S, I, q1, q2, _, q⟩ := Q.ex
    rw [I.rate]
    exact Sm.int (by have := I.hr; have : (2 : Nat) ^ 50 = 1125899906842624 := by decide
                     omega) (by decide)
  have hlen : P.rows ≠ [] := by rw [I.rows]; simp
  refine loopEnum encRow (fun k rest ρ M' => M' = M ∧ (∃ x0 x3 x4 x5 x6 x7 x8, ρ = [x0, some (.d (.list (P.rows.map encRow))), some (.d (encQ P.rate)), x3, x4, x5, x6, x7, x8]) ∧ rest = P.rows.drop k ∧ k ≤ P.rows.length ∧
    ∃ p, noughtOf P = noughtGo P.rate p rest ∧ ((k = 0 ∧ rest = p :: P.rows.drop 1 ∧ p.b = none) ∨ (0 < k ∧ p.a < 0 ∧ P.rows[k - 1]? = some p))) ?_ ?_ P.rows 0 _ M ⟨rfl, ⟨_, _, _, _, _, _, _, rfl⟩, rfl, Nat.zero_le _, ?_⟩
  · rintro k ρ M' ⟨rfl, ⟨x0, x3, x4, x5, x6, x7, x8, rfl⟩, e1, e2, p, e3, alt⟩
    have hk : P.rows.length ≤ k := by
      have := congrArg List.length e1
      simp at this; omega
    rcases alt with ⟨a1, a2, _⟩ | ⟨a1, a2, a3⟩
    · cases a2
    · have hk2 : k = P.rows.length := by omega
      subst hk2
      obtain ⟨_, t1, t2, t3, t4⟩ := RS p (List.mem_of_getElem? a3)
      have hat : atI ((P.rows.map encRow).map EV.d) (-1) = some (.d (encRow p)) := by
        refine atI_m1 ?_
        rw [List.length_map, List.length_map, List.getElem?_map, List.getElem?_map, a3]; rfl
      rw [e3] at hp
      show (match atI ((P.rows.map encRow).map EV.d) (-1) with
        | some e => _
        | none => False)
      rw [hat]
      show (match atI ((P.rows.map encRow).map EV.d) (-1) with
        | some e => _
        | none => False)
      rw [hat]
      have s1 := sm0.sub t2
      exact ⟨0, p.a, rfl, ⟨sm0.mono (by decide), t2.mono (by decide)⟩, 0 - p.a, P.rate, rfl, ⟨s1.mono (by decide), hrate.mono (by decide), hr0⟩, p.h, (0 - p.a) / P.rate, rfl, ⟨t1.mono (by decide), (s1.div hrate hr0).mono (by decide)⟩, hp⟩
  · rintro k x xs ρ M' ⟨rfl, ⟨x0, x3, x4, x5, x6, x7, x8, rfl⟩, e1, e2, p, e3, alt⟩ N hN
    have hx : P.rows[k]? = some x := by
      have : (P.rows.drop k)[0]? = some x := by rw [← e1]; rfl
      rw [List.getElem?_drop] at this
      simpa using this
    have hk : k < P.rows.length := (List.getElem?_eq_some_iff.mp hx).1
    have hxs : xs = P.rows.drop (k + 1) := by
      rw [List.drop_eq_getElem_cons hk] at e1
      exact (List.cons.inj e1).2
    obtain ⟨t0, t1, t2, t3, t4⟩ := RS x (List.mem_of_getElem? hx)
    refine ⟨x.a, 0, rfl, ⟨t2.mono (by decide), sm0.mono (by decide)⟩, ?_⟩
    show sel (!decide (x.a < 0)) _ _
    refine sel_ndec (fun q => ?_) fun q => ?_
    · -- here
      show sel (false ^^ isNone (.d (encO x.b))) _ _
      rw [xor_f]
      have hb : isNone (.d (encO x.b)) = x.b.isNone := by cases x.b <;> rfl
      rw [hb]
      have e4 : noughtOf P = match x.b with
          | none => x.h
          | some lo => if 0 < lo then p.h + (0 - p.a) / (lo - p.a) * (x.h - p.h) else x.h := by
        rw [e3]
        show (if x.a < 0 then noughtGo P.rate x xs else match x.b with
          | none => x.h
          | some lo => if 0 < lo then p.h + (0 - p.a) / (lo - p.a) * (x.h - p.h) else x.h) = _
        rw [if_neg q]
      rw [e4] at hp
      cases hxb : x.b with
      | none =>
        rw [hxb] at hp
        exact hp
      | some lo =>
        rw [hxb] at hp
        dsimp only at hp
        have t5 := t3 lo hxb
        refine ⟨0, lo, rfl, ⟨sm0.mono (by decide), t5.mono (by decide)⟩, ?_⟩
        show sel (!decide ((0 : Rat) < lo)) _ _
        refine sel_ndec (fun q2 => ?_) fun q2 => ?_
        · rw [if_neg q2] at hp; exact hp
        · rw [if_pos q2] at hp
          rcases alt with ⟨a1, a2, a3⟩ | ⟨a1, a2, a3⟩
          · exfalso
            have := (List.cons.inj a2).1
            rw [← this, hxb] at a3
            cases a3
          · obtain ⟨u0, u1, u2, u3, u4⟩ := RS p (List.mem_of_getElem? a3)
            have hat : atI ((P.rows.map encRow).map EV.d) ((k : Int) - 1) = some (.d (encRow p)) := by
              have e : (k : Int) - 1 = ((k - 1 : Nat) : Int) := by omega
              rw [e]
              refine atI_nat ?_
              rw [List.getElem?_map, List.getElem?_map, a3]; rfl
            show (match atI ((P.rows.map encRow).map EV.d) ((k : Int) - 1) with
              | some e => _
              | none => False)
            rw [hat]
            have s1 := sm0.sub u2
            have s2 := t5.sub u2
            have pos : 0 < lo - p.a := by grind
            have s3 := s1.div s2 pos
            have s4 := t1.sub u1
            exact ⟨0, p.a, rfl, ⟨sm0.mono (by decide), u2.mono (by decide)⟩, lo, p.a, rfl, ⟨t5.mono (by decide), u2.mono (by decide)⟩, 0 - p.a, lo - p.a, rfl, ⟨s1.mono (by decide), s2.mono (by decide), pos⟩, x.h, p.h, rfl, ⟨t1.mono (by decide), u1.mono (by decide)⟩,
              (0 - p.a) / (lo - p.a), x.h - p.h, rfl, ⟨s3.mono (by decide), s4.mono (by decide)⟩, p.h, (0 - p.a) / (lo - p.a) * (x.h - p.h), rfl, ⟨u1.mono (by decide), (s3.mul s4).mono (by decide)⟩, hp⟩
    · -- farther
      refine hN _ _ ⟨rfl, ⟨_, _, _, _, _, _, _, rfl⟩, hxs, hk, x, ?_, .inr ⟨Nat.succ_pos k, q, hx⟩⟩
      rw [e3]
      show (if x.a < 0 then noughtGo P.rate x xs else _) = _
      rw [if_pos q]
  · refine ⟨rowAt F 0, ?_, .inl ⟨rfl, ?_, ?_⟩⟩
    · unfold noughtOf; rw [I.rows]; rfl
    · rw [I.rows]; rfl
    · show below F 0 = none
      unfold below; rw [if_pos rfl]
def T_in_order : TJ := fun xs M Φ _ => ∃ qs : List Rat, xs = [.d (.list (qs.map encQ))] ∧ (qs.length ≤ 1000 ∧ ∀ q ∈ qs, Sm 1900 q) ∧ Φ (.d (.list ((inOrder qs).map encQ))) M
theorem insNew_mem {S : List Rat} {x y : Rat} (h : y ∈ insNew S x) : y ∈ S ∨ y = x := by
  unfold insNew at h
  split at h
  · exact .inl h
  · unfold insAt at h
    rw [List.mem_append, List.mem_append, List.mem_singleton] at h
    rcases h with (h | h) | h
    · exact .inl (List.mem_of_mem_take h)
    · exact .inr h
    · exact .inl (List.mem_of_mem_drop h)
theorem r_in_order : ∀ xs M Φ Ψ, T_in_order xs M Φ Ψ → j_in_order T_is_less { nx := fun _ M' => Φ (.d .none) M', rt := Φ, xr := Ψ } (jstart 4 xs) M := by
  rintro _ M Φ Ψ ⟨qs, rfl, ⟨hl, hs⟩, hp⟩
  intro p hp0
  refine loopF encQ (fun rest ρ M' => ∃ found : List Rat, M' = M.set p (.lst ((found.map encQ).map .d)) ∧ (∃ x0 x2 x3, ρ = [x0, some (.v (.ref p)), x2, x3]) ∧ inOrder qs = rest.foldl insNew found ∧
    found.length + rest.length ≤ 1000 ∧ ∀ q ∈ found ++ rest, Sm 1900 q) ?_ ?_ qs _ _ ⟨[], rfl, ⟨_, _, _, rfl⟩, rfl, by simpa using hl, by simpa using hs⟩
  · rintro ρ M' ⟨found, rfl, ⟨x0, x2, x3, rfl⟩, e1, e2, e3⟩
    show (match fz (.v (.ref p)) (M.set p (.lst ((found.map encQ).map .d))) with
      | some (d, M2) => _
      | none => False)
    rw [fz_at Mem.set_same, Mem.del_set hp0]
    rw [e1] at hp
    exact hp
  · rintro x xs ρ M' ⟨found, rfl, ⟨x0, x2, x3, rfl⟩, e1, e2, e3⟩ N hN
    have hcell : (M.set p (.lst ((found.map encQ).map .d))) p = some (.lst ((found.map encQ).map .d)) := Mem.set_same
    rw [List.length_cons] at e2
    show (match rdD (M.set p (.lst ((found.map encQ).map .d))) (.d (encQ x)), rdD (M.set p (.lst ((found.map encQ).map .d))) (.v (.ref p)) with
      | some d, some (.list ds) => _
      | some d, some (.tuple ds) => _
      | _, _ => False)
    rw [rdD_at hcell]
    refine ⟨⟨(encQ_shp x).ok (by decide), (Shp.list (n := 1) fun d hd => ?_).ok (by decide)⟩, ?_⟩
    · obtain ⟨q, _, rfl⟩ := List.mem_map.mp hd
      exact encQ_shp q
    rw [encQ_eq.any]
    show sel (true ^^ decide (x ∈ found)) _ _
    refine sel_xdec (fun q => ?_) fun q => ?_
    · refine ⟨isLst_cell hcell, ?_⟩
      show (match srcL (M.set p (.lst ((found.map encQ).map .d))) (.v (.ref p)) with
        | some src => _
        | none => False)
      rw [srcL_cell hcell]
      refine ⟨lenC (by omega), accCG encQ (fun y => decide (y < x)) encQ found hcell ?_ ?_⟩
      · intro y hy K1 K2 k1 k2
        refine ⟨y, x, rfl, ⟨(e3 y (by simp [hy])).mono (by decide), (e3 x (by simp)).mono (by decide)⟩, ?_⟩
        exact sel_b (fun q => k1 q) fun q => k2 q
      · rw [fzs_d]
        dsimp only [jNil, jCons, jVar, jrLen, rdL, look, List.set]
        show jrInsert (.v (.ref p)) [.d (.int ((((found.filter fun y => decide (y < x)).map encQ).map EV.d).length : Nat)), .d (encQ x)] (M.set p (.lst ((found.map encQ).map .d))) _
        rw [List.length_map, List.length_map]
        refine do_insert hcell ⟨?_, by omega, ?_⟩ (hN _ _ ⟨insNew found x, ?_, ⟨_, _, _, rfl⟩, e1, ?_, ?_⟩)
        · show _ ≤ 1000000
          rw [List.length_map, List.length_map]; omega
        · have := List.length_filter_le (fun y => decide (y < x)) found
          have : (2 : Int) ^ 63 = 9223372036854775808 := by decide
          omega
        · rw [Mem.set_set]
          unfold insNew insAt
          rw [if_neg q, Int.toNat_natCast]
          simp only [List.map_append, List.map_take, List.map_drop, List.map_cons, List.map_nil]
        · have := insNew_length found x
          omega
        · intro y hy
          rcases List.mem_append.mp hy with hy | hy
          · rcases insNew_mem hy with hy | rfl
            · exact e3 y (by simp [hy])
            · exact e3 y (by simp)
          · exact e3 y (by simp [hy])
    · refine hN _ _ ⟨found, rfl, ⟨_, _, _, rfl⟩, ?_, by omega, fun y hy => e3 y ?_⟩
      · rw [e1, List.foldl_cons]
        unfold insNew
        rw [if_pos q]
      · rcases List.mem_append.mp hy with hy | hy <;> simp [hy]
def T_felt : TJ := fun xs M Φ _ => ∃ P h still far, xs = [.d (encP P), .d (encQ h), .d (encQ still), .d (encQ far)] ∧ ((∃ F, QP F P) ∧ (0 ≤ h ∧ 0 ≤ still ∧ 0 ≤ far) ∧ Sm 100 h ∧ Sm 50 still ∧ Sm 20 far) ∧
  Φ (.d (.tuple [encO (feltP P h still far).1, encQ (feltP P h still far).2])) M
theorem r_felt : ∀ xs M Φ Ψ, T_felt xs M Φ Ψ → j_felt T_pull_at T_is_less T_minus T_plus { nx := fun _ M' => Φ (.d .none) M', rt := Φ, xr := Ψ } (jstart 7 xs) M := by
  rintro _ M Φ Ψ ⟨P, h, still, far, rfl, ⟨⟨F, Q⟩, ⟨h0, h1, h2⟩, s0, s1, s2⟩, hp⟩
  have lo := s1.sub s2
  have hi := s1.add s2
  refine ⟨still, far, rfl, ⟨s1.mono (by decide), s2.mono (by decide)⟩, still, far, rfl, ⟨s1.mono (by decide), s2.mono (by decide)⟩, h, still - far, rfl, ⟨s0.mono (by decide), lo.mono (by decide)⟩, ?_⟩
  unfold feltP at hp
  show sel (decide (h < still - far)) _ _
  refine sel_dec (fun q => ?_) fun q => ?_
  · rw [if_pos q] at hp
    exact ⟨h, far, rfl, ⟨s0.mono (by decide), s2.mono (by decide)⟩, P, h + far, rfl, ⟨⟨F, Q⟩, by grind, (s0.add s2).mono (by decide)⟩, hp⟩
  · rw [if_neg q] at hp
    refine ⟨still + far, h, rfl, ⟨hi.mono (by decide), s0.mono (by decide)⟩, ?_⟩
    show sel (decide (still + far < h)) _ _
    refine sel_dec (fun q2 => ?_) fun q2 => ?_
    · rw [if_pos q2] at hp
      exact ⟨h, far, rfl, ⟨s0.mono (by decide), s2.mono (by decide)⟩, P, h - far, rfl, ⟨⟨F, Q⟩, by grind, (s0.sub s2).mono (by decide)⟩, hp⟩
    · rw [if_neg q2] at hp
      refine ⟨P, still, rfl, ⟨⟨F, Q⟩, h1, s1.mono (by decide)⟩, ?_⟩
      refine ⟨⟨(encQ_shp _).ok (by decide), (encQ_shp _).ok (by decide)⟩, ?_⟩
      rw [encQ_eq.dec]
      show sel (false ^^ decide (h = still - far)) _ _
      have go : ∀ (d : PyData) (o : Option Rat), d = encO o → (o, if h = still + far then (pullAt P still).2 else 0) = ((if h = still - far then (pullAt P still).1 else some 0, if h = still + far then (pullAt P still).2 else 0) : Option Rat × Rat) →
          sel (false ^^ decide (h = still + far)) (Φ (.d (.tuple [d, encQ (pullAt P still).2])) M) (Φ (.d (.tuple [d, encQ 0])) M) := by
        rintro _ o rfl e
        rw [← e] at hp
        refine sel_fdec (fun q => ?_) fun q => ?_
        · rw [if_pos q] at hp; exact hp
        · rw [if_neg q] at hp; exact hp
      refine sel_fdec (fun q3 => ?_) fun q3 => ?_
      · refine ⟨⟨(encQ_shp _).ok (by decide), (encQ_shp _).ok (by decide)⟩, ?_⟩
        rw [encQ_eq.dec]
        exact go _ (pullAt P still).1 rfl (by rw [if_pos q3])
      · refine ⟨⟨(encQ_shp _).ok (by decide), (encQ_shp _).ok (by decide)⟩, ?_⟩
        rw [encQ_eq.dec]
        exact go _ (some 0) rfl (by rw [if_neg q3])
theorem QP.pullSm {F : Fn} {P : Pulls} (Q : QP F P) {h : Rat} (h0 : 0 ≤ h) {n : Nat} (hs : Sm n h) : Sm (n + 50) (pullAt P h).2 ∧ ∀ b, (pullAt P h).1 = some b → Sm (n + 50) b := by
  rw [Q.at h0]
  refine ⟨Q.smHi h0 hs, fun b hb => ?_⟩
  have hb : below F h = some b := hb
  unfold below at hb
  by_cases q : h = 0
  · rw [if_pos q] at hb; cases hb
  · rw [if_neg q] at hb; cases hb
    exact Q.smLo (by grind) hs
theorem QP.len {F : Fn} {P : Pulls} (Q : QP F P) : P.rows.length ≤ 300 := by obtain ⟨m, k, r, S, I, _, _, _, q⟩ := Q.ex; exact q
theorem QP.rateSm {F : Fn} {P : Pulls} (Q : QP F P) : Sm 50 P.rate := by
  obtain ⟨m, k, r, S, I, q1, q2, _, q⟩ := Q.ex
  rw [I.rate]
  exact Sm.int (by have := I.hr; have : (2 : Nat) ^ 50 = 1125899906842624 := by decide
                   omega) (by decide)
def T_both : TJ := fun xs M Φ _ => ∃ P Q, xs = [.d (encP P), .d (encP Q)] ∧ ((∃ F, QP F P) ∧ ∃ G, QP G Q) ∧ Φ (.d (encP (both P Q))) M
theorem encO_none (o : Option Rat) : isNone (.d (encO o)) = o.isNone := by cases o <;> rfl
theorem r_both : ∀ xs M Φ Ψ, T_both xs M Φ Ψ → j_both T_plus T_pull_at T_in_order { nx := fun _ M' => Φ (.d .none) M', rt := Φ, xr := Ψ } (jstart 9 xs) M := by
  rintro _ M Φ Ψ ⟨P, R, rfl, ⟨⟨F, Q⟩, ⟨G, Q'⟩⟩, hp⟩
  have RS := Q.rowSm
  have RS' := Q'.rowSm
  have l1 := Q.len
  have l2 := Q'.len
  refine ⟨lenF (by omega), accG1 encRow (fun r => encQ r.h) P.rows (fun r _ K1 h => h) ?_⟩
  rw [fzs_d]
  refine ⟨lenF (by omega), accG1 encRow (fun r => encQ r.h) R.rows (fun r _ K1 h => h) ?_⟩
  rw [fzs_d]
  have ecat : allD ((P.rows.map fun r => encQ r.h).map EV.d ++ (R.rows.map fun r => encQ r.h).map EV.d) = some ((P.rows.map (·.h) ++ R.rows.map (·.h)).map encQ) := by
    rw [← List.map_append, allD_of, List.map_append, List.map_map, List.map_map]
    rfl
  show (match allD ((P.rows.map fun r => encQ r.h).map EV.d ++ (R.rows.map fun r => encQ r.h).map EV.d) with
    | some ds => _
    | none => False)
  rw [ecat]
  have hsp : ∀ q ∈ P.rows.map (·.h) ++ R.rows.map (·.h), 0 ≤ q ∧ Sm 50 q := by
    intro q hq
    rcases List.mem_append.mp hq with hq | hq
    · obtain ⟨r, hr, rfl⟩ := List.mem_map.mp hq; exact ⟨(RS r hr).1, (RS r hr).2.1⟩
    · obtain ⟨r, hr, rfl⟩ := List.mem_map.mp hq; exact ⟨(RS' r hr).1, (RS' r hr).2.1⟩
  refine ⟨?_, P.rows.map (·.h) ++ R.rows.map (·.h), rfl, ⟨?_, fun q hq => (hsp q hq).2.mono (by decide)⟩, ?_⟩
  · show _ ≤ 1000000
    rw [List.length_append, List.length_map, List.length_map, List.length_map, List.length_map]; omega
  · rw [List.length_append, List.length_map, List.length_map]; omega
  intro p hp0
  have hsp2 : ∀ q ∈ inOrder (P.rows.map (·.h) ++ R.rows.map (·.h)), 0 ≤ q ∧ Sm 50 q := fun q hq => hsp q ((inOrder_mem _ q).mp hq)
  have l3 : (inOrder (P.rows.map (·.h) ++ R.rows.map (·.h))).length ≤ 600 := by
    refine Nat.le_trans (inOrder_length _) ?_
    rw [List.length_append, List.length_map, List.length_map]; omega
  refine loopF encQ (fun rest ρ M' => ∃ done : List Rat, done ++ rest = inOrder (P.rows.map (·.h) ++ R.rows.map (·.h)) ∧ M' = M.set p (.lst ((done.map fun h => encRow (bothRow P R h)).map .d)) ∧
    ∃ x2 x4 x5 x6 x7 x8, ρ = [some (.d (encP P)), some (.d (encP R)), x2, some (.v (.ref p)), x4, x5, x6, x7, x8]) ?_ ?_ _ _ _ ⟨[], rfl, rfl, _, _, _, _, _, _, rfl⟩
  · rintro ρ M' ⟨done, e1, rfl, x2, x4, x5, x6, x7, x8, rfl⟩
    have hcell : (M.set p (.lst ((done.map fun h => encRow (bothRow P R h)).map .d))) p = some (.lst ((done.map fun h => encRow (bothRow P R h)).map .d)) := Mem.set_same
    rw [List.append_nil] at e1
    refine ⟨P.rate, R.rate, rfl, ⟨Q.rateSm.mono (by decide), Q'.rateSm.mono (by decide)⟩, ?_⟩
    show (match true, fzs [.v (.ref p), .d (encQ (P.rate + R.rate))] (M.set p (.lst ((done.map fun h => encRow (bothRow P R h)).map .d))) with
      | true, some (ds, M2) => _
      | _, _ => False)
    have e2 : fzs [.v (.ref p), .d (encQ (P.rate + R.rate))] (M.set p (.lst ((done.map fun h => encRow (bothRow P R h)).map .d))) = some ([.list (done.map fun h => encRow (bothRow P R h)), encQ (P.rate + R.rate)], M) := by
      unfold fzs
      rw [fz_at hcell, Mem.del_set hp0]
      rfl
    rw [e2, e1]
    have e3 : encP (both P R) = .tuple [.list ((inOrder (P.rows.map (·.h) ++ R.rows.map (·.h))).map fun h => encRow (bothRow P R h)), encQ (P.rate + R.rate)] := by
      unfold encP both
      rw [List.map_map]
      rfl
    rw [e3] at hp
    exact hp
  · rintro x xs ρ M' ⟨done, e1, rfl, x2, x4, x5, x6, x7, x8, rfl⟩ N hN
    have hcell : (M.set p (.lst ((done.map fun h => encRow (bothRow P R h)).map .d))) p = some (.lst ((done.map fun h => encRow (bothRow P R h)).map .d)) := Mem.set_same
    obtain ⟨x0, xs0⟩ := hsp2 x (by rw [← e1]; simp)
    obtain ⟨a1, a2⟩ := Q.pullSm x0 xs0
    obtain ⟨b1, b2⟩ := Q'.pullSm x0 xs0
    have ld : done.length ≤ 600 := by
      have := congrArg List.length e1
      rw [List.length_append] at this; omega
    refine ⟨P, x, rfl, ⟨⟨F, Q⟩, x0, xs0.mono (by decide)⟩, R, x, rfl, ⟨⟨G, Q'⟩, x0, xs0.mono (by decide)⟩, ?_⟩
    have fin : ∀ (d : PyData), d = encO (addO (pullAt P x).1 (pullAt R x).1) → T_plus [.d (encQ (pullAt P x).2), .d (encQ (pullAt R x).2)] (M.set p (.lst ((done.map fun h => encRow (bothRow P R h)).map .d))) (fun z M2 => match z with
        | .d z => isLst (.v (.ref p)) M2 ∧ jrAppend (.v (.ref p)) [.d (.tuple [encQ x, d, z])] M2 fun _ M3 => N [some (.d (encP P)), some (.d (encP R)), x2, some (.v (.ref p)), some (.d (encQ x)), some (.d (.tuple [encO (pullAt P x).1, encQ (pullAt P x).2])), some (.d (.tuple [encO (pullAt R x).1, encQ (pullAt R x).2])), some (.d d), x8] M3
        | _ => False) (fun _ _ => False) := by
      rintro _ rfl
      refine ⟨_, _, rfl, ⟨a1.mono (by decide), b1.mono (by decide)⟩, isLst_cell hcell, do_append hcell ?_ (hN _ _ ⟨done ++ [x], by rw [← e1]; simp, ?_, _, _, _, _, _, _, rfl⟩)⟩
      · show _ ≤ 1000000
        rw [List.length_map, List.length_map]; omega
      · rw [Mem.set_set]
        simp only [List.map_append, List.map_cons, List.map_nil]
        rfl
    cases h1 : (pullAt P x).1 with
    | none =>
      rw [h1] at fin
      refine ⟨isLst_cell hcell, ?_⟩
      obtain ⟨a, b, e, g, k1, k2⟩ := fin .none rfl
      exact ⟨a, b, e, g, k2⟩
    | some u =>
      cases h2 : (pullAt R x).1 with
      | none =>
        rw [h1, h2] at fin
        refine ⟨isLst_cell hcell, ?_⟩
        obtain ⟨a, b, e, g, k1, k2⟩ := fin .none rfl
        exact ⟨a, b, e, g, k2⟩
      | some v =>
        rw [h1, h2] at fin
        refine ⟨u, v, rfl, ⟨(a2 u h1).mono (by decide), (b2 v h2).mono (by decide)⟩, isLst_cell hcell, ?_⟩
        obtain ⟨a, b, e, g, k1, k2⟩ := fin (encQ (u + v)) rfl
        exact ⟨a, b, e, g, k2⟩
def T_by_cord : TJ := fun xs M Φ _ => ∃ (P : Pulls) (l : Int), xs = [.d (encP P), .d (.int l)] ∧ ((∃ F n, TP n F P ∧ n ≤ 12) ∧ 0 ≤ l ∧ l ≤ 1000) ∧ Φ (.d (encP (byCord P (l : Rat)))) M
theorem num_nn (q : Rat) : decide (0 ≤ q.num) = decide (0 ≤ q) := by
  by_cases h : 0 ≤ q
  · rw [decide_eq_true h, decide_eq_true (Rat.num_nonneg.mpr h)]
  · rw [decide_eq_false h, decide_eq_false fun z => h (Rat.num_nonneg.mp z)]
theorem r_by_cord : ∀ xs M Φ Ψ, T_by_cord xs M Φ Ψ → j_by_cord T_in_order T_felt T_is_less T_minus T_plus T_nought_of { nx := fun _ M' => Φ (.d .none) M', rt := Φ, xr := Ψ } (jstart 13 xs) M := by
  rintro _ M Φ Ψ ⟨P, l, rfl, ⟨⟨F, n, tp, hn⟩, hl0, hl1⟩, hp⟩
  have Q := tp.qp (by omega)
  have RS := Q.rowSm
  have len := Q.len
  have far : Sm 20 (l : Rat) := Sm.int (by have : (2 : Nat) ^ 20 = 1048576 := by decide
                                           omega) (by decide)
  have l0 : (0 : Rat) ≤ (l : Rat) := by exact_mod_cast hl0
  have still := tp.noughtSm (by omega)
  have z0 := tp.nought.nn
  have lo := still.sub far
  have hi := still.add far
  refine ⟨P, rfl, ⟨F, n, tp, by omega⟩, noughtOf P, (l : Rat), rfl, ⟨still.mono (by decide), far.mono (by decide)⟩, noughtOf P, (l : Rat), rfl, ⟨still.mono (by decide), far.mono (by decide)⟩, ?_⟩
  intro p hp0
  refine loopF encRow (fun rest ρ M' => ∃ done : List Row, done ++ rest = P.rows ∧ M' = M.set p (.lst (((cordSpots ⟨done, P.rate⟩ (noughtOf P) (l : Rat)).map encQ).map .d)) ∧
    ∃ x7 x8 x9 x10 x11 x12, ρ = [some (.d (encP P)), some (.d (.int l)), some (.d (encQ (noughtOf P))), some (.d (encQ (l : Rat))), some (.d (encQ (noughtOf P - l))), some (.d (encQ (noughtOf P + l))), some (.v (.ref p)), x7, x8, x9, x10, x11, x12]) ?_ ?_ _ _ _
    ⟨[], rfl, rfl, _, _, _, _, _, _, rfl⟩
  · rintro ρ M' ⟨done, e1, rfl, x7, x8, x9, x10, x11, x12, rfl⟩
    rw [List.append_nil] at e1
    subst e1
    have hsp : ∀ q ∈ cordSpots P (noughtOf P) (l : Rat), Sm 71 q := by
      intro q hq
      unfold cordSpots at hq
      rcases List.mem_append.mp hq with hq | hq
      · simp only [List.mem_cons, List.not_mem_nil, or_false] at hq
        rcases hq with rfl | rfl | rfl
        · exact sm0.mono (by decide)
        · exact lo.mono (by decide)
        · exact hi.mono (by decide)
      · obtain ⟨r, hr, rfl⟩ := List.mem_map.mp hq
        have := (RS r hr).2.1
        split
        · exact (this.sub far).mono (by decide)
        · exact (this.add far).mono (by decide)
    have lsp : (cordSpots P (noughtOf P) (l : Rat)).length ≤ 303 := by
      unfold cordSpots
      rw [List.length_append, List.length_map]
      simp; omega
    have hcell : (M.set p (.lst (((cordSpots P (noughtOf P) (l : Rat)).map encQ).map .d))) p = some (.lst (((cordSpots P (noughtOf P) (l : Rat)).map encQ).map .d)) := Mem.set_same
    show (match fz (.v (.ref p)) (M.set p (.lst (((cordSpots P (noughtOf P) (l : Rat)).map encQ).map .d))) with
      | some (d, M2) => _
      | none => False)
    rw [fz_at hcell, Mem.del_set hp0]
    intro p2 hp2
    refine ⟨lenF (by omega), accG encQ (fun q => decide (0 ≤ q)) encQ (cordSpots P (noughtOf P) (l : Rat)) ?_ ?_⟩
    · intro q hq K1 K2 k1 k2
      show sel (decide (0 ≤ q.num)) _ _
      rw [num_nn]
      exact sel_b (fun q => k1 q) fun q => k2 q
    rw [fzs_d]
    have fsp : ∀ q ∈ (cordSpots P (noughtOf P) (l : Rat)).filter (fun q => decide (0 ≤ q)), 0 ≤ q ∧ Sm 71 q := fun q hq => by
      obtain ⟨h1, h2⟩ := List.mem_filter.mp hq
      exact ⟨of_decide_eq_true h2, hsp q h1⟩
    have fl : ((cordSpots P (noughtOf P) (l : Rat)).filter (fun q => decide (0 ≤ q))).length ≤ 303 := Nat.le_trans (List.length_filter_le _ _) lsp
    refine ⟨_, rfl, ⟨by omega, fun q hq => (fsp q hq).2.mono (by decide)⟩, ?_⟩
    have isp : ∀ q ∈ inOrder ((cordSpots P (noughtOf P) (l : Rat)).filter (fun q => decide (0 ≤ q))), 0 ≤ q ∧ Sm 71 q := fun q hq => fsp q ((inOrder_mem _ q).mp hq)
    have il : (inOrder ((cordSpots P (noughtOf P) (l : Rat)).filter (fun q => decide (0 ≤ q)))).length ≤ 303 := Nat.le_trans (inOrder_length _) fl
    refine loopF encQ (fun rest ρ M' => ∃ done : List Rat, done ++ rest = inOrder ((cordSpots P (noughtOf P) (l : Rat)).filter (fun q => decide (0 ≤ q))) ∧ M' = M.set p2 (.lst ((done.map fun h => encRow (cordRow P (noughtOf P) l h)).map .d)) ∧
      ∃ x6 x7 x9 x10 x11 x12, ρ = [some (.d (encP P)), some (.d (.int l)), some (.d (encQ (noughtOf P))), some (.d (encQ (l : Rat))), some (.d (encQ (noughtOf P - l))), some (.d (encQ (noughtOf P + l))), x6, x7, some (.v (.ref p2)), x9, x10, x11, x12]) ?_ ?_ _ _ _
      ⟨[], rfl, rfl, _, _, _, _, _, _, rfl⟩
    · rintro ρ M' ⟨done, e1, rfl, x6, x7, x9, x10, x11, x12, rfl⟩
      rw [List.append_nil] at e1
      have hcell2 : (M.set p2 (.lst ((done.map fun h => encRow (cordRow P (noughtOf P) l h)).map .d))) p2 = some (.lst ((done.map fun h => encRow (cordRow P (noughtOf P) l h)).map .d)) := Mem.set_same
      show (match true, fzs [.v (.ref p2), .d (encQ P.rate)] (M.set p2 (.lst ((done.map fun h => encRow (cordRow P (noughtOf P) l h)).map .d))) with
        | true, some (ds, M2) => _
        | _, _ => False)
      have e2 : fzs [.v (.ref p2), .d (encQ P.rate)] (M.set p2 (.lst ((done.map fun h => encRow (cordRow P (noughtOf P) l h)).map .d))) = some ([.list (done.map fun h => encRow (cordRow P (noughtOf P) l h)), encQ P.rate], M) := by
        unfold fzs
        rw [fz_at hcell2, Mem.del_set hp2]
        rfl
      rw [e2, e1]
      have e3 : encP (byCord P (l : Rat)) = .tuple [.list ((inOrder ((cordSpots P (noughtOf P) (l : Rat)).filter (fun q => decide (0 ≤ q)))).map fun h => encRow (cordRow P (noughtOf P) l h)), encQ P.rate] := by
        unfold encP byCord
        rw [List.map_map]
        rfl
      rw [e3] at hp
      exact hp
    · rintro x xs ρ M' ⟨done, e1, rfl, x6, x7, x9, x10, x11, x12, rfl⟩ N hN
      have hcell2 : (M.set p2 (.lst ((done.map fun h => encRow (cordRow P (noughtOf P) l h)).map .d))) p2 = some (.lst ((done.map fun h => encRow (cordRow P (noughtOf P) l h)).map .d)) := Mem.set_same
      obtain ⟨x0, xs0⟩ := isp x (by rw [← e1]; simp)
      have ld : done.length ≤ 303 := by
        have := congrArg List.length e1
        rw [List.length_append] at this; omega
      refine ⟨P, x, noughtOf P, (l : Rat), rfl, ⟨⟨F, Q⟩, ⟨x0, z0, l0⟩, xs0.mono (by decide), still, far⟩, isLst_cell hcell2, ⟨(encQ_shp _).ok (by decide), (encQ_shp 0).ok (by decide)⟩, ?_⟩
      have e0 : PyData.eqv (encQ x) (.tuple [.int 0, .int 1]) = decide (x = 0) := encQ_eq.dec x 0
      rw [e0]
      show sel (false ^^ decide (x = 0)) _ _
      have fin : ∀ (d : PyData), d = encO (if x = 0 then none else (feltP P x (noughtOf P) (l : Rat)).1) →
          jrAppend (.v (.ref p2)) [.d (.tuple [encQ x, d, encQ (feltP P x (noughtOf P) (l : Rat)).2])] (M.set p2 (.lst ((done.map fun h => encRow (cordRow P (noughtOf P) l h)).map .d))) fun _ M3 => N [some (.d (encP P)), some (.d (.int l)), some (.d (encQ (noughtOf P))), some (.d (encQ (l : Rat))), some (.d (encQ (noughtOf P - l))), some (.d (encQ (noughtOf P + l))), x6, x7, some (.v (.ref p2)), some (.d (encQ x)), some (.d (encO (feltP P x (noughtOf P) (l : Rat)).1)), some (.d (encQ (feltP P x (noughtOf P) (l : Rat)).2)), x12] M3 := by
        rintro _ rfl
        refine do_append hcell2 ?_ (hN _ _ ⟨done ++ [x], by rw [← e1]; simp, ?_, _, _, _, _, _, _, rfl⟩)
        · show _ ≤ 1000000
          rw [List.length_map, List.length_map]; omega
        · rw [Mem.set_set]
          simp only [List.map_append, List.map_cons, List.map_nil]
          rfl
      refine sel_fdec (fun q => ?_) fun q => ?_
      · exact fin .none (by rw [if_pos q]; rfl)
      · exact fin (encO (feltP P x (noughtOf P) (l : Rat)).1) (by rw [if_neg q])
  · rintro r xs ρ M' ⟨done, e1, rfl, x7, x8, x9, x10, x11, x12, rfl⟩ N hN
    have hcell : (M.set p (.lst (((cordSpots ⟨done, P.rate⟩ (noughtOf P) (l : Rat)).map encQ).map .d))) p = some (.lst (((cordSpots ⟨done, P.rate⟩ (noughtOf P) (l : Rat)).map encQ).map .d)) := Mem.set_same
    have rs := (RS r (by rw [← e1]; simp)).2.1
    have ld : done.length ≤ 300 := by
      have := congrArg List.length e1
      rw [List.length_append] at this; omega
    refine ⟨isLst_cell hcell, r.h, noughtOf P, rfl, ⟨rs.mono (by decide), still.mono (by decide)⟩, ?_⟩
    have fin : ∀ q : Rat, q = (if r.h < noughtOf P then r.h - l else r.h + l) → jrAppend (.v (.ref p)) [.d (encQ q)] (M.set p (.lst (((cordSpots ⟨done, P.rate⟩ (noughtOf P) (l : Rat)).map encQ).map .d))) fun _ M3 => N [some (.d (encP P)), some (.d (.int l)), some (.d (encQ (noughtOf P))), some (.d (encQ (l : Rat))), some (.d (encQ (noughtOf P - l))), some (.d (encQ (noughtOf P + l))), some (.v (.ref p)), some (.d (encRow r)), x8, x9, x10, x11, x12] M3 := by
      rintro _ rfl
      refine do_append hcell ?_ (hN _ _ ⟨done ++ [r], by rw [← e1]; simp, ?_, _, _, _, _, _, _, rfl⟩)
      · show _ ≤ 1000000
        unfold cordSpots
        rw [List.length_map, List.length_map, List.length_append, List.length_map]
        simp; omega
      · rw [Mem.set_set]
        unfold cordSpots
        simp only [List.map_append, List.map_cons, List.map_nil, List.append_assoc]
    show sel (decide (r.h < noughtOf P)) _ _
    refine sel_dec (fun q => ?_) fun q => ?_
    · exact ⟨r.h, (l : Rat), rfl, ⟨rs.mono (by decide), far.mono (by decide)⟩, fin _ (by rw [if_pos q])⟩
    · exact ⟨r.h, (l : Rat), rfl, ⟨rs.mono (by decide), far.mono (by decide)⟩, fin _ (by rw [if_neg q])⟩
end Td

/-! TdG1: shows, cords as a graph, forests. -/
namespace Td
open PySem PySem.Spec PyProof.Rows L2

abbrev Bal := Str × Int × Int
abbrev Cord := Str × Str × Int
structure Show where
  bals : List Bal
  cords : List Cord
def Adj (E : List Cord) (x y : Str) : Prop := ∃ l, (x, y, l) ∈ E ∨ (y, x, l) ∈ E
inductive Conn (E : List Cord) : Str → Str → Prop
  | refl (x : Str) : Conn E x x
  | step {x y z : Str} : Conn E x y → Adj E y z → Conn E x z
theorem Adj.symm {E : List Cord} {x y : Str} (h : Adj E x y) : Adj E y x := let ⟨l, h⟩ := h; ⟨l, h.symm⟩
theorem Adj.mono {E E' : List Cord} {x y : Str} (h : Adj E x y) (s : ∀ c ∈ E, c ∈ E') : Adj E' x y := let ⟨l, h⟩ := h; ⟨l, h.imp (s _) (s _)⟩
theorem Conn.one {E : List Cord} {x y : Str} (h : Adj E x y) : Conn E x y := .step (.refl x) h
theorem Conn.trans {E : List Cord} {x y z : Str} (h : Conn E x y) (g : Conn E y z) : Conn E x z := by
  induction g with
  | refl => exact h
  | step _ a ih => exact .step ih a
theorem Conn.symm {E : List Cord} {x y : Str} (h : Conn E x y) : Conn E y x := by
  induction h with
  | refl => exact .refl _
  | step _ a ih => exact (Conn.one a.symm).trans ih
theorem Conn.mono {E E' : List Cord} {x y : Str} (h : Conn E x y) (s : ∀ c ∈ E, c ∈ E') : Conn E' x y := by
  induction h with
  | refl => exact .refl _
  | step _ a ih => exact .step ih (a.mono s)
theorem conn_cons {c : Cord} {E : List Cord} {x y : Str} : Conn (c :: E) x y ↔ Conn E x y ∨ (Conn E x c.1 ∧ Conn E c.2.1 y) ∨ (Conn E x c.2.1 ∧ Conn E c.1 y) := by
  constructor
  · intro h
    induction h with
    | refl => exact .inl (.refl _)
    | step h a ih =>
      rename_i y z
      obtain ⟨l, a⟩ := a
      have cases4 : Adj E y z ∨ (y = c.1 ∧ z = c.2.1) ∨ (y = c.2.1 ∧ z = c.1) := by
        rcases a with a | a
        · rcases List.mem_cons.mp a with e | a
          · exact .inr (.inl ⟨by rw [← e], by rw [← e]⟩)
          · exact .inl ⟨l, .inl a⟩
        · rcases List.mem_cons.mp a with e | a
          · exact .inr (.inr ⟨by rw [← e], by rw [← e]⟩)
          · exact .inl ⟨l, .inr a⟩
      rcases cases4 with a | ⟨rfl, rfl⟩ | ⟨rfl, rfl⟩
      · rcases ih with ih | ⟨i1, i2⟩ | ⟨i1, i2⟩
        · exact .inl (.step ih a)
        · exact .inr (.inl ⟨i1, .step i2 a⟩)
        · exact .inr (.inr ⟨i1, .step i2 a⟩)
      · rcases ih with ih | ⟨i1, i2⟩ | ⟨i1, i2⟩
        · exact .inr (.inl ⟨ih, .refl _⟩)
        · exact .inr (.inl ⟨i1, .refl _⟩)
        · exact .inl i1
      · rcases ih with ih | ⟨i1, i2⟩ | ⟨i1, i2⟩
        · exact .inr (.inr ⟨ih, .refl _⟩)
        · exact .inl i1
        · exact .inr (.inr ⟨i1, .refl _⟩)
  · have s : ∀ d ∈ E, d ∈ c :: E := fun d hd => List.mem_cons_of_mem _ hd
    have a : Adj (c :: E) c.1 c.2.1 := ⟨c.2.2, .inl (by simp)⟩
    rintro (h | ⟨h1, h2⟩ | ⟨h1, h2⟩)
    · exact h.mono s
    · exact (Conn.step (h1.mono s) a).trans (h2.mono s)
    · exact (Conn.step (h1.mono s) a.symm).trans (h2.mono s)
/-- a ring: a cord whose ends are tied already by those before it -/
def Ring (C : List Cord) : Prop := ∃ A c B, C = A ++ c :: B ∧ Conn A c.1 c.2.1
/-- no cord whose ends are tied without it -/
def Bridge (C : List Cord) : Prop := ∀ A c B, C = A ++ c :: B → ¬ Conn (A ++ B) c.1 c.2.1
theorem conn_snoc {c : Cord} {E : List Cord} {x y : Str} : Conn (E ++ [c]) x y ↔ Conn E x y ∨ (Conn E x c.1 ∧ Conn E c.2.1 y) ∨ (Conn E x c.2.1 ∧ Conn E c.1 y) := by
  rw [← conn_cons]
  constructor
  · exact fun h => h.mono fun d hd => by simp at hd ⊢; exact hd.symm
  · exact fun h => h.mono fun d hd => by simp at hd ⊢; exact hd.symm
theorem snocInd {α : Type} {motive : List α → Prop} (nil : motive []) (snoc : ∀ l a, motive l → motive (l ++ [a])) (l : List α) : motive l := by
  have : ∀ l : List α, motive l.reverse := by
    intro l
    induction l with
    | nil => exact nil
    | cons a l ih => rw [List.reverse_cons]; exact snoc _ a ih
  have h := this l.reverse
  rw [List.reverse_reverse] at h
  exact h
theorem bridge_of {C : List Cord} (h : ¬ Ring C) : Bridge C := by
  intro A c B e hc
  -- the shortest part of B that ties
  have : ∀ B1 B2, B = B1 ++ B2 → ¬ Conn (A ++ B1) c.1 c.2.1 := by
    intro B1
    refine snocInd (motive := fun B1 => ∀ B2, B = B1 ++ B2 → ¬ Conn (A ++ B1) c.1 c.2.1) ?_ ?_ B1
    · intro B2 _ z
      rw [List.append_nil] at z
      exact h ⟨A, c, B, e, z⟩
    · intro B1 d ih B2 eB z
      have no := ih (d :: B2) (by rw [eB]; simp)
      rw [← List.append_assoc, conn_snoc] at z
      have key : Conn (A ++ c :: B1) d.1 d.2.1 := by
        have s : ∀ y ∈ A ++ B1, y ∈ A ++ c :: B1 := fun y hy => by
          rcases List.mem_append.mp hy with q | q <;> simp [q]
        have a : Adj (A ++ c :: B1) c.1 c.2.1 := ⟨c.2.2, .inl (by simp)⟩
        rcases z with z | ⟨z1, z2⟩ | ⟨z1, z2⟩
        · exact (no z).elim
        · exact ((z1.symm.mono s).trans (Conn.one a)).trans (z2.symm.mono s)
        · exact ((z2.mono s).trans (Conn.one a.symm)).trans (z1.mono s)
      exact h ⟨A ++ c :: B1, d, B2, by rw [e, eB]; simp, key⟩
  exact this B [] (by simp) hc
theorem Bridge.noRing {C : List Cord} (h : Bridge C) : ¬ Ring C := by
  rintro ⟨A, c, B, e, z⟩
  exact h A c B e (z.mono fun d hd => List.mem_append_left _ hd)
theorem Bridge.perm {C C' : List Cord} (h : Bridge C) (p : C'.Perm C) : Bridge C' := by
  intro A' c B' e z
  have hm : c ∈ C := p.mem_iff.mp (by rw [e]; simp)
  obtain ⟨A, B, e2⟩ := List.append_of_mem hm
  refine h A c B e2 (z.mono fun d hd => ?_)
  have p2 : (c :: (A' ++ B')).Perm (c :: (A ++ B)) := by
    refine List.perm_middle.symm.trans (List.Perm.trans ?_ List.perm_middle)
    rw [← e, ← e2]; exact p
  exact (List.Perm.cons_inv p2).mem_iff.mp hd
theorem Bridge.sub {C C' : List Cord} (h : Bridge C) (s : C'.Sublist C) : Bridge C' := by
  intro A' c B' e z
  rw [e] at s
  obtain ⟨r1, r2, e1, s1, s2⟩ := List.append_sublist_iff.mp s
  obtain ⟨r3, r4, e3, m3, s4⟩ := List.cons_sublist_iff.mp s2
  obtain ⟨u, v, e5⟩ := List.append_of_mem m3
  refine h (r1 ++ u) c (v ++ r4) (by rw [e1, e3, e5]; simp) (z.mono fun d hd => ?_)
  rcases List.mem_append.mp hd with q | q
  · simp [s1.mem q]
  · simp [s4.mem q]
/-- two cords of the same ends are a ring -/
theorem Bridge.one {C A B D : List Cord} {c d : Cord} (h : Bridge C) (e : C = A ++ c :: B ++ d :: D) (h1 : (c.1 = d.1 ∧ c.2.1 = d.2.1) ∨ (c.1 = d.2.1 ∧ c.2.1 = d.1)) : False := by
  refine h (A ++ c :: B) d D e ?_
  have a : Adj (A ++ c :: B ++ D) c.1 c.2.1 := ⟨c.2.2, .inl (by simp)⟩
  rcases h1 with ⟨e1, e2⟩ | ⟨e1, e2⟩
  · rw [← e1, ← e2]; exact Conn.one a
  · rw [← e1, ← e2]; exact Conn.one a.symm

/-! ### ways -/
def PathE (E : List Cord) : List Str → Prop
  | [] => True
  | [_] => True
  | x :: y :: r => Adj E x y ∧ PathE E (y :: r)
theorem conn_path {E : List Cord} : ∀ {r : List Str} {x y : Str}, PathE E (x :: r) → y ∈ x :: r → Conn E x y
  | [], x, y, _, m => by rw [List.mem_singleton.mp m]; exact .refl _
  | z :: r, x, y, h, m => by
    rcases List.mem_cons.mp m with rfl | m
    · exact .refl _
    · exact (Conn.one h.1).trans (conn_path h.2 m)
theorem adj_without {C A B : List Cord} {c : Cord} {x y : Str} (e : C = A ++ c :: B) (h : Adj C x y) (hn : ¬ ((x = c.1 ∧ y = c.2.1) ∨ (x = c.2.1 ∧ y = c.1))) : Adj (A ++ B) x y := by
  obtain ⟨l, h⟩ := h
  rw [e] at h
  have go : ∀ d : Cord, d ∈ A ++ c :: B → d ≠ c → d ∈ A ++ B := by
    intro d hd ne
    rcases List.mem_append.mp hd with q | q
    · simp [q]
    · rcases List.mem_cons.mp q with q | q
      · exact (ne q).elim
      · simp [q]
  rcases h with h | h
  · exact ⟨l, .inl (go _ h fun z => hn (.inl ⟨by rw [← z], by rw [← z]⟩))⟩
  · exact ⟨l, .inr (go _ h fun z => hn (.inr ⟨by rw [← z], by rw [← z]⟩))⟩
theorem path_without {C A B : List Cord} {c : Cord} {u : Str} (e : C = A ++ c :: B) (hu : u = c.1 ∨ u = c.2.1) : ∀ {P : List Str}, PathE C P → u ∉ P → PathE (A ++ B) P
  | [], _, _ => trivial
  | [_], _, _ => trivial
  | x :: y :: r, h, hn => by
    have n1 : u ≠ x := fun z => hn (by simp [z])
    have n2 : u ≠ y := fun z => hn (by simp [z])
    refine ⟨adj_without e h.1 ?_, path_without e hu h.2 fun z => hn (List.mem_cons_of_mem _ z)⟩
    rintro (⟨a, b⟩ | ⟨a, b⟩)
    · rcases hu with z | z
      · exact n1 (z.trans a.symm)
      · exact n2 (z.trans b.symm)
    · rcases hu with z | z
      · exact n2 (z.trans b.symm)
      · exact n1 (z.trans a.symm)
/-- from the end of a way none goes back on it, but to the one before -/
theorem no_back {C : List Cord} (hB : Bridge C) {u v : Str} {P : List Str} (hp : PathE C (u :: P)) (nd : (u :: P).Nodup) (ha : Adj C u v) (huv : u ≠ v) (hh : some v ≠ P.head?) : v ∉ u :: P := by
  intro m
  rcases List.mem_cons.mp m with e | m
  · exact huv e.symm
  obtain ⟨l, ha⟩ := ha
  cases P with
  | nil => cases m
  | cons w P =>
    have hw : w ≠ v := fun z => hh (by simp [z])
    obtain ⟨n1, n2⟩ := List.nodup_cons.mp nd
    -- c: the cord of u and v
    have go : ∀ c : Cord, c ∈ C → ((u = c.1 ∧ v = c.2.1) ∨ (u = c.2.1 ∧ v = c.1)) → False := by
      intro c hc huc
      obtain ⟨A, B, e⟩ := List.append_of_mem hc
      have h1 : PathE (A ++ B) (w :: P) := path_without e (by rcases huc with z | z; exact .inl z.1; exact .inr z.1) hp.2 n1
      have h2 : Adj (A ++ B) u w := by
        refine adj_without e hp.1 ?_
        rintro (⟨a, b⟩ | ⟨a, b⟩)
        · rcases huc with ⟨z1, z2⟩ | ⟨z1, z2⟩
          · exact hw (b.trans z2.symm)
          · exact huv (a.trans z2.symm)
        · rcases huc with ⟨z1, z2⟩ | ⟨z1, z2⟩
          · exact huv (a.trans z2.symm)
          · exact hw (b.trans z2.symm)
      have h3 : Conn (A ++ B) u v := (Conn.one h2).trans (conn_path h1 m)
      rcases huc with ⟨z1, z2⟩ | ⟨z1, z2⟩
      · rw [z1, z2] at h3; exact hB A c B e h3
      · rw [z1, z2] at h3; exact hB A c B e h3.symm
    rcases ha with ha | ha
    · exact go _ ha (.inl ⟨rfl, rfl⟩)
    · exact go _ ha (.inr ⟨rfl, rfl⟩)
end Td

/-! TdG2: trees of balloons. -/
namespace Td
open PySem PySem.Spec PyProof.Rows L2

mutual
inductive Tree
  | node (name : Str) (own strong : Int) (kids : Kids)
inductive Kids
  | nil
  | cons (t : Tree) (long : Int) (r : Kids)
end
def Tree.name : Tree → Str
  | .node n _ _ _ => n
def Tree.own : Tree → Int
  | .node _ o _ _ => o
def Tree.strong : Tree → Int
  | .node _ _ s _ => s
def Tree.kids : Tree → Kids
  | .node _ _ _ k => k
mutual
def Tree.names : Tree → List Str
  | .node n _ _ k => n :: k.names
def Kids.names : Kids → List Str
  | .nil => []
  | .cons t _ r => t.names ++ r.names
end
theorem Tree.names_eq (t : Tree) : t.names = t.name :: t.kids.names := by cases t; rfl
theorem Tree.name_mem (t : Tree) : t.name ∈ t.names := by rw [Tree.names_eq]; simp
/-- those tied to one -/
def tie1 (n : Str) (c : Cord) : Option (Str × Int) := if n = c.1 ∨ n = c.2.1 then some (if c.1 = n then c.2.1 else c.1, c.2.2) else none
def tied (C : List Cord) (n : Str) : List (Str × Int) := C.filterMap (tie1 n)
def kidsL (C : List Cord) (n : Str) (ahead : Option Str) : List (Str × Int) := (tied C n).filter fun t => !decide (some t.1 = ahead)
mutual
def IsT (S : Show) : Tree → Option Str → Prop
  | .node n o s k, ahead => (n, o, s) ∈ S.bals ∧ IsK S k n (kidsL S.cords n ahead)
def IsK (S : Show) : Kids → Str → List (Str × Int) → Prop
  | .nil, _, L => L = []
  | .cons t l r, n, L => ∃ L', L = (t.name, l) :: L' ∧ IsT S t (some n) ∧ IsK S r n L'
end
/-- what is asked of shows here -/
structure Tidy (S : Show) : Prop where
  nd : (S.bals.map (·.1)).Nodup
  few : S.bals.length ≤ 8
  bal : ∀ b ∈ S.bals, (-1000 ≤ b.2.1 ∧ b.2.1 ≤ 1000) ∧ 1 ≤ b.2.2 ∧ b.2.2 ≤ 100
  ends : ∀ c ∈ S.cords, c.1 ∈ S.bals.map (·.1) ∧ c.2.1 ∈ S.bals.map (·.1) ∧ c.1 ≠ c.2.1 ∧ 0 ≤ c.2.2 ∧ c.2.2 ≤ 1000
  br : Bridge S.cords
theorem tie1_mem {n : Str} {c : Cord} {t : Str × Int} (h : tie1 n c = some t) : (n = c.1 ∧ t.1 = c.2.1 ∧ t.2 = c.2.2) ∨ (n = c.2.1 ∧ t.1 = c.1 ∧ t.2 = c.2.2) := by
  unfold tie1 at h
  split at h
  · rename_i q
    cases h
    by_cases e : c.1 = n
    · left; rw [if_pos e]; exact ⟨e.symm, rfl, rfl⟩
    · right; rw [if_neg e]; exact ⟨q.resolve_left fun z => e z.symm, rfl, rfl⟩
  · cases h
theorem tied_mem {C : List Cord} {n : Str} {t : Str × Int} (h : t ∈ tied C n) : ∃ c ∈ C, ((n = c.1 ∧ t.1 = c.2.1) ∨ (n = c.2.1 ∧ t.1 = c.1)) ∧ t.2 = c.2.2 := by
  obtain ⟨c, hc, e⟩ := List.mem_filterMap.mp h
  rcases tie1_mem e with ⟨a, b, d⟩ | ⟨a, b, d⟩
  · exact ⟨c, hc, .inl ⟨a, b⟩, d⟩
  · exact ⟨c, hc, .inr ⟨a, b⟩, d⟩
theorem tied_adj {C : List Cord} {n : Str} {t : Str × Int} (h : t ∈ tied C n) : Adj C n t.1 := by
  obtain ⟨c, hc, e, _⟩ := tied_mem h
  rcases e with ⟨a, b⟩ | ⟨a, b⟩
  · exact ⟨c.2.2, .inl (by rw [a, b]; exact hc)⟩
  · exact ⟨c.2.2, .inr (by rw [a, b]; exact hc)⟩
theorem adj_tied {C : List Cord} {x y : Str} (h : Adj C x y) : ∃ l, (y, l) ∈ tied C x := by
  obtain ⟨l, h⟩ := h
  by_cases e : x = y
  · subst e
    refine ⟨l, List.mem_filterMap.mpr ⟨(x, x, l), by simpa using h, ?_⟩⟩
    unfold tie1; rw [if_pos (.inl rfl), if_pos rfl]
  · rcases h with h | h
    · refine ⟨l, List.mem_filterMap.mpr ⟨_, h, ?_⟩⟩
      unfold tie1; rw [if_pos (.inl rfl), if_pos rfl]
    · refine ⟨l, List.mem_filterMap.mpr ⟨_, h, ?_⟩⟩
      unfold tie1; rw [if_pos (.inr rfl), if_neg (fun z => e z.symm)]
/-- the cords that touch none of some -/
def avoid (C : List Cord) (P : List Str) : List Cord := C.filter fun c => decide (c.1 ∉ P ∧ c.2.1 ∉ P)
theorem avoid_sub {C : List Cord} {P : List Str} {c : Cord} (h : c ∈ avoid C P) : c ∈ C := (List.mem_filter.mp h).1
theorem avoid_mono {C : List Cord} {P Q : List Str} (h : ∀ x ∈ P, x ∈ Q) : ∀ c ∈ avoid C Q, c ∈ avoid C P := fun c hc => by
  obtain ⟨h1, h2⟩ := List.mem_filter.mp hc
  have h2 := of_decide_eq_true h2
  exact List.mem_filter.mpr ⟨h1, decide_eq_true ⟨fun z => h2.1 (h _ z), fun z => h2.2 (h _ z)⟩⟩
theorem avoid_adj {C : List Cord} {P : List Str} {x y : Str} (h : Adj C x y) (hx : x ∉ P) (hy : y ∉ P) : Adj (avoid C P) x y := by
  obtain ⟨l, h⟩ := h
  rcases h with h | h
  · exact ⟨l, .inl (List.mem_filter.mpr ⟨h, decide_eq_true ⟨hx, hy⟩⟩)⟩
  · exact ⟨l, .inr (List.mem_filter.mpr ⟨h, decide_eq_true ⟨hy, hx⟩⟩)⟩
theorem subset_len {α : Type} [DecidableEq α] : ∀ {l m : List α}, l.Nodup → (∀ x ∈ l, x ∈ m) → l.length ≤ m.length
  | [], m, _, _ => Nat.zero_le _
  | x :: l, m, nd, h => by
    obtain ⟨n1, n2⟩ := List.nodup_cons.mp nd
    have hx := h x (List.mem_cons_self ..)
    have : l.length ≤ (m.erase x).length := subset_len n2 fun y hy => by
      have ne : y ≠ x := fun z => n1 (z ▸ hy)
      exact (List.mem_erase_of_ne ne).mpr (h y (List.mem_cons_of_mem _ hy))
    rw [List.length_erase_of_mem hx] at this
    have := List.length_pos_of_mem hx
    rw [List.length_cons]; omega
/-- two of those tied to one are not the same -/
theorem tied_nd {S : Show} (T : Tidy S) (u : Str) : ((tied S.cords u).map (·.1)).Nodup := by
  have key : ∀ (C A : List Cord), S.cords = A ++ C → ((tied C u).map (·.1)).Nodup := by
    intro C
    induction C with
    | nil => intro A _; exact List.nodup_nil
    | cons c C ih =>
      intro A e
      have ih := ih (A ++ [c]) (by rw [e]; simp)
      unfold tied at ih ⊢
      rw [List.filterMap_cons]
      cases hc : tie1 u c with
      | none => exact ih
      | some t =>
        rw [List.map_cons, List.nodup_cons]
        refine ⟨fun hm => ?_, ih⟩
        obtain ⟨t', ht', e'⟩ := List.mem_map.mp hm
        obtain ⟨d, hd, ed⟩ := List.mem_filterMap.mp ht'
        obtain ⟨B, D, eC⟩ := List.append_of_mem hd
        have e0 : S.cords = A ++ c :: B ++ d :: D := by rw [e, eC]; simp
        refine T.br.one e0 ?_
        rcases tie1_mem hc with ⟨a1, a2, _⟩ | ⟨a1, a2, _⟩ <;> rcases tie1_mem ed with ⟨b1, b2, _⟩ | ⟨b1, b2, _⟩
        · exact .inl ⟨a1.symm.trans b1, by rw [← a2, ← b2, e']⟩
        · exact .inr ⟨a1.symm.trans b1, by rw [← a2, ← b2, e']⟩
        · exact .inr ⟨by rw [← a2, ← b2, e'], a1.symm.trans b1⟩
        · exact .inl ⟨by rw [← a2, ← b2, e'], a1.symm.trans b1⟩
  exact key S.cords [] rfl
theorem find_bal {S : Show} {u : Str} (h : u ∈ S.bals.map (·.1)) : ∃ o s, (u, o, s) ∈ S.bals := by
  obtain ⟨b, hb, rfl⟩ := List.mem_map.mp h
  exact ⟨b.2.1, b.2.2, hb⟩
theorem kidsL_mem {C : List Cord} {u : Str} {a : Option Str} {t : Str × Int} (h : t ∈ kidsL C u a) : t ∈ tied C u ∧ some t.1 ≠ a := by
  obtain ⟨h1, h2⟩ := List.mem_filter.mp h
  refine ⟨h1, fun z => ?_⟩
  rw [decide_eq_true z] at h2; cases h2
/-- THE TREES ARE THERE -/
theorem tree_ex {S : Show} (T : Tidy S) : ∀ (n : Nat) (u : Str) (P : List Str), PathE S.cords (u :: P) → (u :: P).Nodup → (∀ x ∈ u :: P, x ∈ S.bals.map (·.1)) → S.bals.length ≤ n + (u :: P).length →
    ∃ t, IsT S t P.head? ∧ t.name = u ∧ t.names.Nodup ∧ ∀ x ∈ t.names, x ∉ P ∧ Conn (avoid S.cords P) u x := by
  intro n
  induction n with
  | zero =>
    intro u P hp nd hs hn
    obtain ⟨o, s, hb⟩ := find_bal (hs u (by simp))
    have hk : kidsL S.cords u P.head? = [] := by
      cases e : kidsL S.cords u P.head? with
      | nil => rfl
      | cons t L =>
        exfalso
        obtain ⟨ht, hne⟩ := kidsL_mem (t := t) (by rw [e]; simp)
        have ha := tied_adj ht
        obtain ⟨c, hc, hcu, _⟩ := tied_mem ht
        obtain ⟨e1, e2, e3, _⟩ := T.ends c hc
        have huv : u ≠ t.1 := by rcases hcu with ⟨a, b⟩ | ⟨a, b⟩ <;> rw [a, b]; exact e3; exact fun z => e3 z.symm
        have hm : t.1 ∈ S.bals.map (·.1) := by rcases hcu with ⟨a, b⟩ | ⟨a, b⟩ <;> rw [b] <;> assumption
        have nb := no_back T.br hp nd ha huv hne
        have := subset_len (l := t.1 :: u :: P) (m := S.bals.map (·.1)) (List.nodup_cons.mpr ⟨nb, nd⟩) (fun x hx => by
          rcases List.mem_cons.mp hx with rfl | hx
          · exact hm
          · exact hs x hx)
        rw [List.length_map, List.length_cons] at this
        omega
    refine ⟨.node u o s .nil, ⟨hb, hk⟩, rfl, by simp [Tree.names, Kids.names], fun x hx => ?_⟩
    have : x = u := by simpa [Tree.names, Kids.names] using hx
    subst this
    exact ⟨(List.nodup_cons.mp nd).1, .refl _⟩
  | succ n ih =>
    intro u P hp nd hs hn
    obtain ⟨o, s, hb⟩ := find_bal (hs u (by simp))
    -- the kids
    have kids : ∀ L : List (Str × Int), (∀ t ∈ L, t ∈ kidsL S.cords u P.head?) → (L.map (·.1)).Nodup → ∃ k, IsK S k u L ∧ k.names.Nodup ∧ ∀ x ∈ k.names, x ∉ u :: P ∧ ∃ v ∈ L.map (·.1), Conn (avoid S.cords (u :: P)) v x := by
      intro L
      induction L with
      | nil => intro _ _; exact ⟨.nil, rfl, List.nodup_nil, fun x hx => by cases hx⟩
      | cons t L ihL =>
        intro hL hLnd
        rw [List.map_cons, List.nodup_cons] at hLnd
        obtain ⟨k, k1, k2, k3⟩ := ihL (fun x hx => hL x (List.mem_cons_of_mem _ hx)) hLnd.2
        obtain ⟨ht, hne⟩ := kidsL_mem (hL t (List.mem_cons_self ..))
        have ha := tied_adj ht
        obtain ⟨c, hc, hcu, _⟩ := tied_mem ht
        obtain ⟨e1, e2, e3, _⟩ := T.ends c hc
        have huv : u ≠ t.1 := by rcases hcu with ⟨a, b⟩ | ⟨a, b⟩ <;> rw [a, b]; exact e3; exact fun z => e3 z.symm
        have hm : t.1 ∈ S.bals.map (·.1) := by rcases hcu with ⟨a, b⟩ | ⟨a, b⟩ <;> rw [b] <;> assumption
        have nb := no_back T.br hp nd ha huv hne
        obtain ⟨tr, i1, i2, i3, i4⟩ := ih t.1 (u :: P) ⟨ha.symm, hp⟩ (List.nodup_cons.mpr ⟨nb, nd⟩) (fun x hx => by
          rcases List.mem_cons.mp hx with rfl | hx
          · exact hm
          · exact hs x hx) (by rw [List.length_cons]; omega)
        refine ⟨.cons tr t.2 k, ⟨L, by rw [i2], i1, k1⟩, ?_, ?_⟩
        · show (tr.names ++ k.names).Nodup
          refine List.nodup_append.mpr ⟨i3, k2, fun x hx y hy e => ?_⟩
          subst e
          -- two ways to x
          obtain ⟨_, c1⟩ := i4 x hx
          obtain ⟨_, v, hv, c2⟩ := k3 x hy
          obtain ⟨t2, ht2, rfl⟩ := List.mem_map.mp hv
          have ne : t2.1 ≠ t.1 := fun z => hLnd.1 (by rw [← z]; exact hv)
          obtain ⟨A, B, e⟩ := List.append_of_mem hc
          have sub : ∀ d ∈ avoid S.cords (u :: P), d ∈ A ++ B := fun d hd => by
            obtain ⟨d1, d2⟩ := List.mem_filter.mp hd
            have d2 := of_decide_eq_true d2
            rw [e] at d1
            rcases List.mem_append.mp d1 with q | q
            · simp [q]
            · rcases List.mem_cons.mp q with q | q
              · subst q
                exfalso
                rcases hcu with ⟨a, b⟩ | ⟨a, b⟩
                · exact d2.1 (by rw [← a]; simp)
                · exact d2.2 (by rw [← a]; simp)
              · simp [q]
          obtain ⟨ht2', _⟩ := kidsL_mem (hL t2 (List.mem_cons_of_mem _ ht2))
          have adj2 : Adj (A ++ B) u t2.1 := by
            refine adj_without e (tied_adj ht2') ?_
            rintro (⟨z1, z2⟩ | ⟨z1, z2⟩)
            · rcases hcu with ⟨a, b⟩ | ⟨a, b⟩
              · exact ne (z2.trans b.symm)
              · exact e3 (by rw [← z1, ← a])
            · rcases hcu with ⟨a, b⟩ | ⟨a, b⟩
              · exact e3 (by rw [← z1, ← a])
              · exact ne (z2.trans b.symm)
          have cc : Conn (A ++ B) u t.1 := ((Conn.one adj2).trans (c2.mono sub)).trans (c1.mono sub).symm
          rcases hcu with ⟨a, b⟩ | ⟨a, b⟩
          · rw [a, b] at cc; exact T.br A c B e cc
          · rw [a, b] at cc; exact T.br A c B e cc.symm
        · intro x hx
          rcases List.mem_append.mp (show x ∈ tr.names ++ k.names from hx) with hx | hx
          · obtain ⟨c1, c2⟩ := i4 x hx
            exact ⟨c1, t.1, by simp, c2⟩
          · obtain ⟨c1, v, hv, c2⟩ := k3 x hx
            exact ⟨c1, v, by rw [List.map_cons]; exact List.mem_cons_of_mem _ hv, c2⟩
    obtain ⟨k, k1, k2, k3⟩ := kids (kidsL S.cords u P.head?) (fun t ht => ht) ((tied_nd T u).sublist (List.filter_sublist.map _))
    refine ⟨.node u o s k, ⟨hb, k1⟩, rfl, ?_, fun x hx => ?_⟩
    · show (u :: k.names).Nodup
      exact List.nodup_cons.mpr ⟨fun z => (k3 u z).1 (by simp), k2⟩
    · rcases List.mem_cons.mp (show x ∈ u :: k.names from hx) with rfl | hx
      · exact ⟨(List.nodup_cons.mp nd).1, .refl _⟩
      · obtain ⟨c1, v, hv, c2⟩ := k3 x hx
        have hxP : x ∉ P := fun z => c1 (List.mem_cons_of_mem _ z)
        refine ⟨hxP, ?_⟩
        obtain ⟨t, ht, rfl⟩ := List.mem_map.mp hv
        obtain ⟨ht, hne⟩ := kidsL_mem ht
        have ha := tied_adj ht
        obtain ⟨c, hc, hcu, _⟩ := tied_mem ht
        have huv : u ≠ t.1 := by rcases hcu with ⟨a, b⟩ | ⟨a, b⟩ <;> rw [a, b]; exact (T.ends c hc).2.2.1; exact fun z => (T.ends c hc).2.2.1 z.symm
        have nb := no_back T.br hp nd ha huv hne
        exact (Conn.one (avoid_adj ha (List.nodup_cons.mp nd).1 fun z => nb (List.mem_cons_of_mem _ z))).trans (c2.mono (avoid_mono fun y hy => List.mem_cons_of_mem _ hy))
end Td

/-! TdG3: pulls and heights over trees. -/
namespace Td
open PySem PySem.Spec PyProof.Rows L2

mutual
def Tree.size : Tree → Nat
  | .node _ _ _ k => 1 + k.size
def Kids.size : Kids → Nat
  | .nil => 0
  | .cons t _ r => t.size + r.size
end
mutual
theorem Tree.size_names : ∀ t : Tree, t.size = t.names.length
  | .node n o s k => by simp only [Tree.size, Tree.names, List.length_cons]; rw [Kids.size_names k]; omega
theorem Kids.size_names : ∀ k : Kids, k.size = k.names.length
  | .nil => rfl
  | .cons t l r => by simp only [Kids.size, Kids.names, List.length_append]; rw [Tree.size_names t, Kids.size_names r]
end
theorem Tree.size_pos (t : Tree) : 0 < t.size := by cases t; simp only [Tree.size]; omega
mutual
def pullsT : Tree → Pulls
  | .node _ o s k => pullsK (alone o s) k
def pullsK : Pulls → Kids → Pulls
  | P, .nil => P
  | P, .cons t l r => pullsK (both P (byCord (pullsT t) (l : Rat))) r
end
/-- where one rests by itself -/
def zT (t : Tree) : Rat := noughtOf (pullsT t)
mutual
def fnT : Tree → Fn
  | .node _ o s k => fnK (ownF o s) k
def fnK : Fn → Kids → Fn
  | F, .nil => F
  | F, .cons t l r => fnK (F.add (felt (fnT t) (zT t) (l : Rat))) r
end
mutual
theorem tp_tree {S : Show} (T : Tidy S) : ∀ (t : Tree) (a : Option Str), IsT S t a → TP t.size (fnT t) (pullsT t)
  | .node n o s k, a, h => by
    obtain ⟨h1, h2⟩ := h
    obtain ⟨b1, b2, b3⟩ := T.bal _ h1
    exact tp_kids T k n _ h2 (fun x hx => (tied_long T (kidsL_mem hx).1)) (by decide) (TP.alone ⟨b2, b3⟩ b1)
theorem tp_kids {S : Show} (T : Tidy S) : ∀ (k : Kids) (n : Str) (L : List (Str × Int)), IsK S k n L → (∀ x ∈ L, 0 ≤ x.2 ∧ x.2 ≤ 1000) → ∀ {m : Nat} {F : Fn} {P : Pulls}, 0 < m → TP m F P → TP (m + k.size) (fnK F k) (pullsK P k)
  | .nil, n, L, h, hl, m, F, P, hm, hp => hp
  | .cons t l r, n, L, h, hl, m, F, P, hm, hp => by
    obtain ⟨L', e, h1, h2⟩ := h
    subst e
    have ht := tp_tree T t (some n) h1
    have hlong := hl (t.name, l) (List.mem_cons_self ..)
    have step := hp.tie ht hm t.size_pos hlong
    have := tp_kids T r n L' h2 (fun x hx => hl x (List.mem_cons_of_mem _ hx)) (by omega : 0 < m + t.size) step
    show TP (m + (t.size + r.size)) _ _
    rw [← Nat.add_assoc]
    exact this
theorem tied_long {S : Show} (T : Tidy S) {n : Str} {x : Str × Int} (h : x ∈ tied S.cords n) : 0 ≤ x.2 ∧ x.2 ≤ 1000 := by
  obtain ⟨c, hc, _, e⟩ := tied_mem h
  rw [e]
  exact (T.ends c hc).2.2.2
end
mutual
theorem isT_names {S : Show} : ∀ (t : Tree) (a : Option Str), IsT S t a → ∀ x ∈ t.names, x ∈ S.bals.map (·.1)
  | .node n o s k, a, h, x, hx => by
    rcases List.mem_cons.mp (show x ∈ n :: k.names from hx) with rfl | hx
    · exact List.mem_map.mpr ⟨_, h.1, rfl⟩
    · exact isK_names k n _ h.2 x hx
theorem isK_names {S : Show} : ∀ (k : Kids) (n : Str) (L : List (Str × Int)), IsK S k n L → ∀ x ∈ k.names, x ∈ S.bals.map (·.1)
  | .nil, n, L, h, x, hx => by cases hx
  | .cons t l r, n, L, h, x, hx => by
    obtain ⟨L', e, h1, h2⟩ := h
    rcases List.mem_append.mp (show x ∈ t.names ++ r.names from hx) with hx | hx
    · exact isT_names t _ h1 x hx
    · exact isK_names r n L' h2 x hx
end
/-- a tree of a show, met as it should be -/
structure Good (S : Show) (t : Tree) (a : Option Str) : Prop where
  is : IsT S t a
  nd : t.names.Nodup
theorem Good.size {S : Show} (T : Tidy S) {t : Tree} {a : Option Str} (h : Good S t a) : t.size ≤ 8 := by
  rw [t.size_names]
  have := subset_len h.nd (isT_names t a h.is)
  rw [List.length_map] at this
  exact Nat.le_trans this T.few
theorem Good.tp {S : Show} (T : Tidy S) {t : Tree} {a : Option Str} (h : Good S t a) : TP t.size (fnT t) (pullsT t) := tp_tree T t a h.is
theorem Good.zero {S : Show} (T : Tidy S) {t : Tree} {a : Option Str} (h : Good S t a) : Zero (fnT t) (zT t) := (h.tp T).nought
theorem Good.zSm {S : Show} (T : Tidy S) {t : Tree} {a : Option Str} (h : Good S t a) : Sm 50 (zT t) := (h.tp T).noughtSm (by have := h.size T; omega)

/-! ### the tree of one -/
theorem avoid_nil (C : List Cord) : ∀ c ∈ avoid C [], c ∈ C := fun c h => avoid_sub h
theorem root_ex {S : Show} (T : Tidy S) {u : Str} (h : u ∈ S.bals.map (·.1)) : ∃ t, Good S t none ∧ t.name = u ∧ ∀ x ∈ t.names, Conn S.cords u x := by
  obtain ⟨t, h1, h2, h3, h4⟩ := tree_ex T 8 u [] trivial (by simp) (fun x hx => by rw [List.mem_singleton.mp hx]; exact h) (by have := T.few; simp; omega)
  exact ⟨t, ⟨h1, h3⟩, h2, fun x hx => (h4 x hx).2.mono (avoid_nil _)⟩
open Classical in
noncomputable def treeOf (S : Show) (u : Str) : Tree := if h : ∃ t, Good S t none ∧ t.name = u ∧ ∀ x ∈ t.names, Conn S.cords u x then choose h else .node u 0 0 .nil
theorem treeOf_ok {S : Show} (T : Tidy S) {u : Str} (h : u ∈ S.bals.map (·.1)) : Good S (treeOf S u) none ∧ (treeOf S u).name = u ∧ ∀ x ∈ (treeOf S u).names, Conn S.cords u x := by
  have e := root_ex T h
  unfold treeOf
  rw [dif_pos e]
  exact Classical.choose_spec e
/-- the kids are among those tied -/
theorem isK_mem {S : Show} : ∀ (k : Kids) (n : Str) (L : List (Str × Int)), IsK S k n L → ∀ x ∈ L, x.1 ∈ k.names
  | .nil, n, L, h, x, hx => by rw [show L = [] from h] at hx; cases hx
  | .cons t l r, n, L, h, x, hx => by
    obtain ⟨L', e, h1, h2⟩ := h
    subst e
    rcases List.mem_cons.mp hx with rfl | hx
    · exact List.mem_append_left _ t.name_mem
    · exact List.mem_append_right _ (isK_mem r n L' h2 x hx)
mutual
theorem isT_closed {S : Show} : ∀ (t : Tree) (a : Option Str), IsT S t a → ∀ y ∈ t.names, ∀ z, Adj S.cords y z → z ∈ t.names ∨ (some z = a ∧ y = t.name)
  | .node n o s k, a, h, y, hy, z, hz => by
    rcases List.mem_cons.mp (show y ∈ n :: k.names from hy) with rfl | hy
    · obtain ⟨l, hl⟩ := adj_tied hz
      by_cases e : some z = a
      · exact .inr ⟨e, rfl⟩
      · left
        have : (z, l) ∈ kidsL S.cords y a := List.mem_filter.mpr ⟨hl, by rw [decide_eq_false e]; rfl⟩
        exact List.mem_cons_of_mem _ (isK_mem k y _ h.2 _ this)
    · left
      rcases isK_closed k n _ h.2 y hy z hz with q | q
      · exact List.mem_cons_of_mem _ q
      · subst q; exact List.mem_cons_self ..
theorem isK_closed {S : Show} : ∀ (k : Kids) (n : Str) (L : List (Str × Int)), IsK S k n L → ∀ y ∈ k.names, ∀ z, Adj S.cords y z → z ∈ k.names ∨ z = n
  | .nil, n, L, h, y, hy, z, hz => by cases hy
  | .cons t l r, n, L, h, y, hy, z, hz => by
    obtain ⟨L', e, h1, h2⟩ := h
    rcases List.mem_append.mp (show y ∈ t.names ++ r.names from hy) with hy | hy
    · rcases isT_closed t _ h1 y hy z hz with q | ⟨q, _⟩
      · exact .inl (List.mem_append_left _ q)
      · exact .inr (Option.some.inj q)
    · rcases isK_closed r n L' h2 y hy z hz with q | q
      · exact .inl (List.mem_append_right _ q)
      · exact .inr q
end
theorem tree_all {S : Show} {t : Tree} (h : IsT S t none) {x y : Str} (hx : x ∈ t.names) (c : Conn S.cords x y) : y ∈ t.names := by
  induction c with
  | refl => exact hx
  | step _ a ih =>
    rcases isT_closed t none h _ ih _ a with q | ⟨q, _⟩
    · exact q
    · cases q

/-! ### heights -/
def nearest (h still l : Rat) : Rat := if still < h - l then h - l else if h + l < still then h + l else still
mutual
def hangT : Tree → Rat → List (Str × Rat)
  | .node n _ _ k, h => (n, h) :: hangK k h
def hangK : Kids → Rat → List (Str × Rat)
  | .nil, _ => []
  | .cons t l r, h => hangT t (nearest h (zT t) (l : Rat)) ++ hangK r h
end
mutual
theorem hangT_names : ∀ (t : Tree) (h : Rat), (hangT t h).map (·.1) = t.names
  | .node n _ _ k, h => by simp only [hangT, Tree.names, List.map_cons]; rw [hangK_names k h]
theorem hangK_names : ∀ (k : Kids) (h : Rat), (hangK k h).map (·.1) = k.names
  | .nil, _ => rfl
  | .cons t l r, h => by simp only [hangK, Kids.names, List.map_append]; rw [hangT_names t _, hangK_names r h]
end
abbrev Table := List (Str × Rat)
/-- one root after the other -/
noncomputable def hangAll (S : Show) : List Bal → Table → Table
  | [], tb => tb
  | b :: r, tb => hangAll S r (if b.1 ∈ tb.map (·.1) then tb else tb ++ hangT (treeOf S b.1) (zT (treeOf S b.1)))
noncomputable def tableOf (S : Show) : Table := hangAll S S.bals []
end Td

/-! TdR3: shows: readings, promises, what the defs do. -/
namespace Td
open PySem PySem.Spec PyProof.Rows L2

def j_is_name : JTS :=
  jRet (jAndV (jCB (jrIsi "str") (jCons (jVar 0) (jCons (jV (.ty "str")) (jNil)))) (jAndV (jChain (jrI fun i j => .bool (decide (i ≤ j))) (jrI fun i j => .bool (decide (i ≤ j))) (jC (.int 1)) (jCB jrLenS (jCons (jVar 0) (jNil))) (jC (.int 8))) (jCB jrAll (jCons (jLc (jiS (jVar 0)) (jName 1) (jYes) (jOp jrInS (jVar 1) (jC (.str "abcdefghijklmnopqrstuvwxyz"))) [1]) (jNil)))))
def j_is_own (T_is_whole : TJ) : JTS :=
  jRet (jCall T_is_whole (jCons (jVar 0) (jCons (jUn (jrU fun i => .int (-i)) (jC (.int 1000))) (jCons (jC (.int 1000)) (jNil)))))
def j_is_balloon (T_is_own T_is_whole T_is_name : TJ) : JTS :=
  jSeq (jIfS (jOr (jNot (jTest (jCB (jrIsi "tuple") (jCons (jVar 0) (jCons (jV (.ty "tuple")) (jNil)))))) (jOr (jTest (jOp (jrEq true) (jCB jrLen (jCons (jVar 0) (jNil))) (jC (.int 3)))) (jNot (jTest (jCall T_is_name (jCons (jOp jrIx (jVar 0) (jC (.int 0))) (jNil))))))) (jRet (jC (.bool false))) (jNext))
    (jRet (jAndV (jCall T_is_own (jCons (jOp jrIx (jVar 0) (jC (.int 1))) (jNil))) (jCall T_is_whole (jCons (jOp jrIx (jVar 0) (jC (.int 2))) (jCons (jC (.int 1)) (jCons (jC (.int 100)) (jNil)))))))
def j_is_cord (T_is_whole : TJ) : JTS :=
  jSeq (jIfS (jOr (jNot (jTest (jCB (jrIsi "tuple") (jCons (jVar 1) (jCons (jV (.ty "tuple")) (jNil)))))) (jOr (jTest (jOp (jrEq true) (jCB jrLen (jCons (jVar 1) (jNil))) (jC (.int 3)))) (jNot (jTest (jCB jrAll (jCons (jLc (jiT (jSlT (jVar 1) (jNoPart) (jPart (jC (.int 2))))) (jName 2) (jYes) (jCB (jrIsi "str") (jCons (jVar 2) (jCons (jV (.ty "str")) (jNil)))) [2]) (jNil))))))) (jRet (jC (.bool false))) (jNext))
    (jRet (jAndV (jOp (jrIn false) (jOp jrIx (jVar 1) (jC (.int 0))) (jVar 0)) (jAndV (jOp (jrIn false) (jOp jrIx (jVar 1) (jC (.int 1))) (jVar 0)) (jAndV (jOp (jrS fun i j => .bool (sLt i j)) (jOp jrIx (jVar 1) (jC (.int 0))) (jOp jrIx (jVar 1) (jC (.int 1)))) (jCall T_is_whole (jCons (jOp jrIx (jVar 1) (jC (.int 2))) (jCons (jC (.int 0)) (jCons (jC (.int 1000)) (jNil)))))))))
def j_are_rising : JTS :=
  jRet (jCB jrAll (jCons (jLc (jiR1 (jCons (jOp (jrI fun i j => .int (i - j)) (jCB jrLen (jCons (jVar 0) (jNil))) (jC (.int 1))) (jNil))) (jName 1) (jYes) (jOp jrLtD (jOp jrIx (jVar 0) (jVar 1)) (jOp jrIx (jVar 0) (jOp (jrI fun i j => .int (i + j)) (jVar 1) (jC (.int 1))))) [1]) (jNil)))
def j_makes_ring : JTS :=
  jSeq (jAsg (jDNew) (jName 1))
    (jSeq (jFor (jiT (jVar 0)) (jgTup 3 (jgCons (jName 2) (jgCons (jName 3) (jgCons (jName 4) (jgNil))))) (jSeq (jPar 5 6 (jCons (jDGet2 (jVar 1) (jVar 2) (jLstD (jCons (jVar 2) (jNil)))) (jCons (jDGet2 (jVar 1) (jVar 3) (jLstD (jCons (jVar 3) (jNil)))) (jNil))))
    (jSeq (jIfS (jTest (jOp (jrIn false) (jVar 2) (jVar 6))) (jRet (jC (.bool true))) (jNext))
    (jSeq (jAsg (jOp jrCat (jVar 5) (jVar 6)) (jName 7))
    (jFor (jiL (jVar 7)) (jName 8) (jDPut (jVar 1) (jVar 8) (jVar 7)))))))
    (jRet (jC (.bool false))))
def j_is_show (T_are_rising T_makes_ring T_is_cord T_is_balloon : TJ) : JTS :=
  jSeq (jIfS (jOr (jNot (jTest (jCB (jrIsi "tuple") (jCons (jVar 0) (jCons (jV (.ty "tuple")) (jNil)))))) (jOr (jTest (jOp (jrEq true) (jCB jrLen (jCons (jVar 0) (jNil))) (jC (.int 2)))) (jNot (jTest (jCB jrAll (jCons (jLc (jiT (jVar 0)) (jName 5) (jYes) (jCB (jrIsi "tuple") (jCons (jVar 5) (jCons (jV (.ty "tuple")) (jNil)))) [5]) (jNil))))))) (jRet (jC (.bool false))) (jNext))
    (jSeq (jAsg (jVar 0) (jgTup 2 (jgCons (jName 1) (jgCons (jName 2) (jgNil)))))
    (jSeq (jIfS (jOr (jNot (jTest (jChain (jrI fun i j => .bool (decide (i ≤ j))) (jrI fun i j => .bool (decide (i ≤ j))) (jC (.int 1)) (jCB jrLen (jCons (jVar 1) (jNil))) (jC (.int 8))))) (jNot (jTest (jCB jrAll (jCons (jLc (jiT (jVar 1)) (jName 4) (jYes) (jCall T_is_balloon (jCons (jVar 4) (jNil))) [4]) (jNil)))))) (jRet (jC (.bool false))) (jNext))
    (jSeq (jAsg (jLc (jiT (jVar 1)) (jName 4) (jYes) (jOp jrIx (jVar 4) (jC (.int 0))) [4]) (jName 3))
    (jSeq (jIfS (jOr (jNot (jTest (jCall T_are_rising (jCons (jVar 3) (jNil))))) (jNot (jTest (jCB jrAll (jCons (jLc (jiT (jVar 2)) (jName 6) (jYes) (jCall T_is_cord (jCons (jVar 3) (jCons (jVar 6) (jNil)))) [6]) (jNil)))))) (jRet (jC (.bool false))) (jNext))
    (jRet (jAndV (jCall T_are_rising (jCons (jVar 2) (jNil))) (jNotV (jCall T_makes_ring (jCons (jVar 2) (jNil))))))))))
def j_need_show (T_is_show : TJ) : JTS :=
  jIfS (jNot (jTest (jCall T_is_show (jCons (jVar 0) (jNil))))) (jNever) (jNext)
def j_tied_to : JTS :=
  jSeq (jAsg (jLstC (jNil)) (jName 2))
    (jSeq (jFor (jiT (jOp jrIx (jVar 0) (jC (.int 1)))) (jgTup 3 (jgCons (jName 3) (jgCons (jName 4) (jgCons (jName 5) (jgNil))))) (jIfS (jTest (jOp (jrIn false) (jVar 1) (jTup (jCons (jVar 3) (jCons (jVar 4) (jNil)))))) (jDrop (jBM isLst jrAppend (jVar 2) (jCons (jTup (jCons (jIf (jTest (jOp (jrEq false) (jVar 3) (jVar 1))) (jVar 4) (jVar 3)) (jCons (jVar 5) (jNil)))) (jNil)))) (jNext)))
    (jRet (jFz (jVar 2))))
/-! ### shows -/
def encBal (b : Bal) : PyData := .tuple [.str b.1, .int b.2.1, .int b.2.2]
def encCord (c : Cord) : PyData := .tuple [.str c.1, .str c.2.1, .int c.2.2]
def encShow (S : Show) : PyData := .tuple [.tuple (S.bals.map encBal), .tuple (S.cords.map encCord)]
/-- data of no great size -/
inductive Wide : PyData → Prop
  | non : Wide .none
  | bool (b : Bool) : Wide (.bool b)
  | int (i : Int) : Wide (.int i)
  | str (x : Str) : x.length ≤ 1000 → PyData.strOk x = true → Wide (.str x)
  | list (ds : List PyData) : ds.length ≤ 200 → (∀ d ∈ ds, Wide d) → Wide (.list ds)
  | tup (ds : List PyData) : ds.length ≤ 200 → (∀ d ∈ ds, Wide d) → Wide (.tuple ds)
def letters : Str := "abcdefghijklmnopqrstuvwxyz"
def nameB : PyData → Bool
  | .str x => decide ((1 : Int) ≤ x.length) && (decide ((x.length : Int) ≤ 8) && x.cps.toList.all fun c => decide (c ∈ letters.cps.toList))
  | _ => false
def balB : PyData → Bool
  | .tuple [n, o, s] => nameB n && (wholeD o (-1000) 1000 && wholeD s 1 100)
  | _ => false
def cordB (names : List Str) : PyData → Bool
  | .tuple [.str a, .str b, l] => decide (a ∈ names) && (decide (b ∈ names) && (sLt a b && wholeD l 0 1000))
  | _ => false
def Oks (names : List Str) : Prop := ∀ x ∈ names, PyData.strOk x = true
/-! ### promises -/
def T_is_name : TJ := fun xs M Φ _ => ∃ d, xs = [.d d] ∧ Wide d ∧ Φ (.d (.bool (nameB d))) M
def T_is_own : TJ := fun xs M Φ _ => ∃ d, xs = [.d d] ∧ Φ (.d (.bool (wholeD d (-1000) 1000))) M
def T_is_balloon : TJ := fun xs M Φ _ => ∃ d, xs = [.d d] ∧ Wide d ∧ Φ (.d (.bool (balB d))) M
def T_is_cord : TJ := fun xs M Φ _ => ∃ (names : List Str) (d : PyData), xs = [.d (.list (names.map .str)), .d d] ∧ (Oks names ∧ Wide d) ∧ Φ (.d (.bool (cordB names d))) M

/-! ### what the defs do -/
theorem allBl {bs : List Bool} {K : JK} {M : Mem} (h : K (.d (.bool (bs.all fun b => b))) M) : jrAll [.d (.list (bs.map .bool))] M K := by
  show (match allB (bs.map PyData.bool) with
    | some bs => K (.d (.bool (bs.all fun b => b))) M
    | none => False)
  rw [allB_of]; exact h
theorem r_is_name : ∀ xs M Φ Ψ, T_is_name xs M Φ Ψ → j_is_name { nx := fun _ M' => Φ (.d .none) M', rt := Φ, xr := Ψ } (jstart 2 xs) M := by
  rintro _ M Φ Ψ ⟨d, rfl, hw, h⟩
  refine ⟨rfl, ?_⟩
  rw [isi_str]
  cases hw with
  | non => exact h
  | bool _ => exact h
  | int _ => exact h
  | list _ _ _ => exact h
  | tup _ _ _ => exact h
  | str x hx _ =>
    have h : Φ (.d (.bool (decide ((1 : Int) ≤ x.length) && (decide ((x.length : Int) ≤ 8) && x.cps.toList.all fun c => decide (c ∈ letters.cps.toList))))) M := h
    refine ⟨Nat.le_trans hx (by decide), ?_⟩
    show selE (.d (.bool (decide ((1 : Int) ≤ x.length)))) _ _
    refine selE_dec (fun q => ?_) fun q => ?_
    · rw [decide_eq_true q] at h
      show selE (.d (.bool (decide ((x.length : Int) ≤ 8)))) _ _
      refine selE_dec (fun q2 => ?_) fun q2 => ?_
      · rw [decide_eq_true q2] at h
        refine ⟨?_, ?_⟩
        · show lenOk (signs x).length
          unfold signs
          rw [List.length_map, Array.length_toList]
          exact Nat.le_trans (show x.cps.size ≤ 1000 from hx) (by decide)
        · have : signs x = (x.cps.toList.map fun c => (PyData.str ⟨#[c]⟩)).map .d := by unfold signs; rw [List.map_map]; rfl
          show jAccF _ _ _ _ _ (signs x) [] M
          rw [this]
          refine accG1 (fun c => PyData.str ⟨#[c]⟩) (fun c => .bool (decide (c ∈ letters.cps.toList))) x.cps.toList (fun c _ K1 k1 => k1) ?_
          rw [fzs_d]
          dsimp only [jCons, jNil]
          have e : x.cps.toList.map (fun c => PyData.bool (decide (c ∈ letters.cps.toList))) = (x.cps.toList.map fun c => decide (c ∈ letters.cps.toList)).map .bool := by rw [List.map_map]; rfl
          rw [e]
          refine allBl ?_
          rw [List.all_map]
          exact h
      · rw [decide_eq_false q2] at h; exact h
    · rw [decide_eq_false q] at h; exact h
theorem r_is_own : ∀ xs M Φ Ψ, T_is_own xs M Φ Ψ → j_is_own T_is_whole { nx := fun _ M' => Φ (.d .none) M', rt := Φ, xr := Ψ } (jstart 1 xs) M := by
  rintro _ M Φ Ψ ⟨d, rfl, h⟩
  exact ⟨d, -1000, 1000, rfl, h⟩
theorem len3 {ds : List PyData} (h : (ds.length : Int) = 3) : ∃ x y z, ds = [x, y, z] := by
  match ds, h with
  | [x, y, z], _ => exact ⟨x, y, z, rfl⟩
  | [], h => simp at h
  | [_], h => simp at h
  | [_, _], h => simp at h
  | _ :: _ :: _ :: _ :: r, h => simp at h; omega
theorem len2 {ds : List PyData} (h : (ds.length : Int) = 2) : ∃ x y, ds = [x, y] := by
  match ds, h with
  | [x, y], _ => exact ⟨x, y, rfl⟩
  | [], h => simp at h
  | [_], h => simp at h
  | _ :: _ :: _ :: r, h => simp at h; omega
theorem r_is_balloon : ∀ xs M Φ Ψ, T_is_balloon xs M Φ Ψ → j_is_balloon T_is_own T_is_whole T_is_name { nx := fun _ M' => Φ (.d .none) M', rt := Φ, xr := Ψ } (jstart 1 xs) M := by
  rintro _ M Φ Ψ ⟨d, rfl, hw, h⟩
  refine ⟨rfl, ?_⟩
  rw [isi_tuple]
  cases hw with
  | non => exact h
  | bool _ => exact h
  | int _ => exact h
  | list _ _ _ => exact h
  | str _ _ _ => exact h
  | tup ds hl hd =>
    show sel (true ^^ decide ((ds.length : Int) = 3)) _ _
    refine sel_xdec (fun q => ?_) fun q => ?_
    · have : balB (.tuple ds) = false := by
        unfold balB
        split
        · rename_i e; cases e; exact (q rfl).elim
        · rfl
      rw [this] at h; exact h
    · obtain ⟨x, y, z, rfl⟩ := len3 q
      refine ⟨x, rfl, hd x (by simp), ?_⟩
      have h : Φ (.d (.bool (nameB x && (wholeD y (-1000) 1000 && wholeD z 1 100)))) M := h
      show sel (!nameB x) _ _
      refine sel_b (fun q => ?_) fun q => ?_
      · have : nameB x = false := by simpa using q
        rw [this] at h; exact h
      · have : nameB x = true := by simpa using q
        rw [this] at h
        refine ⟨y, rfl, ?_⟩
        show selE (.d (.bool (wholeD y (-1000) 1000))) _ _
        refine selE_b (fun q => ?_) fun q => ?_
        · rw [q] at h
          exact ⟨z, 1, 100, rfl, h⟩
        · rw [q] at h; exact h
theorem str_eq : EncEq PyData.str := ⟨fun a b => by simp [PyData.eqv]⟩
theorem str_shp {n : Nat} {x : Str} (h : PyData.strOk x = true) : Shp n (.str x) := ⟨by simp only [PyData.canLay0]; exact h, by simp [PyData.depth]⟩
theorem names_shp {names : List Str} (h : Oks names) : Shp 1 (.list (names.map .str)) := Shp.list (n := 0) fun d hd => by
  obtain ⟨x, hx, rfl⟩ := List.mem_map.mp hd
  exact str_shp (h x hx)
theorem Wide.ok {x : Str} (h : Wide (.str x)) : PyData.strOk x = true := by cases h; assumption
def isS : PyData → Bool
  | .str _ => true
  | _ => false
theorem r_is_cord : ∀ xs M Φ Ψ, T_is_cord xs M Φ Ψ → j_is_cord T_is_whole { nx := fun _ M' => Φ (.d .none) M', rt := Φ, xr := Ψ } (jstart 3 xs) M := by
  rintro _ M Φ Ψ ⟨names, d, rfl, ⟨hn, hw⟩, h⟩
  refine ⟨rfl, ?_⟩
  rw [isi_tuple]
  cases hw with
  | non => exact h
  | bool _ => exact h
  | int _ => exact h
  | list _ _ _ => exact h
  | str _ _ _ => exact h
  | tup ds hl hd =>
    show sel (true ^^ decide ((ds.length : Int) = 3)) _ _
    refine sel_xdec (fun q => ?_) fun q => ?_
    · have : cordB names (.tuple ds) = false := by
        unfold cordB
        split
        · rename_i e; cases e; exact (q rfl).elim
        · rfl
      rw [this] at h; exact h
    · obtain ⟨x, y, z, rfl⟩ := len3 q
      refine ⟨(by show 2 ≤ 1000000; decide), ?_⟩
      refine accG1 (α := PyData) id (fun d => .bool (isS d)) [x, y] (fun a _ K1 k1 => ?_) ?_
      · refine ⟨rfl, ?_⟩
        rw [isi_str]
        cases a <;> exact k1
      rw [fzs_d]
      show sel (!(isS x && (isS y && true))) _ _
      refine sel_b (fun q => ?_) fun q => ?_
      · have : cordB names (.tuple [x, y, z]) = false := by
          cases x <;> cases y <;> first | rfl | (simp [isS] at q)
        rw [this] at h; exact h
      · obtain ⟨a, b, rfl, rfl⟩ : ∃ a b, x = .str a ∧ y = .str b := by
          cases x <;> cases y <;> first | exact ⟨_, _, rfl, rfl⟩ | (simp [isS] at q)
        have oa := (hd _ (by simp : PyData.str a ∈ _)).ok
        have ob := (hd _ (by simp : PyData.str b ∈ _)).ok
        have h : Φ (.d (.bool (decide (a ∈ names) && (decide (b ∈ names) && (sLt a b && wholeD z 0 1000))))) M := h
        refine ⟨⟨(str_shp oa).ok (n := 0) (by decide), (names_shp hn).ok (by decide)⟩, ?_⟩
        rw [str_eq.any, xor_f]
        show selE (.d (.bool (decide (a ∈ names)))) _ _
        refine selE_dec (fun q => ?_) fun q => ?_
        · rw [decide_eq_true q] at h
          refine ⟨⟨(str_shp ob).ok (n := 0) (by decide), (names_shp hn).ok (by decide)⟩, ?_⟩
          rw [str_eq.any, xor_f]
          show selE (.d (.bool (decide (b ∈ names)))) _ _
          refine selE_dec (fun q => ?_) fun q => ?_
          · rw [decide_eq_true q] at h
            show selE (.d (.bool (sLt a b))) _ _
            refine selE_b (fun q => ?_) fun q => ?_
            · rw [q] at h
              exact ⟨z, 0, 1000, rfl, h⟩
            · rw [q] at h; exact h
          · rw [decide_eq_false q] at h; exact h
        · rw [decide_eq_false q] at h; exact h
/-! ### rising -/
def risingB : List PyData → Bool
  | x :: y :: r => PySem.W.dataLt x y && risingB (y :: r)
  | _ => true
def T_are_rising : TJ := fun xs M Φ _ => ∃ ds : List PyData, (xs = [.d (.list ds)] ∨ xs = [.d (.tuple ds)]) ∧ (ds.length ≤ 1000 ∧ ∀ d ∈ ds, (∀ e ∈ ds, PySem.W.alike d e = true) ∧ d ≠ .none ∧ d.depth ≤ 60) ∧ Φ (.d (.bool (risingB ds))) M
theorem rising_range : ∀ (ds : List PyData), ((List.range (ds.length - 1)).all fun i => match ds[i]?, ds[i + 1]? with
    | some x, some y => PySem.W.dataLt x y
    | _, _ => true) = risingB ds
  | [] => rfl
  | [x] => rfl
  | x :: y :: r => by
    have ih := rising_range (y :: r)
    show ((List.range (r.length + 1)).all _) = (PySem.W.dataLt x y && risingB (y :: r))
    rw [List.range_succ_eq_map, List.all_cons, List.all_map, ← ih]
    rfl
theorem ixL {ds : List PyData} {i : Nat} {d : PyData} {M : Mem} {Φ : JK} (h : ds[i]? = some d) (q : Φ (.d d) M) : jrIx (.d (.list ds)) (.d (.int (i : Int))) M Φ := by
  show (match atI (ds.map EV.d) (i : Int) with
    | some e => Φ e M
    | none => False)
  rw [atI_nat (z := .d d) (by rw [List.getElem?_map, h]; rfl)]
  exact q
theorem ixT {ds : List PyData} {i : Nat} {d : PyData} {M : Mem} {Φ : JK} (h : ds[i]? = some d) (q : Φ (.d d) M) : jrIx (.d (.tuple ds)) (.d (.int (i : Int))) M Φ := by
  show (match atI ds (i : Int) with
    | some d => Φ (.d d) M
    | none => False)
  rw [atI_nat h]
  exact q
theorem range_ints (n : Nat) : rangeD 0 n = ((List.range n).map fun (i : Nat) => PyData.int (i : Int)).map .d := by
  unfold rangeD
  rw [List.map_map]
  refine List.map_congr_left fun i _ => ?_
  show EV.d (.int ((0 : Int) + (i : Nat))) = EV.d (.int (i : Nat))
  rw [Int.zero_add]
theorem r_are_rising : ∀ xs M Φ Ψ, T_are_rising xs M Φ Ψ → j_are_rising { nx := fun _ M' => Φ (.d .none) M', rt := Φ, xr := Ψ } (jstart 2 xs) M := by
  rintro _ M Φ Ψ ⟨ds, hx, ⟨hl, hd⟩, h⟩
  have toN : ((ds.length : Int) - 1).toNat = ds.length - 1 := by omega
  have go : ∀ (x : EV), (∀ (K : JK) i d, ds[i]? = some d → K (.d d) M → jrIx x (.d (.int ((i : Nat) : Int))) M K) → ∀ i ∈ List.range (ds.length - 1), ∀ K1 : JK, K1 (.d (.bool (match ds[i]?, ds[i + 1]? with
    | some x, some y => PySem.W.dataLt x y
    | _, _ => true))) M → jOp jrLtD (jOp jrIx (jVar 0) (jVar 1)) (jOp jrIx (jVar 0) (jOp (jrI fun i j => .int (i + j)) (jVar 1) (jC (.int 1)))) [some x, some (.d (.int (i : Int)))] M K1 := by
    intro x ix i hi K1 k1
    rw [List.mem_range] at hi
    obtain ⟨a, ha⟩ : ∃ a, ds[i]? = some a := ⟨_, List.getElem?_eq_getElem (by omega)⟩
    obtain ⟨b, hb⟩ : ∃ b, ds[i + 1]? = some b := ⟨_, List.getElem?_eq_getElem (by omega)⟩
    rw [ha, hb] at k1
    dsimp only [jOp, jVar, look, jrI, jC]
    refine ix _ i a ha ?_
    have e : ((i : Int) + 1) = ((i + 1 : Nat) : Int) := by omega
    rw [e]
    refine ix _ (i + 1) b hb ?_
    have h1 := hd a (List.mem_of_getElem? ha)
    exact ⟨⟨h1.1 b (List.mem_of_getElem? hb), h1.2.1, h1.2.2⟩, k1⟩
  have fin : Φ (.d (.bool (((List.range (ds.length - 1)).map fun i => match ds[i]?, ds[i + 1]? with
    | some x, some y => PySem.W.dataLt x y
    | _, _ => true).all fun b => b))) M := by
    rw [List.all_map]
    have := rising_range ds
    rw [← this] at h
    exact h
  have bound : -(2 ^ 62) ≤ (ds.length : Int) - 1 ∧ (ds.length : Int) - 1 < 2 ^ 62 := by
    have : (2 : Int) ^ 62 = 4611686018427387904 := by decide
    omega
  have last : ∀ x : EV, (∀ (K : JK) i d, ds[i]? = some d → K (.d d) M → jrIx x (.d (.int ((i : Nat) : Int))) M K) → (lenOk (Src.items (.fixed (rangeD 0 ((ds.length : Int) - 1).toNat))).length ∧
      jAccF (jName 1) jYes (jOp jrLtD (jOp jrIx (jVar 0) (jVar 1)) (jOp jrIx (jVar 0) (jOp (jrI fun i j => .int (i + j)) (jVar 1) (jC (.int 1))))) [some x, none] (fun acc M2 => match fzs acc M2 with
      | some (ds, M3) => jNil [some x, none] M3 fun xs M4 => jrAll (.d (.list ds) :: xs) M4 Φ
      | none => False) (rangeD 0 ((ds.length : Int) - 1).toNat) [] M) := by
    intro x ix
    rw [toN]
    refine ⟨?_, ?_⟩
    · show lenOk (rangeD 0 (ds.length - 1)).length
      rw [range_ints, List.length_map, List.length_map, List.length_range]
      show _ ≤ 1000000
      omega
    · rw [range_ints]
      refine accG1 (fun i : Nat => PyData.int (i : Int)) (fun i => .bool (match ds[i]?, ds[i + 1]? with
        | some x, some y => PySem.W.dataLt x y
        | _, _ => true)) (List.range (ds.length - 1)) ?_ ?_
      · exact fun i hi K1 k1 => go x ix i hi K1 k1
      rw [fzs_d]
      dsimp only [jNil]
      have e : (List.range (ds.length - 1)).map (fun i => PyData.bool (match ds[i]?, ds[i + 1]? with
        | some x, some y => PySem.W.dataLt x y
        | _, _ => true)) = ((List.range (ds.length - 1)).map fun i => match ds[i]?, ds[i + 1]? with
        | some x, some y => PySem.W.dataLt x y
        | _, _ => true).map .bool := by rw [List.map_map]; rfl
      rw [e]
      exact allBl fin
  rcases hx with rfl | rfl
  · have e : ((ds.map EV.d).length : Int) = ds.length := by rw [List.length_map]
    have l := last (.d (.list ds)) fun K i d h k => ixL h k
    rw [← e] at l bound
    exact ⟨bound, l⟩
  · exact ⟨bound, last (.d (.tuple ds)) fun K i d h k => ixT h k⟩
/-! ### rings -/
theorem valE_none {κ : Type} [DecidableEq κ] : ∀ {kvs : List (κ × EV)} {k : κ}, (kvs.any fun kv => decide (kv.1 = k)) = false → valE kvs k = none
  | [], k, _ => rfl
  | p :: r, k, h => by
    rw [List.any_cons, Bool.or_eq_false_iff] at h
    rw [valE_cons, if_neg (of_decide_eq_false h.1)]
    exact valE_none h.2
theorem valE_snoc {κ : Type} [DecidableEq κ] : ∀ {kvs : List (κ × EV)} {k j : κ} {z : EV}, valE kvs k = none → valE (kvs ++ [(k, z)]) j = if j = k then some z else valE kvs j
  | [], k, j, z, _ => by
    show valE [(k, z)] j = _
    rw [valE_cons]
    by_cases e : k = j
    · subst e; rw [if_pos rfl]
    · rw [if_neg e, if_neg (fun q => e q.symm)]
  | p :: r, k, j, z, h => by
    rw [valE_cons] at h
    by_cases e : p.1 = k
    · rw [if_pos e] at h; cases h
    · rw [if_neg e] at h
      rw [List.cons_append, valE_cons, valE_cons, valE_snoc h]
      by_cases ej : p.1 = j
      · rw [if_pos ej, if_pos ej, if_neg (fun q => e (ej.trans q))]
      · rw [if_neg ej, if_neg ej]
theorem valE_repl {κ : Type} [DecidableEq κ] (k j : κ) (z : EV) : ∀ kvs : List (κ × EV), (kvs.any fun kv => decide (kv.1 = k)) = true → valE (kvs.map fun kv => if kv.1 = k then (kv.1, z) else kv) j = if j = k then some z else valE kvs j
  | [], h => by cases h
  | p :: r, h => by
    rw [List.map_cons, valE_cons, valE_cons]
    by_cases e : p.1 = k
    · rw [if_pos e]
      by_cases ej : p.1 = j
      · rw [if_pos ej, if_pos (ej.symm.trans e)]
      · rw [if_neg ej, if_neg ej, if_neg (fun q => ej (e.trans q.symm))]
        cases ha : (r.any fun kv => decide (kv.1 = k)) with
        | true =>
          rw [valE_repl k j z r ha, if_neg (fun q => ej (e.trans q.symm))]
        | false =>
          have : (r.map fun kv => if kv.1 = k then (kv.1, z) else kv) = r := by
            conv => rhs; rw [← List.map_id r]
            refine List.map_congr_left fun q hq => ?_
            have := List.any_eq_false.mp ha q hq
            rw [if_neg (by simpa using this)]; rfl
          rw [this]
    · rw [if_neg e]
      rw [List.any_cons, decide_eq_false e, Bool.false_or] at h
      by_cases ej : p.1 = j
      · rw [if_pos ej, if_pos ej, if_neg (fun q => e (ej.trans q))]
      · rw [if_neg ej, if_neg ej, valE_repl k j z r h]
theorem valE_put {κ : Type} [DecidableEq κ] (kvs : List (κ × EV)) (k j : κ) (z : EV) : valE (putE kvs k z) j = if j = k then some z else valE kvs j := by
  unfold putE
  cases e : (kvs.any fun kv => decide (kv.1 = k)) with
  | true => rw [if_pos rfl]; exact valE_repl k j z kvs e
  | false => rw [if_neg Bool.false_ne_true]; exact valE_snoc (valE_none e)
theorem putE_len {κ : Type} [DecidableEq κ] (kvs : List (κ × EV)) (k : κ) (z : EV) : (putE kvs k z).length ≤ kvs.length + 1 := by
  unfold putE
  split
  · rw [List.length_map]; omega
  · rw [List.length_append]; simp
theorem putE_new {κ : Type} [DecidableEq κ] {kvs : List (κ × EV)} {k : κ} (z : EV) (h : valE kvs k = none) : putE kvs k z = kvs ++ [(k, z)] := by
  unfold putE
  cases e : (kvs.any fun kv => decide (kv.1 = k)) with
  | false => rw [if_neg Bool.false_ne_true]
  | true =>
    exfalso
    obtain ⟨p, hp, hk⟩ := List.any_eq_true.mp e
    have hk := of_decide_eq_true hk
    clear e
    induction kvs with
    | nil => cases hp
    | cons q r ih =>
      rw [valE_cons] at h
      by_cases eq : q.1 = k
      · rw [if_pos eq] at h; cases h
      · rw [if_neg eq] at h
        rcases List.mem_cons.mp hp with rfl | hp
        · exact eq hk
        · exact ih h hp
/-- reading a dict at a text -/
theorem dGet_str {M : Mem} {p : Addr} {kvs : List (Key × EV)} {x : Str} (h : M p = some (.dic kvs)) : dGetE M (.v (.ref p)) (.str x) = some (valE kvs (.inr x)) := by
  unfold dGetE; simp [h, keyD]
theorem dPut_str {M : Mem} {p : Addr} {kvs : List (Key × EV)} {x : Str} {z : EV} (h : M p = some (.dic kvs)) : dPutE M (.v (.ref p)) (.str x) z = some (M.set p (.dic (putE kvs (.inr x) z))) := by
  unfold dPutE; simp [h, keyD]
theorem dLen_at {M : Mem} {p : Addr} {kvs : List (Key × EV)} (h : M p = some (.dic kvs)) : dLen M (.v (.ref p)) = kvs.length := by
  unfold dLen; simp [h]
theorem isDic_at {M : Mem} {p : Addr} {kvs : List (Key × EV)} (h : M p = some (.dic kvs)) : isDic (.v (.ref p)) M := by
  unfold isDic; simp [h]
open Classical in
noncomputable def ringB (C : List Cord) : Bool := decide (Ring C)
open Classical in
theorem ringB_t {C : List Cord} (h : Ring C) : ringB C = true := by unfold ringB; exact decide_eq_true h
open Classical in
theorem ringB_f {C : List Cord} (h : ¬ Ring C) : ringB C = false := by unfold ringB; exact decide_eq_false h
theorem ringB_iff {C : List Cord} : ringB C = true ↔ Ring C := ⟨fun h => Classical.byContradiction fun z => absurd h (by rw [ringB_f z]; decide), ringB_t⟩
def endsOf (C : List Cord) : List Str := C.map (·.1) ++ C.map (·.2.1)
noncomputable def T_makes_ring : TJ := fun xs M Φ _ => ∃ C : List Cord, xs = [.d (.tuple (C.map encCord))] ∧ (C.length ≤ 200 ∧ Oks (endsOf C)) ∧ Φ (.d (.bool (ringB C))) M
theorem conn_ends {E : List Cord} {x y : Str} (h : Conn E x y) : y = x ∨ y ∈ endsOf E := by
  cases h with
  | refl => exact .inl rfl
  | step _ a =>
    right
    obtain ⟨l, a⟩ := a
    unfold endsOf
    rcases a with a | a
    · exact List.mem_append_right _ (List.mem_map.mpr ⟨_, a, rfl⟩)
    · exact List.mem_append_left _ (List.mem_map.mpr ⟨_, a, rfl⟩)
/-- what the groups hold behind some cords -/
structure Grp (A : List Cord) (kvs : List (Key × EV)) (g : Str → List Str) : Prop where
  val : ∀ s, (valE kvs (.inr s) = none ∧ g s = [s]) ∨ valE kvs (.inr s) = some (.d (.list ((g s).map .str)))
  conn : ∀ s t, t ∈ g s ↔ Conn A s t
  nd : ∀ s, (g s).Nodup
  len : kvs.length ≤ A.length * 802
  no : ¬ Ring A
theorem Grp.few {A : List Cord} {kvs : List (Key × EV)} {g : Str → List Str} (G : Grp A kvs g) (s : Str) : (g s).length ≤ 2 * A.length + 1 := by
  have := subset_len (l := g s) (m := s :: endsOf A) (G.nd s) fun x hx => by
    rcases conn_ends ((G.conn s x).mp hx) with rfl | h
    · simp
    · exact List.mem_cons_of_mem _ h
  unfold endsOf at this
  simp at this
  omega
theorem Grp.getD {A : List Cord} {kvs : List (Key × EV)} {g : Str → List Str} (G : Grp A kvs g) (s : Str) : (valE kvs (.inr s)).getD (.d (.list [.str s])) = .d (.list ((g s).map .str)) := by
  rcases G.val s with ⟨h1, h2⟩ | h
  · rw [h1, h2]; rfl
  · rw [h]; rfl
theorem Oks.sub {a b : List Str} (h : Oks b) (s : ∀ x ∈ a, x ∈ b) : Oks a := fun x hx => h x (s x hx)
theorem r_makes_ring : ∀ xs M Φ Ψ, T_makes_ring xs M Φ Ψ → j_makes_ring { nx := fun _ M' => Dr Φ (.d .none) M', rt := Dr Φ, xr := DrX Ψ } (jstart 9 xs) M := by
  rintro _ M Φ Ψ ⟨C, rfl, ⟨hl, ho⟩, hp⟩
  intro p hp0
  refine loopF encCord (fun rest ρ M' => ∃ A kvs g, A ++ rest = C ∧ M' = M.set p (.dic kvs) ∧ Grp A kvs g ∧
    ∃ x0 x2 x3 x4 x5 x6 x7 x8, ρ = [x0, some (.v (.ref p)), x2, x3, x4, x5, x6, x7, x8]) ?_ ?_ C _ _ ⟨[], [], fun s => [s], rfl, rfl, ⟨fun s => .inl ⟨rfl, rfl⟩, fun s t => ?_, fun s => by simp, by simp, ?_⟩, _, _, _, _, _, _, _, _, rfl⟩
  · rintro ρ M' ⟨A, kvs, g, e, rfl, G, x0, x2, x3, x4, x5, x6, x7, x8, rfl⟩
    rw [List.append_nil] at e
    subst e
    have : ringB A = false := ringB_f G.no
    rw [this] at hp
    exact Dr.set hp0 hp
  · rintro c rest ρ M' ⟨A, kvs, g, e, rfl, G, x0, x2, x3, x4, x5, x6, x7, x8, rfl⟩ N hN
    obtain ⟨a, b, l⟩ := c
    have hcell : (M.set p (.dic kvs)) p = some (.dic kvs) := Mem.set_same
    have hA : A.length + 1 ≤ 200 := by
      have := congrArg List.length e
      rw [List.length_append, List.length_cons] at this; omega
    have oks : ∀ s, s ∈ endsOf C → Oks (g s) := fun s hs x hx => by
      rcases conn_ends ((G.conn s x).mp hx) with rfl | h
      · exact ho _ hs
      · refine ho x ?_
        unfold endsOf at h ⊢
        rw [← e]
        simp only [List.map_append, List.mem_append] at h ⊢
        rcases h with h | h
        · exact .inl (.inl h)
        · exact .inr (.inl h)
    have ma : a ∈ endsOf C := by unfold endsOf; rw [← e]; simp
    have mb : b ∈ endsOf C := by unfold endsOf; rw [← e]; simp
    refine ⟨isDic_at hcell, ?_⟩
    show (match dGetE (M.set p (.dic kvs)) (.v (.ref p)) (.str a) with
      | some o => _
      | _ => False)
    rw [dGet_str hcell]
    refine ⟨isDic_at hcell, ?_⟩
    show (match dGetE (M.set p (.dic kvs)) (.v (.ref p)) (.str b) with
      | some o => _
      | _ => False)
    rw [dGet_str hcell]
    have step : ∀ X Y : EV, X = .d (.list ((g a).map .str)) → Y = .d (.list ((g b).map .str)) →
        jSeq (jIfS (jTest (jOp (jrIn false) (jVar 2) (jVar 6))) (jRet (jC (.bool true))) (jNext))
          (jSeq (jAsg (jOp jrCat (jVar 5) (jVar 6)) (jName 7)) (jFor (jiL (jVar 7)) (jName 8) (jDPut (jVar 1) (jVar 8) (jVar 7))))
          { nx := N, rt := Dr Φ, bk := fun ρ M => jRet (jC (.bool false)) { nx := fun _ M' => Dr Φ (.d .none) M', rt := Dr Φ, xr := DrX Ψ } ρ M, ct := N, xr := DrX Ψ }
          [x0, some (.v (.ref p)), some (.d (.str a)), some (.d (.str b)), some (.d (.int l)), some X, some Y, x7, x8] (M.set p (.dic kvs)) := by
      rintro _ _ rfl rfl
      refine ⟨⟨(str_shp (ho a ma)).ok (n := 0) (by decide), (names_shp (oks b mb)).ok (by decide)⟩, ?_⟩
      rw [str_eq.any, xor_f]
      show sel (decide (a ∈ g b)) _ _
      refine sel_dec (fun q => ?_) fun q => ?_
      · have hr : Ring C := ⟨A, (a, b, l), rest, e.symm, ((G.conn b a).mp q).symm⟩
        have : ringB C = true := ringB_t hr
        rw [this] at hp
        exact Dr.set hp0 hp
      · have nc : ¬ Conn A a b := fun z => q ((G.conn b a).mpr z.symm)
        have ecat : allD (((g a).map PyData.str).map EV.d ++ ((g b).map PyData.str).map EV.d) = some ((g a ++ g b).map .str) := by
          rw [← List.map_append, allD_of, List.map_append]
        have fa := G.few a
        have fb := G.few b
        show (match allD (((g a).map PyData.str).map EV.d ++ ((g b).map PyData.str).map EV.d) with
          | some ds => _
          | none => False)
        rw [ecat]
        refine ⟨?_, ?_⟩
        · show _ ≤ 1000000
          simp only [List.length_append, List.length_map]; omega
        refine loopF PyData.str (fun names ρ M' => ∃ done kvs', done ++ names = g a ++ g b ∧ M' = M.set p (.dic kvs') ∧ (∀ s, valE kvs' (.inr s) = if s ∈ done then some (.d (.list ((g a ++ g b).map .str))) else valE kvs (.inr s)) ∧ kvs'.length ≤ kvs.length + done.length ∧
          ∃ y8, ρ = [x0, some (.v (.ref p)), some (.d (.str a)), some (.d (.str b)), some (.d (.int l)), some (.d (.list ((g a).map .str))), some (.d (.list ((g b).map .str))), some (.d (.list ((g a ++ g b).map .str))), y8]) ?_ ?_ (g a ++ g b) _ _ ⟨[], kvs, rfl, rfl, fun s => by simp, by simp, _, rfl⟩
        · rintro ρ M' ⟨done, kvs', e1, rfl, e2, e3, y8, rfl⟩
          rw [List.append_nil] at e1
          subst e1
          refine hN _ _ ⟨A ++ [(a, b, l)], kvs', fun s => if s ∈ g a ++ g b then g a ++ g b else g s, by rw [← e]; simp, rfl, ⟨fun s => ?_, fun s t => ?_, fun s => ?_, ?_, ?_⟩, _, _, _, _, _, _, _, _, rfl⟩
          · rw [e2 s]
            by_cases m : s ∈ g a ++ g b
            · rw [if_pos m, if_pos m]; exact .inr rfl
            · rw [if_neg m, if_neg m]; exact G.val s
          · rw [conn_snoc]
            have mem : ∀ z, z ∈ g a ++ g b ↔ Conn A a z ∨ Conn A b z := fun z => by rw [List.mem_append, G.conn, G.conn]
            by_cases m : s ∈ g a ++ g b
            · rw [if_pos m, mem]
              rcases (mem s).mp m with h | h
              · constructor
                · rintro (h2 | h2)
                  · exact .inl (h.symm.trans h2)
                  · exact .inr (.inl ⟨h.symm, h2⟩)
                · rintro (h2 | ⟨_, h3⟩ | ⟨_, h3⟩)
                  · exact .inl (h.trans h2)
                  · exact .inr h3
                  · exact .inl h3
              · constructor
                · rintro (h2 | h2)
                  · exact .inr (.inr ⟨h.symm, h2⟩)
                  · exact .inl (h.symm.trans h2)
                · rintro (h2 | ⟨_, h3⟩ | ⟨_, h3⟩)
                  · exact .inr (h.trans h2)
                  · exact .inr h3
                  · exact .inl h3
            · rw [if_neg m, G.conn]
              refine ⟨.inl, ?_⟩
              rintro (h2 | ⟨h2, _⟩ | ⟨h2, _⟩)
              · exact h2
              · exact (m ((mem s).mpr (.inl h2.symm))).elim
              · exact (m ((mem s).mpr (.inr h2.symm))).elim
          · by_cases m : s ∈ g a ++ g b
            · rw [if_pos m]
              refine List.nodup_append.mpr ⟨G.nd a, G.nd b, fun x hx y hy exy => ?_⟩
              subst exy
              exact nc (((G.conn a x).mp hx).trans ((G.conn b x).mp hy).symm)
            · rw [if_neg m]; exact G.nd s
          · have := G.len
            rw [List.length_append] at e3 ⊢
            simp only [List.length_singleton]
            omega
          · rintro ⟨A1, c1, B1, e4, z⟩
            rcases List.eq_nil_or_concat B1 with rfl | ⟨B2, d, rfl⟩
            · obtain ⟨e5, e6⟩ := List.append_inj' e4 rfl
              have e6 : (a, b, l) = c1 := (List.cons.inj e6).1
              subst e5
              subst e6
              exact nc z
            · have e4' : A ++ [(a, b, l)] = (A1 ++ c1 :: B2) ++ [d] := by rw [e4]; simp
              obtain ⟨e5, _⟩ := List.append_inj' e4' rfl
              exact G.no ⟨A1, c1, B2, e5, z⟩
        · rintro x names ρ M' ⟨done, kvs', e1, rfl, e2, e3, y8, rfl⟩ N2 hN2
          have hc2 : (M.set p (.dic kvs')) p = some (.dic kvs') := Mem.set_same
          have dl : done.length ≤ 802 := by
            have := congrArg List.length e1
            rw [List.length_append, List.length_append] at this; omega
          show (match dPutE (M.set p (.dic kvs')) (.v (.ref p)) (.str x) (.d (.list ((g a ++ g b).map .str))) with
            | some M4 => _
            | none => False)
          rw [dPut_str hc2]
          refine ⟨?_, hN2 _ _ ⟨done ++ [x], putE kvs' (.inr x) (.d (.list ((g a ++ g b).map .str))), by rw [← e1]; simp, by rw [Mem.set_set], fun s => ?_, ?_, _, rfl⟩⟩
          · rw [dLen_at hc2]
            show _ ≤ 1000000
            have := G.len
            have : A.length * 802 ≤ 200 * 802 := Nat.mul_le_mul_right _ (by omega)
            omega
          · rw [valE_put, e2 s]
            by_cases es : s = x
            · subst es; simp
            · have : ¬ (Sum.inr s : Key) = .inr x := fun z => es (Sum.inr.inj z)
              rw [if_neg this]
              simp [es]
          · have := putE_len kvs' (.inr x) (.d (.list ((g a ++ g b).map .str)))
            rw [List.length_append]
            simp only [List.length_singleton]
            omega
    exact step _ _ (G.getD a) (G.getD b)
  · simp only [List.mem_singleton]
    constructor
    · rintro rfl; exact .refl _
    · intro h
      cases h with
      | refl => rfl
      | step _ a => obtain ⟨l, a⟩ := a; simp at a
  · rintro ⟨A, c, B, e, _⟩
    have := congrArg List.length e
    simp at this
/-! ### what a show is -/
def nameOf : PyData → Str
  | .tuple (.str n :: _) => n
  | _ => ""
def cordOf : PyData → Cord
  | .tuple [.str a, .str b, .int l] => (a, b, l)
  | _ => ("", "", 0)
noncomputable def showB : PyData → Bool
  | .tuple [.tuple bs, .tuple cs] => decide ((1 : Int) ≤ bs.length) && (decide ((bs.length : Int) ≤ 8) && (bs.all balB && (risingB ((bs.map nameOf).map .str) && (cs.all (cordB (bs.map nameOf)) && (risingB cs && !ringB (cs.map cordOf))))))
  | _ => false
noncomputable def T_is_show : TJ := fun xs M Φ _ => ∃ d, xs = [.d d] ∧ Wide d ∧ Φ (.d (.bool (showB d))) M
theorem whole_int {d : PyData} {lo hi : Int} (h : wholeD d lo hi = true) : ∃ i, d = .int i ∧ lo ≤ i ∧ i ≤ hi := by
  unfold wholeD at h
  split at h
  · rw [Bool.and_eq_true] at h
    exact ⟨_, rfl, of_decide_eq_true h.1, of_decide_eq_true h.2⟩
  · cases h
theorem name_str {d : PyData} (h : nameB d = true) : ∃ x, d = .str x := by
  unfold nameB at h
  split at h
  · exact ⟨_, rfl⟩
  · cases h
theorem balB_enc {d : PyData} (h : balB d = true) : ∃ b : Bal, d = encBal b ∧ nameB (.str b.1) = true ∧ (-1000 ≤ b.2.1 ∧ b.2.1 ≤ 1000) ∧ 1 ≤ b.2.2 ∧ b.2.2 ≤ 100 := by
  unfold balB at h
  split at h
  · rename_i n o s
    rw [Bool.and_eq_true, Bool.and_eq_true] at h
    obtain ⟨h1, h2, h3⟩ := h
    obtain ⟨x, rfl⟩ := name_str h1
    obtain ⟨i, rfl, a1, a2⟩ := whole_int h2
    obtain ⟨j, rfl, b1, b2⟩ := whole_int h3
    exact ⟨(x, i, j), rfl, h1, ⟨a1, a2⟩, b1, b2⟩
  · cases h
theorem cordB_enc {names : List Str} {d : PyData} (h : cordB names d = true) : d = encCord (cordOf d) ∧ (cordOf d).1 ∈ names ∧ (cordOf d).2.1 ∈ names ∧ sLt (cordOf d).1 (cordOf d).2.1 = true ∧ 0 ≤ (cordOf d).2.2 ∧ (cordOf d).2.2 ≤ 1000 := by
  unfold cordB at h
  split at h
  · rename_i a b l
    rw [Bool.and_eq_true, Bool.and_eq_true, Bool.and_eq_true] at h
    obtain ⟨h1, h2, h3, h4⟩ := h
    obtain ⟨i, rfl, a1, a2⟩ := whole_int h4
    exact ⟨rfl, of_decide_eq_true h1, of_decide_eq_true h2, h3, a1, a2⟩
  · cases h
def isTu : PyData → Bool
  | .tuple _ => true
  | _ => false
theorem wide_tup {ds : List PyData} (h : Wide (.tuple ds)) : ds.length ≤ 200 ∧ ∀ d ∈ ds, Wide d := by cases h; constructor <;> assumption
theorem map_enc_id {α : Type} {enc : α → PyData} {dec : PyData → α} : ∀ {cs : List PyData}, (∀ d ∈ cs, d = enc (dec d)) → (cs.map dec).map enc = cs
  | [], _ => rfl
  | d :: cs, h => by
    rw [List.map_cons, List.map_cons, map_enc_id fun e he => h e (List.mem_cons_of_mem _ he), ← h d (List.mem_cons_self ..)]
theorem alike_cords (c d : Cord) : PySem.W.alike (encCord c) (encCord d) = true := by simp [encCord, PySem.W.alike, PySem.W.alikeAll]
theorem encCord_depth (c : Cord) : (encCord c).depth ≤ 60 := by simp [encCord, PyData.depth, PyData.depthAll]
theorem r_is_show : ∀ xs M Φ Ψ, T_is_show xs M Φ Ψ → j_is_show T_are_rising T_makes_ring T_is_cord T_is_balloon { nx := fun _ M' => Φ (.d .none) M', rt := Φ, xr := Ψ } (jstart 7 xs) M := by
  rintro _ M Φ Ψ ⟨d, rfl, hw, h⟩
  have hno : (∀ ds, d ≠ .tuple ds) → showB d = false := fun hd => by
    unfold showB
    split
    · exact (hd _ rfl).elim
    · rfl
  refine ⟨rfl, ?_⟩
  rw [isi_tuple]
  cases hw with
  | non => rw [hno (by simp)] at h; exact h
  | bool _ => rw [hno (by simp)] at h; exact h
  | int _ => rw [hno (by simp)] at h; exact h
  | list _ _ _ => rw [hno (by simp)] at h; exact h
  | str _ _ _ => rw [hno (by simp)] at h; exact h
  | tup ds hl hd =>
    show sel (true ^^ decide ((ds.length : Int) = 2)) _ _
    refine sel_xdec (fun q => ?_) fun q => ?_
    · have : showB (.tuple ds) = false := by
        unfold showB
        split
        · rename_i e; cases e; exact (q rfl).elim
        · rfl
      rw [this] at h; exact h
    · obtain ⟨x, y, rfl⟩ := len2 q
      refine ⟨(by show 2 ≤ 1000000; decide), ?_⟩
      refine accG1 (α := PyData) id (fun d => .bool (isTu d)) [x, y] (fun a _ K1 k1 => ?_) ?_
      · refine ⟨rfl, ?_⟩
        rw [isi_tuple]
        cases a <;> exact k1
      rw [fzs_d]
      show sel (!(isTu x && (isTu y && true))) _ _
      refine sel_b (fun q => ?_) fun q => ?_
      · have : showB (.tuple [x, y]) = false := by
          cases x <;> cases y <;> first | rfl | (simp [isTu] at q)
        rw [this] at h; exact h
      · obtain ⟨bs, cs, rfl, rfl⟩ : ∃ bs cs, x = .tuple bs ∧ y = .tuple cs := by
          cases x <;> cases y <;> first | exact ⟨_, _, rfl, rfl⟩ | (simp [isTu] at q)
        obtain ⟨bl, bw⟩ := wide_tup (hd (.tuple bs) (by simp))
        obtain ⟨cl, cw⟩ := wide_tup (hd (.tuple cs) (by simp))
        have h : Φ (.d (.bool (decide ((1 : Int) ≤ bs.length) && (decide ((bs.length : Int) ≤ 8) && (bs.all balB && (risingB ((bs.map nameOf).map .str) && (cs.all (cordB (bs.map nameOf)) && (risingB cs && !ringB (cs.map cordOf))))))))) M := h
        show selE (.d (.bool (decide ((1 : Int) ≤ bs.length)))) _ _
        refine selE_dec (fun q1 => ?_) fun q1 => ?_
        rotate_left
        · rw [decide_eq_false q1] at h; exact h
        rw [decide_eq_true q1] at h
        show sel (!decide ((bs.length : Int) ≤ 8)) _ _
        refine sel_ndec (fun q2 => ?_) fun q2 => ?_
        · rw [decide_eq_false q2] at h; exact h
        rw [decide_eq_true q2] at h
        refine ⟨(by show (bs.map EV.d).length ≤ 1000000; rw [List.length_map]; omega), ?_⟩
        show jAccF _ _ _ _ _ (bs.map .d) [] M
        have e0 : bs.map EV.d = (bs.map id).map .d := by rw [List.map_id]
        rw [e0]
        refine accG1 (α := PyData) id (fun d => .bool (balB d)) bs (fun a ha K1 k1 => ?_) ?_
        · exact ⟨a, rfl, bw a ha, k1⟩
        rw [fzs_d]
        have e1 : bs.map (fun d => PyData.bool (balB d)) = (bs.map balB).map .bool := by rw [List.map_map]; rfl
        rw [e1]
        dsimp only [jNil]
        refine allBl ?_
        rw [List.all_map]
        show sel (!(bs.all balB)) _ _
        refine sel_b (fun q3 => ?_) fun q3 => ?_
        · have : bs.all balB = false := by simpa using q3
          rw [this] at h; exact h
        have q3 : bs.all balB = true := by simpa using q3
        rw [q3] at h
        have hb : ∀ b ∈ bs, ∃ c : Bal, b = encBal c ∧ nameB (.str c.1) = true ∧ (-1000 ≤ c.2.1 ∧ c.2.1 ≤ 1000) ∧ 1 ≤ c.2.2 ∧ c.2.2 ≤ 100 := fun b hb => balB_enc (List.all_eq_true.mp q3 b hb)
        refine ⟨(by show (bs.map EV.d).length ≤ 1000000; rw [List.length_map]; omega), ?_⟩
        show jAccF _ _ _ _ _ (bs.map .d) [] M
        rw [e0]
        refine accG1 (α := PyData) id (fun d => .str (nameOf d)) bs (fun a ha K1 k1 => ?_) ?_
        · obtain ⟨c, rfl, _⟩ := hb a ha
          exact k1
        rw [fzs_d]
        have e2 : bs.map (fun d => PyData.str (nameOf d)) = (bs.map nameOf).map .str := by rw [List.map_map]; rfl
        rw [e2]
        have oks : Oks (bs.map nameOf) := fun x hx => by
          obtain ⟨b, hb1, rfl⟩ := List.mem_map.mp hx
          obtain ⟨c, rfl, _⟩ := hb b hb1
          exact ((wide_tup (bw _ hb1)).2 (.str c.1) (by simp)).ok
        refine ⟨_, .inl rfl, ⟨by simp; omega, fun d hd => ?_⟩, ?_⟩
        · obtain ⟨x, _, rfl⟩ := List.mem_map.mp hd
          refine ⟨fun e he => ?_, by simp, by simp [PyData.depth]⟩
          obtain ⟨y, _, rfl⟩ := List.mem_map.mp he
          simp [PySem.W.alike]
        show sel (!risingB ((bs.map nameOf).map .str)) _ _
        refine sel_b (fun q4 => ?_) fun q4 => ?_
        · have : risingB ((bs.map nameOf).map .str) = false := by simpa using q4
          rw [this] at h; exact h
        have q4 : risingB ((bs.map nameOf).map .str) = true := by simpa using q4
        rw [q4] at h
        refine ⟨(by show (cs.map EV.d).length ≤ 1000000; rw [List.length_map]; omega), ?_⟩
        show jAccF _ _ _ _ _ (cs.map .d) [] M
        have e3 : cs.map EV.d = (cs.map id).map .d := by rw [List.map_id]
        rw [e3]
        refine accG1 (α := PyData) id (fun d => .bool (cordB (bs.map nameOf) d)) cs (fun a ha K1 k1 => ?_) ?_
        · exact ⟨bs.map nameOf, a, rfl, ⟨oks, cw a ha⟩, k1⟩
        rw [fzs_d]
        have e4 : cs.map (fun d => PyData.bool (cordB (bs.map nameOf) d)) = (cs.map (cordB (bs.map nameOf))).map .bool := by rw [List.map_map]; rfl
        rw [e4]
        dsimp only [jNil]
        refine allBl ?_
        rw [List.all_map]
        show sel (!(cs.all (cordB (bs.map nameOf)))) _ _
        refine sel_b (fun q5 => ?_) fun q5 => ?_
        · have : cs.all (cordB (bs.map nameOf)) = false := by simpa using q5
          rw [this] at h; exact h
        have q5 : cs.all (cordB (bs.map nameOf)) = true := by simpa using q5
        rw [q5] at h
        have hc : ∀ c ∈ cs, c = encCord (cordOf c) := fun c hc => (cordB_enc (List.all_eq_true.mp q5 c hc)).1
        refine ⟨cs, .inr rfl, ⟨by omega, fun d hd => ?_⟩, ?_⟩
        · refine ⟨fun e he => ?_, ?_, ?_⟩
          · rw [hc d hd, hc e he]; exact alike_cords _ _
          · rw [hc d hd]; simp [encCord]
          · rw [hc d hd]; exact encCord_depth _
        show selE (.d (.bool (risingB cs))) _ _
        refine selE_b (fun q6 => ?_) fun q6 => ?_
        · rw [q6] at h
          refine ⟨cs.map cordOf, by rw [map_enc_id hc], ⟨by rw [List.length_map]; exact cl, fun x hx => ?_⟩, h⟩
          unfold endsOf at hx
          have hn := fun c hc => (cordB_enc (List.all_eq_true.mp q5 c hc))
          rcases List.mem_append.mp hx with hx | hx
          · obtain ⟨c, hc1, rfl⟩ := List.mem_map.mp hx
            obtain ⟨d, hd1, rfl⟩ := List.mem_map.mp hc1
            exact oks _ (hn d hd1).2.1
          · obtain ⟨c, hc1, rfl⟩ := List.mem_map.mp hx
            obtain ⟨d, hd1, rfl⟩ := List.mem_map.mp hc1
            exact oks _ (hn d hd1).2.2.1
        · rw [q6] at h; exact h
noncomputable def T_need_show : TJ := fun xs M Φ _ => ∃ d, xs = [.d d] ∧ (Wide d ∧ showB d = true) ∧ Φ (.d .none) M
theorem r_need_show : ∀ xs M Φ Ψ, T_need_show xs M Φ Ψ → j_need_show T_is_show { nx := fun _ M' => Φ (.d .none) M', rt := Φ, xr := Ψ } (jstart 1 xs) M := by
  rintro _ M Φ Ψ ⟨d, rfl, ⟨hw, hs⟩, h⟩
  refine ⟨d, rfl, hw, ?_⟩
  rw [hs]
  exact h
def encTie (t : Str × Int) : PyData := .tuple [.str t.1, .int t.2]
def T_tied_to : TJ := fun xs M Φ _ => ∃ (S : Show) (n : Str), xs = [.d (encShow S), .d (.str n)] ∧ (S.cords.length ≤ 1000 ∧ Oks (endsOf S.cords) ∧ PyData.strOk n = true) ∧ Φ (.d (.list ((tied S.cords n).map encTie))) M
theorem r_tied_to : ∀ xs M Φ Ψ, T_tied_to xs M Φ Ψ → j_tied_to { nx := fun _ M' => Φ (.d .none) M', rt := Φ, xr := Ψ } (jstart 6 xs) M := by
  rintro _ M Φ Ψ ⟨S, n, rfl, ⟨hl, ho, hn⟩, hp⟩
  intro p hp0
  refine loopF encCord (fun rest ρ M' => ∃ A, A ++ rest = S.cords ∧ M' = M.set p (.lst (((tied A n).map encTie).map .d)) ∧ ∃ x0 x3 x4 x5, ρ = [x0, some (.d (.str n)), some (.v (.ref p)), x3, x4, x5]) ?_ ?_ S.cords _ _ ⟨[], rfl, rfl, _, _, _, _, rfl⟩
  · rintro ρ M' ⟨A, e, rfl, x0, x3, x4, x5, rfl⟩
    rw [List.append_nil] at e
    subst e
    have hcell : (M.set p (.lst (((tied S.cords n).map encTie).map .d))) p = some (.lst (((tied S.cords n).map encTie).map .d)) := Mem.set_same
    show (match fz (.v (.ref p)) (M.set p (.lst (((tied S.cords n).map encTie).map .d))) with
      | some (d, M2) => _
      | none => False)
    rw [fz_at hcell, Mem.del_set hp0]
    exact hp
  · rintro c rest ρ M' ⟨A, e, rfl, x0, x3, x4, x5, rfl⟩ N hN
    obtain ⟨a, b, l⟩ := c
    have hcell : (M.set p (.lst (((tied A n).map encTie).map .d))) p = some (.lst (((tied A n).map encTie).map .d)) := Mem.set_same
    have ma : PyData.strOk a = true := ho a (by unfold endsOf; rw [← e]; simp)
    have mb : PyData.strOk b = true := ho b (by unfold endsOf; rw [← e]; simp)
    have hA : A.length + 1 ≤ 1000 := by
      have := congrArg List.length e
      rw [List.length_append, List.length_cons] at this; omega
    have tl : (tied A n).length ≤ A.length := List.length_filterMap_le _ _
    have ts : tied (A ++ [(a, b, l)]) n = tied A n ++ (match tie1 n (a, b, l) with
      | some t => [t]
      | none => []) := by
      unfold tied
      rw [List.filterMap_append]
      congr 1
      rw [List.filterMap_cons]
      cases tie1 n (a, b, l) <;> rfl
    refine ⟨⟨(str_shp hn).ok (n := 0) (by decide), (names_shp (names := [a, b]) (fun x hx => ?_)).ok (by decide)⟩, ?_⟩
    · simp only [List.mem_cons, List.not_mem_nil, or_false] at hx
      rcases hx with rfl | rfl <;> assumption
    have ein : inD (.str n) [.str a, .str b] = decide (n ∈ [a, b]) := str_eq.any n [a, b]
    show sel (false ^^ inD (.str n) [.str a, .str b]) _ _
    rw [ein]
    refine sel_fdec (fun q => ?_) fun q => ?_
    · have q : n = a ∨ n = b := by simpa using q
      refine ⟨isLst_cell hcell, ?_⟩
      have fin : ∀ o : Str, o = (if a = n then b else a) → jrAppend (.v (.ref p)) [.d (.tuple [.str o, .int l])] (M.set p (.lst (((tied A n).map encTie).map .d))) fun _ M3 => N [x0, some (.d (.str n)), some (.v (.ref p)), some (.d (.str a)), some (.d (.str b)), some (.d (.int l))] M3 := by
        rintro _ rfl
        refine do_append hcell ?_ (hN _ _ ⟨A ++ [(a, b, l)], by rw [← e]; simp, ?_, _, _, _, _, rfl⟩)
        · show _ ≤ 1000000
          rw [List.length_map, List.length_map]; omega
        · rw [Mem.set_set, ts]
          have : tie1 n (a, b, l) = some (if a = n then b else a, l) := by unfold tie1; rw [if_pos q]
          rw [this]
          simp only [List.map_append, List.map_cons, List.map_nil]
          rfl
      show sel (false ^^ decide (a = n)) _ _
      refine sel_fdec (fun q2 => ?_) fun q2 => ?_
      · exact fin b (by rw [if_pos q2])
      · exact fin a (by rw [if_neg q2])
    · have q : ¬ (n = a ∨ n = b) := by simpa using q
      refine hN _ _ ⟨A ++ [(a, b, l)], by rw [← e]; simp, ?_, _, _, _, _, rfl⟩
      have : tie1 n (a, b, l) = none := by unfold tie1; rw [if_neg q]
      rw [ts, this, List.append_nil]
end Td

/-! TdR4: pulls and heights of shows: readings, promises, what the defs do. -/
namespace Td
open PySem PySem.Spec PyProof.Rows L2

def j_pulls_of (T_tied_to T_both T_by_cord T_pulls_of T_alone : TJ) : JTS :=
  jSeq (jAsg (jOp jrIx (jLc (jiT (jOp jrIx (jVar 0) (jC (.int 0)))) (jName 8) (jTest (jOp (jrEq false) (jOp jrIx (jVar 8) (jC (.int 0))) (jVar 1))) (jSlT (jVar 8) (jPart (jC (.int 1))) (jNoPart)) [8]) (jC (.int 0))) (jgTup 2 (jgCons (jName 3) (jgCons (jName 4) (jgNil)))))
    (jSeq (jAsg (jCall T_alone (jCons (jVar 3) (jCons (jVar 4) (jNil)))) (jName 5))
    (jSeq (jFor (jiL (jCall T_tied_to (jCons (jVar 0) (jCons (jVar 1) (jNil))))) (jgTup 2 (jgCons (jName 6) (jgCons (jName 7) (jgNil)))) (jIfS (jTest (jOp (jrEq true) (jVar 6) (jVar 2))) (jAsg (jCall T_both (jCons (jVar 5) (jCons (jCall T_by_cord (jCons (jCall T_pulls_of (jCons (jVar 0) (jCons (jVar 6) (jCons (jVar 1) (jNil))))) (jCons (jVar 7) (jNil)))) (jNil)))) (jName 5)) (jNext)))
    (jRet (jVar 5))))
def j_nearest (T_is_less T_plus T_minus : TJ) : JTS :=
  jSeq (jPar 3 4 (jCons (jCall T_minus (jCons (jVar 0) (jCons (jTup (jCons (jVar 2) (jCons (jC (.int 1)) (jNil)))) (jNil)))) (jCons (jCall T_plus (jCons (jVar 0) (jCons (jTup (jCons (jVar 2) (jCons (jC (.int 1)) (jNil)))) (jNil)))) (jNil))))
    (jSeq (jIfS (jTest (jCall T_is_less (jCons (jVar 1) (jCons (jVar 3) (jNil))))) (jRet (jVar 3)) (jNext))
    (jRet (jIf (jTest (jCall T_is_less (jCons (jVar 4) (jCons (jVar 1) (jNil))))) (jVar 4) (jVar 1))))
def j_hang (T_tied_to T_hang T_nearest T_nought_of T_pulls_of : TJ) : JTS :=
  jSeq (jDPut (jVar 4) (jVar 1) (jVar 3))
    (jFor (jiL (jCall T_tied_to (jCons (jVar 0) (jCons (jVar 1) (jNil))))) (jgTup 2 (jgCons (jName 5) (jgCons (jName 6) (jgNil)))) (jIfS (jTest (jOp (jrEq true) (jVar 5) (jVar 2))) (jSeq (jAsg (jCall T_nought_of (jCons (jCall T_pulls_of (jCons (jVar 0) (jCons (jVar 5) (jCons (jVar 1) (jNil))))) (jNil))) (jName 7))
    (jDrop (jCall T_hang (jCons (jVar 0) (jCons (jVar 5) (jCons (jVar 1) (jCons (jCall T_nearest (jCons (jVar 3) (jCons (jVar 7) (jCons (jVar 6) (jNil))))) (jCons (jVar 4) (jNil))))))))) (jNext)))
def j_all_heights (T_hang T_nought_of T_pulls_of : TJ) : JTS :=
  jSeq (jAsg (jDNew) (jName 2))
    (jSeq (jLockS 1 (jFor (jiK (jVar 1)) (jName 3) (jDrop (jCall T_hang (jCons (jVar 0) (jCons (jVar 3) (jCons (jC .none) (jCons (jDGet (jVar 1) (jVar 3)) (jCons (jVar 2) (jNil))))))))))
    (jSeq (jFor (jiT (jOp jrIx (jVar 0) (jC (.int 0)))) (jgTup 3 (jgCons (jName 3) (jgCons (jName 4) (jgCons (jName 5) (jgNil))))) (jIfS (jTest (jDIn true (jVar 3) (jVar 2))) (jDrop (jCall T_hang (jCons (jVar 0) (jCons (jVar 3) (jCons (jC .none) (jCons (jCall T_nought_of (jCons (jCall T_pulls_of (jCons (jVar 0) (jCons (jVar 3) (jCons (jC .none) (jNil))))) (jNil))) (jCons (jVar 2) (jNil)))))))) (jNext)))
    (jRet (jVar 2))))
/-! ### shows that are asked -/
structure Neat (S : Show) : Prop where
  tidy : Tidy S
  oks : Oks (S.bals.map (·.1))
  few : S.cords.length ≤ 200
theorem Neat.ends {S : Show} (N : Neat S) : Oks (endsOf S.cords) := fun x hx => by
  unfold endsOf at hx
  rcases List.mem_append.mp hx with hx | hx
  · obtain ⟨c, hc, rfl⟩ := List.mem_map.mp hx
    exact N.oks _ (N.tidy.ends c hc).1
  · obtain ⟨c, hc, rfl⟩ := List.mem_map.mp hx
    exact N.oks _ (N.tidy.ends c hc).2.1
def encA : Option Str → PyData
  | none => .none
  | some s => .str s
def okA (a : Option Str) : Prop := ∀ s, a = some s → PyData.strOk s = true
theorem okA_none : okA none := fun s h => by cases h
theorem neA {a : Option Str} {o : Str} {M : Mem} {K : JK} (ho : PyData.strOk o = true) (ha : okA a) (h : K (.d (.bool (!decide (some o = a)))) M) : jrEq true (.d (.str o)) (.d (encA a)) M K := by
  cases a with
  | none =>
    refine ⟨⟨(str_shp ho).ok (n := 0) (by decide), Shp.none.ok (n := 0) (by decide)⟩, ?_⟩
    have e : PyData.eqv (.str o) (encA none) = false := by simp [encA, PyData.eqv]
    rw [e]
    rw [decide_eq_false (by simp : ¬ some o = none)] at h
    exact h
  | some s =>
    show K (.d (.bool (true ^^ decide (o = s)))) M
    have e : decide (some o = some s) = decide (o = s) := by simp
    rw [e] at h
    rw [xor_t]; exact h
def T_pulls (n : Nat) : TJ := fun xs M Φ _ => ∃ S t a, xs = [.d (encShow S), .d (.str t.name), .d (encA a)] ∧ (Neat S ∧ Good S t a ∧ okA a ∧ t.size ≤ n) ∧ Φ (.d (encP (pullsT t))) M
theorem bal_filter {S : Show} (T : Tidy S) {n : Str} {o s : Int} (h : (n, o, s) ∈ S.bals) : S.bals.filter (fun b => decide (b.1 = n)) = [(n, o, s)] := by
  have nd := T.nd
  revert nd h
  induction S.bals with
  | nil => intro h; cases h
  | cons b r ih =>
    intro h nd
    rw [List.map_cons, List.nodup_cons] at nd
    rcases List.mem_cons.mp h with e | h
    · subst e
      rw [List.filter_cons_of_pos (by simp)]
      have : r.filter (fun b => decide (b.1 = n)) = [] := by
        rw [List.filter_eq_nil_iff]
        intro c hc
        have : c.1 ≠ n := fun z => nd.1 (by rw [← z]; exact List.mem_map.mpr ⟨c, hc, rfl⟩)
        simpa using this
      rw [this]
    · have ne : b.1 ≠ n := fun z => nd.1 (by rw [z]; exact List.mem_map.mpr ⟨_, h, rfl⟩)
      rw [List.filter_cons_of_neg (by simpa using ne)]
      exact ih h nd.2
theorem Good.kid {S : Show} {n : Str} {o s l : Int} {t : Tree} {r : Kids} {L : List (Str × Int)} (h : IsK S (.cons t l r) n L) (nd : (Kids.cons t l r).names.Nodup) : Good S t (some n) ∧ r.names.Nodup := by
  obtain ⟨L', e, h1, h2⟩ := h
  have nd : (t.names ++ r.names).Nodup := nd
  obtain ⟨n1, n2, _⟩ := List.nodup_append.mp nd
  exact ⟨⟨h1, n1⟩, n2⟩
theorem r_pulls_of (n : Nat) : ∀ xs M Φ Ψ, T_pulls (n + 1) xs M Φ Ψ → j_pulls_of T_tied_to T_both T_by_cord (T_pulls n) T_alone { nx := fun _ M' => Φ (.d .none) M', rt := Φ, xr := Ψ } (jstart 9 xs) M := by
  rintro _ M Φ Ψ ⟨S, t, a, rfl, ⟨N, G, ha, hsz⟩, hp⟩
  obtain ⟨nm, o, s, k⟩ := t
  have T := N.tidy
  obtain ⟨hb, hk⟩ := G.is
  have hnm : PyData.strOk nm = true := N.oks nm (List.mem_map.mpr ⟨_, hb, rfl⟩)
  obtain ⟨bo, bs1, bs2⟩ := T.bal _ hb
  have bo : -1000 ≤ o ∧ o ≤ 1000 := bo
  have bs1 : 1 ≤ s := bs1
  have bs2 : s ≤ 100 := bs2
  have sz8 := G.size T
  refine ⟨lenF (by have := T.few; omega), accG encBal (fun b => decide (b.1 = nm)) (fun b => .tuple [.int b.2.1, .int b.2.2]) S.bals ?_ ?_⟩
  · intro b hb K1 K2 k1 k2
    show sel (false ^^ decide (b.1 = nm)) _ _
    rw [xor_f]
    exact sel_b (fun q => k1 q) fun q => k2 q
  rw [fzs_d, bal_filter T hb]
  have bt : ∀ {i : Int}, -1000 ≤ i → i ≤ 1000 → Bt 3900 i := fun {i} h1 h2 => by
    have : i.natAbs < 2 ^ 10 := by have : (2 : Nat) ^ 10 = 1024 := by decide
                                   omega
    exact Nat.lt_of_lt_of_le this (Nat.pow_le_pow_right (by decide) (by decide))
  refine ⟨o, s, rfl, ⟨bt bo.1 bo.2, bt (by omega) (by omega)⟩, ?_⟩
  refine ⟨S, nm, rfl, ⟨by have := N.few; omega, N.ends, hnm⟩, ?_⟩
  refine loopF encTie (fun rest ρ M' => M' = M ∧ ∃ P F m k', (∀ x ∈ rest, x ∈ tied S.cords nm) ∧ IsK S k' nm (rest.filter fun t => !decide (some t.1 = a)) ∧ k'.names.Nodup ∧ TP m F P ∧ 0 < m ∧ m + k'.size = (Tree.node nm o s k).size ∧ pullsK P k' = pullsT (.node nm o s k) ∧
    ∃ x3 x4 x6 x7 x8, ρ = [some (.d (encShow S)), some (.d (.str nm)), some (.d (encA a)), x3, x4, some (.d (encP P)), x6, x7, x8]) ?_ ?_ (tied S.cords nm) _ _
    ⟨rfl, alone o s, ownF o s, 1, k, fun x hx => hx, hk, ?_, TP.alone ⟨bs1, bs2⟩ bo, by decide, rfl, rfl, _, _, _, _, _, rfl⟩
  · rintro ρ M' ⟨rfl, P, F, m, k', _, e1, _, _, _, _, e2, x3, x4, x6, x7, x8, rfl⟩
    cases k' with
    | nil =>
      have e2 : P = pullsT (.node nm o s k) := e2
      rw [← e2] at hp
      exact hp
    | cons t l r =>
      obtain ⟨L', e, _⟩ := e1
      cases e
  · rintro x rest ρ M' ⟨rfl, P, F, m, k', e0, e1, e3, e4, e5, e6, e2, x3, x4, x6, x7, x8, rfl⟩ N2 hN
    have hx := e0 x (by simp)
    have hxn : PyData.strOk x.1 = true := by
      obtain ⟨c, hc, hcu, _⟩ := tied_mem hx
      obtain ⟨q1, q2, _⟩ := T.ends c hc
      rcases hcu with ⟨_, z⟩ | ⟨_, z⟩ <;> rw [z]
      · exact N.oks _ q2
      · exact N.oks _ q1
    have hxl := tied_long T hx
    refine tup2 ?_
    dsimp only [jName, List.set, jIfS, jTest, jOp, jVar, look]
    refine neA hxn ha ?_
    show sel (!decide (some x.1 = a)) _ _
    refine sel_ndec (fun q => ?_) fun q => ?_
    · rw [List.filter_cons_of_pos (by rw [decide_eq_false q]; rfl)] at e1
      cases k' with
      | nil => cases (show _ :: _ = [] from e1)
      | cons t l r =>
        obtain ⟨G2, nd2⟩ := Good.kid (o := 0) (s := 0) e1 e3
        obtain ⟨L', eL, h1, h2⟩ := e1
        obtain ⟨ex, eL⟩ := List.cons.inj eL
        subst eL
        have sz : (Tree.node nm o s k).size = m + (t.size + r.size) := e6.symm
        have tp := G2.tp T
        have hl : x = (t.name, l) := ex
        subst hl
        refine ⟨S, t, some nm, rfl, ⟨N, G2, fun s hs => by cases hs; exact hnm, by omega⟩, ?_⟩
        refine ⟨pullsT t, l, rfl, ⟨⟨fnT t, t.size, tp, by omega⟩, hxl.1, hxl.2⟩, ?_⟩
        refine ⟨P, byCord (pullsT t) (l : Rat), rfl, ⟨⟨F, e4.qp (by omega)⟩, _, tp.cord ⟨t.size_pos, by omega⟩ hxl⟩, ?_⟩
        exact hN _ _ ⟨rfl, both P (byCord (pullsT t) (l : Rat)), _, m + t.size, r, fun y hy => e0 y (List.mem_cons_of_mem _ hy), h2, nd2, e4.tie tp e5 t.size_pos hxl, by omega, by rw [Nat.add_assoc]; exact e6, e2, _, _, _, _, _, rfl⟩
    · rw [List.filter_cons_of_neg (by rw [decide_eq_true q]; decide)] at e1
      exact hN _ _ ⟨rfl, P, F, m, k', fun y hy => e0 y (List.mem_cons_of_mem _ hy), e1, e3, e4, e5, e6, e2, _, _, _, _, _, rfl⟩
  · exact (List.nodup_cons.mp (show (nm :: k.names).Nodup from G.nd)).2
/-! ### heights -/
def T_nearest : TJ := fun xs M Φ _ => ∃ (h z : Rat) (l : Int), xs = [.d (encQ h), .d (encQ z), .d (.int l)] ∧ (Sm 1800 h ∧ Sm 1900 z ∧ 0 ≤ l ∧ l ≤ 1000) ∧ Φ (.d (encQ (nearest h z (l : Rat)))) M
theorem longSm {l : Int} (h : 0 ≤ l ∧ l ≤ 1000) : Sm 20 (l : Rat) := Sm.int (by have : (2 : Nat) ^ 20 = 1048576 := by decide
                                                                                omega) (by decide)
theorem r_nearest : ∀ xs M Φ Ψ, T_nearest xs M Φ Ψ → j_nearest T_is_less T_plus T_minus { nx := fun _ M' => Φ (.d .none) M', rt := Φ, xr := Ψ } (jstart 5 xs) M := by
  rintro _ M Φ Ψ ⟨h, z, l, rfl, ⟨h1, h2, h3⟩, hp⟩
  have hl := longSm h3
  have lo := h1.sub hl
  have hi := h1.add hl
  refine ⟨h, (l : Rat), rfl, ⟨h1.mono (by decide), hl.mono (by decide)⟩, h, (l : Rat), rfl, ⟨h1.mono (by decide), hl.mono (by decide)⟩, z, h - l, rfl, ⟨h2.mono (by decide), lo.mono (by decide)⟩, ?_⟩
  unfold nearest at hp
  show sel (decide (z < h - l)) _ _
  refine sel_dec (fun q => ?_) fun q => ?_
  · rw [if_pos q] at hp; exact hp
  · rw [if_neg q] at hp
    refine ⟨h + l, z, rfl, ⟨hi.mono (by decide), h2.mono (by decide)⟩, ?_⟩
    show sel (decide (h + l < z)) _ _
    refine sel_dec (fun q2 => ?_) fun q2 => ?_
    · rw [if_pos q2] at hp; exact hp
    · rw [if_neg q2] at hp; exact hp
theorem nearest_nn {h z l : Rat} (h0 : 0 ≤ h) (z0 : 0 ≤ z) (l0 : 0 ≤ l) : 0 ≤ nearest h z l := by
  unfold nearest
  split
  · grind
  · split <;> grind
theorem nearest_sm {s : Nat} {h z : Rat} {l : Int} (hh : Sm s h) (hz : Sm s z) (hl : 0 ≤ l ∧ l ≤ 1000) : Sm (s + 30) (nearest h z (l : Rat)) := by
  have := longSm hl
  unfold nearest
  split
  · exact (hh.sub this).mono (by omega)
  · split
    · exact (hh.add this).mono (by omega)
    · exact hz.mono (by omega)
def encTb (tb : Table) : List (Key × EV) := tb.map fun r => (.inr r.1, .d (encQ r.2))
theorem valE_tb : ∀ {tb : Table} {x : Str}, x ∉ tb.map (·.1) → valE (encTb tb) (.inr x) = none
  | [], x, _ => rfl
  | r :: tb, x, h => by
    rw [List.map_cons, List.mem_cons, not_or] at h
    show valE ((.inr r.1, .d (encQ r.2)) :: encTb tb) (.inr x) = none
    rw [valE_cons, if_neg (fun z => h.1 (Sum.inr.inj z).symm)]
    exact valE_tb h.2
theorem valE_tb_in : ∀ {tb : Table} {x : Str}, x ∈ tb.map (·.1) → ∃ q, (x, q) ∈ tb ∧ valE (encTb tb) (.inr x) = some (.d (encQ q))
  | r :: tb, x, h => by
    show ∃ q, (x, q) ∈ r :: tb ∧ valE ((.inr r.1, .d (encQ r.2)) :: encTb tb) (.inr x) = some (.d (encQ q))
    rw [valE_cons]
    by_cases e : r.1 = x
    · rw [if_pos (by rw [e])]
      exact ⟨r.2, by rw [← e]; simp, rfl⟩
    · rw [if_neg (fun z => e (Sum.inr.inj z))]
      rw [List.map_cons, List.mem_cons] at h
      obtain ⟨q, h1, h2⟩ := valE_tb_in (h.resolve_left fun z => e z.symm)
      exact ⟨q, List.mem_cons_of_mem _ h1, h2⟩
theorem put_tb {tb : Table} {x : Str} (q : Rat) (h : x ∉ tb.map (·.1)) : putE (encTb tb) (.inr x) (.d (encQ q)) = encTb (tb ++ [(x, q)]) := by
  rw [putE_new _ (valE_tb h)]
  unfold encTb
  rw [List.map_append]; rfl
def T_hang (n : Nat) : TJ := fun xs M Φ _ => ∃ (S : Show) (t : Tree) (a : Option Str) (h : Rat) (p : Addr) (tb : Table) (s : Nat), xs = [.d (encShow S), .d (.str t.name), .d (encA a), .d (encQ h), .v (.ref p)] ∧
  ((Neat S ∧ Good S t a ∧ okA a ∧ t.size ≤ n) ∧ (0 ≤ h ∧ Sm s h ∧ 50 ≤ s ∧ s + 30 * t.size ≤ 1500) ∧ M p = some (.dic (encTb tb)) ∧ (∀ x ∈ t.names, x ∉ tb.map (·.1)) ∧ tb.length + t.size ≤ 100) ∧
  Φ (.d .none) (M.set p (.dic (encTb (tb ++ hangT t h))))
theorem r_hang (n : Nat) : ∀ xs M Φ Ψ, T_hang (n + 1) xs M Φ Ψ → j_hang T_tied_to (T_hang n) T_nearest T_nought_of (T_pulls n) { nx := fun _ M' => Φ (.d .none) M', rt := Φ, xr := Ψ } (jstart 8 xs) M := by
  rintro _ M Φ Ψ ⟨S, t, a, h, p, tb, sb, rfl, ⟨⟨N, G, ha, hsz⟩, ⟨h0, hs, s50, hs2⟩, hM, hfree, htb⟩, hp⟩
  obtain ⟨nm, o, s, k⟩ := t
  have T := N.tidy
  obtain ⟨hb, hk⟩ := G.is
  have hnm : PyData.strOk nm = true := N.oks nm (List.mem_map.mpr ⟨_, hb, rfl⟩)
  have sz8 := G.size T
  have hfr : nm ∉ tb.map (·.1) := hfree nm (List.mem_cons_self ..)
  show (match dPutE M (.v (.ref p)) (.str nm) (.d (encQ h)) with
    | some M4 => _
    | none => False)
  rw [dPut_str hM, put_tb h hfr]
  refine ⟨?_, S, nm, rfl, ⟨by have := N.few; omega, N.ends, hnm⟩, ?_⟩
  · rw [dLen_at hM]
    unfold encTb
    rw [List.length_map]
    show _ ≤ 1000000
    omega
  have szk : (Tree.node nm o s k).size = 1 + k.size := rfl
  refine loopF encTie (fun rest ρ M' => ∃ done k', (∀ x ∈ rest, x ∈ tied S.cords nm) ∧ IsK S k' nm (rest.filter fun t => !decide (some t.1 = a)) ∧ (done ++ hangK k' h = (nm, h) :: hangK k h) ∧ k'.names.Nodup ∧ (∀ x ∈ k'.names, x ∉ (tb ++ done).map (·.1)) ∧ k'.size ≤ k.size ∧ done.length + k'.size = 1 + k.size ∧ M' = M.set p (.dic (encTb (tb ++ done))) ∧
    ∃ x5 x6 x7, ρ = [some (.d (encShow S)), some (.d (.str nm)), some (.d (encA a)), some (.d (encQ h)), some (.v (.ref p)), x5, x6, x7]) ?_ ?_ (tied S.cords nm) _ _
    ⟨[(nm, h)], k, fun x hx => hx, hk, rfl, ?_, ?_, Nat.le_refl _, rfl, rfl, _, _, _, rfl⟩
  · rintro ρ M' ⟨done, k', _, e1, e2, _, _, _, _, rfl, x5, x6, x7, rfl⟩
    cases k' with
    | nil =>
      have e2 : done ++ [] = (nm, h) :: hangK k h := e2
      rw [List.append_nil] at e2
      rw [e2]
      exact hp
    | cons t l r =>
      obtain ⟨L', e, _⟩ := e1
      cases e
  · rintro x rest ρ M' ⟨done, k', e0, e1, e2, e3, e4, e5, e6, rfl, x5, x6, x7, rfl⟩ N2 hN
    have hx := e0 x (by simp)
    have hxn : PyData.strOk x.1 = true := by
      obtain ⟨c, hc, hcu, _⟩ := tied_mem hx
      obtain ⟨q1, q2, _⟩ := T.ends c hc
      rcases hcu with ⟨_, z⟩ | ⟨_, z⟩ <;> rw [z]
      · exact N.oks _ q2
      · exact N.oks _ q1
    have hxl := tied_long T hx
    refine tup2 ?_
    dsimp only [jName, List.set, jIfS, jTest, jOp, jVar, look]
    refine neA hxn ha ?_
    show sel (!decide (some x.1 = a)) _ _
    refine sel_ndec (fun q => ?_) fun q => ?_
    · rw [List.filter_cons_of_pos (by rw [decide_eq_false q]; rfl)] at e1
      cases k' with
      | nil => cases (show _ :: _ = [] from e1)
      | cons t l r =>
        obtain ⟨G2, nd2⟩ := Good.kid (o := 0) (s := 0) e1 e3
        obtain ⟨L', eL, h1, h2⟩ := e1
        obtain ⟨ex, eL⟩ := List.cons.inj eL
        subst eL
        have tp := G2.tp T
        have hl : x = (t.name, l) := ex
        subst hl
        have szt : t.size + r.size ≤ k.size := e5
        have e6 : done.length + (t.size + r.size) = 1 + k.size := e6
        have zs := G2.zSm T
        have z0 := (G2.zero T).nn
        have l0 : (0 : Rat) ≤ (l : Rat) := by exact_mod_cast hxl.1
        have ndT : (t.names ++ r.names).Nodup := e3
        obtain ⟨n1, n2, n3⟩ := List.nodup_append.mp ndT
        refine ⟨S, t, some nm, rfl, ⟨N, G2, fun s hs => by cases hs; exact hnm, by omega⟩, ?_⟩
        refine ⟨pullsT t, rfl, ⟨fnT t, t.size, tp, by omega⟩, ?_⟩
        refine ⟨h, zT t, l, rfl, ⟨hs.mono (by omega), zs.mono (by decide), hxl⟩, ?_⟩
        have cell : (M.set p (.dic (encTb (tb ++ done)))) p = some (.dic (encTb (tb ++ done))) := Mem.set_same
        refine ⟨S, t, some nm, nearest h (zT t) (l : Rat), p, tb ++ done, sb + 30, rfl, ⟨⟨N, G2, fun s hs => by cases hs; exact hnm, by omega⟩, ⟨nearest_nn h0 z0 l0, nearest_sm hs (zs.mono s50) hxl, by omega, by omega⟩, cell, fun y hy => e4 y (List.mem_append_left _ hy), by rw [List.length_append]; omega⟩, ?_⟩
        have e2' : (done ++ hangT t (nearest h (zT t) (l : Rat))) ++ hangK r h = (nm, h) :: hangK k h := by
          rw [← e2, List.append_assoc]; rfl
        refine hN _ _ ⟨done ++ hangT t (nearest h (zT t) (l : Rat)), r, fun y hy => e0 y (List.mem_cons_of_mem _ hy), h2, e2', nd2, fun y hy hm => ?_, by omega, ?_, by rw [Mem.set_set, List.append_assoc], _, _, _, rfl⟩
        · rw [← List.append_assoc, List.map_append, List.mem_append, hangT_names] at hm
          rcases hm with hm | hm
          · exact e4 y (List.mem_append_right _ hy) hm
          · exact n3 y hm y hy rfl
        · have l2 : (hangT t (nearest h (zT t) (l : Rat))).length = t.size := by
            have := congrArg List.length (hangT_names t (nearest h (zT t) (l : Rat)))
            rw [List.length_map] at this
            rw [this, t.size_names]
          rw [List.length_append, l2]
          omega
    · rw [List.filter_cons_of_neg (by rw [decide_eq_true q]; decide)] at e1
      exact hN _ _ ⟨done, k', fun y hy => e0 y (List.mem_cons_of_mem _ hy), e1, e2, e3, e4, e5, e6, rfl, _, _, _, rfl⟩
  · exact (List.nodup_cons.mp (show (nm :: k.names).Nodup from G.nd)).2
  · intro x hx hm
    rw [List.map_append, List.mem_append] at hm
    rcases hm with hm | hm
    · exact hfree x (List.mem_cons_of_mem _ hx) hm
    · have : x = nm := by simpa using hm
      subst this
      exact (List.nodup_cons.mp (show (x :: k.names).Nodup from G.nd)).1 hx
/-! ### all heights -/
mutual
theorem hangT_sm {S : Show} (T : Tidy S) : ∀ (t : Tree) (a : Option Str), IsT S t a → t.names.Nodup → t.size ≤ 8 → ∀ (h : Rat) (s : Nat), 0 ≤ h → Sm s h → 50 ≤ s → s + 30 * t.size ≤ 1500 → ∀ r ∈ hangT t h, 0 ≤ r.2 ∧ Sm 1500 r.2
  | .node n o st k, a, hi, nd, sz, h, s, h0, hs, s50, hb, r, hr => by
    have szk : (Tree.node n o st k).size = 1 + k.size := rfl
    rcases List.mem_cons.mp (show r ∈ (n, h) :: hangK k h from hr) with rfl | hr
    · exact ⟨h0, hs.mono (by omega)⟩
    · exact hangK_sm T k n _ hi.2 (fun x hx => tied_long T (kidsL_mem hx).1) (List.nodup_cons.mp (show (n :: k.names).Nodup from nd)).2 (by omega) h s h0 hs s50 (by omega) r hr
theorem hangK_sm {S : Show} (T : Tidy S) : ∀ (k : Kids) (n : Str) (L : List (Str × Int)), IsK S k n L → (∀ x ∈ L, 0 ≤ x.2 ∧ x.2 ≤ 1000) → k.names.Nodup → k.size ≤ 8 → ∀ (h : Rat) (s : Nat), 0 ≤ h → Sm s h → 50 ≤ s → s + 30 * (1 + k.size) ≤ 1500 → ∀ r ∈ hangK k h, 0 ≤ r.2 ∧ Sm 1500 r.2
  | .nil, n, L, hi, hl, nd, sz, h, s, h0, hs, s50, hb, r, hr => by cases hr
  | .cons t l k, n, L, hi, hl, nd, sz, h, s, h0, hs, s50, hb, r, hr => by
    obtain ⟨G, nd2⟩ := Good.kid (o := 0) (s := 0) hi nd
    obtain ⟨L', e, h1, h2⟩ := hi
    subst e
    have szk : (Kids.cons t l k).size = t.size + k.size := rfl
    have hll := hl (t.name, l) (List.mem_cons_self ..)
    have l0 : (0 : Rat) ≤ (l : Rat) := by exact_mod_cast hll.1
    have zs := G.zSm T
    have z0 := (G.zero T).nn
    rcases List.mem_append.mp (show r ∈ hangT t (nearest h (zT t) (l : Rat)) ++ hangK k h from hr) with hr | hr
    · exact hangT_sm T t _ h1 G.nd (by omega) _ (s + 30) (nearest_nn h0 z0 l0) (nearest_sm hs (zs.mono s50) hll) (by omega) (by omega) r hr
    · exact hangK_sm T k n L' h2 (fun x hx => hl x (List.mem_cons_of_mem _ hx)) nd2 (by omega) h s h0 hs s50 (by omega) r hr
end
structure TbOk (S : Show) (tb : Table) : Prop where
  nd : (tb.map (·.1)).Nodup
  sub : ∀ x ∈ tb.map (·.1), x ∈ S.bals.map (·.1)
  closed : ∀ x ∈ tb.map (·.1), ∀ y, Adj S.cords x y → y ∈ tb.map (·.1)
  sm : ∀ r ∈ tb, 0 ≤ r.2 ∧ Sm 1500 r.2
theorem TbOk.nil (S : Show) : TbOk S [] := ⟨List.nodup_nil, fun _ h => (by cases h), fun _ h => (by cases h), fun _ h => (by cases h)⟩
theorem TbOk.len {S : Show} (T : Tidy S) {tb : Table} (k : TbOk S tb) : tb.length ≤ 8 := by
  have := subset_len k.nd k.sub
  rw [List.length_map, List.length_map] at this
  exact Nat.le_trans this T.few
theorem TbOk.conn {S : Show} {tb : Table} (k : TbOk S tb) {x y : Str} (hx : x ∈ tb.map (·.1)) (c : Conn S.cords x y) : y ∈ tb.map (·.1) := by
  induction c with
  | refl => exact hx
  | step _ a ih => exact k.closed _ ih _ a
theorem TbOk.free {S : Show} (T : Tidy S) {tb : Table} (k : TbOk S tb) {u : Str} (hu : u ∈ S.bals.map (·.1)) (hn : u ∉ tb.map (·.1)) : ∀ x ∈ (treeOf S u).names, x ∉ tb.map (·.1) := fun x hx hm => by
  obtain ⟨_, _, h3⟩ := treeOf_ok T hu
  exact hn (k.conn hm (h3 x hx).symm)
theorem TbOk.add {S : Show} (T : Tidy S) {tb : Table} (k : TbOk S tb) {u : Str} (hu : u ∈ S.bals.map (·.1)) (hn : u ∉ tb.map (·.1)) {h : Rat} {s : Nat} (h0 : 0 ≤ h) (hs : Sm s h) (s50 : 50 ≤ s) (sb : s ≤ 1000) : TbOk S (tb ++ hangT (treeOf S u) h) := by
  obtain ⟨G, h2, h3⟩ := treeOf_ok T hu
  have fr := k.free T hu hn
  have sz := G.size T
  refine ⟨?_, fun x hx => ?_, fun x hx y a => ?_, fun r hr => ?_⟩
  · rw [List.map_append, hangT_names]
    refine List.nodup_append.mpr ⟨k.nd, G.nd, fun x hx y hy e => ?_⟩
    subst e
    exact fr x hy hx
  · rw [List.map_append, hangT_names, List.mem_append] at hx
    rcases hx with hx | hx
    · exact k.sub x hx
    · exact isT_names _ _ G.is x hx
  · rw [List.map_append, hangT_names, List.mem_append] at hx ⊢
    rcases hx with hx | hx
    · exact .inl (k.closed x hx y a)
    · exact .inr (tree_all G.is hx (Conn.one a))
  · rcases List.mem_append.mp hr with hr | hr
    · exact k.sm r hr
    · exact hangT_sm T _ _ G.is G.nd sz h s h0 hs s50 (by omega) r hr
noncomputable def tableFor (S : Show) (fx : Table) : Table := hangAll S S.bals (fx.flatMap fun r => hangT (treeOf S r.1) r.2)
def FxOk (S : Show) (fx : Table) : Prop := fx = [] ∨ ∃ n h, fx = [(n, h)] ∧ n ∈ S.bals.map (·.1) ∧ 0 ≤ h ∧ Sm 900 h
theorem FxOk.tb {S : Show} (T : Tidy S) {fx : Table} (h : FxOk S fx) : TbOk S (fx.flatMap fun r => hangT (treeOf S r.1) r.2) := by
  rcases h with rfl | ⟨n, h, rfl, h1, h2, h3⟩
  · exact TbOk.nil S
  · have := (TbOk.nil S).add T h1 (by simp) h2 h3 (by decide) (by decide)
    simpa using this
theorem Mem.set_self {M : Mem} {p : Addr} {m : MO} (h : M p = some m) : M.set p m = M := by
  funext b; unfold Mem.set
  by_cases e : b = p
  · subst e; rw [if_pos rfl]; exact h.symm
  · rw [if_neg e]
theorem dGet_fz {M : Mem} {p : Addr} {od : Obj} {ks : List (Key × V)} {kvs : List (Key × EV)} {x : Str} (h : M p = some (.fdic od ks kvs)) : dGetE M (.v (.ref p)) (.str x) = some (valE kvs (.inr x)) := by
  unfold dGetE; simp [h, keyD]
noncomputable def T_all_heights : TJ := fun xs M Φ _ => ∃ (S : Show) (p : Addr) (fx : Table), xs = [.d (encShow S), .v (.ref p)] ∧ (Neat S ∧ M p = some (.dic (encTb fx)) ∧ FxOk S fx) ∧
  ∀ q, M q = none → Φ (.v (.ref q)) (M.set q (.dic (encTb (tableFor S fx))))
theorem tb_isSome (tb : Table) (x : Str) : (valE (encTb tb) (.inr x)).isSome = decide (x ∈ tb.map (·.1)) := by
  by_cases h : x ∈ tb.map (·.1)
  · obtain ⟨q, _, e⟩ := valE_tb_in h
    rw [e, decide_eq_true h]; rfl
  · rw [valE_tb h, decide_eq_false h]; rfl
theorem r_all_heights : ∀ xs M Φ Ψ, T_all_heights xs M Φ Ψ → j_all_heights (T_hang 8) T_nought_of (T_pulls 8) { nx := fun _ M' => Φ (.d .none) M', rt := Φ, xr := Ψ } (jstart 6 xs) M := by
  rintro _ M Φ Ψ ⟨S, p, fx, rfl, ⟨N, hM, hfx⟩, hp⟩
  have T := N.tidy
  intro q hq
  have hpq : p ≠ q := by rintro rfl; rw [hq] at hM; cases hM
  have hM1 : (M.set q (.dic [])) p = some (.dic (encTb fx)) := by rw [Mem.set_ne hpq]; exact hM
  -- the second loop
  have second : ∀ (tb : Table), TbOk S tb → hangAll S S.bals tb = tableFor S fx → ∀ x3 x4 x5, jSeq (jFor (jiT (jOp jrIx (jVar 0) (jC (.int 0)))) (jgTup 3 (jgCons (jName 3) (jgCons (jName 4) (jgCons (jName 5) (jgNil))))) (jIfS (jTest (jDIn true (jVar 3) (jVar 2))) (jDrop (jCall (T_hang 8) (jCons (jVar 0) (jCons (jVar 3) (jCons (jC .none) (jCons (jCall T_nought_of (jCons (jCall (T_pulls 8) (jCons (jVar 0) (jCons (jVar 3) (jCons (jC .none) (jNil))))) (jNil))) (jCons (jVar 2) (jNil)))))))) (jNext)))
      (jRet (jVar 2)) { nx := fun _ M' => Φ (.d .none) M', rt := Φ, xr := Ψ } [some (.d (encShow S)), some (.v (.ref p)), some (.v (.ref q)), x3, x4, x5] (M.set q (.dic (encTb tb))) := by
    intro tb hk ht x3 x4 x5
    refine loopF encBal (fun rest ρ M' => ∃ tb, (∀ b ∈ rest, b ∈ S.bals) ∧ TbOk S tb ∧ hangAll S rest tb = tableFor S fx ∧ M' = M.set q (.dic (encTb tb)) ∧
      ∃ x3 x4 x5, ρ = [some (.d (encShow S)), some (.v (.ref p)), some (.v (.ref q)), x3, x4, x5]) ?_ ?_ S.bals _ _ ⟨tb, fun b hb => hb, hk, ht, rfl, _, _, _, rfl⟩
    · rintro ρ M' ⟨tb, _, hk, e, rfl, x3, x4, x5, rfl⟩
      have e : tb = tableFor S fx := e
      rw [e]
      exact hp q hq
    · rintro b rest ρ M' ⟨tb, hr, hk, e, rfl, x3, x4, x5, rfl⟩ N2 hN
      have hb := hr b (by simp)
      have hbn : b.1 ∈ S.bals.map (·.1) := List.mem_map.mpr ⟨b, hb, rfl⟩
      have cell : (M.set q (.dic (encTb tb))) q = some (.dic (encTb tb)) := Mem.set_same
      have e : hangAll S rest (if b.1 ∈ tb.map (·.1) then tb else tb ++ hangT (treeOf S b.1) (zT (treeOf S b.1))) = tableFor S fx := e
      refine tup3 ?_
      show (match dGetE (M.set q (.dic (encTb tb))) (.v (.ref q)) (.str b.1) with
        | some o => _
        | none => False)
      rw [dGet_str cell]
      show sel (true ^^ (valE (encTb tb) (.inr b.1)).isSome) _ _
      rw [tb_isSome]
      refine sel_xdec (fun h => ?_) fun h => ?_
      · rw [if_neg h] at e
        obtain ⟨G, e2, _⟩ := treeOf_ok T hbn
        have sz := G.size T
        have z0 := (G.zero T).nn
        have zs := G.zSm T
        refine ⟨S, treeOf S b.1, none, by rw [e2]; rfl, ⟨N, G, okA_none, sz⟩, ?_⟩
        refine ⟨pullsT (treeOf S b.1), rfl, ⟨_, _, G.tp T, by omega⟩, ?_⟩
        refine ⟨S, treeOf S b.1, none, zT (treeOf S b.1), q, tb, 50, by rw [e2]; rfl, ⟨⟨N, G, okA_none, sz⟩, ⟨z0, zs, by decide, by omega⟩, cell, hk.free T hbn h, by have := hk.len T; omega⟩, ?_⟩
        exact hN _ _ ⟨_, fun c hc => hr c (List.mem_cons_of_mem _ hc), hk.add T hbn h z0 zs (by decide) (by decide), e, by rw [Mem.set_set], _, _, _, rfl⟩
      · rw [if_pos h] at e
        exact hN _ _ ⟨tb, fun c hc => hr c (List.mem_cons_of_mem _ hc), hk, e, rfl, _, _, _, rfl⟩
  -- the first loop
  show (match (M.set q (.dic [])) p with
    | some (.dic kvs) => _
    | _ => False)
  rw [hM1]
  intro od ks
  show (match ((M.set q (.dic [])).set p (.fdic od ks (encTb fx))) p with
    | some (.fdic od ks kvs) => _
    | _ => False)
  rw [Mem.set_same]
  rcases hfx with rfl | ⟨n, h, rfl, h1, h2, h3⟩
  · refine ⟨Mem.set_same, Mem.set_same, ?_⟩
    have e : ((M.set q (.dic [])).set p (.fdic od ks (encTb []))).set p (.dic (encTb [])) = M.set q (.dic (encTb [])) := by
      rw [Mem.set_set, Mem.set_self hM1]; rfl
    rw [e]
    exact second [] (TbOk.nil S) rfl _ _ _
  · obtain ⟨G, e2, _⟩ := treeOf_ok T h1
    have sz := G.size T
    have cp : ((M.set q (.dic [])).set p (.fdic od ks (encTb [(n, h)]))) p = some (.fdic od ks (encTb [(n, h)])) := Mem.set_same
    have cq : ((M.set q (.dic [])).set p (.fdic od ks (encTb [(n, h)]))) q = some (.dic (encTb [])) := by rw [Mem.set_ne (fun z => hpq z.symm)]; exact Mem.set_same
    refine ⟨cp, ?_⟩
    show (match dGetE ((M.set q (.dic [])).set p (.fdic od ks (encTb [(n, h)]))) (.v (.ref p)) (.str n) with
      | some (some z) => _
      | _ => False)
    rw [dGet_fz cp]
    have ev : valE (encTb [(n, h)]) (.inr n) = some (.d (encQ h)) := by
      show valE [(Sum.inr n, EV.d (encQ h))] (.inr n) = _
      rw [valE_cons, if_pos rfl]
    rw [ev]
    refine ⟨S, treeOf S n, none, h, q, [], 900, by rw [e2]; rfl, ⟨⟨N, G, okA_none, sz⟩, ⟨h2, h3, by decide, by omega⟩, cq, fun x _ => by simp, by simp; omega⟩, ?_⟩
    have e3 : (((M.set q (.dic [])).set p (.fdic od ks (encTb [(n, h)]))).set q (.dic (encTb ([] ++ hangT (treeOf S n) h)))).set p (.dic (encTb [(n, h)])) = M.set q (.dic (encTb (hangT (treeOf S n) h))) := by
      funext c
      unfold Mem.set
      by_cases c1 : c = p
      · subst c1
        rw [if_pos rfl, if_neg hpq, hM]
      · rw [if_neg c1]
        by_cases c2 : c = q
        · rw [if_pos c2, if_pos c2]; simp
        · rw [if_neg c2, if_neg c1, if_neg c2, if_neg c2]
    have cp3 : (((M.set q (.dic [])).set p (.fdic od ks (encTb [(n, h)]))).set q (.dic (encTb ([] ++ hangT (treeOf S n) h)))) p = some (.fdic od ks (encTb [(n, h)])) := by rw [Mem.set_ne hpq]; exact cp
    refine ⟨cp3, cp3, ?_⟩
    · rw [e3]
      exact second _ (by simpa using (TbOk.nil S).add T h1 (by simp) h2 h3 (by decide) (by decide)) (by unfold tableFor; simp) _ _ _
theorem never_pulls_of {xs : List EV} {M : Mem} {Φ : JK} {Ψ : JXK} {p : Prop} (h : T_pulls 0 xs M Φ Ψ) : p := by
  obtain ⟨S, t, a, _, ⟨_, _, _, h⟩, _⟩ := h
  have := t.size_pos
  omega
theorem never_hang {xs : List EV} {M : Mem} {Φ : JK} {Ψ : JXK} {p : Prop} (h : T_hang 0 xs M Φ Ψ) : p := by
  obtain ⟨S, t, a, _, _, _, _, _, ⟨⟨_, _, _, h⟩, _⟩, _⟩ := h
  have := t.size_pos
  omega
end Td

/-! TdG4: valid shows, the table as told. -/
namespace Td
open PySem PySem.Spec PyProof.Rows L2

def j_heights (T_all_heights T_need_show : TJ) : JTS :=
  jSeq (jDrop (jCall T_need_show (jCons (jVar 0) (jNil))))
    (jRet (jCB jrSortIt (jCons (jBM0 isDk jrItems (jCall T_all_heights (jCons (jVar 0) (jCons (jDNew) (jNil))))) (jNil))))
/-! ### valid shows -/
structure Valid (S : Show) : Prop where
  show_ : showB (encShow S) = true
  few : S.cords.length ≤ 200
theorem dataLt_trans {x y z : PyData} (h : PySem.W.dataLt x y = true) (g : PySem.W.dataLt y z = true) : PySem.W.dataLt x z = true :=
  (PyProof.Rows.listOrd PyProof.Rows.itemOrd).trans _ _ _ h g
theorem dataLt_irrefl (x : PyData) : PySem.W.dataLt x x = false := (PyProof.Rows.listOrd PyProof.Rows.itemOrd).irrefl (PySem.W.keyToks x)
theorem dataLt_tot {x y : PyData} (h : PySem.W.dataLt x y = false) (g : PySem.W.dataLt y x = false) : PySem.W.keyToks x = PySem.W.keyToks y := (PyProof.Rows.listOrd PyProof.Rows.itemOrd).total (PySem.W.keyToks x) (PySem.W.keyToks y) h g
theorem dataLt_asymm {x y : PyData} (h : PySem.W.dataLt x y = true) : PySem.W.dataLt y x = false := by
  cases e : PySem.W.dataLt y x with
  | false => rfl
  | true =>
    have := dataLt_trans h e
    have i := (PyProof.Rows.listOrd PyProof.Rows.itemOrd).irrefl (PySem.W.keyToks x)
    rw [show PySem.W.dataLt x x = (PyProof.Rows.listOrd PyProof.Rows.itemOrd).blt (PySem.W.keyToks x) (PySem.W.keyToks x) from rfl, i] at this
    cases this
theorem rising_pw : ∀ {ds : List PyData}, risingB ds = true → ds.Pairwise fun a b => PySem.W.dataLt a b = true
  | [], _ => List.Pairwise.nil
  | [_], _ => List.pairwise_singleton _ _
  | x :: y :: r, h => by
    have h : (PySem.W.dataLt x y && risingB (y :: r)) = true := h
    rw [Bool.and_eq_true] at h
    have ih := rising_pw h.2
    refine List.pairwise_cons.mpr ⟨fun z hz => ?_, ih⟩
    rcases List.mem_cons.mp hz with rfl | hz
    · exact h.1
    · exact dataLt_trans h.1 ((List.pairwise_cons.mp ih).1 z hz)
theorem pw_rising : ∀ {ds : List PyData}, (ds.Pairwise fun a b => PySem.W.dataLt a b = true) → risingB ds = true
  | [], _ => rfl
  | [_], _ => rfl
  | x :: y :: r, h => by
    obtain ⟨h1, h2⟩ := List.pairwise_cons.mp h
    show (PySem.W.dataLt x y && risingB (y :: r)) = true
    rw [h1 y (by simp), pw_rising h2]; rfl
theorem sLt_data (a b : Str) : PySem.W.dataLt (.str a) (.str b) = sLt a b := PySem.W.dataLt_str a b
theorem sLt_irrefl (a : Str) : sLt a a = false := by
  rw [← sLt_data]
  exact dataLt_irrefl _
theorem sLt_trans {a b c : Str} (h : sLt a b = true) (g : sLt b c = true) : sLt a c = true := by
  rw [← sLt_data] at *; exact dataLt_trans h g
theorem sLt_asymm {a b : Str} (h : sLt a b = true) : sLt b a = false := by
  rw [← sLt_data] at *; exact dataLt_asymm h
theorem sLt_tot {a b : Str} (h : sLt a b = false) (g : sLt b a = false) : a = b := by
  rw [← sLt_data] at *
  have := dataLt_tot h g
  simp only [PySem.W.keyToks, List.cons.injEq, and_true, Sum.inr.injEq] at this
  exact PySem.W.str_of_cps this
theorem nameOf_bal (b : Bal) : nameOf (encBal b) = b.1 := rfl
theorem cordOf_enc (c : Cord) : cordOf (encCord c) = c := rfl
theorem names_of (L : List Bal) : (L.map encBal).map nameOf = L.map (·.1) := by rw [List.map_map]; rfl
theorem cords_of (L : List Cord) : (L.map encCord).map cordOf = L := by
  rw [List.map_map]
  exact (List.map_congr_left fun c _ => rfl).trans (List.map_id L)
theorem showB_enc (S : Show) : showB (encShow S) = (decide ((1 : Int) ≤ S.bals.length) && (decide ((S.bals.length : Int) ≤ 8) && ((S.bals.map encBal).all balB && (risingB ((S.bals.map (·.1)).map .str) && ((S.cords.map encCord).all (cordB (S.bals.map (·.1))) && (risingB (S.cords.map encCord) && !ringB S.cords)))))) := by
  show (decide ((1 : Int) ≤ (S.bals.map encBal).length) && (decide (((S.bals.map encBal).length : Int) ≤ 8) && ((S.bals.map encBal).all balB && (risingB (((S.bals.map encBal).map nameOf).map .str) && ((S.cords.map encCord).all (cordB ((S.bals.map encBal).map nameOf)) && (risingB (S.cords.map encCord) && !ringB ((S.cords.map encCord).map cordOf))))))) = _
  rw [names_of, cords_of, List.length_map]
structure Parts (S : Show) : Prop where
  one : 1 ≤ S.bals.length
  eight : S.bals.length ≤ 8
  bal : ∀ b ∈ S.bals, nameB (.str b.1) = true ∧ (-1000 ≤ b.2.1 ∧ b.2.1 ≤ 1000) ∧ 1 ≤ b.2.2 ∧ b.2.2 ≤ 100
  ris : (S.bals.map (·.1)).Pairwise fun a b => sLt a b = true
  cord : ∀ c ∈ S.cords, c.1 ∈ S.bals.map (·.1) ∧ c.2.1 ∈ S.bals.map (·.1) ∧ sLt c.1 c.2.1 = true ∧ 0 ≤ c.2.2 ∧ c.2.2 ≤ 1000
  risC : (S.cords.map encCord).Pairwise fun a b => PySem.W.dataLt a b = true
  no : ¬ Ring S.cords
theorem balB_of {b : Bal} (h : nameB (.str b.1) = true ∧ (-1000 ≤ b.2.1 ∧ b.2.1 ≤ 1000) ∧ 1 ≤ b.2.2 ∧ b.2.2 ≤ 100) : balB (encBal b) = true := by
  show (nameB (.str b.1) && (wholeD (.int b.2.1) (-1000) 1000 && wholeD (.int b.2.2) 1 100)) = true
  rw [h.1]
  show (true && ((decide (-1000 ≤ b.2.1) && decide (b.2.1 ≤ 1000)) && (decide (1 ≤ b.2.2) && decide (b.2.2 ≤ 100)))) = true
  rw [decide_eq_true h.2.1.1, decide_eq_true h.2.1.2, decide_eq_true h.2.2.1, decide_eq_true h.2.2.2]; rfl
theorem cordB_of {names : List Str} {c : Cord} (h : c.1 ∈ names ∧ c.2.1 ∈ names ∧ sLt c.1 c.2.1 = true ∧ 0 ≤ c.2.2 ∧ c.2.2 ≤ 1000) : cordB names (encCord c) = true := by
  show (decide (c.1 ∈ names) && (decide (c.2.1 ∈ names) && (sLt c.1 c.2.1 && (decide (0 ≤ c.2.2) && decide (c.2.2 ≤ 1000))))) = true
  rw [decide_eq_true h.1, decide_eq_true h.2.1, h.2.2.1, decide_eq_true h.2.2.2.1, decide_eq_true h.2.2.2.2]; rfl
theorem parts_iff {S : Show} : showB (encShow S) = true ↔ Parts S := by
  rw [showB_enc]
  simp only [Bool.and_eq_true, decide_eq_true_eq, Bool.not_eq_true']
  constructor
  · rintro ⟨h1, h2, h3, h4, h5, h6, h7⟩
    refine ⟨by omega, by omega, fun b hb => ?_, ?_, fun c hc => ?_, rising_pw h6, fun r => by rw [ringB_t r] at h7; cases h7⟩
    · have := List.all_eq_true.mp h3 (encBal b) (List.mem_map.mpr ⟨b, hb, rfl⟩)
      obtain ⟨b', e, h⟩ := balB_enc this
      have : b = b' := by
        obtain ⟨x, y, z⟩ := b
        obtain ⟨x', y', z'⟩ := b'
        simpa [encBal] using e
      rw [this]; exact h
    · have := rising_pw h4
      rw [List.pairwise_map] at this
      exact this.imp fun {a b} h => by rw [← sLt_data]; exact h
    · have := List.all_eq_true.mp h5 (encCord c) (List.mem_map.mpr ⟨c, hc, rfl⟩)
      exact (cordB_enc this).2
  · rintro ⟨h1, h2, h3, h4, h5, h6, h7⟩
    refine ⟨by omega, by omega, List.all_eq_true.mpr fun d hd => ?_, pw_rising ?_, List.all_eq_true.mpr fun d hd => ?_, pw_rising h6, ringB_f h7⟩
    · obtain ⟨b, hb, rfl⟩ := List.mem_map.mp hd
      exact balB_of (h3 b hb)
    · rw [List.pairwise_map]
      exact h4.imp fun {a b} h => by rw [sLt_data]; exact h
    · obtain ⟨c, hc, rfl⟩ := List.mem_map.mp hd
      exact cordB_of (h5 c hc)
theorem name_ok {x : Str} (h : nameB (.str x) = true) : PyData.strOk x = true ∧ x.length ≤ 8 := by
  have h : (decide ((1 : Int) ≤ x.length) && (decide ((x.length : Int) ≤ 8) && x.cps.toList.all fun c => decide (c ∈ letters.cps.toList))) = true := h
  simp only [Bool.and_eq_true, decide_eq_true_eq] at h
  obtain ⟨_, h2, h3⟩ := h
  refine ⟨?_, by omega⟩
  unfold PyData.strOk
  rw [Array.all_eq_true_iff_forall_mem]
  intro c hc
  have := of_decide_eq_true (List.all_eq_true.mp h3 c (Array.mem_toList_iff.mpr hc))
  have all : ∀ c ∈ letters.cps.toList, c < 0x110000 := by decide +kernel
  exact decide_eq_true (all c this)
theorem Parts.neat {S : Show} (P : Parts S) (few : S.cords.length ≤ 200) : Neat S where
  tidy := {
    nd := P.ris.imp fun {a b} h e => by subst e; rw [sLt_irrefl] at h; cases h
    few := P.eight
    bal := fun b hb => (P.bal b hb).2
    ends := fun c hc => by
      obtain ⟨h1, h2, h3, h4, h5⟩ := P.cord c hc
      exact ⟨h1, h2, (fun e => by rw [e, sLt_irrefl] at h3; cases h3), h4, h5⟩
    br := bridge_of P.no }
  oks := fun x hx => by
    obtain ⟨b, hb, rfl⟩ := List.mem_map.mp hx
    exact (name_ok (P.bal b hb).1).1
  few := few
theorem Parts.wide {S : Show} (P : Parts S) (few : S.cords.length ≤ 200) : Wide (encShow S) := by
  have nm : ∀ x ∈ S.bals.map (·.1), Wide (.str x) := fun x hx => by
    obtain ⟨b, hb, rfl⟩ := List.mem_map.mp hx
    obtain ⟨h1, h2⟩ := name_ok (P.bal b hb).1
    exact .str _ (by omega) h1
  refine .tup _ (by show 2 ≤ 200; decide) fun d hd => ?_
  simp only [List.mem_cons, List.not_mem_nil, or_false] at hd
  rcases hd with rfl | rfl
  · refine .tup _ (by rw [List.length_map]; have := P.eight; omega) fun d hd => ?_
    obtain ⟨b, hb, rfl⟩ := List.mem_map.mp hd
    refine .tup _ (by show 3 ≤ 200; decide) fun d hd => ?_
    simp only [List.mem_cons, List.not_mem_nil, or_false] at hd
    rcases hd with rfl | rfl | rfl
    · exact nm _ (List.mem_map.mpr ⟨b, hb, rfl⟩)
    · exact .int _
    · exact .int _
  · refine .tup _ (by rw [List.length_map]; exact few) fun d hd => ?_
    obtain ⟨c, hc, rfl⟩ := List.mem_map.mp hd
    refine .tup _ (by show 3 ≤ 200; decide) fun d hd => ?_
    simp only [List.mem_cons, List.not_mem_nil, or_false] at hd
    rcases hd with rfl | rfl | rfl
    · exact nm _ (P.cord c hc).1
    · exact nm _ (P.cord c hc).2.1
    · exact .int _
theorem Valid.parts {S : Show} (V : Valid S) : Parts S := parts_iff.mp V.show_
theorem Valid.neat {S : Show} (V : Valid S) : Neat S := V.parts.neat V.few
theorem Valid.wide {S : Show} (V : Valid S) : Wide (encShow S) := V.parts.wide V.few

/-! ### the table as told -/
def lookT : Table → Str → Rat
  | [], _ => 0
  | r :: tb, n => if r.1 = n then r.2 else lookT tb n
theorem lookT_mem : ∀ {tb : Table} {n : Str}, n ∈ tb.map (·.1) → (n, lookT tb n) ∈ tb
  | r :: tb, n, h => by
    show (n, if r.1 = n then r.2 else lookT tb n) ∈ r :: tb
    by_cases e : r.1 = n
    · rw [if_pos e, ← e]; exact List.mem_cons_self ..
    · rw [if_neg e]
      rw [List.map_cons, List.mem_cons] at h
      exact List.mem_cons_of_mem _ (lookT_mem (h.resolve_left fun z => e z.symm))
theorem lookT_eq : ∀ {tb : Table} {n : Str} {q : Rat}, (tb.map (·.1)).Nodup → (n, q) ∈ tb → lookT tb n = q
  | r :: tb, n, q, nd, h => by
    rw [List.map_cons, List.nodup_cons] at nd
    show (if r.1 = n then r.2 else lookT tb n) = q
    rcases List.mem_cons.mp h with e | h
    · rw [if_pos (by rw [← e]), ← e]
    · have : r.1 ≠ n := fun z => nd.1 (by rw [z]; exact List.mem_map.mpr ⟨_, h, rfl⟩)
      rw [if_neg this]
      exact lookT_eq nd.2 h
theorem hangAll_ok {S : Show} (T : Tidy S) : ∀ (L : List Bal) (tb : Table), (∀ b ∈ L, b ∈ S.bals) → TbOk S tb → TbOk S (hangAll S L tb) ∧ (∀ r ∈ tb, r ∈ hangAll S L tb) ∧ ∀ b ∈ L, b.1 ∈ (hangAll S L tb).map (·.1)
  | [], tb, _, h => ⟨h, fun _ hx => hx, fun _ hb => by cases hb⟩
  | b :: L, tb, hL, h => by
    have hbn : b.1 ∈ S.bals.map (·.1) := List.mem_map.mpr ⟨b, hL b (by simp), rfl⟩
    have hL' := fun c hc => hL c (List.mem_cons_of_mem _ hc)
    show TbOk S (hangAll S L (if b.1 ∈ tb.map (·.1) then tb else tb ++ hangT (treeOf S b.1) (zT (treeOf S b.1)))) ∧ (∀ r ∈ tb, r ∈ hangAll S L (if b.1 ∈ tb.map (·.1) then tb else tb ++ hangT (treeOf S b.1) (zT (treeOf S b.1)))) ∧
      ∀ c ∈ b :: L, c.1 ∈ (hangAll S L (if b.1 ∈ tb.map (·.1) then tb else tb ++ hangT (treeOf S b.1) (zT (treeOf S b.1)))).map (·.1)
    by_cases q : b.1 ∈ tb.map (·.1)
    · rw [if_pos q]
      obtain ⟨h1, h2, h3⟩ := hangAll_ok T L tb hL' h
      refine ⟨h1, h2, fun c hc => ?_⟩
      rcases List.mem_cons.mp hc with rfl | hc
      · obtain ⟨r, hr, e⟩ := List.mem_map.mp q
        exact List.mem_map.mpr ⟨r, h2 r hr, e⟩
      · exact h3 c hc
    · rw [if_neg q]
      obtain ⟨G, e2, _⟩ := treeOf_ok T hbn
      obtain ⟨h1, h2, h3⟩ := hangAll_ok T L _ hL' (h.add T hbn q (G.zero T).nn (G.zSm T) (by decide) (by decide))
      refine ⟨h1, fun r hr => h2 r (List.mem_append_left _ hr), fun c hc => ?_⟩
      rcases List.mem_cons.mp hc with rfl | hc
      · have : c.1 ∈ (hangT (treeOf S c.1) (zT (treeOf S c.1))).map (·.1) := by
          rw [hangT_names]
          have := Tree.name_mem (treeOf S c.1)
          rw [e2] at this
          exact this
        obtain ⟨r, hr, e⟩ := List.mem_map.mp this
        exact List.mem_map.mpr ⟨r, h2 r (List.mem_append_right _ hr), e⟩
      · exact h3 c hc
theorem tableFor_ok {S : Show} (T : Tidy S) {fx : Table} (h : FxOk S fx) : TbOk S (tableFor S fx) ∧ (∀ r ∈ fx.flatMap fun r => hangT (treeOf S r.1) r.2, r ∈ tableFor S fx) ∧ ∀ x ∈ S.bals.map (·.1), x ∈ (tableFor S fx).map (·.1) := by
  obtain ⟨h1, h2, h3⟩ := hangAll_ok T S.bals _ (fun b hb => hb) (h.tb T)
  refine ⟨h1, h2, fun x hx => ?_⟩
  obtain ⟨b, hb, rfl⟩ := List.mem_map.mp hx
  exact h3 b hb
noncomputable def htF (S : Show) (fx : Table) (n : Str) : Rat := lookT (tableFor S fx) n
noncomputable abbrev ht (S : Show) (n : Str) : Rat := htF S [] n
theorem FxOk.nil (S : Show) : FxOk S [] := .inl rfl
theorem htF_ok {S : Show} (T : Tidy S) {fx : Table} (h : FxOk S fx) {x : Str} (hx : x ∈ S.bals.map (·.1)) : 0 ≤ htF S fx x ∧ Sm 1500 (htF S fx x) := by
  obtain ⟨h1, _, h3⟩ := tableFor_ok T h
  exact h1.sm _ (lookT_mem (h3 x hx))
theorem tb_rows : ∀ {tb : Table}, (tb.map (·.1)).Nodup → (tb.map (·.1)).map (fun n => (n, lookT tb n)) = tb := by
  intro tb nd
  rw [List.map_map]
  conv => rhs; rw [← List.map_id tb]
  refine List.map_congr_left fun r hr => ?_
  show (r.1, lookT tb r.1) = r
  rw [lookT_eq nd (show (r.1, r.2) ∈ tb from hr)]
/-- the rows as told, in the order of the names -/
noncomputable def rowsOf (S : Show) (fx : Table) : List PyData := S.bals.map fun b => .tuple [.str b.1, encQ (htF S fx b.1)]
def rowK (r : Str × Rat) : Key × PyData := (.inr r.1, encQ r.2)
theorem pairD_lt {a b : Str} {p q : Rat} (h : sLt a b = true) : PySem.W.dataLt (pairD (rowK (a, p))) (pairD (rowK (b, q))) = true := by
  have ne : PyData.eqv (.str a) (.str b) = false := by
    cases e : PyData.eqv (.str a) (.str b) with
    | false => rfl
    | true => rw [(str_eq.eq a b).mp e, sLt_irrefl] at h; cases h
  show PySem.W.dataLt (.tuple [.str a, encQ p]) (.tuple [.str b, encQ q]) = true
  rw [PySem.W.dataLt_pair (by simp [PySem.W.alike]) (by simp [PySem.W.alike, PySem.W.alikeAll, encQ]), if_neg (by rw [ne]; decide), sLt_data]
  exact h
theorem leK_anti {a b : Str × Rat} (h : leK (rowK a) (rowK b) = true) (g : leK (rowK b) (rowK a) = true) : a = b := by
  have h1 : PySem.W.dataLt (pairD (rowK b)) (pairD (rowK a)) = false := by
    have : (!PySem.W.dataLt (pairD (rowK b)) (pairD (rowK a))) = true := h
    simpa using this
  have g1 : PySem.W.dataLt (pairD (rowK a)) (pairD (rowK b)) = false := by
    have : (!PySem.W.dataLt (pairD (rowK a)) (pairD (rowK b))) = true := g
    simpa using this
  have := dataLt_tot g1 h1
  simp only [pairD, rowK, keyP, encQ, PySem.W.keyToks, PySem.W.keyToksAll, List.cons_append, List.nil_append, List.cons.injEq, Sum.inl.injEq, Sum.inr.injEq, true_and, and_true] at this
  obtain ⟨e1, e2, e3⟩ := this
  obtain ⟨x, p⟩ := a
  obtain ⟨y, q⟩ := b
  have : x = y := PySem.W.str_of_cps e1
  subst this
  have : p = q := rat_eq e2 (by have e3 : (p.den : Int) = q.den := e3
                                omega)
  rw [this]
theorem sorted_rows {S : Show} (P : Parts S) {fx : Table} (T : Tidy S) (h : FxOk S fx) :
    (((tableFor S fx).map rowK).mergeSort leK).map (fun r => EV.d (pairD r)) = (rowsOf S fx).map .d := by
  obtain ⟨k1, _, k3⟩ := tableFor_ok T h
  have e : ((tableFor S fx).map rowK).mergeSort leK = (S.bals.map fun b => rowK (b.1, htF S fx b.1)) := by
    have tot := PySem.W.sortLe_total (PyProof.Rows.listOrd PyProof.Rows.itemOrd) false fun r : Key × PyData => PySem.W.keyToks (pairD r)
    have srt := List.pairwise_mergeSort (le := leK) (fun a b c h1 h2 => tot.trans a b c h1 h2) (fun a b => by
      rcases tot.total a b with q | q
      · have q : leK a b = true := q
        rw [q]; rfl
      · have q : leK b a = true := q
        rw [q]; simp) ((tableFor S fx).map rowK)
    have prm : ((tableFor S fx).map rowK).mergeSort leK |>.Perm (S.bals.map fun b => rowK (b.1, htF S fx b.1)) := by
      refine (List.mergeSort_perm _ _).trans ?_
      have p1 : ((tableFor S fx).map (·.1)).Perm (S.bals.map (·.1)) := (List.perm_ext_iff_of_nodup k1.nd T.nd).mpr fun x => ⟨k1.sub x, k3 x⟩
      have p2 := p1.map fun n => rowK (n, lookT (tableFor S fx) n)
      have e1 : (tableFor S fx).map rowK = ((tableFor S fx).map (·.1)).map fun n => rowK (n, lookT (tableFor S fx) n) := by
        conv => lhs; rw [← tb_rows k1.nd]
        rw [List.map_map]; rfl
      have e2 : (S.bals.map fun b => rowK (b.1, htF S fx b.1)) = (S.bals.map (·.1)).map fun n => rowK (n, lookT (tableFor S fx) n) := by rw [List.map_map]; rfl
      rw [e1, e2]; exact p2
    refine List.Perm.eq_of_pairwise (le := fun a b => leK a b = true) (fun a b ha hb h1 h2 => ?_) srt ?_ prm
    · have ha := (List.mergeSort_perm _ _).mem_iff.mp ha
      obtain ⟨r, _, rfl⟩ := List.mem_map.mp ha
      obtain ⟨c, _, rfl⟩ := List.mem_map.mp hb
      rw [leK_anti h1 h2]
    · rw [List.pairwise_map]
      have := P.ris
      rw [List.pairwise_map] at this
      refine this.imp fun {a b} h => ?_
      show (!PySem.W.dataLt (pairD (rowK (b.1, htF S fx b.1))) (pairD (rowK (a.1, htF S fx a.1)))) = true
      rw [dataLt_asymm (pairD_lt h)]; rfl
  rw [e]
  unfold rowsOf
  rw [List.map_map, List.map_map]
  rfl
/-! ### heights -/
noncomputable def T_heights : TJ := fun xs M Φ _ => ∃ S : Show, xs = [.d (encShow S)] ∧ Valid S ∧ ∀ l, M l = none → Φ (.v (.ref l)) (M.set l (.lst ((rowsOf S []).map .d)))
theorem tb_dic (tb : Table) : encTb tb = (tb.map rowK).map fun r => (r.1, .d r.2) := by
  unfold encTb; rw [List.map_map]; rfl
theorem alike_rows (tb : Table) : PySem.W.AllAlike ((tb.map rowK).map pairD) := by
  intro d hd e he
  obtain ⟨r, hr, rfl⟩ := List.mem_map.mp hd
  obtain ⟨r0, _, rfl⟩ := List.mem_map.mp hr
  obtain ⟨s, hs, rfl⟩ := List.mem_map.mp he
  obtain ⟨s0, _, rfl⟩ := List.mem_map.mp hs
  simp [pairD, rowK, keyP, encQ, PySem.W.alike, PySem.W.alikeAll]
/-- sorted(table.items()), the table new -/
theorem do_sorted_items {S : Show} {fx : Table} {M : Mem} {q : Addr} {Φ : JK} (P : Parts S) (T : Tidy S) (h : FxOk S fx) (hq : M q = some (.dic (encTb (tableFor S fx)))) (hp : ∀ r l, M r = none → (M.set r (.raw (L2.DX.itemsO r q))) l = none → Φ (.v (.ref l)) ((M.set r (.raw (L2.DX.itemsO r q))).set l (.lst ((rowsOf S fx).map .d)))) :
    isDk (.v (.ref q)) M ∧ jrItems (.v (.ref q)) [] M fun x M1 => jrSortIt [x] M1 Φ := by
  refine ⟨by unfold isDk; simp [hq], ?_⟩
  show (match M q with
    | some (.dic _) => ∀ p, M p = none → jrSortIt [.v (.ref p)] (M.set p (.raw (L2.DX.itemsO p q))) Φ
    | _ => False)
  rw [hq]
  intro r hr
  have hqr : q ≠ r := by rintro rfl; rw [hr] at hq; cases hq
  refine ⟨q, (tableFor S fx).map rowK, Mem.set_same, by rw [Mem.set_ne hqr, hq, tb_dic], alike_rows _, fun r hr => ?_, fun l hl => ?_⟩
  · obtain ⟨s, _, rfl⟩ := List.mem_map.mp hr
    exact Nat.le_trans (encQ_shp s.2).deep (by decide)
  · rw [sorted_rows P T h]
    exact hp r l hr hl
theorem r_heights : ∀ xs M Φ Ψ, T_heights xs M Φ Ψ → j_heights T_all_heights T_need_show { nx := fun _ M' => Dr Φ (.d .none) M', rt := Dr Φ, xr := DrX Ψ } (jstart 1 xs) M := by
  rintro _ M Φ Ψ ⟨S, rfl, V, hp⟩
  refine ⟨_, rfl, ⟨V.wide, V.show_⟩, ?_⟩
  intro p hp0
  refine ⟨S, p, [], rfl, ⟨V.neat, Mem.set_same, .nil S⟩, fun q hq => ?_⟩
  have hqp : q ≠ p := by rintro rfl; rw [Mem.set_same] at hq; cases hq
  have hq0 : M q = none := by rw [Mem.set_ne hqp] at hq; exact hq
  refine do_sorted_items V.parts V.neat.tidy (.nil S) Mem.set_same fun r l hr hl => ?_
  have m0 : ∀ a, M a ≠ none → (((M.set p (.dic [])).set q (.dic (encTb (tableFor S [])))).set r (.raw (L2.DX.itemsO r q))) a = M a := by
    intro a ha
    have np : a ≠ p := by rintro rfl; exact ha hp0
    have nq : a ≠ q := by rintro rfl; exact ha hq0
    have nr : a ≠ r := by
      rintro rfl
      rw [Mem.set_ne nq, Mem.set_ne np] at hr
      exact ha hr
    rw [Mem.set_ne nr, Mem.set_ne nq, Mem.set_ne np]
  have hl0 : M l = none := Classical.byContradiction fun z => by
    rw [m0 l z] at hl; exact z hl
  refine ⟨M.set l (.lst ((rowsOf S []).map .d)), fun a m e => ?_, hp l hl0⟩
  by_cases el : a = l
  · subst el; rw [Mem.set_same] at e ⊢; exact e
  · rw [Mem.set_ne el] at e ⊢
    rw [m0 a (by rw [e]; simp)]; exact e
end Td

/-! TdJ8: three at once, dict(list of pairs), truths by is. -/
namespace Td
open PySem PySem.Spec PyProof.Rows L2

def jPar3 (i j l : Nat) (ja : JTA) : JTS := fun J ρ M => ja ρ M fun xs M1 => match xs with
  | [x, y, z] => J.nx (((ρ.set i (some x)).set j (some y)).set l (some z)) M1
  | _ => False
section
variable {X : Cx} {E : XK}
theorem js_par3 {i j l : Nat} {x y z : Str} {a b c : Expr} {ja : JTA} {px py pz pt pos : Pos} {kt k2 pt2} (hc : X.calm = true) (hN : X.N.Nodup) (hi : X.N[i]? = some x) (hj : X.N[j]? = some y) (hl : X.N[l]? = some z) (hij : i ≠ j) (hil : i ≠ l) (hjl : j ≠ l)
    (hx : X.env.scope.names.lookup x = some .local) (hy : X.env.scope.names.lookup y = some .local) (hz : X.env.scope.names.lookup z = some .local) (ha : JA X [a, b, c] ja)
    (hw : swappedStores [.Tuple [.Name x px, .Name y py, .Name z pz] kt pt] (.Tuple [a, b, c] k2 pt2) X.env = pure (some [x, y, z]))
    (hs : swapsWithSole [.Tuple [.Name x px, .Name y py, .Name z pz] kt pt] (.Tuple [a, b, c] k2 pt2) pos.line X.env = pure false := by rfl) :
    JS X E (.Assign [.Tuple [.Name x px, .Name y py, .Name z pz] kt pt] (.Tuple [a, b, c] k2 pt2) pos) (jPar3 i j l ja) := (ps_par3 hc hN hi hj hl hij hil hjl hx hy hz ha hw hs).imp fun D σ H ⟨F, ρ, M, J, W, S, h, lD⟩ =>
  rdA.at W S h fun vs H1 F1 xs M1 e1 W1 r1 h1 => by
    match xs, r1, h1 with
    | [x, y, z], .cons rx (.cons ry (.cons rz .nil)), h1 => exact ⟨_, _, _, rfl, lD.nx _ H1 F1 _ M1 e1 W1 ((((S.mono e1).set rx i).set ry j).set rz l) h1⟩
/-! dict(list of pairs) -/
def pairK : PyData → Option (Key × PyData)
  | .tuple [k, v] => match keyD k with
    | some k => some (k, v)
    | none => none
  | _ => none
def pairsK : List PyData → Option (List (Key × PyData))
  | [] => some []
  | d :: r => match pairK d, pairsK r with
    | some p, some ps => some (p :: ps)
    | _, _ => none
def mergeE (kvs more : List (Key × EV)) : List (Key × EV) := more.foldl (fun acc kv => putE acc kv.1 kv.2) kvs
theorem KVD.merge {K : PySem.W.Frag} {F : Hp} {more : List (Key × V)} {mores : List (Key × EV)} (h : KVD K F more mores) : ∀ {ks : List (Key × V)} {kvs : List (Key × EV)}, KVD K F ks kvs → KVD K F (mergeK ks more) (mergeE kvs mores) := by
  unfold KVD at h
  induction h with
  | nil => intro ks kvs q; exact q
  | @cons p q ps qs h t ih =>
    intro ks kvs r
    have e : KVD K F (putK ks p.1 p.2) (putE kvs q.1 q.2) := by rw [h.1]; exact r.put q.1 h.2
    exact ih e
def jrDictL : JRC := fun xs M Φ => match xs with
  | [x] => match rdLD M x with
    | some ds => match pairsK ds with
      | some kvs => ∀ p, M p = none → Φ (.v (.ref p)) (M.set p (.dic (mergeE [] (kvs.map fun r => (r.1, .d r.2)))))
      | none => False
    | none => False
  | _ => False
theorem pairsK_ok {K : PySem.W.Frag} {F : Hp} : ∀ {vs : List V} {ds : List PyData} {kvs : List (Key × PyData)}, DqAll K F vs ds → pairsK ds = some kvs →
    ∃ (ps : List Addr) (ks : List (Key × V)), vs = ps.map V.ref ∧ Paired (fun p kv => SqT K F p [kV kv.1, kv.2]) ps ks ∧ KVD K F ks (kvs.map fun r => (r.1, .d r.2))
  | _, [], _, h, e => by cases h; cases e; exact ⟨[], [], rfl, .nil, .nil⟩
  | _, d :: ds, _, h, e => by
    cases h with
    | cons h t =>
      unfold pairsK at e
      split at e
      · rename_i p ps e1 e2
        cases e
        obtain ⟨as, ks, r1, r2, r3⟩ := pairsK_ok t e2
        unfold pairK at e1
        split at e1
        · rename_i k v
          split at e1
          · rename_i k' ek
            cases e1
            obtain ⟨a, xs, rfl, h1, h2⟩ := Dq.tuple h
            cases h2 with
            | cons q1 q2 => cases q2 with
              | cons q2 q3 =>
                cases q3
                rename_i u1 u2
                have := keyD_ok q1 ek
                subst this
                exact ⟨a :: as, (k', u2) :: ks, by rw [List.map_cons, ← r1], .cons h1 r2, .cons ⟨rfl, q2⟩ r3⟩
          · cases e1
        · cases e1
      · cases e
theorem cj_dictL (hc : X.calm = true) : CallJ X (.type "dict") jrDictL := ⟨_, call_dictP hc, fun F M H vs xs Φ Q W r q l => by
  unfold jrDictL at q
  split at q
  · rename_i x
    split at q
    · rename_i ds e
      split at q
      · rename_i kvs e2
        cases r with
        | cons r t =>
          cases t
          obtain ⟨a, ws, rfl, h1, h2⟩ := rdLD_ok W r e
          obtain ⟨ps, ks, r1, r2, r3⟩ := pairsK_ok h2 e2
          refine ⟨a, ps, ks, rfl, by rw [← r1]; exact SqL.of h1, Paired.mapP r2 fun _ _ z => W.sub.sqT z, fun p hp => ?_⟩
          exact l _ _ F (.v (.ref p)) _ (Le.refl F) (W.cell (m := .dic _) hp fun H' e => ⟨_, e, KVD.merge r3 .nil⟩) rfl (q p (W.freeM hp))
      · exact q.elim
    · exact q.elim
  · exact q.elim⟩
/-! truths by is -/
def jrIsB (neg : Bool) : JR2 := fun x y M Φ => match x, y with
  | .d (.bool i), .d (.bool j) => Φ (.d (.bool (neg ^^ decide (i = j)))) M
  | _, _ => False
theorem oj_isB : OpJ X (compareOp .Is) (jrIsB false) := ⟨_, op_isBl, fun F M H x y X Y Φ Q W rx ry q l => by
  unfold jrIsB at q
  split at q
  · cases rx; cases ry
    refine ⟨_, _, rfl, rfl, l _ _ F _ M (Le.refl F) W (VD.bl _) ?_⟩
    rw [xor_f] at q; exact q
  · exact q.elim⟩
theorem oj_notB : OpJ X (compareOp .IsNot) (jrIsB true) := ⟨_, op_notBl, fun F M H x y X Y Φ Q W rx ry q l => by
  unfold jrIsB at q
  split at q
  · cases rx; cases ry
    refine ⟨_, _, rfl, rfl, l _ _ F _ M (Le.refl F) W (VD.bl _) ?_⟩
    rw [xor_t] at q; exact q
  · exact q.elim⟩
end
section
variable {X : Cx} {p pos : Pos} {e : Expr} {es : List Expr} {ja : JTA}
theorem jb_dictL (B : Blt X.mg) (ha : JA X (e :: es) ja) (hc : X.calm = true := by rfl) (hg : Gl X "dict" := by rfl) (he : starEach (e :: es) X.env = (false, eval e X.env) :: starEach es X.env := by rfl) (hpl : (backTo pos (starEach es X.env)).any (·.1) = false := by rfl) :
    JE X (.Call (.Name "dict" p) (e :: es) [] pos) (jCB jrDictL ja) := je_callTy (cj_dictL hc) hg B.dict bt_dict ha (by decide) (by decide) he hpl
end

/-! ### the script -/
theorem atI_natX {α : Type} {xs : List α} {i : Nat} {z : α} (h : xs[i]? = some z) : atI xs (i : Int) = some z := by
  obtain ⟨h1, h2⟩ := List.getElem?_eq_some_iff.mp h
  unfold atI
  have : ixN xs.length (i : Int) = some i := by
    unfold ixN
    rw [if_pos (by omega), if_pos (by omega)]
    congr 1
  rw [this]
  exact h
/-- a list of ints that nothing changes: the module's own, or one that is written out in H -/
def Scr (K : PySem.W.Frag) (M : Mem) (a : Addr) (ns : List Int) : Prop := (∃ o, M a = some (.raw o) ∧ ∀ H : Hp, H a = some o → SqL K H a (ns.map V.int)) ∨ ∀ H : Hp, SqL K H a (ns.map V.int)
theorem Scr.sq {K : PySem.W.Frag} {M : Mem} {H F : Hp} {a : Addr} {ns : List Int} (W : Wd K M H F) (h : Scr K M a ns) : SqL K H a (ns.map V.int) := by
  rcases h with ⟨o, h, g⟩ | h
  · exact g H (W.mem _ _ h).2
  · exact h H
theorem Scr.set {K : PySem.W.Frag} {M : Mem} {a p : Addr} {ns : List Int} {m : MO} (h : Scr K M a ns) (hp : ∀ o, M p ≠ some (.raw o)) : Scr K (M.set p m) a ns := by
  rcases h with ⟨o, h, g⟩ | h
  · have : a ≠ p := by rintro rfl; exact hp o h
    exact .inl ⟨o, by rw [Mem.set_ne this]; exact h, g⟩
  · exact .inr h
theorem Scr.mle {K : PySem.W.Frag} {M M' : Mem} {a : Addr} {ns : List Int} (h : Scr K M a ns) (e : MLe M M') : Scr K M' a ns := by
  rcases h with ⟨o, h, g⟩ | h
  · exact .inl ⟨o, e _ _ h, g⟩
  · exact .inr h
def jrLenSc (K : PySem.W.Frag) : JRC := fun xs M Φ => ∃ a ns, xs = [.v (.ref a)] ∧ Scr K M a ns ∧ Φ (.d (.int ns.length)) M
def jrIxSc (K : PySem.W.Frag) : JR2 := fun x y M Φ => ∃ (a : Addr) (ns : List Int) (i : Nat) (c : Int), x = .v (.ref a) ∧ y = .d (.int (i : Nat)) ∧ Scr K M a ns ∧ ns[i]? = some c ∧ Φ (.d (.int c)) M
section
variable {X : Cx}
theorem cj_lenSc : CallJ X (.builtin "len") (jrLenSc X.K) := ⟨_, call_len_seq, fun F M H vs xs Φ Q W r ⟨a, ns, e, hs, q⟩ l => by
  subst e
  cases r with
  | cons r t =>
    cases t
    cases (show _ = V.ref a from r)
    refine ⟨a, _, rfl, .inl (hs.sq W), l _ H F _ M (Le.refl F) W (VD.int _) ?_⟩
    rw [List.length_map]; exact q⟩
theorem je_ixSc {a b : Expr} {ja jb : JTE} {pos : Pos} (ha : JE X a ja) (hb : JE X b jb) (hs : PlainIx b := by intro _ _; rfl) : JE X (.Subscript a b pos) (jOp (jrIxSc X.K) ja jb) :=
  (pe_ix ix_list ha hb hs).imp fun _ _ _ => snd_op fun F M H x y A B Φ Q W rx ry q l => by
    obtain ⟨a, ns, i, c, rfl, rfl, hs, hc, q⟩ := q
    cases (show x = V.ref a from rx)
    cases ry
    refine ⟨a, _, (i : Nat), .int c, rfl, rfl, hs.sq W, ?_, l _ H F _ M (Le.refl F) W (VD.int _) q⟩
    exact atI_natX (by rw [List.getElem?_map, hc]; rfl)
end
section
variable {X : Cx} {p pos : Pos} {e : Expr} {es : List Expr} {ja : JTA}
theorem jb_lenSc (B : Blt X.mg) (ha : JA X (e :: es) ja) (hg : Gl X "len" := by rfl) (he : starEach (e :: es) X.env = (false, eval e X.env) :: starEach es X.env := by rfl) (hpl : (backTo pos (starEach es X.env)).any (·.1) = false := by rfl) :
    JE X (.Call (.Name "len" p) (e :: es) [] pos) (jCB (jrLenSc X.K) ja) := je_callB cj_lenSc hg B.len bt_len ha (by decide) (by decide) he hpl
end
end Td

/-! TdJ9: enumerate of a tuple. -/
namespace PySem
open Sem (wp)
set_option maxHeartbeats 1000000 in
theorem td_enum_new {v : Value} {o : Obj} {H : Heap → Prop} (B : Begins v o H) :
    Meets (Builtin.«enumerate.__new__» ⟨[.type "enumerate", v], []⟩) (fun _ R s => H s.heap ∧
      R (.ok (.ret (.ref (s.heap.push o).objs.size))) { s with heap := (s.heap.push o).push { cls := .type "enumerate", data := .fields #[.none, .bool false, .ref s.heap.objs.size, rawInt 0, .none, .none] } }) :=
  .of_wp fun prog w A R s h => by
    obtain ⟨hp, g, d, tk, os⟩ := s; obtain ⟨h1, h⟩ := h
    have hsub := sub_enumerate
    have q1 : ∀ {A' : Around} {E : Value → Shared → Prop} {Q : Value → Shared → Prop}, Q (.ref hp.objs.size) ⟨hp.push o, g, d, tk, os⟩ → wpAny (model prog w) A' (pyIter v) Q E ⟨hp, g, d, tk, os⟩ :=
      fun q => B.iter prog w _ _ ⟨hp, g, d, tk, os⟩ _ h1 q
    wp_walk using q1
    refine wpAny_stack_any fun st => wpAny_pure ?_
    split
    · rename_i c _ _ _ _ _
      cases (c == Value.type "enumerate")
      · wp_walk using q1
        exact ⟨_, rfl, h⟩
      · wp_walk using q1
        exact ⟨_, rfl, h⟩
    · wp_walk using q1
      exact ⟨_, rfl, h⟩
theorem td_enum_call {prog : Program} {w : World} {A : Around} {E : Value → Shared → Prop} {s : Shared} {v : Value} {o : Obj} {H : Heap → Prop} {Q : Value → Shared → Prop} (B : Begins v o H) (h1 : H s.heap)
    (h : ∀ h', IsEnum h' (s.heap.objs.size + 1) s.heap.objs.size 0 .none → h'.get? s.heap.objs.size = some o → h'.objs.size = s.heap.objs.size + 2 →
      (∀ b o, s.heap.get? b = some o → h'.get? b = some o) → Q (.ref (s.heap.objs.size + 1)) { s with heap := h' }) :
    wpAny (model prog w) A (call (.type "enumerate") [v]) Q E s := by
  refine callType_new F.called_enumerate (by decide) (F.typeCall_enumerate_1 _) (F.newCall_enumerate_1 _) (fun obj => F.args_object_init_2 obj _) F.entry_enumerate_new
    (td_enum_new B) ⟨h1, ?_⟩
  have hz : (s.heap.push o).objs.size = s.heap.objs.size + 1 := Heap.size_push ..
  show _ ∧ _
  rw [hz]
  have he : IsEnum ((s.heap.push o).push { cls := .type "enumerate", data := .fields #[.none, .bool false, .ref s.heap.objs.size, rawInt 0, .none, .none] }) (s.heap.objs.size + 1) s.heap.objs.size 0 .none := by
    have := Heap.get?_push_size (s.heap.push o) (o := { cls := .type "enumerate", data := .fields #[.none, .bool false, .ref s.heap.objs.size, rawInt 0, .none, .none] }) rfl
    rw [hz] at this; exact this
  refine ⟨⟨_, he, rfl⟩, h _ he (Heap.get?_push_of_some _ (Heap.get?_push_size _ B.free)) (by rw [Heap.size_push, hz]) fun b o x => Heap.get?_push_of_some _ (Heap.get?_push_of_some _ x)⟩
end PySem
namespace Td
open PySem PySem.Spec PyProof.Rows L2
theorem td_draws_end {prog : Program} {w : World} {A : Around} (hh : A.handled = none) (it t : Addr) (n : Nat) (items : Array Value) (hn : items.size ≤ n) :
    Draws prog w A it [it, t] n (fun _ _ => False) (fun j h => j = n ∧ h.IsTupleIter it t n ∧ h.IsTuple t items) where
  live := fun _ _ st => let ⟨o, ho, _⟩ := st.2.1; ⟨o, ho⟩
  frame := fun _ _ _ st hk => ⟨st.1, st.2.1.at fun o e => hk it (by simp) o e, st.2.2.at fun o e => hk t (by simp) o e⟩
  item := fun i s Q E hi st hQ => absurd st.1 (Nat.ne_of_lt hi)
  done := fun s Q E st hE => wpAny_nextOf_tuple_end hh st.2.1 st.2.2 (by simp; omega) hE
/-- the tuple at a, its items numbered -/
def IteT (K : PySem.W.Frag) (a : Addr) : It :=
  ⟨fun i H => ∃ xs x, SqT K H a xs ∧ xs[i]? = some x,
    fun i H v H' => ∃ T x, v = .ref T ∧ H T = none ∧ H' = upd H T (.tup [.int (i : Nat), x]) ∧ ∀ xs, SqT K H a xs → xs[i]? = some x,
    fun i H => ∃ xs, SqT K H a xs ∧ xs.length ≤ i⟩
theorem turn_enumT {P : Program} {w : World} {K : PySem.W.Frag} {elts : List Expr} {kk : Nat} {tpos : Pos} (a e it : Addr) :
    Turn P w K (.Tuple elts kk tpos) (IteT K a) [e, it] e (fun i h => (∃ old, IsEnum h e it ((i : Nat) : Int) old) ∧ h.IsTupleIter it a i ∧ e ≠ it) where
  mem := by simp
  obj := fun i h st b hb => by
    obtain ⟨⟨old, he⟩, ⟨o, ho, hc, hd⟩, _⟩ := st
    have e' : b = e ∨ b = it := by simpa using hb
    rcases e' with z | z
    · rw [z]; exact ⟨_, he, fun v q => nomatch q⟩
    · rw [z]; exact ⟨o, ho, fun v q => by rw [hd] at q; cases q⟩
  keep := fun i h h' st k => let ⟨⟨old, he⟩, hi, hne⟩ := st; ⟨⟨old, k e (by simp) _ he⟩, hi.at fun o q => k it (by simp) o q, hne⟩
  item := by
    intro X hP hw hK hc i pins s σ H E I hf st hg
    subst hP hw hK
    obtain ⟨⟨old, he⟩, hit, hne⟩ := st
    obtain ⟨xs, x, hq, hx⟩ := hg
    obtain ⟨its, rv, p, hz⟩ := I.tuple hq
    have p : s.heap.IsTuple a its.toArray := p
    obtain ⟨u, hu, ru⟩ := rv.get hx
    have hel : e < s.heap.objs.size := Heap.lt_size he
    have hil : it < s.heap.objs.size := by obtain ⟨_, q, _⟩ := hit; exact Heap.lt_size q
    have hea : e ≠ a := fun z => by
      obtain ⟨o, ho, hc, _⟩ := p
      rw [← z] at ho
      have := he.symm.trans ho
      cases this
      exact absurd (show Value.type "enumerate" = .type "tuple" from hc) (by decide)
    have hia : a ≠ it := fun z => by
      obtain ⟨o, ho, hc, _⟩ := p
      obtain ⟨o2, ho2, hc2, _⟩ := hit
      rw [z] at ho
      have := ho.symm.trans ho2
      cases this
      exact absurd (hc.symm.trans hc2) (by decide)
    have hul : i < its.toArray.size := by
      have := List.getElem?_eq_some_iff.mp hu
      simpa using this.1
    refine wpAny_pyNext_enum_itemC (Draws.tuple (A := X.A.in1) (show X.A.in1.handled = none from I.ok.hd hc) it a hia its.toArray) he ⟨hit, p⟩ hul hne (by simp [hne, hea]) fun x' h' tk hx' ho ⟨hit', _⟩ hT hsz hk => ?_
    have hx' : its.toArray[i]? = some x' := hx'
    rw [List.getElem?_toArray, hu] at hx'
    cases hx'
    refine ⟨_, rfl, wpAny_letOwnedTupleGo_enum (s := { s with heap := h', toks := tk + 1 }) ho fun h'' he' sb => ?_⟩
    have hT2 : h''.get? s.heap.objs.size = some { cls := .type "tuple", data := .seq #[.int i tk, u] } := (sb.2 _ (Nat.ne_of_gt hel)).trans hT
    have new : ObjOk X.prog X.w (upd H s.heap.objs.size (.tup [.int (i : Nat), x])) h'' s.heap.objs.size (.tup [.int (i : Nat), x]) :=
      ⟨by show 2 ≤ sizeLine; decide, [.int i tk, u], .cons ⟨_, rfl⟩ (.cons ru .nil), ⟨_, hT2, rfl, _, rfl⟩⟩
    have I1 : Inv X pins σ (upd H s.heap.objs.size (.tup [.int (i : Nat), x])) { s with heap := h'', toks := tk + 1 } :=
      I.turnedNew (ch := [e, it]) (fun b ob hb q => (sb.2 b (fun z => hb (by simp [z]))).trans (hk b ob (fun z => hb (by simp [z])) (fun z => hb (by simp [z])) q)) hf (Nat.le_refl _) new
    refine ⟨.ref s.heap.objs.size, _, I1, rfl, ⟨_, x, rfl, I.hok.fresh (Nat.le_refl _), rfl, fun ys hy => by rw [I.tuple_inj hy hq]; exact hx⟩, ⟨⟨u, ?_⟩, hit'.at fun o q => (sb.2 it (Ne.symm hne)).trans q, hne⟩, fun b hb => ?_⟩
    · have e1 : ((i + 1 : Nat) : Int) = (i : Int) + 1 := by omega
      rw [e1]; exact he'
    · have hb' : b < s.heap.objs.size := by
        have e' : b = e ∨ b = it := by simpa using hb
        rcases e' with z | z
        · rw [z]; exact hel
        · rw [z]; exact hil
      rw [upd_ne (Nat.ne_of_lt hb')]
      exact (hf b hb).1
  done := by
    intro X hP hw hK hc i pins s σ H E I hf st hg
    subst hP hw hK
    obtain ⟨⟨old, he⟩, hit, hne⟩ := st
    obtain ⟨xs, hq, hx⟩ := hg
    obtain ⟨its, rv, p, hz⟩ := I.tuple hq
    have p : s.heap.IsTuple a its.toArray := p
    obtain ⟨f0, f1, f2, f3, f4, f5⟩ := hf it (by simp)
    have hl := rv.length
    have hia : a ≠ it := fun z => by
      obtain ⟨o, ho, hc, _⟩ := p
      obtain ⟨o2, ho2, hc2, _⟩ := hit
      rw [z] at ho
      have := ho.symm.trans ho2
      cases this
      exact absurd (hc.symm.trans hc2) (by decide)
    exact wpAny_pyNext_enum_endD (td_draws_end (A := X.A.in1) (show X.A.in1.handled = none from I.ok.hd hc) it a i its.toArray (by simp; omega)) he ⟨rfl, hit, p⟩ fun h' eb => ⟨rfl, I.turned (t' := s.toks) (fun b o hb q => eb b o hb q) f0 f1 f3 f4 f5⟩
  self := fun A i s Q E st h => let ⟨⟨_, he⟩, _⟩ := st; wpAny_pyIter_enum he h
def iEnumT (K : PySem.W.Frag) (ta : TA) : TI := fun σ H R => ta σ H fun vs H1 => ∃ a xs, vs = [.ref a] ∧ SqT K H1 a xs ∧ R (IteT K a) H1
theorem pi_enumT {X : Cx} {e : Expr} {ta : TA} {p pos tpos : Pos} {elts : List Expr} {kk : Nat} (hg : Gl X "enumerate") (hm : X.mg "enumerate" = none) (ha : PA X [e] ta) (hs : starEach [e] X.env = [(false, eval e X.env)] := by rfl) :
    PI X (.Tuple elts kk tpos) (.Call (.Name "enumerate" p) [e] [] pos) (iEnumT X.K ta) := by
  refine ⟨fun pins s σ H R I h => ?_⟩
  refine Call_ (ld_blt I hg hm boot_enumerate (PyProof.Rows.callWith_type1 (thn (ha.run pos pins s σ H _ I h) fun us s1 ⟨vs, H1, I1, r1, q1⟩ => ?_) hs rfl))
  obtain ⟨a, xs, ex, hq, q⟩ := q1
  subst ex
  cases r1 with
  | cons r rr =>
    cases rr
    cases r
    obtain ⟨its, rv, p', hz⟩ := I1.tuple hq
    have p' : s1.heap.IsTuple a its.toArray := p'
    refine td_enum_call (begins_tuple a its.toArray) p' fun h' he hit hsz hk => wpAny_pyIter_enum he ?_
    have I2 : Inv X pins σ H1 { s1 with heap := h' } := I1.kept (t' := s1.toks) hk
    refine ⟨s1.heap.objs.size + 1, [s1.heap.objs.size + 1, s1.heap.objs.size], _, _, H1, rfl, I2, turn_enumT a (s1.heap.objs.size + 1) s1.heap.objs.size, ⟨⟨.none, he⟩, ⟨_, hit, rfl, rfl⟩, Nat.succ_ne_self _⟩, fun b hb => ?_, q⟩
    have e' : b = s1.heap.objs.size + 1 ∨ b = s1.heap.objs.size := by simpa using hb
    have hle : s1.heap.objs.size ≤ b := by
      rcases e' with z | z
      · rw [z]; exact Nat.le_add_right _ _
      · rw [z]; exact Nat.le_refl _
    exact I1.fpOk hle (I1.hok.fresh hle)

def jiET (ja : JTA) : JTI := fun ρ M Φ => ja ρ M fun xs M1 => match xs with
  | [.d (.tuple ds)] => Φ (.fixed (enumD 0 ds)) M1
  | _ => False
theorem ji_enumT {X : Cx} {e : Expr} {ja : JTA} {p pos tpos : Pos} {elts : List Expr} {kk : Nat} (hg : Gl X "enumerate") (hm : X.mg "enumerate" = none) (ha : JA X [e] ja) (hs : starEach [e] X.env = [(false, eval e X.env)] := by rfl) :
    JI X (.Tuple elts kk tpos) (.Call (.Name "enumerate" p) [e] [] pos) (jiET ja) :=
  (pi_enumT hg hm ha hs).imp fun σ H R ⟨F, ρ, M, Φ, W, S, h, l⟩ => rdA.at W S h fun vs H1 F1 xs M1 e1 W1 r1 h1 => by
    match xs, r1, h1 with
    | [.d (.tuple ds)], .cons r .nil, h1 =>
      obtain ⟨a, vs, rfl, h3, h4⟩ := Dq.tuple r
      refine ⟨a, vs, rfl, W1.sub.sqT h3, l _ M1 F1 H1 _ e1 W1 h1 trivial ⟨fun i H G M x e W ok hx => ?_, fun i H G M e W ok hi => ?_⟩⟩
      · obtain ⟨d, hd, rfl⟩ := enumD_get (show (enumD 0 ds)[i]? = some x from hx)
        obtain ⟨v, hv, rv⟩ := (h4.mono e).get' hd
        have hl := W.sub.sqT (e.sqT h3)
        refine ⟨⟨vs, v, hl, hv⟩, fun v' H' y => ?_⟩
        obtain ⟨T, w, rfl, hT, rfl, hy⟩ := y
        have := hy vs hl
        rw [hv] at this; cases this
        refine ⟨_, W.le hT _, W.lay hT _, Dq.tup upd_same (.cons ?_ (.cons (rv.mono (W.le hT _)) .nil))⟩
        rw [Nat.zero_add]
        exact .int _
      · have hi : (enumD 0 ds).length ≤ i := hi
        rw [enumD_length] at hi
        exact ⟨vs, W.sub.sqT (e.sqT h3), by rw [h4.length]; exact hi⟩
end Td

/-! TdL1: law helpers: wells, draws, shows. -/
namespace Td
open PySem PySem.Spec PyProof.Rows L2

def j__law_well (K : PySem.W.Frag) : JTS :=
  jSeq (jAsg (jC (.int 0)) (jName 2))
    (jSeq (jIfS (jTest (jOp (jrI fun i j => .bool (decide (i < j))) (jVar 1) (jCB (jrLenSc K) (jCons (jVar 0) (jNil))))) (jAsg (jOp (jrIxSc K) (jVar 0) (jVar 1)) (jName 2)) (jNext))
    (jSeq (jAsg (jLstD (jCons (jC (.int 2147483647)) (jCons (jC (.int 2147483629)) (jCons (jC (.int 2147483587)) (jCons (jC (.int 2147483579)) (jCons (jC (.int 2147483563)) (jCons (jC (.int 2147483549)) (jCons (jC (.int 2147483543)) (jCons (jC (.int 2147483497)) (jNil)))))))))) (jName 3))
    (jSeq (jAsg (jOp (jrIc (fun _ j => 0 < j) fun i j => .int (i % j)) (jOp (jrIc BMul fun i j => .int (i * j)) (jOp (jrI fun i j => .int (i + j)) (jOp (jrIc (fun _ j => 0 < j) fun i j => .int (i % j)) (jVar 2) (jC (.int 2147483489))) (jC (.int 1))) (jOp (jrI fun i j => .int (i + j)) (jC (.int 48271)) (jOp (jrIc BMul fun i j => .int (i * j)) (jC (.int 2)) (jVar 1)))) (jC (.int 2147483489))) (jName 4))
    (jSeq (jAsg (jOp (jrI fun i j => .int (i + j)) (jOp (jrI fun i j => .int (i + j)) (jOp (jrIc (fun _ j => 0 < j) fun i j => .int (i % j)) (jOp (jrIc BMul fun i j => .int (i * j)) (jVar 4) (jVar 4)) (jC (.int 2147483477))) (jVar 1)) (jC (.int 1))) (jName 4))
    (jSeq (jIfS (jTest (jOp (jrI fun i j => .bool (decide (j ≤ i))) (jVar 2) (jOp (jrIc CPow fun i j => .int (i ^ j.toNat)) (jC (.int 10)) (jC (.int 18))))) (jRet (jLstC (jCons (jVar 2) (jCons (jVar 4) (jCons (jOp jrIx (jVar 3) (jOp (jrIc (fun _ j => 0 < j) fun i j => .int (i % j)) (jVar 1) (jC (.int 8)))) (jNil)))))) (jNext))
    (jRet (jLstC (jCons (jC (.int 0)) (jCons (jVar 4) (jCons (jOp jrIx (jVar 3) (jOp (jrIc (fun _ j => 0 < j) fun i j => .int (i % j)) (jVar 1) (jC (.int 8)))) (jNil)))))))))))
def j__law_take : JTS :=
  jSeq (jIfS (jTest (jOp (jrI fun i j => .bool (decide (j < i))) (jOp jrIx (jVar 0) (jC (.int 0))) (jC (.int 0)))) (jSeq (jAsg (jOp (jrIc (fun _ j => 0 < j) fun i j => .int (i % j)) (jOp jrIx (jVar 0) (jC (.int 0))) (jVar 1)) (jName 2))
    (jSeq (jAsg (jOp (jrIc BDiv fun i j => .int (i / j)) (jOp jrIx (jVar 0) (jC (.int 0))) (jVar 1)) (jgLSet (jVar 0) (jC (.int 0))))
    (jRet (jVar 2)))) (jNext))
    (jSeq (jAsg (jOp (jrI fun i j => .int (i + j)) (jOp (jrIc (fun _ j => 0 < j) fun i j => .int (i % j)) (jOp (jrIc BMul fun i j => .int (i * j)) (jOp jrIx (jVar 0) (jC (.int 1))) (jC (.int 48271))) (jOp jrIx (jVar 0) (jC (.int 2)))) (jC (.int 1))) (jgLSet (jVar 0) (jC (.int 1))))
    (jRet (jOp (jrIc (fun _ j => 0 < j) fun i j => .int (i % j)) (jOp (jrIc BDiv fun i j => .int (i / j)) (jOp (jrIc (fun _ j => 0 < j) fun i j => .int (i % j)) (jOp (jrIc BMul fun i j => .int (i * j)) (jOp jrIx (jVar 0) (jC (.int 1))) (jOp jrIx (jVar 0) (jC (.int 1)))) (jC (.int 2147483423))) (jC (.int 7))) (jVar 1))))
def j__law_frac : JTS :=
  jSeq (jPar 2 3 (jCons (jCB jrAbs (jCons (jVar 0) (jNil))) (jCons (jCB jrAbs (jCons (jVar 1) (jNil))) (jNil))))
    (jSeq (jWhile (jTest (jOp (jrI fun i j => .bool (decide (j < i))) (jVar 3) (jC (.int 0)))) (jPar 2 3 (jCons (jVar 3) (jCons (jOp (jrIc (fun _ j => 0 < j) fun i j => .int (i % j)) (jVar 2) (jVar 3)) (jNil)))))
    (jSeq (jAsg (jIf (jTest (jOp (jrI fun i j => .bool (decide (j < i))) (jVar 1) (jC (.int 0)))) (jVar 2) (jUn (jrU fun i => .int (-i)) (jVar 2))) (jName 2))
    (jRet (jTup (jCons (jOp (jrIc BDiv fun i j => .int (i / j)) (jVar 0) (jVar 2)) (jCons (jOp (jrIc BDiv fun i j => .int (i / j)) (jVar 1) (jVar 2)) (jNil)))))))
def j__law_plus (T__law_frac : TJ) : JTS :=
  jRet (jCall T__law_frac (jCons (jOp (jrI fun i j => .int (i + j)) (jOp (jrIc BMul fun i j => .int (i * j)) (jOp jrIx (jVar 0) (jC (.int 0))) (jOp jrIx (jVar 1) (jC (.int 1)))) (jOp (jrIc BMul fun i j => .int (i * j)) (jOp jrIx (jVar 1) (jC (.int 0))) (jOp jrIx (jVar 0) (jC (.int 1))))) (jCons (jOp (jrIc BMul fun i j => .int (i * j)) (jOp jrIx (jVar 0) (jC (.int 1))) (jOp jrIx (jVar 1) (jC (.int 1)))) (jNil))))
def j__law_less : JTS :=
  jRet (jOp (jrI fun i j => .bool (decide (i < j))) (jOp (jrIc BMul fun i j => .int (i * j)) (jOp jrIx (jVar 0) (jC (.int 0))) (jOp jrIx (jVar 1) (jC (.int 1)))) (jOp (jrIc BMul fun i j => .int (i * j)) (jOp jrIx (jVar 1) (jC (.int 0))) (jOp jrIx (jVar 0) (jC (.int 1)))))
def j__law_balloon (T__law_take : TJ) : JTS :=
  jSeq (jAsg (jOp (jrI fun i j => .int (i - j)) (jCall T__law_take (jCons (jVar 0) (jCons (jOp (jrI fun i j => .int (i + j)) (jVar 2) (jC (.int 1))) (jNil)))) (jOp jrIx (jLstD (jCons (jC (.int 0)) (jCons (jC (.int 0)) (jCons (jOp (jrIc BDiv fun i j => .int (i / j)) (jVar 2) (jC (.int 2))) (jCons (jVar 2) (jNil)))))) (jCall T__law_take (jCons (jVar 0) (jCons (jC (.int 4)) (jNil)))))) (jName 3))
    (jRet (jTup (jCons (jVar 1) (jCons (jVar 3) (jCons (jOp (jrI fun i j => .int (i + j)) (jC (.int 1)) (jCall T__law_take (jCons (jVar 0) (jCons (jIf (jTest (jOp (jrI fun i j => .bool (decide (j < i))) (jVar 2) (jC (.int 50)))) (jOp jrIx (jLstD (jCons (jC (.int 3)) (jCons (jC (.int 3)) (jCons (jC (.int 100)) (jNil))))) (jCall T__law_take (jCons (jVar 0) (jCons (jC (.int 3)) (jNil))))) (jC (.int 3))) (jNil))))) (jNil))))))
def j__law_show (T__law_take T__law_balloon : TJ) : JTS :=
  jSeq (jAsg (jSlL (jLstD (jCons (jC (.str "al")) (jCons (jC (.str "bo")) (jCons (jC (.str "cy")) (jCons (jC (.str "di")) (jCons (jC (.str "ed")) (jCons (jC (.str "fay")) (jCons (jC (.str "gus")) (jCons (jC (.str "hal")) (jNil)))))))))) (jNoPart) (jPart (jOp (jrI fun i j => .int (i + j)) (jC (.int 1)) (jCall T__law_take (jCons (jVar 0) (jCons (jVar 1) (jNil))))))) (jName 3))
    (jSeq (jAsg (jCB jrTuple (jCons (jLc (jiL (jVar 3)) (jName 11) (jYes) (jCall T__law_balloon (jCons (jVar 0) (jCons (jVar 11) (jCons (jVar 2) (jNil))))) [11]) (jNil))) (jName 4))
    (jSeq (jPar3 5 6 7 (jCons (jLstC (jNil)) (jCons (jCB jrList (jCons (jVar 3) (jNil))) (jCons (jLstC (jNil)) (jNil)))))
    (jSeq (jWhile (jTest (jOp (jrEq true) (jVar 6) (jLstD (jNil)))) (jSeq (jAsg (jBM isLst jrPopAt (jVar 6) (jCons (jCall T__law_take (jCons (jVar 0) (jCons (jCB jrLen (jCons (jVar 6) (jNil))) (jNil)))) (jNil))) (jName 8))
    (jSeq (jIfS (jAnd (jTest (jOp (jrEq true) (jVar 7) (jLstD (jNil)))) (jTest (jOp (jrI fun i j => .bool (decide (j < i))) (jCall T__law_take (jCons (jVar 0) (jCons (jC (.int 6)) (jNil)))) (jC (.int 0))))) (jSeq (jAsg (jOp jrIx (jVar 7) (jCall T__law_take (jCons (jVar 0) (jCons (jCB jrLen (jCons (jVar 7) (jNil))) (jNil))))) (jName 9))
    (jSeq (jAsg (jOp jrIx (jLstD (jCons (jC (.int 0)) (jCons (jCall T__law_take (jCons (jVar 0) (jCons (jC (.int 4)) (jNil)))) (jCons (jCall T__law_take (jCons (jVar 0) (jCons (jOp (jrI fun i j => .int (i + j)) (jOp (jrIc BDiv fun i j => .int (i / j)) (jVar 2) (jC (.int 2))) (jC (.int 1))) (jNil)))) (jNil))))) (jCall T__law_take (jCons (jVar 0) (jCons (jC (.int 3)) (jNil))))) (jName 10))
    (jDrop (jBM isLst jrAppend (jVar 5) (jCons (jTup (jCons (jCB (jrMMS sMin) (jCons (jVar 8) (jCons (jVar 9) (jNil)))) (jCons (jCB (jrMMS sMax) (jCons (jVar 8) (jCons (jVar 9) (jNil)))) (jCons (jVar 10) (jNil))))) (jNil)))))) (jNext))
    (jDrop (jBM isLst jrAppend (jVar 7) (jCons (jVar 8) (jNil)))))))
    (jRet (jTup (jCons (jVar 4) (jCons (jCB jrTuple (jCons (jCB jrSortD (jCons (jVar 5) (jNil))) (jNil))) (jNil))))))))
def j__law_at (T_heights : TJ) : JTS :=
  jRet (jDGet (jCB jrDictL (jCons (jCall T_heights (jCons (jVar 0) (jNil))) (jNil))) (jVar 1))
def j__law_minus (T__law_frac : TJ) : JTS :=
  jRet (jCall T__law_frac (jCons (jOp (jrI fun i j => .int (i - j)) (jOp (jrIc BMul fun i j => .int (i * j)) (jOp jrIx (jVar 0) (jC (.int 0))) (jOp jrIx (jVar 1) (jC (.int 1)))) (jOp (jrIc BMul fun i j => .int (i * j)) (jOp jrIx (jVar 1) (jC (.int 0))) (jOp jrIx (jVar 0) (jC (.int 1))))) (jCons (jOp (jrIc BMul fun i j => .int (i * j)) (jOp jrIx (jVar 0) (jC (.int 1))) (jOp jrIx (jVar 1) (jC (.int 1)))) (jNil))))
def j__law_times (T__law_frac : TJ) : JTS :=
  jRet (jCall T__law_frac (jCons (jOp (jrIc BMul fun i j => .int (i * j)) (jOp jrIx (jVar 0) (jC (.int 0))) (jOp jrIx (jVar 1) (jC (.int 0)))) (jCons (jOp (jrIc BMul fun i j => .int (i * j)) (jOp jrIx (jVar 0) (jC (.int 1))) (jOp jrIx (jVar 1) (jC (.int 1)))) (jNil))))
def j__law_is_frac (T__law_frac : TJ) : JTS :=
  jSeq (jIfS (jOr (jNot (jTest (jCB (jrIsi "tuple") (jCons (jVar 0) (jCons (jV (.ty "tuple")) (jNil)))))) (jTest (jOp (jrEq true) (jCB jrLen (jCons (jVar 0) (jNil))) (jC (.int 2))))) (jRet (jC (.bool false))) (jNext))
    (jSeq (jFor (jiL (jVar 0)) (jName 1) (jIfS (jOr (jNot (jTest (jCB (jrIsi "int") (jCons (jVar 1) (jCons (jV (.ty "int")) (jNil)))))) (jTest (jCB (jrIsi "bool") (jCons (jVar 1) (jCons (jV (.ty "bool")) (jNil)))))) (jRet (jC (.bool false))) (jNext)))
    (jRet (jAndV (jOp (jrI fun i j => .bool (decide (j < i))) (jOp jrIx (jVar 0) (jC (.int 1))) (jC (.int 0))) (jOp (jrEq false) (jCall T__law_frac (jCons (jOp jrIx (jVar 0) (jC (.int 0))) (jCons (jOp jrIx (jVar 0) (jC (.int 1))) (jNil)))) (jVar 0)))))
/-! ### wells -/
def wl (c s r : Int) : MO := .lst [.d (.int c), .d (.int s), .d (.int r)]
structure WOk (c s r : Int) : Prop where
  c0 : 0 ≤ c
  s0 : 0 ≤ s ∧ s < 2 ^ 40
  r0 : 0 < r ∧ r < 2 ^ 32
def T_take : TJ := fun xs M Φ _ => ∃ (p : Addr) (m c s r : Int), xs = [.v (.ref p), .d (.int m)] ∧ (M p = some (wl c s r) ∧ WOk c s r ∧ 0 < m ∧ m < 2 ^ 40) ∧ ∀ d c' s' r', 0 ≤ d ∧ d < m → WOk c' s' r' → Φ (.d (.int d)) (M.set p (wl c' s' r'))
theorem bt_of {i : Int} {n : Nat} (h : 0 ≤ i ∧ i < (2 ^ n : Nat)) : Bt n i := by unfold Bt; omega
theorem p40 : (2 : Int) ^ 40 = ((2 ^ 40 : Nat) : Int) := by decide
theorem p32 : (2 : Int) ^ 32 = ((2 ^ 32 : Nat) : Int) := by decide
theorem small_bt {i : Int} (h : -(2 ^ 40) ≤ i ∧ i ≤ 2 ^ 40) : Bt 4000 i := by
  have : i.natAbs < 2 ^ 41 := by
    have e1 : (2 : Int) ^ 40 = 1099511627776 := by decide
    have e2 : (2 : Nat) ^ 41 = 2199023255552 := by decide
    omega
  exact Nat.lt_of_lt_of_le this (Nat.pow_le_pow_right (by decide) (by decide))
theorem r_take : ∀ xs M Φ Ψ, T_take xs M Φ Ψ → j__law_take { nx := fun _ M' => Φ (.d .none) M', rt := Φ, xr := Ψ } (jstart 3 xs) M := by
  rintro _ M Φ Ψ ⟨p, m, c, s, r, rfl, ⟨hM, W, m0, m1⟩, hp⟩
  have e40 : (2 : Int) ^ 40 = 1099511627776 := by decide
  have e32 : (2 : Int) ^ 32 = 4294967296 := by decide
  obtain ⟨c0, ⟨s0, s1⟩, r0, r1⟩ := W
  show (match rdL M (.v (.ref p)) with
    | some xs => _
    | none => False)
  rw [rdL_at hM]
  show sel (decide (0 < c)) _ _
  refine sel_dec (fun q => ?_) fun q => ?_
  · show (match rdL M (.v (.ref p)) with
      | some xs => _
      | none => False)
    rw [rdL_at hM]
    refine ⟨m0, ?_⟩
    show (match rdL M (.v (.ref p)) with
      | some xs => _
      | none => False)
    rw [rdL_at hM]
    refine ⟨⟨m0, (small_bt ⟨by omega, by omega⟩).mono (by decide)⟩, ?_⟩
    show (match cellL M (.v (.ref p)), EV.d (PyData.int 0) with
      | some (p, xs), .d (.int i) => _
      | _, _ => False)
    rw [cellL_at hM]
    exact hp (c % m) (c / m) s r ⟨Int.emod_nonneg _ (by omega), Int.emod_lt_of_pos _ m0⟩ ⟨Int.ediv_nonneg c0 (by omega), ⟨s0, s1⟩, r0, r1⟩
  · show (match rdL M (.v (.ref p)) with
      | some xs => _
      | none => False)
    rw [rdL_at hM]
    refine ⟨⟨small_bt ⟨by omega, by omega⟩, small_bt ⟨by omega, by omega⟩⟩, ?_⟩
    show (match rdL M (.v (.ref p)) with
      | some xs => _
      | none => False)
    rw [rdL_at hM]
    refine ⟨r0, ?_⟩
    show (match cellL M (.v (.ref p)), EV.d (PyData.int 1) with
      | some (p, xs), .d (.int i) => _
      | _, _ => False)
    rw [cellL_at hM]
    have n0 : 0 ≤ s * 48271 % r := Int.emod_nonneg _ (by omega)
    have n1 : s * 48271 % r < r := Int.emod_lt_of_pos _ r0
    have hM2 : (M.set p (wl c (s * 48271 % r + 1) r)) p = some (wl c (s * 48271 % r + 1) r) := Mem.set_same
    show (match rdL (M.set p (wl c (s * 48271 % r + 1) r)) (.v (.ref p)) with
      | some xs => _
      | none => False)
    rw [rdL_at hM2]
    show (match rdL (M.set p (wl c (s * 48271 % r + 1) r)) (.v (.ref p)) with
      | some xs => _
      | none => False)
    rw [rdL_at hM2]
    refine ⟨⟨small_bt ⟨by omega, by omega⟩, small_bt ⟨by omega, by omega⟩⟩, (by decide : (0 : Int) < 2147483423), ⟨(by decide : (0 : Int) < 7), small_bt ⟨by decide, by decide⟩ |>.mono (by decide)⟩, m0, ?_⟩
    have h := hp ((s * 48271 % r + 1) * (s * 48271 % r + 1) % 2147483423 / 7 % m) c (s * 48271 % r + 1) r ⟨Int.emod_nonneg _ (by omega), Int.emod_lt_of_pos _ m0⟩ ⟨c0, ⟨by omega, by omega⟩, r0, r1⟩
    exact h
def primesE : List PyData := [.int 2147483647, .int 2147483629, .int 2147483587, .int 2147483579, .int 2147483563, .int 2147483549, .int 2147483543, .int 2147483497]
theorem primes_at (k : Int) : ∃ r : Int, atI (primesE.map EV.d) (k % 8) = some (.d (.int r)) ∧ 0 < r ∧ r < 2 ^ 32 := by
  have h : k % 8 = 0 ∨ k % 8 = 1 ∨ k % 8 = 2 ∨ k % 8 = 3 ∨ k % 8 = 4 ∨ k % 8 = 5 ∨ k % 8 = 6 ∨ k % 8 = 7 := by omega
  rcases h with h | h | h | h | h | h | h | h <;> rw [h] <;> exact ⟨_, rfl, by decide, by decide⟩
def T_well (K : PySem.W.Frag) : TJ := fun xs M Φ _ => ∃ (a : Addr) (ns : List Int) (k : Nat), xs = [.v (.ref a), .d (.int (k : Nat))] ∧ (Scr K M a ns ∧ k ≤ 1000) ∧ ∀ c s r, WOk c s r → ∀ p, M p = none → Φ (.v (.ref p)) (M.set p (wl c s r))
theorem r_well (K : PySem.W.Frag) : ∀ xs M Φ Ψ, T_well K xs M Φ Ψ → j__law_well K { nx := fun _ M' => Φ (.d .none) M', rt := Φ, xr := Ψ } (jstart 5 xs) M := by
  rintro _ M Φ Ψ ⟨a, ns, k, rfl, ⟨hs, hk⟩, hp⟩
  have e40 : (2 : Int) ^ 40 = 1099511627776 := by decide
  -- from the cell on
  have go : ∀ c : Int, jSeq (jAsg (jLstD (jCons (jC (.int 2147483647)) (jCons (jC (.int 2147483629)) (jCons (jC (.int 2147483587)) (jCons (jC (.int 2147483579)) (jCons (jC (.int 2147483563)) (jCons (jC (.int 2147483549)) (jCons (jC (.int 2147483543)) (jCons (jC (.int 2147483497)) (jNil)))))))))) (jName 3))
      (jSeq (jAsg (jOp (jrIc (fun _ j => 0 < j) fun i j => .int (i % j)) (jOp (jrIc BMul fun i j => .int (i * j)) (jOp (jrI fun i j => .int (i + j)) (jOp (jrIc (fun _ j => 0 < j) fun i j => .int (i % j)) (jVar 2) (jC (.int 2147483489))) (jC (.int 1))) (jOp (jrI fun i j => .int (i + j)) (jC (.int 48271)) (jOp (jrIc BMul fun i j => .int (i * j)) (jC (.int 2)) (jVar 1)))) (jC (.int 2147483489))) (jName 4))
      (jSeq (jAsg (jOp (jrI fun i j => .int (i + j)) (jOp (jrI fun i j => .int (i + j)) (jOp (jrIc (fun _ j => 0 < j) fun i j => .int (i % j)) (jOp (jrIc BMul fun i j => .int (i * j)) (jVar 4) (jVar 4)) (jC (.int 2147483477))) (jVar 1)) (jC (.int 1))) (jName 4))
      (jSeq (jIfS (jTest (jOp (jrI fun i j => .bool (decide (j ≤ i))) (jVar 2) (jOp (jrIc CPow fun i j => .int (i ^ j.toNat)) (jC (.int 10)) (jC (.int 18))))) (jRet (jLstC (jCons (jVar 2) (jCons (jVar 4) (jCons (jOp jrIx (jVar 3) (jOp (jrIc (fun _ j => 0 < j) fun i j => .int (i % j)) (jVar 1) (jC (.int 8)))) (jNil)))))) (jNext))
      (jRet (jLstC (jCons (jC (.int 0)) (jCons (jVar 4) (jCons (jOp jrIx (jVar 3) (jOp (jrIc (fun _ j => 0 < j) fun i j => .int (i % j)) (jVar 1) (jC (.int 8)))) (jNil))))))))) { nx := fun _ M' => Φ (.d .none) M', rt := Φ, xr := Ψ } [some (.v (.ref a)), some (.d (.int (k : Nat))), some (.d (.int c)), none, none] M := by
    intro c
    have u0 : 0 ≤ c % 2147483489 := Int.emod_nonneg _ (by decide)
    have u1 : c % 2147483489 < 2147483489 := Int.emod_lt_of_pos _ (by decide)
    generalize hu : (c % 2147483489 + 1) * (48271 + 2 * (k : Int)) = u
    have v0 : 0 ≤ u % 2147483489 := Int.emod_nonneg _ (by decide)
    have v1 : u % 2147483489 < 2147483489 := Int.emod_lt_of_pos _ (by decide)
    have w0 : 0 ≤ u % 2147483489 * (u % 2147483489) % 2147483477 := Int.emod_nonneg _ (by decide)
    have w1 : u % 2147483489 * (u % 2147483489) % 2147483477 < 2147483477 := Int.emod_lt_of_pos _ (by decide)
    obtain ⟨r, hr, r0, r1⟩ := primes_at (k : Int)
    refine ⟨(by decide : (0 : Int) < 2147483489), ⟨small_bt (i := 2) ⟨by decide, by decide⟩, small_bt ⟨by omega, by omega⟩⟩, ⟨small_bt ⟨by omega, by omega⟩, small_bt ⟨by omega, by omega⟩⟩, (by decide : (0 : Int) < 2147483489), ?_⟩
    subst hu
    refine ⟨⟨small_bt ⟨by omega, by omega⟩, small_bt ⟨by omega, by omega⟩⟩, (by decide : (0 : Int) < 2147483477), ⟨by decide, by decide, by decide⟩, ?_⟩
    show sel (decide (((10 : Int) ^ (18 : Int).toNat) ≤ c)) _ _
    refine sel_dec (fun q => ?_) fun q => ?_
    · refine ⟨(by decide : (0 : Int) < 8), ?_⟩
      show (match atI (primesE.map EV.d) ((k : Int) % 8) with
        | some e => _
        | none => False)
      rw [hr]
      intro p hp0
      have c0 : 0 ≤ c := Int.le_trans (by decide) q
      exact hp _ _ _ ⟨c0, ⟨by omega, by omega⟩, r0, r1⟩ p hp0
    · refine ⟨(by decide : (0 : Int) < 8), ?_⟩
      show (match atI (primesE.map EV.d) ((k : Int) % 8) with
        | some e => _
        | none => False)
      rw [hr]
      intro p hp0
      exact hp _ _ _ ⟨Int.le_refl 0, ⟨by omega, by omega⟩, r0, r1⟩ p hp0
  refine ⟨a, ns, rfl, hs, ?_⟩
  show sel (decide ((k : Int) < ns.length)) _ _
  refine sel_dec (fun q => ?_) fun q => ?_
  · have hk2 : k < ns.length := by omega
    exact ⟨a, ns, k, ns[k], rfl, rfl, hs, List.getElem?_eq_getElem hk2, go _⟩
  · exact go 0
/-! ### fractions of the law -/
theorem r_lfrac : ∀ xs M Φ Ψ, T_fraction xs M Φ Ψ → j__law_frac { nx := fun _ M' => Φ (.d .none) M', rt := Φ, xr := Ψ } (jstart 4 xs) M := by
  rintro _ M Φ Ψ ⟨t, n, rfl, ⟨hn, h1, h2⟩, h⟩
  have abs1 : ∀ i : Int, (if i < 0 then -i else i) = (i.natAbs : Int) := fun i => by split <;> omega
  refine ⟨fun m ρ M' => M' = M ∧ ∃ x y : Nat, y = m ∧ ρ = [some (.d (.int t)), some (.d (.int (n : Nat))), some (.d (.int x)), some (.d (.int y))] ∧ Nat.gcd x y = Nat.gcd t.natAbs n, ⟨n, rfl, t.natAbs, n, rfl, ?_, rfl⟩, ?_⟩
  · show ([some (.d (.int t)), some (.d (.int (n : Nat))), some (.d (.int (if t < 0 then -t else t))), some (.d (.int (if (n : Int) < 0 then -(n : Int) else n)))] : JEnv) = _
    rw [abs1, abs1]
    rfl
  rintro m _ _ ⟨rfl, x, y, hm, rfl, e⟩
  subst hm
  show sel (decide ((0 : Int) < y)) _ _
  refine sel_dec (fun q => ?_) fun q => ?_
  · refine ⟨by omega, x % y, Nat.mod_lt _ (by omega), rfl, y, x % y, rfl, rfl, ?_⟩
    rw [← e, Nat.gcd_comm x y, Nat.gcd_rec y x, Nat.gcd_comm]
  · have q : y = 0 := by omega
    subst q
    rw [Nat.gcd_zero_right] at e
    subst e
    show sel (decide ((0 : Int) < n)) _ _
    refine sel_dec (fun _ => ?_) fun q => (q (by omega)).elim
    have hg : 0 < Nat.gcd t.natAbs n := Nat.gcd_pos_of_pos_right _ (by omega)
    have hb : Bt 3900 (Nat.gcd t.natAbs n : Nat) := by
      unfold Bt at *
      rw [Int.natAbs_natCast] at h2 ⊢
      exact Nat.lt_of_le_of_lt (Nat.gcd_le_right _ (by omega)) h2
    have bd : BDiv t (Nat.gcd t.natAbs n : Nat) := ⟨by omega, hb.mono (by decide)⟩
    refine ⟨bd, bd, ?_⟩
    rw [enc_mk hn] at h
    exact h
theorem r_lplus : ∀ xs M Φ Ψ, T_plus xs M Φ Ψ → j__law_plus T_fraction { nx := fun _ M' => Φ (.d .none) M', rt := Φ, xr := Ψ } (jstart 2 xs) M := r_plus
theorem r_lminus : ∀ xs M Φ Ψ, T_minus xs M Φ Ψ → j__law_minus T_fraction { nx := fun _ M' => Φ (.d .none) M', rt := Φ, xr := Ψ } (jstart 2 xs) M := r_minus
theorem r_ltimes : ∀ xs M Φ Ψ, T_times xs M Φ Ψ → j__law_times T_fraction { nx := fun _ M' => Φ (.d .none) M', rt := Φ, xr := Ψ } (jstart 2 xs) M := r_times
theorem r_lless : ∀ xs M Φ Ψ, T_is_less xs M Φ Ψ → j__law_less { nx := fun _ M' => Φ (.d .none) M', rt := Φ, xr := Ψ } (jstart 2 xs) M := r_is_less
/-! ### balloons of the law -/
def T_lballoon : TJ := fun xs M Φ _ => ∃ (p : Addr) (nm : Str) (wide c s r : Int), xs = [.v (.ref p), .d (.str nm), .d (.int wide)] ∧ (M p = some (wl c s r) ∧ WOk c s r ∧ 1 ≤ wide ∧ wide ≤ 1000) ∧
  ∀ own strong c' s' r', (-wide ≤ own ∧ own ≤ wide) → (1 ≤ strong ∧ strong ≤ 100) → WOk c' s' r' → Φ (.d (encBal (nm, own, strong))) (M.set p (wl c' s' r'))
theorem r_lballoon : ∀ xs M Φ Ψ, T_lballoon xs M Φ Ψ → j__law_balloon T_take { nx := fun _ M' => Φ (.d .none) M', rt := Φ, xr := Ψ } (jstart 4 xs) M := by
  rintro _ M Φ Ψ ⟨p, nm, wide, c, s, r, rfl, ⟨hM, W, w1, w2⟩, hp⟩
  have e40 : (2 : Int) ^ 40 = 1099511627776 := by decide
  refine ⟨p, wide + 1, c, s, r, rfl, ⟨hM, W, by omega, by omega⟩, fun d c1 s1 r1 ⟨d0, d1⟩ W1 => ?_⟩
  refine ⟨⟨(by decide : (0 : Int) < 2), (small_bt ⟨by decide, by decide⟩).mono (by decide)⟩, ?_⟩
  refine ⟨p, 4, c1, s1, r1, rfl, ⟨Mem.set_same, W1, by decide, by decide⟩, fun d2 c2 s2 r2 ⟨e0, e1⟩ W2 => ?_⟩
  rw [Mem.set_set]
  have fin : ∀ x : Int, 0 ≤ x → x ≤ wide → jRet (jTup (jCons (jVar 1) (jCons (jVar 3) (jCons (jOp (jrI fun i j => .int (i + j)) (jC (.int 1)) (jCall T_take (jCons (jVar 0) (jCons (jIf (jTest (jOp (jrI fun i j => .bool (decide (j < i))) (jVar 2) (jC (.int 50)))) (jOp jrIx (jLstD (jCons (jC (.int 3)) (jCons (jC (.int 3)) (jCons (jC (.int 100)) (jNil))))) (jCall T_take (jCons (jVar 0) (jCons (jC (.int 3)) (jNil))))) (jC (.int 3))) (jNil))))) (jNil)))))
      { nx := fun _ M' => Φ (.d .none) M', rt := Φ, xr := Ψ } [some (.v (.ref p)), some (.d (.str nm)), some (.d (.int wide)), some (.d (.int (d - x)))] (M.set p (wl c2 s2 r2)) := by
    intro x x0 x1
    have last : ∀ (m : Int) (c3 s3 r3 : Int), 0 < m → m ≤ 100 → WOk c3 s3 r3 → T_take [.v (.ref p), .d (.int m)] (M.set p (wl c3 s3 r3)) (fun z M1 => match z with
        | .d (.int j) => Φ (.d (.tuple [.str nm, .int (d - x), .int (1 + j)])) M1
        | _ => False) (fun _ _ => False) := by
      intro m c3 s3 r3 m0 m1 W3
      refine ⟨p, m, c3, s3, r3, rfl, ⟨Mem.set_same, W3, m0, by omega⟩, fun d3 c4 s4 r4 ⟨f0, f1⟩ W4 => ?_⟩
      rw [Mem.set_set]
      exact hp (d - x) (1 + d3) c4 s4 r4 ⟨by omega, by omega⟩ ⟨by omega, by omega⟩ W4
    have use : ∀ (m : Int) (c3 s3 r3 : Int), 0 < m → m ≤ 100 → WOk c3 s3 r3 → ∃ (p' : Addr) (m' c s r : Int), [EV.v (.ref p), .d (.int m)] = [.v (.ref p'), .d (.int m')] ∧ (M.set p (wl c3 s3 r3) p' = some (wl c s r) ∧ WOk c s r ∧ 0 < m' ∧ m' < 2 ^ 40) ∧
        ∀ d' c' s' r', 0 ≤ d' ∧ d' < m' → WOk c' s' r' → Φ (.d (.tuple [.str nm, .int (d - x), .int (1 + d')])) ((M.set p (wl c3 s3 r3)).set p' (wl c' s' r')) := last
    show sel (decide (50 < wide)) _ _
    refine sel_dec (fun q => ?_) fun q => ?_
    · refine ⟨p, 3, c2, s2, r2, rfl, ⟨Mem.set_same, W2, by decide, by decide⟩, fun d4 c4 s4 r4 ⟨f0, f1⟩ W4 => ?_⟩
      rw [Mem.set_set]
      have h : d4 = 0 ∨ d4 = 1 ∨ d4 = 2 := by omega
      rcases h with rfl | rfl | rfl
      · exact use 3 c4 s4 r4 (by decide) (by decide) W4
      · exact use 3 c4 s4 r4 (by decide) (by decide) W4
      · exact use 100 c4 s4 r4 (by decide) (by decide) W4
    · exact use 3 c2 s2 r2 (by decide) (by decide) W2
  have h : d2 = 0 ∨ d2 = 1 ∨ d2 = 2 ∨ d2 = 3 := by omega
  rcases h with rfl | rfl | rfl | rfl
  · exact fin 0 (by omega) (by omega)
  · exact fin 0 (by omega) (by omega)
  · exact fin (wide / 2) (by omega) (by omega)
  · exact fin wide (by omega) (by omega)
/-! ### shows of the law -/
def names8 : List Str := ["al", "bo", "cy", "di", "ed", "fay", "gus", "hal"]
theorem names8_pw : names8.Pairwise fun a b => sLt a b = true := by decide +kernel
theorem names8_ok : ∀ x ∈ names8, nameB (.str x) = true := by decide +kernel
theorem names_cut {d : Int} (h : 0 ≤ d ∧ d < 8) : cutD (names8.map PyData.str) none (some (1 + d)) = (names8.take (d.toNat + 1)).map .str := by
  have : d = 0 ∨ d = 1 ∨ d = 2 ∨ d = 3 ∨ d = 4 ∨ d = 5 ∨ d = 6 ∨ d = 7 := by omega
  rcases this with rfl | rfl | rfl | rfl | rfl | rfl | rfl | rfl <;> rfl
structure LShow (most wide : Int) (S : Show) : Prop where
  valid : Valid S
  most : (S.bals.length : Int) ≤ most
  own : ∀ b ∈ S.bals, -wide ≤ b.2.1 ∧ b.2.1 ≤ wide
  long : ∀ c ∈ S.cords, c.2.2 ≤ max 3 (wide / 2)
  few : S.cords.length + 1 ≤ S.bals.length
  names : S.bals.map (·.1) = names8.take S.bals.length
def T_lshow : TJ := fun xs M Φ _ => ∃ (p : Addr) (most wide c s r : Int), xs = [.v (.ref p), .d (.int most), .d (.int wide)] ∧ (M p = some (wl c s r) ∧ WOk c s r ∧ (1 ≤ most ∧ most ≤ 8) ∧ 2 ≤ wide ∧ wide ≤ 1000) ∧
  ∀ S c' s' r', LShow most wide S → WOk c' s' r' → Φ (.d (encShow S)) (M.set p (wl c' s' r'))
/-- the balloons, one after the other -/
theorem bal_acc {p : Addr} {wide : Int} {M : Mem} {ρ0 : JEnv} {Ψ : List EV → Mem → Prop} (w1 : 1 ≤ wide ∧ wide ≤ 1000) (h0 : look ρ0 0 = some (.v (.ref p))) (h2 : look ρ0 2 = some (.d (.int wide))) (hl : ρ0.length = 12) :
    ∀ (L : List Str) (acc : List Bal) (c s r : Int), WOk c s r →
      (∀ bs : List Bal, bs.map (·.1) = L → (∀ b ∈ bs, (-wide ≤ b.2.1 ∧ b.2.1 ≤ wide) ∧ 1 ≤ b.2.2 ∧ b.2.2 ≤ 100) → ∀ c' s' r', WOk c' s' r' → Ψ (((acc ++ bs).map encBal).map .d) (M.set p (wl c' s' r'))) →
      jAccF (jName 11) jYes (jCall T_lballoon (jCons (jVar 0) (jCons (jVar 11) (jCons (jVar 2) (jNil))))) ρ0 Ψ ((L.map PyData.str).map .d) ((acc.map encBal).map .d) (M.set p (wl c s r))
  | [], acc, c, s, r, W, h => by
    have := h [] rfl (fun b hb => by cases hb) c s r W
    rw [List.append_nil] at this
    exact this
  | x :: L, acc, c, s, r, W, h => by
    obtain ⟨a0, a1, a2, a3, a4, a5, a6, a7, a8, a9, a10, a11, rfl⟩ : ∃ a0 a1 a2 a3 a4 a5 a6 a7 a8 a9 a10 a11, ρ0 = [a0, a1, a2, a3, a4, a5, a6, a7, a8, a9, a10, a11] := by
      match ρ0, hl with
      | [a0, a1, a2, a3, a4, a5, a6, a7, a8, a9, a10, a11], _ => exact ⟨_, _, _, _, _, _, _, _, _, _, _, _, rfl⟩
    have h0 : a0 = some (.v (.ref p)) := h0
    have h2 : a2 = some (.d (.int wide)) := h2
    subst h0
    subst h2
    refine ⟨p, x, wide, c, s, r, rfl, ⟨Mem.set_same, W, w1⟩, fun own strong c' s' r' o1 o2 W' => ?_⟩
    rw [Mem.set_set]
    have := bal_acc (M := M) (Ψ := Ψ) w1 (ρ0 := [some (.v (.ref p)), a1, some (.d (.int wide)), a3, a4, a5, a6, a7, a8, a9, a10, a11]) rfl rfl rfl L (acc ++ [(x, own, strong)]) c' s' r' W' (fun bs e hb c2 s2 r2 W2 => by
      have := h ((x, own, strong) :: bs) (by rw [List.map_cons, e]) (fun b hb' => by
        rcases List.mem_cons.mp hb' with rfl | hb'
        · exact ⟨o1, o2⟩
        · exact hb b hb') c2 s2 r2 W2
      rw [List.append_assoc]; exact this)
    rw [List.map_append, List.map_append] at this
    exact this
theorem ring_snoc {C : List Cord} {c : Cord} (h : ¬ Ring C) (hc : ¬ Conn C c.1 c.2.1) : ¬ Ring (C ++ [c]) := by
  rintro ⟨A1, c1, B1, e4, z⟩
  rcases List.eq_nil_or_concat B1 with rfl | ⟨B2, d, rfl⟩
  · obtain ⟨e5, e6⟩ := List.append_inj' e4 rfl
    have e6 : c = c1 := (List.cons.inj e6).1
    subst e5
    subst e6
    exact hc z
  · have e4' : C ++ [c] = (A1 ++ c1 :: B2) ++ [d] := by rw [e4]; simp
    obtain ⟨e5, _⟩ := List.append_inj' e4' rfl
    exact h ⟨A1, c1, B2, e5, z⟩
/-- sorted cords of a forest -/
def sortC (C : List Cord) : List Cord := C.mergeSort fun x y => leD (encCord x) (encCord y)
theorem sortC_perm (C : List Cord) : (sortC C).Perm C := List.mergeSort_perm _ _
theorem sortC_map (C : List Cord) : (C.map encCord).mergeSort leD = (sortC C).map encCord := by
  unfold sortC
  rw [List.map_mergeSort (f := encCord) (r := fun x y => leD (encCord x) (encCord y)) (s := leD) (fun a _ b _ => rfl)]
theorem encCord_inj {c d : Cord} (h : PySem.W.keyToks (encCord c) = PySem.W.keyToks (encCord d)) : c = d := by
  simp only [encCord, PySem.W.keyToks, PySem.W.keyToksAll, List.cons_append, List.nil_append, List.cons.injEq, Sum.inl.injEq, Sum.inr.injEq, true_and, and_true] at h
  obtain ⟨e1, e2, e3⟩ := h
  obtain ⟨a, b, l⟩ := c
  obtain ⟨a', b', l'⟩ := d
  have e1 : a = a' := PySem.W.str_of_cps e1
  have e2 : b = b' := PySem.W.str_of_cps e2
  have e3 : l = l' := e3
  rw [e1, e2, e3]
theorem leD_tot : PySem.W.TotalLe leD := PySem.W.sortLe_total (PyProof.Rows.listOrd PyProof.Rows.itemOrd) false fun d : PyData => PySem.W.keyToks d
theorem sortC_rising {C : List Cord} (nd : C.Nodup) : ((sortC C).map encCord).Pairwise fun a b => PySem.W.dataLt a b = true := by
  have srt := List.pairwise_mergeSort (le := fun x y => leD (encCord x) (encCord y)) (fun a b c h1 h2 => leD_tot.trans _ _ _ h1 h2) (fun a b => by
    rcases leD_tot.total (encCord a) (encCord b) with q | q
    · rw [q]; rfl
    · rw [q]; simp) C
  have nd2 : (sortC C).Nodup := (sortC_perm C).nodup_iff.mpr nd
  rw [List.pairwise_map]
  refine (srt.and nd2).imp fun {a b} h => ?_
  have h1 : PySem.W.dataLt (encCord b) (encCord a) = false := by
    have : (!PySem.W.dataLt (encCord b) (encCord a)) = true := h.1
    simpa using this
  cases e : PySem.W.dataLt (encCord a) (encCord b) with
  | true => rfl
  | false => exact (h.2 (encCord_inj (dataLt_tot e h1))).elim
theorem noRing_nodup {C : List Cord} (h : ¬ Ring C) : C.Nodup := by
  have key : ∀ (A B : List Cord), C = A ++ B → B.Nodup := by
    intro A B
    induction B generalizing A with
    | nil => intro _; exact List.nodup_nil
    | cons c B ih =>
      intro e
      refine List.nodup_cons.mpr ⟨fun hm => ?_, ih (A ++ [c]) (by rw [e]; simp)⟩
      obtain ⟨B1, B2, eB⟩ := List.append_of_mem hm
      exact (bridge_of h).one (A := A) (B := B1) (D := B2) (c := c) (d := c) (by rw [e, eB]; simp) (.inl ⟨rfl, rfl⟩)
  exact key [] C rfl
theorem law_parts {bals : List Bal} {C : List Cord} {n : Nat} (hn : 1 ≤ n ∧ n ≤ 8) (hb : bals.map (·.1) = names8.take n) (hb2 : ∀ b ∈ bals, (-1000 ≤ b.2.1 ∧ b.2.1 ≤ 1000) ∧ 1 ≤ b.2.2 ∧ b.2.2 ≤ 100)
    (hc : ∀ c ∈ C, c.1 ∈ names8.take n ∧ c.2.1 ∈ names8.take n ∧ sLt c.1 c.2.1 = true ∧ 0 ≤ c.2.2 ∧ c.2.2 ≤ 1000) (hr : ¬ Ring C) : Parts ⟨bals, sortC C⟩ := by
  have hl : bals.length = n := by
    have := congrArg List.length hb
    rw [List.length_map, List.length_take] at this
    have e : names8.length = 8 := rfl
    omega
  refine ⟨by show 1 ≤ bals.length; omega, by show bals.length ≤ 8; omega, fun b hb' => ⟨?_, hb2 b hb'⟩, ?_, fun c hc' => ?_, sortC_rising (noRing_nodup hr), ?_⟩
  · have : b.1 ∈ names8.take n := by rw [← hb]; exact List.mem_map.mpr ⟨b, hb', rfl⟩
    exact names8_ok _ (List.mem_of_mem_take this)
  · show (bals.map (·.1)).Pairwise _
    rw [hb]
    exact names8_pw.sublist (List.take_sublist _ _)
  · show c.1 ∈ bals.map (·.1) ∧ _
    have := hc c ((sortC_perm C).mem_iff.mp hc')
    show c.1 ∈ bals.map (·.1) ∧ c.2.1 ∈ bals.map (·.1) ∧ _
    rw [hb]; exact this
  · exact ((bridge_of hr).perm (sortC_perm C)).noRing
/-! ### the making of a show -/
structure Ws (M M' : Mem) (p p1 p2 p3 : Addr) (c s r : Int) (C : List Cord) (left had : List Str) : Prop where
  w : M' p = some (wl c s r)
  c : M' p1 = some (.lst ((C.map encCord).map .d))
  l : M' p2 = some (.lst ((left.map PyData.str).map .d))
  h : M' p3 = some (.lst ((had.map PyData.str).map .d))
  fr : ∀ a, a ≠ p → a ≠ p1 → a ≠ p2 → a ≠ p3 → M' a = M a
  d : p ≠ p1 ∧ p ≠ p2 ∧ p ≠ p3 ∧ p1 ≠ p2 ∧ p1 ≠ p3 ∧ p2 ≠ p3
section
variable {M M' : Mem} {p p1 p2 p3 : Addr} {c s r : Int} {C : List Cord} {left had : List Str}
theorem Ws.setW (h : Ws M M' p p1 p2 p3 c s r C left had) (c' s' r' : Int) : Ws M (M'.set p (wl c' s' r')) p p1 p2 p3 c' s' r' C left had :=
  let ⟨d1, d2, d3, d4, d5, d6⟩ := h.d
  ⟨Mem.set_same, by rw [Mem.set_ne d1.symm]; exact h.c, by rw [Mem.set_ne d2.symm]; exact h.l, by rw [Mem.set_ne d3.symm]; exact h.h, fun a a1 a2 a3 a4 => by rw [Mem.set_ne a1]; exact h.fr a a1 a2 a3 a4, h.d⟩
theorem Ws.setC (h : Ws M M' p p1 p2 p3 c s r C left had) (C' : List Cord) : Ws M (M'.set p1 (.lst ((C'.map encCord).map .d))) p p1 p2 p3 c s r C' left had :=
  let ⟨d1, d2, d3, d4, d5, d6⟩ := h.d
  ⟨by rw [Mem.set_ne d1]; exact h.w, Mem.set_same, by rw [Mem.set_ne d4.symm]; exact h.l, by rw [Mem.set_ne d5.symm]; exact h.h, fun a a1 a2 a3 a4 => by rw [Mem.set_ne a2]; exact h.fr a a1 a2 a3 a4, h.d⟩
theorem Ws.setL (h : Ws M M' p p1 p2 p3 c s r C left had) (l' : List Str) : Ws M (M'.set p2 (.lst ((l'.map PyData.str).map .d))) p p1 p2 p3 c s r C l' had :=
  let ⟨d1, d2, d3, d4, d5, d6⟩ := h.d
  ⟨by rw [Mem.set_ne d2]; exact h.w, by rw [Mem.set_ne d4]; exact h.c, Mem.set_same, by rw [Mem.set_ne d6.symm]; exact h.h, fun a a1 a2 a3 a4 => by rw [Mem.set_ne a3]; exact h.fr a a1 a2 a3 a4, h.d⟩
theorem Ws.setH (h : Ws M M' p p1 p2 p3 c s r C left had) (h' : List Str) : Ws M (M'.set p3 (.lst ((h'.map PyData.str).map .d))) p p1 p2 p3 c s r C left h' :=
  let ⟨d1, d2, d3, d4, d5, d6⟩ := h.d
  ⟨by rw [Mem.set_ne d3]; exact h.w, by rw [Mem.set_ne d5]; exact h.c, by rw [Mem.set_ne d6]; exact h.l, Mem.set_same, fun a a1 a2 a3 a4 => by rw [Mem.set_ne a4]; exact h.fr a a1 a2 a3 a4, h.d⟩
end
structure SI (N : List Str) (wide : Int) (C : List Cord) (left had : List Str) : Prop where
  nd : (had ++ left).Nodup
  sub : ∀ x ∈ had ++ left, x ∈ N
  cord : ∀ c ∈ C, c.1 ∈ had ∧ c.2.1 ∈ had ∧ sLt c.1 c.2.1 = true ∧ 0 ≤ c.2.2 ∧ c.2.2 ≤ max 3 (wide / 2)
  no : ¬ Ring C
  few : C.length ≤ had.length - 1
  len : had.length + left.length = N.length
theorem eraseIdx_mp {α β : Type} (f : α → β) : ∀ (l : List α) (j : Nat), (l.map f).eraseIdx j = (l.eraseIdx j).map f
  | [], _ => rfl
  | _ :: _, 0 => rfl
  | x :: l, j + 1 => by
    show f x :: (l.map f).eraseIdx j = f x :: (l.eraseIdx j).map f
    rw [eraseIdx_mp f l j]
theorem eqv_nil (l : List Str) : PyData.eqv (.list (l.map .str)) (.list []) = decide (l = []) := by
  cases l with
  | nil => simp [PyData.eqv, PyData.eqvAll]
  | cons x l => simp [PyData.eqv, PyData.eqvAll]
theorem conn_in {C : List Cord} {had : List Str} (h : ∀ c ∈ C, c.1 ∈ had ∧ c.2.1 ∈ had) {x y : Str} (hx : x ∉ had) (c : Conn C x y) : y = x := by
  rcases conn_ends c.symm with e | e
  · exact e.symm
  · exfalso
    unfold endsOf at e
    rcases List.mem_append.mp e with e | e
    · obtain ⟨d, hd, rfl⟩ := List.mem_map.mp e; exact hx (h d hd).1
    · obtain ⟨d, hd, rfl⟩ := List.mem_map.mp e; exact hx (h d hd).2
theorem sMM {a b : Str} (h : a ≠ b) : sLt (sMin a b) (sMax a b) = true ∧ ((sMin a b = a ∧ sMax a b = b) ∨ (sMin a b = b ∧ sMax a b = a)) := by
  unfold sMin sMax
  cases e : sLt a b with
  | true =>
    rw [sLt_asymm e]
    exact ⟨e, .inl ⟨rfl, rfl⟩⟩
  | false =>
    cases e2 : sLt b a with
    | true => exact ⟨e2, .inr ⟨rfl, rfl⟩⟩
    | false => exact (h (sLt_tot e e2)).elim
theorem names8_oks (n : Nat) : Oks (names8.take n) := fun x hx => (name_ok (names8_ok x (List.mem_of_mem_take hx))).1
theorem r_lshow : ∀ xs M Φ Ψ, T_lshow xs M Φ Ψ → j__law_show T_take T_lballoon { nx := fun _ M' => Dr Φ (.d .none) M', rt := Dr Φ, xr := DrX Ψ } (jstart 12 xs) M := by
  rintro _ M Φ Ψ ⟨p, most, wide, c, s, r, rfl, ⟨hM, W, ⟨m1, m2⟩, w1, w2⟩, hp⟩
  have e40 : (2 : Int) ^ 40 = 1099511627776 := by decide
  refine ⟨p, most, c, s, r, rfl, ⟨hM, W, by omega, by omega⟩, fun d c1 s1 r1 ⟨d0, d1⟩ W1 => ?_⟩
  have hn : 1 ≤ d.toNat + 1 ∧ d.toNat + 1 ≤ 8 := by omega
  generalize hN : names8.take (d.toNat + 1) = N
  have lN : N.length = d.toNat + 1 := by
    rw [← hN, List.length_take]
    have e : names8.length = 8 := rfl
    omega
  conv => whnf
  have ecut : cutD [PyData.str "al", PyData.str "bo", PyData.str "cy", PyData.str "di", PyData.str "ed", PyData.str "fay", PyData.str "gus", PyData.str "hal"] none (some (1 + d)) = N.map .str := by
    have := names_cut (d := d) ⟨d0, by omega⟩
    rw [hN] at this
    exact this
  rw [ecut]
  refine ⟨lenF (by omega), ?_⟩
  refine bal_acc (M := M) ⟨by omega, w2⟩ (ρ0 := [some (.v (.ref p)), some (.d (.int most)), some (.d (.int wide)), some (.d (.list (N.map .str))), none, none, none, none, none, none, none, none]) rfl rfl rfl N [] c1 s1 r1 W1 fun bs eb hb c2 s2 r2 W2 => ?_
  rw [fzs_d]
  have hM2 : (M.set p (wl c2 s2 r2)) p = some (wl c2 s2 r2) := Mem.set_same
  show (match rdLD (M.set p (wl c2 s2 r2)) (.d (.list (([] ++ bs).map encBal))) with
    | some ds => _
    | none => False)
  have erd : rdLD (M.set p (wl c2 s2 r2)) (.d (.list (([] ++ bs).map encBal))) = some (bs.map encBal) := by
    rw [List.nil_append]
    exact allD_of _
  rw [erd]
  intro p1 hp1 p2 hp2 p3 hp3
  generalize hMm : M.set p (wl c2 s2 r2) = Mm at hM2 hp1 hp2 hp3 ⊢
  have ws0 : Ws Mm (((Mm.set p1 (.lst [])).set p2 (.lst ((N.map PyData.str).map .d))).set p3 (.lst [])) p p1 p2 p3 c2 s2 r2 [] N [] := by
    have d1 : p ≠ p1 := by rintro rfl; rw [hM2] at hp1; cases hp1
    have d2 : p ≠ p2 := by rintro rfl; rw [Mem.set_ne d1, hM2] at hp2; cases hp2
    have d3 : p ≠ p3 := by rintro rfl; rw [Mem.set_ne d2, Mem.set_ne d1, hM2] at hp3; cases hp3
    have d4 : p1 ≠ p2 := by rintro rfl; rw [Mem.set_same] at hp2; cases hp2
    have d5 : p1 ≠ p3 := by rintro rfl; rw [Mem.set_ne d4, Mem.set_same] at hp3; cases hp3
    have d6 : p2 ≠ p3 := by rintro rfl; rw [Mem.set_same] at hp3; cases hp3
    exact ⟨by rw [Mem.set_ne d3, Mem.set_ne d2, Mem.set_ne d1]; exact hM2, by rw [Mem.set_ne d5, Mem.set_ne d4]; exact Mem.set_same, by rw [Mem.set_ne d6]; exact Mem.set_same, Mem.set_same, fun a a1 a2 a3 a4 => by rw [Mem.set_ne a4, Mem.set_ne a3, Mem.set_ne a2], d1, d2, d3, d4, d5, d6⟩
  have nN : N.Nodup := by rw [← hN]; exact (names8_pw.sublist (List.take_sublist _ _)).imp fun {a b} h e => by subst e; rw [sLt_irrefl] at h; cases h
  have oN : Oks N := by rw [← hN]; exact names8_oks _
  have free : ∀ a, M a = none → a ≠ p → Mm a = none := fun a ha hne => by rw [← hMm, Mem.set_ne hne]; exact ha
  have p1M : M p1 = none := by rw [← hMm, Mem.set_ne ws0.d.1.symm] at hp1; exact hp1
  have p2M : M p2 = none := by rw [Mem.set_ne ws0.d.2.2.2.1.symm, ← hMm, Mem.set_ne ws0.d.2.1.symm] at hp2; exact hp2
  have p3M : M p3 = none := by rw [Mem.set_ne ws0.d.2.2.2.2.2.symm, Mem.set_ne ws0.d.2.2.2.2.1.symm, ← hMm, Mem.set_ne ws0.d.2.2.1.symm] at hp3; exact hp3
  refine ⟨fun m ρ M' => ∃ c s r C left had, WOk c s r ∧ Ws Mm M' p p1 p2 p3 c s r C left had ∧ m = left.length ∧ SI N wide C left had ∧
    ∃ x8 x9 x10 x11, ρ = [some (.v (.ref p)), some (.d (.int most)), some (.d (.int wide)), some (.d (.list (N.map .str))), some (.d (.tuple (bs.map encBal))), some (.v (.ref p1)), some (.v (.ref p2)), some (.v (.ref p3)), x8, x9, x10, x11],
    ⟨_, c2, s2, r2, [], N, [], W2, ws0, rfl, ⟨by simpa using nN, fun x hx => by simpa using hx, fun c hc => (by cases hc), ?_, by simp, by simp⟩, _, _, _, _, rfl⟩, ?_⟩
  · rintro ⟨A, c, B, e, _⟩
    have := congrArg List.length e
    simp at this
  rintro m ρ M' ⟨c3, s3, r3, C, left, had, W3, ws, hm, si, x8, x9, x10, x11, rfl⟩
  subst hm
  have okL : Oks left := fun x hx => oN x (si.sub x (by simp [hx]))
  have okH : Oks had := fun x hx => oN x (si.sub x (by simp [hx]))
  show (match rdD M' (.v (.ref p2)), rdD M' (.d (.list [])) with
    | some d, some e => _
    | _, _ => False)
  rw [rdD_at ws.l]
  refine ⟨⟨(names_shp okL).ok (by decide), (Shp.list (n := 0) fun d hd => by cases hd).ok (by decide)⟩, ?_⟩
  rw [eqv_nil]
  show sel (true ^^ decide (left = [])) _ _
  refine sel_xdec (fun q => ?_) fun q => ?_
  · -- one more
    have lp : 0 < left.length := List.length_pos_iff.mpr q
    have hlen := si.len
    refine ⟨isLst_cell ws.l, ?_⟩
    show (match rdL M' (.v (.ref p2)) with
      | some ys => _
      | none => False)
    rw [rdL_at ws.l]
    refine ⟨p, ((left.map PyData.str).map EV.d).length, c3, s3, r3, rfl, ⟨ws.w, W3, by rw [List.length_map, List.length_map]; omega, by rw [List.length_map, List.length_map]; omega⟩, fun d c4 s4 r4 ⟨e0, e1⟩ W4 => ?_⟩
    rw [List.length_map, List.length_map] at e1
    have ws4 := ws.setW c4 s4 r4
    show (match cellL (M'.set p (wl c4 s4 r4)) (.v (.ref p2)), [EV.d (.int d)] with
      | some (p, xs), [.d (.int i)] => _
      | _, _ => False)
    rw [cellL_at ws4.l]
    have hi : d.toNat < left.length := by omega
    refine ⟨⟨e0, by have : (2 : Int) ^ 63 = 9223372036854775808 := by decide
                    omega⟩, ?_⟩
    obtain ⟨one, h1⟩ : ∃ one, left[d.toNat]? = some one := ⟨_, List.getElem?_eq_getElem hi⟩
    have h1' : ((left.map PyData.str).map EV.d)[d.toNat]? = some (.d (.str one)) := by rw [List.getElem?_map, List.getElem?_map, h1]; rfl
    show (match ((left.map PyData.str).map EV.d)[d.toNat]? with
      | some y => _
      | none => False)
    rw [h1']
    have m1 : one ∈ left := List.mem_of_getElem? h1
    have ndA := List.nodup_append.mp si.nd
    have n1 : one ∉ had := fun z => ndA.2.2 one z one m1 rfl
    have nd1 : one ∉ left.eraseIdx d.toNat := by
      intro z
      have := (List.mem_eraseIdx_iff_getElem?).mp z
      obtain ⟨i, hi1, hi2⟩ := this
      exact hi1 ((List.getElem?_inj (List.getElem?_eq_some_iff.mp hi2).1 ndA.2.1).mp (hi2.trans h1.symm))
    have sub1 : ∀ x ∈ left.eraseIdx d.toNat, x ∈ left := fun x hx => List.mem_of_mem_eraseIdx hx
    have e1' : ((left.map PyData.str).map EV.d).eraseIdx d.toNat = ((left.eraseIdx d.toNat).map PyData.str).map EV.d := by rw [eraseIdx_mp, eraseIdx_mp]
    have ws5 := ws4.setL (left.eraseIdx d.toNat)
    rw [← e1'] at ws5
    -- the end of a turn
    have tail : ∀ (M2 : Mem) (c s r : Int) (C2 : List Cord) (x9 x10 : Option EV), WOk c s r → Ws Mm M2 p p1 p2 p3 c s r C2 (left.eraseIdx d.toNat) had → (∀ c ∈ C2, (c.1 ∈ had ∨ c.1 = one) ∧ (c.2.1 ∈ had ∨ c.2.1 = one) ∧ sLt c.1 c.2.1 = true ∧ 0 ≤ c.2.2 ∧ c.2.2 ≤ max 3 (wide / 2)) → ¬ Ring C2 → C2.length ≤ had.length →
        jDrop (jBM isLst jrAppend (jVar 7) (jCons (jVar 8) (jNil)))
          { nx := fun ρ' M'' => ∃ m', m' < left.length ∧ ∃ c s r C left had, WOk c s r ∧ Ws Mm M'' p p1 p2 p3 c s r C left had ∧ m' = left.length ∧ SI N wide C left had ∧ ∃ x8 x9 x10 x11, ρ' = [some (.v (.ref p)), some (.d (.int most)), some (.d (.int wide)), some (.d (.list (N.map .str))), some (.d (.tuple (bs.map encBal))), some (.v (.ref p1)), some (.v (.ref p2)), some (.v (.ref p3)), x8, x9, x10, x11], rt := Dr Φ, xr := DrX Ψ }
          [some (.v (.ref p)), some (.d (.int most)), some (.d (.int wide)), some (.d (.list (N.map .str))), some (.d (.tuple (bs.map encBal))), some (.v (.ref p1)), some (.v (.ref p2)), some (.v (.ref p3)), some (.d (.str one)), x9, x10, x11] M2 := by
      intro M2 c s r C2 y9 y10 Wc ws' hC hR hl
      refine ⟨isLst_cell ws'.h, ?_⟩
      dsimp only [jCons, jNil, jVar, look]
      refine do_append ws'.h (by show _ ≤ 1000000; rw [List.length_map, List.length_map]; omega) ?_
      have ws6 := ws'.setH (had ++ [one])
      have eh : ((had ++ [one]).map PyData.str).map EV.d = (had.map PyData.str).map EV.d ++ [.d (.str one)] := by simp
      rw [eh] at ws6
      have el : (left.eraseIdx d.toNat).length = left.length - 1 := by rw [List.length_eraseIdx]; rw [if_pos hi]
      refine ⟨(left.eraseIdx d.toNat).length, by omega, c, s, r, C2, left.eraseIdx d.toNat, had ++ [one], Wc, ws6, rfl, ⟨?_, ?_, ?_, hR, ?_, ?_⟩, _, _, _, _, rfl⟩
      · have nda : (had ++ [one]).Nodup := by
          refine List.nodup_append.mpr ⟨ndA.1, by simp, fun x hx y hy e => ?_⟩
          have : y = one := by simpa using hy
          rw [e, this] at hx
          exact n1 hx
        refine List.nodup_append.mpr ⟨nda, ndA.2.1.sublist (List.eraseIdx_sublist _ _), fun x hx y hy e => ?_⟩
        subst e
        rcases List.mem_append.mp hx with hx | hx
        · exact ndA.2.2 x hx x (sub1 x hy) rfl
        · have : x = one := by simpa using hx
          rw [this] at hy; exact nd1 hy
      · intro x hx
        refine si.sub x ?_
        rcases List.mem_append.mp hx with hx | hx
        · rcases List.mem_append.mp hx with hx | hx
          · simp [hx]
          · have : x = one := by simpa using hx
            rw [this]; simp [m1]
        · simp [sub1 x hx]
      · intro c hc
        obtain ⟨h1, h2, h3⟩ := hC c hc
        refine ⟨?_, ?_, h3⟩
        · rcases h1 with h | h <;> simp [h]
        · rcases h2 with h | h <;> simp [h]
      · rw [List.length_append]; simp; omega
      · rw [List.length_append, el]; simp; omega
    have hC0 : ∀ c ∈ C, (c.1 ∈ had ∨ c.1 = one) ∧ (c.2.1 ∈ had ∨ c.2.1 = one) ∧ sLt c.1 c.2.1 = true ∧ 0 ≤ c.2.2 ∧ c.2.2 ≤ max 3 (wide / 2) := fun c hc => by
      obtain ⟨h1, h2, h3⟩ := si.cord c hc
      exact ⟨.inl h1, .inl h2, h3⟩
    have few := si.few
    generalize hM5 : (M'.set p (wl c4 s4 r4)).set p2 (.lst (((left.map PyData.str).map EV.d).eraseIdx d.toNat)) = M5 at ws5 ⊢
    show (match rdD M5 (.v (.ref p3)), rdD M5 (.d (.list [])) with
      | some d, some e => _
      | _, _ => False)
    rw [rdD_at ws5.h]
    refine ⟨⟨(names_shp okH).ok (by decide), (Shp.list (n := 0) fun d hd => by cases hd).ok (by decide)⟩, ?_⟩
    rw [eqv_nil]
    show sel (true ^^ decide (had = [])) _ _
    refine sel_xdec (fun q2 => ?_) fun q2 => ?_
    · refine ⟨p, 6, c4, s4, r4, rfl, ⟨ws5.w, W4, by decide, by decide⟩, fun d6 c6 s6 r6 ⟨f0, f1⟩ W6 => ?_⟩
      have ws6 := ws5.setW c6 s6 r6
      show sel (decide (0 < d6)) _ _
      refine sel_dec (fun q3 => ?_) fun q3 => ?_
      · have hpos : 0 < had.length := List.length_pos_iff.mpr q2
        show (match rdL (M5.set p (wl c6 s6 r6)) (.v (.ref p3)) with
          | some ys => _
          | none => False)
        rw [rdL_at ws6.h]
        refine ⟨p, ((had.map PyData.str).map EV.d).length, c6, s6, r6, rfl, ⟨ws6.w, W6, by rw [List.length_map, List.length_map]; omega, by rw [List.length_map, List.length_map]; omega⟩, fun d7 c7 s7 r7 ⟨g0, g1⟩ W7 => ?_⟩
        rw [List.length_map, List.length_map] at g1
        have ws7 := ws6.setW c7 s7 r7
        have hj : d7.toNat < had.length := by omega
        obtain ⟨other, h2⟩ : ∃ other, had[d7.toNat]? = some other := ⟨_, List.getElem?_eq_getElem hj⟩
        have m2 : other ∈ had := List.mem_of_getElem? h2
        have ne12 : one ≠ other := fun z => n1 (z ▸ m2)
        show (match rdL ((M5.set p (wl c6 s6 r6)).set p (wl c7 s7 r7)) (.v (.ref p3)) with
          | some xs => _
          | none => False)
        rw [rdL_at ws7.h]
        have hat : atI ((had.map PyData.str).map EV.d) d7 = some (.d (.str other)) := by
          have e : d7 = ((d7.toNat : Nat) : Int) := by omega
          rw [e]
          refine atI_nat ?_
          rw [List.getElem?_map, List.getElem?_map, h2]; rfl
        show (match atI ((had.map PyData.str).map EV.d) d7 with
          | some e => _
          | none => False)
        rw [hat]
        refine ⟨p, 4, c7, s7, r7, rfl, ⟨ws7.w, W7, by decide, by decide⟩, fun d8 c8 s8 r8 ⟨h80, h81⟩ W8 => ?_⟩
        have ws8 := ws7.setW c8 s8 r8
        refine ⟨⟨(by decide : (0 : Int) < 2), (small_bt ⟨by decide, by decide⟩).mono (by decide)⟩, ?_⟩
        refine ⟨p, wide / 2 + 1, c8, s8, r8, rfl, ⟨ws8.w, W8, by omega, by omega⟩, fun d9 c9 s9 r9 ⟨h90, h91⟩ W9 => ?_⟩
        have ws9 := ws8.setW c9 s9 r9
        refine ⟨p, 3, c9, s9, r9, rfl, ⟨ws9.w, W9, by decide, by decide⟩, fun d10 c10 s10 r10 ⟨h100, h101⟩ W10 => ?_⟩
        have ws10 := ws9.setW c10 s10 r10
        generalize hM10 : ((((M5.set p (wl c6 s6 r6)).set p (wl c7 s7 r7)).set p (wl c8 s8 r8)).set p (wl c9 s9 r9)).set p (wl c10 s10 r10) = M10 at ws10 ⊢
        obtain ⟨mm1, mm2⟩ := sMM ne12
        have nc : ¬ Conn C (sMin one other) (sMax one other) := by
          intro z
          have cin : ∀ c ∈ C, c.1 ∈ had ∧ c.2.1 ∈ had := fun c hc => ⟨(si.cord c hc).1, (si.cord c hc).2.1⟩
          rcases mm2 with ⟨a1, a2⟩ | ⟨a1, a2⟩
          · rw [a1, a2] at z
            exact ne12 (conn_in cin n1 z).symm
          · rw [a1, a2] at z
            exact ne12 (conn_in cin n1 z.symm).symm
        have fin : ∀ long : Int, 0 ≤ long → long ≤ max 3 (wide / 2) → isLst (.v (.ref p1)) M10 ∧ jrAppend (.v (.ref p1)) [.d (.tuple [.str (sMin one other), .str (sMax one other), .int long])] M10 fun _ M2 =>
            jDrop (jBM isLst jrAppend (jVar 7) (jCons (jVar 8) (jNil)))
              { nx := fun ρ' M'' => ∃ m', m' < left.length ∧ ∃ c s r C left had, WOk c s r ∧ Ws Mm M'' p p1 p2 p3 c s r C left had ∧ m' = left.length ∧ SI N wide C left had ∧ ∃ x8 x9 x10 x11, ρ' = [some (.v (.ref p)), some (.d (.int most)), some (.d (.int wide)), some (.d (.list (N.map .str))), some (.d (.tuple (bs.map encBal))), some (.v (.ref p1)), some (.v (.ref p2)), some (.v (.ref p3)), x8, x9, x10, x11], rt := Dr Φ, xr := DrX Ψ }
              [some (.v (.ref p)), some (.d (.int most)), some (.d (.int wide)), some (.d (.list (N.map .str))), some (.d (.tuple (bs.map encBal))), some (.v (.ref p1)), some (.v (.ref p2)), some (.v (.ref p3)), some (.d (.str one)), some (.d (.str other)), some (.d (.int long)), x11] M2 := by
          intro long l0 l1
          refine ⟨isLst_cell ws10.c, do_append ws10.c (by show _ ≤ 1000000; rw [List.length_map, List.length_map]; omega) ?_⟩
          have wsC := ws10.setC (C ++ [(sMin one other, sMax one other, long)])
          have eh : ((C ++ [(sMin one other, sMax one other, long)]).map encCord).map EV.d = (C.map encCord).map EV.d ++ [.d (.tuple [.str (sMin one other), .str (sMax one other), .int long])] := by
            simp only [List.map_append, List.map_cons, List.map_nil]; rfl
          rw [eh] at wsC
          refine tail _ _ _ _ _ _ _ W10 wsC (fun c hc => ?_) (ring_snoc si.no nc) (by rw [List.length_append]; simp; omega)
          rcases List.mem_append.mp hc with hc | hc
          · exact hC0 c hc
          · have : c = (sMin one other, sMax one other, long) := by simpa using hc
            subst this
            refine ⟨?_, ?_, mm1, l0, l1⟩
            · rcases mm2 with ⟨a1, a2⟩ | ⟨a1, a2⟩
              · exact .inr a1
              · exact .inl (by show sMin one other ∈ had; rw [a1]; exact m2)
            · rcases mm2 with ⟨a1, a2⟩ | ⟨a1, a2⟩
              · exact .inl (by show sMax one other ∈ had; rw [a2]; exact m2)
              · exact .inr a2
        have hd10 : d10 = 0 ∨ d10 = 1 ∨ d10 = 2 := by omega
        rcases hd10 with rfl | rfl | rfl
        · exact fin 0 (by omega) (by omega)
        · exact fin d8 h80 (by omega)
        · exact fin d9 h90 (by omega)
      · exact tail _ _ _ _ C _ _ W6 ws6 hC0 si.no (by omega)
    · exact tail _ _ _ _ C _ _ W4 ws5 hC0 si.no (by omega)
  · -- the end
    subst q
    have hlen := si.len
    have eds : rdLD M' (.v (.ref p1)) = some (C.map encCord) := by
      unfold rdLD; rw [rdL_at ws.c]; exact allD_of _
    show (match rdLD M' (.v (.ref p1)) with
      | some ds => _
      | none => False)
    rw [eds]
    refine ⟨⟨fun d hd e he => ?_, .inl fun d hd => ?_, fun d hd => ?_⟩, fun q hq => ?_⟩
    · obtain ⟨a, _, rfl⟩ := List.mem_map.mp hd
      obtain ⟨b, _, rfl⟩ := List.mem_map.mp he
      exact alike_cords a b
    · obtain ⟨a, _, rfl⟩ := List.mem_map.mp hd
      exact ⟨_, _, rfl⟩
    · obtain ⟨a, _, rfl⟩ := List.mem_map.mp hd
      exact encCord_depth a
    rw [sortC_map]
    have eds2 : rdLD (M'.set q (.lst (((sortC C).map encCord).map .d))) (.v (.ref q)) = some ((sortC C).map encCord) := by
      unfold rdLD; rw [rdL_at Mem.set_same]; exact allD_of _
    show (match rdLD (M'.set q (.lst (((sortC C).map encCord).map .d))) (.v (.ref q)) with
      | some ds => _
      | none => False)
    rw [eds2]
    have hlb : bs.length = d.toNat + 1 := by
      have := congrArg List.length eb
      rw [List.length_map] at this; omega
    have hN8 : bs.map (·.1) = names8.take (d.toNat + 1) := by rw [eb, hN]
    have had0 : had.length + 0 = N.length := hlen
    have hb3 : ∀ b ∈ bs, (-1000 ≤ b.2.1 ∧ b.2.1 ≤ 1000) ∧ 1 ≤ b.2.2 ∧ b.2.2 ≤ 100 := by
      intro b hb4
      obtain ⟨⟨k1, k2⟩, k3⟩ := hb b hb4
      exact ⟨⟨by omega, by omega⟩, k3⟩
    have hc3 : ∀ c ∈ C, c.1 ∈ names8.take (d.toNat + 1) ∧ c.2.1 ∈ names8.take (d.toNat + 1) ∧ sLt c.1 c.2.1 = true ∧ 0 ≤ c.2.2 ∧ c.2.2 ≤ 1000 := by
      intro c hc
      obtain ⟨a1, a2, a3, a4, a5⟩ := si.cord c hc
      refine ⟨?_, ?_, a3, a4, by omega⟩
      · rw [hN]; exact si.sub _ (by simp [a1])
      · rw [hN]; exact si.sub _ (by simp [a2])
    have P : Parts ⟨bs, sortC C⟩ := law_parts hn hN8 hb3 hc3 si.no
    have lC : (sortC C).length = C.length := (sortC_perm C).length_eq
    have few := si.few
    have LS : LShow most wide ⟨bs, sortC C⟩ := {
      valid := ⟨parts_iff.mpr P, by show (sortC C).length ≤ 200; omega⟩
      most := by show (bs.length : Int) ≤ most; omega
      own := fun b hb' => (hb b hb').1
      long := fun c hc => (si.cord c ((sortC_perm C).mem_iff.mp hc)).2.2.2.2
      few := by show (sortC C).length + 1 ≤ bs.length; omega
      names := by show bs.map (·.1) = names8.take bs.length; rw [hlb]; exact hN8 }
    have := hp ⟨bs, sortC C⟩ c3 s3 r3 LS W3
    refine ⟨M.set p (wl c3 s3 r3), fun a m e => ?_, this⟩
    have q1 : q ≠ p := by rintro rfl; rw [ws.w] at hq; cases hq
    by_cases ap : a = p
    · subst ap
      rw [Mem.set_same] at e
      rw [Mem.set_ne q1.symm, ws.w, e]
    · rw [Mem.set_ne ap] at e
      have a1 : a ≠ p1 := by rintro rfl; rw [p1M] at e; cases e
      have a2 : a ≠ p2 := by rintro rfl; rw [p2M] at e; cases e
      have a3 : a ≠ p3 := by rintro rfl; rw [p3M] at e; cases e
      have e' : M' a = M a := by rw [ws.fr a ap a1 a2 a3, ← hMm, Mem.set_ne ap]
      have aq : a ≠ q := by rintro rfl; rw [e', e] at hq; cases hq
      rw [Mem.set_ne aq, e', e]
/-! ### at which height -/
noncomputable def T_at : TJ := fun xs M Φ _ => ∃ (S : Show) (n : Str), xs = [.d (encShow S), .d (.str n)] ∧ (Valid S ∧ n ∈ S.bals.map (·.1)) ∧ Φ (.d (encQ (ht S n))) M
theorem pairsK_rows (L : List (Str × Rat)) : pairsK (L.map fun r => .tuple [.str r.1, encQ r.2]) = some (L.map rowK) := by
  induction L with
  | nil => rfl
  | cons r L ih =>
    rw [List.map_cons]
    show (match some (Sum.inr r.1, encQ r.2), pairsK (L.map fun r => PyData.tuple [.str r.1, encQ r.2]) with
      | some p, some ps => some (p :: ps)
      | _, _ => none) = _
    rw [ih]
    rfl
theorem valE_merge : ∀ (more kvs : List (Key × EV)) (k : Key), (∀ p ∈ more, p.1 ≠ k) → valE (mergeE kvs more) k = valE kvs k
  | [], kvs, k, _ => rfl
  | p :: more, kvs, k, h => by
    show valE (mergeE (putE kvs p.1 p.2) more) k = _
    rw [valE_merge more _ k fun q hq => h q (List.mem_cons_of_mem _ hq), valE_put, if_neg fun e => h p (List.mem_cons_self ..) e.symm]
theorem valE_merge_in : ∀ (more kvs : List (Key × EV)) (k : Key) (v : EV), (more.map (·.1)).Nodup → (k, v) ∈ more → valE (mergeE kvs more) k = some v
  | p :: more, kvs, k, v, nd, h => by
    rw [List.map_cons, List.nodup_cons] at nd
    show valE (mergeE (putE kvs p.1 p.2) more) k = _
    rcases List.mem_cons.mp h with e | h
    · subst e
      rw [valE_merge more _ _ fun q hq e => nd.1 (by rw [← e]; exact List.mem_map.mpr ⟨q, hq, rfl⟩), valE_put, if_pos rfl]
    · exact valE_merge_in more _ k v nd.2 h
theorem mergeE_nodup : ∀ (more kvs : List (Key × EV)), (kvs.map (·.1) ++ more.map (·.1)).Nodup → mergeE kvs more = kvs ++ more
  | [], kvs, _ => by rw [List.append_nil]; rfl
  | p :: more, kvs, nd => by
    have hn : valE kvs p.1 = none := by
      have : p.1 ∉ kvs.map (·.1) := fun h => by
        have := (List.nodup_append.mp nd).2.2 p.1 h p.1 (by simp)
        exact this rfl
      clear nd
      induction kvs with
      | nil => rfl
      | cons q kvs ih =>
        rw [List.map_cons, List.mem_cons, not_or] at this
        rw [valE_cons, if_neg fun e => this.1 e.symm]
        exact ih this.2
    show mergeE (putE kvs p.1 p.2) more = _
    rw [putE_new _ hn, mergeE_nodup more]
    · simp
    · have e : (kvs ++ [(p.1, p.2)]).map (·.1) ++ more.map (·.1) = kvs.map (·.1) ++ (p :: more).map (·.1) := by simp
      rw [e]; exact nd
noncomputable def rowsT (S : Show) (fx : Table) : Table := S.bals.map fun b => (b.1, htF S fx b.1)
theorem rowsT_map (S : Show) (fx : Table) : (rowsT S fx).map (fun r => PyData.tuple [.str r.1, encQ r.2]) = rowsOf S fx := by
  unfold rowsT rowsOf; rw [List.map_map]; rfl
theorem rowsT_keys (S : Show) (fx : Table) : (rowsT S fx).map (·.1) = S.bals.map (·.1) := by unfold rowsT; rw [List.map_map]; rfl
theorem encTb_keys (tb : Table) : (encTb tb).map (·.1) = (tb.map (·.1)).map Sum.inr := by unfold encTb; rw [List.map_map, List.map_map]; rfl
theorem inr_nodup {L : List Str} (h : L.Nodup) : (L.map (Sum.inr : Str → Key)).Nodup := by
  unfold List.Nodup at h ⊢
  rw [List.pairwise_map]
  exact h.imp fun {a b} ne e => ne (Sum.inr.inj e)
/-- dict(told heights) -/
theorem dict_rows {S : Show} (P : Parts S) (T : Tidy S) (fx : Table) {M : Mem} {x : EV} {Φ : JK} (hx : rdLD M x = some (rowsOf S fx)) (h : ∀ p, M p = none → Φ (.v (.ref p)) (M.set p (.dic (encTb (rowsT S fx))))) : jrDictL [x] M Φ := by
  show (match rdLD M x with
    | some ds => _
    | none => False)
  rw [hx, ← rowsT_map]
  show (match pairsK ((rowsT S fx).map fun r => PyData.tuple [.str r.1, encQ r.2]) with
    | some kvs => _
    | none => False)
  rw [pairsK_rows]
  have e : mergeE [] (((rowsT S fx).map rowK).map fun r => (r.1, EV.d r.2)) = encTb (rowsT S fx) := by
    rw [← tb_dic, mergeE_nodup]
    · rfl
    · rw [encTb_keys, rowsT_keys]
      exact inr_nodup T.nd
  intro p hp
  rw [e]
  exact h p hp
theorem rowsT_val {S : Show} (T : Tidy S) (fx : Table) {n : Str} (h : n ∈ S.bals.map (·.1)) : valE (encTb (rowsT S fx)) (.inr n) = some (.d (encQ (htF S fx n))) := by
  have hk : n ∈ (rowsT S fx).map (·.1) := by rw [rowsT_keys]; exact h
  obtain ⟨q, hq, e⟩ := valE_tb_in hk
  rw [e]
  obtain ⟨b, hb, eb⟩ := List.mem_map.mp (show (n, q) ∈ S.bals.map fun b => (b.1, htF S fx b.1) from hq)
  cases eb
  rfl
theorem r_at : ∀ xs M Φ Ψ, T_at xs M Φ Ψ → j__law_at T_heights { nx := fun _ M' => Dr Φ (.d .none) M', rt := Dr Φ, xr := DrX Ψ } (jstart 2 xs) M := by
  rintro _ M Φ Ψ ⟨S, n, rfl, ⟨V, hn⟩, hp⟩
  refine ⟨S, rfl, V, fun l hl => ?_⟩
  dsimp only [jNil]
  refine dict_rows (M := M.set l (.lst ((rowsOf S []).map .d))) V.parts V.neat.tidy [] (x := .v (.ref l)) (by unfold rdLD; rw [rdL_at Mem.set_same]; exact allD_of _) fun p hp0 => ?_
  show (match dGetE ((M.set l (.lst ((rowsOf S []).map .d))).set p (.dic (encTb (rowsT S [])))) (.v (.ref p)) (.str n) with
    | some (some z) => _
    | _ => False)
  rw [dGet_str Mem.set_same, rowsT_val V.neat.tidy [] hn]
  exact ⟨M, (MLe.set hl).trans (MLe.set hp0), hp⟩
end Td

/-! TdR5: cuts. -/
namespace Td
open PySem PySem.Spec PyProof.Rows L2
def j_need_name : JTS :=
  jIfS (jOr (jNot (jTest (jCB (jrIsi "str") (jCons (jVar 1) (jCons (jV (.ty "str")) (jNil)))))) (jTest (jOp (jrIn true) (jVar 1) (jLc (jiT (jOp jrIx (jVar 0) (jC (.int 0)))) (jName 2) (jYes) (jOp jrIx (jVar 2) (jC (.int 0))) [2])))) (jNever) (jNext)
def j_need_height (T_is_fraction : TJ) : JTS :=
  jIfS (jOr (jNot (jTest (jCall T_is_fraction (jCons (jVar 0) (jNil))))) (jTest (jOp (jrI fun i j => .bool (decide (i < j))) (jOp jrIx (jVar 0) (jC (.int 0))) (jC (.int 0))))) (jNever) (jNext)
def j_choices (T_choices : TJ) : JTS :=
  jSeq (jIfS (jTest (jOp (jrEq false) (jVar 1) (jC (.int 0)))) (jRet (jLstD (jCons (jTup (jNil)) (jNil)))) (jNext))
    (jSeq (jAsg (jLstC (jNil)) (jName 2))
    (jSeq (jFor (jiET (jCons (jVar 0) (jNil))) (jgTup 2 (jgCons (jName 3) (jgCons (jName 4) (jgNil)))) (jDrop (jBM isLst jrExtend (jVar 2) (jCons (jLc (jiL (jCall T_choices (jCons (jSlT (jVar 0) (jPart (jOp (jrI fun i j => .int (i + j)) (jVar 3) (jC (.int 1)))) (jNoPart)) (jCons (jOp (jrI fun i j => .int (i - j)) (jVar 1) (jC (.int 1))) (jNil))))) (jName 5) (jYes) (jOp jrCatT (jTup (jCons (jVar 4) (jNil))) (jVar 5)) [5]) (jNil)))))
    (jRet (jFz (jVar 2)))))
def T_need_name : TJ := fun xs M Φ _ => ∃ (S : Show) (n : Str), xs = [.d (encShow S), .d (.str n)] ∧ (Oks (S.bals.map (·.1)) ∧ S.bals.length ≤ 100 ∧ n ∈ S.bals.map (·.1)) ∧ Φ (.d .none) M
theorem r_need_name : ∀ xs M Φ Ψ, T_need_name xs M Φ Ψ → j_need_name { nx := fun _ M' => Φ (.d .none) M', rt := Φ, xr := Ψ } (jstart 3 xs) M := by
  rintro _ M Φ Ψ ⟨S, n, rfl, ⟨ok, hl, hn⟩, hp⟩
  refine ⟨rfl, ?_⟩
  rw [isi_str]
  refine ⟨lenF (enc := encBal) (xs := S.bals) (by omega), ?_⟩
  refine accG1 encBal (fun b => .str b.1) S.bals (fun b hb K1 k => k) ?_
  show (match fzs ((S.bals.map fun b => PyData.str b.1).map .d) M with
    | some (ds, M3) => _
    | none => False)
  have em : (S.bals.map fun b => PyData.str b.1) = (S.bals.map (·.1)).map .str := by rw [List.map_map]; rfl
  rw [fzs_d, em]
  refine ⟨⟨(str_shp (ok n hn)).ok (n := 0) (by decide), (names_shp ok).ok (by decide)⟩, ?_⟩
  rw [str_eq.any n, decide_eq_true hn]
  exact hp
def T_need_height : TJ := fun xs M Φ _ => ∃ q : Rat, xs = [.d (encQ q)] ∧ 0 ≤ q ∧ Φ (.d .none) M
theorem r_need_height : ∀ xs M Φ Ψ, T_need_height xs M Φ Ψ → j_need_height T_is_fraction { nx := fun _ M' => Φ (.d .none) M', rt := Φ, xr := Ψ } (jstart 1 xs) M := by
  rintro _ M Φ Ψ ⟨q, rfl, hq, hp⟩
  refine ⟨encQ q, rfl, fun ds e => by cases e; show (2 : Nat) ≤ _; decide, ?_⟩
  have e : (fracD (encQ q)).isSome = true := by
    unfold encQ
    rw [fracD_pair, if_pos ⟨by have := q.den_pos; omega, by rw [Int.natAbs_natCast]; exact q.reduced⟩]
    rfl
  rw [e]
  show sel (decide (q.num < 0)) _ _
  refine sel_dec (fun h => ?_) fun _ => hp
  have := Rat.num_nonneg.mpr hq
  omega
def choicesL {α : Type} : List α → Nat → List (List α)
  | _, 0 => [[]]
  | [], _ + 1 => []
  | c :: cs, m + 1 => (choicesL cs m).map (c :: ·) ++ choicesL cs (m + 1)
theorem choicesL_len {α : Type} : ∀ (cs : List α) (m : Nat), (choicesL cs m).length ≤ 2 ^ cs.length
  | cs, 0 => by
    have := Nat.one_le_two_pow (n := cs.length)
    cases cs <;> simpa [choicesL] using this
  | [], m + 1 => by simp [choicesL]
  | c :: cs, m + 1 => by
    have h1 := choicesL_len cs m
    have h2 := choicesL_len cs (m + 1)
    rw [choicesL, List.length_append, List.length_map, List.length_cons, Nat.pow_succ]
    omega
def encLot (l : List Cord) : PyData := .tuple (l.map encCord)
theorem mem_choices {α : Type} : ∀ {cs : List α} {m : Nat} {l : List α}, l ∈ choicesL cs m ↔ l.Sublist cs ∧ l.length = m
  | cs, 0, l => by
    have e : choicesL cs 0 = [[]] := by cases cs <;> rfl
    rw [e, List.mem_singleton]
    refine ⟨fun h => ?_, fun h => List.length_eq_zero_iff.mp h.2⟩
    rw [h]; exact ⟨List.nil_sublist _, rfl⟩
  | [], m + 1, l => by
    refine ⟨fun h => absurd h (by simp [choicesL]), fun h => ?_⟩
    obtain ⟨h1, h⟩ := h
    rw [List.sublist_nil] at h1
    rw [h1] at h
    cases h
  | c :: cs, m + 1, l => by
    rw [choicesL, List.mem_append, List.mem_map, mem_choices (cs := cs) (m := m + 1)]
    constructor
    · rintro (⟨r, hr, rfl⟩ | h)
      · obtain ⟨h1, h2⟩ := mem_choices.mp hr
        exact ⟨h1.cons_cons c, by rw [List.length_cons, h2]⟩
      · exact ⟨h.1.cons c, h.2⟩
    · rintro ⟨h1, h2⟩
      cases h1 with
      | cons _ h1 => exact .inr ⟨h1, h2⟩
      | cons_cons _ h1 =>
        rename_i r
        exact .inl ⟨r, mem_choices.mpr ⟨h1, by simpa using h2⟩, rfl⟩
theorem do_extend {M : Mem} {p : Addr} {xs : List EV} {ds : List PyData} {Φ : JK} (h : M p = some (.lst xs)) (hl : lenOk (xs ++ ds.map EV.d).length) (q : Φ (.d .none) (M.set p (.lst (xs ++ ds.map .d)))) : jrExtend (.v (.ref p)) [.d (.list ds)] M Φ := by
  show (match cellL M (.v (.ref p)), [EV.d (.list ds)] with
    | some (p, xs), [y] => _
    | _, _ => False)
  rw [cellL_at h]
  exact ⟨hl, q⟩
theorem cut_from {xs : List Cord} {k : Nat} (h : k + 1 ≤ xs.length) : cutD (xs.map encCord) (some ((k : Int) + 1)) none = (xs.drop (k + 1)).map encCord := by
  unfold cutD HT.sIx
  have h0 : ¬ ((k : Int) + 1 < 0) := by omega
  have h1 : ((k : Int) + 1).toNat = k + 1 := by omega
  simp only [h0, if_false, h1, List.length_map]
  rw [Nat.min_eq_left h, ← List.map_drop, List.take_of_length_le (by simp)]
def T_choices (n : Nat) : TJ := fun xs M Φ _ => ∃ (cs : List Cord) (m : Nat), xs = [.d (encLot cs), .d (.int m)] ∧ (cs.length ≤ 8 ∧ m < n) ∧ Φ (.d (.list ((choicesL cs m).map encLot))) M
theorem r_choices (n : Nat) : ∀ xs M Φ Ψ, T_choices (n + 1) xs M Φ Ψ → j_choices (T_choices n) { nx := fun _ M' => Φ (.d .none) M', rt := Φ, xr := Ψ } (jstart 6 xs) M := by
  rintro _ M Φ Ψ ⟨cs, m, rfl, ⟨hc, hm⟩, hp⟩
  cases m with
  | zero =>
    have e : choicesL cs 0 = [[]] := by cases cs <;> rfl
    rw [e] at hp
    exact hp
  | succ m =>
    intro p hp0
    show jLoopF _ _ _ (enumD 0 (cs.map encCord)) _ _
    refine loopEnum encCord (fun k B ρ M' => ∃ (A : List Cord) (o3 o4 o5 : Option EV) (acc : List (List Cord)), cs = A ++ B ∧ A.length = k ∧ ρ = [some (.d (encLot cs)), some (.d (.int ((m + 1 : Nat) : Int))), some (.v (.ref p)), o3, o4, o5] ∧ M' = M.set p (.lst ((acc.map encLot).map .d)) ∧ acc ++ choicesL B (m + 1) = choicesL cs (m + 1))
      ?_ ?_ cs 0 _ _ ⟨[], none, none, none, [], rfl, rfl, rfl, rfl, rfl⟩
    · rintro k _ _ ⟨A, o3, o4, o5, acc, e, hk, rfl, rfl, e2⟩
      have e2 : acc = choicesL cs (m + 1) := by simpa [choicesL] using e2
      subst e2
      show (match fz (.v (.ref p)) (M.set p (.lst (((choicesL cs (m + 1)).map encLot).map .d))) with
        | some (d, M2) => _
        | none => False)
      rw [fz_at Mem.set_same, Mem.del_set hp0]
      exact hp
    · rintro k c B _ _ ⟨A, o3, o4, o5, acc, e, hk, rfl, rfl, e2⟩ N hN
      refine tup2 ?_
      refine ⟨isLst_cell Mem.set_same, ?_⟩
      have hd : cs.drop (k + 1) = B := by rw [e, ← hk, List.drop_append]; simp
      have hlen : cs.length = k + 1 + B.length := by rw [e, List.length_append, hk, List.length_cons]; omega
      refine ⟨B, m, ?_, ⟨by omega, by omega⟩, ?_⟩
      · show [EV.d (.tuple (cutD (cs.map encCord) (some ((k : Int) + 1)) none)), EV.d (.int (((m + 1 : Nat) : Int) - 1))] = _
        rw [cut_from, hd]
        have e1 : ((m + 1 : Nat) : Int) - 1 = (m : Int) := by omega
        rw [e1]
        rfl
        rw [hlen]; omega
      have hL := choicesL_len B m
      have hL2 : 2 ^ B.length ≤ 256 := Nat.pow_le_pow_right (n := 2) (by decide) (show B.length ≤ 8 by omega)
      refine ⟨lenF (enc := encLot) (xs := choicesL B m) (by omega), ?_⟩
      refine accG1 encLot (fun l => encLot (c :: l)) (choicesL B m) (fun l hl K1 k1 => ⟨?_, k1⟩) ?_
      · show lenOk ([encCord c] ++ l.map encCord).length
        have := (mem_choices.mp hl).1.length_le
        rw [List.length_append, List.length_map]
        show _ ≤ 1000000
        simp; omega
      have ef : ((choicesL B m).map fun l => encLot (c :: l)) = ((choicesL B m).map (c :: ·)).map encLot := by rw [List.map_map]; rfl
      rw [ef]
      rw [fzs_d]
      dsimp only [jNil]
      refine do_extend (xs := (acc.map encLot).map .d) Mem.set_same ?_ ?_
      · have z := choicesL_len cs (m + 1)
        have z2 : 2 ^ cs.length ≤ 256 := Nat.pow_le_pow_right (n := 2) (by decide) (show cs.length ≤ 8 by omega)
        have z3 := congrArg List.length e2
        rw [choicesL, List.length_append, List.length_append, List.length_map] at z3
        show _ ≤ 1000000
        simp only [List.length_append, List.length_map]
        omega
      rw [Mem.set_set]
      refine hN _ _ ⟨A ++ [c], _, _, _, acc ++ (choicesL B m).map (c :: ·), ?_, ?_, rfl, ?_, ?_⟩
      · rw [e]; simp
      · rw [List.length_append, hk]; rfl
      · rw [List.map_append, List.map_append]
      · rw [← e2, choicesL, List.append_assoc]
end Td
namespace Td
open PySem PySem.Spec PyProof.Rows L2
def j_fewest_cuts (T_choices T_is_less T_all_heights T_need_height T_need_name T_need_show : TJ) : JTS :=
  jSeq (jDrop (jCall T_need_show (jCons (jVar 0) (jNil))))
    (jSeq (jDrop (jCall T_need_name (jCons (jVar 0) (jCons (jVar 1) (jNil)))))
    (jSeq (jDrop (jCall T_need_height (jCons (jVar 2) (jNil))))
    (jSeq (jFor (jiR1 (jCons (jOp (jrI fun i j => .int (i + j)) (jCB jrLen (jCons (jOp jrIx (jVar 0) (jC (.int 1))) (jNil))) (jC (.int 1))) (jNil))) (jName 3) (jFor (jiL (jCall T_choices (jCons (jOp jrIx (jVar 0) (jC (.int 1))) (jCons (jVar 3) (jNil))))) (jName 4) (jSeq (jAsg (jTup (jCons (jOp jrIx (jVar 0) (jC (.int 0))) (jCons (jCB jrTuple (jCons (jLc (jiT (jOp jrIx (jVar 0) (jC (.int 1)))) (jName 6) (jTest (jOp (jrIn true) (jVar 6) (jVar 4))) (jVar 6) [6]) (jNil))) (jNil)))) (jName 5))
    (jIfS (jNot (jTest (jCall T_is_less (jCons (jDGet (jCall T_all_heights (jCons (jVar 5) (jCons (jDNew) (jNil)))) (jVar 1)) (jCons (jVar 2) (jNil)))))) (jRet (jVar 4)) (jNext)))))
    (jRet (jC .none)))))
/-- the show with some cords cut -/
def cutShow (S : Show) (lot : List Cord) : Show := ⟨S.bals, S.cords.filter fun c => !decide (c ∈ lot)⟩
theorem Valid.cut {S : Show} (V : Valid S) (lot : List Cord) : Valid (cutShow S lot) where
  show_ := parts_iff.mpr {
    one := V.parts.one, eight := V.parts.eight, bal := V.parts.bal, ris := V.parts.ris
    cord := fun c hc => V.parts.cord c (List.mem_filter.mp hc).1
    risC := V.parts.risC.sublist (List.filter_sublist.map encCord)
    no := ((bridge_of V.parts.no).sub List.filter_sublist).noRing }
  few := Nat.le_trans (List.length_filter_le _ _) V.few
theorem ht_ok {S : Show} (V : Valid S) {n : Str} (hn : n ∈ S.bals.map (·.1)) : 0 ≤ ht S n ∧ Sm 1500 (ht S n) := htF_ok V.neat.tidy (.nil S) hn
theorem cord_shp {C : List Cord} (h : Oks (endsOf C)) {c : Cord} (hc : c ∈ C) : Shp 1 (encCord c) := Shp.tup (n := 0) fun d hd => by
  have e1 : c.1 ∈ endsOf C := List.mem_append.mpr (.inl (List.mem_map_of_mem hc))
  have e2 : c.2.1 ∈ endsOf C := List.mem_append.mpr (.inr (List.mem_map.mpr ⟨c, hc, rfl⟩))
  have hd : d = .str c.1 ∨ d = .str c.2.1 ∨ d = .int c.2.2 := by simpa using hd
  rcases hd with rfl | rfl | rfl
  · exact str_shp (h _ e1)
  · exact str_shp (h _ e2)
  · exact Shp.int
theorem cord_eq : EncEq encCord := ⟨fun a b => by
  unfold encCord
  simp only [PyData.eqv, PyData.eqvAll, Bool.and_true, Bool.and_eq_true, beq_iff_eq]
  constructor
  · rintro ⟨h1, h2, h3⟩
    exact Prod.ext h1 (Prod.ext h2 h3)
  · rintro rfl
    exact ⟨rfl, rfl, rfl⟩⟩
def lotsOf (cs : List Cord) : List (List Cord) := (List.range (cs.length + 1)).flatMap (choicesL cs)
noncomputable def reachB (S : Show) (n : Str) (h : Rat) (lot : List Cord) : Bool := !decide (ht (cutShow S lot) n < h)
noncomputable def firstCut (S : Show) (n : Str) (h : Rat) : Option (List Cord) := (lotsOf S.cords).find? (reachB S n h)
def encF : Option (List Cord) → PyData
  | none => .none
  | some l => encLot l
noncomputable def T_fewest : TJ := fun xs M Φ _ => ∃ (S : Show) (n : Str) (h : Rat), xs = [.d (encShow S), .d (.str n), .d (encQ h)] ∧ (Valid S ∧ n ∈ S.bals.map (·.1) ∧ S.cords.length ≤ 8 ∧ 0 ≤ h ∧ Sm 3900 h) ∧ Φ (.d (encF (firstCut S n h))) M
theorem r_fewest : ∀ xs M Φ Ψ, T_fewest xs M Φ Ψ → j_fewest_cuts (T_choices 9) T_is_less T_all_heights T_need_height T_need_name T_need_show { nx := fun _ M' => Dr Φ (.d .none) M', rt := Dr Φ, xr := DrX Ψ } (jstart 7 xs) M := by
  rintro _ M Φ Ψ ⟨S, n, h, rfl, ⟨V, hn, hc, h0, hs⟩, hp⟩
  have hnm : Oks (S.bals.map (·.1)) := fun x hx => by
    obtain ⟨b, hb, rfl⟩ := List.mem_map.mp hx
    exact (name_ok (V.parts.bal b hb).1).1
  have hends : Oks (endsOf S.cords) := V.neat.ends
  refine ⟨_, rfl, ⟨V.wide, V.show_⟩, ?_⟩
  refine ⟨S, n, rfl, ⟨hnm, by have := V.parts.eight; omega, hn⟩, ?_⟩
  refine ⟨h, rfl, h0, ?_⟩
  have el : ((((S.cords.map encCord).length : Int) + 1).toNat) = S.cords.length + 1 := by rw [List.length_map]; omega
  refine ⟨?_, ?_⟩
  · show -(2 ^ 62) ≤ ((S.cords.map encCord).length : Int) + 1 ∧ ((S.cords.map encCord).length : Int) + 1 < 2 ^ 62
    rw [List.length_map]; omega
  show jLoopF _ _ _ (rangeD 0 ((((S.cords.map encCord).length : Int) + 1).toNat)) _ _
  rw [el, range_ints]
  refine loopF (fun i : Nat => PyData.int (i : Int)) (fun ms ρ M' => ∃ o3 o4 o5 o6, ρ = [some (.d (encShow S)), some (.d (.str n)), some (.d (encQ h)), o3, o4, o5, o6] ∧ MLe M M' ∧ (∀ m ∈ ms, m < 9) ∧ (ms.flatMap (choicesL S.cords)).find? (reachB S n h) = firstCut S n h)
    ?_ ?_ _ _ _ ⟨none, none, none, none, rfl, MLe.refl M, fun m hm => by have := List.mem_range.mp hm; omega, rfl⟩
  · rintro _ M' ⟨o3, o4, o5, o6, rfl, hM, _, hf⟩
    refine ⟨M, hM, ?_⟩
    have hf : firstCut S n h = none := hf.symm
    rw [hf] at hp
    exact hp
  · rintro m ms _ M' ⟨o3, o4, o5, o6, rfl, hM, hm9, hf⟩ N hN
    refine ⟨S.cords, m, rfl, ⟨hc, hm9 m (List.mem_cons_self ..)⟩, ?_⟩
    refine loopF encLot (fun L ρ M' => ∃ o4 o5 o6, ρ = [some (.d (encShow S)), some (.d (.str n)), some (.d (encQ h)), some (.d (.int (m : Int))), o4, o5, o6] ∧ MLe M M' ∧ (∀ l ∈ L, ∀ c ∈ l, c ∈ S.cords) ∧ (L ++ ms.flatMap (choicesL S.cords)).find? (reachB S n h) = firstCut S n h)
      ?_ ?_ _ _ _ ⟨o4, o5, o6, rfl, hM, fun l hl c hc => (mem_choices.mp hl).1.subset hc, hf⟩
    · rintro _ M' ⟨o4, o5, o6, rfl, hM, _, hf⟩
      exact hN _ _ ⟨_, _, _, _, rfl, hM, fun m hm => hm9 m (List.mem_cons_of_mem _ hm), hf⟩
    · rintro lot L _ M' ⟨o4, o5, o6, rfl, hM, hsub, hf⟩ N' hN'
      refine ⟨lenF (enc := encCord) (xs := S.cords) (by omega), ?_⟩
      refine accG encCord (fun c => !decide (c ∈ lot)) encCord S.cords (fun c hc' K1 K2 k1 k2 => ?_) ?_
      · refine ⟨⟨(cord_shp hends hc').ok (n := 1) (by decide), (Shp.list (n := 1) fun d hd => ?_).ok (by decide)⟩, ?_⟩
        · obtain ⟨c', hc2, rfl⟩ := List.mem_map.mp hd
          exact cord_shp hends (hsub lot (List.mem_cons_self ..) c' hc2)
        by_cases hcl : c ∈ lot
        · have k2 := k2 (by simp [hcl])
          have e : inD (encCord c) (lot.map encCord) = true := by rw [cord_eq.any c]; simp [hcl]
          rw [e]
          exact k2
        · have k1 := k1 (by simp [hcl])
          have e : inD (encCord c) (lot.map encCord) = false := by rw [cord_eq.any c]; simp [hcl]
          rw [e]
          exact k1
      rw [fzs_d]
      have hl8 : ((S.cords.filter fun c => !decide (c ∈ lot)).length) ≤ 8 := Nat.le_trans (List.length_filter_le _ _) hc
      show (match allD (((S.cords.filter fun c => !decide (c ∈ lot)).map encCord).map EV.d) with
        | some ds => _
        | none => False)
      rw [allD_of]
      have VC := V.cut lot
      refine fun p hp0 => ?_
      refine ⟨cutShow S lot, p, [], rfl, ⟨VC.neat, Mem.set_same, .nil _⟩, fun q hq => ?_⟩
      obtain ⟨TB, _, hall⟩ := tableFor_ok VC.neat.tidy (.nil (cutShow S lot))
      obtain ⟨z, hz, ez⟩ := valE_tb_in (hall n hn)
      show (match dGetE ((M'.set p (.dic [])).set q (.dic (encTb (tableFor (cutShow S lot) [])))) (.v (.ref q)) (.str n) with
        | some (some z) => _
        | _ => False)
      rw [dGet_str Mem.set_same, ez]
      have hz : z = ht (cutShow S lot) n := (lookT_eq TB.nd hz).symm
      subst hz
      have hqp : q ≠ p := by rintro rfl; rw [Mem.set_same] at hq; cases hq
      have hM2 : MLe M ((M'.set p (.dic [])).set q (.dic (encTb (tableFor (cutShow S lot) [])))) := hM.trans ((MLe.set hp0).trans (MLe.set hq))
      refine ⟨ht (cutShow S lot) n, h, rfl, ⟨(ht_ok VC hn).2.mono (by decide), hs⟩, ?_⟩
      show sel (!decide (ht (cutShow S lot) n < h)) _ _
      have hcons : (lot :: L ++ ms.flatMap (choicesL S.cords)) = lot :: (L ++ ms.flatMap (choicesL S.cords)) := rfl
      rw [hcons, List.find?_cons] at hf
      refine sel_b (fun q => ?_) fun q => ?_
      · have : reachB S n h lot = true := q
        rw [this] at hf
        have hf : some lot = firstCut S n h := hf
        rw [← hf] at hp
        exact ⟨M, hM2, hp⟩
      · have : reachB S n h lot = false := q
        rw [this] at hf
        exact hN' _ _ ⟨_, _, _, rfl, hM2, fun l hl => hsub l (List.mem_cons_of_mem _ hl), hf⟩
theorem never_choices {xs : List EV} {M : Mem} {Φ : JK} {Ψ : JXK} {p : Prop} (h : T_choices 0 xs M Φ Ψ) : p := by
  obtain ⟨_, m, _, ⟨_, hm⟩, _⟩ := h
  exact absurd hm (Nat.not_lt_zero m)
end Td

/-! TdL41: the law of the fewest cuts. -/
namespace Td
open PySem PySem.Spec PyProof.Rows L2
/-! ### the plain law: the lots in order -/
theorem alike_lots : ∀ a b : List Cord, PySem.W.alikeAll (a.map encCord) (b.map encCord) = true
  | [], b => by cases b <;> simp [PySem.W.alikeAll]
  | x :: a, [] => by simp [PySem.W.alikeAll]
  | x :: a, y :: b => by
    rw [List.map_cons, List.map_cons]
    simp only [PySem.W.alikeAll, alike_lots a b, Bool.and_true]
    simp [encCord, PySem.W.alike, PySem.W.alikeAll]
theorem alike_cord (x y : Cord) : PySem.W.alike (encCord x) (encCord y) = true := by simp [encCord, PySem.W.alike, PySem.W.alikeAll]
theorem alike_lot (a b : List Cord) : PySem.W.alike (encLot a) (encLot b) = true := by
  unfold encLot
  simp only [PySem.W.alike]
  exact alike_lots a b
theorem lot_cons (c : Cord) (a b : List Cord) : PySem.W.dataLt (encLot (c :: a)) (encLot (c :: b)) = PySem.W.dataLt (encLot a) (encLot b) := by
  unfold encLot
  rw [PySem.W.dataLt_tuple, PySem.W.dataLt_tuple, List.map_cons, List.map_cons, PySem.W.dataLt_all_yes (alike_cord c c) ((cord_eq.eq c c).mpr rfl)]
theorem lot_less {c d : Cord} (h : PySem.W.dataLt (encCord c) (encCord d) = true) (a b : List Cord) : PySem.W.dataLt (encLot (c :: a)) (encLot (d :: b)) = true := by
  have ne : PyData.eqv (encCord c) (encCord d) = false := by
    cases e : PyData.eqv (encCord c) (encCord d) with
    | false => rfl
    | true => rw [(cord_eq.eq c d).mp e, dataLt_irrefl] at h; cases h
  unfold encLot
  rw [PySem.W.dataLt_tuple, List.map_cons, List.map_cons, PySem.W.dataLt_all_no (alike_cord c d) ne]
  exact h
def Rising (cs : List Cord) : Prop := cs.Pairwise fun a b => PySem.W.dataLt (encCord a) (encCord b) = true
theorem choices_pw : ∀ {cs : List Cord} {m : Nat}, Rising cs → (choicesL cs m).Pairwise fun a b => PySem.W.dataLt (encLot a) (encLot b) = true
  | cs, 0, _ => by
    have e : choicesL cs 0 = [[]] := by cases cs <;> rfl
    rw [e]; exact List.pairwise_singleton _ _
  | [], m + 1, _ => List.Pairwise.nil
  | c :: cs, m + 1, h => by
    obtain ⟨h1, h2⟩ := List.pairwise_cons.mp h
    rw [choicesL, List.pairwise_append, List.pairwise_map]
    refine ⟨(choices_pw (m := m) h2).imp fun {a b} q => by rw [lot_cons]; exact q, choices_pw h2, ?_⟩
    intro a ha b hb
    obtain ⟨l, _, rfl⟩ := List.mem_map.mp ha
    obtain ⟨q1, q2⟩ := mem_choices.mp hb
    cases b with
    | nil => cases q2
    | cons d r => exact lot_less (h1 d (q1.subset (List.mem_cons_self ..))) l r
def pairL (l : List Cord) : PyData := .tuple [.int (l.length : Int), encLot l]
theorem lots_pw {cs : List Cord} (h : Rising cs) : (lotsOf cs).Pairwise fun a b => PySem.W.dataLt (pairL a) (pairL b) = true := by
  unfold lotsOf
  rw [List.pairwise_flatMap]
  refine ⟨fun m _ => ?_, ?_⟩
  · refine List.Pairwise.imp_of_mem (fun {a b} ha hb q => ?_) (choices_pw (m := m) h)
    have ea := (mem_choices.mp ha).2
    have eb := (mem_choices.mp hb).2
    have ne : PyData.eqv (encLot a) (encLot b) = false := by
      cases e : PyData.eqv (encLot a) (encLot b) with
      | false => rfl
      | true =>
        have : a = b := (cord_eq.list a b).mp (by unfold encLot at e; simpa [PyData.eqv] using e)
        rw [this, dataLt_irrefl] at q; cases q
    unfold pairL
    rw [PySem.W.dataLt_pair (by simp [PySem.W.alike]) (alike_lot a b), ea, eb, if_pos (by simp [PyData.eqv]), if_neg (by rw [ne]; decide)]
    exact q
  · have : (List.range (cs.length + 1)).Pairwise (· < ·) := List.pairwise_lt_range
    refine this.imp fun {m k} hmk a ha b hb => ?_
    have ea := (mem_choices.mp ha).2
    have eb := (mem_choices.mp hb).2
    unfold pairL
    rw [PySem.W.dataLt_pair (by simp [PySem.W.alike]) (alike_lot a b), ea, eb, if_neg (by simp [PyData.eqv]; omega), PySem.W.dataLt_int]
    exact decide_eq_true (by omega)
theorem mem_lots {cs l : List Cord} : l ∈ lotsOf cs ↔ l.Sublist cs := by
  unfold lotsOf
  rw [List.mem_flatMap]
  constructor
  · rintro ⟨m, _, h⟩; exact (mem_choices.mp h).1
  · intro h
    have := h.length_le
    exact ⟨l.length, List.mem_range.mpr (by omega), mem_choices.mpr ⟨h, rfl⟩⟩
theorem lots_nodup {cs : List Cord} (h : Rising cs) : (lotsOf cs).Nodup := (lots_pw h).imp fun {a b} q e => by
  rw [e, dataLt_irrefl] at q; cases q
theorem Rising.nodup {cs : List Cord} (h : Rising cs) : cs.Nodup := List.Pairwise.imp (fun {a b} q e => by
  rw [e, dataLt_irrefl] at q; cases q) h
/-- all lots, the doubling way -/
def growL (acc : List (List Cord)) (c : Cord) : List (List Cord) := acc ++ acc.map (· ++ [c])
def allL (cs : List Cord) : List (List Cord) := cs.foldl growL [[]]
theorem allL_snoc (A : List Cord) (c : Cord) : allL (A ++ [c]) = growL (allL A) c := by unfold allL; rw [List.foldl_append]; rfl
theorem mem_allL (cs : List Cord) : ∀ l, l ∈ allL cs ↔ l.Sublist cs := by
  induction cs using snocInd with
  | nil => intro l; show l ∈ [[]] ↔ _; rw [List.mem_singleton, List.sublist_nil]
  | snoc A c ih =>
    intro l
    rw [allL_snoc]
    unfold growL
    rw [List.mem_append, List.mem_map, List.sublist_append_iff]
    constructor
    · rintro (h | ⟨r, hr, rfl⟩)
      · exact ⟨l, [], (List.append_nil l).symm, (ih l).mp h, List.nil_sublist _⟩
      · exact ⟨r, [c], rfl, (ih r).mp hr, List.Sublist.refl _⟩
    · rintro ⟨l1, l2, rfl, h1, h2⟩
      cases h2 with
      | cons _ h2 =>
        rw [List.sublist_nil] at h2
        rw [h2, List.append_nil]
        exact .inl ((ih l1).mpr h1)
      | cons_cons _ h2 =>
        rw [List.sublist_nil] at h2
        rw [h2]
        exact .inr ⟨l1, (ih l1).mpr h1, rfl⟩
theorem allL_nodup (cs : List Cord) : cs.Nodup → (allL cs).Nodup := by
  induction cs using snocInd with
  | nil => intro _; exact List.pairwise_singleton _ _
  | snoc A c ih =>
    intro nd
    obtain ⟨n1, n2, n3⟩ := List.nodup_append.mp nd
    rw [allL_snoc]
    unfold growL
    rw [List.nodup_append]
    refine ⟨ih n1, ?_, ?_⟩
    · unfold List.Nodup
      rw [List.pairwise_map]
      exact (ih n1).imp fun {a b} ne e => ne (List.append_cancel_right e)
    · intro a ha b hb e
      obtain ⟨r, _, rfl⟩ := List.mem_map.mp hb
      have := ((mem_allL A a).mp ha).subset (show c ∈ a by rw [e]; simp)
      exact n3 c this c (by simp) rfl
theorem allL_perm {cs : List Cord} (h : Rising cs) : (allL cs).Perm (lotsOf cs) :=
  (List.perm_ext_iff_of_nodup (allL_nodup cs h.nodup) (lots_nodup h)).mpr fun l => (mem_allL cs l).trans mem_lots.symm
theorem pw_two {α : Type} {R : α → α → Prop} : ∀ {L : List α}, L.Pairwise R → ∀ a ∈ L, ∀ b ∈ L, a = b ∨ R a b ∨ R b a
  | [], _, _, h, _, _ => by cases h
  | x :: L, p, a, ha, b, hb => by
    obtain ⟨p1, p2⟩ := List.pairwise_cons.mp p
    rcases List.mem_cons.mp ha with e | ha2
    · rcases List.mem_cons.mp hb with e2 | hb2
      · exact .inl (e.trans e2.symm)
      · rw [e]; exact .inr (.inl (p1 b hb2))
    · rcases List.mem_cons.mp hb with e2 | hb2
      · rw [e2]; exact .inr (.inr (p1 a ha2))
      · exact pw_two p2 a ha2 b hb2
theorem sorted_lots {cs : List Cord} (h : Rising cs) : ((allL cs).map pairL).mergeSort leD = (lotsOf cs).map pairL := by
  have srt := List.pairwise_mergeSort (le := leD) (fun a b c h1 h2 => leD_tot.trans a b c h1 h2) (fun a b => by
    rcases leD_tot.total a b with q | q
    · rw [q]; rfl
    · rw [q]; simp) ((allL cs).map pairL)
  refine List.Perm.eq_of_pairwise (le := fun a b => leD a b = true) (fun a b ha hb h1 h2 => ?_) srt ?_ ((List.mergeSort_perm _ _).trans ((allL_perm h).map pairL))
  · have ha := (((List.mergeSort_perm _ _).trans ((allL_perm h).map pairL)).mem_iff).mp ha
    obtain ⟨x, hx, rfl⟩ := List.mem_map.mp ha
    obtain ⟨y, hy, rfl⟩ := List.mem_map.mp hb
    have h1 : (!PySem.W.dataLt (pairL y) (pairL x)) = true := h1
    have h2 : (!PySem.W.dataLt (pairL x) (pairL y)) = true := h2
    rcases pw_two (lots_pw h) x hx y hy with e | q | q
    · rw [e]
    · rw [q] at h2; cases h2
    · rw [q] at h1; cases h1
  · rw [List.pairwise_map]
    refine (lots_pw h).imp fun {a b} q => ?_
    show (!PySem.W.dataLt (pairL b) (pairL a)) = true
    rw [dataLt_asymm q]; rfl
/-! ### _law_lots -/
def j__law_lots : JTS :=
  jSeq (jAsg (jLstD (jCons (jTup (jNil)) (jNil))) (jName 1))
    (jSeq (jFor (jiT (jVar 0)) (jName 2) (jAsg (jOp jrCat (jVar 1) (jLc (jiL (jVar 1)) (jName 4) (jYes) (jOp jrCatT (jVar 4) (jTup (jCons (jVar 2) (jNil)))) [4])) (jName 1)))
    (jRet (jLc (jiL (jCB jrSortD (jCons (jLc (jiL (jVar 1)) (jName 4) (jYes) (jTup (jCons (jCB jrLen (jCons (jVar 4) (jNil))) (jCons (jVar 4) (jNil)))) [4]) (jNil)))) (jgTup 2 (jgCons (jName 3) (jgCons (jName 4) (jgNil)))) (jYes) (jVar 4) [3, 4])))
def T_lots : TJ := fun xs M Φ _ => ∃ cs : List Cord, xs = [.d (encLot cs)] ∧ (Rising cs ∧ cs.length ≤ 8) ∧ Φ (.d (.list ((lotsOf cs).map encLot))) M
theorem allL_len (cs : List Cord) : (allL cs).length = 2 ^ cs.length := by
  induction cs using snocInd with
  | nil => rfl
  | snoc A c ih =>
    rw [allL_snoc]
    unfold growL
    rw [List.length_append, List.length_map, ih, List.length_append, List.length_singleton, Nat.pow_succ]
    omega
theorem lots_depth : ∀ a : List Cord, PyData.depthAll (a.map encCord) ≤ 1
  | [] => by simp [PyData.depthAll]
  | c :: a => by
    have := lots_depth a
    rw [List.map_cons]
    simp only [PyData.depthAll]
    have h : (encCord c).depth ≤ 1 := by simp [encCord, PyData.depth, PyData.depthAll]
    omega
theorem lot_depth (a : List Cord) : (encLot a).depth ≤ 2 := by
  have := lots_depth a
  unfold encLot
  simp only [PyData.depth]
  omega
theorem r_lots : ∀ xs M Φ Ψ, T_lots xs M Φ Ψ → j__law_lots { nx := fun _ M' => Dr Φ (.d .none) M', rt := Dr Φ, xr := DrX Ψ } (jstart 5 xs) M := by
  rintro _ M Φ Ψ ⟨cs, rfl, ⟨hr, hl⟩, hp⟩
  show jLoopF _ _ _ ((cs.map encCord).map .d) _ _
  refine loopF encCord (fun B ρ M' => ∃ A o2 o3 o4, cs = A ++ B ∧ ρ = [some (.d (encLot cs)), some (.d (.list ((allL A).map encLot))), o2, o3, o4] ∧ M' = M) ?_ ?_ cs _ _ ⟨[], none, none, none, rfl, rfl, rfl⟩
  · rintro _ _ ⟨A, o2, o3, o4, e, rfl, rfl⟩
    rw [List.append_nil] at e
    subst e
    have hA := allL_len cs
    have h2 : 2 ^ cs.length ≤ 256 := Nat.pow_le_pow_right (n := 2) (by decide) (show cs.length ≤ 8 by omega)
    refine ⟨lenF (enc := encLot) (xs := allL cs) (by omega), ?_⟩
    refine accG1 encLot pairL (allL cs) (fun l hl K1 k1 => ?_) ?_
    · have e1 : ((l.map encCord).length : Int) = l.length := by rw [List.length_map]
      show K1 (.d (.tuple [.int ((l.map encCord).length : Int), encLot l])) _
      rw [e1]
      exact k1
    rw [fzs_d]
    show (match allD (((allL cs).map pairL).map EV.d) with
      | some ds => _
      | none => False)
    rw [allD_of]
    refine ⟨⟨?_, ?_, ?_⟩, fun p hp0 => ?_⟩
    · intro d hd e he
      obtain ⟨a, _, rfl⟩ := List.mem_map.mp hd
      obtain ⟨b, _, rfl⟩ := List.mem_map.mp he
      unfold pairL
      simp only [PySem.W.alike, PySem.W.alikeAll, alike_lot, Bool.and_true]
    · exact .inl fun d hd => by
        obtain ⟨a, _, rfl⟩ := List.mem_map.mp hd
        exact ⟨_, _, rfl⟩
    · intro d hd
      obtain ⟨a, _, rfl⟩ := List.mem_map.mp hd
      have := lot_depth a
      unfold pairL
      simp only [PyData.depth, PyData.depthAll]
      omega
    rw [sorted_lots hr]
    show (match srcL (Mem.set _ p (.lst (((lotsOf cs).map pairL).map .d))) (.v (.ref p)) with
      | some src => _
      | none => False)
    rw [srcL_cell Mem.set_same]
    have hlen : (lotsOf cs).length = 2 ^ cs.length := by rw [← (allL_perm hr).length_eq, hA]
    refine ⟨lenC (enc := pairL) (xs := lotsOf cs) (by omega), ?_⟩
    refine accCG pairL (fun _ => true) encLot (lotsOf cs) Mem.set_same (fun l hl K1 K2 k1 _ => k1 rfl) ?_
    rw [fzs_d]
    have e2 : (lotsOf cs).filter (fun _ => true) = lotsOf cs := by simp
    rw [e2]
    exact ⟨_, MLe.set hp0, hp⟩
  · rintro c B _ _ ⟨A, o2, o3, o4, e, rfl, rfl⟩ N hN
    have hA := allL_len A
    have h8 : A.length + 1 ≤ 8 := by rw [e, List.length_append, List.length_cons] at hl; omega
    have h2 : 2 ^ A.length ≤ 256 := Nat.pow_le_pow_right (n := 2) (by decide) (show A.length ≤ 8 by omega)
    refine ⟨lenF (enc := encLot) (xs := allL A) (by omega), ?_⟩
    refine accG1 encLot (fun l => encLot (l ++ [c])) (allL A) (fun l hl K1 k1 => ⟨?_, ?_⟩) ?_
    · have := ((mem_allL A l).mp hl).length_le
      show (l.map encCord ++ [encCord c]).length ≤ 1000000
      simp; omega
    · have e1 : l.map encCord ++ [encCord c] = (l ++ [c]).map encCord := by simp
      rw [e1]
      exact k1
    rw [fzs_d]
    show (match allD (((allL A).map encLot).map EV.d ++ ((allL A).map fun l => encLot (l ++ [c])).map EV.d) with
      | some ds => _
      | none => False)
    rw [← List.map_append, allD_of]
    refine ⟨?_, hN _ _ ⟨A ++ [c], some (.d (encCord c)), o3, o4, by rw [e]; simp, ?_, rfl⟩⟩
    · show (((allL A).map encLot ++ (allL A).map fun l => encLot (l ++ [c])).map EV.d).length ≤ 1000000
      simp only [List.length_append, List.length_map]
      omega
    · rw [allL_snoc]
      unfold growL
      rw [List.map_append, List.map_map]
      rfl
end Td
namespace Td
open PySem PySem.Spec PyProof.Rows L2
/-! ### law -/
noncomputable def rowD (S : Show) (n : Str) (lot : List Cord) : PyData := .tuple [encLot lot, encQ (ht (cutShow S lot) n)]
def j_law (K : PySem.W.Frag) (T__law_plus T__law_take T_fewest_cuts T__law_less T__law_lots T__law_at T__law_show T__law_well : TJ) : JTS :=
  jSeq (jFor (jiR1 (jCons (jCB (jrMM fun i j => if j > i then j else i) (jCons (jC (.int 4)) (jCons (jCB (jrMM fun i j => if j < i then j else i) (jCons (jC (.int 14)) (jCons (jCB (jrLenSc K) (jCons (jVar 0) (jNil))) (jNil)))) (jNil)))) (jNil))) (jName 1) (jSeq (jAsg (jCall T__law_well (jCons (jVar 0) (jCons (jVar 1) (jNil)))) (jName 2))
    (jSeq (jAsg (jCall T__law_show (jCons (jVar 2) (jCons (jC (.int 6)) (jCons (jOp jrIx (jLstD (jCons (jC (.int 12)) (jCons (jC (.int 1000)) (jNil)))) (jCall T__law_take (jCons (jVar 2) (jCons (jC (.int 2)) (jNil))))) (jNil))))) (jName 3))
    (jSeq (jAsg (jLc (jiT (jOp jrIx (jVar 3) (jC (.int 0)))) (jName 13) (jYes) (jOp jrIx (jVar 13) (jC (.int 0))) [13]) (jName 4))
    (jSeq (jAsg (jOp jrIx (jVar 4) (jCall T__law_take (jCons (jVar 2) (jCons (jCB jrLen (jCons (jVar 4) (jNil))) (jNil))))) (jName 5))
    (jSeq (jAsg (jLstC (jNil)) (jName 6))
    (jSeq (jFor (jiL (jCall T__law_lots (jCons (jOp jrIx (jVar 3) (jC (.int 1))) (jNil)))) (jName 7) (jSeq (jAsg (jCB jrTuple (jCons (jLc (jiT (jOp jrIx (jVar 3) (jC (.int 1)))) (jName 15) (jTest (jOp (jrIn true) (jVar 15) (jVar 7))) (jVar 15) [15]) (jNil))) (jName 11))
    (jDrop (jBM isLst jrAppend (jVar 6) (jCons (jTup (jCons (jVar 7) (jCons (jCall T__law_at (jCons (jTup (jCons (jOp jrIx (jVar 3) (jC (.int 0))) (jCons (jVar 11) (jNil)))) (jCons (jVar 5) (jNil)))) (jNil)))) (jNil))))))
    (jSeq (jAsg (jOp jrIx (jLc (jiT (jOp jrIx (jVar 3) (jC (.int 0)))) (jName 13) (jTest (jOp (jrEq false) (jOp jrIx (jVar 13) (jC (.int 0))) (jVar 5))) (jOp jrIx (jVar 13) (jC (.int 1))) [13]) (jC (.int 0))) (jName 8))
    (jSeq (jAsg (jLstD (jCons (jOp jrIx (jOp jrIx (jVar 6) (jC (.int 0))) (jC (.int 1))) (jCons (jOp jrIx (jOp jrIx (jVar 6) (jCall T__law_take (jCons (jVar 2) (jCons (jCB jrLen (jCons (jVar 6) (jNil))) (jNil))))) (jC (.int 1))) (jCons (jOp jrIx (jOp jrIx (jVar 6) (jCall T__law_take (jCons (jVar 2) (jCons (jCB jrLen (jCons (jVar 6) (jNil))) (jNil))))) (jC (.int 1))) (jCons (jTup (jCons (jCB (jrMM fun i j => if j > i then j else i) (jCons (jC (.int 0)) (jCons (jVar 8) (jNil)))) (jCons (jC (.int 1)) (jNil)))) (jNil)))))) (jName 9))
    (jFor (jiL (jOp jrCat (jVar 9) (jLstD (jCons (jTup (jCons (jCall T__law_take (jCons (jVar 2) (jCons (jC (.int 1500)) (jNil)))) (jCons (jC (.int 1)) (jNil)))) (jCons (jCall T__law_plus (jCons (jOp jrIx (jOp jrIx (jVar 6) (jC (.int 0))) (jC (.int 1))) (jCons (jTup (jCons (jC (.int 1)) (jCons (jC (.int 5)) (jNil)))) (jNil)))) (jNil)))))) (jName 10) (jSeq (jAsg (jLc (jiL (jVar 6)) (jgTup 2 (jgCons (jName 7) (jgCons (jName 14) (jgNil)))) (jNot (jTest (jCall T__law_less (jCons (jVar 14) (jCons (jVar 10) (jNil)))))) (jVar 7) [7, 14]) (jName 12))
    (jIfS (jTest (jOp (jrEq true) (jCall T_fewest_cuts (jCons (jVar 3) (jCons (jVar 5) (jCons (jVar 10) (jNil))))) (jIf (jTest (jOp (jrEq true) (jVar 12) (jLstD (jNil)))) (jOp jrIx (jVar 12) (jC (.int 0))) (jC .none)))) (jRet (jC (.bool false))) (jNext)))))))))))))
    (jRet (jC (.bool true)))

def cutLc : JTE := jCB jrTuple (jCons (jLc (jiT (jOp jrIx (jVar 3) (jC (.int 1)))) (jName 15) (jTest (jOp (jrIn true) (jVar 15) (jVar 7))) (jVar 15) [15]) (jNil))
def rowsBody (T__law_at : TJ) : JTS := (jSeq (jAsg (jCB jrTuple (jCons (jLc (jiT (jOp jrIx (jVar 3) (jC (.int 1)))) (jName 15) (jTest (jOp (jrIn true) (jVar 15) (jVar 7))) (jVar 15) [15]) (jNil))) (jName 11))
    (jDrop (jBM isLst jrAppend (jVar 6) (jCons (jTup (jCons (jVar 7) (jCons (jCall T__law_at (jCons (jTup (jCons (jOp jrIx (jVar 3) (jC (.int 0))) (jCons (jVar 11) (jNil)))) (jCons (jVar 5) (jNil)))) (jNil)))) (jNil)))))
theorem rows_loop {S : Show} {n : Str} (V : Valid S) (hn : n ∈ S.bals.map (·.1)) (hc : S.cords.length ≤ 8) {s0 s1 s2 s4 s8 s9 s10 s12 s13 s14 : Option EV} {q : Addr} {M : Mem} {J : JEnds}
    (h : ∀ o7 o11 o15, J.nx [s0, s1, s2, some (.d (encShow S)), s4, some (.d (.str n)), some (.v (.ref q)), o7, s8, s9, s10, o11, s12, s13, s14, o15] (M.set q (.lst (((lotsOf S.cords).map (rowD S n)).map .d))))
    {o7 o11 o15 : Option EV} : jLoopF (jName 7) (rowsBody T_at) J (((lotsOf S.cords).map encLot).map .d) [s0, s1, s2, some (.d (encShow S)), s4, some (.d (.str n)), some (.v (.ref q)), o7, s8, s9, s10, o11, s12, s13, s14, o15] (M.set q (.lst [])) := by
  have hends : Oks (endsOf S.cords) := V.neat.ends
  have hr : Rising S.cords := by have := V.parts.risC; rw [List.pairwise_map] at this; exact this
  have hlen : (lotsOf S.cords).length ≤ 256 := by
    rw [← (allL_perm hr).length_eq, allL_len]
    exact Nat.pow_le_pow_right (n := 2) (by decide) hc
  refine loopF encLot (fun B ρ M' => ∃ A o7 o11 o15, lotsOf S.cords = A ++ B ∧ ρ = [s0, s1, s2, some (.d (encShow S)), s4, some (.d (.str n)), some (.v (.ref q)), o7, s8, s9, s10, o11, s12, s13, s14, o15] ∧ M' = M.set q (.lst ((A.map (rowD S n)).map .d)))
    ?_ ?_ (lotsOf S.cords) _ _ ⟨[], o7, o11, o15, rfl, rfl, rfl⟩
  · rintro _ _ ⟨A, o7, o11, o15, e, rfl, rfl⟩
    rw [List.append_nil] at e
    rw [← e]
    exact h _ _ _
  · rintro lot B _ _ ⟨A, o7, o11, o15, e, rfl, rfl⟩ N hN
    have hsub : ∀ c ∈ lot, c ∈ S.cords := fun c hc => (mem_lots.mp (show lot ∈ lotsOf S.cords by rw [e]; simp)).subset hc
    refine ⟨lenF (enc := encCord) (xs := S.cords) (by omega), ?_⟩
    refine accG encCord (fun c => !decide (c ∈ lot)) encCord S.cords (fun c hc' K1 K2 k1 k2 => ?_) ?_
    · refine ⟨⟨(cord_shp hends hc').ok (n := 1) (by decide), (Shp.list (n := 1) fun d hd => ?_).ok (by decide)⟩, ?_⟩
      · obtain ⟨c', hc2, rfl⟩ := List.mem_map.mp hd
        exact cord_shp hends (hsub c' hc2)
      by_cases hcl : c ∈ lot
      · have k2 := k2 (by simp [hcl])
        have e : inD (encCord c) (lot.map encCord) = true := by rw [cord_eq.any c]; simp [hcl]
        rw [e]
        exact k2
      · have k1 := k1 (by simp [hcl])
        have e : inD (encCord c) (lot.map encCord) = false := by rw [cord_eq.any c]; simp [hcl]
        rw [e]
        exact k1
    rw [fzs_d]
    show (match allD (((S.cords.filter fun c => !decide (c ∈ lot)).map encCord).map EV.d) with
      | some ds => _
      | none => False)
    rw [allD_of]
    refine ⟨isLst_cell Mem.set_same, ?_⟩
    refine ⟨cutShow S lot, n, rfl, ⟨V.cut lot, hn⟩, ?_⟩
    conv => whnf
    rw [cellL_at Mem.set_same]
    refine ⟨?_, ?_⟩
    · have := congrArg List.length e
      rw [List.length_append, List.length_cons] at this
      show ((A.map (rowD S n)).map EV.d).length + 1 ≤ 1000000
      rw [List.length_map, List.length_map]
      omega
    · rw [Mem.set_set]
      refine hN _ _ ⟨A ++ [lot], some (.d (encLot lot)), _, o15, by rw [e]; simp, rfl, ?_⟩
      rw [List.map_append, List.map_append]
      rfl
def aimsBody (T__law_less T_fewest_cuts : TJ) : JTS := (jSeq (jAsg (jLc (jiL (jVar 6)) (jgTup 2 (jgCons (jName 7) (jgCons (jName 14) (jgNil)))) (jNot (jTest (jCall T__law_less (jCons (jVar 14) (jCons (jVar 10) (jNil)))))) (jVar 7) [7, 14]) (jName 12))
    (jIfS (jTest (jOp (jrEq true) (jCall T_fewest_cuts (jCons (jVar 3) (jCons (jVar 5) (jCons (jVar 10) (jNil))))) (jIf (jTest (jOp (jrEq true) (jVar 12) (jLstD (jNil)))) (jOp jrIx (jVar 12) (jC (.int 0))) (jC .none)))) (jRet (jC (.bool false))) (jNext)))
theorem lot_shp {C : List Cord} (h : Oks (endsOf C)) {l : List Cord} (hl : ∀ c ∈ l, c ∈ C) : Shp 2 (encLot l) := Shp.tup (n := 1) fun d hd => by
  obtain ⟨c, hc, rfl⟩ := List.mem_map.mp hd
  exact cord_shp h (hl c hc)
theorem lot_eq : EncEq encLot := ⟨fun a b => by
  unfold encLot
  simp only [PyData.eqv]
  exact cord_eq.list a b⟩
theorem aims_loop {S : Show} {n : Str} (V : Valid S) (hn : n ∈ S.bals.map (·.1)) (hc : S.cords.length ≤ 8) {s0 s1 s2 s4 s8 s9 s11 s13 s15 : Option EV} {q : Addr} {M : Mem} {J : JEnds} (hs : List Rat) (hhs : ∀ h ∈ hs, 0 ≤ h ∧ Sm 3900 h)
    (hq : M q = some (.lst (((lotsOf S.cords).map (rowD S n)).map .d)))
    (h : ∀ o7 o10 o12 o14, J.nx [s0, s1, s2, some (.d (encShow S)), s4, some (.d (.str n)), some (.v (.ref q)), o7, s8, s9, o10, s11, o12, s13, o14, s15] M)
    {o7 o10 o12 o14 : Option EV} : jLoopF (jName 10) (aimsBody T_is_less T_fewest) J ((hs.map encQ).map .d) [s0, s1, s2, some (.d (encShow S)), s4, some (.d (.str n)), some (.v (.ref q)), o7, s8, s9, o10, s11, o12, s13, o14, s15] M := by
  have hends : Oks (endsOf S.cords) := V.neat.ends
  have hr : Rising S.cords := by have := V.parts.risC; rw [List.pairwise_map] at this; exact this
  have hlen : (lotsOf S.cords).length ≤ 256 := by
    rw [← (allL_perm hr).length_eq, allL_len]
    exact Nat.pow_le_pow_right (n := 2) (by decide) hc
  refine loopF encQ (fun B ρ M' => (∃ o7 o10 o12 o14, ρ = [s0, s1, s2, some (.d (encShow S)), s4, some (.d (.str n)), some (.v (.ref q)), o7, s8, s9, o10, s11, o12, s13, o14, s15]) ∧ (∀ h ∈ B, 0 ≤ h ∧ Sm 3900 h) ∧ M' = M)
    ?_ ?_ hs _ _ ⟨⟨o7, o10, o12, o14, rfl⟩, hhs, rfl⟩
  · rintro _ _ ⟨⟨o7, o10, o12, o14, rfl⟩, _, rfl⟩
    exact h _ _ _ _
  · rintro t B _ _ ⟨⟨o7, o10, o12, o14, rfl⟩, hB, rfl⟩ N hN
    obtain ⟨t0, ts⟩ := hB t (List.mem_cons_self ..)
    show (match srcL _ (.v (.ref q)) with
      | some src => _
      | none => False)
    rw [srcL_cell hq]
    refine ⟨lenC (enc := rowD S n) (xs := lotsOf S.cords) (by omega), ?_⟩
    refine accCG (rowD S n) (reachB S n t) encLot (lotsOf S.cords) hq (fun l hl K1 K2 k1 k2 => ?_) ?_
    · refine tup2 ?_
      refine ⟨ht (cutShow S l) n, t, rfl, ⟨(ht_ok (V.cut l) hn).2.mono (by decide), ts⟩, ?_⟩
      show sel (!decide (ht (cutShow S l) n < t)) _ _
      exact sel_b k1 k2
    rw [fzs_d]
    have hsub : ∀ l ∈ (lotsOf S.cords).filter (reachB S n t), ∀ c ∈ l, c ∈ S.cords := fun l hl c hc => (mem_lots.mp (List.mem_filter.mp hl).1).subset hc
    have hf : firstCut S n t = ((lotsOf S.cords).filter (reachB S n t)).head? := (List.head?_filter ..).symm
    refine ⟨S, n, t, rfl, ⟨V, hn, hc, t0, ts⟩, ?_⟩
    rw [hf]
    generalize (lotsOf S.cords).filter (reachB S n t) = due at hsub
    refine ⟨⟨(Shp.list (n := 2) fun d hd => ?_).ok (by decide), (Shp.list (n := 0) fun d hd => by cases hd).ok (by decide)⟩, ?_⟩
    · obtain ⟨l, hl, rfl⟩ := List.mem_map.mp hd
      exact lot_shp hends (hsub l hl)
    cases due with
    | nil =>
      refine ⟨⟨Shp.ok (n := 0) Shp.none (by decide), Shp.ok (n := 0) Shp.none (by decide)⟩, ?_⟩
      exact hN _ _ ⟨⟨_, _, _, _, rfl⟩, fun h hh => hB h (List.mem_cons_of_mem _ hh), rfl⟩
    | cons l due =>
      have ls := lot_shp hends (hsub l (List.mem_cons_self ..))
      show (match atI (((l :: due).map encLot).map EV.d) 0 with
        | some e => _
        | none => False)
      rw [show atI (((l :: due).map encLot).map EV.d) 0 = some (.d (encLot l)) from atI_nat (i := 0) rfl]
      refine ⟨⟨ls.ok (by decide), ls.ok (by decide)⟩, ?_⟩
      show sel (true ^^ PyData.eqv (encLot l) (encLot l)) _ _
      rw [(lot_eq.eq l l).mpr rfl]
      exact hN _ _ ⟨⟨_, _, _, _, rfl⟩, fun h hh => hB h (List.mem_cons_of_mem _ hh), rfl⟩
theorem loopF_of {α : Type} {g : JTG} {jb : JTS} {J : JEnds} {L : List EV} {xs : List α} (enc : α → PyData) (e : L = (xs.map enc).map .d) (Inv : List α → JEnv → Mem → Prop)
    (h0 : ∀ ρ M, Inv [] ρ M → J.nx ρ M)
    (h1 : ∀ x xs ρ M, Inv (x :: xs) ρ M → ∀ N : JEnv → Mem → Prop, (∀ ρ M, Inv xs ρ M → N ρ M) → g (.d (enc x)) ρ M fun ρ1 M1 => jb { J with nx := N, ct := N, bk := J.nx } ρ1 M1)
    {ρ : JEnv} {M : Mem} (h : Inv xs ρ M) : jLoopF g jb J L ρ M := by
  rw [e]; exact loopF enc Inv h0 h1 xs ρ M h
def T_law (K : PySem.W.Frag) : TJ := fun xs M Φ _ => ∃ (a : Addr) (ns : List Int), xs = [.v (.ref a)] ∧ (Scr K M a ns ∧ ns.length ≤ 1000) ∧ Φ (.d (.bool true)) M
theorem ix_two {d x y : Int} {M : Mem} {Φ : JK} (h : 0 ≤ d ∧ d < 2) (k1 : Φ (.d (.int x)) M) (k2 : Φ (.d (.int y)) M) : jrIx (.d (.list [.int x, .int y])) (.d (.int d)) M Φ := by
  have : d = 0 ∨ d = 1 := by omega
  rcases this with rfl | rfl
  · exact k1
  · exact k2
theorem ix_map {α : Type} (f : α → PyData) (L : List α) {d : Int} {M : Mem} {Φ : JK} (h : 0 ≤ d ∧ d < (L.length : Int)) (k : ∀ a ∈ L, Φ (.d (f a)) M) : jrIx (.d (.list (L.map f))) (.d (.int d)) M Φ := by
  obtain ⟨i, rfl⟩ : ∃ i : Nat, d = (i : Int) := ⟨d.toNat, by omega⟩
  have hi : i < L.length := by omega
  show (match atI ((L.map f).map EV.d) (i : Int) with
    | some e => Φ e M
    | none => False)
  rw [show atI ((L.map f).map EV.d) (i : Int) = some (.d (f L[i])) from atI_nat (by simp [hi])]
  exact k _ (List.getElem_mem hi)
theorem ix_cell {α : Type} (f : α → PyData) (L : List α) {d : Int} {M : Mem} {q : Addr} {Φ : JK} (hq : M q = some (.lst ((L.map f).map .d))) (h : 0 ≤ d ∧ d < (L.length : Int)) (k : ∀ a ∈ L, Φ (.d (f a)) M) : jrIx (.v (.ref q)) (.d (.int d)) M Φ := by
  obtain ⟨i, rfl⟩ : ∃ i : Nat, d = (i : Int) := ⟨d.toNat, by omega⟩
  have hi : i < L.length := by omega
  show (match rdL M (.v (.ref q)) with
    | some xs => match atI xs (i : Int) with
      | some e => Φ e M
      | none => False
    | none => False)
  rw [rdL_at hq]
  show (match atI ((L.map f).map EV.d) (i : Int) with
    | some e => Φ e M
    | none => False)
  rw [show atI ((L.map f).map EV.d) (i : Int) = some (.d (f L[i])) from atI_nat (by simp [hi])]
  exact k _ (List.getElem_mem hi)
theorem ix_one {d : PyData} {M : Mem} {Φ : JK} (k : Φ (.d d) M) : jrIx (.d (.list [d])) (.d (.int 0)) M Φ := k
theorem at_map {α : Type} (f : α → PyData) (L : List α) {d : Int} (h : 0 ≤ d ∧ d < (L.length : Int)) : ∃ a ∈ L, atI ((L.map f).map EV.d) d = some (.d (f a)) := by
  obtain ⟨i, rfl⟩ : ∃ i : Nat, d = (i : Int) := ⟨d.toNat, by omega⟩
  have hi : i < L.length := by omega
  exact ⟨L[i], List.getElem_mem hi, atI_nat (by simp [hi])⟩
structure LSt (M0 : Mem) (p q : Addr) (R : List EV) (c s r : Int) (M : Mem) : Prop where
  wp : M p = some (wl c s r)
  wo : WOk c s r
  rq : M q = some (.lst R)
  le : MLe M0 M
  np : M0 p = none
  ne : p ≠ q
theorem LSt.step {M0 : Mem} {p q : Addr} {R : List EV} {c s r : Int} {M : Mem} (h : LSt M0 p q R c s r M) {c' s' r' : Int} (w : WOk c' s' r') : LSt M0 p q R c' s' r' (M.set p (wl c' s' r')) where
  wp := Mem.set_same
  wo := w
  rq := by rw [Mem.set_ne h.ne.symm]; exact h.rq
  le := fun a m e => by
    have : a ≠ p := by rintro rfl; rw [h.np] at e; cases e
    rw [Mem.set_ne this]; exact h.le a m e
  np := h.np
  ne := h.ne
theorem encQ_int (i : Int) : encQ (i : Rat) = .tuple [.int i, .int 1] := rfl
theorem r_law (K : PySem.W.Frag) : ∀ xs M Φ Ψ, T_law K xs M Φ Ψ → j_law K T_plus T_take T_fewest T_is_less T_lots T_at T_lshow (T_well K) { nx := fun _ M' => Dr Φ (.d .none) M', rt := Dr Φ, xr := DrX Ψ } (jstart 16 xs) M := by
  rintro _ M Φ Ψ ⟨a, ns, rfl, ⟨hsc, hl⟩, hp⟩
  refine ⟨a, ns, rfl, hsc, ?_⟩
  refine ⟨?_, ?_⟩
  · dsimp only
    split <;> split at * <;> omega
  refine loopF_of (fun i : Nat => PyData.int (i : Int)) (range_ints _) (fun ms ρ M' => ∃ o1 o2 o3 o4 o5 o6 o7 o8 o9 o10 o11 o12 o13 o14 o15, ρ = [some (.v (.ref a)), o1, o2, o3, o4, o5, o6, o7, o8, o9, o10, o11, o12, o13, o14, o15] ∧ MLe M M' ∧ ∀ m ∈ ms, m ≤ 1000)
    ?_ ?_ ⟨none, none, none, none, none, none, none, none, none, none, none, none, none, none, none, rfl, MLe.refl M, ?_⟩
  · rintro _ M' ⟨o1, o2, o3, o4, o5, o6, o7, o8, o9, o10, o11, o12, o13, o14, o15, rfl, hM, _⟩
    exact ⟨M, hM, hp⟩
  · rintro m ms _ M' ⟨o1, o2, o3, o4, o5, o6, o7, o8, o9, o10, o11, o12, o13, o14, o15, rfl, hM, hm⟩ N hN
    refine ⟨a, ns, m, rfl, ⟨hsc.mle hM, hm m (List.mem_cons_self ..)⟩, fun c s r w p hp0 => ?_⟩
    refine ⟨p, 2, c, s, r, rfl, ⟨Mem.set_same, w, by decide, by decide⟩, fun d c1 s1 r1 hd0 w1 => ?_⟩
    rw [Mem.set_set]
    refine ix_two hd0 ?_ ?_
    all_goals
      refine ⟨p, 6, _, c1, s1, r1, rfl, ⟨Mem.set_same, w1, by decide, by decide, by decide⟩, fun S c2 s2 r2 LS w2 => ?_⟩
      rw [Mem.set_set]
      have V := LS.valid
      have hb6 : S.bals.length ≤ 6 := by have := LS.most; omega
      have hb1 := V.parts.one
      have hc : S.cords.length ≤ 8 := by have := LS.few; omega
      refine ⟨lenF (enc := encBal) (xs := S.bals) (by omega), ?_⟩
      refine accG1 encBal (fun b => .str b.1) S.bals (fun b hb K1 k => k) ?_
      rw [fzs_d]
      have el : ((((S.bals.map fun b => PyData.str b.1).map EV.d).length : Nat) : Int) = S.bals.length := by rw [List.length_map, List.length_map]
      refine ⟨p, _, c2, s2, r2, rfl, ⟨Mem.set_same, w2, ?_, ?_⟩, fun d2 c3 s3 r3 hd2 w3 => ?_⟩
      · rw [el]; omega
      · rw [el]; omega
      rw [el] at hd2
      rw [Mem.set_set]
      refine ix_map (fun b : Bal => PyData.str b.1) S.bals hd2 fun b hb => ?_
      have hn : b.1 ∈ S.bals.map (·.1) := List.mem_map_of_mem hb
      refine fun q hq0 => ?_
      have hqp : p ≠ q := by rintro rfl; rw [Mem.set_same] at hq0; cases hq0
      have hr : Rising S.cords := by have := V.parts.risC; rw [List.pairwise_map] at this; exact this
      refine ⟨S.cords, rfl, ⟨hr, hc⟩, ?_⟩
      refine rows_loop V hn hc (fun o7 o11 o15 => ?_)
      have st : LSt M' p q (((lotsOf S.cords).map (rowD S b.1)).map .d) c3 s3 r3 ((M'.set p (wl c3 s3 r3)).set q (.lst (((lotsOf S.cords).map (rowD S b.1)).map .d))) :=
        ⟨by rw [Mem.set_ne hqp, Mem.set_same], w3, Mem.set_same, (MLe.set hp0).trans (MLe.set hq0), hp0, hqp⟩
      refine ⟨lenF (enc := encBal) (xs := S.bals) (by omega), ?_⟩
      refine accG encBal (fun x => decide (x.1 = b.1)) (fun x => .int x.2.1) S.bals (fun x hx K1 K2 k1 k2 => ?_) ?_
      · show sel (false ^^ decide (x.1 = b.1)) _ _
        exact sel_fdec (fun h => k1 (decide_eq_true h)) (fun h => k2 (decide_eq_false h))
      rw [fzs_d, bal_filter V.neat.tidy (show (b.1, b.2.1, b.2.2) ∈ S.bals from hb)]
      generalize (M'.set p (wl c3 s3 r3)).set q (.lst (((lotsOf S.cords).map (rowD S b.1)).map .d)) = M3 at st
      have hlen : (lotsOf S.cords).length ≤ 256 := by
        rw [← (allL_perm hr).length_eq, allL_len]
        exact Nat.pow_le_pow_right (n := 2) (by decide) hc
      have hpos : 0 < (lotsOf S.cords).length := List.length_pos_of_mem (mem_lots.mpr (List.nil_sublist S.cords))
      have elen : (((((lotsOf S.cords).map (rowD S b.1)).map EV.d).length : Nat) : Int) = (lotsOf S.cords).length := by rw [List.length_map, List.length_map]
      have z0 : (0 : Int) ≤ 0 ∧ (0 : Int) < ((lotsOf S.cords).length : Int) := ⟨by decide, by omega⟩
      obtain ⟨a1, _, ea1⟩ := at_map (rowD S b.1) (lotsOf S.cords) z0
      conv => whnf
      rw [rdL_at st.rq]
      conv => whnf
      rw [ea1]
      conv => whnf
      rw [rdL_at st.rq]
      conv => whnf
      refine ⟨p, _, c3, s3, r3, rfl, ⟨st.wp, w3, by rw [elen]; omega, by rw [elen]; omega⟩, fun d4 c4 s4 r4 hd4 w4 => ?_⟩
      rw [elen] at hd4
      have st := st.step w4
      obtain ⟨a2, _, ea2⟩ := at_map (rowD S b.1) (lotsOf S.cords) hd4
      conv => whnf
      rw [rdL_at st.rq]
      conv => whnf
      rw [ea2]
      conv => whnf
      rw [rdL_at st.rq]
      conv => whnf
      refine ⟨p, _, c4, s4, r4, rfl, ⟨st.wp, w4, by rw [elen]; omega, by rw [elen]; omega⟩, fun d5 c5 s5 r5 hd5 w5 => ?_⟩
      rw [elen] at hd5
      have st := st.step w5
      obtain ⟨a3, _, ea3⟩ := at_map (rowD S b.1) (lotsOf S.cords) hd5
      conv => whnf
      rw [rdL_at st.rq]
      conv => whnf
      rw [ea3]
      conv => whnf
      refine ⟨p, 1500, c5, s5, r5, rfl, ⟨st.wp, w5, by decide, by decide⟩, fun d6 c6 s6 r6 hd6 w6 => ?_⟩
      have st := st.step w6
      conv => whnf
      rw [rdL_at st.rq]
      conv => whnf
      rw [ea1]
      refine ⟨ht (cutShow S a1) b.1, mkRat 1 5, rfl, ⟨?_, ?_⟩, ?_⟩
      · exact (ht_ok (V.cut a1) hn).2.mono (by decide)
      · exact (show Sm 8 (mkRat 1 5) from ⟨by decide, by decide⟩).mono (by decide)
      refine ⟨?_, ?_⟩
      · show (6 : Nat) ≤ 1000000
        decide
      refine aims_loop V hn hc [ht (cutShow S a1) b.1, ht (cutShow S a2) b.1, ht (cutShow S a3) b.1, ((if b.2.1 > 0 then b.2.1 else 0 : Int) : Rat), (d6 : Rat), ht (cutShow S a1) b.1 + mkRat 1 5] ?_ st.rq (fun o7 o10 o12 o14 => hN _ _ ⟨_, _, _, _, _, _, _, _, _, _, _, _, _, _, _, rfl, hM.trans st.le, fun m hm' => hm m (List.mem_cons_of_mem _ hm')⟩)
      have k1 := ht_ok (V.cut a1) hn
      have k2 := ht_ok (V.cut a2) hn
      have k3 := ht_ok (V.cut a3) hn
      have kb := (V.parts.bal b hb).2.1
      have p20 : (2 : Nat) ^ 20 = 1048576 := by decide
      have k5 : (0 : Rat) ≤ mkRat 1 5 := by decide
      intro h hh
      have hh : h = ht (cutShow S a1) b.1 ∨ h = ht (cutShow S a2) b.1 ∨ h = ht (cutShow S a3) b.1 ∨ h = ((if b.2.1 > 0 then b.2.1 else 0 : Int) : Rat) ∨ h = (d6 : Rat) ∨ h = ht (cutShow S a1) b.1 + mkRat 1 5 := by simpa using hh
      rcases hh with rfl | rfl | rfl | rfl | rfl | rfl
      · exact ⟨k1.1, k1.2.mono (by decide)⟩
      · exact ⟨k2.1, k2.2.mono (by decide)⟩
      · exact ⟨k3.1, k3.2.mono (by decide)⟩
      · exact ⟨Rat.intCast_nonneg.mpr (by split <;> omega), (Sm.int (n := 20) (by split <;> omega) (by decide)).mono (by decide)⟩
      · exact ⟨Rat.intCast_nonneg.mpr hd6.1, (Sm.int (n := 20) (by omega) (by decide)).mono (by decide)⟩
      · exact ⟨Rat.add_nonneg k1.1 k5, (k1.2.add (show Sm 8 (mkRat 1 5) from ⟨by decide, by decide⟩)).mono (by decide)⟩
  · intro m hm
    have hm := List.mem_range.mp hm
    dsimp only at hm
    split at hm <;> split at hm <;> omega
end Td

/-! TdE: the common end. -/
namespace Td
open PySem PySem.Spec PyProof.Rows L2
theorem spJ_start {K : PySem.W.Frag} {T : TJ} {H : Hp} {a : Addr} {ns : List Int} (hS : SqL K H a (ns.map V.int))
    (hT : ∀ (M : Mem) (Φ : JK) (Ψ : JXK), Scr K M a ns → Φ (.d (.bool true)) M → T [.v (.ref a)] M Φ Ψ) :
    spJ K T [V.ref a] H (fun v x => v = V.bl true) fun _ _ _ => False := by
  have vd : VDs K (fun _ => none) [V.ref a] [EV.v (V.ref a)] := .cons rfl .nil
  have fin : LE K (fun _ => none) (fun x _ => x = EV.d (.bool true)) (fun v x => v = V.bl true) := fun v H' F' x M' _ _ r e => by
    subst e
    have r : Dq K F' v (.bool true) := r
    cases r
    rfl
  by_cases hH : ∃ o, H a = some o
  · obtain ⟨o, ho⟩ := hH
    refine ⟨fun _ => none, fun b => if b = a then some (.raw o) else none, [.v (.ref a)], fun x _ => x = EV.d (.bool true), fun _ _ => False, ⟨fun b u q => (by cases q), fun b m e => ?_⟩, vd, ?_, fin, fun _ _ _ _ _ _ _ z => z⟩
    · by_cases hb : b = a
      · subst hb
        simp only [if_true, Option.some.injEq] at e
        subst e
        exact ⟨rfl, ho⟩
      · simp only [if_neg hb] at e; cases e
    · refine hT _ _ _ (.inl ⟨o, by simp, fun H2 h2 => ?_⟩) rfl
      rcases hS with (h | ⟨o', h⟩) | h
      · rw [ho] at h; cases h; exact .inl (.inl h2)
      · rw [ho] at h; cases h; exact .inl (.inr ⟨o', h2⟩)
      · exact .inr h
  · refine ⟨fun _ => none, fun _ => none, [.v (.ref a)], fun x _ => x = EV.d (.bool true), fun _ _ => False, ⟨fun b u q => (by cases q), fun b m e => (by cases e)⟩, vd, ?_, fin, fun _ _ _ _ _ _ _ z => z⟩
    refine hT _ _ _ (.inr fun H2 => ?_) rfl
    rcases hS with (h | ⟨o', h⟩) | h
    · exact (hH ⟨_, h⟩).elim
    · exact (hH ⟨_, h⟩).elim
    · exact .inr h
end Td
namespace Td
open PySem PySem.Spec PyProof.Rows L2
section
variable {P : Program} {w : World} {K : PySem.W.Frag} {mg : Str → Option Value} {base : Heap}
theorem okW {x : Str} {st : Stmt} {N ps : List Str} {k : Nat} {T : TJ} {js : JTS} {f : Addr} {fd : FuncData} (F : Fun K x x st f fd) (S : FnScope N ps (defScope st)) (len : ∀ xs M Φ Ψ, T xs M Φ Ψ → xs.length = ps.length)
    (hb : ∀ (f : Addr) (cdv : Value) (A : Around) (outer : List Env) (s : Shared) (H : Hp) (E : XK), Room k (A.deeper (envOfC x (defScope st) s.heap.objs.size f cdv)) →
      JSs (cxOf CX0 P w K mg base N x (defScope st) f cdv A outer s H E).nox E (defBody st) js)
    (hq : ∀ xs M Φ Ψ, T xs M Φ Ψ → js { nx := fun _ M' => Dr Φ (.d .none) M', rt := Dr Φ, xr := DrX Ψ } (jstart N.length xs) M) :
    FnOk P w K mg base CX0 (k + 1) f fd ps (spJ K T) :=
  (fn_j (T := fun xs M Φ Ψ => xs.length = ps.length ∧ js { nx := fun _ M' => Φ (.d .none) M', rt := Φ, xr := Ψ } (jstart N.length xs) M) F S (fun _ _ _ _ h => h.1)
    fun cdv A outer s H E hr => ⟨js, hb f cdv A outer s H E hr, fun _ _ _ _ h => h.2⟩).imp fun vs H Q E ⟨F, M, xs, Φ, Ψ, W, r, q, l, lx⟩ => ⟨F, M, xs, Dr Φ, DrX Ψ, W, r, ⟨len _ _ _ _ q, hq _ _ _ _ q⟩, l.dr, lx.dr⟩
end
end Td

namespace Td
open PySem PySem.Spec PyProof.Rows L2
def top (i : Nat) : Stmt := PySem.Challenge.pw_tiedaloft_k41_whole_fewest_cuts.main.body.getD i (.Pass ⟨0, 0, 0, 0⟩)
structure Defs (K : PySem.W.Frag) (mg : Str → Option Value) : Prop where
  d_divisor : DefAt K mg "divisor" (top 2) ["one", "other"]
  d_fraction : DefAt K mg "fraction" (top 3) ["top", "bottom"]
  d_plus : DefAt K mg "plus" (top 4) ["one", "other"]
  d_minus : DefAt K mg "minus" (top 5) ["one", "other"]
  d_times : DefAt K mg "times" (top 6) ["one", "other"]
  d_shared : DefAt K mg "shared" (top 7) ["one", "other"]
  d_is_less : DefAt K mg "is_less" (top 8) ["one", "other"]
  d_is_whole : DefAt K mg "is_whole" (top 9) ["thing", "low", "high"]
  d_is_fraction : DefAt K mg "is_fraction" (top 10) ["thing"]
  d_alone : DefAt K mg "alone" (top 12) ["own", "strong"]
  d_pull_at : DefAt K mg "pull_at" (top 13) ["pulls", "height"]
  d_nought_of : DefAt K mg "nought_of" (top 14) ["pulls"]
  d_in_order : DefAt K mg "in_order" (top 15) ["some"]
  d_both : DefAt K mg "both" (top 16) ["one", "other"]
  d_felt : DefAt K mg "felt" (top 18) ["pulls", "height", "still", "far"]
  d_by_cord : DefAt K mg "by_cord" (top 17) ["pulls", "long"]
  d_is_name : DefAt K mg "is_name" (top 30) ["thing"]
  d_is_own : DefAt K mg "is_own" (top 31) ["thing"]
  d_is_balloon : DefAt K mg "is_balloon" (top 32) ["thing"]
  d_is_cord : DefAt K mg "is_cord" (top 33) ["names", "thing"]
  d_are_rising : DefAt K mg "are_rising" (top 34) ["some"]
  d_makes_ring : DefAt K mg "makes_ring" (top 35) ["cords"]
  d_is_show : DefAt K mg "is_show" (top 36) ["thing"]
  d_need_show : DefAt K mg "need_show" (top 37) ["show"]
  d_need_name : DefAt K mg "need_name" (top 38) ["show", "name"]
  d_need_height : DefAt K mg "need_height" (top 39) ["height"]
  d_tied_to : DefAt K mg "tied_to" (top 40) ["show", "name"]
  d_pulls_of : DefAt K mg "pulls_of" (top 42) ["show", "name", "ahead"]
  d_nearest : DefAt K mg "nearest" (top 43) ["height", "still", "long"]
  d_hang : DefAt K mg "hang" (top 44) ["show", "name", "ahead", "height", "table"]
  d_all_heights : DefAt K mg "all_heights" (top 45) ["show", "fixed"]
  d_heights : DefAt K mg "heights" (top 46) ["show"]
  d_choices : DefAt K mg "choices" (top 48) ["some", "many"]
  d_fewest_cuts : DefAt K mg "fewest_cuts" (top 49) ["show", "name", "height"]
  d__law_well : DefAt K mg "_law_well" (top 51) ["script", "k"]
  d__law_take : DefAt K mg "_law_take" (top 52) ["well", "many"]
  d__law_frac : DefAt K mg "_law_frac" (top 53) ["top", "bottom"]
  d__law_plus : DefAt K mg "_law_plus" (top 54) ["one", "other"]
  d__law_less : DefAt K mg "_law_less" (top 55) ["one", "other"]
  d__law_balloon : DefAt K mg "_law_balloon" (top 56) ["well", "name", "wide"]
  d__law_show : DefAt K mg "_law_show" (top 57) ["well", "most", "wide"]
  d__law_at : DefAt K mg "_law_at" (top 58) ["show", "name"]
  d__law_lots : DefAt K mg "_law_lots" (top 59) ["cords"]
  d_law : DefAt K mg "law" (top 60) ["script"]
section
variable {P : Program} {w : World} {K : PySem.W.Frag} {mg : Str → Option Value} {base : Heap}
abbrev s_divisor : Stmt := top 2
abbrev n_divisor : List Str := ["one", "other"]
theorem sc_divisor : FnScope n_divisor ["one", "other"] (defScope s_divisor) := ⟨rfl, rfl, rfl, by decide +kernel, rfl, by decide +kernel, by decide +kernel⟩
theorem dv_divisor {k : Nat} (B : Blt mg) (C : Cst K mg) 
    (f : Addr) (cdv : Value) (A : Around) (outer : List Env) (s : Shared) (H : Hp) (E : XK) (hr : Room k (A.deeper (envOfC "divisor" (defScope s_divisor) s.heap.objs.size f cdv))) :
    JSs (cxOf CX0 P w K mg base n_divisor "divisor" (defScope s_divisor) f cdv A outer s H E).nox E (defBody s_divisor) (j_divisor ) := by
  have hu1 := hu_of hr
  have hu64 := hr.units
  have hu65 := units65 hr
  have nd := sc_divisor.nd
  have po := @PassesOwn.never
  exact jss_cons (js_while po (jt_cmp (oj_ne hu64) (je_var 1) (je_int)) (jss_one (js_par (i := 0) (j := 1) rfl nd rfl rfl (by decide) rfl rfl (ja_cons (je_var 1) (ja_cons (je_op oj_mod (je_var 0) (je_var 1)) (ja_nil))) (by rfl))))
    (jss_one (js_ret (je_var 0)))
theorem fn_divisor (B : Blt mg) (C : Cst K mg) (D : Defs K mg) : FnJ P w K mg base 1 "divisor" ["one", "other"] (T_divisor) :=
  D.d_divisor.fnj (k := 0) (T := T_divisor) sc_divisor (by
    intro xs M Φ Ψ h
    first
    | (obtain ⟨_, rfl, _⟩ := h; rfl)
    | (obtain ⟨_, _, rfl, _⟩ := h; rfl)
    | (obtain ⟨_, _, _, rfl, _⟩ := h; rfl)
    | (obtain ⟨_, _, _, _, rfl, _⟩ := h; rfl)
    | (obtain ⟨_, _, _, _, _, rfl, _⟩ := h; rfl)
    | (obtain ⟨_, _, _, _, _, _, rfl, _⟩ := h; rfl)
    | (obtain ⟨_, _, _, _, _, _, _, rfl, _⟩ := h; rfl)
    | (obtain ⟨_, h, _⟩ := h; rcases h with rfl | rfl <;> rfl)) (fun f cdv A outer s H E hr => dv_divisor B C  f cdv A outer s H E hr) (r_divisor)
abbrev s_fraction : Stmt := top 3
abbrev n_fraction : List Str := ["top", "bottom", "by"]
theorem sc_fraction : FnScope n_fraction ["top", "bottom"] (defScope s_fraction) := ⟨rfl, rfl, rfl, by decide +kernel, rfl, by decide +kernel, by decide +kernel⟩
theorem dv_fraction {k : Nat} (B : Blt mg) (C : Cst K mg) {T_divisor : TJ} {k_divisor : Nat} {ps_divisor : List Str} (F_divisor : FnJ P w K mg base k_divisor "divisor" ps_divisor T_divisor) (e_divisor : k_divisor ≤ k)
    (f : Addr) (cdv : Value) (A : Around) (outer : List Env) (s : Shared) (H : Hp) (E : XK) (hr : Room k (A.deeper (envOfC "fraction" (defScope s_fraction) s.heap.objs.size f cdv))) :
    JSs (cxOf CX0 P w K mg base n_fraction "fraction" (defScope s_fraction) f cdv A outer s H E).nox E (defBody s_fraction) (j_fraction T_divisor) := by
  have hr_divisor := hr.mono e_divisor
  have hu1 := hu_of hr
  have hu64 := hr.units
  have hu65 := units65 hr
  have nd := sc_fraction.nd
  have po := @PassesOwn.never
  exact jss_cons (js_set (i := 2) nd rfl (.inl rfl) (je_op oj_mul (je_callJ F_divisor hr_divisor (ja_cons (jb_abs B (ja_cons (je_var 0) (ja_nil))) (ja_cons (jb_abs B (ja_cons (je_var 1) (ja_nil))) (ja_nil)))) (je_if (jt_cmp (oj_gt) (je_var 1) (je_int)) (je_int) (je_un uj_neg (je_int)))))
    (jss_one (js_ret (je_tup (ja_cons (je_op oj_fdiv (je_var 0) (je_var 2)) (ja_cons (je_op oj_fdiv (je_var 1) (je_var 2)) (ja_nil))))))
theorem fn_fraction (B : Blt mg) (C : Cst K mg) (D : Defs K mg) : FnJ P w K mg base 2 "fraction" ["top", "bottom"] (T_fraction) :=
  D.d_fraction.fnj (k := 1) (T := T_fraction) sc_fraction (by
    intro xs M Φ Ψ h
    first
    | (obtain ⟨_, rfl, _⟩ := h; rfl)
    | (obtain ⟨_, _, rfl, _⟩ := h; rfl)
    | (obtain ⟨_, _, _, rfl, _⟩ := h; rfl)
    | (obtain ⟨_, _, _, _, rfl, _⟩ := h; rfl)
    | (obtain ⟨_, _, _, _, _, rfl, _⟩ := h; rfl)
    | (obtain ⟨_, _, _, _, _, _, rfl, _⟩ := h; rfl)
    | (obtain ⟨_, _, _, _, _, _, _, rfl, _⟩ := h; rfl)
    | (obtain ⟨_, h, _⟩ := h; rcases h with rfl | rfl <;> rfl)) (fun f cdv A outer s H E hr => dv_fraction B C (fn_divisor B C D) (by omega) f cdv A outer s H E hr) (r_fraction)
abbrev s_plus : Stmt := top 4
abbrev n_plus : List Str := ["one", "other"]
theorem sc_plus : FnScope n_plus ["one", "other"] (defScope s_plus) := ⟨rfl, rfl, rfl, by decide +kernel, rfl, by decide +kernel, by decide +kernel⟩
theorem dv_plus {k : Nat} (B : Blt mg) (C : Cst K mg) {T_fraction : TJ} {k_fraction : Nat} {ps_fraction : List Str} (F_fraction : FnJ P w K mg base k_fraction "fraction" ps_fraction T_fraction) (e_fraction : k_fraction ≤ k)
    (f : Addr) (cdv : Value) (A : Around) (outer : List Env) (s : Shared) (H : Hp) (E : XK) (hr : Room k (A.deeper (envOfC "plus" (defScope s_plus) s.heap.objs.size f cdv))) :
    JSs (cxOf CX0 P w K mg base n_plus "plus" (defScope s_plus) f cdv A outer s H E).nox E (defBody s_plus) (j_plus T_fraction) := by
  have hr_fraction := hr.mono e_fraction
  have hu1 := hu_of hr
  have hu64 := hr.units
  have hu65 := units65 hr
  have nd := sc_plus.nd
  have po := @PassesOwn.never
  exact jss_one (js_ret (je_callJ F_fraction hr_fraction (ja_cons (je_op oj_add (je_op oj_mul (je_ix (je_var 0) (je_int)) (je_ix (je_var 1) (je_int))) (je_op oj_mul (je_ix (je_var 1) (je_int)) (je_ix (je_var 0) (je_int)))) (ja_cons (je_op oj_mul (je_ix (je_var 0) (je_int)) (je_ix (je_var 1) (je_int))) (ja_nil)))))
theorem fn_plus (B : Blt mg) (C : Cst K mg) (D : Defs K mg) : FnJ P w K mg base 3 "plus" ["one", "other"] (T_plus) :=
  D.d_plus.fnj (k := 2) (T := T_plus) sc_plus (by
    intro xs M Φ Ψ h
    first
    | (obtain ⟨_, rfl, _⟩ := h; rfl)
    | (obtain ⟨_, _, rfl, _⟩ := h; rfl)
    | (obtain ⟨_, _, _, rfl, _⟩ := h; rfl)
    | (obtain ⟨_, _, _, _, rfl, _⟩ := h; rfl)
    | (obtain ⟨_, _, _, _, _, rfl, _⟩ := h; rfl)
    | (obtain ⟨_, _, _, _, _, _, rfl, _⟩ := h; rfl)
    | (obtain ⟨_, _, _, _, _, _, _, rfl, _⟩ := h; rfl)
    | (obtain ⟨_, h, _⟩ := h; rcases h with rfl | rfl <;> rfl)) (fun f cdv A outer s H E hr => dv_plus B C (fn_fraction B C D) (by omega) f cdv A outer s H E hr) (r_plus)
abbrev s_minus : Stmt := top 5
abbrev n_minus : List Str := ["one", "other"]
theorem sc_minus : FnScope n_minus ["one", "other"] (defScope s_minus) := ⟨rfl, rfl, rfl, by decide +kernel, rfl, by decide +kernel, by decide +kernel⟩
theorem dv_minus {k : Nat} (B : Blt mg) (C : Cst K mg) {T_fraction : TJ} {k_fraction : Nat} {ps_fraction : List Str} (F_fraction : FnJ P w K mg base k_fraction "fraction" ps_fraction T_fraction) (e_fraction : k_fraction ≤ k)
    (f : Addr) (cdv : Value) (A : Around) (outer : List Env) (s : Shared) (H : Hp) (E : XK) (hr : Room k (A.deeper (envOfC "minus" (defScope s_minus) s.heap.objs.size f cdv))) :
    JSs (cxOf CX0 P w K mg base n_minus "minus" (defScope s_minus) f cdv A outer s H E).nox E (defBody s_minus) (j_minus T_fraction) := by
  have hr_fraction := hr.mono e_fraction
  have hu1 := hu_of hr
  have hu64 := hr.units
  have hu65 := units65 hr
  have nd := sc_minus.nd
  have po := @PassesOwn.never
  exact jss_one (js_ret (je_callJ F_fraction hr_fraction (ja_cons (je_op oj_sub (je_op oj_mul (je_ix (je_var 0) (je_int)) (je_ix (je_var 1) (je_int))) (je_op oj_mul (je_ix (je_var 1) (je_int)) (je_ix (je_var 0) (je_int)))) (ja_cons (je_op oj_mul (je_ix (je_var 0) (je_int)) (je_ix (je_var 1) (je_int))) (ja_nil)))))
theorem fn_minus (B : Blt mg) (C : Cst K mg) (D : Defs K mg) : FnJ P w K mg base 3 "minus" ["one", "other"] (T_minus) :=
  D.d_minus.fnj (k := 2) (T := T_minus) sc_minus (by
    intro xs M Φ Ψ h
    first
    | (obtain ⟨_, rfl, _⟩ := h; rfl)
    | (obtain ⟨_, _, rfl, _⟩ := h; rfl)
    | (obtain ⟨_, _, _, rfl, _⟩ := h; rfl)
    | (obtain ⟨_, _, _, _, rfl, _⟩ := h; rfl)
    | (obtain ⟨_, _, _, _, _, rfl, _⟩ := h; rfl)
    | (obtain ⟨_, _, _, _, _, _, rfl, _⟩ := h; rfl)
    | (obtain ⟨_, _, _, _, _, _, _, rfl, _⟩ := h; rfl)
    | (obtain ⟨_, h, _⟩ := h; rcases h with rfl | rfl <;> rfl)) (fun f cdv A outer s H E hr => dv_minus B C (fn_fraction B C D) (by omega) f cdv A outer s H E hr) (r_minus)
abbrev s_times : Stmt := top 6
abbrev n_times : List Str := ["one", "other"]
theorem sc_times : FnScope n_times ["one", "other"] (defScope s_times) := ⟨rfl, rfl, rfl, by decide +kernel, rfl, by decide +kernel, by decide +kernel⟩
theorem dv_times {k : Nat} (B : Blt mg) (C : Cst K mg) {T_fraction : TJ} {k_fraction : Nat} {ps_fraction : List Str} (F_fraction : FnJ P w K mg base k_fraction "fraction" ps_fraction T_fraction) (e_fraction : k_fraction ≤ k)
    (f : Addr) (cdv : Value) (A : Around) (outer : List Env) (s : Shared) (H : Hp) (E : XK) (hr : Room k (A.deeper (envOfC "times" (defScope s_times) s.heap.objs.size f cdv))) :
    JSs (cxOf CX0 P w K mg base n_times "times" (defScope s_times) f cdv A outer s H E).nox E (defBody s_times) (j_times T_fraction) := by
  have hr_fraction := hr.mono e_fraction
  have hu1 := hu_of hr
  have hu64 := hr.units
  have hu65 := units65 hr
  have nd := sc_times.nd
  have po := @PassesOwn.never
  exact jss_one (js_ret (je_callJ F_fraction hr_fraction (ja_cons (je_op oj_mul (je_ix (je_var 0) (je_int)) (je_ix (je_var 1) (je_int))) (ja_cons (je_op oj_mul (je_ix (je_var 0) (je_int)) (je_ix (je_var 1) (je_int))) (ja_nil)))))
theorem fn_times (B : Blt mg) (C : Cst K mg) (D : Defs K mg) : FnJ P w K mg base 3 "times" ["one", "other"] (T_times) :=
  D.d_times.fnj (k := 2) (T := T_times) sc_times (by
    intro xs M Φ Ψ h
    first
    | (obtain ⟨_, rfl, _⟩ := h; rfl)
    | (obtain ⟨_, _, rfl, _⟩ := h; rfl)
    | (obtain ⟨_, _, _, rfl, _⟩ := h; rfl)
    | (obtain ⟨_, _, _, _, rfl, _⟩ := h; rfl)
    | (obtain ⟨_, _, _, _, _, rfl, _⟩ := h; rfl)
    | (obtain ⟨_, _, _, _, _, _, rfl, _⟩ := h; rfl)
    | (obtain ⟨_, _, _, _, _, _, _, rfl, _⟩ := h; rfl)
    | (obtain ⟨_, h, _⟩ := h; rcases h with rfl | rfl <;> rfl)) (fun f cdv A outer s H E hr => dv_times B C (fn_fraction B C D) (by omega) f cdv A outer s H E hr) (r_times)
abbrev s_shared : Stmt := top 7
abbrev n_shared : List Str := ["one", "other"]
theorem sc_shared : FnScope n_shared ["one", "other"] (defScope s_shared) := ⟨rfl, rfl, rfl, by decide +kernel, rfl, by decide +kernel, by decide +kernel⟩
theorem dv_shared {k : Nat} (B : Blt mg) (C : Cst K mg) {T_fraction : TJ} {k_fraction : Nat} {ps_fraction : List Str} (F_fraction : FnJ P w K mg base k_fraction "fraction" ps_fraction T_fraction) (e_fraction : k_fraction ≤ k)
    (f : Addr) (cdv : Value) (A : Around) (outer : List Env) (s : Shared) (H : Hp) (E : XK) (hr : Room k (A.deeper (envOfC "shared" (defScope s_shared) s.heap.objs.size f cdv))) :
    JSs (cxOf CX0 P w K mg base n_shared "shared" (defScope s_shared) f cdv A outer s H E).nox E (defBody s_shared) (j_shared T_fraction) := by
  have hr_fraction := hr.mono e_fraction
  have hu1 := hu_of hr
  have hu64 := hr.units
  have hu65 := units65 hr
  have nd := sc_shared.nd
  have po := @PassesOwn.never
  exact jss_one (js_ret (je_callJ F_fraction hr_fraction (ja_cons (je_op oj_mul (je_ix (je_var 0) (je_int)) (je_ix (je_var 1) (je_int))) (ja_cons (je_op oj_mul (je_ix (je_var 0) (je_int)) (je_ix (je_var 1) (je_int))) (ja_nil)))))
theorem fn_shared (B : Blt mg) (C : Cst K mg) (D : Defs K mg) : FnJ P w K mg base 3 "shared" ["one", "other"] (T_shared) :=
  D.d_shared.fnj (k := 2) (T := T_shared) sc_shared (by
    intro xs M Φ Ψ h
    first
    | (obtain ⟨_, rfl, _⟩ := h; rfl)
    | (obtain ⟨_, _, rfl, _⟩ := h; rfl)
    | (obtain ⟨_, _, _, rfl, _⟩ := h; rfl)
    | (obtain ⟨_, _, _, _, rfl, _⟩ := h; rfl)
    | (obtain ⟨_, _, _, _, _, rfl, _⟩ := h; rfl)
    | (obtain ⟨_, _, _, _, _, _, rfl, _⟩ := h; rfl)
    | (obtain ⟨_, _, _, _, _, _, _, rfl, _⟩ := h; rfl)
    | (obtain ⟨_, h, _⟩ := h; rcases h with rfl | rfl <;> rfl)) (fun f cdv A outer s H E hr => dv_shared B C (fn_fraction B C D) (by omega) f cdv A outer s H E hr) (r_shared)
abbrev s_is_less : Stmt := top 8
abbrev n_is_less : List Str := ["one", "other"]
theorem sc_is_less : FnScope n_is_less ["one", "other"] (defScope s_is_less) := ⟨rfl, rfl, rfl, by decide +kernel, rfl, by decide +kernel, by decide +kernel⟩
theorem dv_is_less {k : Nat} (B : Blt mg) (C : Cst K mg) 
    (f : Addr) (cdv : Value) (A : Around) (outer : List Env) (s : Shared) (H : Hp) (E : XK) (hr : Room k (A.deeper (envOfC "is_less" (defScope s_is_less) s.heap.objs.size f cdv))) :
    JSs (cxOf CX0 P w K mg base n_is_less "is_less" (defScope s_is_less) f cdv A outer s H E).nox E (defBody s_is_less) (j_is_less ) := by
  have hu1 := hu_of hr
  have hu64 := hr.units
  have hu65 := units65 hr
  have nd := sc_is_less.nd
  have po := @PassesOwn.never
  exact jss_one (js_ret (je_cmp (oj_lt) (je_op oj_mul (je_ix (je_var 0) (je_int)) (je_ix (je_var 1) (je_int))) (je_op oj_mul (je_ix (je_var 1) (je_int)) (je_ix (je_var 0) (je_int)))))
theorem fn_is_less (B : Blt mg) (C : Cst K mg) (D : Defs K mg) : FnJ P w K mg base 1 "is_less" ["one", "other"] (T_is_less) :=
  D.d_is_less.fnj (k := 0) (T := T_is_less) sc_is_less (by
    intro xs M Φ Ψ h
    first
    | (obtain ⟨_, rfl, _⟩ := h; rfl)
    | (obtain ⟨_, _, rfl, _⟩ := h; rfl)
    | (obtain ⟨_, _, _, rfl, _⟩ := h; rfl)
    | (obtain ⟨_, _, _, _, rfl, _⟩ := h; rfl)
    | (obtain ⟨_, _, _, _, _, rfl, _⟩ := h; rfl)
    | (obtain ⟨_, _, _, _, _, _, rfl, _⟩ := h; rfl)
    | (obtain ⟨_, _, _, _, _, _, _, rfl, _⟩ := h; rfl)
    | (obtain ⟨_, h, _⟩ := h; rcases h with rfl | rfl <;> rfl)) (fun f cdv A outer s H E hr => dv_is_less B C  f cdv A outer s H E hr) (r_is_less)
abbrev s_is_whole : Stmt := top 9
abbrev n_is_whole : List Str := ["thing", "low", "high"]
theorem sc_is_whole : FnScope n_is_whole ["thing", "low", "high"] (defScope s_is_whole) := ⟨rfl, rfl, rfl, by decide +kernel, rfl, by decide +kernel, by decide +kernel⟩
theorem dv_is_whole {k : Nat} (B : Blt mg) (C : Cst K mg) 
    (f : Addr) (cdv : Value) (A : Around) (outer : List Env) (s : Shared) (H : Hp) (E : XK) (hr : Room k (A.deeper (envOfC "is_whole" (defScope s_is_whole) s.heap.objs.size f cdv))) :
    JSs (cxOf CX0 P w K mg base n_is_whole "is_whole" (defScope s_is_whole) f cdv A outer s H E).nox E (defBody s_is_whole) (j_is_whole ) := by
  have hu1 := hu_of hr
  have hu64 := hr.units
  have hu65 := units65 hr
  have nd := sc_is_whole.nd
  have po := @PassesOwn.never
  exact jss_one (js_ret (je_and (jb_isi "int" B (ja_cons (je_var 0) (ja_cons (je_tint B) (ja_nil)))) (je_and (je_not (jb_isi "bool" B (ja_cons (je_var 0) (ja_cons (je_tbool B) (ja_nil))))) (je_one (je_chain oj_le oj_le (je_var 1) (je_var 0) (je_var 2))))))
theorem fn_is_whole (B : Blt mg) (C : Cst K mg) (D : Defs K mg) : FnJ P w K mg base 1 "is_whole" ["thing", "low", "high"] (T_is_whole) :=
  D.d_is_whole.fnj (k := 0) (T := T_is_whole) sc_is_whole (by
    intro xs M Φ Ψ h
    first
    | (obtain ⟨_, rfl, _⟩ := h; rfl)
    | (obtain ⟨_, _, rfl, _⟩ := h; rfl)
    | (obtain ⟨_, _, _, rfl, _⟩ := h; rfl)
    | (obtain ⟨_, _, _, _, rfl, _⟩ := h; rfl)
    | (obtain ⟨_, _, _, _, _, rfl, _⟩ := h; rfl)
    | (obtain ⟨_, _, _, _, _, _, rfl, _⟩ := h; rfl)
    | (obtain ⟨_, _, _, _, _, _, _, rfl, _⟩ := h; rfl)
    | (obtain ⟨_, h, _⟩ := h; rcases h with rfl | rfl <;> rfl)) (fun f cdv A outer s H E hr => dv_is_whole B C  f cdv A outer s H E hr) (r_is_whole)
abbrev s_is_fraction : Stmt := top 10
abbrev n_is_fraction : List Str := ["thing", "part"]
theorem sc_is_fraction : FnScope n_is_fraction ["thing"] (defScope s_is_fraction) := ⟨rfl, rfl, rfl, by decide +kernel, rfl, by decide +kernel, by decide +kernel⟩
theorem dv_is_fraction {k : Nat} (B : Blt mg) (C : Cst K mg) {T_divisor : TJ} {k_divisor : Nat} {ps_divisor : List Str} (F_divisor : FnJ P w K mg base k_divisor "divisor" ps_divisor T_divisor) (e_divisor : k_divisor ≤ k)
    (f : Addr) (cdv : Value) (A : Around) (outer : List Env) (s : Shared) (H : Hp) (E : XK) (hr : Room k (A.deeper (envOfC "is_fraction" (defScope s_is_fraction) s.heap.objs.size f cdv))) :
    JSs (cxOf CX0 P w K mg base n_is_fraction "is_fraction" (defScope s_is_fraction) f cdv A outer s H E).nox E (defBody s_is_fraction) (j_is_fraction T_divisor) := by
  have hr_divisor := hr.mono e_divisor
  have hu1 := hu_of hr
  have hu64 := hr.units
  have hu65 := units65 hr
  have nd := sc_is_fraction.nd
  have po := @PassesOwn.never
  exact jss_cons (js_if (jt_w (jw_or (jt_not (jt_val (jb_isi "tuple" B (ja_cons (je_var 0) (ja_cons (je_ttuple B) (ja_nil)))))) (jw_or1 (jt_cmp (oj_ne hu64) (jb_len B (ja_cons (je_var 0) (ja_nil))) (je_int))))) (jss_one (js_ret (je_bl))) (jss_nil))
    (jss_cons (js_if (jt_not (jt_val (jb_all B (ja_cons (je_lc (own := [("part", 1)]) rfl nd (ji_tup (je_var 0)) (blkOk_by (N := n_is_fraction) (sc := defScope s_is_fraction) (own := [("part", 1)]) (by decide +kernel)) (fun _ _ _ _ _ => jgw_name (i := 1) nd rfl (.inl rfl) (by decide)) (fun _ _ _ _ _ => jts_nil) (fun _ _ _ _ _ => je_and (jb_isi "int" B (ja_cons (je_var 1) (ja_cons (je_tint B) (ja_nil)))) (je_one (je_not (jb_isi "bool" B (ja_cons (je_var 1) (ja_cons (je_tbool B) (ja_nil)))))))) (ja_nil))))) (jss_one (js_ret (je_bl))) (jss_nil))
    (jss_one (js_ret (je_and (je_cmp (oj_gt) (je_ix (je_var 0) (je_int)) (je_int)) (je_one (je_cmp (oj_eq hu64) (je_callJ F_divisor hr_divisor (ja_cons (jb_abs B (ja_cons (je_ix (je_var 0) (je_int)) (ja_nil))) (ja_cons (je_ix (je_var 0) (je_int)) (ja_nil)))) (je_int)))))))
theorem fn_is_fraction (B : Blt mg) (C : Cst K mg) (D : Defs K mg) : FnJ P w K mg base 2 "is_fraction" ["thing"] (T_is_fraction) :=
  D.d_is_fraction.fnj (k := 1) (T := T_is_fraction) sc_is_fraction (by
    intro xs M Φ Ψ h
    first
    | (obtain ⟨_, rfl, _⟩ := h; rfl)
    | (obtain ⟨_, _, rfl, _⟩ := h; rfl)
    | (obtain ⟨_, _, _, rfl, _⟩ := h; rfl)
    | (obtain ⟨_, _, _, _, rfl, _⟩ := h; rfl)
    | (obtain ⟨_, _, _, _, _, rfl, _⟩ := h; rfl)
    | (obtain ⟨_, _, _, _, _, _, rfl, _⟩ := h; rfl)
    | (obtain ⟨_, _, _, _, _, _, _, rfl, _⟩ := h; rfl)
    | (obtain ⟨_, h, _⟩ := h; rcases h with rfl | rfl <;> rfl)) (fun f cdv A outer s H E hr => dv_is_fraction B C (fn_divisor B C D) (by omega) f cdv A outer s H E hr) (r_is_fraction)
abbrev s_alone : Stmt := top 12
abbrev n_alone : List Str := ["own", "strong"]
theorem sc_alone : FnScope n_alone ["own", "strong"] (defScope s_alone) := ⟨rfl, rfl, rfl, by decide +kernel, rfl, by decide +kernel, by decide +kernel⟩
theorem dv_alone {k : Nat} (B : Blt mg) (C : Cst K mg) 
    (f : Addr) (cdv : Value) (A : Around) (outer : List Env) (s : Shared) (H : Hp) (E : XK) (hr : Room k (A.deeper (envOfC "alone" (defScope s_alone) s.heap.objs.size f cdv))) :
    JSs (cxOf CX0 P w K mg base n_alone "alone" (defScope s_alone) f cdv A outer s H E).nox E (defBody s_alone) (j_alone ) := by
  have hu1 := hu_of hr
  have hu64 := hr.units
  have hu65 := units65 hr
  have nd := sc_alone.nd
  have po := @PassesOwn.never
  exact jss_one (js_ret (je_tup (ja_cons (je_lstD (ja_cons (je_tup (ja_cons (je_nought C) (ja_cons (je_non) (ja_cons (je_tup (ja_cons (je_op oj_sub (je_int) (je_op oj_mul (je_var 1) (je_var 0))) (ja_cons (je_int) (ja_nil)))) (ja_nil))))) (ja_nil))) (ja_cons (je_tup (ja_cons (je_var 1) (ja_cons (je_int) (ja_nil)))) (ja_nil)))))
theorem fn_alone (B : Blt mg) (C : Cst K mg) (D : Defs K mg) : FnJ P w K mg base 1 "alone" ["own", "strong"] (T_alone) :=
  D.d_alone.fnj (k := 0) (T := T_alone) sc_alone (by
    intro xs M Φ Ψ h
    first
    | (obtain ⟨_, rfl, _⟩ := h; rfl)
    | (obtain ⟨_, _, rfl, _⟩ := h; rfl)
    | (obtain ⟨_, _, _, rfl, _⟩ := h; rfl)
    | (obtain ⟨_, _, _, _, rfl, _⟩ := h; rfl)
    | (obtain ⟨_, _, _, _, _, rfl, _⟩ := h; rfl)
    | (obtain ⟨_, _, _, _, _, _, rfl, _⟩ := h; rfl)
    | (obtain ⟨_, _, _, _, _, _, _, rfl, _⟩ := h; rfl)
    | (obtain ⟨_, h, _⟩ := h; rcases h with rfl | rfl <;> rfl)) (fun f cdv A outer s H E hr => dv_alone B C  f cdv A outer s H E hr) (r_alone)
abbrev s_pull_at : Stmt := top 13
abbrev n_pull_at : List Str := ["pulls", "height", "bends", "rate", "ahead", "here", "there", "part", "found", "row"]
theorem sc_pull_at : FnScope n_pull_at ["pulls", "height"] (defScope s_pull_at) := ⟨rfl, rfl, rfl, by decide +kernel, rfl, by decide +kernel, by decide +kernel⟩
theorem dv_pull_at {k : Nat} (B : Blt mg) (C : Cst K mg) {T_plus : TJ} {k_plus : Nat} {ps_plus : List Str} (F_plus : FnJ P w K mg base k_plus "plus" ps_plus T_plus) (e_plus : k_plus ≤ k) {T_times : TJ} {k_times : Nat} {ps_times : List Str} (F_times : FnJ P w K mg base k_times "times" ps_times T_times) (e_times : k_times ≤ k) {T_minus : TJ} {k_minus : Nat} {ps_minus : List Str} (F_minus : FnJ P w K mg base k_minus "minus" ps_minus T_minus) (e_minus : k_minus ≤ k) {T_shared : TJ} {k_shared : Nat} {ps_shared : List Str} (F_shared : FnJ P w K mg base k_shared "shared" ps_shared T_shared) (e_shared : k_shared ≤ k) {T_is_less : TJ} {k_is_less : Nat} {ps_is_less : List Str} (F_is_less : FnJ P w K mg base k_is_less "is_less" ps_is_less T_is_less) (e_is_less : k_is_less ≤ k)
    (f : Addr) (cdv : Value) (A : Around) (outer : List Env) (s : Shared) (H : Hp) (E : XK) (hr : Room k (A.deeper (envOfC "pull_at" (defScope s_pull_at) s.heap.objs.size f cdv))) :
    JSs (cxOf CX0 P w K mg base n_pull_at "pull_at" (defScope s_pull_at) f cdv A outer s H E).nox E (defBody s_pull_at) (j_pull_at T_plus T_times T_minus T_shared T_is_less) := by
  have hr_plus := hr.mono e_plus
  have hr_times := hr.mono e_times
  have hr_minus := hr.mono e_minus
  have hr_shared := hr.mono e_shared
  have hr_is_less := hr.mono e_is_less
  have hu1 := hu_of hr
  have hu64 := hr.units
  have hu65 := units65 hr
  have nd := sc_pull_at.nd
  have po := @PassesOwn.never
  exact jss_cons (js_asg (je_var 0) (jg_tup rfl (jgs_cons (jg_name (i := 2) nd rfl (.inl rfl)) (jgs_cons (jg_name (i := 3) nd rfl (.inl rfl)) (jgs_nil)))))
    (jss_cons (js_setLc (i := 4) (own := [("row", 9)]) rfl nd rfl rfl (sw_true rfl rfl rfl (by decide +kernel)) (ji_list (je_var 2)) (blkOk_by (N := n_pull_at) (sc := defScope s_pull_at) (own := [("row", 9)]) (by decide +kernel)) (fun _ _ _ _ _ => jgw_name (i := 9) nd rfl (.inl rfl) (by decide)) (fun _ _ _ _ _ => jts_one (jt_not (jt_val (je_callJ F_is_less hr_is_less (ja_cons (je_var 1) (ja_cons (je_ix (je_var 9) (je_int)) (ja_nil))))))) (fun _ _ _ _ _ => je_var 9))
    (jss_cons (js_set (i := 5) nd rfl (.inl rfl) (je_ix (je_var 4) (je_un uj_neg (je_int))))
    (jss_cons (js_if (jt_cmp (oj_eq hu64) (je_ix (je_var 5) (je_int)) (je_var 1)) (jss_one (js_ret (je_tup (ja_cons (je_ix (je_var 5) (je_int)) (ja_cons (je_ix (je_var 5) (je_int)) (ja_nil)))))) (jss_nil))
    (jss_cons (js_if (jt_cmp (oj_eq hu64) (jb_len B (ja_cons (je_var 4) (ja_nil))) (jb_len B (ja_cons (je_var 2) (ja_nil)))) (jss_cons (js_set (i := 8) nd rfl (.inl rfl) (je_callJ F_plus hr_plus (ja_cons (je_ix (je_var 5) (je_int)) (ja_cons (je_callJ F_times hr_times (ja_cons (je_var 3) (ja_cons (je_callJ F_minus hr_minus (ja_cons (je_var 1) (ja_cons (je_ix (je_var 5) (je_int)) (ja_nil)))) (ja_nil)))) (ja_nil)))))
    (jss_one (js_ret (je_tup (ja_cons (je_var 8) (ja_cons (je_var 8) (ja_nil))))))) (jss_nil))
    (jss_cons (js_set (i := 6) nd rfl (.inl rfl) (je_ix (je_var 2) (jb_len B (ja_cons (je_var 4) (ja_nil)))))
    (jss_cons (js_set (i := 7) nd rfl (.inl rfl) (je_callJ F_shared hr_shared (ja_cons (je_callJ F_minus hr_minus (ja_cons (je_var 1) (ja_cons (je_ix (je_var 5) (je_int)) (ja_nil)))) (ja_cons (je_callJ F_minus hr_minus (ja_cons (je_ix (je_var 6) (je_int)) (ja_cons (je_ix (je_var 5) (je_int)) (ja_nil)))) (ja_nil)))))
    (jss_cons (js_set (i := 8) nd rfl (.inl rfl) (je_callJ F_plus hr_plus (ja_cons (je_ix (je_var 5) (je_int)) (ja_cons (je_callJ F_times hr_times (ja_cons (je_var 7) (ja_cons (je_callJ F_minus hr_minus (ja_cons (je_ix (je_var 6) (je_int)) (ja_cons (je_ix (je_var 5) (je_int)) (ja_nil)))) (ja_nil)))) (ja_nil)))))
    (jss_one (js_ret (je_tup (ja_cons (je_var 8) (ja_cons (je_var 8) (ja_nil)))))))))))))
theorem fn_pull_at (B : Blt mg) (C : Cst K mg) (D : Defs K mg) : FnJ P w K mg base 4 "pull_at" ["pulls", "height"] (T_pull_at) :=
  D.d_pull_at.fnj (k := 3) (T := T_pull_at) sc_pull_at (by
    intro xs M Φ Ψ h
    first
    | (obtain ⟨_, rfl, _⟩ := h; rfl)
    | (obtain ⟨_, _, rfl, _⟩ := h; rfl)
    | (obtain ⟨_, _, _, rfl, _⟩ := h; rfl)
    | (obtain ⟨_, _, _, _, rfl, _⟩ := h; rfl)
    | (obtain ⟨_, _, _, _, _, rfl, _⟩ := h; rfl)
    | (obtain ⟨_, _, _, _, _, _, rfl, _⟩ := h; rfl)
    | (obtain ⟨_, _, _, _, _, _, _, rfl, _⟩ := h; rfl)
    | (obtain ⟨_, h, _⟩ := h; rcases h with rfl | rfl <;> rfl)) (fun f cdv A outer s H E hr => dv_pull_at B C (fn_plus B C D) (by omega) (fn_times B C D) (by omega) (fn_minus B C D) (by omega) (fn_shared B C D) (by omega) (fn_is_less B C D) (by omega) f cdv A outer s H E hr) (r_pull_at)
abbrev s_nought_of : Stmt := top 14
abbrev n_nought_of : List Str := ["pulls", "bends", "rate", "k", "height", "below", "above", "ahead", "part"]
theorem sc_nought_of : FnScope n_nought_of ["pulls"] (defScope s_nought_of) := ⟨rfl, rfl, rfl, by decide +kernel, rfl, by decide +kernel, by decide +kernel⟩
theorem dv_nought_of {k : Nat} (B : Blt mg) (C : Cst K mg) {T_plus : TJ} {k_plus : Nat} {ps_plus : List Str} (F_plus : FnJ P w K mg base k_plus "plus" ps_plus T_plus) (e_plus : k_plus ≤ k) {T_shared : TJ} {k_shared : Nat} {ps_shared : List Str} (F_shared : FnJ P w K mg base k_shared "shared" ps_shared T_shared) (e_shared : k_shared ≤ k) {T_minus : TJ} {k_minus : Nat} {ps_minus : List Str} (F_minus : FnJ P w K mg base k_minus "minus" ps_minus T_minus) (e_minus : k_minus ≤ k) {T_is_less : TJ} {k_is_less : Nat} {ps_is_less : List Str} (F_is_less : FnJ P w K mg base k_is_less "is_less" ps_is_less T_is_less) (e_is_less : k_is_less ≤ k) {T_times : TJ} {k_times : Nat} {ps_times : List Str} (F_times : FnJ P w K mg base k_times "times" ps_times T_times) (e_times : k_times ≤ k)
    (f : Addr) (cdv : Value) (A : Around) (outer : List Env) (s : Shared) (H : Hp) (E : XK) (hr : Room k (A.deeper (envOfC "nought_of" (defScope s_nought_of) s.heap.objs.size f cdv))) :
    JSs (cxOf CX0 P w K mg base n_nought_of "nought_of" (defScope s_nought_of) f cdv A outer s H E).nox E (defBody s_nought_of) (j_nought_of T_plus T_shared T_minus T_is_less T_times) := by
  have hr_plus := hr.mono e_plus
  have hr_shared := hr.mono e_shared
  have hr_minus := hr.mono e_minus
  have hr_is_less := hr.mono e_is_less
  have hr_times := hr.mono e_times
  have hu1 := hu_of hr
  have hu64 := hr.units
  have hu65 := units65 hr
  have nd := sc_nought_of.nd
  have po := @PassesOwn.never
  exact jss_cons (js_asg (je_var 0) (jg_tup rfl (jgs_cons (jg_name (i := 1) nd rfl (.inl rfl)) (jgs_cons (jg_name (i := 2) nd rfl (.inl rfl)) (jgs_nil)))))
    (jss_cons (js_for po (ji_enum (by rfl) B.enum (ja_cons (je_var 1) (ja_nil))) (jg_tup rfl (jgs_cons (jg_name (i := 3) nd rfl (.inl rfl)) (jgs_cons (jg_tup rfl (jgs_cons (jg_name (i := 4) nd rfl (.inl rfl)) (jgs_cons (jg_name (i := 5) nd rfl (.inl rfl)) (jgs_cons (jg_name (i := 6) nd rfl (.inl rfl)) (jgs_nil))))) (jgs_nil)))) (jss_one (js_if (jt_not (jt_val (je_callJ F_is_less hr_is_less (ja_cons (je_var 6) (ja_cons (je_nought C) (ja_nil)))))) (jss_cons (js_if (jt_w (jw_or (jt_cmp (oj_isN) (je_var 5) (je_non)) (jw_or1 (jt_not (jt_val (je_callJ F_is_less hr_is_less (ja_cons (je_nought C) (ja_cons (je_var 5) (ja_nil))))))))) (jss_one (js_ret (je_var 4))) (jss_nil))
    (jss_cons (js_set (i := 7) nd rfl (.inl rfl) (je_ix (je_var 1) (je_op oj_sub (je_var 3) (je_int))))
    (jss_cons (js_set (i := 8) nd rfl (.inl rfl) (je_callJ F_shared hr_shared (ja_cons (je_callJ F_minus hr_minus (ja_cons (je_nought C) (ja_cons (je_ix (je_var 7) (je_int)) (ja_nil)))) (ja_cons (je_callJ F_minus hr_minus (ja_cons (je_var 5) (ja_cons (je_ix (je_var 7) (je_int)) (ja_nil)))) (ja_nil)))))
    (jss_one (js_ret (je_callJ F_plus hr_plus (ja_cons (je_ix (je_var 7) (je_int)) (ja_cons (je_callJ F_times hr_times (ja_cons (je_var 8) (ja_cons (je_callJ F_minus hr_minus (ja_cons (je_var 4) (ja_cons (je_ix (je_var 7) (je_int)) (ja_nil)))) (ja_nil)))) (ja_nil))))))))) (jss_nil))))
    (jss_one (js_ret (je_callJ F_plus hr_plus (ja_cons (je_ix (je_ix (je_var 1) (je_un uj_neg (je_int))) (je_int)) (ja_cons (je_callJ F_shared hr_shared (ja_cons (je_callJ F_minus hr_minus (ja_cons (je_nought C) (ja_cons (je_ix (je_ix (je_var 1) (je_un uj_neg (je_int))) (je_int)) (ja_nil)))) (ja_cons (je_var 2) (ja_nil)))) (ja_nil)))))))
theorem fn_nought_of (B : Blt mg) (C : Cst K mg) (D : Defs K mg) : FnJ P w K mg base 4 "nought_of" ["pulls"] (T_nought_of) :=
  D.d_nought_of.fnj (k := 3) (T := T_nought_of) sc_nought_of (by
    intro xs M Φ Ψ h
    first
    | (obtain ⟨_, rfl, _⟩ := h; rfl)
    | (obtain ⟨_, _, rfl, _⟩ := h; rfl)
    | (obtain ⟨_, _, _, rfl, _⟩ := h; rfl)
    | (obtain ⟨_, _, _, _, rfl, _⟩ := h; rfl)
    | (obtain ⟨_, _, _, _, _, rfl, _⟩ := h; rfl)
    | (obtain ⟨_, _, _, _, _, _, rfl, _⟩ := h; rfl)
    | (obtain ⟨_, _, _, _, _, _, _, rfl, _⟩ := h; rfl)
    | (obtain ⟨_, h, _⟩ := h; rcases h with rfl | rfl <;> rfl)) (fun f cdv A outer s H E hr => dv_nought_of B C (fn_plus B C D) (by omega) (fn_shared B C D) (by omega) (fn_minus B C D) (by omega) (fn_is_less B C D) (by omega) (fn_times B C D) (by omega) f cdv A outer s H E hr) (r_nought_of)
abbrev s_in_order : Stmt := top 15
abbrev n_in_order : List Str := ["some", "found", "one", "other"]
theorem sc_in_order : FnScope n_in_order ["some"] (defScope s_in_order) := ⟨rfl, rfl, rfl, by decide +kernel, rfl, by decide +kernel, by decide +kernel⟩
theorem dv_in_order {k : Nat} (B : Blt mg) (C : Cst K mg) {T_is_less : TJ} {k_is_less : Nat} {ps_is_less : List Str} (F_is_less : FnJ P w K mg base k_is_less "is_less" ps_is_less T_is_less) (e_is_less : k_is_less ≤ k)
    (f : Addr) (cdv : Value) (A : Around) (outer : List Env) (s : Shared) (H : Hp) (E : XK) (hr : Room k (A.deeper (envOfC "in_order" (defScope s_in_order) s.heap.objs.size f cdv))) :
    JSs (cxOf CX0 P w K mg base n_in_order "in_order" (defScope s_in_order) f cdv A outer s H E).nox E (defBody s_in_order) (j_in_order T_is_less) := by
  have hr_is_less := hr.mono e_is_less
  have hu1 := hu_of hr
  have hu64 := hr.units
  have hu65 := units65 hr
  have nd := sc_in_order.nd
  have po := @PassesOwn.never
  exact jss_cons (js_set (i := 1) nd rfl (.inl rfl) (je_lstC (ja_nil)))
    (jss_cons (js_for po (ji_list (je_var 0)) (jg_name (i := 2) nd rfl (.inr rfl)) (jss_one (js_if (jt_cmp (oj_notIn hu65) (je_var 2) (je_var 1)) (jss_one (js_expr (je_lm PySem.F.slot_list_insert PySem.F.type_list_insert mj_insert (je_var 1) (ja_cons (jb_len B (ja_cons (je_lc (own := [("other", 3)]) rfl nd (ji_list (je_var 1)) (blkOk_by (N := n_in_order) (sc := defScope s_in_order) (own := [("other", 3)]) (by decide +kernel)) (fun _ _ _ _ _ => jgw_name (i := 3) nd rfl (.inl rfl) (by decide)) (fun _ _ _ _ _ => jts_one (jt_val (je_callJ F_is_less hr_is_less (ja_cons (je_var 3) (ja_cons (je_var 2) (ja_nil)))))) (fun _ _ _ _ _ => je_var 3)) (ja_nil))) (ja_cons (je_var 2) (ja_nil)))))) (jss_nil))))
    (jss_one (js_ret (je_fz (je_var 1)))))
theorem fn_in_order (B : Blt mg) (C : Cst K mg) (D : Defs K mg) : FnJ P w K mg base 2 "in_order" ["some"] (T_in_order) :=
  D.d_in_order.fnj (k := 1) (T := T_in_order) sc_in_order (by
    intro xs M Φ Ψ h
    first
    | (obtain ⟨_, rfl, _⟩ := h; rfl)
    | (obtain ⟨_, _, rfl, _⟩ := h; rfl)
    | (obtain ⟨_, _, _, rfl, _⟩ := h; rfl)
    | (obtain ⟨_, _, _, _, rfl, _⟩ := h; rfl)
    | (obtain ⟨_, _, _, _, _, rfl, _⟩ := h; rfl)
    | (obtain ⟨_, _, _, _, _, _, rfl, _⟩ := h; rfl)
    | (obtain ⟨_, _, _, _, _, _, _, rfl, _⟩ := h; rfl)
    | (obtain ⟨_, h, _⟩ := h; rcases h with rfl | rfl <;> rfl)) (fun f cdv A outer s H E hr => dv_in_order B C (fn_is_less B C D) (by omega) f cdv A outer s H E hr) (r_in_order)
abbrev s_both : Stmt := top 16
abbrev n_both : List Str := ["one", "other", "spots", "found", "height", "first", "second", "below", "row"]
theorem sc_both : FnScope n_both ["one", "other"] (defScope s_both) := ⟨rfl, rfl, rfl, by decide +kernel, rfl, by decide +kernel, by decide +kernel⟩
theorem dv_both {k : Nat} (B : Blt mg) (C : Cst K mg) {T_plus : TJ} {k_plus : Nat} {ps_plus : List Str} (F_plus : FnJ P w K mg base k_plus "plus" ps_plus T_plus) (e_plus : k_plus ≤ k) {T_pull_at : TJ} {k_pull_at : Nat} {ps_pull_at : List Str} (F_pull_at : FnJ P w K mg base k_pull_at "pull_at" ps_pull_at T_pull_at) (e_pull_at : k_pull_at ≤ k) {T_in_order : TJ} {k_in_order : Nat} {ps_in_order : List Str} (F_in_order : FnJ P w K mg base k_in_order "in_order" ps_in_order T_in_order) (e_in_order : k_in_order ≤ k)
    (f : Addr) (cdv : Value) (A : Around) (outer : List Env) (s : Shared) (H : Hp) (E : XK) (hr : Room k (A.deeper (envOfC "both" (defScope s_both) s.heap.objs.size f cdv))) :
    JSs (cxOf CX0 P w K mg base n_both "both" (defScope s_both) f cdv A outer s H E).nox E (defBody s_both) (j_both T_plus T_pull_at T_in_order) := by
  have hr_plus := hr.mono e_plus
  have hr_pull_at := hr.mono e_pull_at
  have hr_in_order := hr.mono e_in_order
  have hu1 := hu_of hr
  have hu64 := hr.units
  have hu65 := units65 hr
  have nd := sc_both.nd
  have po := @PassesOwn.never
  exact jss_cons (js_set (i := 2) nd rfl (.inl rfl) (je_callJ F_in_order hr_in_order (ja_cons (je_op oj_cat (je_lc (own := [("row", 8)]) rfl nd (ji_list (je_ix (je_var 0) (je_int))) (blkOk_by (N := n_both) (sc := defScope s_both) (own := [("row", 8)]) (by decide +kernel)) (fun _ _ _ _ _ => jgw_name (i := 8) nd rfl (.inl rfl) (by decide)) (fun _ _ _ _ _ => jts_nil) (fun _ _ _ _ _ => je_ix (je_var 8) (je_int))) (je_lc (own := [("row", 8)]) rfl nd (ji_list (je_ix (je_var 1) (je_int))) (blkOk_by (N := n_both) (sc := defScope s_both) (own := [("row", 8)]) (by decide +kernel)) (fun _ _ _ _ _ => jgw_name (i := 8) nd rfl (.inl rfl) (by decide)) (fun _ _ _ _ _ => jts_nil) (fun _ _ _ _ _ => je_ix (je_var 8) (je_int)))) (ja_nil))))
    (jss_cons (js_set (i := 3) nd rfl (.inl rfl) (je_lstC (ja_nil)))
    (jss_cons (js_for po (ji_list (je_var 2)) (jg_name (i := 4) nd rfl (.inl rfl)) (jss_cons (js_par (i := 5) (j := 6) rfl nd rfl rfl (by decide) rfl rfl (ja_cons (je_callJ F_pull_at hr_pull_at (ja_cons (je_var 0) (ja_cons (je_var 4) (ja_nil)))) (ja_cons (je_callJ F_pull_at hr_pull_at (ja_cons (je_var 1) (ja_cons (je_var 4) (ja_nil)))) (ja_nil))) (by rfl))
    (jss_cons (js_set (i := 7) nd rfl (.inl rfl) (je_if (jt_w (jw_or (jt_cmp (oj_isN) (je_ix (je_var 5) (je_int)) (je_non)) (jw_or1 (jt_cmp (oj_isN) (je_ix (je_var 6) (je_int)) (je_non))))) (je_non) (je_callJ F_plus hr_plus (ja_cons (je_ix (je_var 5) (je_int)) (ja_cons (je_ix (je_var 6) (je_int)) (ja_nil))))))
    (jss_one (js_expr (je_lm PySem.F.slot_list_append PySem.F.type_list_append mj_append (je_var 3) (ja_cons (je_tup (ja_cons (je_var 4) (ja_cons (je_var 7) (ja_cons (je_callJ F_plus hr_plus (ja_cons (je_ix (je_var 5) (je_int)) (ja_cons (je_ix (je_var 6) (je_int)) (ja_nil)))) (ja_nil))))) (ja_nil))))))))
    (jss_one (js_ret (je_tup (ja_cons (je_var 3) (ja_cons (je_callJ F_plus hr_plus (ja_cons (je_ix (je_var 0) (je_int)) (ja_cons (je_ix (je_var 1) (je_int)) (ja_nil)))) (ja_nil))))))))
theorem fn_both (B : Blt mg) (C : Cst K mg) (D : Defs K mg) : FnJ P w K mg base 5 "both" ["one", "other"] (T_both) :=
  D.d_both.fnj (k := 4) (T := T_both) sc_both (by
    intro xs M Φ Ψ h
    first
    | (obtain ⟨_, rfl, _⟩ := h; rfl)
    | (obtain ⟨_, _, rfl, _⟩ := h; rfl)
    | (obtain ⟨_, _, _, rfl, _⟩ := h; rfl)
    | (obtain ⟨_, _, _, _, rfl, _⟩ := h; rfl)
    | (obtain ⟨_, _, _, _, _, rfl, _⟩ := h; rfl)
    | (obtain ⟨_, _, _, _, _, _, rfl, _⟩ := h; rfl)
    | (obtain ⟨_, _, _, _, _, _, _, rfl, _⟩ := h; rfl)
    | (obtain ⟨_, h, _⟩ := h; rcases h with rfl | rfl <;> rfl)) (fun f cdv A outer s H E hr => dv_both B C (fn_plus B C D) (by omega) (fn_pull_at B C D) (by omega) (fn_in_order B C D) (by omega) f cdv A outer s H E hr) (r_both)
abbrev s_felt : Stmt := top 18
abbrev n_felt : List Str := ["pulls", "height", "still", "far", "low", "high", "ends"]
theorem sc_felt : FnScope n_felt ["pulls", "height", "still", "far"] (defScope s_felt) := ⟨rfl, rfl, rfl, by decide +kernel, rfl, by decide +kernel, by decide +kernel⟩
theorem dv_felt {k : Nat} (B : Blt mg) (C : Cst K mg) {T_pull_at : TJ} {k_pull_at : Nat} {ps_pull_at : List Str} (F_pull_at : FnJ P w K mg base k_pull_at "pull_at" ps_pull_at T_pull_at) (e_pull_at : k_pull_at ≤ k) {T_is_less : TJ} {k_is_less : Nat} {ps_is_less : List Str} (F_is_less : FnJ P w K mg base k_is_less "is_less" ps_is_less T_is_less) (e_is_less : k_is_less ≤ k) {T_minus : TJ} {k_minus : Nat} {ps_minus : List Str} (F_minus : FnJ P w K mg base k_minus "minus" ps_minus T_minus) (e_minus : k_minus ≤ k) {T_plus : TJ} {k_plus : Nat} {ps_plus : List Str} (F_plus : FnJ P w K mg base k_plus "plus" ps_plus T_plus) (e_plus : k_plus ≤ k)
    (f : Addr) (cdv : Value) (A : Around) (outer : List Env) (s : Shared) (H : Hp) (E : XK) (hr : Room k (A.deeper (envOfC "felt" (defScope s_felt) s.heap.objs.size f cdv))) :
    JSs (cxOf CX0 P w K mg base n_felt "felt" (defScope s_felt) f cdv A outer s H E).nox E (defBody s_felt) (j_felt T_pull_at T_is_less T_minus T_plus) := by
  have hr_pull_at := hr.mono e_pull_at
  have hr_is_less := hr.mono e_is_less
  have hr_minus := hr.mono e_minus
  have hr_plus := hr.mono e_plus
  have hu1 := hu_of hr
  have hu64 := hr.units
  have hu65 := units65 hr
  have nd := sc_felt.nd
  have po := @PassesOwn.never
  exact jss_cons (js_par (i := 4) (j := 5) rfl nd rfl rfl (by decide) rfl rfl (ja_cons (je_callJ F_minus hr_minus (ja_cons (je_var 2) (ja_cons (je_var 3) (ja_nil)))) (ja_cons (je_callJ F_plus hr_plus (ja_cons (je_var 2) (ja_cons (je_var 3) (ja_nil)))) (ja_nil))) (by rfl))
    (jss_cons (js_if (jt_val (je_callJ F_is_less hr_is_less (ja_cons (je_var 1) (ja_cons (je_var 4) (ja_nil))))) (jss_one (js_ret (je_callJ F_pull_at hr_pull_at (ja_cons (je_var 0) (ja_cons (je_callJ F_plus hr_plus (ja_cons (je_var 1) (ja_cons (je_var 3) (ja_nil)))) (ja_nil)))))) (jss_nil))
    (jss_cons (js_if (jt_val (je_callJ F_is_less hr_is_less (ja_cons (je_var 5) (ja_cons (je_var 1) (ja_nil))))) (jss_one (js_ret (je_callJ F_pull_at hr_pull_at (ja_cons (je_var 0) (ja_cons (je_callJ F_minus hr_minus (ja_cons (je_var 1) (ja_cons (je_var 3) (ja_nil)))) (ja_nil)))))) (jss_nil))
    (jss_cons (js_set (i := 6) nd rfl (.inl rfl) (je_callJ F_pull_at hr_pull_at (ja_cons (je_var 0) (ja_cons (je_var 2) (ja_nil)))))
    (jss_one (js_ret (je_tup (ja_cons (je_if (jt_cmp (oj_eq hu64) (je_var 1) (je_var 4)) (je_ix (je_var 6) (je_int)) (je_nought C)) (ja_cons (je_if (jt_cmp (oj_eq hu64) (je_var 1) (je_var 5)) (je_ix (je_var 6) (je_int)) (je_nought C)) (ja_nil)))))))))
theorem fn_felt (B : Blt mg) (C : Cst K mg) (D : Defs K mg) : FnJ P w K mg base 5 "felt" ["pulls", "height", "still", "far"] (T_felt) :=
  D.d_felt.fnj (k := 4) (T := T_felt) sc_felt (by
    intro xs M Φ Ψ h
    first
    | (obtain ⟨_, rfl, _⟩ := h; rfl)
    | (obtain ⟨_, _, rfl, _⟩ := h; rfl)
    | (obtain ⟨_, _, _, rfl, _⟩ := h; rfl)
    | (obtain ⟨_, _, _, _, rfl, _⟩ := h; rfl)
    | (obtain ⟨_, _, _, _, _, rfl, _⟩ := h; rfl)
    | (obtain ⟨_, _, _, _, _, _, rfl, _⟩ := h; rfl)
    | (obtain ⟨_, _, _, _, _, _, _, rfl, _⟩ := h; rfl)
    | (obtain ⟨_, h, _⟩ := h; rcases h with rfl | rfl <;> rfl)) (fun f cdv A outer s H E hr => dv_felt B C (fn_pull_at B C D) (by omega) (fn_is_less B C D) (by omega) (fn_minus B C D) (by omega) (fn_plus B C D) (by omega) f cdv A outer s H E hr) (r_felt)
abbrev s_by_cord : Stmt := top 17
abbrev n_by_cord : List Str := ["pulls", "long", "still", "far", "low", "high", "spots", "row", "found", "height", "below", "above", "spot"]
theorem sc_by_cord : FnScope n_by_cord ["pulls", "long"] (defScope s_by_cord) := ⟨rfl, rfl, rfl, by decide +kernel, rfl, by decide +kernel, by decide +kernel⟩
theorem dv_by_cord {k : Nat} (B : Blt mg) (C : Cst K mg) {T_in_order : TJ} {k_in_order : Nat} {ps_in_order : List Str} (F_in_order : FnJ P w K mg base k_in_order "in_order" ps_in_order T_in_order) (e_in_order : k_in_order ≤ k) {T_felt : TJ} {k_felt : Nat} {ps_felt : List Str} (F_felt : FnJ P w K mg base k_felt "felt" ps_felt T_felt) (e_felt : k_felt ≤ k) {T_is_less : TJ} {k_is_less : Nat} {ps_is_less : List Str} (F_is_less : FnJ P w K mg base k_is_less "is_less" ps_is_less T_is_less) (e_is_less : k_is_less ≤ k) {T_minus : TJ} {k_minus : Nat} {ps_minus : List Str} (F_minus : FnJ P w K mg base k_minus "minus" ps_minus T_minus) (e_minus : k_minus ≤ k) {T_plus : TJ} {k_plus : Nat} {ps_plus : List Str} (F_plus : FnJ P w K mg base k_plus "plus" ps_plus T_plus) (e_plus : k_plus ≤ k) {T_nought_of : TJ} {k_nought_of : Nat} {ps_nought_of : List Str} (F_nought_of : FnJ P w K mg base k_nought_of "nought_of" ps_nought_of T_nought_of) (e_nought_of : k_nought_of ≤ k)
    (f : Addr) (cdv : Value) (A : Around) (outer : List Env) (s : Shared) (H : Hp) (E : XK) (hr : Room k (A.deeper (envOfC "by_cord" (defScope s_by_cord) s.heap.objs.size f cdv))) :
    JSs (cxOf CX0 P w K mg base n_by_cord "by_cord" (defScope s_by_cord) f cdv A outer s H E).nox E (defBody s_by_cord) (j_by_cord T_in_order T_felt T_is_less T_minus T_plus T_nought_of) := by
  have hr_in_order := hr.mono e_in_order
  have hr_felt := hr.mono e_felt
  have hr_is_less := hr.mono e_is_less
  have hr_minus := hr.mono e_minus
  have hr_plus := hr.mono e_plus
  have hr_nought_of := hr.mono e_nought_of
  have hu1 := hu_of hr
  have hu64 := hr.units
  have hu65 := units65 hr
  have nd := sc_by_cord.nd
  have po := @PassesOwn.never
  exact jss_cons (js_par (i := 2) (j := 3) rfl nd rfl rfl (by decide) rfl rfl (ja_cons (je_callJ F_nought_of hr_nought_of (ja_cons (je_var 0) (ja_nil))) (ja_cons (je_tup (ja_cons (je_var 1) (ja_cons (je_int) (ja_nil)))) (ja_nil))) (by rfl))
    (jss_cons (js_par (i := 4) (j := 5) rfl nd rfl rfl (by decide) rfl rfl (ja_cons (je_callJ F_minus hr_minus (ja_cons (je_var 2) (ja_cons (je_var 3) (ja_nil)))) (ja_cons (je_callJ F_plus hr_plus (ja_cons (je_var 2) (ja_cons (je_var 3) (ja_nil)))) (ja_nil))) (by rfl))
    (jss_cons (js_set (i := 6) nd rfl (.inl rfl) (je_lstC (ja_cons (je_nought C) (ja_cons (je_var 4) (ja_cons (je_var 5) (ja_nil))))))
    (jss_cons (js_for po (ji_list (je_ix (je_var 0) (je_int))) (jg_name (i := 7) nd rfl (.inl rfl)) (jss_one (js_expr (je_lm PySem.F.slot_list_append PySem.F.type_list_append mj_append (je_var 6) (ja_cons (je_if (jt_val (je_callJ F_is_less hr_is_less (ja_cons (je_ix (je_var 7) (je_int)) (ja_cons (je_var 2) (ja_nil))))) (je_callJ F_minus hr_minus (ja_cons (je_ix (je_var 7) (je_int)) (ja_cons (je_var 3) (ja_nil)))) (je_callJ F_plus hr_plus (ja_cons (je_ix (je_var 7) (je_int)) (ja_cons (je_var 3) (ja_nil))))) (ja_nil))))))
    (jss_cons (js_fz 6 (js_set (i := 8) nd rfl (.inl rfl) (je_lstC (ja_nil))))
    (jss_cons (js_for po (ji_list (je_callJ F_in_order hr_in_order (ja_cons (je_lc (own := [("spot", 12)]) rfl nd (ji_list (je_var 6)) (blkOk_by (N := n_by_cord) (sc := defScope s_by_cord) (own := [("spot", 12)]) (by decide +kernel)) (fun _ _ _ _ _ => jgw_name (i := 12) nd rfl (.inl rfl) (by decide)) (fun _ _ _ _ _ => jts_one (jt_cmp (oj_ge) (je_ix (je_var 12) (je_int)) (je_int))) (fun _ _ _ _ _ => je_var 12)) (ja_nil)))) (jg_name (i := 9) nd rfl (.inl rfl)) (jss_cons (js_asg (je_callJ F_felt hr_felt (ja_cons (je_var 0) (ja_cons (je_var 9) (ja_cons (je_var 2) (ja_cons (je_var 3) (ja_nil)))))) (jg_tup rfl (jgs_cons (jg_name (i := 10) nd rfl (.inl rfl)) (jgs_cons (jg_name (i := 11) nd rfl (.inl rfl)) (jgs_nil)))))
    (jss_one (js_expr (je_lm PySem.F.slot_list_append PySem.F.type_list_append mj_append (je_var 8) (ja_cons (je_tup (ja_cons (je_var 9) (ja_cons (je_if (jt_cmp (oj_eq hu64) (je_var 9) (je_nought C)) (je_non) (je_var 10)) (ja_cons (je_var 11) (ja_nil))))) (ja_nil)))))))
    (jss_one (js_ret (je_tup (ja_cons (je_var 8) (ja_cons (je_ix (je_var 0) (je_int)) (ja_nil)))))))))))
theorem fn_by_cord (B : Blt mg) (C : Cst K mg) (D : Defs K mg) : FnJ P w K mg base 6 "by_cord" ["pulls", "long"] (T_by_cord) :=
  D.d_by_cord.fnj (k := 5) (T := T_by_cord) sc_by_cord (by
    intro xs M Φ Ψ h
    first
    | (obtain ⟨_, rfl, _⟩ := h; rfl)
    | (obtain ⟨_, _, rfl, _⟩ := h; rfl)
    | (obtain ⟨_, _, _, rfl, _⟩ := h; rfl)
    | (obtain ⟨_, _, _, _, rfl, _⟩ := h; rfl)
    | (obtain ⟨_, _, _, _, _, rfl, _⟩ := h; rfl)
    | (obtain ⟨_, _, _, _, _, _, rfl, _⟩ := h; rfl)
    | (obtain ⟨_, _, _, _, _, _, _, rfl, _⟩ := h; rfl)
    | (obtain ⟨_, h, _⟩ := h; rcases h with rfl | rfl <;> rfl)) (fun f cdv A outer s H E hr => dv_by_cord B C (fn_in_order B C D) (by omega) (fn_felt B C D) (by omega) (fn_is_less B C D) (by omega) (fn_minus B C D) (by omega) (fn_plus B C D) (by omega) (fn_nought_of B C D) (by omega) f cdv A outer s H E hr) (r_by_cord)
abbrev s_is_name : Stmt := top 30
abbrev n_is_name : List Str := ["thing", "sign"]
theorem sc_is_name : FnScope n_is_name ["thing"] (defScope s_is_name) := ⟨rfl, rfl, rfl, by decide +kernel, rfl, by decide +kernel, by decide +kernel⟩
theorem dv_is_name {k : Nat} (B : Blt mg) (C : Cst K mg) 
    (f : Addr) (cdv : Value) (A : Around) (outer : List Env) (s : Shared) (H : Hp) (E : XK) (hr : Room k (A.deeper (envOfC "is_name" (defScope s_is_name) s.heap.objs.size f cdv))) :
    JSs (cxOf CX0 P w K mg base n_is_name "is_name" (defScope s_is_name) f cdv A outer s H E).nox E (defBody s_is_name) (j_is_name ) := by
  have hu1 := hu_of hr
  have hu64 := hr.units
  have hu65 := units65 hr
  have nd := sc_is_name.nd
  have po := @PassesOwn.never
  exact jss_one (js_ret (je_and (jb_isi "str" B (ja_cons (je_var 0) (ja_cons (je_tstr B) (ja_nil)))) (je_and (je_chain oj_le oj_le (je_int) (jb_lenS B (ja_cons (je_var 0) (ja_nil))) (je_int)) (je_one (jb_all B (ja_cons (je_lc (own := [("sign", 1)]) rfl nd (ji_str (je_var 0)) (blkOk_by (N := n_is_name) (sc := defScope s_is_name) (own := [("sign", 1)]) (by decide +kernel)) (fun _ _ _ _ _ => jgw_name (i := 1) nd rfl (.inl rfl) (by decide)) (fun _ _ _ _ _ => jts_nil) (fun _ _ _ _ _ => je_cmp (oj_inS) (je_var 1) (je_gstr (by rfl) C.letters))) (ja_nil)))))))
theorem fn_is_name (B : Blt mg) (C : Cst K mg) (D : Defs K mg) : FnJ P w K mg base 1 "is_name" ["thing"] (T_is_name) :=
  D.d_is_name.fnj (k := 0) (T := T_is_name) sc_is_name (by
    intro xs M Φ Ψ h
    first
    | (obtain ⟨_, rfl, _⟩ := h; rfl)
    | (obtain ⟨_, _, rfl, _⟩ := h; rfl)
    | (obtain ⟨_, _, _, rfl, _⟩ := h; rfl)
    | (obtain ⟨_, _, _, _, rfl, _⟩ := h; rfl)
    | (obtain ⟨_, _, _, _, _, rfl, _⟩ := h; rfl)
    | (obtain ⟨_, _, _, _, _, _, rfl, _⟩ := h; rfl)
    | (obtain ⟨_, _, _, _, _, _, _, rfl, _⟩ := h; rfl)
    | (obtain ⟨_, h, _⟩ := h; rcases h with rfl | rfl <;> rfl)) (fun f cdv A outer s H E hr => dv_is_name B C  f cdv A outer s H E hr) (r_is_name)
abbrev s_is_own : Stmt := top 31
abbrev n_is_own : List Str := ["thing"]
theorem sc_is_own : FnScope n_is_own ["thing"] (defScope s_is_own) := ⟨rfl, rfl, rfl, by decide +kernel, rfl, by decide +kernel, by decide +kernel⟩
theorem dv_is_own {k : Nat} (B : Blt mg) (C : Cst K mg) {T_is_whole : TJ} {k_is_whole : Nat} {ps_is_whole : List Str} (F_is_whole : FnJ P w K mg base k_is_whole "is_whole" ps_is_whole T_is_whole) (e_is_whole : k_is_whole ≤ k)
    (f : Addr) (cdv : Value) (A : Around) (outer : List Env) (s : Shared) (H : Hp) (E : XK) (hr : Room k (A.deeper (envOfC "is_own" (defScope s_is_own) s.heap.objs.size f cdv))) :
    JSs (cxOf CX0 P w K mg base n_is_own "is_own" (defScope s_is_own) f cdv A outer s H E).nox E (defBody s_is_own) (j_is_own T_is_whole) := by
  have hr_is_whole := hr.mono e_is_whole
  have hu1 := hu_of hr
  have hu64 := hr.units
  have hu65 := units65 hr
  have nd := sc_is_own.nd
  have po := @PassesOwn.never
  exact jss_one (js_ret (je_callJ F_is_whole hr_is_whole (ja_cons (je_var 0) (ja_cons (je_un uj_neg (je_gint (by rfl) C.own)) (ja_cons (je_gint (by rfl) C.own) (ja_nil))))))
theorem fn_is_own (B : Blt mg) (C : Cst K mg) (D : Defs K mg) : FnJ P w K mg base 2 "is_own" ["thing"] (T_is_own) :=
  D.d_is_own.fnj (k := 1) (T := T_is_own) sc_is_own (by
    intro xs M Φ Ψ h
    first
    | (obtain ⟨_, rfl, _⟩ := h; rfl)
    | (obtain ⟨_, _, rfl, _⟩ := h; rfl)
    | (obtain ⟨_, _, _, rfl, _⟩ := h; rfl)
    | (obtain ⟨_, _, _, _, rfl, _⟩ := h; rfl)
    | (obtain ⟨_, _, _, _, _, rfl, _⟩ := h; rfl)
    | (obtain ⟨_, _, _, _, _, _, rfl, _⟩ := h; rfl)
    | (obtain ⟨_, _, _, _, _, _, _, rfl, _⟩ := h; rfl)
    | (obtain ⟨_, h, _⟩ := h; rcases h with rfl | rfl <;> rfl)) (fun f cdv A outer s H E hr => dv_is_own B C (fn_is_whole B C D) (by omega) f cdv A outer s H E hr) (r_is_own)
abbrev s_is_balloon : Stmt := top 32
abbrev n_is_balloon : List Str := ["thing"]
theorem sc_is_balloon : FnScope n_is_balloon ["thing"] (defScope s_is_balloon) := ⟨rfl, rfl, rfl, by decide +kernel, rfl, by decide +kernel, by decide +kernel⟩
theorem dv_is_balloon {k : Nat} (B : Blt mg) (C : Cst K mg) {T_is_own : TJ} {k_is_own : Nat} {ps_is_own : List Str} (F_is_own : FnJ P w K mg base k_is_own "is_own" ps_is_own T_is_own) (e_is_own : k_is_own ≤ k) {T_is_whole : TJ} {k_is_whole : Nat} {ps_is_whole : List Str} (F_is_whole : FnJ P w K mg base k_is_whole "is_whole" ps_is_whole T_is_whole) (e_is_whole : k_is_whole ≤ k) {T_is_name : TJ} {k_is_name : Nat} {ps_is_name : List Str} (F_is_name : FnJ P w K mg base k_is_name "is_name" ps_is_name T_is_name) (e_is_name : k_is_name ≤ k)
    (f : Addr) (cdv : Value) (A : Around) (outer : List Env) (s : Shared) (H : Hp) (E : XK) (hr : Room k (A.deeper (envOfC "is_balloon" (defScope s_is_balloon) s.heap.objs.size f cdv))) :
    JSs (cxOf CX0 P w K mg base n_is_balloon "is_balloon" (defScope s_is_balloon) f cdv A outer s H E).nox E (defBody s_is_balloon) (j_is_balloon T_is_own T_is_whole T_is_name) := by
  have hr_is_own := hr.mono e_is_own
  have hr_is_whole := hr.mono e_is_whole
  have hr_is_name := hr.mono e_is_name
  have hu1 := hu_of hr
  have hu64 := hr.units
  have hu65 := units65 hr
  have nd := sc_is_balloon.nd
  have po := @PassesOwn.never
  exact jss_cons (js_if (jt_w (jw_or (jt_not (jt_val (jb_isi "tuple" B (ja_cons (je_var 0) (ja_cons (je_ttuple B) (ja_nil)))))) (jw_or (jt_cmp (oj_ne hu64) (jb_len B (ja_cons (je_var 0) (ja_nil))) (je_int)) (jw_or1 (jt_not (jt_val (je_callJ F_is_name hr_is_name (ja_cons (je_ix (je_var 0) (je_int)) (ja_nil))))))))) (jss_one (js_ret (je_bl))) (jss_nil))
    (jss_one (js_ret (je_and (je_callJ F_is_own hr_is_own (ja_cons (je_ix (je_var 0) (je_int)) (ja_nil))) (je_one (je_callJ F_is_whole hr_is_whole (ja_cons (je_ix (je_var 0) (je_int)) (ja_cons (je_int) (ja_cons (je_gint (by rfl) C.strong) (ja_nil)))))))))
theorem fn_is_balloon (B : Blt mg) (C : Cst K mg) (D : Defs K mg) : FnJ P w K mg base 3 "is_balloon" ["thing"] (T_is_balloon) :=
  D.d_is_balloon.fnj (k := 2) (T := T_is_balloon) sc_is_balloon (by
    intro xs M Φ Ψ h
    first
    | (obtain ⟨_, rfl, _⟩ := h; rfl)
    | (obtain ⟨_, _, rfl, _⟩ := h; rfl)
    | (obtain ⟨_, _, _, rfl, _⟩ := h; rfl)
    | (obtain ⟨_, _, _, _, rfl, _⟩ := h; rfl)
    | (obtain ⟨_, _, _, _, _, rfl, _⟩ := h; rfl)
    | (obtain ⟨_, _, _, _, _, _, rfl, _⟩ := h; rfl)
    | (obtain ⟨_, _, _, _, _, _, _, rfl, _⟩ := h; rfl)
    | (obtain ⟨_, h, _⟩ := h; rcases h with rfl | rfl <;> rfl)) (fun f cdv A outer s H E hr => dv_is_balloon B C (fn_is_own B C D) (by omega) (fn_is_whole B C D) (by omega) (fn_is_name B C D) (by omega) f cdv A outer s H E hr) (r_is_balloon)
abbrev s_is_cord : Stmt := top 33
abbrev n_is_cord : List Str := ["names", "thing", "name"]
theorem sc_is_cord : FnScope n_is_cord ["names", "thing"] (defScope s_is_cord) := ⟨rfl, rfl, rfl, by decide +kernel, rfl, by decide +kernel, by decide +kernel⟩
theorem dv_is_cord {k : Nat} (B : Blt mg) (C : Cst K mg) {T_is_whole : TJ} {k_is_whole : Nat} {ps_is_whole : List Str} (F_is_whole : FnJ P w K mg base k_is_whole "is_whole" ps_is_whole T_is_whole) (e_is_whole : k_is_whole ≤ k)
    (f : Addr) (cdv : Value) (A : Around) (outer : List Env) (s : Shared) (H : Hp) (E : XK) (hr : Room k (A.deeper (envOfC "is_cord" (defScope s_is_cord) s.heap.objs.size f cdv))) :
    JSs (cxOf CX0 P w K mg base n_is_cord "is_cord" (defScope s_is_cord) f cdv A outer s H E).nox E (defBody s_is_cord) (j_is_cord T_is_whole) := by
  have hr_is_whole := hr.mono e_is_whole
  have hu1 := hu_of hr
  have hu64 := hr.units
  have hu65 := units65 hr
  have nd := sc_is_cord.nd
  have po := @PassesOwn.never
  exact jss_cons (js_if (jt_w (jw_or (jt_not (jt_val (jb_isi "tuple" B (ja_cons (je_var 1) (ja_cons (je_ttuple B) (ja_nil)))))) (jw_or (jt_cmp (oj_ne hu64) (jb_len B (ja_cons (je_var 1) (ja_nil))) (je_int)) (jw_or1 (jt_not (jt_val (jb_all B (ja_cons (je_lc (own := [("name", 2)]) rfl nd (ji_tup (je_slT (je_var 1) (jo_none) (jo_some (je_int)))) (blkOk_by (N := n_is_cord) (sc := defScope s_is_cord) (own := [("name", 2)]) (by decide +kernel)) (fun _ _ _ _ _ => jgw_name (i := 2) nd rfl (.inl rfl) (by decide)) (fun _ _ _ _ _ => jts_nil) (fun _ _ _ _ _ => jb_isi "str" B (ja_cons (je_var 2) (ja_cons (je_tstr B) (ja_nil))))) (ja_nil))))))))) (jss_one (js_ret (je_bl))) (jss_nil))
    (jss_one (js_ret (je_and (je_cmp (oj_in hu65) (je_ix (je_var 1) (je_int)) (je_var 0)) (je_and (je_cmp (oj_in hu65) (je_ix (je_var 1) (je_int)) (je_var 0)) (je_and (je_cmp (oj_ltS) (je_ix (je_var 1) (je_int)) (je_ix (je_var 1) (je_int))) (je_one (je_callJ F_is_whole hr_is_whole (ja_cons (je_ix (je_var 1) (je_int)) (ja_cons (je_int) (ja_cons (je_gint (by rfl) C.long) (ja_nil)))))))))))
theorem fn_is_cord (B : Blt mg) (C : Cst K mg) (D : Defs K mg) : FnJ P w K mg base 2 "is_cord" ["names", "thing"] (T_is_cord) :=
  D.d_is_cord.fnj (k := 1) (T := T_is_cord) sc_is_cord (by
    intro xs M Φ Ψ h
    first
    | (obtain ⟨_, rfl, _⟩ := h; rfl)
    | (obtain ⟨_, _, rfl, _⟩ := h; rfl)
    | (obtain ⟨_, _, _, rfl, _⟩ := h; rfl)
    | (obtain ⟨_, _, _, _, rfl, _⟩ := h; rfl)
    | (obtain ⟨_, _, _, _, _, rfl, _⟩ := h; rfl)
    | (obtain ⟨_, _, _, _, _, _, rfl, _⟩ := h; rfl)
    | (obtain ⟨_, _, _, _, _, _, _, rfl, _⟩ := h; rfl)
    | (obtain ⟨_, h, _⟩ := h; rcases h with rfl | rfl <;> rfl)) (fun f cdv A outer s H E hr => dv_is_cord B C (fn_is_whole B C D) (by omega) f cdv A outer s H E hr) (r_is_cord)
abbrev s_are_rising : Stmt := top 34
abbrev n_are_rising : List Str := ["some", "k"]
theorem sc_are_rising : FnScope n_are_rising ["some"] (defScope s_are_rising) := ⟨rfl, rfl, rfl, by decide +kernel, rfl, by decide +kernel, by decide +kernel⟩
theorem dv_are_rising {k : Nat} (B : Blt mg) (C : Cst K mg) 
    (f : Addr) (cdv : Value) (A : Around) (outer : List Env) (s : Shared) (H : Hp) (E : XK) (hr : Room k (A.deeper (envOfC "are_rising" (defScope s_are_rising) s.heap.objs.size f cdv))) :
    JSs (cxOf CX0 P w K mg base n_are_rising "are_rising" (defScope s_are_rising) f cdv A outer s H E).nox E (defBody s_are_rising) (j_are_rising ) := by
  have hu1 := hu_of hr
  have hu64 := hr.units
  have hu65 := units65 hr
  have nd := sc_are_rising.nd
  have po := @PassesOwn.never
  exact jss_one (js_ret (jb_all B (ja_cons (je_lc (own := [("k", 1)]) rfl nd (ji_range1 (by rfl) B.range (ja_cons (je_op oj_sub (jb_len B (ja_cons (je_var 0) (ja_nil))) (je_int)) (ja_nil))) (blkOk_by (N := n_are_rising) (sc := defScope s_are_rising) (own := [("k", 1)]) (by decide +kernel)) (fun _ _ _ _ _ => jgw_name (i := 1) nd rfl (.inl rfl) (by decide)) (fun _ _ _ _ _ => jts_nil) (fun _ _ _ _ _ => je_cmp (oj_ltD hu64) (je_ix (je_var 0) (je_var 1)) (je_ix (je_var 0) (je_op oj_add (je_var 1) (je_int))))) (ja_nil))))
theorem fn_are_rising (B : Blt mg) (C : Cst K mg) (D : Defs K mg) : FnJ P w K mg base 1 "are_rising" ["some"] (T_are_rising) :=
  D.d_are_rising.fnj (k := 0) (T := T_are_rising) sc_are_rising (by
    intro xs M Φ Ψ h
    first
    | (obtain ⟨_, rfl, _⟩ := h; rfl)
    | (obtain ⟨_, _, rfl, _⟩ := h; rfl)
    | (obtain ⟨_, _, _, rfl, _⟩ := h; rfl)
    | (obtain ⟨_, _, _, _, rfl, _⟩ := h; rfl)
    | (obtain ⟨_, _, _, _, _, rfl, _⟩ := h; rfl)
    | (obtain ⟨_, _, _, _, _, _, rfl, _⟩ := h; rfl)
    | (obtain ⟨_, _, _, _, _, _, _, rfl, _⟩ := h; rfl)
    | (obtain ⟨_, h, _⟩ := h; rcases h with rfl | rfl <;> rfl)) (fun f cdv A outer s H E hr => dv_are_rising B C  f cdv A outer s H E hr) (r_are_rising)
abbrev s_makes_ring : Stmt := top 35
abbrev n_makes_ring : List Str := ["cords", "group", "one", "other", "long", "first", "second", "both", "name"]
theorem sc_makes_ring : FnScope n_makes_ring ["cords"] (defScope s_makes_ring) := ⟨rfl, rfl, rfl, by decide +kernel, rfl, by decide +kernel, by decide +kernel⟩
theorem dv_makes_ring {k : Nat} (B : Blt mg) (C : Cst K mg) 
    (f : Addr) (cdv : Value) (A : Around) (outer : List Env) (s : Shared) (H : Hp) (E : XK) (hr : Room k (A.deeper (envOfC "makes_ring" (defScope s_makes_ring) s.heap.objs.size f cdv))) :
    JSs (cxOf CX0 P w K mg base n_makes_ring "makes_ring" (defScope s_makes_ring) f cdv A outer s H E).nox E (defBody s_makes_ring) (j_makes_ring ) := by
  have hu1 := hu_of hr
  have hu64 := hr.units
  have hu65 := units65 hr
  have nd := sc_makes_ring.nd
  have po := @PassesOwn.never
  exact jss_cons (js_set (i := 1) nd rfl (.inl rfl) (je_dnew))
    (jss_cons (js_for po (ji_tup (je_var 0)) (jg_tup rfl (jgs_cons (jg_name (i := 2) nd rfl (.inl rfl)) (jgs_cons (jg_name (i := 3) nd rfl (.inl rfl)) (jgs_cons (jg_name (i := 4) nd rfl (.inl rfl)) (jgs_nil))))) (jss_cons (js_par (i := 5) (j := 6) rfl nd rfl rfl (by decide) rfl rfl (ja_cons (je_dget2 hu1 (je_var 1) (je_var 2) (je_lstD (ja_cons (je_var 2) (ja_nil)))) (ja_cons (je_dget2 hu1 (je_var 1) (je_var 3) (je_lstD (ja_cons (je_var 3) (ja_nil)))) (ja_nil))) (by rfl))
    (jss_cons (js_if (jt_cmp (oj_in hu65) (je_var 2) (je_var 6)) (jss_one (js_ret (je_bl))) (jss_nil))
    (jss_cons (js_set (i := 7) nd rfl (.inl rfl) (je_op oj_cat (je_var 5) (je_var 6)))
    (jss_one (js_for po (ji_list (je_var 7)) (jg_name (i := 8) nd rfl (.inl rfl)) (jss_one (js_dput hu1 (je_var 1) (je_var 8) (je_var 7)))))))))
    (jss_one (js_ret (je_bl))))
theorem fn_makes_ring (B : Blt mg) (C : Cst K mg) (D : Defs K mg) : FnJ P w K mg base 1 "makes_ring" ["cords"] (T_makes_ring) :=
  D.d_makes_ring.fnjW (k := 0) (T := T_makes_ring) sc_makes_ring (by
    intro xs M Φ Ψ h
    first
    | (obtain ⟨_, rfl, _⟩ := h; rfl)
    | (obtain ⟨_, _, rfl, _⟩ := h; rfl)
    | (obtain ⟨_, _, _, rfl, _⟩ := h; rfl)
    | (obtain ⟨_, _, _, _, rfl, _⟩ := h; rfl)
    | (obtain ⟨_, _, _, _, _, rfl, _⟩ := h; rfl)
    | (obtain ⟨_, _, _, _, _, _, rfl, _⟩ := h; rfl)
    | (obtain ⟨_, _, _, _, _, _, _, rfl, _⟩ := h; rfl)
    | (obtain ⟨_, h, _⟩ := h; rcases h with rfl | rfl <;> rfl)) (fun f cdv A outer s H E hr => dv_makes_ring B C  f cdv A outer s H E hr) (r_makes_ring)
abbrev s_is_show : Stmt := top 36
abbrev n_is_show : List Str := ["thing", "balloons", "cords", "names", "one", "part", "cord"]
theorem sc_is_show : FnScope n_is_show ["thing"] (defScope s_is_show) := ⟨rfl, rfl, rfl, by decide +kernel, rfl, by decide +kernel, by decide +kernel⟩
theorem dv_is_show {k : Nat} (B : Blt mg) (C : Cst K mg) {T_are_rising : TJ} {k_are_rising : Nat} {ps_are_rising : List Str} (F_are_rising : FnJ P w K mg base k_are_rising "are_rising" ps_are_rising T_are_rising) (e_are_rising : k_are_rising ≤ k) {T_makes_ring : TJ} {k_makes_ring : Nat} {ps_makes_ring : List Str} (F_makes_ring : FnJ P w K mg base k_makes_ring "makes_ring" ps_makes_ring T_makes_ring) (e_makes_ring : k_makes_ring ≤ k) {T_is_cord : TJ} {k_is_cord : Nat} {ps_is_cord : List Str} (F_is_cord : FnJ P w K mg base k_is_cord "is_cord" ps_is_cord T_is_cord) (e_is_cord : k_is_cord ≤ k) {T_is_balloon : TJ} {k_is_balloon : Nat} {ps_is_balloon : List Str} (F_is_balloon : FnJ P w K mg base k_is_balloon "is_balloon" ps_is_balloon T_is_balloon) (e_is_balloon : k_is_balloon ≤ k)
    (f : Addr) (cdv : Value) (A : Around) (outer : List Env) (s : Shared) (H : Hp) (E : XK) (hr : Room k (A.deeper (envOfC "is_show" (defScope s_is_show) s.heap.objs.size f cdv))) :
    JSs (cxOf CX0 P w K mg base n_is_show "is_show" (defScope s_is_show) f cdv A outer s H E).nox E (defBody s_is_show) (j_is_show T_are_rising T_makes_ring T_is_cord T_is_balloon) := by
  have hr_are_rising := hr.mono e_are_rising
  have hr_makes_ring := hr.mono e_makes_ring
  have hr_is_cord := hr.mono e_is_cord
  have hr_is_balloon := hr.mono e_is_balloon
  have hu1 := hu_of hr
  have hu64 := hr.units
  have hu65 := units65 hr
  have nd := sc_is_show.nd
  have po := @PassesOwn.never
  exact jss_cons (js_if (jt_w (jw_or (jt_not (jt_val (jb_isi "tuple" B (ja_cons (je_var 0) (ja_cons (je_ttuple B) (ja_nil)))))) (jw_or (jt_cmp (oj_ne hu64) (jb_len B (ja_cons (je_var 0) (ja_nil))) (je_int)) (jw_or1 (jt_not (jt_val (jb_all B (ja_cons (je_lc (own := [("part", 5)]) rfl nd (ji_tup (je_var 0)) (blkOk_by (N := n_is_show) (sc := defScope s_is_show) (own := [("part", 5)]) (by decide +kernel)) (fun _ _ _ _ _ => jgw_name (i := 5) nd rfl (.inl rfl) (by decide)) (fun _ _ _ _ _ => jts_nil) (fun _ _ _ _ _ => jb_isi "tuple" B (ja_cons (je_var 5) (ja_cons (je_ttuple B) (ja_nil))))) (ja_nil))))))))) (jss_one (js_ret (je_bl))) (jss_nil))
    (jss_cons (js_asg (je_var 0) (jg_tup rfl (jgs_cons (jg_name (i := 1) nd rfl (.inl rfl)) (jgs_cons (jg_name (i := 2) nd rfl (.inl rfl)) (jgs_nil)))))
    (jss_cons (js_if (jt_w (jw_or (jt_not (jt_chain oj_le oj_le (je_int) (jb_len B (ja_cons (je_var 1) (ja_nil))) (je_gint (by rfl) C.balloons))) (jw_or1 (jt_not (jt_val (jb_all B (ja_cons (je_lc (own := [("one", 4)]) rfl nd (ji_tup (je_var 1)) (blkOk_by (N := n_is_show) (sc := defScope s_is_show) (own := [("one", 4)]) (by decide +kernel)) (fun _ _ _ _ _ => jgw_name (i := 4) nd rfl (.inl rfl) (by decide)) (fun _ _ _ _ _ => jts_nil) (fun _ _ _ _ _ => je_callJ F_is_balloon hr_is_balloon (ja_cons (je_var 4) (ja_nil)))) (ja_nil)))))))) (jss_one (js_ret (je_bl))) (jss_nil))
    (jss_cons (js_set (i := 3) nd rfl (.inr rfl) (je_lc (own := [("one", 4)]) rfl nd (ji_tup (je_var 1)) (blkOk_by (N := n_is_show) (sc := defScope s_is_show) (own := [("one", 4)]) (by decide +kernel)) (fun _ _ _ _ _ => jgw_name (i := 4) nd rfl (.inl rfl) (by decide)) (fun _ _ _ _ _ => jts_nil) (fun _ _ _ _ _ => je_ix (je_var 4) (je_int))))
    (jss_cons (js_if (jt_w (jw_or (jt_not (jt_val (je_callJ F_are_rising hr_are_rising (ja_cons (je_var 3) (ja_nil))))) (jw_or1 (jt_not (jt_val (jb_all B (ja_cons (je_lc (own := [("cord", 6)]) rfl nd (ji_tup (je_var 2)) (blkOk_by (N := n_is_show) (sc := defScope s_is_show) (own := [("cord", 6)]) (by decide +kernel)) (fun _ _ _ _ _ => jgw_name (i := 6) nd rfl (.inl rfl) (by decide)) (fun _ _ _ _ _ => jts_nil) (fun _ _ _ _ _ => je_callJ F_is_cord hr_is_cord (ja_cons (je_var 3) (ja_cons (je_var 6) (ja_nil))))) (ja_nil)))))))) (jss_one (js_ret (je_bl))) (jss_nil))
    (jss_one (js_ret (je_and (je_callJ F_are_rising hr_are_rising (ja_cons (je_var 2) (ja_nil))) (je_one (je_not (je_callJ F_makes_ring hr_makes_ring (ja_cons (je_var 2) (ja_nil))))))))))))
theorem fn_is_show (B : Blt mg) (C : Cst K mg) (D : Defs K mg) : FnJ P w K mg base 4 "is_show" ["thing"] (T_is_show) :=
  D.d_is_show.fnj (k := 3) (T := T_is_show) sc_is_show (by
    intro xs M Φ Ψ h
    first
    | (obtain ⟨_, rfl, _⟩ := h; rfl)
    | (obtain ⟨_, _, rfl, _⟩ := h; rfl)
    | (obtain ⟨_, _, _, rfl, _⟩ := h; rfl)
    | (obtain ⟨_, _, _, _, rfl, _⟩ := h; rfl)
    | (obtain ⟨_, _, _, _, _, rfl, _⟩ := h; rfl)
    | (obtain ⟨_, _, _, _, _, _, rfl, _⟩ := h; rfl)
    | (obtain ⟨_, _, _, _, _, _, _, rfl, _⟩ := h; rfl)
    | (obtain ⟨_, h, _⟩ := h; rcases h with rfl | rfl <;> rfl)) (fun f cdv A outer s H E hr => dv_is_show B C (fn_are_rising B C D) (by omega) (fn_makes_ring B C D) (by omega) (fn_is_cord B C D) (by omega) (fn_is_balloon B C D) (by omega) f cdv A outer s H E hr) (r_is_show)
abbrev s_need_show : Stmt := top 37
abbrev n_need_show : List Str := ["show"]
theorem sc_need_show : FnScope n_need_show ["show"] (defScope s_need_show) := ⟨rfl, rfl, rfl, by decide +kernel, rfl, by decide +kernel, by decide +kernel⟩
theorem dv_need_show {k : Nat} (B : Blt mg) (C : Cst K mg) {T_is_show : TJ} {k_is_show : Nat} {ps_is_show : List Str} (F_is_show : FnJ P w K mg base k_is_show "is_show" ps_is_show T_is_show) (e_is_show : k_is_show ≤ k)
    (f : Addr) (cdv : Value) (A : Around) (outer : List Env) (s : Shared) (H : Hp) (E : XK) (hr : Room k (A.deeper (envOfC "need_show" (defScope s_need_show) s.heap.objs.size f cdv))) :
    JSs (cxOf CX0 P w K mg base n_need_show "need_show" (defScope s_need_show) f cdv A outer s H E).nox E (defBody s_need_show) (j_need_show T_is_show) := by
  have hr_is_show := hr.mono e_is_show
  have hu1 := hu_of hr
  have hu64 := hr.units
  have hu65 := units65 hr
  have nd := sc_need_show.nd
  have po := @PassesOwn.never
  exact jss_one (js_if (jt_not (jt_val (je_callJ F_is_show hr_is_show (ja_cons (je_var 0) (ja_nil))))) (jss_one (js_never)) (jss_nil))
theorem fn_need_show (B : Blt mg) (C : Cst K mg) (D : Defs K mg) : FnJ P w K mg base 5 "need_show" ["show"] (T_need_show) :=
  D.d_need_show.fnj (k := 4) (T := T_need_show) sc_need_show (by
    intro xs M Φ Ψ h
    first
    | (obtain ⟨_, rfl, _⟩ := h; rfl)
    | (obtain ⟨_, _, rfl, _⟩ := h; rfl)
    | (obtain ⟨_, _, _, rfl, _⟩ := h; rfl)
    | (obtain ⟨_, _, _, _, rfl, _⟩ := h; rfl)
    | (obtain ⟨_, _, _, _, _, rfl, _⟩ := h; rfl)
    | (obtain ⟨_, _, _, _, _, _, rfl, _⟩ := h; rfl)
    | (obtain ⟨_, _, _, _, _, _, _, rfl, _⟩ := h; rfl)
    | (obtain ⟨_, h, _⟩ := h; rcases h with rfl | rfl <;> rfl)) (fun f cdv A outer s H E hr => dv_need_show B C (fn_is_show B C D) (by omega) f cdv A outer s H E hr) (r_need_show)
abbrev s_need_name : Stmt := top 38
abbrev n_need_name : List Str := ["show", "name", "one"]
theorem sc_need_name : FnScope n_need_name ["show", "name"] (defScope s_need_name) := ⟨rfl, rfl, rfl, by decide +kernel, rfl, by decide +kernel, by decide +kernel⟩
theorem dv_need_name {k : Nat} (B : Blt mg) (C : Cst K mg) 
    (f : Addr) (cdv : Value) (A : Around) (outer : List Env) (s : Shared) (H : Hp) (E : XK) (hr : Room k (A.deeper (envOfC "need_name" (defScope s_need_name) s.heap.objs.size f cdv))) :
    JSs (cxOf CX0 P w K mg base n_need_name "need_name" (defScope s_need_name) f cdv A outer s H E).nox E (defBody s_need_name) (j_need_name ) := by
  have hu1 := hu_of hr
  have hu64 := hr.units
  have hu65 := units65 hr
  have nd := sc_need_name.nd
  have po := @PassesOwn.never
  exact jss_one (js_if (jt_w (jw_or (jt_not (jt_val (jb_isi "str" B (ja_cons (je_var 1) (ja_cons (je_tstr B) (ja_nil)))))) (jw_or1 (jt_cmp (oj_notIn hu65) (je_var 1) (je_lc (own := [("one", 2)]) rfl nd (ji_tup (je_ix (je_var 0) (je_int))) (blkOk_by (N := n_need_name) (sc := defScope s_need_name) (own := [("one", 2)]) (by decide +kernel)) (fun _ _ _ _ _ => jgw_name (i := 2) nd rfl (.inl rfl) (by decide)) (fun _ _ _ _ _ => jts_nil) (fun _ _ _ _ _ => je_ix (je_var 2) (je_int))))))) (jss_one (js_never)) (jss_nil))
theorem fn_need_name (B : Blt mg) (C : Cst K mg) (D : Defs K mg) : FnJ P w K mg base 1 "need_name" ["show", "name"] (T_need_name) :=
  D.d_need_name.fnj (k := 0) (T := T_need_name) sc_need_name (by
    intro xs M Φ Ψ h
    first
    | (obtain ⟨_, rfl, _⟩ := h; rfl)
    | (obtain ⟨_, _, rfl, _⟩ := h; rfl)
    | (obtain ⟨_, _, _, rfl, _⟩ := h; rfl)
    | (obtain ⟨_, _, _, _, rfl, _⟩ := h; rfl)
    | (obtain ⟨_, _, _, _, _, rfl, _⟩ := h; rfl)
    | (obtain ⟨_, _, _, _, _, _, rfl, _⟩ := h; rfl)
    | (obtain ⟨_, _, _, _, _, _, _, rfl, _⟩ := h; rfl)
    | (obtain ⟨_, h, _⟩ := h; rcases h with rfl | rfl <;> rfl)) (fun f cdv A outer s H E hr => dv_need_name B C  f cdv A outer s H E hr) (r_need_name)
abbrev s_need_height : Stmt := top 39
abbrev n_need_height : List Str := ["height"]
theorem sc_need_height : FnScope n_need_height ["height"] (defScope s_need_height) := ⟨rfl, rfl, rfl, by decide +kernel, rfl, by decide +kernel, by decide +kernel⟩
theorem dv_need_height {k : Nat} (B : Blt mg) (C : Cst K mg) {T_is_fraction : TJ} {k_is_fraction : Nat} {ps_is_fraction : List Str} (F_is_fraction : FnJ P w K mg base k_is_fraction "is_fraction" ps_is_fraction T_is_fraction) (e_is_fraction : k_is_fraction ≤ k)
    (f : Addr) (cdv : Value) (A : Around) (outer : List Env) (s : Shared) (H : Hp) (E : XK) (hr : Room k (A.deeper (envOfC "need_height" (defScope s_need_height) s.heap.objs.size f cdv))) :
    JSs (cxOf CX0 P w K mg base n_need_height "need_height" (defScope s_need_height) f cdv A outer s H E).nox E (defBody s_need_height) (j_need_height T_is_fraction) := by
  have hr_is_fraction := hr.mono e_is_fraction
  have hu1 := hu_of hr
  have hu64 := hr.units
  have hu65 := units65 hr
  have nd := sc_need_height.nd
  have po := @PassesOwn.never
  exact jss_one (js_if (jt_w (jw_or (jt_not (jt_val (je_callJ F_is_fraction hr_is_fraction (ja_cons (je_var 0) (ja_nil))))) (jw_or1 (jt_cmp (oj_lt) (je_ix (je_var 0) (je_int)) (je_int))))) (jss_one (js_never)) (jss_nil))
theorem fn_need_height (B : Blt mg) (C : Cst K mg) (D : Defs K mg) : FnJ P w K mg base 3 "need_height" ["height"] (T_need_height) :=
  D.d_need_height.fnj (k := 2) (T := T_need_height) sc_need_height (by
    intro xs M Φ Ψ h
    first
    | (obtain ⟨_, rfl, _⟩ := h; rfl)
    | (obtain ⟨_, _, rfl, _⟩ := h; rfl)
    | (obtain ⟨_, _, _, rfl, _⟩ := h; rfl)
    | (obtain ⟨_, _, _, _, rfl, _⟩ := h; rfl)
    | (obtain ⟨_, _, _, _, _, rfl, _⟩ := h; rfl)
    | (obtain ⟨_, _, _, _, _, _, rfl, _⟩ := h; rfl)
    | (obtain ⟨_, _, _, _, _, _, _, rfl, _⟩ := h; rfl)
    | (obtain ⟨_, h, _⟩ := h; rcases h with rfl | rfl <;> rfl)) (fun f cdv A outer s H E hr => dv_need_height B C (fn_is_fraction B C D) (by omega) f cdv A outer s H E hr) (r_need_height)
abbrev s_tied_to : Stmt := top 40
abbrev n_tied_to : List Str := ["show", "name", "found", "one", "other", "long"]
theorem sc_tied_to : FnScope n_tied_to ["show", "name"] (defScope s_tied_to) := ⟨rfl, rfl, rfl, by decide +kernel, rfl, by decide +kernel, by decide +kernel⟩
theorem dv_tied_to {k : Nat} (B : Blt mg) (C : Cst K mg) 
    (f : Addr) (cdv : Value) (A : Around) (outer : List Env) (s : Shared) (H : Hp) (E : XK) (hr : Room k (A.deeper (envOfC "tied_to" (defScope s_tied_to) s.heap.objs.size f cdv))) :
    JSs (cxOf CX0 P w K mg base n_tied_to "tied_to" (defScope s_tied_to) f cdv A outer s H E).nox E (defBody s_tied_to) (j_tied_to ) := by
  have hu1 := hu_of hr
  have hu64 := hr.units
  have hu65 := units65 hr
  have nd := sc_tied_to.nd
  have po := @PassesOwn.never
  exact jss_cons (js_set (i := 2) nd rfl (.inl rfl) (je_lstC (ja_nil)))
    (jss_cons (js_for po (ji_tup (je_ix (je_var 0) (je_int))) (jg_tup rfl (jgs_cons (jg_name (i := 3) nd rfl (.inl rfl)) (jgs_cons (jg_name (i := 4) nd rfl (.inl rfl)) (jgs_cons (jg_name (i := 5) nd rfl (.inl rfl)) (jgs_nil))))) (jss_one (js_if (jt_cmp (oj_in hu65) (je_var 1) (je_tup (ja_cons (je_var 3) (ja_cons (je_var 4) (ja_nil))))) (jss_one (js_expr (je_lm PySem.F.slot_list_append PySem.F.type_list_append mj_append (je_var 2) (ja_cons (je_tup (ja_cons (je_if (jt_cmp (oj_eq hu64) (je_var 3) (je_var 1)) (je_var 4) (je_var 3)) (ja_cons (je_var 5) (ja_nil)))) (ja_nil))))) (jss_nil))))
    (jss_one (js_ret (je_fz (je_var 2)))))
theorem fn_tied_to (B : Blt mg) (C : Cst K mg) (D : Defs K mg) : FnJ P w K mg base 1 "tied_to" ["show", "name"] (T_tied_to) :=
  D.d_tied_to.fnj (k := 0) (T := T_tied_to) sc_tied_to (by
    intro xs M Φ Ψ h
    first
    | (obtain ⟨_, rfl, _⟩ := h; rfl)
    | (obtain ⟨_, _, rfl, _⟩ := h; rfl)
    | (obtain ⟨_, _, _, rfl, _⟩ := h; rfl)
    | (obtain ⟨_, _, _, _, rfl, _⟩ := h; rfl)
    | (obtain ⟨_, _, _, _, _, rfl, _⟩ := h; rfl)
    | (obtain ⟨_, _, _, _, _, _, rfl, _⟩ := h; rfl)
    | (obtain ⟨_, _, _, _, _, _, _, rfl, _⟩ := h; rfl)
    | (obtain ⟨_, h, _⟩ := h; rcases h with rfl | rfl <;> rfl)) (fun f cdv A outer s H E hr => dv_tied_to B C  f cdv A outer s H E hr) (r_tied_to)
abbrev s_pulls_of : Stmt := top 42
abbrev n_pulls_of : List Str := ["show", "name", "ahead", "own", "strong", "found", "other", "long", "one"]
theorem sc_pulls_of : FnScope n_pulls_of ["show", "name", "ahead"] (defScope s_pulls_of) := ⟨rfl, rfl, rfl, by decide +kernel, rfl, by decide +kernel, by decide +kernel⟩
theorem dv_pulls_of {k : Nat} (B : Blt mg) (C : Cst K mg) {T_tied_to : TJ} {k_tied_to : Nat} {ps_tied_to : List Str} (F_tied_to : FnJ P w K mg base k_tied_to "tied_to" ps_tied_to T_tied_to) (e_tied_to : k_tied_to ≤ k) {T_both : TJ} {k_both : Nat} {ps_both : List Str} (F_both : FnJ P w K mg base k_both "both" ps_both T_both) (e_both : k_both ≤ k) {T_by_cord : TJ} {k_by_cord : Nat} {ps_by_cord : List Str} (F_by_cord : FnJ P w K mg base k_by_cord "by_cord" ps_by_cord T_by_cord) (e_by_cord : k_by_cord ≤ k) {T_pulls_of : TJ} {k_pulls_of : Nat} {ps_pulls_of : List Str} (F_pulls_of : FnJ P w K mg base k_pulls_of "pulls_of" ps_pulls_of T_pulls_of) (e_pulls_of : k_pulls_of ≤ k) {T_alone : TJ} {k_alone : Nat} {ps_alone : List Str} (F_alone : FnJ P w K mg base k_alone "alone" ps_alone T_alone) (e_alone : k_alone ≤ k)
    (f : Addr) (cdv : Value) (A : Around) (outer : List Env) (s : Shared) (H : Hp) (E : XK) (hr : Room k (A.deeper (envOfC "pulls_of" (defScope s_pulls_of) s.heap.objs.size f cdv))) :
    JSs (cxOf CX0 P w K mg base n_pulls_of "pulls_of" (defScope s_pulls_of) f cdv A outer s H E).nox E (defBody s_pulls_of) (j_pulls_of T_tied_to T_both T_by_cord T_pulls_of T_alone) := by
  have hr_tied_to := hr.mono e_tied_to
  have hr_both := hr.mono e_both
  have hr_by_cord := hr.mono e_by_cord
  have hr_pulls_of := hr.mono e_pulls_of
  have hr_alone := hr.mono e_alone
  have hu1 := hu_of hr
  have hu64 := hr.units
  have hu65 := units65 hr
  have nd := sc_pulls_of.nd
  have po := @PassesOwn.never
  exact jss_cons (js_asg (je_ix (je_lc (own := [("one", 8)]) rfl nd (ji_tup (je_ix (je_var 0) (je_int))) (blkOk_by (N := n_pulls_of) (sc := defScope s_pulls_of) (own := [("one", 8)]) (by decide +kernel)) (fun _ _ _ _ _ => jgw_name (i := 8) nd rfl (.inl rfl) (by decide)) (fun _ _ _ _ _ => jts_one (jt_cmp (oj_eq hu64) (je_ix (je_var 8) (je_int)) (je_var 1))) (fun _ _ _ _ _ => je_slT (je_var 8) (jo_some (je_int)) (jo_none))) (je_int)) (jg_tup rfl (jgs_cons (jg_name (i := 3) nd rfl (.inl rfl)) (jgs_cons (jg_name (i := 4) nd rfl (.inl rfl)) (jgs_nil)))))
    (jss_cons (js_set (i := 5) nd rfl (.inl rfl) (je_callJ F_alone hr_alone (ja_cons (je_var 3) (ja_cons (je_var 4) (ja_nil)))))
    (jss_cons (js_for po (ji_list (je_callJ F_tied_to hr_tied_to (ja_cons (je_var 0) (ja_cons (je_var 1) (ja_nil))))) (jg_tup rfl (jgs_cons (jg_name (i := 6) nd rfl (.inl rfl)) (jgs_cons (jg_name (i := 7) nd rfl (.inl rfl)) (jgs_nil)))) (jss_one (js_if (jt_cmp (oj_ne hu64) (je_var 6) (je_var 2)) (jss_one (js_set (i := 5) nd rfl (.inl rfl) (je_callJ F_both hr_both (ja_cons (je_var 5) (ja_cons (je_callJ F_by_cord hr_by_cord (ja_cons (je_callJ F_pulls_of hr_pulls_of (ja_cons (je_var 0) (ja_cons (je_var 6) (ja_cons (je_var 1) (ja_nil))))) (ja_cons (je_var 7) (ja_nil)))) (ja_nil)))))) (jss_nil))))
    (jss_one (js_ret (je_var 5)))))
theorem fn_pulls_of (B : Blt mg) (C : Cst K mg) (D : Defs K mg) : ∀ n : Nat, FnJ P w K mg base (7 + n) "pulls_of" ["show", "name", "ahead"] (T_pulls n)
  | 0 => ((D.d_pulls_of.fnj (k := 6) (T := T_pulls 0) (js := jNever) sc_pulls_of (by
    intro xs M Φ Ψ h
    first
    | (obtain ⟨_, rfl, _⟩ := h; rfl)
    | (obtain ⟨_, _, rfl, _⟩ := h; rfl)
    | (obtain ⟨_, _, _, rfl, _⟩ := h; rfl)
    | (obtain ⟨_, _, _, _, rfl, _⟩ := h; rfl)
    | (obtain ⟨_, _, _, _, _, rfl, _⟩ := h; rfl)
    | (obtain ⟨_, _, _, _, _, _, rfl, _⟩ := h; rfl)
    | (obtain ⟨_, _, _, _, _, _, _, rfl, _⟩ := h; rfl)
    | (obtain ⟨_, h, _⟩ := h; rcases h with rfl | rfl <;> rfl)) (fun _ _ _ _ _ _ _ _ => jss_never) fun xs M Φ Ψ h => never_pulls_of h)).mono (by omega)
  | n + 1 => by
    have ih := fn_pulls_of B C D n
    exact D.d_pulls_of.fnj (k := 7 + n) (T := T_pulls (n + 1)) sc_pulls_of (by
    intro xs M Φ Ψ h
    first
    | (obtain ⟨_, rfl, _⟩ := h; rfl)
    | (obtain ⟨_, _, rfl, _⟩ := h; rfl)
    | (obtain ⟨_, _, _, rfl, _⟩ := h; rfl)
    | (obtain ⟨_, _, _, _, rfl, _⟩ := h; rfl)
    | (obtain ⟨_, _, _, _, _, rfl, _⟩ := h; rfl)
    | (obtain ⟨_, _, _, _, _, _, rfl, _⟩ := h; rfl)
    | (obtain ⟨_, _, _, _, _, _, _, rfl, _⟩ := h; rfl)
    | (obtain ⟨_, h, _⟩ := h; rcases h with rfl | rfl <;> rfl)) (fun f cdv A outer s H E hr => dv_pulls_of B C (fn_tied_to B C D) (by omega) (fn_both B C D) (by omega) (fn_by_cord B C D) (by omega) ih (by omega) (fn_alone B C D) (by omega) f cdv A outer s H E hr) (r_pulls_of n)
abbrev s_nearest : Stmt := top 43
abbrev n_nearest : List Str := ["height", "still", "long", "low", "high"]
theorem sc_nearest : FnScope n_nearest ["height", "still", "long"] (defScope s_nearest) := ⟨rfl, rfl, rfl, by decide +kernel, rfl, by decide +kernel, by decide +kernel⟩
theorem dv_nearest {k : Nat} (B : Blt mg) (C : Cst K mg) {T_is_less : TJ} {k_is_less : Nat} {ps_is_less : List Str} (F_is_less : FnJ P w K mg base k_is_less "is_less" ps_is_less T_is_less) (e_is_less : k_is_less ≤ k) {T_plus : TJ} {k_plus : Nat} {ps_plus : List Str} (F_plus : FnJ P w K mg base k_plus "plus" ps_plus T_plus) (e_plus : k_plus ≤ k) {T_minus : TJ} {k_minus : Nat} {ps_minus : List Str} (F_minus : FnJ P w K mg base k_minus "minus" ps_minus T_minus) (e_minus : k_minus ≤ k)
    (f : Addr) (cdv : Value) (A : Around) (outer : List Env) (s : Shared) (H : Hp) (E : XK) (hr : Room k (A.deeper (envOfC "nearest" (defScope s_nearest) s.heap.objs.size f cdv))) :
    JSs (cxOf CX0 P w K mg base n_nearest "nearest" (defScope s_nearest) f cdv A outer s H E).nox E (defBody s_nearest) (j_nearest T_is_less T_plus T_minus) := by
  have hr_is_less := hr.mono e_is_less
  have hr_plus := hr.mono e_plus
  have hr_minus := hr.mono e_minus
  have hu1 := hu_of hr
  have hu64 := hr.units
  have hu65 := units65 hr
  have nd := sc_nearest.nd
  have po := @PassesOwn.never
  exact jss_cons (js_par (i := 3) (j := 4) rfl nd rfl rfl (by decide) rfl rfl (ja_cons (je_callJ F_minus hr_minus (ja_cons (je_var 0) (ja_cons (je_tup (ja_cons (je_var 2) (ja_cons (je_int) (ja_nil)))) (ja_nil)))) (ja_cons (je_callJ F_plus hr_plus (ja_cons (je_var 0) (ja_cons (je_tup (ja_cons (je_var 2) (ja_cons (je_int) (ja_nil)))) (ja_nil)))) (ja_nil))) (by rfl))
    (jss_cons (js_if (jt_val (je_callJ F_is_less hr_is_less (ja_cons (je_var 1) (ja_cons (je_var 3) (ja_nil))))) (jss_one (js_ret (je_var 3))) (jss_nil))
    (jss_one (js_ret (je_if (jt_val (je_callJ F_is_less hr_is_less (ja_cons (je_var 4) (ja_cons (je_var 1) (ja_nil))))) (je_var 4) (je_var 1)))))
theorem fn_nearest (B : Blt mg) (C : Cst K mg) (D : Defs K mg) : FnJ P w K mg base 4 "nearest" ["height", "still", "long"] (T_nearest) :=
  D.d_nearest.fnj (k := 3) (T := T_nearest) sc_nearest (by
    intro xs M Φ Ψ h
    first
    | (obtain ⟨_, rfl, _⟩ := h; rfl)
    | (obtain ⟨_, _, rfl, _⟩ := h; rfl)
    | (obtain ⟨_, _, _, rfl, _⟩ := h; rfl)
    | (obtain ⟨_, _, _, _, rfl, _⟩ := h; rfl)
    | (obtain ⟨_, _, _, _, _, rfl, _⟩ := h; rfl)
    | (obtain ⟨_, _, _, _, _, _, rfl, _⟩ := h; rfl)
    | (obtain ⟨_, _, _, _, _, _, _, rfl, _⟩ := h; rfl)
    | (obtain ⟨_, h, _⟩ := h; rcases h with rfl | rfl <;> rfl)) (fun f cdv A outer s H E hr => dv_nearest B C (fn_is_less B C D) (by omega) (fn_plus B C D) (by omega) (fn_minus B C D) (by omega) f cdv A outer s H E hr) (r_nearest)
abbrev s_hang : Stmt := top 44
abbrev n_hang : List Str := ["show", "name", "ahead", "height", "table", "other", "long", "still"]
theorem sc_hang : FnScope n_hang ["show", "name", "ahead", "height", "table"] (defScope s_hang) := ⟨rfl, rfl, rfl, by decide +kernel, rfl, by decide +kernel, by decide +kernel⟩
theorem dv_hang {k : Nat} (B : Blt mg) (C : Cst K mg) {T_tied_to : TJ} {k_tied_to : Nat} {ps_tied_to : List Str} (F_tied_to : FnJ P w K mg base k_tied_to "tied_to" ps_tied_to T_tied_to) (e_tied_to : k_tied_to ≤ k) {T_hang : TJ} {k_hang : Nat} {ps_hang : List Str} (F_hang : FnJ P w K mg base k_hang "hang" ps_hang T_hang) (e_hang : k_hang ≤ k) {T_nearest : TJ} {k_nearest : Nat} {ps_nearest : List Str} (F_nearest : FnJ P w K mg base k_nearest "nearest" ps_nearest T_nearest) (e_nearest : k_nearest ≤ k) {T_nought_of : TJ} {k_nought_of : Nat} {ps_nought_of : List Str} (F_nought_of : FnJ P w K mg base k_nought_of "nought_of" ps_nought_of T_nought_of) (e_nought_of : k_nought_of ≤ k) {T_pulls_of : TJ} {k_pulls_of : Nat} {ps_pulls_of : List Str} (F_pulls_of : FnJ P w K mg base k_pulls_of "pulls_of" ps_pulls_of T_pulls_of) (e_pulls_of : k_pulls_of ≤ k)
    (f : Addr) (cdv : Value) (A : Around) (outer : List Env) (s : Shared) (H : Hp) (E : XK) (hr : Room k (A.deeper (envOfC "hang" (defScope s_hang) s.heap.objs.size f cdv))) :
    JSs (cxOf CX0 P w K mg base n_hang "hang" (defScope s_hang) f cdv A outer s H E).nox E (defBody s_hang) (j_hang T_tied_to T_hang T_nearest T_nought_of T_pulls_of) := by
  have hr_tied_to := hr.mono e_tied_to
  have hr_hang := hr.mono e_hang
  have hr_nearest := hr.mono e_nearest
  have hr_nought_of := hr.mono e_nought_of
  have hr_pulls_of := hr.mono e_pulls_of
  have hu1 := hu_of hr
  have hu64 := hr.units
  have hu65 := units65 hr
  have nd := sc_hang.nd
  have po := @PassesOwn.never
  exact jss_cons (js_dput hu1 (je_var 4) (je_var 1) (je_var 3))
    (jss_one (js_for po (ji_list (je_callJ F_tied_to hr_tied_to (ja_cons (je_var 0) (ja_cons (je_var 1) (ja_nil))))) (jg_tup rfl (jgs_cons (jg_name (i := 5) nd rfl (.inl rfl)) (jgs_cons (jg_name (i := 6) nd rfl (.inl rfl)) (jgs_nil)))) (jss_one (js_if (jt_cmp (oj_ne hu64) (je_var 5) (je_var 2)) (jss_cons (js_set (i := 7) nd rfl (.inl rfl) (je_callJ F_nought_of hr_nought_of (ja_cons (je_callJ F_pulls_of hr_pulls_of (ja_cons (je_var 0) (ja_cons (je_var 5) (ja_cons (je_var 1) (ja_nil))))) (ja_nil))))
    (jss_one (js_expr (je_callJ F_hang hr_hang (ja_cons (je_var 0) (ja_cons (je_var 5) (ja_cons (je_var 1) (ja_cons (je_callJ F_nearest hr_nearest (ja_cons (je_var 3) (ja_cons (je_var 7) (ja_cons (je_var 6) (ja_nil))))) (ja_cons (je_var 4) (ja_nil)))))))))) (jss_nil)))))
theorem fn_hang (B : Blt mg) (C : Cst K mg) (D : Defs K mg) : ∀ n : Nat, FnJ P w K mg base (8 + n) "hang" ["show", "name", "ahead", "height", "table"] (T_hang n)
  | 0 => ((D.d_hang.fnj (k := 7) (T := T_hang 0) (js := jNever) sc_hang (by
    intro xs M Φ Ψ h
    first
    | (obtain ⟨_, rfl, _⟩ := h; rfl)
    | (obtain ⟨_, _, rfl, _⟩ := h; rfl)
    | (obtain ⟨_, _, _, rfl, _⟩ := h; rfl)
    | (obtain ⟨_, _, _, _, rfl, _⟩ := h; rfl)
    | (obtain ⟨_, _, _, _, _, rfl, _⟩ := h; rfl)
    | (obtain ⟨_, _, _, _, _, _, rfl, _⟩ := h; rfl)
    | (obtain ⟨_, _, _, _, _, _, _, rfl, _⟩ := h; rfl)
    | (obtain ⟨_, h, _⟩ := h; rcases h with rfl | rfl <;> rfl)) (fun _ _ _ _ _ _ _ _ => jss_never) fun xs M Φ Ψ h => never_hang h)).mono (by omega)
  | n + 1 => by
    have ih := fn_hang B C D n
    exact D.d_hang.fnj (k := 8 + n) (T := T_hang (n + 1)) sc_hang (by
    intro xs M Φ Ψ h
    first
    | (obtain ⟨_, rfl, _⟩ := h; rfl)
    | (obtain ⟨_, _, rfl, _⟩ := h; rfl)
    | (obtain ⟨_, _, _, rfl, _⟩ := h; rfl)
    | (obtain ⟨_, _, _, _, rfl, _⟩ := h; rfl)
    | (obtain ⟨_, _, _, _, _, rfl, _⟩ := h; rfl)
    | (obtain ⟨_, _, _, _, _, _, rfl, _⟩ := h; rfl)
    | (obtain ⟨_, _, _, _, _, _, _, rfl, _⟩ := h; rfl)
    | (obtain ⟨_, h, _⟩ := h; rcases h with rfl | rfl <;> rfl)) (fun f cdv A outer s H E hr => dv_hang B C (fn_tied_to B C D) (by omega) ih (by omega) (fn_nearest B C D) (by omega) (fn_nought_of B C D) (by omega) (fn_pulls_of B C D n) (by omega) f cdv A outer s H E hr) (r_hang n)
abbrev s_all_heights : Stmt := top 45
abbrev n_all_heights : List Str := ["show", "fixed", "table", "name", "own", "strong"]
theorem sc_all_heights : FnScope n_all_heights ["show", "fixed"] (defScope s_all_heights) := ⟨rfl, rfl, rfl, by decide +kernel, rfl, by decide +kernel, by decide +kernel⟩
theorem dv_all_heights {k : Nat} (B : Blt mg) (C : Cst K mg) {T_hang : TJ} {k_hang : Nat} {ps_hang : List Str} (F_hang : FnJ P w K mg base k_hang "hang" ps_hang T_hang) (e_hang : k_hang ≤ k) {T_nought_of : TJ} {k_nought_of : Nat} {ps_nought_of : List Str} (F_nought_of : FnJ P w K mg base k_nought_of "nought_of" ps_nought_of T_nought_of) (e_nought_of : k_nought_of ≤ k) {T_pulls_of : TJ} {k_pulls_of : Nat} {ps_pulls_of : List Str} (F_pulls_of : FnJ P w K mg base k_pulls_of "pulls_of" ps_pulls_of T_pulls_of) (e_pulls_of : k_pulls_of ≤ k)
    (f : Addr) (cdv : Value) (A : Around) (outer : List Env) (s : Shared) (H : Hp) (E : XK) (hr : Room k (A.deeper (envOfC "all_heights" (defScope s_all_heights) s.heap.objs.size f cdv))) :
    JSs (cxOf CX0 P w K mg base n_all_heights "all_heights" (defScope s_all_heights) f cdv A outer s H E).nox E (defBody s_all_heights) (j_all_heights T_hang T_nought_of T_pulls_of) := by
  have hr_hang := hr.mono e_hang
  have hr_nought_of := hr.mono e_nought_of
  have hr_pulls_of := hr.mono e_pulls_of
  have hu1 := hu_of hr
  have hu64 := hr.units
  have hu65 := units65 hr
  have nd := sc_all_heights.nd
  have po := @PassesOwn.never
  exact jss_cons (js_set (i := 2) nd rfl (.inl rfl) (je_dnew))
    (jss_cons (js_lock 1 (js_for po (ji_keys (je_var 1)) (jg_name (i := 3) nd rfl (.inl rfl)) (jss_one (js_expr (je_callJ F_hang hr_hang (ja_cons (je_var 0) (ja_cons (je_var 3) (ja_cons (je_non) (ja_cons (je_dget hu1 (je_var 1) (je_var 3)) (ja_cons (je_var 2) (ja_nil)))))))))))
    (jss_cons (js_for po (ji_tup (je_ix (je_var 0) (je_int))) (jg_tup rfl (jgs_cons (jg_name (i := 3) nd rfl (.inl rfl)) (jgs_cons (jg_name (i := 4) nd rfl (.inl rfl)) (jgs_cons (jg_name (i := 5) nd rfl (.inl rfl)) (jgs_nil))))) (jss_one (js_if (jt_dnotin hu1 (je_var 3) (je_var 2)) (jss_one (js_expr (je_callJ F_hang hr_hang (ja_cons (je_var 0) (ja_cons (je_var 3) (ja_cons (je_non) (ja_cons (je_callJ F_nought_of hr_nought_of (ja_cons (je_callJ F_pulls_of hr_pulls_of (ja_cons (je_var 0) (ja_cons (je_var 3) (ja_cons (je_non) (ja_nil))))) (ja_nil))) (ja_cons (je_var 2) (ja_nil))))))))) (jss_nil))))
    (jss_one (js_ret (je_var 2)))))
theorem fn_all_heights (B : Blt mg) (C : Cst K mg) (D : Defs K mg) : FnJ P w K mg base 17 "all_heights" ["show", "fixed"] (T_all_heights) :=
  D.d_all_heights.fnj (k := 16) (T := T_all_heights) sc_all_heights (by
    intro xs M Φ Ψ h
    first
    | (obtain ⟨_, rfl, _⟩ := h; rfl)
    | (obtain ⟨_, _, rfl, _⟩ := h; rfl)
    | (obtain ⟨_, _, _, rfl, _⟩ := h; rfl)
    | (obtain ⟨_, _, _, _, rfl, _⟩ := h; rfl)
    | (obtain ⟨_, _, _, _, _, rfl, _⟩ := h; rfl)
    | (obtain ⟨_, _, _, _, _, _, rfl, _⟩ := h; rfl)
    | (obtain ⟨_, _, _, _, _, _, _, rfl, _⟩ := h; rfl)
    | (obtain ⟨_, h, _⟩ := h; rcases h with rfl | rfl <;> rfl)) (fun f cdv A outer s H E hr => dv_all_heights B C (fn_hang B C D 8) (by omega) (fn_nought_of B C D) (by omega) (fn_pulls_of B C D 8) (by omega) f cdv A outer s H E hr) (r_all_heights)
abbrev s_heights : Stmt := top 46
abbrev n_heights : List Str := ["show"]
theorem sc_heights : FnScope n_heights ["show"] (defScope s_heights) := ⟨rfl, rfl, rfl, by decide +kernel, rfl, by decide +kernel, by decide +kernel⟩
theorem dv_heights {k : Nat} (B : Blt mg) (C : Cst K mg) {T_all_heights : TJ} {k_all_heights : Nat} {ps_all_heights : List Str} (F_all_heights : FnJ P w K mg base k_all_heights "all_heights" ps_all_heights T_all_heights) (e_all_heights : k_all_heights ≤ k) {T_need_show : TJ} {k_need_show : Nat} {ps_need_show : List Str} (F_need_show : FnJ P w K mg base k_need_show "need_show" ps_need_show T_need_show) (e_need_show : k_need_show ≤ k)
    (f : Addr) (cdv : Value) (A : Around) (outer : List Env) (s : Shared) (H : Hp) (E : XK) (hr : Room k (A.deeper (envOfC "heights" (defScope s_heights) s.heap.objs.size f cdv))) :
    JSs (cxOf CX0 P w K mg base n_heights "heights" (defScope s_heights) f cdv A outer s H E).nox E (defBody s_heights) (j_heights T_all_heights T_need_show) := by
  have hr_all_heights := hr.mono e_all_heights
  have hr_need_show := hr.mono e_need_show
  have hu1 := hu_of hr
  have hu64 := hr.units
  have hu65 := units65 hr
  have nd := sc_heights.nd
  have po := @PassesOwn.never
  exact jss_cons (js_expr (je_callJ F_need_show hr_need_show (ja_cons (je_var 0) (ja_nil))))
    (jss_one (js_ret (jb_sortedI B hu64 (ja_cons (je_items (je_callJ F_all_heights hr_all_heights (ja_cons (je_var 0) (ja_cons (je_dnew) (ja_nil))))) (ja_nil)))))
theorem fn_heights (B : Blt mg) (C : Cst K mg) (D : Defs K mg) : FnJ P w K mg base 18 "heights" ["show"] (T_heights) :=
  D.d_heights.fnjW (k := 17) (T := T_heights) sc_heights (by
    intro xs M Φ Ψ h
    first
    | (obtain ⟨_, rfl, _⟩ := h; rfl)
    | (obtain ⟨_, _, rfl, _⟩ := h; rfl)
    | (obtain ⟨_, _, _, rfl, _⟩ := h; rfl)
    | (obtain ⟨_, _, _, _, rfl, _⟩ := h; rfl)
    | (obtain ⟨_, _, _, _, _, rfl, _⟩ := h; rfl)
    | (obtain ⟨_, _, _, _, _, _, rfl, _⟩ := h; rfl)
    | (obtain ⟨_, _, _, _, _, _, _, rfl, _⟩ := h; rfl)
    | (obtain ⟨_, h, _⟩ := h; rcases h with rfl | rfl <;> rfl)) (fun f cdv A outer s H E hr => dv_heights B C (fn_all_heights B C D) (by omega) (fn_need_show B C D) (by omega) f cdv A outer s H E hr) (r_heights)
abbrev s_choices : Stmt := top 48
abbrev n_choices : List Str := ["some", "many", "found", "k", "one", "rest"]
theorem sc_choices : FnScope n_choices ["some", "many"] (defScope s_choices) := ⟨rfl, rfl, rfl, by decide +kernel, rfl, by decide +kernel, by decide +kernel⟩
theorem dv_choices {k : Nat} (B : Blt mg) (C : Cst K mg) {T_choices : TJ} {k_choices : Nat} {ps_choices : List Str} (F_choices : FnJ P w K mg base k_choices "choices" ps_choices T_choices) (e_choices : k_choices ≤ k)
    (f : Addr) (cdv : Value) (A : Around) (outer : List Env) (s : Shared) (H : Hp) (E : XK) (hr : Room k (A.deeper (envOfC "choices" (defScope s_choices) s.heap.objs.size f cdv))) :
    JSs (cxOf CX0 P w K mg base n_choices "choices" (defScope s_choices) f cdv A outer s H E).nox E (defBody s_choices) (j_choices T_choices) := by
  have hr_choices := hr.mono e_choices
  have hu1 := hu_of hr
  have hu64 := hr.units
  have hu65 := units65 hr
  have nd := sc_choices.nd
  have po := @PassesOwn.never
  exact jss_cons (js_if (jt_cmp (oj_eq hu64) (je_var 1) (je_int)) (jss_one (js_ret (je_lstD (ja_cons (je_tup (ja_nil)) (ja_nil))))) (jss_nil))
    (jss_cons (js_set (i := 2) nd rfl (.inl rfl) (je_lstC (ja_nil)))
    (jss_cons (js_for po (ji_enumT (by rfl) B.enum (ja_cons (je_var 0) (ja_nil))) (jg_tup rfl (jgs_cons (jg_name (i := 3) nd rfl (.inl rfl)) (jgs_cons (jg_name (i := 4) nd rfl (.inr rfl)) (jgs_nil)))) (jss_one (js_expr (je_lm PySem.F.slot_list_extend PySem.F.type_list_extend mj_extend (je_var 2) (ja_cons (je_lc (own := [("rest", 5)]) rfl nd (ji_list (je_callJ F_choices hr_choices (ja_cons (je_slT (je_var 0) (jo_some (je_op oj_add (je_var 3) (je_int))) (jo_none)) (ja_cons (je_op oj_sub (je_var 1) (je_int)) (ja_nil))))) (blkOk_by (N := n_choices) (sc := defScope s_choices) (own := [("rest", 5)]) (by decide +kernel)) (fun _ _ _ _ _ => jgw_name (i := 5) nd rfl (.inl rfl) (by decide)) (fun _ _ _ _ _ => jts_nil) (fun _ _ _ _ _ => je_op oj_catT (je_tup (ja_cons (je_var 4) (ja_nil))) (je_var 5))) (ja_nil))))))
    (jss_one (js_ret (je_fz (je_var 2))))))
theorem fn_choices (B : Blt mg) (C : Cst K mg) (D : Defs K mg) : ∀ n : Nat, FnJ P w K mg base (1 + n) "choices" ["some", "many"] (T_choices n)
  | 0 => ((D.d_choices.fnj (k := 0) (T := T_choices 0) (js := jNever) sc_choices (by
    intro xs M Φ Ψ h
    first
    | (obtain ⟨_, rfl, _⟩ := h; rfl)
    | (obtain ⟨_, _, rfl, _⟩ := h; rfl)
    | (obtain ⟨_, _, _, rfl, _⟩ := h; rfl)
    | (obtain ⟨_, _, _, _, rfl, _⟩ := h; rfl)
    | (obtain ⟨_, _, _, _, _, rfl, _⟩ := h; rfl)
    | (obtain ⟨_, _, _, _, _, _, rfl, _⟩ := h; rfl)
    | (obtain ⟨_, _, _, _, _, _, _, rfl, _⟩ := h; rfl)
    | (obtain ⟨_, h, _⟩ := h; rcases h with rfl | rfl <;> rfl)) (fun _ _ _ _ _ _ _ _ => jss_never) fun xs M Φ Ψ h => never_choices h)).mono (by omega)
  | n + 1 => by
    have ih := fn_choices B C D n
    exact D.d_choices.fnj (k := 1 + n) (T := T_choices (n + 1)) sc_choices (by
    intro xs M Φ Ψ h
    first
    | (obtain ⟨_, rfl, _⟩ := h; rfl)
    | (obtain ⟨_, _, rfl, _⟩ := h; rfl)
    | (obtain ⟨_, _, _, rfl, _⟩ := h; rfl)
    | (obtain ⟨_, _, _, _, rfl, _⟩ := h; rfl)
    | (obtain ⟨_, _, _, _, _, rfl, _⟩ := h; rfl)
    | (obtain ⟨_, _, _, _, _, _, rfl, _⟩ := h; rfl)
    | (obtain ⟨_, _, _, _, _, _, _, rfl, _⟩ := h; rfl)
    | (obtain ⟨_, h, _⟩ := h; rcases h with rfl | rfl <;> rfl)) (fun f cdv A outer s H E hr => dv_choices B C ih (by omega) f cdv A outer s H E hr) (r_choices n)
abbrev s_fewest_cuts : Stmt := top 49
abbrev n_fewest_cuts : List Str := ["show", "name", "height", "many", "some", "left", "cord"]
theorem sc_fewest_cuts : FnScope n_fewest_cuts ["show", "name", "height"] (defScope s_fewest_cuts) := ⟨rfl, rfl, rfl, by decide +kernel, rfl, by decide +kernel, by decide +kernel⟩
theorem dv_fewest_cuts {k : Nat} (B : Blt mg) (C : Cst K mg) {T_choices : TJ} {k_choices : Nat} {ps_choices : List Str} (F_choices : FnJ P w K mg base k_choices "choices" ps_choices T_choices) (e_choices : k_choices ≤ k) {T_is_less : TJ} {k_is_less : Nat} {ps_is_less : List Str} (F_is_less : FnJ P w K mg base k_is_less "is_less" ps_is_less T_is_less) (e_is_less : k_is_less ≤ k) {T_all_heights : TJ} {k_all_heights : Nat} {ps_all_heights : List Str} (F_all_heights : FnJ P w K mg base k_all_heights "all_heights" ps_all_heights T_all_heights) (e_all_heights : k_all_heights ≤ k) {T_need_height : TJ} {k_need_height : Nat} {ps_need_height : List Str} (F_need_height : FnJ P w K mg base k_need_height "need_height" ps_need_height T_need_height) (e_need_height : k_need_height ≤ k) {T_need_name : TJ} {k_need_name : Nat} {ps_need_name : List Str} (F_need_name : FnJ P w K mg base k_need_name "need_name" ps_need_name T_need_name) (e_need_name : k_need_name ≤ k) {T_need_show : TJ} {k_need_show : Nat} {ps_need_show : List Str} (F_need_show : FnJ P w K mg base k_need_show "need_show" ps_need_show T_need_show) (e_need_show : k_need_show ≤ k)
    (f : Addr) (cdv : Value) (A : Around) (outer : List Env) (s : Shared) (H : Hp) (E : XK) (hr : Room k (A.deeper (envOfC "fewest_cuts" (defScope s_fewest_cuts) s.heap.objs.size f cdv))) :
    JSs (cxOf CX0 P w K mg base n_fewest_cuts "fewest_cuts" (defScope s_fewest_cuts) f cdv A outer s H E).nox E (defBody s_fewest_cuts) (j_fewest_cuts T_choices T_is_less T_all_heights T_need_height T_need_name T_need_show) := by
  have hr_choices := hr.mono e_choices
  have hr_is_less := hr.mono e_is_less
  have hr_all_heights := hr.mono e_all_heights
  have hr_need_height := hr.mono e_need_height
  have hr_need_name := hr.mono e_need_name
  have hr_need_show := hr.mono e_need_show
  have hu1 := hu_of hr
  have hu64 := hr.units
  have hu65 := units65 hr
  have nd := sc_fewest_cuts.nd
  have po := @PassesOwn.never
  exact jss_cons (js_expr (je_callJ F_need_show hr_need_show (ja_cons (je_var 0) (ja_nil))))
    (jss_cons (js_expr (je_callJ F_need_name hr_need_name (ja_cons (je_var 0) (ja_cons (je_var 1) (ja_nil)))))
    (jss_cons (js_expr (je_callJ F_need_height hr_need_height (ja_cons (je_var 2) (ja_nil))))
    (jss_cons (js_for po (ji_range1 (by rfl) B.range (ja_cons (je_op oj_add (jb_len B (ja_cons (je_ix (je_var 0) (je_int)) (ja_nil))) (je_int)) (ja_nil))) (jg_name (i := 3) nd rfl (.inl rfl)) (jss_one (js_for po (ji_list (je_callJ F_choices hr_choices (ja_cons (je_ix (je_var 0) (je_int)) (ja_cons (je_var 3) (ja_nil))))) (jg_name (i := 4) nd rfl (.inr rfl)) (jss_cons (js_set (i := 5) nd rfl (.inl rfl) (je_tup (ja_cons (je_ix (je_var 0) (je_int)) (ja_cons (jb_tuple B (ja_cons (je_lc (own := [("cord", 6)]) rfl nd (ji_tup (je_ix (je_var 0) (je_int))) (blkOk_by (N := n_fewest_cuts) (sc := defScope s_fewest_cuts) (own := [("cord", 6)]) (by decide +kernel)) (fun _ _ _ _ _ => jgw_name (i := 6) nd rfl (.inl rfl) (by decide)) (fun _ _ _ _ _ => jts_one (jt_cmp (oj_notIn hu65) (je_var 6) (je_var 4))) (fun _ _ _ _ _ => je_var 6)) (ja_nil))) (ja_nil)))))
    (jss_one (js_if (jt_not (jt_val (je_callJ F_is_less hr_is_less (ja_cons (je_dget hu1 (je_callJ F_all_heights hr_all_heights (ja_cons (je_var 5) (ja_cons (je_dnew) (ja_nil)))) (je_var 1)) (ja_cons (je_var 2) (ja_nil)))))) (jss_one (js_ret (je_var 4))) (jss_nil)))))))
    (jss_one (js_ret (je_non))))))
theorem fn_fewest_cuts (B : Blt mg) (C : Cst K mg) (D : Defs K mg) : FnJ P w K mg base 18 "fewest_cuts" ["show", "name", "height"] (T_fewest) :=
  D.d_fewest_cuts.fnjW (k := 17) (T := T_fewest) sc_fewest_cuts (by
    intro xs M Φ Ψ h
    first
    | (obtain ⟨_, rfl, _⟩ := h; rfl)
    | (obtain ⟨_, _, rfl, _⟩ := h; rfl)
    | (obtain ⟨_, _, _, rfl, _⟩ := h; rfl)
    | (obtain ⟨_, _, _, _, rfl, _⟩ := h; rfl)
    | (obtain ⟨_, _, _, _, _, rfl, _⟩ := h; rfl)
    | (obtain ⟨_, _, _, _, _, _, rfl, _⟩ := h; rfl)
    | (obtain ⟨_, _, _, _, _, _, _, rfl, _⟩ := h; rfl)
    | (obtain ⟨_, h, _⟩ := h; rcases h with rfl | rfl <;> rfl)) (fun f cdv A outer s H E hr => dv_fewest_cuts B C (fn_choices B C D 9) (by omega) (fn_is_less B C D) (by omega) (fn_all_heights B C D) (by omega) (fn_need_height B C D) (by omega) (fn_need_name B C D) (by omega) (fn_need_show B C D) (by omega) f cdv A outer s H E hr) (r_fewest)
abbrev s__law_well : Stmt := top 51
abbrev n__law_well : List Str := ["script", "k", "cell", "primes", "seed"]
theorem sc__law_well : FnScope n__law_well ["script", "k"] (defScope s__law_well) := ⟨rfl, rfl, rfl, by decide +kernel, rfl, by decide +kernel, by decide +kernel⟩
theorem dv__law_well {k : Nat} (B : Blt mg) (C : Cst K mg) 
    (f : Addr) (cdv : Value) (A : Around) (outer : List Env) (s : Shared) (H : Hp) (E : XK) (hr : Room k (A.deeper (envOfC "_law_well" (defScope s__law_well) s.heap.objs.size f cdv))) :
    JSs (cxOf CX0 P w K mg base n__law_well "_law_well" (defScope s__law_well) f cdv A outer s H E).nox E (defBody s__law_well) (j__law_well K ) := by
  have hu1 := hu_of hr
  have hu64 := hr.units
  have hu65 := units65 hr
  have nd := sc__law_well.nd
  have po := @PassesOwn.never
  exact jss_cons (js_set (i := 2) nd rfl (.inl rfl) (je_int))
    (jss_cons (js_if (jt_cmp (oj_lt) (je_var 1) (jb_lenSc B (ja_cons (je_var 0) (ja_nil)))) (jss_one (js_set (i := 2) nd rfl (.inl rfl) (je_ixSc (je_var 0) (je_var 1)))) (jss_nil))
    (jss_cons (js_set (i := 3) nd rfl (.inl rfl) (je_lstD (ja_cons (je_int) (ja_cons (je_int) (ja_cons (je_int) (ja_cons (je_int) (ja_cons (je_int) (ja_cons (je_int) (ja_cons (je_int) (ja_cons (je_int) (ja_nil)))))))))))
    (jss_cons (js_set (i := 4) nd rfl (.inl rfl) (je_op oj_mod (je_op oj_mul (je_op oj_add (je_op oj_mod (je_var 2) (je_int)) (je_int)) (je_op oj_add (je_int) (je_op oj_mul (je_int) (je_var 1)))) (je_int)))
    (jss_cons (js_set (i := 4) nd rfl (.inl rfl) (je_op oj_add (je_op oj_add (je_op oj_mod (je_op oj_mul (je_var 4) (je_var 4)) (je_int)) (je_var 1)) (je_int)))
    (jss_cons (js_if (jt_cmp (oj_ge) (je_var 2) (je_op oj_pow (je_int) (je_int))) (jss_one (js_ret (je_lstC (ja_cons (je_var 2) (ja_cons (je_var 4) (ja_cons (je_ix (je_var 3) (je_op oj_mod (je_var 1) (je_int))) (ja_nil))))))) (jss_nil))
    (jss_one (js_ret (je_lstC (ja_cons (je_int) (ja_cons (je_var 4) (ja_cons (je_ix (je_var 3) (je_op oj_mod (je_var 1) (je_int))) (ja_nil))))))))))))
theorem fn__law_well (B : Blt mg) (C : Cst K mg) (D : Defs K mg) : FnJ P w K mg base 1 "_law_well" ["script", "k"] (T_well K) :=
  D.d__law_well.fnj (k := 0) (T := T_well K) sc__law_well (by
    intro xs M Φ Ψ h
    first
    | (obtain ⟨_, rfl, _⟩ := h; rfl)
    | (obtain ⟨_, _, rfl, _⟩ := h; rfl)
    | (obtain ⟨_, _, _, rfl, _⟩ := h; rfl)
    | (obtain ⟨_, _, _, _, rfl, _⟩ := h; rfl)
    | (obtain ⟨_, _, _, _, _, rfl, _⟩ := h; rfl)
    | (obtain ⟨_, _, _, _, _, _, rfl, _⟩ := h; rfl)
    | (obtain ⟨_, _, _, _, _, _, _, rfl, _⟩ := h; rfl)
    | (obtain ⟨_, h, _⟩ := h; rcases h with rfl | rfl <;> rfl)) (fun f cdv A outer s H E hr => dv__law_well B C  f cdv A outer s H E hr) (r_well K)
abbrev s__law_take : Stmt := top 52
abbrev n__law_take : List Str := ["well", "many", "drew"]
theorem sc__law_take : FnScope n__law_take ["well", "many"] (defScope s__law_take) := ⟨rfl, rfl, rfl, by decide +kernel, rfl, by decide +kernel, by decide +kernel⟩
theorem dv__law_take {k : Nat} (B : Blt mg) (C : Cst K mg) 
    (f : Addr) (cdv : Value) (A : Around) (outer : List Env) (s : Shared) (H : Hp) (E : XK) (hr : Room k (A.deeper (envOfC "_law_take" (defScope s__law_take) s.heap.objs.size f cdv))) :
    JSs (cxOf CX0 P w K mg base n__law_take "_law_take" (defScope s__law_take) f cdv A outer s H E).nox E (defBody s__law_take) (j__law_take ) := by
  have hu1 := hu_of hr
  have hu64 := hr.units
  have hu65 := units65 hr
  have nd := sc__law_take.nd
  have po := @PassesOwn.never
  exact jss_cons (js_if (jt_cmp (oj_gt) (je_ix (je_var 0) (je_int)) (je_int)) (jss_cons (js_set (i := 2) nd rfl (.inl rfl) (je_op oj_mod (je_ix (je_var 0) (je_int)) (je_var 1)))
    (jss_cons (js_asg (je_op oj_fdiv (je_ix (je_var 0) (je_int)) (je_var 1)) (jg_lset (je_var 0) (je_int)))
    (jss_one (js_ret (je_var 2))))) (jss_nil))
    (jss_cons (js_asg (je_op oj_add (je_op oj_mod (je_op oj_mul (je_ix (je_var 0) (je_int)) (je_int)) (je_ix (je_var 0) (je_int))) (je_int)) (jg_lset (je_var 0) (je_int)))
    (jss_one (js_ret (je_op oj_mod (je_op oj_fdiv (je_op oj_mod (je_op oj_mul (je_ix (je_var 0) (je_int)) (je_ix (je_var 0) (je_int))) (je_int)) (je_int)) (je_var 1)))))
theorem fn__law_take (B : Blt mg) (C : Cst K mg) (D : Defs K mg) : FnJ P w K mg base 1 "_law_take" ["well", "many"] (T_take) :=
  D.d__law_take.fnj (k := 0) (T := T_take) sc__law_take (by
    intro xs M Φ Ψ h
    first
    | (obtain ⟨_, rfl, _⟩ := h; rfl)
    | (obtain ⟨_, _, rfl, _⟩ := h; rfl)
    | (obtain ⟨_, _, _, rfl, _⟩ := h; rfl)
    | (obtain ⟨_, _, _, _, rfl, _⟩ := h; rfl)
    | (obtain ⟨_, _, _, _, _, rfl, _⟩ := h; rfl)
    | (obtain ⟨_, _, _, _, _, _, rfl, _⟩ := h; rfl)
    | (obtain ⟨_, _, _, _, _, _, _, rfl, _⟩ := h; rfl)
    | (obtain ⟨_, h, _⟩ := h; rcases h with rfl | rfl <;> rfl)) (fun f cdv A outer s H E hr => dv__law_take B C  f cdv A outer s H E hr) (r_take)
abbrev s__law_frac : Stmt := top 53
abbrev n__law_frac : List Str := ["top", "bottom", "one", "other"]
theorem sc__law_frac : FnScope n__law_frac ["top", "bottom"] (defScope s__law_frac) := ⟨rfl, rfl, rfl, by decide +kernel, rfl, by decide +kernel, by decide +kernel⟩
theorem dv__law_frac {k : Nat} (B : Blt mg) (C : Cst K mg) 
    (f : Addr) (cdv : Value) (A : Around) (outer : List Env) (s : Shared) (H : Hp) (E : XK) (hr : Room k (A.deeper (envOfC "_law_frac" (defScope s__law_frac) s.heap.objs.size f cdv))) :
    JSs (cxOf CX0 P w K mg base n__law_frac "_law_frac" (defScope s__law_frac) f cdv A outer s H E).nox E (defBody s__law_frac) (j__law_frac ) := by
  have hu1 := hu_of hr
  have hu64 := hr.units
  have hu65 := units65 hr
  have nd := sc__law_frac.nd
  have po := @PassesOwn.never
  exact jss_cons (js_par (i := 2) (j := 3) rfl nd rfl rfl (by decide) rfl rfl (ja_cons (jb_abs B (ja_cons (je_var 0) (ja_nil))) (ja_cons (jb_abs B (ja_cons (je_var 1) (ja_nil))) (ja_nil))) (by rfl))
    (jss_cons (js_while po (jt_cmp (oj_gt) (je_var 3) (je_int)) (jss_one (js_par (i := 2) (j := 3) rfl nd rfl rfl (by decide) rfl rfl (ja_cons (je_var 3) (ja_cons (je_op oj_mod (je_var 2) (je_var 3)) (ja_nil))) (by rfl))))
    (jss_cons (js_set (i := 2) nd rfl (.inl rfl) (je_if (jt_cmp (oj_gt) (je_var 1) (je_int)) (je_var 2) (je_un uj_neg (je_var 2))))
    (jss_one (js_ret (je_tup (ja_cons (je_op oj_fdiv (je_var 0) (je_var 2)) (ja_cons (je_op oj_fdiv (je_var 1) (je_var 2)) (ja_nil))))))))
theorem fn__law_frac (B : Blt mg) (C : Cst K mg) (D : Defs K mg) : FnJ P w K mg base 1 "_law_frac" ["top", "bottom"] (T_fraction) :=
  D.d__law_frac.fnj (k := 0) (T := T_fraction) sc__law_frac (by
    intro xs M Φ Ψ h
    first
    | (obtain ⟨_, rfl, _⟩ := h; rfl)
    | (obtain ⟨_, _, rfl, _⟩ := h; rfl)
    | (obtain ⟨_, _, _, rfl, _⟩ := h; rfl)
    | (obtain ⟨_, _, _, _, rfl, _⟩ := h; rfl)
    | (obtain ⟨_, _, _, _, _, rfl, _⟩ := h; rfl)
    | (obtain ⟨_, _, _, _, _, _, rfl, _⟩ := h; rfl)
    | (obtain ⟨_, _, _, _, _, _, _, rfl, _⟩ := h; rfl)
    | (obtain ⟨_, h, _⟩ := h; rcases h with rfl | rfl <;> rfl)) (fun f cdv A outer s H E hr => dv__law_frac B C  f cdv A outer s H E hr) (r_lfrac)
abbrev s__law_plus : Stmt := top 54
abbrev n__law_plus : List Str := ["one", "other"]
theorem sc__law_plus : FnScope n__law_plus ["one", "other"] (defScope s__law_plus) := ⟨rfl, rfl, rfl, by decide +kernel, rfl, by decide +kernel, by decide +kernel⟩
theorem dv__law_plus {k : Nat} (B : Blt mg) (C : Cst K mg) {T__law_frac : TJ} {k__law_frac : Nat} {ps__law_frac : List Str} (F__law_frac : FnJ P w K mg base k__law_frac "_law_frac" ps__law_frac T__law_frac) (e__law_frac : k__law_frac ≤ k)
    (f : Addr) (cdv : Value) (A : Around) (outer : List Env) (s : Shared) (H : Hp) (E : XK) (hr : Room k (A.deeper (envOfC "_law_plus" (defScope s__law_plus) s.heap.objs.size f cdv))) :
    JSs (cxOf CX0 P w K mg base n__law_plus "_law_plus" (defScope s__law_plus) f cdv A outer s H E).nox E (defBody s__law_plus) (j__law_plus T__law_frac) := by
  have hr__law_frac := hr.mono e__law_frac
  have hu1 := hu_of hr
  have hu64 := hr.units
  have hu65 := units65 hr
  have nd := sc__law_plus.nd
  have po := @PassesOwn.never
  exact jss_one (js_ret (je_callJ F__law_frac hr__law_frac (ja_cons (je_op oj_add (je_op oj_mul (je_ix (je_var 0) (je_int)) (je_ix (je_var 1) (je_int))) (je_op oj_mul (je_ix (je_var 1) (je_int)) (je_ix (je_var 0) (je_int)))) (ja_cons (je_op oj_mul (je_ix (je_var 0) (je_int)) (je_ix (je_var 1) (je_int))) (ja_nil)))))
theorem fn__law_plus (B : Blt mg) (C : Cst K mg) (D : Defs K mg) : FnJ P w K mg base 2 "_law_plus" ["one", "other"] (T_plus) :=
  D.d__law_plus.fnj (k := 1) (T := T_plus) sc__law_plus (by
    intro xs M Φ Ψ h
    first
    | (obtain ⟨_, rfl, _⟩ := h; rfl)
    | (obtain ⟨_, _, rfl, _⟩ := h; rfl)
    | (obtain ⟨_, _, _, rfl, _⟩ := h; rfl)
    | (obtain ⟨_, _, _, _, rfl, _⟩ := h; rfl)
    | (obtain ⟨_, _, _, _, _, rfl, _⟩ := h; rfl)
    | (obtain ⟨_, _, _, _, _, _, rfl, _⟩ := h; rfl)
    | (obtain ⟨_, _, _, _, _, _, _, rfl, _⟩ := h; rfl)
    | (obtain ⟨_, h, _⟩ := h; rcases h with rfl | rfl <;> rfl)) (fun f cdv A outer s H E hr => dv__law_plus B C (fn__law_frac B C D) (by omega) f cdv A outer s H E hr) (r_lplus)
abbrev s__law_less : Stmt := top 55
abbrev n__law_less : List Str := ["one", "other"]
theorem sc__law_less : FnScope n__law_less ["one", "other"] (defScope s__law_less) := ⟨rfl, rfl, rfl, by decide +kernel, rfl, by decide +kernel, by decide +kernel⟩
theorem dv__law_less {k : Nat} (B : Blt mg) (C : Cst K mg) 
    (f : Addr) (cdv : Value) (A : Around) (outer : List Env) (s : Shared) (H : Hp) (E : XK) (hr : Room k (A.deeper (envOfC "_law_less" (defScope s__law_less) s.heap.objs.size f cdv))) :
    JSs (cxOf CX0 P w K mg base n__law_less "_law_less" (defScope s__law_less) f cdv A outer s H E).nox E (defBody s__law_less) (j__law_less ) := by
  have hu1 := hu_of hr
  have hu64 := hr.units
  have hu65 := units65 hr
  have nd := sc__law_less.nd
  have po := @PassesOwn.never
  exact jss_one (js_ret (je_cmp (oj_lt) (je_op oj_mul (je_ix (je_var 0) (je_int)) (je_ix (je_var 1) (je_int))) (je_op oj_mul (je_ix (je_var 1) (je_int)) (je_ix (je_var 0) (je_int)))))
theorem fn__law_less (B : Blt mg) (C : Cst K mg) (D : Defs K mg) : FnJ P w K mg base 1 "_law_less" ["one", "other"] (T_is_less) :=
  D.d__law_less.fnj (k := 0) (T := T_is_less) sc__law_less (by
    intro xs M Φ Ψ h
    first
    | (obtain ⟨_, rfl, _⟩ := h; rfl)
    | (obtain ⟨_, _, rfl, _⟩ := h; rfl)
    | (obtain ⟨_, _, _, rfl, _⟩ := h; rfl)
    | (obtain ⟨_, _, _, _, rfl, _⟩ := h; rfl)
    | (obtain ⟨_, _, _, _, _, rfl, _⟩ := h; rfl)
    | (obtain ⟨_, _, _, _, _, _, rfl, _⟩ := h; rfl)
    | (obtain ⟨_, _, _, _, _, _, _, rfl, _⟩ := h; rfl)
    | (obtain ⟨_, h, _⟩ := h; rcases h with rfl | rfl <;> rfl)) (fun f cdv A outer s H E hr => dv__law_less B C  f cdv A outer s H E hr) (r_lless)
abbrev s__law_balloon : Stmt := top 56
abbrev n__law_balloon : List Str := ["well", "name", "wide", "own"]
theorem sc__law_balloon : FnScope n__law_balloon ["well", "name", "wide"] (defScope s__law_balloon) := ⟨rfl, rfl, rfl, by decide +kernel, rfl, by decide +kernel, by decide +kernel⟩
theorem dv__law_balloon {k : Nat} (B : Blt mg) (C : Cst K mg) {T__law_take : TJ} {k__law_take : Nat} {ps__law_take : List Str} (F__law_take : FnJ P w K mg base k__law_take "_law_take" ps__law_take T__law_take) (e__law_take : k__law_take ≤ k)
    (f : Addr) (cdv : Value) (A : Around) (outer : List Env) (s : Shared) (H : Hp) (E : XK) (hr : Room k (A.deeper (envOfC "_law_balloon" (defScope s__law_balloon) s.heap.objs.size f cdv))) :
    JSs (cxOf CX0 P w K mg base n__law_balloon "_law_balloon" (defScope s__law_balloon) f cdv A outer s H E).nox E (defBody s__law_balloon) (j__law_balloon T__law_take) := by
  have hr__law_take := hr.mono e__law_take
  have hu1 := hu_of hr
  have hu64 := hr.units
  have hu65 := units65 hr
  have nd := sc__law_balloon.nd
  have po := @PassesOwn.never
  exact jss_cons (js_set (i := 3) nd rfl (.inl rfl) (je_op oj_sub (je_callJ F__law_take hr__law_take (ja_cons (je_var 0) (ja_cons (je_op oj_add (je_var 2) (je_int)) (ja_nil)))) (je_ix (je_lstD (ja_cons (je_int) (ja_cons (je_int) (ja_cons (je_op oj_fdiv (je_var 2) (je_int)) (ja_cons (je_var 2) (ja_nil)))))) (je_callJ F__law_take hr__law_take (ja_cons (je_var 0) (ja_cons (je_int) (ja_nil)))))))
    (jss_one (js_ret (je_tup (ja_cons (je_var 1) (ja_cons (je_var 3) (ja_cons (je_op oj_add (je_int) (je_callJ F__law_take hr__law_take (ja_cons (je_var 0) (ja_cons (je_if (jt_cmp (oj_gt) (je_var 2) (je_int)) (je_ix (je_lstD (ja_cons (je_int) (ja_cons (je_int) (ja_cons (je_int) (ja_nil))))) (je_callJ F__law_take hr__law_take (ja_cons (je_var 0) (ja_cons (je_int) (ja_nil))))) (je_int)) (ja_nil))))) (ja_nil)))))))
theorem fn__law_balloon (B : Blt mg) (C : Cst K mg) (D : Defs K mg) : FnJ P w K mg base 2 "_law_balloon" ["well", "name", "wide"] (T_lballoon) :=
  D.d__law_balloon.fnj (k := 1) (T := T_lballoon) sc__law_balloon (by
    intro xs M Φ Ψ h
    first
    | (obtain ⟨_, rfl, _⟩ := h; rfl)
    | (obtain ⟨_, _, rfl, _⟩ := h; rfl)
    | (obtain ⟨_, _, _, rfl, _⟩ := h; rfl)
    | (obtain ⟨_, _, _, _, rfl, _⟩ := h; rfl)
    | (obtain ⟨_, _, _, _, _, rfl, _⟩ := h; rfl)
    | (obtain ⟨_, _, _, _, _, _, rfl, _⟩ := h; rfl)
    | (obtain ⟨_, _, _, _, _, _, _, rfl, _⟩ := h; rfl)
    | (obtain ⟨_, h, _⟩ := h; rcases h with rfl | rfl <;> rfl)) (fun f cdv A outer s H E hr => dv__law_balloon B C (fn__law_take B C D) (by omega) f cdv A outer s H E hr) (r_lballoon)
abbrev s__law_show : Stmt := top 57
abbrev n__law_show : List Str := ["well", "most", "wide", "names", "balloons", "cords", "left", "had", "one", "other", "long", "name"]
theorem sc__law_show : FnScope n__law_show ["well", "most", "wide"] (defScope s__law_show) := ⟨rfl, rfl, rfl, by decide +kernel, rfl, by decide +kernel, by decide +kernel⟩
theorem dv__law_show {k : Nat} (B : Blt mg) (C : Cst K mg) {T__law_take : TJ} {k__law_take : Nat} {ps__law_take : List Str} (F__law_take : FnJ P w K mg base k__law_take "_law_take" ps__law_take T__law_take) (e__law_take : k__law_take ≤ k) {T__law_balloon : TJ} {k__law_balloon : Nat} {ps__law_balloon : List Str} (F__law_balloon : FnJ P w K mg base k__law_balloon "_law_balloon" ps__law_balloon T__law_balloon) (e__law_balloon : k__law_balloon ≤ k)
    (f : Addr) (cdv : Value) (A : Around) (outer : List Env) (s : Shared) (H : Hp) (E : XK) (hr : Room k (A.deeper (envOfC "_law_show" (defScope s__law_show) s.heap.objs.size f cdv))) :
    JSs (cxOf CX0 P w K mg base n__law_show "_law_show" (defScope s__law_show) f cdv A outer s H E).nox E (defBody s__law_show) (j__law_show T__law_take T__law_balloon) := by
  have hr__law_take := hr.mono e__law_take
  have hr__law_balloon := hr.mono e__law_balloon
  have hu1 := hu_of hr
  have hu64 := hr.units
  have hu65 := units65 hr
  have nd := sc__law_show.nd
  have po := @PassesOwn.never
  exact jss_cons (js_set (i := 3) nd rfl (.inl rfl) (je_slL (je_lstD (ja_cons (je_str) (ja_cons (je_str) (ja_cons (je_str) (ja_cons (je_str) (ja_cons (je_str) (ja_cons (je_str) (ja_cons (je_str) (ja_cons (je_str) (ja_nil)))))))))) (jo_none) (jo_some (je_op oj_add (je_int) (je_callJ F__law_take hr__law_take (ja_cons (je_var 0) (ja_cons (je_var 1) (ja_nil))))))))
    (jss_cons (js_set (i := 4) nd rfl (.inl rfl) (jb_tuple B (ja_cons (je_lc (own := [("name", 11)]) rfl nd (ji_list (je_var 3)) (blkOk_by (N := n__law_show) (sc := defScope s__law_show) (own := [("name", 11)]) (by decide +kernel)) (fun _ _ _ _ _ => jgw_name (i := 11) nd rfl (.inl rfl) (by decide)) (fun _ _ _ _ _ => jts_nil) (fun _ _ _ _ _ => je_callJ F__law_balloon hr__law_balloon (ja_cons (je_var 0) (ja_cons (je_var 11) (ja_cons (je_var 2) (ja_nil)))))) (ja_nil))))
    (jss_cons (js_par3 (i := 5) (j := 6) (l := 7) rfl nd rfl rfl rfl (by decide) (by decide) (by decide) rfl rfl rfl (ja_cons (je_lstC (ja_nil)) (ja_cons (jb_list B (ja_cons (je_var 3) (ja_nil))) (ja_cons (je_lstC (ja_nil)) (ja_nil)))) (by rfl))
    (jss_cons (js_while po (jt_cmp (oj_ne hu64) (je_var 6) (je_lstD (ja_nil))) (jss_cons (js_set (i := 8) nd rfl (.inl rfl) (je_lm PySem.F.slot_list_pop PySem.F.type_list_pop mj_popAt (je_var 6) (ja_cons (je_callJ F__law_take hr__law_take (ja_cons (je_var 0) (ja_cons (jb_len B (ja_cons (je_var 6) (ja_nil))) (ja_nil)))) (ja_nil))))
    (jss_cons (js_if (jt_w (jw_and (jt_cmp (oj_ne hu64) (je_var 7) (je_lstD (ja_nil))) (jw_and1 (jt_cmp (oj_gt) (je_callJ F__law_take hr__law_take (ja_cons (je_var 0) (ja_cons (je_int) (ja_nil)))) (je_int))))) (jss_cons (js_set (i := 9) nd rfl (.inl rfl) (je_ix (je_var 7) (je_callJ F__law_take hr__law_take (ja_cons (je_var 0) (ja_cons (jb_len B (ja_cons (je_var 7) (ja_nil))) (ja_nil))))))
    (jss_cons (js_set (i := 10) nd rfl (.inl rfl) (je_ix (je_lstD (ja_cons (je_int) (ja_cons (je_callJ F__law_take hr__law_take (ja_cons (je_var 0) (ja_cons (je_int) (ja_nil)))) (ja_cons (je_callJ F__law_take hr__law_take (ja_cons (je_var 0) (ja_cons (je_op oj_add (je_op oj_fdiv (je_var 2) (je_int)) (je_int)) (ja_nil)))) (ja_nil))))) (je_callJ F__law_take hr__law_take (ja_cons (je_var 0) (ja_cons (je_int) (ja_nil))))))
    (jss_one (js_expr (je_lm PySem.F.slot_list_append PySem.F.type_list_append mj_append (je_var 5) (ja_cons (je_tup (ja_cons (jb_minS B (ja_cons (je_var 8) (ja_cons (je_var 9) (ja_nil)))) (ja_cons (jb_maxS B (ja_cons (je_var 8) (ja_cons (je_var 9) (ja_nil)))) (ja_cons (je_var 10) (ja_nil))))) (ja_nil))))))) (jss_nil))
    (jss_one (js_expr (je_lm PySem.F.slot_list_append PySem.F.type_list_append mj_append (je_var 7) (ja_cons (je_var 8) (ja_nil))))))))
    (jss_one (js_ret (je_tup (ja_cons (je_var 4) (ja_cons (jb_tuple B (ja_cons (jb_sorted B hu64 (ja_cons (je_var 5) (ja_nil))) (ja_nil))) (ja_nil)))))))))
theorem fn__law_show (B : Blt mg) (C : Cst K mg) (D : Defs K mg) : FnJ P w K mg base 3 "_law_show" ["well", "most", "wide"] (T_lshow) :=
  D.d__law_show.fnjW (k := 2) (T := T_lshow) sc__law_show (by
    intro xs M Φ Ψ h
    first
    | (obtain ⟨_, rfl, _⟩ := h; rfl)
    | (obtain ⟨_, _, rfl, _⟩ := h; rfl)
    | (obtain ⟨_, _, _, rfl, _⟩ := h; rfl)
    | (obtain ⟨_, _, _, _, rfl, _⟩ := h; rfl)
    | (obtain ⟨_, _, _, _, _, rfl, _⟩ := h; rfl)
    | (obtain ⟨_, _, _, _, _, _, rfl, _⟩ := h; rfl)
    | (obtain ⟨_, _, _, _, _, _, _, rfl, _⟩ := h; rfl)
    | (obtain ⟨_, h, _⟩ := h; rcases h with rfl | rfl <;> rfl)) (fun f cdv A outer s H E hr => dv__law_show B C (fn__law_take B C D) (by omega) (fn__law_balloon B C D) (by omega) f cdv A outer s H E hr) (r_lshow)
abbrev s__law_at : Stmt := top 58
abbrev n__law_at : List Str := ["show", "name"]
theorem sc__law_at : FnScope n__law_at ["show", "name"] (defScope s__law_at) := ⟨rfl, rfl, rfl, by decide +kernel, rfl, by decide +kernel, by decide +kernel⟩
theorem dv__law_at {k : Nat} (B : Blt mg) (C : Cst K mg) {T_heights : TJ} {k_heights : Nat} {ps_heights : List Str} (F_heights : FnJ P w K mg base k_heights "heights" ps_heights T_heights) (e_heights : k_heights ≤ k)
    (f : Addr) (cdv : Value) (A : Around) (outer : List Env) (s : Shared) (H : Hp) (E : XK) (hr : Room k (A.deeper (envOfC "_law_at" (defScope s__law_at) s.heap.objs.size f cdv))) :
    JSs (cxOf CX0 P w K mg base n__law_at "_law_at" (defScope s__law_at) f cdv A outer s H E).nox E (defBody s__law_at) (j__law_at T_heights) := by
  have hr_heights := hr.mono e_heights
  have hu1 := hu_of hr
  have hu64 := hr.units
  have hu65 := units65 hr
  have nd := sc__law_at.nd
  have po := @PassesOwn.never
  exact jss_one (js_ret (je_dget hu1 (jb_dictL B (ja_cons (je_callJ F_heights hr_heights (ja_cons (je_var 0) (ja_nil))) (ja_nil))) (je_var 1)))
theorem fn__law_at (B : Blt mg) (C : Cst K mg) (D : Defs K mg) : FnJ P w K mg base 19 "_law_at" ["show", "name"] (T_at) :=
  D.d__law_at.fnjW (k := 18) (T := T_at) sc__law_at (by
    intro xs M Φ Ψ h
    first
    | (obtain ⟨_, rfl, _⟩ := h; rfl)
    | (obtain ⟨_, _, rfl, _⟩ := h; rfl)
    | (obtain ⟨_, _, _, rfl, _⟩ := h; rfl)
    | (obtain ⟨_, _, _, _, rfl, _⟩ := h; rfl)
    | (obtain ⟨_, _, _, _, _, rfl, _⟩ := h; rfl)
    | (obtain ⟨_, _, _, _, _, _, rfl, _⟩ := h; rfl)
    | (obtain ⟨_, _, _, _, _, _, _, rfl, _⟩ := h; rfl)
    | (obtain ⟨_, h, _⟩ := h; rcases h with rfl | rfl <;> rfl)) (fun f cdv A outer s H E hr => dv__law_at B C (fn_heights B C D) (by omega) f cdv A outer s H E hr) (r_at)
abbrev s__law_lots : Stmt := top 59
abbrev n__law_lots : List Str := ["cords", "found", "cord", "many", "lot"]
theorem sc__law_lots : FnScope n__law_lots ["cords"] (defScope s__law_lots) := ⟨rfl, rfl, rfl, by decide +kernel, rfl, by decide +kernel, by decide +kernel⟩
theorem dv__law_lots {k : Nat} (B : Blt mg) (C : Cst K mg) 
    (f : Addr) (cdv : Value) (A : Around) (outer : List Env) (s : Shared) (H : Hp) (E : XK) (hr : Room k (A.deeper (envOfC "_law_lots" (defScope s__law_lots) s.heap.objs.size f cdv))) :
    JSs (cxOf CX0 P w K mg base n__law_lots "_law_lots" (defScope s__law_lots) f cdv A outer s H E).nox E (defBody s__law_lots) (j__law_lots ) := by
  have hu1 := hu_of hr
  have hu64 := hr.units
  have hu65 := units65 hr
  have nd := sc__law_lots.nd
  have po := @PassesOwn.never
  exact jss_cons (js_set (i := 1) nd rfl (.inl rfl) (je_lstD (ja_cons (je_tup (ja_nil)) (ja_nil))))
    (jss_cons (js_for po (ji_tup (je_var 0)) (jg_name (i := 2) nd rfl (.inr rfl)) (jss_one (js_set (i := 1) nd rfl (.inl rfl) (je_op oj_cat (je_var 1) (je_lc (own := [("lot", 4)]) rfl nd (ji_list (je_var 1)) (blkOk_by (N := n__law_lots) (sc := defScope s__law_lots) (own := [("lot", 4)]) (by decide +kernel)) (fun _ _ _ _ _ => jgw_name (i := 4) nd rfl (.inl rfl) (by decide)) (fun _ _ _ _ _ => jts_nil) (fun _ _ _ _ _ => je_op oj_catT (je_var 4) (je_tup (ja_cons (je_var 2) (ja_nil)))))))))
    (jss_one (js_ret (je_lc (own := [("many", 3), ("lot", 4)]) rfl nd (ji_list (jb_sorted B hu64 (ja_cons (je_lc (own := [("lot", 4)]) rfl nd (ji_list (je_var 1)) (blkOk_by (N := n__law_lots) (sc := defScope s__law_lots) (own := [("lot", 4)]) (by decide +kernel)) (fun _ _ _ _ _ => jgw_name (i := 4) nd rfl (.inl rfl) (by decide)) (fun _ _ _ _ _ => jts_nil) (fun _ _ _ _ _ => je_tup (ja_cons (jb_len B (ja_cons (je_var 4) (ja_nil))) (ja_cons (je_var 4) (ja_nil))))) (ja_nil)))) (blkOk_by (N := n__law_lots) (sc := defScope s__law_lots) (own := [("many", 3), ("lot", 4)]) (by decide +kernel)) (fun _ _ _ _ _ => jgw_tup rfl (jgsw_cons (jgw_name (i := 3) nd rfl (.inl rfl) (by decide)) (jgsw_cons (jgw_name (i := 4) nd rfl (.inl rfl) (by decide)) (jgsw_nil)))) (fun _ _ _ _ _ => jts_nil) (fun _ _ _ _ _ => je_var 4)))))
theorem fn__law_lots (B : Blt mg) (C : Cst K mg) (D : Defs K mg) : FnJ P w K mg base 1 "_law_lots" ["cords"] (T_lots) :=
  D.d__law_lots.fnjW (k := 0) (T := T_lots) sc__law_lots (by
    intro xs M Φ Ψ h
    first
    | (obtain ⟨_, rfl, _⟩ := h; rfl)
    | (obtain ⟨_, _, rfl, _⟩ := h; rfl)
    | (obtain ⟨_, _, _, rfl, _⟩ := h; rfl)
    | (obtain ⟨_, _, _, _, rfl, _⟩ := h; rfl)
    | (obtain ⟨_, _, _, _, _, rfl, _⟩ := h; rfl)
    | (obtain ⟨_, _, _, _, _, _, rfl, _⟩ := h; rfl)
    | (obtain ⟨_, _, _, _, _, _, _, rfl, _⟩ := h; rfl)
    | (obtain ⟨_, h, _⟩ := h; rcases h with rfl | rfl <;> rfl)) (fun f cdv A outer s H E hr => dv__law_lots B C  f cdv A outer s H E hr) (r_lots)
abbrev s_law : Stmt := top 60
abbrev n_law : List Str := ["script", "k", "well", "show", "names", "name", "rows", "lot", "own", "aims", "height", "left", "due", "one", "there", "cord"]
theorem sc_law : FnScope n_law ["script"] (defScope s_law) := ⟨rfl, rfl, rfl, by decide +kernel, rfl, by decide +kernel, by decide +kernel⟩
theorem dv_law {k : Nat} (B : Blt mg) (C : Cst K mg) {T__law_plus : TJ} {k__law_plus : Nat} {ps__law_plus : List Str} (F__law_plus : FnJ P w K mg base k__law_plus "_law_plus" ps__law_plus T__law_plus) (e__law_plus : k__law_plus ≤ k) {T__law_take : TJ} {k__law_take : Nat} {ps__law_take : List Str} (F__law_take : FnJ P w K mg base k__law_take "_law_take" ps__law_take T__law_take) (e__law_take : k__law_take ≤ k) {T_fewest_cuts : TJ} {k_fewest_cuts : Nat} {ps_fewest_cuts : List Str} (F_fewest_cuts : FnJ P w K mg base k_fewest_cuts "fewest_cuts" ps_fewest_cuts T_fewest_cuts) (e_fewest_cuts : k_fewest_cuts ≤ k) {T__law_less : TJ} {k__law_less : Nat} {ps__law_less : List Str} (F__law_less : FnJ P w K mg base k__law_less "_law_less" ps__law_less T__law_less) (e__law_less : k__law_less ≤ k) {T__law_lots : TJ} {k__law_lots : Nat} {ps__law_lots : List Str} (F__law_lots : FnJ P w K mg base k__law_lots "_law_lots" ps__law_lots T__law_lots) (e__law_lots : k__law_lots ≤ k) {T__law_at : TJ} {k__law_at : Nat} {ps__law_at : List Str} (F__law_at : FnJ P w K mg base k__law_at "_law_at" ps__law_at T__law_at) (e__law_at : k__law_at ≤ k) {T__law_show : TJ} {k__law_show : Nat} {ps__law_show : List Str} (F__law_show : FnJ P w K mg base k__law_show "_law_show" ps__law_show T__law_show) (e__law_show : k__law_show ≤ k) {T__law_well : TJ} {k__law_well : Nat} {ps__law_well : List Str} (F__law_well : FnJ P w K mg base k__law_well "_law_well" ps__law_well T__law_well) (e__law_well : k__law_well ≤ k)
    (f : Addr) (cdv : Value) (A : Around) (outer : List Env) (s : Shared) (H : Hp) (E : XK) (hr : Room k (A.deeper (envOfC "law" (defScope s_law) s.heap.objs.size f cdv))) :
    JSs (cxOf CX0 P w K mg base n_law "law" (defScope s_law) f cdv A outer s H E).nox E (defBody s_law) (j_law K T__law_plus T__law_take T_fewest_cuts T__law_less T__law_lots T__law_at T__law_show T__law_well) := by
  have hr__law_plus := hr.mono e__law_plus
  have hr__law_take := hr.mono e__law_take
  have hr_fewest_cuts := hr.mono e_fewest_cuts
  have hr__law_less := hr.mono e__law_less
  have hr__law_lots := hr.mono e__law_lots
  have hr__law_at := hr.mono e__law_at
  have hr__law_show := hr.mono e__law_show
  have hr__law_well := hr.mono e__law_well
  have hu1 := hu_of hr
  have hu64 := hr.units
  have hu65 := units65 hr
  have nd := sc_law.nd
  have po := @PassesOwn.never
  exact jss_cons (js_for po (ji_range1 (by rfl) B.range (ja_cons (jb_max B (ja_cons (je_int) (ja_cons (jb_min B (ja_cons (je_int) (ja_cons (jb_lenSc B (ja_cons (je_var 0) (ja_nil))) (ja_nil)))) (ja_nil)))) (ja_nil))) (jg_name (i := 1) nd rfl (.inl rfl)) (jss_cons (js_set (i := 2) nd rfl (.inl rfl) (je_callJ F__law_well hr__law_well (ja_cons (je_var 0) (ja_cons (je_var 1) (ja_nil)))))
    (jss_cons (js_set (i := 3) nd rfl (.inl rfl) (je_callJ F__law_show hr__law_show (ja_cons (je_var 2) (ja_cons (je_int) (ja_cons (je_ix (je_lstD (ja_cons (je_int) (ja_cons (je_int) (ja_nil)))) (je_callJ F__law_take hr__law_take (ja_cons (je_var 2) (ja_cons (je_int) (ja_nil))))) (ja_nil))))))
    (jss_cons (js_setLc (i := 4) (own := [("one", 13)]) rfl nd rfl rfl (sw_true rfl rfl rfl (by decide +kernel)) (ji_tup (je_ix (je_var 3) (je_int))) (blkOk_by (N := n_law) (sc := defScope s_law) (own := [("one", 13)]) (by decide +kernel)) (fun _ _ _ _ _ => jgw_name (i := 13) nd rfl (.inl rfl) (by decide)) (fun _ _ _ _ _ => jts_nil) (fun _ _ _ _ _ => je_ix (je_var 13) (je_int)))
    (jss_cons (js_set (i := 5) nd rfl (.inr rfl) (je_ix (je_var 4) (je_callJ F__law_take hr__law_take (ja_cons (je_var 2) (ja_cons (jb_len B (ja_cons (je_var 4) (ja_nil))) (ja_nil))))))
    (jss_cons (js_set (i := 6) nd rfl (.inl rfl) (je_lstC (ja_nil)))
    (jss_cons (js_for po (ji_list (je_callJ F__law_lots hr__law_lots (ja_cons (je_ix (je_var 3) (je_int)) (ja_nil)))) (jg_name (i := 7) nd rfl (.inr rfl)) (jss_cons (js_set (i := 11) nd rfl (.inl rfl) (jb_tuple B (ja_cons (je_lc (own := [("cord", 15)]) rfl nd (ji_tup (je_ix (je_var 3) (je_int))) (blkOk_by (N := n_law) (sc := defScope s_law) (own := [("cord", 15)]) (by decide +kernel)) (fun _ _ _ _ _ => jgw_name (i := 15) nd rfl (.inl rfl) (by decide)) (fun _ _ _ _ _ => jts_one (jt_cmp (oj_notIn hu65) (je_var 15) (je_var 7))) (fun _ _ _ _ _ => je_var 15)) (ja_nil))))
    (jss_one (js_expr (je_lm PySem.F.slot_list_append PySem.F.type_list_append mj_append (je_var 6) (ja_cons (je_tup (ja_cons (je_var 7) (ja_cons (je_callJ F__law_at hr__law_at (ja_cons (je_tup (ja_cons (je_ix (je_var 3) (je_int)) (ja_cons (je_var 11) (ja_nil)))) (ja_cons (je_var 5) (ja_nil)))) (ja_nil)))) (ja_nil)))))))
    (jss_cons (js_set (i := 8) nd rfl (.inl rfl) (je_ix (je_lc (own := [("one", 13)]) rfl nd (ji_tup (je_ix (je_var 3) (je_int))) (blkOk_by (N := n_law) (sc := defScope s_law) (own := [("one", 13)]) (by decide +kernel)) (fun _ _ _ _ _ => jgw_name (i := 13) nd rfl (.inl rfl) (by decide)) (fun _ _ _ _ _ => jts_one (jt_cmp (oj_eq hu64) (je_ix (je_var 13) (je_int)) (je_var 5))) (fun _ _ _ _ _ => je_ix (je_var 13) (je_int))) (je_int)))
    (jss_cons (js_set (i := 9) nd rfl (.inl rfl) (je_lstD (ja_cons (je_ix (je_ix (je_var 6) (je_int)) (je_int)) (ja_cons (je_ix (je_ix (je_var 6) (je_callJ F__law_take hr__law_take (ja_cons (je_var 2) (ja_cons (jb_len B (ja_cons (je_var 6) (ja_nil))) (ja_nil))))) (je_int)) (ja_cons (je_ix (je_ix (je_var 6) (je_callJ F__law_take hr__law_take (ja_cons (je_var 2) (ja_cons (jb_len B (ja_cons (je_var 6) (ja_nil))) (ja_nil))))) (je_int)) (ja_cons (je_tup (ja_cons (jb_max B (ja_cons (je_int) (ja_cons (je_var 8) (ja_nil)))) (ja_cons (je_int) (ja_nil)))) (ja_nil)))))))
    (jss_one (js_for po (ji_list (je_op oj_cat (je_var 9) (je_lstD (ja_cons (je_tup (ja_cons (je_callJ F__law_take hr__law_take (ja_cons (je_var 2) (ja_cons (je_int) (ja_nil)))) (ja_cons (je_int) (ja_nil)))) (ja_cons (je_callJ F__law_plus hr__law_plus (ja_cons (je_ix (je_ix (je_var 6) (je_int)) (je_int)) (ja_cons (je_tup (ja_cons (je_int) (ja_cons (je_int) (ja_nil)))) (ja_nil)))) (ja_nil)))))) (jg_name (i := 10) nd rfl (.inr rfl)) (jss_cons (js_setLc (i := 12) (own := [("lot", 7), ("there", 14)]) rfl nd rfl rfl (sw_true rfl rfl rfl (by decide +kernel)) (ji_list (je_var 6)) (blkOk_by (N := n_law) (sc := defScope s_law) (own := [("lot", 7), ("there", 14)]) (by decide +kernel)) (fun _ _ _ _ _ => jgw_tup rfl (jgsw_cons (jgw_name (i := 7) nd rfl (.inl rfl) (by decide)) (jgsw_cons (jgw_name (i := 14) nd rfl (.inl rfl) (by decide)) (jgsw_nil)))) (fun _ _ _ _ _ => jts_one (jt_not (jt_val (je_callJ F__law_less hr__law_less (ja_cons (je_var 14) (ja_cons (je_var 10) (ja_nil))))))) (fun _ _ _ _ _ => je_var 7))
    (jss_one (js_if (jt_cmp (oj_ne hu64) (je_callJ F_fewest_cuts hr_fewest_cuts (ja_cons (je_var 3) (ja_cons (je_var 5) (ja_cons (je_var 10) (ja_nil))))) (je_if (jt_cmp (oj_ne hu64) (je_var 12) (je_lstD (ja_nil))) (je_ix (je_var 12) (je_int)) (je_non))) (jss_one (js_ret (je_bl))) (jss_nil)))))))))))))))
    (jss_one (js_ret (je_bl)))
theorem fn_law (B : Blt mg) (C : Cst K mg) (D : Defs K mg) : FnJ P w K mg base 20 "law" ["script"] (T_law K) :=
  D.d_law.fnjW (k := 19) (T := T_law K) sc_law (by
    intro xs M Φ Ψ h
    first
    | (obtain ⟨_, rfl, _⟩ := h; rfl)
    | (obtain ⟨_, _, rfl, _⟩ := h; rfl)
    | (obtain ⟨_, _, _, rfl, _⟩ := h; rfl)
    | (obtain ⟨_, _, _, _, rfl, _⟩ := h; rfl)
    | (obtain ⟨_, _, _, _, _, rfl, _⟩ := h; rfl)
    | (obtain ⟨_, _, _, _, _, _, rfl, _⟩ := h; rfl)
    | (obtain ⟨_, _, _, _, _, _, _, rfl, _⟩ := h; rfl)
    | (obtain ⟨_, h, _⟩ := h; rcases h with rfl | rfl <;> rfl)) (fun f cdv A outer s H E hr => dv_law B C (fn__law_plus B C D) (by omega) (fn__law_take B C D) (by omega) (fn_fewest_cuts B C D) (by omega) (fn__law_less B C D) (by omega) (fn__law_lots B C D) (by omega) (fn__law_at B C D) (by omega) (fn__law_show B C D) (by omega) (fn__law_well B C D) (by omega) f cdv A outer s H E hr) (r_law K)
end
theorem all_mk {l : PySem.W.OpenLaw} {w : World} {K : PySem.W.Frag} {h : Heap} {mg : Str → Option Value} {fa : Addr} (X : K.In h) (G : h.Ns mainGlobals mg) (hfa : mg "law" = some (.ref fa))
    {f0 : Addr} {od0 an0 : Option Addr} {sl0 : Array (Option Value)} {oc0 kV0 dc0 pm0 cd0 ct0 : Value}
    (a0 : PySem.W.nsIn K mainGlobals "divisor" = some (some (.ref f0))) (l0 : K.lookup f0 = some ⟨oc0, od0, .func (PySem.W.fnOf "divisor" "divisor" (defArgs s_divisor) (defBody s_divisor) (defScope s_divisor) .none kV0 dc0 pm0 an0 cd0 ct0), sl0⟩) (c0 : PySem.W.codeIn K cd0 "divisor" = true) (k0 : PySem.W.keepIn K (.ref f0) = true)
    {f1 : Addr} {od1 an1 : Option Addr} {sl1 : Array (Option Value)} {oc1 kV1 dc1 pm1 cd1 ct1 : Value}
    (a1 : PySem.W.nsIn K mainGlobals "fraction" = some (some (.ref f1))) (l1 : K.lookup f1 = some ⟨oc1, od1, .func (PySem.W.fnOf "fraction" "fraction" (defArgs s_fraction) (defBody s_fraction) (defScope s_fraction) .none kV1 dc1 pm1 an1 cd1 ct1), sl1⟩) (c1 : PySem.W.codeIn K cd1 "fraction" = true) (k1 : PySem.W.keepIn K (.ref f1) = true)
    {f2 : Addr} {od2 an2 : Option Addr} {sl2 : Array (Option Value)} {oc2 kV2 dc2 pm2 cd2 ct2 : Value}
    (a2 : PySem.W.nsIn K mainGlobals "plus" = some (some (.ref f2))) (l2 : K.lookup f2 = some ⟨oc2, od2, .func (PySem.W.fnOf "plus" "plus" (defArgs s_plus) (defBody s_plus) (defScope s_plus) .none kV2 dc2 pm2 an2 cd2 ct2), sl2⟩) (c2 : PySem.W.codeIn K cd2 "plus" = true) (k2 : PySem.W.keepIn K (.ref f2) = true)
    {f3 : Addr} {od3 an3 : Option Addr} {sl3 : Array (Option Value)} {oc3 kV3 dc3 pm3 cd3 ct3 : Value}
    (a3 : PySem.W.nsIn K mainGlobals "minus" = some (some (.ref f3))) (l3 : K.lookup f3 = some ⟨oc3, od3, .func (PySem.W.fnOf "minus" "minus" (defArgs s_minus) (defBody s_minus) (defScope s_minus) .none kV3 dc3 pm3 an3 cd3 ct3), sl3⟩) (c3 : PySem.W.codeIn K cd3 "minus" = true) (k3 : PySem.W.keepIn K (.ref f3) = true)
    {f4 : Addr} {od4 an4 : Option Addr} {sl4 : Array (Option Value)} {oc4 kV4 dc4 pm4 cd4 ct4 : Value}
    (a4 : PySem.W.nsIn K mainGlobals "times" = some (some (.ref f4))) (l4 : K.lookup f4 = some ⟨oc4, od4, .func (PySem.W.fnOf "times" "times" (defArgs s_times) (defBody s_times) (defScope s_times) .none kV4 dc4 pm4 an4 cd4 ct4), sl4⟩) (c4 : PySem.W.codeIn K cd4 "times" = true) (k4 : PySem.W.keepIn K (.ref f4) = true)
    {f5 : Addr} {od5 an5 : Option Addr} {sl5 : Array (Option Value)} {oc5 kV5 dc5 pm5 cd5 ct5 : Value}
    (a5 : PySem.W.nsIn K mainGlobals "shared" = some (some (.ref f5))) (l5 : K.lookup f5 = some ⟨oc5, od5, .func (PySem.W.fnOf "shared" "shared" (defArgs s_shared) (defBody s_shared) (defScope s_shared) .none kV5 dc5 pm5 an5 cd5 ct5), sl5⟩) (c5 : PySem.W.codeIn K cd5 "shared" = true) (k5 : PySem.W.keepIn K (.ref f5) = true)
    {f6 : Addr} {od6 an6 : Option Addr} {sl6 : Array (Option Value)} {oc6 kV6 dc6 pm6 cd6 ct6 : Value}
    (a6 : PySem.W.nsIn K mainGlobals "is_less" = some (some (.ref f6))) (l6 : K.lookup f6 = some ⟨oc6, od6, .func (PySem.W.fnOf "is_less" "is_less" (defArgs s_is_less) (defBody s_is_less) (defScope s_is_less) .none kV6 dc6 pm6 an6 cd6 ct6), sl6⟩) (c6 : PySem.W.codeIn K cd6 "is_less" = true) (k6 : PySem.W.keepIn K (.ref f6) = true)
    {f7 : Addr} {od7 an7 : Option Addr} {sl7 : Array (Option Value)} {oc7 kV7 dc7 pm7 cd7 ct7 : Value}
    (a7 : PySem.W.nsIn K mainGlobals "is_whole" = some (some (.ref f7))) (l7 : K.lookup f7 = some ⟨oc7, od7, .func (PySem.W.fnOf "is_whole" "is_whole" (defArgs s_is_whole) (defBody s_is_whole) (defScope s_is_whole) .none kV7 dc7 pm7 an7 cd7 ct7), sl7⟩) (c7 : PySem.W.codeIn K cd7 "is_whole" = true) (k7 : PySem.W.keepIn K (.ref f7) = true)
    {f8 : Addr} {od8 an8 : Option Addr} {sl8 : Array (Option Value)} {oc8 kV8 dc8 pm8 cd8 ct8 : Value}
    (a8 : PySem.W.nsIn K mainGlobals "is_fraction" = some (some (.ref f8))) (l8 : K.lookup f8 = some ⟨oc8, od8, .func (PySem.W.fnOf "is_fraction" "is_fraction" (defArgs s_is_fraction) (defBody s_is_fraction) (defScope s_is_fraction) .none kV8 dc8 pm8 an8 cd8 ct8), sl8⟩) (c8 : PySem.W.codeIn K cd8 "is_fraction" = true) (k8 : PySem.W.keepIn K (.ref f8) = true)
    {f9 : Addr} {od9 an9 : Option Addr} {sl9 : Array (Option Value)} {oc9 kV9 dc9 pm9 cd9 ct9 : Value}
    (a9 : PySem.W.nsIn K mainGlobals "alone" = some (some (.ref f9))) (l9 : K.lookup f9 = some ⟨oc9, od9, .func (PySem.W.fnOf "alone" "alone" (defArgs s_alone) (defBody s_alone) (defScope s_alone) .none kV9 dc9 pm9 an9 cd9 ct9), sl9⟩) (c9 : PySem.W.codeIn K cd9 "alone" = true) (k9 : PySem.W.keepIn K (.ref f9) = true)
    {f10 : Addr} {od10 an10 : Option Addr} {sl10 : Array (Option Value)} {oc10 kV10 dc10 pm10 cd10 ct10 : Value}
    (a10 : PySem.W.nsIn K mainGlobals "pull_at" = some (some (.ref f10))) (l10 : K.lookup f10 = some ⟨oc10, od10, .func (PySem.W.fnOf "pull_at" "pull_at" (defArgs s_pull_at) (defBody s_pull_at) (defScope s_pull_at) .none kV10 dc10 pm10 an10 cd10 ct10), sl10⟩) (c10 : PySem.W.codeIn K cd10 "pull_at" = true) (k10 : PySem.W.keepIn K (.ref f10) = true)
    {f11 : Addr} {od11 an11 : Option Addr} {sl11 : Array (Option Value)} {oc11 kV11 dc11 pm11 cd11 ct11 : Value}
    (a11 : PySem.W.nsIn K mainGlobals "nought_of" = some (some (.ref f11))) (l11 : K.lookup f11 = some ⟨oc11, od11, .func (PySem.W.fnOf "nought_of" "nought_of" (defArgs s_nought_of) (defBody s_nought_of) (defScope s_nought_of) .none kV11 dc11 pm11 an11 cd11 ct11), sl11⟩) (c11 : PySem.W.codeIn K cd11 "nought_of" = true) (k11 : PySem.W.keepIn K (.ref f11) = true)
    {f12 : Addr} {od12 an12 : Option Addr} {sl12 : Array (Option Value)} {oc12 kV12 dc12 pm12 cd12 ct12 : Value}
    (a12 : PySem.W.nsIn K mainGlobals "in_order" = some (some (.ref f12))) (l12 : K.lookup f12 = some ⟨oc12, od12, .func (PySem.W.fnOf "in_order" "in_order" (defArgs s_in_order) (defBody s_in_order) (defScope s_in_order) .none kV12 dc12 pm12 an12 cd12 ct12), sl12⟩) (c12 : PySem.W.codeIn K cd12 "in_order" = true) (k12 : PySem.W.keepIn K (.ref f12) = true)
    {f13 : Addr} {od13 an13 : Option Addr} {sl13 : Array (Option Value)} {oc13 kV13 dc13 pm13 cd13 ct13 : Value}
    (a13 : PySem.W.nsIn K mainGlobals "both" = some (some (.ref f13))) (l13 : K.lookup f13 = some ⟨oc13, od13, .func (PySem.W.fnOf "both" "both" (defArgs s_both) (defBody s_both) (defScope s_both) .none kV13 dc13 pm13 an13 cd13 ct13), sl13⟩) (c13 : PySem.W.codeIn K cd13 "both" = true) (k13 : PySem.W.keepIn K (.ref f13) = true)
    {f14 : Addr} {od14 an14 : Option Addr} {sl14 : Array (Option Value)} {oc14 kV14 dc14 pm14 cd14 ct14 : Value}
    (a14 : PySem.W.nsIn K mainGlobals "felt" = some (some (.ref f14))) (l14 : K.lookup f14 = some ⟨oc14, od14, .func (PySem.W.fnOf "felt" "felt" (defArgs s_felt) (defBody s_felt) (defScope s_felt) .none kV14 dc14 pm14 an14 cd14 ct14), sl14⟩) (c14 : PySem.W.codeIn K cd14 "felt" = true) (k14 : PySem.W.keepIn K (.ref f14) = true)
    {f15 : Addr} {od15 an15 : Option Addr} {sl15 : Array (Option Value)} {oc15 kV15 dc15 pm15 cd15 ct15 : Value}
    (a15 : PySem.W.nsIn K mainGlobals "by_cord" = some (some (.ref f15))) (l15 : K.lookup f15 = some ⟨oc15, od15, .func (PySem.W.fnOf "by_cord" "by_cord" (defArgs s_by_cord) (defBody s_by_cord) (defScope s_by_cord) .none kV15 dc15 pm15 an15 cd15 ct15), sl15⟩) (c15 : PySem.W.codeIn K cd15 "by_cord" = true) (k15 : PySem.W.keepIn K (.ref f15) = true)
    {f16 : Addr} {od16 an16 : Option Addr} {sl16 : Array (Option Value)} {oc16 kV16 dc16 pm16 cd16 ct16 : Value}
    (a16 : PySem.W.nsIn K mainGlobals "is_name" = some (some (.ref f16))) (l16 : K.lookup f16 = some ⟨oc16, od16, .func (PySem.W.fnOf "is_name" "is_name" (defArgs s_is_name) (defBody s_is_name) (defScope s_is_name) .none kV16 dc16 pm16 an16 cd16 ct16), sl16⟩) (c16 : PySem.W.codeIn K cd16 "is_name" = true) (k16 : PySem.W.keepIn K (.ref f16) = true)
    {f17 : Addr} {od17 an17 : Option Addr} {sl17 : Array (Option Value)} {oc17 kV17 dc17 pm17 cd17 ct17 : Value}
    (a17 : PySem.W.nsIn K mainGlobals "is_own" = some (some (.ref f17))) (l17 : K.lookup f17 = some ⟨oc17, od17, .func (PySem.W.fnOf "is_own" "is_own" (defArgs s_is_own) (defBody s_is_own) (defScope s_is_own) .none kV17 dc17 pm17 an17 cd17 ct17), sl17⟩) (c17 : PySem.W.codeIn K cd17 "is_own" = true) (k17 : PySem.W.keepIn K (.ref f17) = true)
    {f18 : Addr} {od18 an18 : Option Addr} {sl18 : Array (Option Value)} {oc18 kV18 dc18 pm18 cd18 ct18 : Value}
    (a18 : PySem.W.nsIn K mainGlobals "is_balloon" = some (some (.ref f18))) (l18 : K.lookup f18 = some ⟨oc18, od18, .func (PySem.W.fnOf "is_balloon" "is_balloon" (defArgs s_is_balloon) (defBody s_is_balloon) (defScope s_is_balloon) .none kV18 dc18 pm18 an18 cd18 ct18), sl18⟩) (c18 : PySem.W.codeIn K cd18 "is_balloon" = true) (k18 : PySem.W.keepIn K (.ref f18) = true)
    {f19 : Addr} {od19 an19 : Option Addr} {sl19 : Array (Option Value)} {oc19 kV19 dc19 pm19 cd19 ct19 : Value}
    (a19 : PySem.W.nsIn K mainGlobals "is_cord" = some (some (.ref f19))) (l19 : K.lookup f19 = some ⟨oc19, od19, .func (PySem.W.fnOf "is_cord" "is_cord" (defArgs s_is_cord) (defBody s_is_cord) (defScope s_is_cord) .none kV19 dc19 pm19 an19 cd19 ct19), sl19⟩) (c19 : PySem.W.codeIn K cd19 "is_cord" = true) (k19 : PySem.W.keepIn K (.ref f19) = true)
    {f20 : Addr} {od20 an20 : Option Addr} {sl20 : Array (Option Value)} {oc20 kV20 dc20 pm20 cd20 ct20 : Value}
    (a20 : PySem.W.nsIn K mainGlobals "are_rising" = some (some (.ref f20))) (l20 : K.lookup f20 = some ⟨oc20, od20, .func (PySem.W.fnOf "are_rising" "are_rising" (defArgs s_are_rising) (defBody s_are_rising) (defScope s_are_rising) .none kV20 dc20 pm20 an20 cd20 ct20), sl20⟩) (c20 : PySem.W.codeIn K cd20 "are_rising" = true) (k20 : PySem.W.keepIn K (.ref f20) = true)
    {f21 : Addr} {od21 an21 : Option Addr} {sl21 : Array (Option Value)} {oc21 kV21 dc21 pm21 cd21 ct21 : Value}
    (a21 : PySem.W.nsIn K mainGlobals "makes_ring" = some (some (.ref f21))) (l21 : K.lookup f21 = some ⟨oc21, od21, .func (PySem.W.fnOf "makes_ring" "makes_ring" (defArgs s_makes_ring) (defBody s_makes_ring) (defScope s_makes_ring) .none kV21 dc21 pm21 an21 cd21 ct21), sl21⟩) (c21 : PySem.W.codeIn K cd21 "makes_ring" = true) (k21 : PySem.W.keepIn K (.ref f21) = true)
    {f22 : Addr} {od22 an22 : Option Addr} {sl22 : Array (Option Value)} {oc22 kV22 dc22 pm22 cd22 ct22 : Value}
    (a22 : PySem.W.nsIn K mainGlobals "is_show" = some (some (.ref f22))) (l22 : K.lookup f22 = some ⟨oc22, od22, .func (PySem.W.fnOf "is_show" "is_show" (defArgs s_is_show) (defBody s_is_show) (defScope s_is_show) .none kV22 dc22 pm22 an22 cd22 ct22), sl22⟩) (c22 : PySem.W.codeIn K cd22 "is_show" = true) (k22 : PySem.W.keepIn K (.ref f22) = true)
    {f23 : Addr} {od23 an23 : Option Addr} {sl23 : Array (Option Value)} {oc23 kV23 dc23 pm23 cd23 ct23 : Value}
    (a23 : PySem.W.nsIn K mainGlobals "need_show" = some (some (.ref f23))) (l23 : K.lookup f23 = some ⟨oc23, od23, .func (PySem.W.fnOf "need_show" "need_show" (defArgs s_need_show) (defBody s_need_show) (defScope s_need_show) .none kV23 dc23 pm23 an23 cd23 ct23), sl23⟩) (c23 : PySem.W.codeIn K cd23 "need_show" = true) (k23 : PySem.W.keepIn K (.ref f23) = true)
    {f24 : Addr} {od24 an24 : Option Addr} {sl24 : Array (Option Value)} {oc24 kV24 dc24 pm24 cd24 ct24 : Value}
    (a24 : PySem.W.nsIn K mainGlobals "need_name" = some (some (.ref f24))) (l24 : K.lookup f24 = some ⟨oc24, od24, .func (PySem.W.fnOf "need_name" "need_name" (defArgs s_need_name) (defBody s_need_name) (defScope s_need_name) .none kV24 dc24 pm24 an24 cd24 ct24), sl24⟩) (c24 : PySem.W.codeIn K cd24 "need_name" = true) (k24 : PySem.W.keepIn K (.ref f24) = true)
    {f25 : Addr} {od25 an25 : Option Addr} {sl25 : Array (Option Value)} {oc25 kV25 dc25 pm25 cd25 ct25 : Value}
    (a25 : PySem.W.nsIn K mainGlobals "need_height" = some (some (.ref f25))) (l25 : K.lookup f25 = some ⟨oc25, od25, .func (PySem.W.fnOf "need_height" "need_height" (defArgs s_need_height) (defBody s_need_height) (defScope s_need_height) .none kV25 dc25 pm25 an25 cd25 ct25), sl25⟩) (c25 : PySem.W.codeIn K cd25 "need_height" = true) (k25 : PySem.W.keepIn K (.ref f25) = true)
    {f26 : Addr} {od26 an26 : Option Addr} {sl26 : Array (Option Value)} {oc26 kV26 dc26 pm26 cd26 ct26 : Value}
    (a26 : PySem.W.nsIn K mainGlobals "tied_to" = some (some (.ref f26))) (l26 : K.lookup f26 = some ⟨oc26, od26, .func (PySem.W.fnOf "tied_to" "tied_to" (defArgs s_tied_to) (defBody s_tied_to) (defScope s_tied_to) .none kV26 dc26 pm26 an26 cd26 ct26), sl26⟩) (c26 : PySem.W.codeIn K cd26 "tied_to" = true) (k26 : PySem.W.keepIn K (.ref f26) = true)
    {f27 : Addr} {od27 an27 : Option Addr} {sl27 : Array (Option Value)} {oc27 kV27 dc27 pm27 cd27 ct27 : Value}
    (a27 : PySem.W.nsIn K mainGlobals "pulls_of" = some (some (.ref f27))) (l27 : K.lookup f27 = some ⟨oc27, od27, .func (PySem.W.fnOf "pulls_of" "pulls_of" (defArgs s_pulls_of) (defBody s_pulls_of) (defScope s_pulls_of) .none kV27 dc27 pm27 an27 cd27 ct27), sl27⟩) (c27 : PySem.W.codeIn K cd27 "pulls_of" = true) (k27 : PySem.W.keepIn K (.ref f27) = true)
    {f28 : Addr} {od28 an28 : Option Addr} {sl28 : Array (Option Value)} {oc28 kV28 dc28 pm28 cd28 ct28 : Value}
    (a28 : PySem.W.nsIn K mainGlobals "nearest" = some (some (.ref f28))) (l28 : K.lookup f28 = some ⟨oc28, od28, .func (PySem.W.fnOf "nearest" "nearest" (defArgs s_nearest) (defBody s_nearest) (defScope s_nearest) .none kV28 dc28 pm28 an28 cd28 ct28), sl28⟩) (c28 : PySem.W.codeIn K cd28 "nearest" = true) (k28 : PySem.W.keepIn K (.ref f28) = true)
    {f29 : Addr} {od29 an29 : Option Addr} {sl29 : Array (Option Value)} {oc29 kV29 dc29 pm29 cd29 ct29 : Value}
    (a29 : PySem.W.nsIn K mainGlobals "hang" = some (some (.ref f29))) (l29 : K.lookup f29 = some ⟨oc29, od29, .func (PySem.W.fnOf "hang" "hang" (defArgs s_hang) (defBody s_hang) (defScope s_hang) .none kV29 dc29 pm29 an29 cd29 ct29), sl29⟩) (c29 : PySem.W.codeIn K cd29 "hang" = true) (k29 : PySem.W.keepIn K (.ref f29) = true)
    {f30 : Addr} {od30 an30 : Option Addr} {sl30 : Array (Option Value)} {oc30 kV30 dc30 pm30 cd30 ct30 : Value}
    (a30 : PySem.W.nsIn K mainGlobals "all_heights" = some (some (.ref f30))) (l30 : K.lookup f30 = some ⟨oc30, od30, .func (PySem.W.fnOf "all_heights" "all_heights" (defArgs s_all_heights) (defBody s_all_heights) (defScope s_all_heights) .none kV30 dc30 pm30 an30 cd30 ct30), sl30⟩) (c30 : PySem.W.codeIn K cd30 "all_heights" = true) (k30 : PySem.W.keepIn K (.ref f30) = true)
    {f31 : Addr} {od31 an31 : Option Addr} {sl31 : Array (Option Value)} {oc31 kV31 dc31 pm31 cd31 ct31 : Value}
    (a31 : PySem.W.nsIn K mainGlobals "heights" = some (some (.ref f31))) (l31 : K.lookup f31 = some ⟨oc31, od31, .func (PySem.W.fnOf "heights" "heights" (defArgs s_heights) (defBody s_heights) (defScope s_heights) .none kV31 dc31 pm31 an31 cd31 ct31), sl31⟩) (c31 : PySem.W.codeIn K cd31 "heights" = true) (k31 : PySem.W.keepIn K (.ref f31) = true)
    {f32 : Addr} {od32 an32 : Option Addr} {sl32 : Array (Option Value)} {oc32 kV32 dc32 pm32 cd32 ct32 : Value}
    (a32 : PySem.W.nsIn K mainGlobals "choices" = some (some (.ref f32))) (l32 : K.lookup f32 = some ⟨oc32, od32, .func (PySem.W.fnOf "choices" "choices" (defArgs s_choices) (defBody s_choices) (defScope s_choices) .none kV32 dc32 pm32 an32 cd32 ct32), sl32⟩) (c32 : PySem.W.codeIn K cd32 "choices" = true) (k32 : PySem.W.keepIn K (.ref f32) = true)
    {f33 : Addr} {od33 an33 : Option Addr} {sl33 : Array (Option Value)} {oc33 kV33 dc33 pm33 cd33 ct33 : Value}
    (a33 : PySem.W.nsIn K mainGlobals "fewest_cuts" = some (some (.ref f33))) (l33 : K.lookup f33 = some ⟨oc33, od33, .func (PySem.W.fnOf "fewest_cuts" "fewest_cuts" (defArgs s_fewest_cuts) (defBody s_fewest_cuts) (defScope s_fewest_cuts) .none kV33 dc33 pm33 an33 cd33 ct33), sl33⟩) (c33 : PySem.W.codeIn K cd33 "fewest_cuts" = true) (k33 : PySem.W.keepIn K (.ref f33) = true)
    {f34 : Addr} {od34 an34 : Option Addr} {sl34 : Array (Option Value)} {oc34 kV34 dc34 pm34 cd34 ct34 : Value}
    (a34 : PySem.W.nsIn K mainGlobals "_law_well" = some (some (.ref f34))) (l34 : K.lookup f34 = some ⟨oc34, od34, .func (PySem.W.fnOf "_law_well" "_law_well" (defArgs s__law_well) (defBody s__law_well) (defScope s__law_well) .none kV34 dc34 pm34 an34 cd34 ct34), sl34⟩) (c34 : PySem.W.codeIn K cd34 "_law_well" = true) (k34 : PySem.W.keepIn K (.ref f34) = true)
    {f35 : Addr} {od35 an35 : Option Addr} {sl35 : Array (Option Value)} {oc35 kV35 dc35 pm35 cd35 ct35 : Value}
    (a35 : PySem.W.nsIn K mainGlobals "_law_take" = some (some (.ref f35))) (l35 : K.lookup f35 = some ⟨oc35, od35, .func (PySem.W.fnOf "_law_take" "_law_take" (defArgs s__law_take) (defBody s__law_take) (defScope s__law_take) .none kV35 dc35 pm35 an35 cd35 ct35), sl35⟩) (c35 : PySem.W.codeIn K cd35 "_law_take" = true) (k35 : PySem.W.keepIn K (.ref f35) = true)
    {f36 : Addr} {od36 an36 : Option Addr} {sl36 : Array (Option Value)} {oc36 kV36 dc36 pm36 cd36 ct36 : Value}
    (a36 : PySem.W.nsIn K mainGlobals "_law_frac" = some (some (.ref f36))) (l36 : K.lookup f36 = some ⟨oc36, od36, .func (PySem.W.fnOf "_law_frac" "_law_frac" (defArgs s__law_frac) (defBody s__law_frac) (defScope s__law_frac) .none kV36 dc36 pm36 an36 cd36 ct36), sl36⟩) (c36 : PySem.W.codeIn K cd36 "_law_frac" = true) (k36 : PySem.W.keepIn K (.ref f36) = true)
    {f37 : Addr} {od37 an37 : Option Addr} {sl37 : Array (Option Value)} {oc37 kV37 dc37 pm37 cd37 ct37 : Value}
    (a37 : PySem.W.nsIn K mainGlobals "_law_plus" = some (some (.ref f37))) (l37 : K.lookup f37 = some ⟨oc37, od37, .func (PySem.W.fnOf "_law_plus" "_law_plus" (defArgs s__law_plus) (defBody s__law_plus) (defScope s__law_plus) .none kV37 dc37 pm37 an37 cd37 ct37), sl37⟩) (c37 : PySem.W.codeIn K cd37 "_law_plus" = true) (k37 : PySem.W.keepIn K (.ref f37) = true)
    {f38 : Addr} {od38 an38 : Option Addr} {sl38 : Array (Option Value)} {oc38 kV38 dc38 pm38 cd38 ct38 : Value}
    (a38 : PySem.W.nsIn K mainGlobals "_law_less" = some (some (.ref f38))) (l38 : K.lookup f38 = some ⟨oc38, od38, .func (PySem.W.fnOf "_law_less" "_law_less" (defArgs s__law_less) (defBody s__law_less) (defScope s__law_less) .none kV38 dc38 pm38 an38 cd38 ct38), sl38⟩) (c38 : PySem.W.codeIn K cd38 "_law_less" = true) (k38 : PySem.W.keepIn K (.ref f38) = true)
    {f39 : Addr} {od39 an39 : Option Addr} {sl39 : Array (Option Value)} {oc39 kV39 dc39 pm39 cd39 ct39 : Value}
    (a39 : PySem.W.nsIn K mainGlobals "_law_balloon" = some (some (.ref f39))) (l39 : K.lookup f39 = some ⟨oc39, od39, .func (PySem.W.fnOf "_law_balloon" "_law_balloon" (defArgs s__law_balloon) (defBody s__law_balloon) (defScope s__law_balloon) .none kV39 dc39 pm39 an39 cd39 ct39), sl39⟩) (c39 : PySem.W.codeIn K cd39 "_law_balloon" = true) (k39 : PySem.W.keepIn K (.ref f39) = true)
    {f40 : Addr} {od40 an40 : Option Addr} {sl40 : Array (Option Value)} {oc40 kV40 dc40 pm40 cd40 ct40 : Value}
    (a40 : PySem.W.nsIn K mainGlobals "_law_show" = some (some (.ref f40))) (l40 : K.lookup f40 = some ⟨oc40, od40, .func (PySem.W.fnOf "_law_show" "_law_show" (defArgs s__law_show) (defBody s__law_show) (defScope s__law_show) .none kV40 dc40 pm40 an40 cd40 ct40), sl40⟩) (c40 : PySem.W.codeIn K cd40 "_law_show" = true) (k40 : PySem.W.keepIn K (.ref f40) = true)
    {f41 : Addr} {od41 an41 : Option Addr} {sl41 : Array (Option Value)} {oc41 kV41 dc41 pm41 cd41 ct41 : Value}
    (a41 : PySem.W.nsIn K mainGlobals "_law_at" = some (some (.ref f41))) (l41 : K.lookup f41 = some ⟨oc41, od41, .func (PySem.W.fnOf "_law_at" "_law_at" (defArgs s__law_at) (defBody s__law_at) (defScope s__law_at) .none kV41 dc41 pm41 an41 cd41 ct41), sl41⟩) (c41 : PySem.W.codeIn K cd41 "_law_at" = true) (k41 : PySem.W.keepIn K (.ref f41) = true)
    {f42 : Addr} {od42 an42 : Option Addr} {sl42 : Array (Option Value)} {oc42 kV42 dc42 pm42 cd42 ct42 : Value}
    (a42 : PySem.W.nsIn K mainGlobals "_law_lots" = some (some (.ref f42))) (l42 : K.lookup f42 = some ⟨oc42, od42, .func (PySem.W.fnOf "_law_lots" "_law_lots" (defArgs s__law_lots) (defBody s__law_lots) (defScope s__law_lots) .none kV42 dc42 pm42 an42 cd42 ct42), sl42⟩) (c42 : PySem.W.codeIn K cd42 "_law_lots" = true) (k42 : PySem.W.keepIn K (.ref f42) = true)
    {f43 : Addr} {od43 an43 : Option Addr} {sl43 : Array (Option Value)} {oc43 kV43 dc43 pm43 cd43 ct43 : Value}
    (a43 : PySem.W.nsIn K mainGlobals "law" = some (some (.ref f43))) (l43 : K.lookup f43 = some ⟨oc43, od43, .func (PySem.W.fnOf "law" "law" (defArgs s_law) (defBody s_law) (defScope s_law) .none kV43 dc43 pm43 an43 cd43 ct43), sl43⟩) (c43 : PySem.W.codeIn K cd43 "law" = true) (k43 : PySem.W.keepIn K (.ref f43) = true)
    (z_len : PySem.W.nsIn K mainGlobals "len" = some none)
    (z_abs : PySem.W.nsIn K mainGlobals "abs" = some none)
    (z_all : PySem.W.nsIn K mainGlobals "all" = some none)
    (z_isinstance : PySem.W.nsIn K mainGlobals "isinstance" = some none)
    (z_min : PySem.W.nsIn K mainGlobals "min" = some none)
    (z_max : PySem.W.nsIn K mainGlobals "max" = some none)
    (z_range : PySem.W.nsIn K mainGlobals "range" = some none)
    (z_enumerate : PySem.W.nsIn K mainGlobals "enumerate" = some none)
    (z_zip : PySem.W.nsIn K mainGlobals "zip" = some none)
    (z_sorted : PySem.W.nsIn K mainGlobals "sorted" = some none)
    (z_tuple : PySem.W.nsIn K mainGlobals "tuple" = some none)
    (z_list : PySem.W.nsIn K mainGlobals "list" = some none)
    (z_dict : PySem.W.nsIn K mainGlobals "dict" = some none)
    (z_int : PySem.W.nsIn K mainGlobals "int" = some none)
    (z_bool : PySem.W.nsIn K mainGlobals "bool" = some none)
    (z_str : PySem.W.nsIn K mainGlobals "str" = some none)
    (z_set : PySem.W.nsIn K mainGlobals "set" = some none)
    {aN : Addr} {dN : Option Addr} {slN : Array (Option Value)} {nN : Nat} {t0 t1 tL t2 t3 t4 t5 : Tok}
    (q_n : PySem.W.nsIn K mainGlobals "NOUGHT" = some (some (.ref aN))) (q_nl : K.lookup aN = some ⟨.type "tuple", dN, .seq #[.int 0 t0, .int 1 t1] nN, slN⟩)
    (q_l : PySem.W.nsIn K mainGlobals "LETTERS" = some (some (.str "abcdefghijklmnopqrstuvwxyz" tL)))
    (q_2 : PySem.W.nsIn K mainGlobals "MOST_OWN" = some (some (.int 1000 t2)))
    (q_3 : PySem.W.nsIn K mainGlobals "MOST_STRONG" = some (some (.int 100 t3)))
    (q_4 : PySem.W.nsIn K mainGlobals "MOST_LONG" = some (some (.int 1000 t4)))
    (q_5 : PySem.W.nsIn K mainGlobals "MOST_BALLOONS" = some (some (.int 8 t5)))
    : ∃ fd : FuncData, (∀ (s : Shared) (v : Value), BindsTo s fd ⟨[v], []⟩ [("script", v)]) ∧ ∀ base : Heap, K.In base → base.Ns mainGlobals mg → FnOk l.prog w K mg base CX0 65 fa fd ["script"] (spJ K (T_law K)) := by
  have F0 := fun_mk (st := s_divisor) l0 c0 k0
  have b0 := F0.binds (ps := ["one", "other"]) fun _ _ _ _ _ _ us hl => match us, hl with | [_, _], _ => rfl
  have F1 := fun_mk (st := s_fraction) l1 c1 k1
  have b1 := F1.binds (ps := ["top", "bottom"]) fun _ _ _ _ _ _ us hl => match us, hl with | [_, _], _ => rfl
  have F2 := fun_mk (st := s_plus) l2 c2 k2
  have b2 := F2.binds (ps := ["one", "other"]) fun _ _ _ _ _ _ us hl => match us, hl with | [_, _], _ => rfl
  have F3 := fun_mk (st := s_minus) l3 c3 k3
  have b3 := F3.binds (ps := ["one", "other"]) fun _ _ _ _ _ _ us hl => match us, hl with | [_, _], _ => rfl
  have F4 := fun_mk (st := s_times) l4 c4 k4
  have b4 := F4.binds (ps := ["one", "other"]) fun _ _ _ _ _ _ us hl => match us, hl with | [_, _], _ => rfl
  have F5 := fun_mk (st := s_shared) l5 c5 k5
  have b5 := F5.binds (ps := ["one", "other"]) fun _ _ _ _ _ _ us hl => match us, hl with | [_, _], _ => rfl
  have F6 := fun_mk (st := s_is_less) l6 c6 k6
  have b6 := F6.binds (ps := ["one", "other"]) fun _ _ _ _ _ _ us hl => match us, hl with | [_, _], _ => rfl
  have F7 := fun_mk (st := s_is_whole) l7 c7 k7
  have b7 := F7.binds (ps := ["thing", "low", "high"]) fun _ _ _ _ _ _ us hl => match us, hl with | [_, _, _], _ => rfl
  have F8 := fun_mk (st := s_is_fraction) l8 c8 k8
  have b8 := F8.binds (ps := ["thing"]) fun _ _ _ _ _ _ us hl => match us, hl with | [_], _ => rfl
  have F9 := fun_mk (st := s_alone) l9 c9 k9
  have b9 := F9.binds (ps := ["own", "strong"]) fun _ _ _ _ _ _ us hl => match us, hl with | [_, _], _ => rfl
  have F10 := fun_mk (st := s_pull_at) l10 c10 k10
  have b10 := F10.binds (ps := ["pulls", "height"]) fun _ _ _ _ _ _ us hl => match us, hl with | [_, _], _ => rfl
  have F11 := fun_mk (st := s_nought_of) l11 c11 k11
  have b11 := F11.binds (ps := ["pulls"]) fun _ _ _ _ _ _ us hl => match us, hl with | [_], _ => rfl
  have F12 := fun_mk (st := s_in_order) l12 c12 k12
  have b12 := F12.binds (ps := ["some"]) fun _ _ _ _ _ _ us hl => match us, hl with | [_], _ => rfl
  have F13 := fun_mk (st := s_both) l13 c13 k13
  have b13 := F13.binds (ps := ["one", "other"]) fun _ _ _ _ _ _ us hl => match us, hl with | [_, _], _ => rfl
  have F14 := fun_mk (st := s_felt) l14 c14 k14
  have b14 := F14.binds (ps := ["pulls", "height", "still", "far"]) fun _ _ _ _ _ _ us hl => match us, hl with | [_, _, _, _], _ => rfl
  have F15 := fun_mk (st := s_by_cord) l15 c15 k15
  have b15 := F15.binds (ps := ["pulls", "long"]) fun _ _ _ _ _ _ us hl => match us, hl with | [_, _], _ => rfl
  have F16 := fun_mk (st := s_is_name) l16 c16 k16
  have b16 := F16.binds (ps := ["thing"]) fun _ _ _ _ _ _ us hl => match us, hl with | [_], _ => rfl
  have F17 := fun_mk (st := s_is_own) l17 c17 k17
  have b17 := F17.binds (ps := ["thing"]) fun _ _ _ _ _ _ us hl => match us, hl with | [_], _ => rfl
  have F18 := fun_mk (st := s_is_balloon) l18 c18 k18
  have b18 := F18.binds (ps := ["thing"]) fun _ _ _ _ _ _ us hl => match us, hl with | [_], _ => rfl
  have F19 := fun_mk (st := s_is_cord) l19 c19 k19
  have b19 := F19.binds (ps := ["names", "thing"]) fun _ _ _ _ _ _ us hl => match us, hl with | [_, _], _ => rfl
  have F20 := fun_mk (st := s_are_rising) l20 c20 k20
  have b20 := F20.binds (ps := ["some"]) fun _ _ _ _ _ _ us hl => match us, hl with | [_], _ => rfl
  have F21 := fun_mk (st := s_makes_ring) l21 c21 k21
  have b21 := F21.binds (ps := ["cords"]) fun _ _ _ _ _ _ us hl => match us, hl with | [_], _ => rfl
  have F22 := fun_mk (st := s_is_show) l22 c22 k22
  have b22 := F22.binds (ps := ["thing"]) fun _ _ _ _ _ _ us hl => match us, hl with | [_], _ => rfl
  have F23 := fun_mk (st := s_need_show) l23 c23 k23
  have b23 := F23.binds (ps := ["show"]) fun _ _ _ _ _ _ us hl => match us, hl with | [_], _ => rfl
  have F24 := fun_mk (st := s_need_name) l24 c24 k24
  have b24 := F24.binds (ps := ["show", "name"]) fun _ _ _ _ _ _ us hl => match us, hl with | [_, _], _ => rfl
  have F25 := fun_mk (st := s_need_height) l25 c25 k25
  have b25 := F25.binds (ps := ["height"]) fun _ _ _ _ _ _ us hl => match us, hl with | [_], _ => rfl
  have F26 := fun_mk (st := s_tied_to) l26 c26 k26
  have b26 := F26.binds (ps := ["show", "name"]) fun _ _ _ _ _ _ us hl => match us, hl with | [_, _], _ => rfl
  have F27 := fun_mk (st := s_pulls_of) l27 c27 k27
  have b27 := F27.binds (ps := ["show", "name", "ahead"]) fun _ _ _ _ _ _ us hl => match us, hl with | [_, _, _], _ => rfl
  have F28 := fun_mk (st := s_nearest) l28 c28 k28
  have b28 := F28.binds (ps := ["height", "still", "long"]) fun _ _ _ _ _ _ us hl => match us, hl with | [_, _, _], _ => rfl
  have F29 := fun_mk (st := s_hang) l29 c29 k29
  have b29 := F29.binds (ps := ["show", "name", "ahead", "height", "table"]) fun _ _ _ _ _ _ us hl => match us, hl with | [_, _, _, _, _], _ => rfl
  have F30 := fun_mk (st := s_all_heights) l30 c30 k30
  have b30 := F30.binds (ps := ["show", "fixed"]) fun _ _ _ _ _ _ us hl => match us, hl with | [_, _], _ => rfl
  have F31 := fun_mk (st := s_heights) l31 c31 k31
  have b31 := F31.binds (ps := ["show"]) fun _ _ _ _ _ _ us hl => match us, hl with | [_], _ => rfl
  have F32 := fun_mk (st := s_choices) l32 c32 k32
  have b32 := F32.binds (ps := ["some", "many"]) fun _ _ _ _ _ _ us hl => match us, hl with | [_, _], _ => rfl
  have F33 := fun_mk (st := s_fewest_cuts) l33 c33 k33
  have b33 := F33.binds (ps := ["show", "name", "height"]) fun _ _ _ _ _ _ us hl => match us, hl with | [_, _, _], _ => rfl
  have F34 := fun_mk (st := s__law_well) l34 c34 k34
  have b34 := F34.binds (ps := ["script", "k"]) fun _ _ _ _ _ _ us hl => match us, hl with | [_, _], _ => rfl
  have F35 := fun_mk (st := s__law_take) l35 c35 k35
  have b35 := F35.binds (ps := ["well", "many"]) fun _ _ _ _ _ _ us hl => match us, hl with | [_, _], _ => rfl
  have F36 := fun_mk (st := s__law_frac) l36 c36 k36
  have b36 := F36.binds (ps := ["top", "bottom"]) fun _ _ _ _ _ _ us hl => match us, hl with | [_, _], _ => rfl
  have F37 := fun_mk (st := s__law_plus) l37 c37 k37
  have b37 := F37.binds (ps := ["one", "other"]) fun _ _ _ _ _ _ us hl => match us, hl with | [_, _], _ => rfl
  have F38 := fun_mk (st := s__law_less) l38 c38 k38
  have b38 := F38.binds (ps := ["one", "other"]) fun _ _ _ _ _ _ us hl => match us, hl with | [_, _], _ => rfl
  have F39 := fun_mk (st := s__law_balloon) l39 c39 k39
  have b39 := F39.binds (ps := ["well", "name", "wide"]) fun _ _ _ _ _ _ us hl => match us, hl with | [_, _, _], _ => rfl
  have F40 := fun_mk (st := s__law_show) l40 c40 k40
  have b40 := F40.binds (ps := ["well", "most", "wide"]) fun _ _ _ _ _ _ us hl => match us, hl with | [_, _, _], _ => rfl
  have F41 := fun_mk (st := s__law_at) l41 c41 k41
  have b41 := F41.binds (ps := ["show", "name"]) fun _ _ _ _ _ _ us hl => match us, hl with | [_, _], _ => rfl
  have F42 := fun_mk (st := s__law_lots) l42 c42 k42
  have b42 := F42.binds (ps := ["cords"]) fun _ _ _ _ _ _ us hl => match us, hl with | [_], _ => rfl
  have F43 := fun_mk (st := s_law) l43 c43 k43
  have b43 := F43.binds (ps := ["script"]) fun _ _ _ _ _ _ us hl => match us, hl with | [_], _ => rfl
  have B : Blt mg := ⟨PySem.W.mg_none_of X G z_len, PySem.W.mg_none_of X G z_abs, PySem.W.mg_none_of X G z_all, PySem.W.mg_none_of X G z_isinstance, PySem.W.mg_none_of X G z_min, PySem.W.mg_none_of X G z_max, PySem.W.mg_none_of X G z_range, PySem.W.mg_none_of X G z_enumerate, PySem.W.mg_none_of X G z_zip, PySem.W.mg_none_of X G z_sorted, PySem.W.mg_none_of X G z_tuple, PySem.W.mg_none_of X G z_list, PySem.W.mg_none_of X G z_dict, PySem.W.mg_none_of X G z_int, PySem.W.mg_none_of X G z_bool, PySem.W.mg_none_of X G z_str, PySem.W.mg_none_of X G z_set⟩
  have C : Cst K mg := ⟨⟨aN, PySem.W.mg_of X G q_n, fun F => .inr ⟨_, _, _, q_nl, rfl, rfl, (by show 2 ≤ sizeLine; decide), .cons ⟨_, rfl⟩ (.cons ⟨_, rfl⟩ .nil)⟩⟩, ⟨tL, PySem.W.mg_of X G q_l⟩, ⟨t2, PySem.W.mg_of X G q_2⟩, ⟨t3, PySem.W.mg_of X G q_3⟩, ⟨t4, PySem.W.mg_of X G q_4⟩, ⟨t5, PySem.W.mg_of X G q_5⟩⟩
  have D : Defs K mg := ⟨⟨f0, _, PySem.W.mg_of X G a0, F0, b0⟩, ⟨f1, _, PySem.W.mg_of X G a1, F1, b1⟩, ⟨f2, _, PySem.W.mg_of X G a2, F2, b2⟩, ⟨f3, _, PySem.W.mg_of X G a3, F3, b3⟩, ⟨f4, _, PySem.W.mg_of X G a4, F4, b4⟩, ⟨f5, _, PySem.W.mg_of X G a5, F5, b5⟩, ⟨f6, _, PySem.W.mg_of X G a6, F6, b6⟩, ⟨f7, _, PySem.W.mg_of X G a7, F7, b7⟩, ⟨f8, _, PySem.W.mg_of X G a8, F8, b8⟩, ⟨f9, _, PySem.W.mg_of X G a9, F9, b9⟩, ⟨f10, _, PySem.W.mg_of X G a10, F10, b10⟩, ⟨f11, _, PySem.W.mg_of X G a11, F11, b11⟩, ⟨f12, _, PySem.W.mg_of X G a12, F12, b12⟩, ⟨f13, _, PySem.W.mg_of X G a13, F13, b13⟩, ⟨f14, _, PySem.W.mg_of X G a14, F14, b14⟩, ⟨f15, _, PySem.W.mg_of X G a15, F15, b15⟩, ⟨f16, _, PySem.W.mg_of X G a16, F16, b16⟩, ⟨f17, _, PySem.W.mg_of X G a17, F17, b17⟩, ⟨f18, _, PySem.W.mg_of X G a18, F18, b18⟩, ⟨f19, _, PySem.W.mg_of X G a19, F19, b19⟩, ⟨f20, _, PySem.W.mg_of X G a20, F20, b20⟩, ⟨f21, _, PySem.W.mg_of X G a21, F21, b21⟩, ⟨f22, _, PySem.W.mg_of X G a22, F22, b22⟩, ⟨f23, _, PySem.W.mg_of X G a23, F23, b23⟩, ⟨f24, _, PySem.W.mg_of X G a24, F24, b24⟩, ⟨f25, _, PySem.W.mg_of X G a25, F25, b25⟩, ⟨f26, _, PySem.W.mg_of X G a26, F26, b26⟩, ⟨f27, _, PySem.W.mg_of X G a27, F27, b27⟩, ⟨f28, _, PySem.W.mg_of X G a28, F28, b28⟩, ⟨f29, _, PySem.W.mg_of X G a29, F29, b29⟩, ⟨f30, _, PySem.W.mg_of X G a30, F30, b30⟩, ⟨f31, _, PySem.W.mg_of X G a31, F31, b31⟩, ⟨f32, _, PySem.W.mg_of X G a32, F32, b32⟩, ⟨f33, _, PySem.W.mg_of X G a33, F33, b33⟩, ⟨f34, _, PySem.W.mg_of X G a34, F34, b34⟩, ⟨f35, _, PySem.W.mg_of X G a35, F35, b35⟩, ⟨f36, _, PySem.W.mg_of X G a36, F36, b36⟩, ⟨f37, _, PySem.W.mg_of X G a37, F37, b37⟩, ⟨f38, _, PySem.W.mg_of X G a38, F38, b38⟩, ⟨f39, _, PySem.W.mg_of X G a39, F39, b39⟩, ⟨f40, _, PySem.W.mg_of X G a40, F40, b40⟩, ⟨f41, _, PySem.W.mg_of X G a41, F41, b41⟩, ⟨f42, _, PySem.W.mg_of X G a42, F42, b42⟩, ⟨f43, _, PySem.W.mg_of X G a43, F43, b43⟩⟩
  have e := hfa.symm.trans (PySem.W.mg_of X G a43)
  cases e
  refine ⟨PySem.W.fnOf "law" "law" (defArgs s_law) (defBody s_law) (defScope s_law) .none kV43 dc43 pm43 an43 cd43 ct43, fun s v => .of_eq rfl, fun base _ _ => ?_⟩
  exact (okW (P := l.prog) (w := w) (base := base) (k := 19) (T := T_law K) F43 sc_law (by
    intro xs M Φ Ψ h
    first
    | (obtain ⟨_, rfl, _⟩ := h; rfl)
    | (obtain ⟨_, _, rfl, _⟩ := h; rfl)
    | (obtain ⟨_, _, _, rfl, _⟩ := h; rfl)
    | (obtain ⟨_, _, _, _, rfl, _⟩ := h; rfl)
    | (obtain ⟨_, _, _, _, _, rfl, _⟩ := h; rfl)
    | (obtain ⟨_, _, _, _, _, _, rfl, _⟩ := h; rfl)
    | (obtain ⟨_, _, _, _, _, _, _, rfl, _⟩ := h; rfl)
    | (obtain ⟨_, h, _⟩ := h; rcases h with rfl | rfl <;> rfl)) (fun f cdv A outer s H E hr => dv_law B C (fn__law_plus B C D) (by omega) (fn__law_take B C D) (by omega) (fn_fewest_cuts B C D) (by omega) (fn__law_less B C D) (by omega) (fn__law_lots B C D) (by omega) (fn__law_at B C D) (by omega) (fn__law_show B C D) (by omega) (fn__law_well B C D) (by omega) f cdv A outer s H E hr) (r_law K)).mono (by decide)
theorem walk {l : PySem.W.OpenLaw} {q : Program} {loose : List Str} {XP : (Str → Option Value) → Heap → Prop} {YP : World → Heap → Prop} {d : DefRec} {K : Params → PySem.W.Frag} (hn : l.most = some 63) (hdf : d.params.defaults = [])
    (hY : ∀ (w : World) (h : Heap), YP w h → (K w.params).In h)
    (F : ∀ (w : World) (mg : Str → Option Value) (fa : Addr) (h : Heap), (K w.params).In h → h.Ns mainGlobals mg → mg d.name = some (.ref fa) →
      ∃ fd : FuncData, (∀ (s : Shared) (u : Value), BindsTo s fd ⟨[u], []⟩ [("script", u)]) ∧ ∀ base : Heap, (K w.params).In base → base.Ns mainGlobals mg → FnOk l.prog w (K w.params) mg base CX0 65 fa fd ["script"] (spJ (K w.params) (T_law (K w.params)))) :
    PySem.W.WalkO q loose XP YP l.row.toRowW d [] (fun f vs => PySem.call f vs) :=
  L2.walk_of (n := 63) (k := 65) (x := "script") (CX := fun _ => CX0) (sp := fun w => spJ (K w.params) (T_law (K w.params))) hn (by decide) hdf ⟨rfl, by decide, by decide⟩ hY F
    (fun w H a ns hl _ hS => spJ_start hS fun M Φ Ψ hs hp => ⟨a, ns, rfl, ⟨hs, Nat.le_trans hl (by decide)⟩, hp⟩) fun _ _ _ _ _ z => z
end Td
open PySem PySem.W PyProof.Rows
set_option maxRecDepth 100000 in
set_option maxHeartbeats 0 in
theorem PySem.Challenge.cw_tiedaloft_k41_whole_fewest_cuts_holds : PySem.Challenge.rw_tiedaloft_k41_whole_fewest_cuts.Holds := by
  w_on; o_law; k_head; (case hw => w_witness2)
  k_fill
  refine Td.walk (l := PySem.Challenge.rw_tiedaloft_k41_whole_fewest_cuts) rfl rfl (fun w h Y => PySem.W.kIn_of Y) ?F
  case F =>
    intro w mg fa h KX G hmg
    refine' Td.all_mk KX G hmg ?a0 ?l0 ?c0 ?k0 ?a1 ?l1 ?c1 ?k1 ?a2 ?l2 ?c2 ?k2 ?a3 ?l3 ?c3 ?k3 ?a4 ?l4 ?c4 ?k4 ?a5 ?l5 ?c5 ?k5 ?a6 ?l6 ?c6 ?k6 ?a7 ?l7 ?c7 ?k7 ?a8 ?l8 ?c8 ?k8 ?a9 ?l9 ?c9 ?k9 ?a10 ?l10 ?c10 ?k10 ?a11 ?l11 ?c11 ?k11 ?a12 ?l12 ?c12 ?k12 ?a13 ?l13 ?c13 ?k13 ?a14 ?l14 ?c14 ?k14 ?a15 ?l15 ?c15 ?k15 ?a16 ?l16 ?c16 ?k16 ?a17 ?l17 ?c17 ?k17 ?a18 ?l18 ?c18 ?k18 ?a19 ?l19 ?c19 ?k19 ?a20 ?l20 ?c20 ?k20 ?a21 ?l21 ?c21 ?k21 ?a22 ?l22 ?c22 ?k22 ?a23 ?l23 ?c23 ?k23 ?a24 ?l24 ?c24 ?k24 ?a25 ?l25 ?c25 ?k25 ?a26 ?l26 ?c26 ?k26 ?a27 ?l27 ?c27 ?k27 ?a28 ?l28 ?c28 ?k28 ?a29 ?l29 ?c29 ?k29 ?a30 ?l30 ?c30 ?k30 ?a31 ?l31 ?c31 ?k31 ?a32 ?l32 ?c32 ?k32 ?a33 ?l33 ?c33 ?k33 ?a34 ?l34 ?c34 ?k34 ?a35 ?l35 ?c35 ?k35 ?a36 ?l36 ?c36 ?k36 ?a37 ?l37 ?c37 ?k37 ?a38 ?l38 ?c38 ?k38 ?a39 ?l39 ?c39 ?k39 ?a40 ?l40 ?c40 ?k40 ?a41 ?l41 ?c41 ?k41 ?a42 ?l42 ?c42 ?k42 ?a43 ?l43 ?c43 ?k43 ?z_len ?z_abs ?z_all ?z_isinstance ?z_min ?z_max ?z_range ?z_enumerate ?z_zip ?z_sorted ?z_tuple ?z_list ?z_dict ?z_int ?z_bool ?z_str ?z_set ?q_n ?q_nl ?q_l ?q_2 ?q_3 ?q_4 ?q_5
    (case a0 => k_is)
    (case l0 => k_is)
    (case c0 => k_is)
    (case k0 => k_is)
    (case a1 => k_is)
    (case l1 => k_is)
    (case c1 => k_is)
    (case k1 => k_is)
    (case a2 => k_is)
    (case l2 => k_is)
    (case c2 => k_is)
    (case k2 => k_is)
    (case a3 => k_is)
    (case l3 => k_is)
    (case c3 => k_is)
    (case k3 => k_is)
    (case a4 => k_is)
    (case l4 => k_is)
    (case c4 => k_is)
    (case k4 => k_is)
    (case a5 => k_is)
    (case l5 => k_is)
    (case c5 => k_is)
    (case k5 => k_is)
    (case a6 => k_is)
    (case l6 => k_is)
    (case c6 => k_is)
    (case k6 => k_is)
    (case a7 => k_is)
    (case l7 => k_is)
    (case c7 => k_is)
    (case k7 => k_is)
    (case a8 => k_is)
    (case l8 => k_is)
    (case c8 => k_is)
    (case k8 => k_is)
    (case a9 => k_is)
    (case l9 => k_is)
    (case c9 => k_is)
    (case k9 => k_is)
    (case a10 => k_is)
    (case l10 => k_is)
    (case c10 => k_is)
    (case k10 => k_is)
    (case a11 => k_is)
    (case l11 => k_is)
    (case c11 => k_is)
    (case k11 => k_is)
    (case a12 => k_is)
    (case l12 => k_is)
    (case c12 => k_is)
    (case k12 => k_is)
    (case a13 => k_is)
    (case l13 => k_is)
    (case c13 => k_is)
    (case k13 => k_is)
    (case a14 => k_is)
    (case l14 => k_is)
    (case c14 => k_is)
    (case k14 => k_is)
    (case a15 => k_is)
    (case l15 => k_is)
    (case c15 => k_is)
    (case k15 => k_is)
    (case a16 => k_is)
    (case l16 => k_is)
    (case c16 => k_is)
    (case k16 => k_is)
    (case a17 => k_is)
    (case l17 => k_is)
    (case c17 => k_is)
    (case k17 => k_is)
    (case a18 => k_is)
    (case l18 => k_is)
    (case c18 => k_is)
    (case k18 => k_is)
    (case a19 => k_is)
    (case l19 => k_is)
    (case c19 => k_is)
    (case k19 => k_is)
    (case a20 => k_is)
    (case l20 => k_is)
    (case c20 => k_is)
    (case k20 => k_is)
    (case a21 => k_is)
    (case l21 => k_is)
    (case c21 => k_is)
    (case k21 => k_is)
    (case a22 => k_is)
    (case l22 => k_is)
    (case c22 => k_is)
    (case k22 => k_is)
    (case a23 => k_is)
    (case l23 => k_is)
    (case c23 => k_is)
    (case k23 => k_is)
    (case a24 => k_is)
    (case l24 => k_is)
    (case c24 => k_is)
    (case k24 => k_is)
    (case a25 => k_is)
    (case l25 => k_is)
    (case c25 => k_is)
    (case k25 => k_is)
    (case a26 => k_is)
    (case l26 => k_is)
    (case c26 => k_is)
    (case k26 => k_is)
    (case a27 => k_is)
    (case l27 => k_is)
    (case c27 => k_is)
    (case k27 => k_is)
    (case a28 => k_is)
    (case l28 => k_is)
    (case c28 => k_is)
    (case k28 => k_is)
    (case a29 => k_is)
    (case l29 => k_is)
    (case c29 => k_is)
    (case k29 => k_is)
    (case a30 => k_is)
    (case l30 => k_is)
    (case c30 => k_is)
    (case k30 => k_is)
    (case a31 => k_is)
    (case l31 => k_is)
    (case c31 => k_is)
    (case k31 => k_is)
    (case a32 => k_is)
    (case l32 => k_is)
    (case c32 => k_is)
    (case k32 => k_is)
    (case a33 => k_is)
    (case l33 => k_is)
    (case c33 => k_is)
    (case k33 => k_is)
    (case a34 => k_is)
    (case l34 => k_is)
    (case c34 => k_is)
    (case k34 => k_is)
    (case a35 => k_is)
    (case l35 => k_is)
    (case c35 => k_is)
    (case k35 => k_is)
    (case a36 => k_is)
    (case l36 => k_is)
    (case c36 => k_is)
    (case k36 => k_is)
    (case a37 => k_is)
    (case l37 => k_is)
    (case c37 => k_is)
    (case k37 => k_is)
    (case a38 => k_is)
    (case l38 => k_is)
    (case c38 => k_is)
    (case k38 => k_is)
    (case a39 => k_is)
    (case l39 => k_is)
    (case c39 => k_is)
    (case k39 => k_is)
    (case a40 => k_is)
    (case l40 => k_is)
    (case c40 => k_is)
    (case k40 => k_is)
    (case a41 => k_is)
    (case l41 => k_is)
    (case c41 => k_is)
    (case k41 => k_is)
    (case a42 => k_is)
    (case l42 => k_is)
    (case c42 => k_is)
    (case k42 => k_is)
    (case a43 => k_is)
    (case l43 => k_is)
    (case c43 => k_is)
    (case k43 => k_is)
    (case z_len => k_is)
    (case z_abs => k_is)
    (case z_all => k_is)
    (case z_isinstance => k_is)
    (case z_min => k_is)
    (case z_max => k_is)
    (case z_range => k_is)
    (case z_enumerate => k_is)
    (case z_zip => k_is)
    (case z_sorted => k_is)
    (case z_tuple => k_is)
    (case z_list => k_is)
    (case z_dict => k_is)
    (case z_int => k_is)
    (case z_bool => k_is)
    (case z_str => k_is)
    (case z_set => k_is)
    (case q_n => k_is)
    (case q_nl => k_is)
    (case q_l => k_is)
    (case q_2 => k_is)
    (case q_3 => k_is)
    (case q_4 => k_is)
    (case q_5 => k_is)
