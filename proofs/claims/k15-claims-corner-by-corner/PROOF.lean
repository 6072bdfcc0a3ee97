import PyProof.Rows.All
import Wide.All
import OpenK.AllK
import Wide.FinOn
import HandS.ForMost
import HandS.ForExc
import HandS.SortKw
import HandS.Lambda
import HandS.SetFor
import HandS.Strs
import HandS.Wide
import HandS.Style
import HandS.Flow
import HandS.Zip
import HandS.IsInst
import HandS.Deep
import KE.SortKeyHeap
import KE.GoesEnum
import HandS.TupAny
import HandS.TupLe
import PyProof.ReprRoads
import KE.DataMinKey
import HandS.Conv
import HandS.TupSets
import HandS.Sort
import HandS.EndTab
import HandS.EndBits
import HandS.HeadHook1
import PySem.Challenge.RW_nevermelted_k15_whole_claims_corner_by_c
set_option Elab.async false
set_option linter.all false
set_option maxRecDepth 100000
section
/-! DL: data layer. A def's mirror over PyData, and when it is what the def computes. -/
namespace DL
open PySem PySem.Spec PyProof.Rows L2

/-! ### data in a heap that stays -/
mutual
inductive Dn (F : Hp) : V → PyData → Prop
  | non : Dn F .non .none
  | bl (b : Bool) : Dn F (.bl b) (.bool b)
  | int (i : Int) : Dn F (.int i) (.int i)
  | str (x : Str) : Dn F (.str x) (.str x)
  | lst {a : Addr} {vs : List V} {ds : List PyData} : Rd F a (.lst vs) → DnA F vs ds → Dn F (.ref a) (.list ds)
  | tup {a : Addr} {vs : List V} {ds : List PyData} : Rd F a (.tup vs) → DnA F vs ds → Dn F (.ref a) (.tuple ds)
inductive DnA (F : Hp) : List V → List PyData → Prop
  | nil : DnA F [] []
  | cons {v : V} {vs : List V} {d : PyData} {ds : List PyData} : Dn F v d → DnA F vs ds → DnA F (v :: vs) (d :: ds)
end

theorem rd_mono {F F' : Hp} (h : Same F F') {a : Addr} {u : HO} (r : Rd F a u) : Rd F' a u := by
  rcases r with r | ⟨o, r⟩
  · exact .inl (h _ _ r)
  · exact .inr ⟨o, h _ _ r⟩
mutual
theorem Dn.mono {F F' : Hp} (h : Same F F') : ∀ {d : PyData} {v : V}, Dn F v d → Dn F' v d
  | _, _, .non => .non
  | _, _, .bl b => .bl b
  | _, _, .int i => .int i
  | _, _, .str x => .str x
  | _, _, .lst r a => .lst (rd_mono h r) (DnA.mono h a)
  | _, _, .tup r a => .tup (rd_mono h r) (DnA.mono h a)
theorem DnA.mono {F F' : Hp} (h : Same F F') : ∀ {ds : List PyData} {vs : List V}, DnA F vs ds → DnA F' vs ds
  | _, _, .nil => .nil
  | _, _, .cons a b => .cons (Dn.mono h a) (DnA.mono h b)
end
mutual
theorem Dn.dp (K : PySem.W.Frag) {F H : Hp} (h : Same F H) : ∀ {d : PyData} {v : V}, Dn F v d → Dp K H v d
  | _, _, .non => .non
  | _, _, .bl b => .bl b
  | _, _, .int i => .int i
  | _, _, .str x => .str x
  | _, _, .lst r a => .lst (.inl (rd_mono h r)) (DnA.dp K h a)
  | _, _, .tup r a => .tup (.inl (rd_mono h r)) (DnA.dp K h a)
theorem DnA.dp (K : PySem.W.Frag) {F H : Hp} (h : Same F H) : ∀ {ds : List PyData} {vs : List V}, DnA F vs ds → DpAll K H vs ds
  | _, _, .nil => .nil
  | _, _, .cons a b => .cons (Dn.dp K h a) (DnA.dp K h b)
end

theorem DnA.length {F : Hp} : ∀ {vs : List V} {ds : List PyData}, DnA F vs ds → vs.length = ds.length
  | _, _, .nil => rfl
  | _, _, .cons _ t => by rw [List.length_cons, List.length_cons, DnA.length t]
theorem DnA.get {F : Hp} : ∀ {vs : List V} {ds : List PyData} {i : Nat} {d : PyData}, DnA F vs ds → ds[i]? = some d → ∃ v, vs[i]? = some v ∧ Dn F v d
  | _, _, _, _, .nil, e => by simp at e
  | _, _, 0, _, .cons a t, e => by simp at e; subst e; exact ⟨_, rfl, a⟩
  | _, _, i + 1, d, .cons a t, e => by
    obtain ⟨v, h1, h2⟩ := DnA.get (i := i) (d := d) t (by simpa using e)
    exact ⟨v, by simpa using h1, h2⟩
theorem DnA.got {F : Hp} : ∀ {vs : List V} {ds : List PyData} {i : Nat} {v : V}, DnA F vs ds → vs[i]? = some v → ∃ d, ds[i]? = some d ∧ Dn F v d
  | _, _, _, _, .nil, e => by simp at e
  | _, _, 0, _, .cons a t, e => by simp at e; subst e; exact ⟨_, rfl, a⟩
  | _, _, i + 1, v, .cons a t, e => by
    obtain ⟨d, h1, h2⟩ := DnA.got (i := i) (v := v) t (by simpa using e)
    exact ⟨d, by simpa using h1, h2⟩
theorem DnA.append {F : Hp} : ∀ {vs ws : List V} {ds es : List PyData}, DnA F vs ds → DnA F ws es → DnA F (vs ++ ws) (ds ++ es)
  | _, _, _, _, .nil, s => s
  | _, _, _, _, .cons a t, s => .cons a (DnA.append t s)
theorem DnA.set {F : Hp} {v : V} {d : PyData} (r : Dn F v d) : ∀ {vs : List V} {ds : List PyData} (i : Nat), DnA F vs ds → DnA F (vs.set i v) (ds.set i d)
  | _, _, _, .nil => .nil
  | _, _, 0, .cons _ t => .cons r t
  | _, _, i + 1, .cons a t => .cons a (DnA.set r i t)
theorem DnA.take {F : Hp} : ∀ {vs : List V} {ds : List PyData} (n : Nat), DnA F vs ds → DnA F (vs.take n) (ds.take n)
  | _, _, 0, _ => .nil
  | _, _, _ + 1, .nil => .nil
  | _, _, n + 1, .cons a t => .cons a (DnA.take n t)
theorem DnA.drop {F : Hp} : ∀ {vs : List V} {ds : List PyData} (n : Nat), DnA F vs ds → DnA F (vs.drop n) (ds.drop n)
  | _, _, 0, r => r
  | _, _, _ + 1, .nil => .nil
  | _, _, n + 1, .cons _ t => DnA.drop n t
theorem DnA.eraseIdx {F : Hp} : ∀ {vs : List V} {ds : List PyData} (n : Nat), DnA F vs ds → DnA F (vs.eraseIdx n) (ds.eraseIdx n)
  | _, _, _, .nil => .nil
  | _, _, 0, .cons _ t => t
  | _, _, n + 1, .cons a t => .cons a (DnA.eraseIdx n t)
theorem DnA.ints {F : Hp} : ∀ {ns : List Int} {vs : List V}, DnA F vs (ns.map PyData.int) → vs = ns.map V.int
  | [], _, .nil => rfl
  | _ :: _, _, .cons (.int _) t => by rw [DnA.ints t]; rfl
theorem DnA.bls {F : Hp} : ∀ {bs : List Bool} {vs : List V}, DnA F vs (bs.map PyData.bool) → vs = bs.map V.bl
  | [], _, .nil => rfl
  | _ :: _, _, .cons (.bl _) t => by rw [DnA.bls t]; rfl
theorem DnA.ofInts {F : Hp} : ∀ (ns : List Int), DnA F (ns.map V.int) (ns.map PyData.int)
  | [] => .nil
  | n :: ns => .cons (.int n) (DnA.ofInts ns)

/-! ### slots -/
/-- what a slot holds: nothing that is known; data; a list of one's own; a caller's list; a dict of one's own; one that is walked -/
inductive Sl where
  | no
  | d (d : PyData)
  | ol (ds : List PyData)
  | br (ds : List PyData)
  | od (kvs : List (Key × PyData))
  | lk (kvs : List (Key × PyData))
def Sl.own : Sl → Bool
  | .ol _ => true
  | .br _ => true
  | .od _ => true
  | _ => false
def Sl.isBr : Sl → Bool
  | .br _ => true
  | _ => false
abbrev Ro := List Sl
inductive KvA (F : Hp) : List (Key × V) → List (Key × PyData) → Prop
  | nil : KvA F [] []
  | cons {k : Key} {v : V} {d : PyData} {ps : List (Key × V)} {kvs : List (Key × PyData)} : Dn F v d → KvA F ps kvs → KvA F ((k, v) :: ps) ((k, d) :: kvs)
theorem KvA.mono {F F' : Hp} (h : Same F F') : ∀ {ps : List (Key × V)} {kvs : List (Key × PyData)}, KvA F ps kvs → KvA F' ps kvs
  | _, _, .nil => .nil
  | _, _, .cons a b => .cons (a.mono h) (KvA.mono h b)
inductive Cn (F : Hp) : HO → Sl → Prop
  | ol {vs : List V} {ds : List PyData} : vs.length ≤ sizeLine → DnA F vs ds → Cn F (.lst vs) (.ol ds)
  | br {vs : List V} {ds : List PyData} : vs.length ≤ sizeLine → DnA F vs ds → Cn F (.lst vs) (.br ds)
  | od {ps : List (Key × V)} {kvs : List (Key × PyData)} : ps.length ≤ sizeLine → KvA F ps kvs → Cn F (.dK ps) (.od kvs)
theorem Cn.mono {F F' : Hp} (h : Same F F') {o : HO} {s : Sl} (c : Cn F o s) : Cn F' o s := by
  cases c with
  | ol a b => exact .ol a (b.mono h)
  | br a b => exact .br a (b.mono h)
  | od a b => exact .od a (b.mono h)

/-- the frame: what stays for others; borrowed lists by slot -/
structure Fx where
  G : Hp
  io : List (Nat × Addr)

/-- the tables that the law's lambdas are written in, each by the name of what it holds -/
class Tbs where
  T : List (Addr × Str)
variable [Tbs]
def lasting : HO → Bool
  | .tbl _ => true
  | .ext _ => true
  | _ => false
def KT (H H' : Hp) : Prop := ∀ b o, H b = some o → lasting o = true → H' b = some o
theorem KT.of {H H' : Hp} (h : Same H H') : KT H H' := fun b o e _ => h b o e
theorem kt_upd {H : Hp} {l : Addr} {o' : HO} (h : ∀ o, H l = some o → lasting o = false) : KT H (upd H l o') := fun b o e hl => by
  by_cases hb : b = l
  · subst hb; rw [h o e] at hl; cases hl
  · rw [upd_ne hb]; exact e
theorem tabS_kt {H H' : Hp} {P : Addr} {q : Str} (t : LamX.TabS H P q) (k : KT H H') : LamX.TabS H' P q := by
  obtain ⟨ps, h1, h2, h3⟩ := t
  refine ⟨ps, k _ _ h1 rfl, h2, fun pos cv hc => ?_⟩
  obtain ⟨c, e1, e2⟩ := h3 pos cv hc
  exact ⟨c, e1, k _ _ e2 rfl⟩
def TbOk (G F H : Hp) : Prop := ∀ q ∈ Tbs.T, F q.1 = none ∧ G q.1 = none ∧ LamX.TabS H q.1 q.2
theorem TbOk.kt {G F H H' : Hp} (t : TbOk G F H) (k : KT H H') : TbOk G F H' := fun q hq => ⟨(t q hq).1, (t q hq).2.1, tabS_kt (t q hq).2.2 k⟩
theorem TbOk.ne {G F H : Hp} (t : TbOk G F H) {q : Addr × Str} (hq : q ∈ Tbs.T) {l : Addr} (h : ∀ o, H l = some o → lasting o = false) : q.1 ≠ l := fun z => by
  obtain ⟨_, _, ps, e, _⟩ := t q hq
  rw [z] at e
  cases h _ e
theorem TbOk.fz {G F H : Hp} (t : TbOk G F H) {l : Addr} {o : HO} (h : ∀ o, H l = some o → lasting o = false) : TbOk G (upd F l o) H := fun q hq => ⟨by rw [upd_ne (t.ne hq h)]; exact (t q hq).1, (t q hq).2⟩
theorem TbOk.tag {G F H : Hp} (t : TbOk G F H) {l : Addr} {o : HO} (h : ∀ o, H l = some o → lasting o = false) : TbOk (upd G l o) F H := fun q hq => ⟨(t q hq).1, by rw [upd_ne (t.ne hq h)]; exact (t q hq).2.1, (t q hq).2.2⟩
theorem TbOk.retag {G F H : Hp} {l : Addr} {o o' : HO} (t : TbOk (upd G l o) F H) : TbOk (upd G l o') F H ∧ TbOk G F H := by
  have ne : ∀ q ∈ Tbs.T, q.1 ≠ l := fun q hq z => by
    have e := (t q hq).2.1
    rw [z, upd_same] at e
    cases e
  exact ⟨fun q hq => ⟨(t q hq).1, by rw [upd_ne (ne q hq)]; have e := (t q hq).2.1; rw [upd_ne (ne q hq)] at e; exact e, (t q hq).2.2⟩, fun q hq => ⟨(t q hq).1, by have e := (t q hq).2.1; rw [upd_ne (ne q hq)] at e; exact e, (t q hq).2.2⟩⟩
theorem none_last {H : Hp} {l : Addr} (e : H l = none) : ∀ o, H l = some o → lasting o = false := fun o h => by rw [e] at h; cases h
theorem some_last {H : Hp} {l : Addr} {o : HO} (e : H l = some o) (hl : lasting o = false) : ∀ o, H l = some o → lasting o = false := fun o h => by rw [e] at h; cases h; exact hl
theorem Cn.last {F : Hp} {o : HO} {s : Sl} (c : Cn F o s) : lasting o = false := by cases c <;> rfl
structure Rl (Φ : Fx) (F : Hp) (ρ : Ro) (σ : L2.St) (H : Hp) : Prop where
  len : σ.length = ρ.length
  fs : Same F H
  gs : Same Φ.G H
  bd : ∀ (a : Addr) (vs : List V), Rd F a (.lst vs) ∨ Rd F a (.tup vs) → vs.length ≤ sizeLine
  dat : ∀ (i : Nat) (d : PyData), ρ[i]? = some (.d d) → ∃ v, σ[i]? = some (some v) ∧ Dn F v d
  lk : ∀ (i : Nat) (kvs : List (Key × PyData)), ρ[i]? = some (.lk kvs) → ∃ (l : Addr) (od : Obj) (ps : List (Key × V)), σ[i]? = some (some (.ref l)) ∧ Φ.G l = some (.frz od (.dK ps)) ∧ KvA F ps kvs
  own : ∀ (i : Nat) (s : Sl), ρ[i]? = some s → s.own = true → ∃ (l : Addr) (o : HO), σ[i]? = some (some (.ref l)) ∧ F l = none ∧ Φ.G l = none ∧ H l = some o ∧ Cn F o s
  dj : ∀ (i j : Nat) (s s' : Sl) (l : Addr), ρ[i]? = some s → ρ[j]? = some s' → s.own = true → s'.own = true → σ[i]? = some (some (.ref l)) → σ[j]? = some (some (.ref l)) → i = j
  io : ∀ p ∈ Φ.io, σ[p.1]? = some (some (.ref p.2)) ∧ ∃ ds : List PyData, ρ[p.1]? = some (.br ds)
  tb : TbOk Φ.G F H

def Ext (Φ : Fx) (F F' : Hp) : Prop := Same F F' ∧ ∀ b o, Φ.G b = some o → F' b = F b
theorem Ext.refl (Φ : Fx) (F : Hp) : Ext Φ F F := ⟨Same.refl F, fun _ _ _ => rfl⟩
theorem Ext.trans {Φ : Fx} {F F1 F2 : Hp} (a : Ext Φ F F1) (b : Ext Φ F1 F2) : Ext Φ F F2 :=
  ⟨a.1.trans b.1, fun x o h => (b.2 x o h).trans (a.2 x o h)⟩

/-- an address that nothing of the state leans on -/
def Fresh (Φ : Fx) (F : Hp) (ρ : Ro) (σ : L2.St) (p : Addr) : Prop :=
  F p = none ∧ Φ.G p = none ∧ ∀ (j : Nat) (s : Sl), ρ[j]? = some s → s.own = true → σ[j]? ≠ some (some (.ref p))
theorem none_of_same {A B : Hp} (h : Same A B) {p : Addr} (e : B p = none) : A p = none := h.free e
theorem Rl.fresh {Φ : Fx} {F : Hp} {ρ : Ro} {σ : L2.St} {H : Hp} (R : Rl Φ F ρ σ H) {p : Addr} (e : H p = none) : Fresh Φ F ρ σ p :=
  ⟨none_of_same R.fs e, none_of_same R.gs e, fun j s h1 h2 h3 => by
    obtain ⟨l, o, e1, _, _, e2, _⟩ := R.own j s h1 h2
    rw [h3] at e1
    injection e1 with e1; injection e1 with e1; injection e1 with e1
    subst e1
    rw [e] at e2
    cases e2⟩
theorem same_upd {A B : Hp} (h : Same A B) {p : Addr} {o : HO} (e : A p = none) : Same A (upd B p o) := fun b u q => by
  by_cases hb : b = p
  · subst hb; rw [e] at q; cases q
  · rw [upd_ne hb]; exact h b u q
theorem same_upd2 {A B : Hp} (h : Same A B) {p : Addr} {o : HO} : Same (upd A p o) (upd B p o) := fun b u q => by
  by_cases hb : b = p
  · subst hb; rw [upd_same] at q ⊢; exact q
  · rw [upd_ne hb] at q ⊢; exact h b u q
theorem same_updL {A B : Hp} (h : Same A B) {p : Addr} {o : HO} (e : B p = some o) : Same (upd A p o) B := fun b u q => by
  by_cases hb : b = p
  · subst hb; rw [upd_same] at q; rw [e]; exact q
  · rw [upd_ne hb] at q; exact h b u q

section
variable {Φ : Fx} {F F' H H' : Hp} {ρ : Ro} {σ : L2.St}
/-- the heap is another one that leaves what is leant on -/
theorem Rl.heap (R : Rl Φ F ρ σ H) (kt : KT H H') (fs : Same F H') (gs : Same Φ.G H') (ow : ∀ (i : Nat) (s : Sl) (l : Addr), ρ[i]? = some s → s.own = true → σ[i]? = some (some (.ref l)) → H' l = H l) : Rl Φ F ρ σ H' :=
  ⟨R.len, fs, gs, R.bd, R.dat, R.lk, fun i s h1 h2 => by
    obtain ⟨l, o, a, b, c, d, e⟩ := R.own i s h1 h2
    exact ⟨l, o, a, b, c, (ow i s l h1 h2 a).trans d, e⟩, R.dj, R.io, R.tb.kt kt⟩
theorem Rl.same (R : Rl Φ F ρ σ H) (h : Same H H') : Rl Φ F ρ σ H' :=
  R.heap (KT.of h) (R.fs.trans h) (R.gs.trans h) fun i s l h1 h2 h3 => by
    obtain ⟨l', o, a, b, c, d, e⟩ := R.own i s h1 h2
    rw [h3] at a
    injection a with a; injection a with a; injection a with a
    subst a
    rw [d]; exact h _ _ d
/-- an object is laid at a new place, untold -/
theorem Rl.laid (R : Rl Φ F ρ σ H) {p : Addr} {o : HO} (e : H p = none) : Rl Φ F ρ σ (upd H p o) := R.same (same_upd (Same.refl H) e)
/-- what stands at p is frozen -/
theorem Rl.freeze (R : Rl Φ F ρ σ H) {p : Addr} {o : HO} (fr : Fresh Φ F ρ σ p) (e : H p = some o) (hb : ∀ vs, o = .lst vs ∨ o = .tup vs ∨ (∃ ob, o = .frz ob (.lst vs) ∨ o = .frz ob (.tup vs)) → vs.length ≤ sizeLine) (hl : lasting o = false := by rfl) : Rl Φ (upd F p o) ρ σ H where
  len := R.len
  fs := same_updL R.fs e
  gs := R.gs
  bd := fun a vs h => by
    by_cases ha : a = p
    · subst ha
      apply hb
      rcases h with (h | ⟨ob, h⟩) | (h | ⟨ob, h⟩) <;> rw [upd_same] at h <;> injection h with h
      · exact .inl h
      · exact .inr (.inr ⟨ob, .inl h⟩)
      · exact .inr (.inl h)
      · exact .inr (.inr ⟨ob, .inr h⟩)
    · apply R.bd a
      rcases h with (h | ⟨ob, h⟩) | (h | ⟨ob, h⟩) <;> rw [upd_ne ha] at h
      · exact .inl (.inl h)
      · exact .inl (.inr ⟨ob, h⟩)
      · exact .inr (.inl h)
      · exact .inr (.inr ⟨ob, h⟩)
  dat := fun i d h => by
    obtain ⟨v, a, b⟩ := R.dat i d h
    exact ⟨v, a, b.mono (same_upd (Same.refl F) fr.1)⟩
  lk := fun i d h => by
    obtain ⟨l, od, ps, a, b, c⟩ := R.lk i d h
    exact ⟨l, od, ps, a, b, c.mono (same_upd (Same.refl F) fr.1)⟩
  own := fun i s h1 h2 => by
    obtain ⟨l, o', a, b, c, d, e'⟩ := R.own i s h1 h2
    have hl : l ≠ p := fun z => fr.2.2 i s h1 h2 (z ▸ a)
    exact ⟨l, o', a, by rw [upd_ne hl]; exact b, c, d, e'.mono (same_upd (Same.refl F) fr.1)⟩
  dj := R.dj
  io := R.io
  tb := R.tb.fz (some_last e hl)
theorem ext_freeze {p : Addr} {o : HO} (fr : Fresh Φ F ρ σ p) : Ext Φ F (upd F p o) :=
  ⟨same_upd (Same.refl F) fr.1, fun b u h => by
    have : b ≠ p := fun z => by subst z; rw [fr.2.1] at h; cases h
    rw [upd_ne this]⟩
/-- a new list or tuple, told -/
theorem Rl.lay (R : Rl Φ F ρ σ H) {p : Addr} {o : HO} (e : H p = none) (hb : ∀ vs, o = .lst vs ∨ o = .tup vs ∨ (∃ ob, o = .frz ob (.lst vs) ∨ o = .frz ob (.tup vs)) → vs.length ≤ sizeLine) (hl : lasting o = false := by rfl) : Rl Φ (upd F p o) ρ σ (upd H p o) ∧ Ext Φ F (upd F p o) :=
  ⟨(R.laid e).freeze (R.fresh e) upd_same hb hl, ext_freeze (R.fresh e)⟩
theorem bd_lst {vs ws : List V} (h : vs.length ≤ sizeLine) : HO.lst vs = .lst ws ∨ HO.lst vs = .tup ws ∨ (∃ ob, HO.lst vs = .frz ob (.lst ws) ∨ HO.lst vs = .frz ob (.tup ws)) → ws.length ≤ sizeLine := by
  rintro (e | e | ⟨ob, e | e⟩)
  · injection e with e; subst e; exact h
  all_goals cases e
theorem bd_tup {vs ws : List V} (h : vs.length ≤ sizeLine) : HO.tup vs = .lst ws ∨ HO.tup vs = .tup ws ∨ (∃ ob, HO.tup vs = .frz ob (.lst ws) ∨ HO.tup vs = .frz ob (.tup ws)) → ws.length ≤ sizeLine := by
  rintro (e | e | ⟨ob, e | e⟩)
  · cases e
  · injection e with e; subst e; exact h
  all_goals cases e
/-- data is stored at a slot -/
theorem Rl.store (R : Rl Φ F ρ σ H) {i : Nat} {v : V} {d : PyData} {s : Sl} (hv : Dn F v d) (hi : ρ[i]? = some s) (hb : s.isBr = false) : Rl Φ F (ρ.set i (.d d)) (σ.set i (some v)) H := by
  have il : i < ρ.length := by
    obtain ⟨h, _⟩ := List.getElem?_eq_some_iff.mp hi; exact h
  have il' : i < σ.length := by rw [R.len]; exact il
  have back : ∀ (j : Nat) (t : Sl), (ρ.set i (.d d))[j]? = some t → t.own = true → j ≠ i ∧ ρ[j]? = some t := fun j t h1 h2 => by
    by_cases hj : i = j
    · subst hj; rw [List.getElem?_set_self il] at h1; injection h1 with h1; subst h1; cases h2
    · rw [List.getElem?_set_ne hj] at h1; exact ⟨fun z => hj z.symm, h1⟩
  refine ⟨by rw [List.length_set, List.length_set]; exact R.len, R.fs, R.gs, R.bd, fun j d' h => ?_, fun j d' h => ?_, fun j t h1 h2 => ?_, fun j k t u l h1 h2 h3 h4 h5 h6 => ?_, fun p hp => ?_, R.tb⟩
  · by_cases hj : i = j
    · subst hj
      rw [List.getElem?_set_self il] at h
      injection h with h; injection h with h; subst h
      exact ⟨v, List.getElem?_set_self il', hv⟩
    · rw [List.getElem?_set_ne hj] at h
      rw [List.getElem?_set_ne hj]
      exact R.dat j d' h
  · by_cases hj : i = j
    · subst hj; rw [List.getElem?_set_self il] at h; injection h with h; cases h
    · rw [List.getElem?_set_ne hj] at h ⊢
      exact R.lk j d' h
  · obtain ⟨hj, h1⟩ := back j t h1 h2
    rw [List.getElem?_set_ne (Ne.symm hj)]
    exact R.own j t h1 h2
  · obtain ⟨hj, h1⟩ := back j t h1 h3
    obtain ⟨hk, h2⟩ := back k u h2 h4
    rw [List.getElem?_set_ne (Ne.symm hj)] at h5
    rw [List.getElem?_set_ne (Ne.symm hk)] at h6
    exact R.dj j k t u l h1 h2 h3 h4 h5 h6
  · obtain ⟨h1, ds, h2⟩ := R.io p hp
    have : i ≠ p.1 := fun z => by
      rw [z, h2] at hi; injection hi with hi; subst hi; cases hb
    rw [List.getElem?_set_ne this, List.getElem?_set_ne this]
    exact ⟨h1, ds, h2⟩
/-- a slot is forgotten -/
theorem Rl.clear (R : Rl Φ F ρ σ H) {i : Nat} {s : Sl} {o : Option V} (hi : ρ[i]? = some s) (hb : s.isBr = false) : Rl Φ F (ρ.set i .no) (σ.set i o) H := by
  have il : i < ρ.length := by
    obtain ⟨h, _⟩ := List.getElem?_eq_some_iff.mp hi; exact h
  have back : ∀ (j : Nat) (t : Sl), (ρ.set i .no)[j]? = some t → t ≠ .no → j ≠ i ∧ ρ[j]? = some t := fun j t h1 h2 => by
    by_cases hj : i = j
    · subst hj; rw [List.getElem?_set_self il] at h1; injection h1 with h1; exact absurd h1.symm h2
    · rw [List.getElem?_set_ne hj] at h1; exact ⟨fun z => hj z.symm, h1⟩
  have nn : ∀ t : Sl, t.own = true → t ≠ .no := fun t h z => by subst z; cases h
  refine ⟨by rw [List.length_set, List.length_set]; exact R.len, R.fs, R.gs, R.bd, fun j d' h => ?_, fun j d' h => ?_, fun j t h1 h2 => ?_, fun j k t u l h1 h2 h3 h4 h5 h6 => ?_, fun p hp => ?_, R.tb⟩
  · obtain ⟨hj, h⟩ := back j _ h (by intro z; cases z)
    rw [List.getElem?_set_ne (Ne.symm hj)]
    exact R.dat j d' h
  · obtain ⟨hj, h⟩ := back j _ h (by intro z; cases z)
    rw [List.getElem?_set_ne (Ne.symm hj)]
    exact R.lk j d' h
  · obtain ⟨hj, h1⟩ := back j t h1 (nn t h2)
    rw [List.getElem?_set_ne (Ne.symm hj)]
    exact R.own j t h1 h2
  · obtain ⟨hj, h1⟩ := back j t h1 (nn t h3)
    obtain ⟨hk, h2⟩ := back k u h2 (nn u h4)
    rw [List.getElem?_set_ne (Ne.symm hj)] at h5
    rw [List.getElem?_set_ne (Ne.symm hk)] at h6
    exact R.dj j k t u l h1 h2 h3 h4 h5 h6
  · obtain ⟨h1, ds, h2⟩ := R.io p hp
    have : i ≠ p.1 := fun z => by
      rw [z, h2] at hi; injection hi with hi; subst hi; cases hb
    rw [List.getElem?_set_ne this, List.getElem?_set_ne this]
    exact ⟨h1, ds, h2⟩
/-- a fresh object of one's own is stored at a slot -/
theorem Rl.storeOwn (R : Rl Φ F ρ σ H) {i : Nat} {p : Addr} {o : HO} {s t : Sl} (fr : Fresh Φ F ρ σ p) (e : H p = some o) (hc : Cn F o t) (ht : t.isBr = false) (hi : ρ[i]? = some s) (hb : s.isBr = false) : Rl Φ F (ρ.set i t) (σ.set i (some (.ref p))) H := by
  have il : i < ρ.length := by
    obtain ⟨h, _⟩ := List.getElem?_eq_some_iff.mp hi; exact h
  have il' : i < σ.length := by rw [R.len]; exact il
  have hto : t.own = true := by cases hc <;> rfl
  refine ⟨by rw [List.length_set, List.length_set]; exact R.len, R.fs, R.gs, R.bd, fun j d' h => ?_, fun j d' h => ?_, fun j u h1 h2 => ?_, fun j k u u' l h1 h2 h3 h4 h5 h6 => ?_, fun q hq => ?_, R.tb⟩
  · by_cases hj : i = j
    · subst hj
      rw [List.getElem?_set_self il] at h
      injection h with h; subst h; cases hc
    · rw [List.getElem?_set_ne hj] at h
      rw [List.getElem?_set_ne hj]
      exact R.dat j d' h
  · by_cases hj : i = j
    · subst hj
      rw [List.getElem?_set_self il] at h
      injection h with h; subst h; cases hc
    · rw [List.getElem?_set_ne hj] at h
      rw [List.getElem?_set_ne hj]
      exact R.lk j d' h
  · by_cases hj : i = j
    · subst hj
      rw [List.getElem?_set_self il] at h1
      injection h1 with h1; subst h1
      exact ⟨p, o, List.getElem?_set_self il', fr.1, fr.2.1, e, hc⟩
    · rw [List.getElem?_set_ne hj] at h1
      rw [List.getElem?_set_ne hj]
      exact R.own j u h1 h2
  · by_cases hj : i = j
    · by_cases hk : i = k
      · exact hj.symm.trans hk
      · subst hj
        rw [List.getElem?_set_self il'] at h5
        rw [List.getElem?_set_ne hk] at h2 h6
        injection h5 with h5; injection h5 with h5; injection h5 with h5; subst h5
        exact absurd h6 (fr.2.2 k u' h2 h4)
    · rw [List.getElem?_set_ne hj] at h1 h5
      by_cases hk : i = k
      · subst hk
        rw [List.getElem?_set_self il'] at h6
        injection h6 with h6; injection h6 with h6; injection h6 with h6; subst h6
        exact absurd h5 (fr.2.2 j u h1 h3)
      · rw [List.getElem?_set_ne hk] at h2 h6
        exact R.dj j k u u' l h1 h2 h3 h4 h5 h6
  · obtain ⟨h1, ds, h2⟩ := R.io q hq
    have : i ≠ q.1 := fun z => by
      rw [z, h2] at hi; injection hi with hi; subst hi; cases hb
    rw [List.getElem?_set_ne this, List.getElem?_set_ne this]
    exact ⟨h1, ds, h2⟩
/-- one's own object is written -/
theorem Rl.write (R : Rl Φ F ρ σ H) {i : Nat} {l : Addr} {o' : HO} {s s' : Sl} (hi : ρ[i]? = some s) (ho : s.own = true) (hl : σ[i]? = some (some (.ref l))) (hc : Cn F o' s') (hb : s'.isBr = s.isBr) : Rl Φ F (ρ.set i s') σ (upd H l o') := by
  have il : i < ρ.length := by
    obtain ⟨h, _⟩ := List.getElem?_eq_some_iff.mp hi; exact h
  have hso : s'.own = true := by cases hc <;> rfl
  obtain ⟨l0, o0, a0, b0, c0, d0, e0⟩ := R.own i s hi ho
  rw [hl] at a0; injection a0 with a0; injection a0 with a0; injection a0 with a0; subst a0
  refine ⟨by rw [List.length_set]; exact R.len, same_upd R.fs b0, same_upd R.gs c0, R.bd, fun j d' h => ?_, fun j d' h => ?_, fun j u h1 h2 => ?_, fun j k u u' l' h1 h2 h3 h4 h5 h6 => ?_, fun q hq => ?_, R.tb.kt (kt_upd (some_last d0 e0.last))⟩
  · by_cases hj : i = j
    · subst hj
      rw [List.getElem?_set_self il] at h
      injection h with h; subst h; cases hc
    · rw [List.getElem?_set_ne hj] at h
      exact R.dat j d' h
  · by_cases hj : i = j
    · subst hj
      rw [List.getElem?_set_self il] at h
      injection h with h; subst h; cases hc
    · rw [List.getElem?_set_ne hj] at h
      exact R.lk j d' h
  · by_cases hj : i = j
    · subst hj
      rw [List.getElem?_set_self il] at h1
      injection h1 with h1; subst h1
      exact ⟨l, o', hl, b0, c0, upd_same, hc⟩
    · rw [List.getElem?_set_ne hj] at h1
      obtain ⟨l', o, a, b, c, d, e⟩ := R.own j u h1 h2
      have : l' ≠ l := fun z => hj (R.dj i j s u l hi h1 ho h2 hl (z ▸ a))
      exact ⟨l', o, a, b, c, by rw [upd_ne this]; exact d, e⟩
  · have un : ∀ (m : Nat) (u : Sl), (ρ.set i s')[m]? = some u → u.own = true → ∃ u0, ρ[m]? = some u0 ∧ u0.own = true := fun m u g1 g2 => by
      by_cases hm : i = m
      · subst hm; exact ⟨s, hi, ho⟩
      · rw [List.getElem?_set_ne hm] at g1; exact ⟨u, g1, g2⟩
    obtain ⟨u0, g1, g2⟩ := un j u h1 h3
    obtain ⟨u1, g3, g4⟩ := un k u' h2 h4
    exact R.dj j k u0 u1 l' g1 g3 g2 g4 h5 h6
  · obtain ⟨h1, ds, h2⟩ := R.io q hq
    refine ⟨h1, ?_⟩
    by_cases hq1 : i = q.1
    · rw [← hq1, hi] at h2
      injection h2 with h2; subst h2
      rw [← hq1, List.getElem?_set_self il]
      cases s' with
      | br ds' => exact ⟨ds', rfl⟩
      | _ => cases hb
    · rw [List.getElem?_set_ne hq1]
      exact ⟨ds, h2⟩
end
end DL
end
section
namespace DL
open PySem PySem.Spec PyProof.Rows L2
variable [Tbs]

/-! ### the mirror's monad -/
abbrev M (α : Type) := Ro → Option (α × Ro)
def ret {α : Type} (a : α) : M α := fun ρ => some (a, ρ)
def bnd {α β : Type} (m : M α) (k : α → M β) : M β := fun ρ => match m ρ with
  | none => none
  | some (a, ρ') => k a ρ'
def lft {α : Type} (o : Option α) : M α := fun ρ => match o with
  | none => none
  | some a => some (a, ρ)
/-- an operand: data, or a slot whose own list is looked at when the operation is done -/
inductive Ag where
  | v (d : PyData)
  | o (j : Nat)
def Ag.get (ρ : Ro) : Ag → Option PyData
  | .v d => some d
  | .o j => match ρ[j]? with
    | some (.ol ds) => some (.list ds)
    | some (.br ds) => some (.list ds)
    | _ => none
/-- the name in slot j -/
def nm (j : Nat) : M Ag := fun ρ => match ρ[j]? with
  | some (.d d) => some (.v d, ρ)
  | some (.ol _) => some (.o j, ρ)
  | some (.br _) => some (.o j, ρ)
  | some (.od _) => some (.o j, ρ)
  | some (.lk _) => some (.o j, ρ)
  | _ => none
/-- it leaves: one's own list is changed no more -/
def frz : Ag → M PyData
  | .v d => ret d
  | .o j => fun ρ => match ρ[j]? with
    | some (.ol ds) => some (.list ds, ρ.set j (.d (.list ds)))
    | _ => none
def dat (m : M Ag) : M PyData := bnd m frz
def val (m : M PyData) : M Ag := bnd m fun d => ret (.v d)

theorem bnd_some {α β : Type} {m : M α} {k : α → M β} {ρ : Ro} {z : β × Ro} (h : bnd m k ρ = some z) : ∃ a ρ', m ρ = some (a, ρ') ∧ k a ρ' = some z := by
  unfold bnd at h
  split at h
  · cases h
  · rename_i a ρ' e
    exact ⟨a, ρ', e, h⟩
theorem lft_some {α : Type} {o : Option α} {ρ ρ' : Ro} {a : α} (h : lft o ρ = some (a, ρ')) : o = some a ∧ ρ' = ρ := by
  unfold lft at h
  split at h
  · cases h
  · cases h; exact ⟨rfl, rfl⟩
theorem ret_some {α : Type} {a b : α} {ρ ρ' : Ro} (h : ret a ρ = some (b, ρ')) : b = a ∧ ρ' = ρ := by
  unfold ret at h; cases h; exact ⟨rfl, rfl⟩

/-! ### readings -/
def AgOk (F : Hp) (σ : L2.St) (v : V) : Ag → Prop
  | .v d => Dn F v d
  | .o j => σ[j]? = some (some v)
theorem AgOk.mono {F F' : Hp} {σ : L2.St} {v : V} {a : Ag} (h : Same F F') (x : AgOk F σ v a) : AgOk F' σ v a := by
  cases a with
  | v d => exact Dn.mono h x
  | o j => exact x
/-- what a value looks like: data, or a list in the heap whose items are data -/
inductive Lk (F H : Hp) : V → PyData → Prop
  | dn {v : V} {d : PyData} : Dn F v d → Lk F H v d
  | lst {a : Addr} {vs : List V} {ds : List PyData} : H a = some (.lst vs) → vs.length ≤ sizeLine → DnA F vs ds → Lk F H (.ref a) (.list ds)
theorem Ag.lk {Φ : Fx} {F H : Hp} {ρ : Ro} {σ : L2.St} {v : V} {a : Ag} {d : PyData} (R : Rl Φ F ρ σ H) (x : AgOk F σ v a) (e : a.get ρ = some d) : Lk F H v d := by
  cases a with
  | v d' => injection e with e; subst e; exact .dn x
  | o j =>
    simp only [Ag.get] at e
    split at e
    · rename_i ds q
      injection e with e; subst e
      obtain ⟨l, o, a, b, c, d, cn⟩ := R.own j _ q rfl
      have x' : σ[j]? = some (some v) := x
      rw [x'] at a; injection a with a; injection a with a; subst a
      cases cn with
      | ol h1 h2 => exact .lst d h1 h2
    · rename_i ds q
      injection e with e; subst e
      obtain ⟨l, o, a, b, c, d, cn⟩ := R.own j _ q rfl
      have x' : σ[j]? = some (some v) := x
      rw [x'] at a; injection a with a; injection a with a; subst a
      cases cn with
      | br h1 h2 => exact .lst d h1 h2
    · cases e
theorem Lk.seqL {K : PySem.W.Frag} {F H : Hp} {v : V} {ds : List PyData} (h : Same F H) (x : Lk F H v (.list ds)) : ∃ a vs, v = .ref a ∧ SqL K H a vs ∧ DnA F vs ds := by
  cases x with
  | dn y => cases y with
    | lst r t => exact ⟨_, _, rfl, .inl (rd_mono h r), t⟩
  | lst e z t => exact ⟨_, _, rfl, SqL.of e, t⟩
theorem Lk.seqT {K : PySem.W.Frag} {F H : Hp} {v : V} {ds : List PyData} (h : Same F H) (x : Lk F H v (.tuple ds)) : ∃ a vs, v = .ref a ∧ SqT K H a vs ∧ DnA F vs ds := by
  cases x with
  | dn y => cases y with
    | tup r t => exact ⟨_, _, rfl, .inl (rd_mono h r), t⟩
theorem Lk.int {F H : Hp} {v : V} {i : Int} (x : Lk F H v (.int i)) : v = .int i := by
  cases x with
  | dn y => cases y; rfl
theorem Lk.bl {F H : Hp} {v : V} {b : Bool} (x : Lk F H v (.bool b)) : v = .bl b := by
  cases x with
  | dn y => cases y; rfl
theorem Lk.str {F H : Hp} {v : V} {b : Str} (x : Lk F H v (.str b)) : v = .str b := by
  cases x with
  | dn y => cases y; rfl
theorem Lk.non {F H : Hp} {v : V} (x : Lk F H v .none) : v = .non := by
  cases x with
  | dn y => cases y; rfl
theorem Lk.dp {K : PySem.W.Frag} {F H : Hp} (h : Same F H) {v : V} {d : PyData} (x : Lk F H v d) : Dp K H v d := by
  cases x with
  | dn y => exact y.dp K h
  | lst e z t => exact .lst (SqL.of e) (t.dp K h)

/-- an expression's reading does what the mirror says -/
def SX (t : TE) (m : M Ag) : Prop := ∀ (Φ : Fx) (F : Hp) (ρ : Ro) (σ : L2.St) (H : Hp) (Q : VK) (a : Ag) (ρ' : Ro), Rl Φ F ρ σ H → m ρ = some (a, ρ') →
  (∀ v F' H', Rl Φ F' ρ' σ H' → Ext Φ F F' → AgOk F' σ v a → Q v H') → t σ H Q
def SE (t : TE) (m : M PyData) : Prop := ∀ (Φ : Fx) (F : Hp) (ρ : Ro) (σ : L2.St) (H : Hp) (Q : VK) (d : PyData) (ρ' : Ro), Rl Φ F ρ σ H → m ρ = some (d, ρ') →
  (∀ v F' H', Rl Φ F' ρ' σ H' → Ext Φ F F' → Dn F' v d → Q v H') → t σ H Q
def SO (t : TE) (m : M Sl) : Prop := ∀ (Φ : Fx) (F : Hp) (ρ : Ro) (σ : L2.St) (H : Hp) (Q : VK) (s : Sl) (ρ' : Ro), Rl Φ F ρ σ H → m ρ = some (s, ρ') →
  (∀ p o F' H', Rl Φ F' ρ' σ H' → Ext Φ F F' → Fresh Φ F' ρ' σ p → H' p = some o → Cn F' o s → s.isBr = false → Q (.ref p) H') → t σ H Q
def STt (t : TT) (m : M Bool) : Prop := ∀ (Φ : Fx) (F : Hp) (ρ : Ro) (σ : L2.St) (H : Hp) (Q : Bool → Hp → Prop) (b : Bool) (ρ' : Ro), Rl Φ F ρ σ H → m ρ = some (b, ρ') →
  (∀ F' H', Rl Φ F' ρ' σ H' → Ext Φ F F' → Q b H') → t σ H Q
inductive AgA (F : Hp) (σ : L2.St) : List V → List Ag → Prop
  | nil : AgA F σ [] []
  | cons {v : V} {a : Ag} {vs : List V} {as : List Ag} : AgOk F σ v a → AgA F σ vs as → AgA F σ (v :: vs) (a :: as)
def SA (t : TA) (m : M (List Ag)) : Prop := ∀ (Φ : Fx) (F : Hp) (ρ : Ro) (σ : L2.St) (H : Hp) (Q : List V → Hp → Prop) (as : List Ag) (ρ' : Ro), Rl Φ F ρ σ H → m ρ = some (as, ρ') →
  (∀ vs F' H', Rl Φ F' ρ' σ H' → Ext Φ F F' → AgA F' σ vs as → Q vs H') → t σ H Q
structure EX (X : Cx) (e : Expr) (t : TE) (m : M Ag) : Prop where
  pe : PE X e t
  se : SX t m
structure EV (X : Cx) (e : Expr) (t : TE) (m : M PyData) : Prop where
  pe : PE X e t
  se : SE t m
structure EO (X : Cx) (e : Expr) (t : TE) (m : M Sl) : Prop where
  pe : PE X e t
  se : SO t m
structure ET (X : Cx) (e : Expr) (t : TT) (m : M Bool) : Prop where
  pe : PT X e t
  se : STt t m
structure EW (X : Cx) (e : Expr) (t : TT) (m : M Bool) : Prop where
  pe : PW X e t
  se : STt t m
structure EA (X : Cx) (es : List Expr) (t : TA) (m : M (List Ag)) : Prop where
  pe : PA X es t
  se : SA t m

theorem SE.sx {t : TE} {m : M PyData} (h : SE t m) : SX t (val m) := fun Φ F ρ σ H Q a ρ' R e q => by
  obtain ⟨d, ρ1, e1, e2⟩ := bnd_some e
  obtain ⟨rfl, rfl⟩ := ret_some e2
  exact h Φ F ρ σ H Q d _ R e1 q
theorem SX.se {t : TE} {m : M Ag} (h : SX t m) : SE t (dat m) := fun Φ F ρ σ H Q d ρ' R e q => by
  obtain ⟨a, ρ1, e1, e2⟩ := bnd_some e
  refine h Φ F ρ σ H Q a ρ1 R e1 fun v F' H' R' X' ok => ?_
  cases a with
  | v d' =>
    obtain ⟨rfl, rfl⟩ := ret_some e2
    exact q v F' H' R' X' ok
  | o j =>
    have e2 : (match ρ1[j]? with
      | some (Sl.ol ds) => some (PyData.list ds, ρ1.set j (.d (.list ds)))
      | _ => none) = some (d, ρ') := e2
    split at e2
    · rename_i ds hj
      cases e2
      obtain ⟨l, o, a, b, c, d, cn⟩ := R'.own j _ hj rfl
      have ok : σ[j]? = some (some v) := ok
      rw [ok] at a; injection a with a; injection a with a; subst a
      cases cn with
      | @ol vs _ h1 h2 =>
        have R2 := R'.clear (o := σ[j]?.join) hj rfl
        have es : σ.set j (σ[j]?.join) = σ := by
          rw [ok]; exact List.ext_getElem? fun k => by
            by_cases hk : j = k
            · subst hk
              rw [List.getElem?_set_self (List.getElem?_eq_some_iff.mp ok).1, ok]; rfl
            · rw [List.getElem?_set_ne hk]
        rw [es] at R2
        have fr : Fresh Φ F' (ρ1.set j .no) σ l := ⟨b, c, fun k s g1 g2 g3 => by
          by_cases hk : j = k
          · subst hk
            rw [List.getElem?_set_self (List.getElem?_eq_some_iff.mp hj).1] at g1
            injection g1 with g1; subst g1; cases g2
          · rw [List.getElem?_set_ne hk] at g1
            exact hk (R'.dj j k _ s l hj g1 rfl g2 ok g3)⟩
        have R3 := R2.freeze fr d (fun ws => bd_lst h1)
        have X3 : Ext Φ F' (upd F' l (.lst vs)) := ext_freeze fr
        have dn : Dn (upd F' l (.lst vs)) (.ref l) (.list ds) := .lst (.inl upd_same) (h2.mono X3.1)
        have il : j < ρ1.length := (List.getElem?_eq_some_iff.mp hj).1
        have R4 := R3.store (i := j) dn (List.getElem?_set_self il) rfl
        rw [List.set_set] at R4
        have es2 : σ.set j (some (.ref l)) = σ := by
          have := es; rw [ok] at this; exact this
        rw [es2] at R4
        exact q _ _ _ R4 (X'.trans X3) dn
    · cases e2
section
variable {X : Cx} {e : Expr} {t : TE}
theorem EV.ex {m : M PyData} (h : EV X e t m) : EX X e t (val m) := ⟨h.pe, h.se.sx⟩
theorem EX.ev {m : M Ag} (h : EX X e t m) : EV X e t (dat m) := ⟨h.pe, h.se.se⟩
end

/-! ### names, constants -/
theorem sx_var (i : Nat) : SX (tVar i) (nm i) := fun Φ F ρ σ H Q a ρ' R e q => by
  unfold nm at e
  split at e
  · rename_i d h
    cases e
    obtain ⟨v, hv, hd⟩ := R.dat i d h
    exact ⟨v, hv, q v F H R (Ext.refl Φ F) hd⟩
  · rename_i d h
    cases e
    obtain ⟨l, o, a, _⟩ := R.own i _ h rfl
    exact ⟨_, a, q _ F H R (Ext.refl Φ F) a⟩
  · rename_i d h
    cases e
    obtain ⟨l, o, a, _⟩ := R.own i _ h rfl
    exact ⟨_, a, q _ F H R (Ext.refl Φ F) a⟩
  · rename_i d h
    cases e
    obtain ⟨l, o, a, _⟩ := R.own i _ h rfl
    exact ⟨_, a, q _ F H R (Ext.refl Φ F) a⟩
  · rename_i d h
    cases e
    obtain ⟨l, o, ps, a, _⟩ := R.lk i _ h
    exact ⟨_, a, q _ F H R (Ext.refl Φ F) a⟩
  · cases e
theorem se_c {v : V} {d : PyData} (h : ∀ F, Dn F v d) : SE (tC v) (ret d) := fun Φ F ρ σ H Q d' ρ' R e q => by
  obtain ⟨rfl, rfl⟩ := ret_some e
  exact q v F H R (Ext.refl Φ F) (h F)
section
variable {X : Cx} {pos : Pos}
theorem ex_var (i : Nat) {x : Str} (hN : X.N[i]? = some x := by rfl) (hv : Vis X.env.scope x := by first | exact Or.inl rfl | exact Or.inr (Or.inl rfl) | exact Or.inr (Or.inr rfl)) (hd : (x == ("__debug__" : Str)) = false := by decide)
    (hcd : (x == ("__classdict__" : Str)) = false := by decide) : EX X (.Name x pos) (tVar i) (nm i) := ⟨pe_var hN hv hd hcd, sx_var i⟩
theorem ev_var (i : Nat) {x : Str} (hN : X.N[i]? = some x := by rfl) (hv : Vis X.env.scope x := by first | exact Or.inl rfl | exact Or.inr (Or.inl rfl) | exact Or.inr (Or.inr rfl)) (hd : (x == ("__debug__" : Str)) = false := by decide)
    (hcd : (x == ("__classdict__" : Str)) = false := by decide) : EV X (.Name x pos) (tVar i) (dat (nm i)) := (ex_var i hN hv hd hcd).ev
theorem ev_int {i : Int} {j} : EV X (.Constant (.int i) j pos) (tC (.int i)) (ret (.int i)) := ⟨pe_int, se_c fun _ => .int i⟩
theorem ev_bl {b : Bool} {j} : EV X (.Constant (.bool b) j pos) (tC (.bl b)) (ret (.bool b)) := ⟨pe_bl, se_c fun _ => .bl b⟩
theorem ev_non {j} : EV X (.Constant .none j pos) (tC .non) (ret .none) := ⟨pe_non, se_c fun _ => .non⟩
theorem ev_str {x : Str} {j} : EV X (.Constant (.str x) j pos) (tC (.str x)) (ret (.str x)) := ⟨pe_str, se_c fun _ => .str x⟩
/-- a module's int -/
theorem ev_globI {x : Str} {i : Int} (hg : Gl X x) (hm : ∃ t, X.mg x = some (.int i t)) (hd : (x == ("__debug__" : Str)) = false := by decide) : EV X (.Name x pos) (tC (.int i)) (ret (.int i)) := by
  obtain ⟨t, hm⟩ := hm
  exact ⟨pe_glob hg hm ⟨t, rfl⟩ hd, se_c fun _ => .int i⟩
theorem ev_globS {x : Str} {i : Str} (hg : Gl X x) (hm : ∃ t, X.mg x = some (.str i t)) (hd : (x == ("__debug__" : Str)) = false := by decide) : EV X (.Name x pos) (tC (.str i)) (ret (.str i)) := by
  obtain ⟨t, hm⟩ := hm
  exact ⟨pe_glob hg hm ⟨t, rfl⟩ hd, se_c fun _ => .str i⟩
end

/-! ### two operands -/
def R2S (r : R2) (f : PyData → PyData → Option PyData) : Prop := ∀ (Φ : Fx) (F : Hp) (ρ : Ro) (σ : L2.St) (H : Hp) (Q : VK) (x y : V) (d e z : PyData), Rl Φ F ρ σ H → Lk F H x d → Lk F H y e → f d e = some z →
  (∀ v F' H', Rl Φ F' ρ σ H' → Ext Φ F F' → Dn F' v z → Q v H') → r x y H Q
def gets2 {α : Type} (f : PyData → PyData → Option α) (a b : Ag) : M α := fun ρ => match a.get ρ, b.get ρ with
  | some d, some e => (match f d e with
    | some z => some (z, ρ)
    | none => none)
  | _, _ => none
def op2 {α : Type} (f : PyData → PyData → Option α) (ma mb : M Ag) : M α := bnd ma fun a => bnd mb fun b => gets2 f a b
theorem gets2_some {α : Type} {f : PyData → PyData → Option α} {a b : Ag} {ρ ρ' : Ro} {z : α} (h : gets2 f a b ρ = some (z, ρ')) : ∃ d e, a.get ρ = some d ∧ b.get ρ = some e ∧ f d e = some z ∧ ρ' = ρ := by
  unfold gets2 at h
  split at h
  · rename_i d e h1 h2
    split at h
    · rename_i z' h3
      cases h
      exact ⟨d, e, h1, h2, h3, rfl⟩
    · cases h
  · cases h
theorem se_op2 {r : R2} {f : PyData → PyData → Option PyData} {ta tb : TE} {ma mb : M Ag} (hr : R2S r f) (ha : SX ta ma) (hb : SX tb mb) : SE (tOp r ta tb) (op2 f ma mb) := fun Φ F ρ σ H Q z ρ' R e q => by
  obtain ⟨a, ρ1, e1, e2⟩ := bnd_some e
  obtain ⟨b, ρ2, e3, e4⟩ := bnd_some e2
  obtain ⟨d, d', g1, g2, g3, rfl⟩ := gets2_some e4
  refine ha Φ F ρ σ H _ a ρ1 R e1 fun v F1 H1 R1 X1 k1 => ?_
  refine hb Φ F1 ρ1 σ H1 _ b _ R1 e3 fun u F2 H2 R2 X2 k2 => ?_
  exact hr Φ F2 _ σ H2 Q v u d d' z R2 (Ag.lk R2 (k1.mono X2.1) g1) (Ag.lk R2 k2 g2) g3 fun w F3 H3 R3 X3 k3 => q w F3 H3 R3 ((X1.trans X2).trans X3) k3
theorem R2S.or {r r' : R2} {f f' : PyData → PyData → Option PyData} (h : R2S r f) (h' : R2S r' f') : R2S (fun x y H Q => r x y H Q ∨ r' x y H Q) (fun d e => match f d e with | some z => some z | none => f' d e) := fun Φ F ρ σ H Q x y d e z R k1 k2 g q => by
  try dsimp only at g
  split at g
  · rename_i z' hz
    cases g
    exact .inl (h Φ F ρ σ H Q x y d e _ R k1 k2 hz q)
  · exact .inr (h' Φ F ρ σ H Q x y d e z R k1 k2 g q)
/-- the answer is a flat value, the heap as it is -/
theorem r2s_ints {r : R2} {f : PyData → PyData → Option PyData} {g : Int → Int → Option PyData} (hf : ∀ d e z, f d e = some z → ∃ i j, d = .int i ∧ e = .int j ∧ g i j = some z)
    (h : ∀ (i j : Int) (z : PyData) (H : Hp) (Q : VK), g i j = some z → (∀ v, (∀ F, Dn F v z) → Q v H) → r (.int i) (.int j) H Q) : R2S r f := fun Φ F ρ σ H Q x y d e z R k1 k2 hz q => by
  obtain ⟨i, j, rfl, rfl, hg⟩ := hf d e z hz
  rw [k1.int, k2.int]
  exact h i j z H Q hg fun v hv => q v F H R (Ext.refl Φ F) (hv F)

/-- no power is opened -/
def big : Nat := 2 ^ 2000
def fII (c : Int → Int → Bool) (g : Int → Int → PyData) : PyData → PyData → Option PyData
  | .int i, .int j => if c i j then some (g i j) else none
  | _, _ => none
theorem fII_some {c : Int → Int → Bool} {g : Int → Int → PyData} {d e z : PyData} (h : fII c g d e = some z) : ∃ i j, d = .int i ∧ e = .int j ∧ c i j = true ∧ z = g i j := by
  unfold fII at h
  split at h
  · rename_i i j
    split at h
    · rename_i hc
      cases h
      exact ⟨i, j, rfl, rfl, hc, rfl⟩
    · cases h
  · cases h
theorem r2s_I {C : Int → Int → Prop} {gv : Int → Int → V} {c : Int → Int → Bool} {g : Int → Int → PyData} (hc : ∀ i j, c i j = true → C i j) (hg : ∀ i j F, Dn F (gv i j) (g i j)) : R2S (rI C gv) (fII c g) := fun Φ F ρ σ H Q x y d e z R k1 k2 hz q => by
  obtain ⟨i, j, rfl, rfl, h1, rfl⟩ := fII_some hz
  exact ⟨i, j, k1.int, k2.int, hc i j h1, q _ F H R (Ext.refl Φ F) (hg i j F)⟩
theorem r2s_I0 {gv : Int → Int → V} {g : Int → Int → PyData} (hg : ∀ i j F, Dn F (gv i j) (g i j)) : R2S (rI0 gv) (fII (fun _ _ => true) g) := fun Φ F ρ σ H Q x y d e z R k1 k2 hz q => by
  obtain ⟨i, j, rfl, rfl, h1, rfl⟩ := fII_some hz
  exact ⟨i, j, k1.int, k2.int, q _ F H R (Ext.refl Φ F) (hg i j F)⟩

section
variable {X : Cx} {a b : Expr} {ta tb : TE} {ma mb : M Ag} {pos : Pos}
theorem ev_op {op : Operator} {r : R2} {f : PyData → PyData → Option PyData} (ho : OpR X (binaryOp op) r) (hr : R2S r f) (ha : EX X a ta ma) (hb : EX X b tb mb) : EV X (.BinOp a op b pos) (tOp r ta tb) (op2 f ma mb) := ⟨pe_op ho ha.pe hb.pe, se_op2 hr ha.se hb.se⟩
theorem ev_cmp {op : CmpOp} {r : R2} {f : PyData → PyData → Option PyData} (ho : OpR X (compareOp op) r) (hr : R2S r f) (hm : behindInMarks op b = false) (ha : EX X a ta ma) (hb : EX X b tb mb) : EV X (.Compare a [op] [b] pos) (tOp r ta tb) (op2 f ma mb) := ⟨pe_cmpR ho ha.pe hb.pe hm, se_op2 hr ha.se hb.se⟩
def tbool (m : M PyData) : M Bool := bnd m fun d => lft (match d with | .bool b => some b | _ => none)
theorem stt_test {t : TE} {m : M PyData} (h : SE t m) : STt (tTest t) (tbool m) := fun Φ F ρ σ H Q b ρ' R e q => by
  obtain ⟨d, ρ1, e1, e2⟩ := bnd_some e
  obtain ⟨e3, rfl⟩ := lft_some e2
  refine h Φ F ρ σ H _ d _ R e1 fun v F' H' R' X' k => ?_
  split at e3
  · rename_i c
    cases e3
    cases k
    exact ⟨_, rfl, q F' H' R' X'⟩
  · cases e3
theorem et_cmp {op : CmpOp} {r : R2} {f : PyData → PyData → Option PyData} (ho : OpR X (compareOp op) r) (hr : R2S r f) (hm : behindInMarks op b = false) (ha : EX X a ta ma) (hb : EX X b tb mb) : ET X (.Compare a [op] [b] pos) (tTest (tOp r ta tb)) (tbool (op2 f ma mb)) := ⟨pt_cmpR ho ha.pe hb.pe hm, stt_test (se_op2 hr ha.se hb.se)⟩
theorem et_val {e : Expr} {t : TE} {m : M PyData} (h : EV X e t m) (he : ∀ whole, isTrue e X.env whole = (do let v ← whole; standAt e.pos; holding [v] (truthy v)) := by intro _; rfl) : ET X e (tB t) (tbool m) := ⟨pt_val h.pe he, stt_test h.se⟩
end

/-! ### and, or, not, if -/
def mAnd (m k : M Bool) : M Bool := bnd m fun b => if b = true then k else ret false
def mOr (m k : M Bool) : M Bool := bnd m fun b => if b = true then ret true else k
def mNot (m : M Bool) : M Bool := bnd m fun b => ret (!b)
def mBl (m : M Bool) : M PyData := bnd m fun b => ret (.bool b)
def vAnd (m k : M PyData) : M PyData := bnd (tbool m) fun b => if b = true then k else ret (.bool false)
def vOr (m k : M PyData) : M PyData := bnd (tbool m) fun b => if b = true then ret (.bool true) else k
def vNot (m : M PyData) : M PyData := bnd (tbool m) fun b => ret (.bool (!b))
def mIte {α : Type} (c : M Bool) (m k : M α) : M α := bnd c fun b => if b = true then m else k
theorem stt_and {t u : TT} {m k : M Bool} (ht : STt t m) (hu : STt u k) : STt (tAnd t u) (mAnd m k) := fun Φ F ρ σ H Q b ρ' R e q => by
  obtain ⟨c, ρ1, e1, e2⟩ := bnd_some e
  refine ht Φ F ρ σ H _ c ρ1 R e1 fun F' H' R' X' => ?_
  cases c with
  | true => exact hu Φ F' ρ1 σ H' Q b ρ' R' e2 fun F2 H2 R2 X2 => q F2 H2 R2 (X'.trans X2)
  | false =>
    obtain ⟨rfl, rfl⟩ := ret_some e2
    exact q F' H' R' X'
theorem stt_or {t u : TT} {m k : M Bool} (ht : STt t m) (hu : STt u k) : STt (tOr t u) (mOr m k) := fun Φ F ρ σ H Q b ρ' R e q => by
  obtain ⟨c, ρ1, e1, e2⟩ := bnd_some e
  refine ht Φ F ρ σ H _ c ρ1 R e1 fun F' H' R' X' => ?_
  cases c with
  | false => exact hu Φ F' ρ1 σ H' Q b ρ' R' e2 fun F2 H2 R2 X2 => q F2 H2 R2 (X'.trans X2)
  | true =>
    obtain ⟨rfl, rfl⟩ := ret_some e2
    exact q F' H' R' X'
theorem stt_not {t : TT} {m : M Bool} (ht : STt t m) : STt (tNot t) (mNot m) := fun Φ F ρ σ H Q b ρ' R e q => by
  obtain ⟨c, ρ1, e1, e2⟩ := bnd_some e
  obtain ⟨rfl, rfl⟩ := ret_some e2
  exact ht Φ F ρ σ H _ c _ R e1 q
theorem se_bl {t : TE} {m : M PyData} (h : SE t m) {Φ : Fx} {F : Hp} {ρ : Ro} {σ : L2.St} {H : Hp} {Q : VK} {b : Bool} {ρ' : Ro} (R : Rl Φ F ρ σ H) (e : tbool m ρ = some (b, ρ'))
    (q : ∀ F' H', Rl Φ F' ρ' σ H' → Ext Φ F F' → Q (.bl b) H') : t σ H Q := by
  obtain ⟨d, ρ1, e1, e2⟩ := bnd_some e
  obtain ⟨e3, rfl⟩ := lft_some e2
  refine h Φ F ρ σ H _ d _ R e1 fun v F' H' R' X' k => ?_
  split at e3
  · cases e3
    cases k
    exact q F' H' R' X'
  · cases e3
theorem se_and {t u : TE} {m k : M PyData} (ht : SE t m) (hu : SE u k) : SE (tAndV t u) (vAnd m k) := fun Φ F ρ σ H Q d ρ' R e q => by
  obtain ⟨c, ρ1, e1, e2⟩ := bnd_some e
  refine se_bl ht R e1 fun F' H' R' X' => ⟨c, rfl, ?_⟩
  cases c with
  | true => exact hu Φ F' ρ1 σ H' Q d ρ' R' e2 fun v F2 H2 R2 X2 k2 => q v F2 H2 R2 (X'.trans X2) k2
  | false =>
    obtain ⟨rfl, rfl⟩ := ret_some e2
    exact q _ F' H' R' X' (.bl false)
theorem se_or {t u : TE} {m k : M PyData} (ht : SE t m) (hu : SE u k) : SE (tOrV t u) (vOr m k) := fun Φ F ρ σ H Q d ρ' R e q => by
  obtain ⟨c, ρ1, e1, e2⟩ := bnd_some e
  refine se_bl ht R e1 fun F' H' R' X' => ⟨c, rfl, ?_⟩
  cases c with
  | false => exact hu Φ F' ρ1 σ H' Q d ρ' R' e2 fun v F2 H2 R2 X2 k2 => q v F2 H2 R2 (X'.trans X2) k2
  | true =>
    obtain ⟨rfl, rfl⟩ := ret_some e2
    exact q _ F' H' R' X' (.bl true)
theorem se_not {t : TE} {m : M PyData} (ht : SE t m) : SE (tNotV t) (vNot m) := fun Φ F ρ σ H Q d ρ' R e q => by
  obtain ⟨c, ρ1, e1, e2⟩ := bnd_some e
  obtain ⟨rfl, rfl⟩ := ret_some e2
  exact se_bl ht R e1 fun F' H' R' X' => ⟨c, rfl, q _ F' H' R' X' (.bl _)⟩
theorem se_if {c : TT} {t u : TE} {mc : M Bool} {m k : M PyData} (hc : STt c mc) (ht : SE t m) (hu : SE u k) : SE (tIf c t u) (mIte mc m k) := fun Φ F ρ σ H Q d ρ' R e q => by
  obtain ⟨b, ρ1, e1, e2⟩ := bnd_some e
  refine hc Φ F ρ σ H _ b ρ1 R e1 fun F' H' R' X' => ?_
  cases b with
  | true => exact ht Φ F' ρ1 σ H' Q d ρ' R' e2 fun v F2 H2 R2 X2 k2 => q v F2 H2 R2 (X'.trans X2) k2
  | false => exact hu Φ F' ρ1 σ H' Q d ρ' R' e2 fun v F2 H2 R2 X2 k2 => q v F2 H2 R2 (X'.trans X2) k2
section
variable {X : Cx} {a b : Expr} {rest : List Expr} {pos : Pos}
theorem EW.et {e : Expr} {t : TT} {m : M Bool} (h : EW X e t m) : ET X e t m := ⟨h.pe.pt, h.se⟩
theorem ew_and1 {t : TT} {m : M Bool} (h : ET X a t m) : EW X (.BoolOp .And [a] pos) t m := ⟨pw_and1 h.pe, h.se⟩
theorem ew_or1 {t : TT} {m : M Bool} (h : ET X a t m) : EW X (.BoolOp .Or [a] pos) t m := ⟨pw_or1 h.pe, h.se⟩
theorem ew_and {t u : TT} {m k : M Bool} (h : ET X a t m) (h2 : EW X (.BoolOp .And (b :: rest) pos) u k) : EW X (.BoolOp .And (a :: b :: rest) pos) (tAnd t u) (mAnd m k) := ⟨pw_and h.pe h2.pe, stt_and h.se h2.se⟩
theorem ew_or {t u : TT} {m k : M Bool} (h : ET X a t m) (h2 : EW X (.BoolOp .Or (b :: rest) pos) u k) : EW X (.BoolOp .Or (a :: b :: rest) pos) (tOr t u) (mOr m k) := ⟨pw_or h.pe h2.pe, stt_or h.se h2.se⟩
theorem et_not {t : TT} {m : M Bool} (h : ET X a t m) : ET X (.UnaryOp .Not a pos) (tNot t) (mNot m) := ⟨pt_not h.pe, stt_not h.se⟩
theorem ev_one {op} {t : TE} {m : M PyData} (h : EV X a t m) : EV X (.BoolOp op [a] pos) t m := ⟨pe_one h.pe, h.se⟩
theorem ev_and {t u : TE} {m k : M PyData} (h : EV X a t m) (h2 : EV X (.BoolOp .And (b :: rest) pos) u k) : EV X (.BoolOp .And (a :: b :: rest) pos) (tAndV t u) (vAnd m k) := ⟨pe_and h.pe h2.pe, se_and h.se h2.se⟩
theorem ev_or {t u : TE} {m k : M PyData} (h : EV X a t m) (h2 : EV X (.BoolOp .Or (b :: rest) pos) u k) : EV X (.BoolOp .Or (a :: b :: rest) pos) (tOrV t u) (vOr m k) := ⟨pe_or h.pe h2.pe, se_or h.se h2.se⟩
theorem ev_not {t : TE} {m : M PyData} (h : EV X a t m) : EV X (.UnaryOp .Not a pos) (tNotV t) (vNot m) := ⟨pe_not h.pe, se_not h.se⟩
theorem ev_if {c : Expr} {tc : TT} {t u : TE} {mc : M Bool} {m k : M PyData} (hc : ET X c tc mc) (h : EV X a t m) (h2 : EV X b u k) : EV X (.IfExp c a b pos) (tIf tc t u) (mIte mc m k) := ⟨pe_ifExp hc.pe h.pe h2.pe, se_if hc.se h.se h2.se⟩
end

/-! ### argument lists, displays -/
def aNil : M (List Ag) := ret []
def aCons (m : M Ag) (k : M (List Ag)) : M (List Ag) := bnd m fun a => bnd k fun as => ret (a :: as)
theorem AgA.mono {F F' : Hp} {σ : L2.St} (h : Same F F') : ∀ {vs : List V} {as : List Ag}, AgA F σ vs as → AgA F' σ vs as
  | _, _, .nil => .nil
  | _, _, .cons a b => .cons (a.mono h) (AgA.mono h b)
theorem sa_nil : SA tNil aNil := fun Φ F ρ σ H Q as ρ' R e q => by
  obtain ⟨rfl, rfl⟩ := ret_some e
  exact q _ F H R (Ext.refl Φ F) .nil
theorem sa_cons {te : TE} {t : TA} {m : M Ag} {k : M (List Ag)} (h : SX te m) (h2 : SA t k) : SA (tCons te t) (aCons m k) := fun Φ F ρ σ H Q as ρ' R e q => by
  obtain ⟨a, ρ1, e1, e2⟩ := bnd_some e
  obtain ⟨as', ρ2, e3, e4⟩ := bnd_some e2
  obtain ⟨rfl, rfl⟩ := ret_some e4
  refine h Φ F ρ σ H _ a ρ1 R e1 fun v F1 H1 R1 X1 k1 => ?_
  refine h2 Φ F1 ρ1 σ H1 _ as' _ R1 e3 fun vs F2 H2 R2 X2 k2 => ?_
  exact q _ F2 H2 R2 (X1.trans X2) (.cons (k1.mono X2.1) k2)
/-- all operands are data now -/
def agD : List Ag → Option (List PyData)
  | [] => some []
  | .v d :: as => match agD as with
    | some ds => some (d :: ds)
    | none => none
  | .o _ :: _ => none
theorem agD_ok {F : Hp} {σ : L2.St} : ∀ {vs : List V} {as : List Ag} {ds : List PyData}, AgA F σ vs as → agD as = some ds → DnA F vs ds
  | _, _, _, .nil, e => by cases e; exact .nil
  | _, _, ds, .cons (a := a) h t, e => by
    cases a with
    | o j => cases e
    | v d =>
      unfold agD at e
      split at e
      · rename_i ds' h'
        cases e
        exact .cons h (agD_ok t h')
      · cases e
/-- what the operands look like -/
def agG (ρ : Ro) : List Ag → Option (List PyData)
  | [] => some []
  | a :: as => match a.get ρ, agG ρ as with
    | some d, some ds => some (d :: ds)
    | _, _ => none
inductive LkA (F H : Hp) : List V → List PyData → Prop
  | nil : LkA F H [] []
  | cons {v : V} {d : PyData} {vs : List V} {ds : List PyData} : Lk F H v d → LkA F H vs ds → LkA F H (v :: vs) (d :: ds)
theorem agG_ok {Φ : Fx} {F H : Hp} {ρ : Ro} {σ : L2.St} (R : Rl Φ F ρ σ H) : ∀ {vs : List V} {as : List Ag} {ds : List PyData}, AgA F σ vs as → agG ρ as = some ds → LkA F H vs ds
  | _, _, _, .nil, e => by cases e; exact .nil
  | _, _, ds, .cons (a := a) h t, e => by
    unfold agG at e
    split at e
    · rename_i d ds' h1 h2
      cases e
      exact .cons (Ag.lk R h h1) (agG_ok R t h2)
    · cases e
/-- the arguments, each data -/
def datA (m : M (List Ag)) : M (List PyData) := bnd m fun as => lft (agD as)
def mTup (m : M (List Ag)) : M PyData := bnd (datA m) fun ds => lft (if ds.length ≤ 16777216 then some (.tuple ds) else none)
def mLst (m : M (List Ag)) : M Sl := bnd (datA m) fun ds => lft (if ds.length ≤ 16777216 then some (.ol ds) else none)
theorem sizeLine_is : sizeLine = 16777216 := sizeLine_eq
theorem sa_dat {t : TA} {m : M (List Ag)} (h : SA t m) {Φ : Fx} {F : Hp} {ρ : Ro} {σ : L2.St} {H : Hp} {Q : List V → Hp → Prop} {ds : List PyData} {ρ' : Ro} (R : Rl Φ F ρ σ H) (e : datA m ρ = some (ds, ρ'))
    (q : ∀ vs F' H', Rl Φ F' ρ' σ H' → Ext Φ F F' → DnA F' vs ds → Q vs H') : t σ H Q := by
  obtain ⟨as, ρ1, e1, e2⟩ := bnd_some e
  obtain ⟨e3, rfl⟩ := lft_some e2
  exact h Φ F ρ σ H Q as _ R e1 fun vs F' H' R' X' k => q vs F' H' R' X' (agD_ok k e3)
theorem se_tup {t : TA} {m : M (List Ag)} (h : SA t m) : SE (tTup t) (mTup m) := fun Φ F ρ σ H Q d ρ' R e q => by
  obtain ⟨ds, ρ1, e1, e2⟩ := bnd_some e
  obtain ⟨e3, rfl⟩ := lft_some e2
  refine sa_dat h R e1 fun vs F' H' R' X' k => ?_
  split at e3
  · rename_i hl
    cases e3
    have hl' : vs.length ≤ sizeLine := by rw [k.length, sizeLine_is]; exact hl
    refine ⟨hl', fun p hp => ?_⟩
    obtain ⟨R2, X2⟩ := R'.lay (o := .tup vs) hp (fun ws => bd_tup hl')
    exact q _ _ _ R2 (X'.trans X2) (.tup (.inl upd_same) (k.mono X2.1))
  · cases e3
theorem so_lst {t : TA} {m : M (List Ag)} (h : SA t m) : SO (tLst t) (mLst m) := fun Φ F ρ σ H Q d ρ' R e q => by
  obtain ⟨ds, ρ1, e1, e2⟩ := bnd_some e
  obtain ⟨e3, rfl⟩ := lft_some e2
  refine sa_dat h R e1 fun vs F' H' R' X' k => ?_
  split at e3
  · rename_i hl
    cases e3
    have hl' : vs.length ≤ sizeLine := by rw [k.length, sizeLine_is]; exact hl
    refine ⟨hl', fun p hp => ?_⟩
    exact q p (.lst vs) F' _ (R'.laid hp) X' (R'.fresh hp) upd_same (.ol hl' k) rfl
  · cases e3
/-- a fresh list as data -/
def slD (s : Sl) : Option PyData := match s with
  | .ol ds => some (.list ds)
  | _ => none
def foD (m : M Sl) : M PyData := bnd m fun s => lft (slD s)
theorem SO.se {t : TE} {m : M Sl} (h : SO t m) : SE t (foD m) := fun Φ F ρ σ H Q d ρ' R e q => by
  obtain ⟨s, ρ1, e1, e2⟩ := bnd_some e
  obtain ⟨e3, rfl⟩ := lft_some e2
  refine h Φ F ρ σ H Q s _ R e1 fun p o F' H' R' X' fr hp hc hb => ?_
  cases hc with
  | @ol vs ds h1 h2 =>
    cases e3
    have X3 : Ext Φ F' (upd F' p (.lst vs)) := ext_freeze fr
    exact q _ _ _ (R'.freeze fr hp fun ws => bd_lst h1) (X'.trans X3) (.lst (.inl upd_same) (h2.mono X3.1))
  | br _ _ => cases e3
  | od _ _ => cases e3
section
variable {X : Cx} {e : Expr} {es : List Expr} {pos : Pos}
theorem EO.ev {t : TE} {m : M Sl} (h : EO X e t m) : EV X e t (foD m) := ⟨h.pe, h.se.se⟩
theorem ea_nil : EA X [] tNil aNil := ⟨pa_nil, sa_nil⟩
theorem ea_cons {te : TE} {t : TA} {m : M Ag} {k : M (List Ag)} (h : EX X e te m) (h2 : EA X es t k) (hs : starEach (e :: es) X.env = (false, eval e X.env) :: starEach es X.env := by rfl) : EA X (e :: es) (tCons te t) (aCons m k) := ⟨pa_cons h.pe h2.pe hs, sa_cons h.se h2.se⟩
theorem ev_tup {t : TA} {m : M (List Ag)} {x1} (h : EA X es t m) : EV X (.Tuple es x1 pos) (tTup t) (mTup m) := ⟨pe_tup h.pe, se_tup h.se⟩
theorem eo_lst {t : TA} {m : M (List Ag)} (h : EA X es t m) : EO X (.List es pos) (tLst t) (mLst m) := ⟨pe_lst h.pe, so_lst h.se⟩
end

/-! ### a built-in function's call -/
def RCS (r : List V → Hp → VK → Prop) (f : List PyData → Option PyData) : Prop := ∀ (Φ : Fx) (F : Hp) (ρ : Ro) (σ : L2.St) (H : Hp) (Q : VK) (vs : List V) (ds : List PyData) (z : PyData), Rl Φ F ρ σ H → LkA F H vs ds → f ds = some z →
  (∀ v F' H', Rl Φ F' ρ σ H' → Ext Φ F F' → Dn F' v z → Q v H') → r vs H Q
def RCO (r : List V → Hp → VK → Prop) (f : List PyData → Option Sl) : Prop := ∀ (Φ : Fx) (F : Hp) (ρ : Ro) (σ : L2.St) (H : Hp) (Q : VK) (vs : List V) (ds : List PyData) (z : Sl), Rl Φ F ρ σ H → LkA F H vs ds → f ds = some z →
  (∀ p o F' H', Rl Φ F' ρ σ H' → Ext Φ F F' → Fresh Φ F' ρ σ p → H' p = some o → Cn F' o z → z.isBr = false → Q (.ref p) H') → r vs H Q
def getA (m : M (List Ag)) : M (List PyData) := bnd m fun as ρ => match agG ρ as with
  | some ds => some (ds, ρ)
  | none => none
def opA {α : Type} (f : List PyData → Option α) (m : M (List Ag)) : M α := bnd (getA m) fun ds => lft (f ds)
theorem sa_get {t : TA} {m : M (List Ag)} (h : SA t m) {Φ : Fx} {F : Hp} {ρ : Ro} {σ : L2.St} {H : Hp} {Q : List V → Hp → Prop} {ds : List PyData} {ρ' : Ro} (R : Rl Φ F ρ σ H) (e : getA m ρ = some (ds, ρ'))
    (q : ∀ vs F' H', Rl Φ F' ρ' σ H' → Ext Φ F F' → LkA F' H' vs ds → Q vs H') : t σ H Q := by
  obtain ⟨as, ρ1, e1, e2⟩ := bnd_some e
  split at e2
  · rename_i ds' e3
    cases e2
    exact h Φ F ρ σ H Q as _ R e1 fun vs F' H' R' X' k => q vs F' H' R' X' (agG_ok R' k e3)
  · cases e2
theorem se_cb {r : List V → Hp → VK → Prop} {f : List PyData → Option PyData} {t : TA} {m : M (List Ag)} (hr : RCS r f) (h : SA t m) : SE (tCB r t) (opA f m) := fun Φ F ρ σ H Q d ρ' R e q => by
  obtain ⟨ds, ρ1, e1, e2⟩ := bnd_some e
  obtain ⟨e3, rfl⟩ := lft_some e2
  exact sa_get h R e1 fun vs F' H' R' X' k => hr Φ F' _ σ H' Q vs ds d R' k e3 fun v F2 H2 R2 X2 k2 => q v F2 H2 R2 (X'.trans X2) k2
theorem so_cb {r : List V → Hp → VK → Prop} {f : List PyData → Option Sl} {t : TA} {m : M (List Ag)} (hr : RCO r f) (h : SA t m) : SO (tCB r t) (opA f m) := fun Φ F ρ σ H Q d ρ' R e q => by
  obtain ⟨ds, ρ1, e1, e2⟩ := bnd_some e
  obtain ⟨e3, rfl⟩ := lft_some e2
  exact sa_get h R e1 fun vs F' H' R' X' k => hr Φ F' _ σ H' Q vs ds d R' k e3 fun p o F2 H2 R2 X2 fr hp hc hb => q p o F2 H2 R2 (X'.trans X2) fr hp hc hb
theorem RCS.or {r r' : List V → Hp → VK → Prop} {f f' : List PyData → Option PyData} (h : RCS r f) (h' : RCS r' f') : RCS (fun xs H Q => r xs H Q ∨ r' xs H Q) (fun ds => match f ds with | some z => some z | none => f' ds) := fun Φ F ρ σ H Q x d z R k1 g q => by
  try dsimp only at g
  split at g
  · rename_i z' hz
    cases g
    exact .inl (h Φ F ρ σ H Q x d _ R k1 hz q)
  · exact .inr (h' Φ F ρ σ H Q x d z R k1 g q)
section
variable {X : Cx} {x : Str} {p pos : Pos} {e : Expr} {es : List Expr} {id T : String} {r : List V → Hp → VK → Prop} {t : TA} {m : M (List Ag)}
theorem ev_callB {f : List PyData → Option PyData} (hc : CallR X (.builtin id) r) (hr : RCS r f) (hg : Gl X x) (hm : X.mg x = none) (hv : bootBuiltins x = some (.builtin id)) (ha : EA X (e :: es) t m) (hn : x ≠ "__name__" := by decide) (hdb : (x == ("__debug__" : Str)) = false := by decide)
    (he : starEach (e :: es) X.env = (false, eval e X.env) :: starEach es X.env := by rfl) (hpl : (backTo pos (starEach es X.env)).any (·.1) = false := by rfl) : EV X (.Call (.Name x p) (e :: es) [] pos) (tCB r t) (opA f m) := ⟨pe_callB hc hg hm hv ha.pe hn hdb he hpl, se_cb hr ha.se⟩
theorem eo_callB {f : List PyData → Option Sl} (hc : CallR X (.builtin id) r) (hr : RCO r f) (hg : Gl X x) (hm : X.mg x = none) (hv : bootBuiltins x = some (.builtin id)) (ha : EA X (e :: es) t m) (hn : x ≠ "__name__" := by decide) (hdb : (x == ("__debug__" : Str)) = false := by decide)
    (he : starEach (e :: es) X.env = (false, eval e X.env) :: starEach es X.env := by rfl) (hpl : (backTo pos (starEach es X.env)).any (·.1) = false := by rfl) : EO X (.Call (.Name x p) (e :: es) [] pos) (tCB r t) (opA f m) := ⟨pe_callB hc hg hm hv ha.pe hn hdb he hpl, so_cb hr ha.se⟩
theorem ev_callT {f : List PyData → Option PyData} (hc : CallR X (.type T) r) (hr : RCS r f) (hg : Gl X x) (hm : X.mg x = none) (hv : bootBuiltins x = some (.type T)) (ha : EA X (e :: es) t m) (hn : x ≠ "__name__" := by decide) (hdb : (x == ("__debug__" : Str)) = false := by decide)
    (he : starEach (e :: es) X.env = (false, eval e X.env) :: starEach es X.env := by rfl) (hpl : (backTo pos (starEach es X.env)).any (·.1) = false := by rfl) : EV X (.Call (.Name x p) (e :: es) [] pos) (tCB r t) (opA f m) := ⟨pe_callTy hc hg hm hv ha.pe hn hdb he hpl, se_cb hr ha.se⟩
theorem eo_callT {f : List PyData → Option Sl} (hc : CallR X (.type T) r) (hr : RCO r f) (hg : Gl X x) (hm : X.mg x = none) (hv : bootBuiltins x = some (.type T)) (ha : EA X (e :: es) t m) (hn : x ≠ "__name__" := by decide) (hdb : (x == ("__debug__" : Str)) = false := by decide)
    (he : starEach (e :: es) X.env = (false, eval e X.env) :: starEach es X.env := by rfl) (hpl : (backTo pos (starEach es X.env)).any (·.1) = false := by rfl) : EO X (.Call (.Name x p) (e :: es) [] pos) (tCB r t) (opA f m) := ⟨pe_callTy hc hg hm hv ha.pe hn hdb he hpl, so_cb hr ha.se⟩
end
end DL
end
section
/-! enumerate over a tuple -/
namespace DL
open PySem PySem.Spec PyProof.Rows L2
variable [Tbs]
open AutoSeq1 (wpAny_loadPart')

set_option maxHeartbeats 1000000 in
theorem newEnumT (q : Addr) (xs : Array Value) (k : Nat) (dc : Option Addr) (sz : Array (Option Value)) :
    Meets (Builtin.«enumerate.__new__» ⟨[.type "enumerate", .ref q], []⟩) (fun _ Rr z => z.heap.get? q = some { cls := .type "tuple", dict := dc, data := .seq xs k, slots := sz } ∧
      Rr (.ok (.ret (.ref (z.heap.push { cls := .type "tuple_iterator", data := .fields #[.ref q, .int 0 0] }).objs.size)))
        { z with heap := (z.heap.push { cls := .type "tuple_iterator", data := .fields #[.ref q, .int 0 0] }).push { cls := .type "enumerate", data := .fields #[.none, .bool false, .ref z.heap.objs.size, rawInt 0, .none, .none] } }) :=
  .of_wp fun pr wo ar Rr z hz => by
    obtain ⟨m0, g0, d0, t0, o0⟩ := z
    obtain ⟨hq, hz⟩ := hz
    have se := sub_enumerate
    have iT : Heap.IsTuple (Shared.heap ⟨m0, g0, d0, t0, o0⟩) q xs := ⟨_, hq, rfl, k, rfl⟩
    wp_walk using wpAny_loadPart' hq
    refine wpAny_stack_any fun stk => wpAny_pure ?_
    split
    · rename_i cc _ _ _ _ _
      cases (cc == Value.type "enumerate") <;> (wp_walk using wpAny_loadPart' hq, wpAny_pyIter_tuple iT; exact ⟨_, rfl, hz⟩)
    · wp_walk using wpAny_loadPart' hq, wpAny_pyIter_tuple iT
      exact ⟨_, rfl, hz⟩

theorem callEnumT {pr : Program} {wo : World} {ar : Around} {Ex : Value → Shared → Prop} {z : Shared} {q : Addr} {xs : Array Value} {Qv : Value → Shared → Prop} (hT : IsTup z.heap q xs)
    (h : ∀ m, IsEnum m (z.heap.objs.size + 1) z.heap.objs.size 0 .none → m.IsTupleIter z.heap.objs.size q 0 → (∀ b o, z.heap.get? b = some o → m.get? b = some o) → Qv (.ref (z.heap.objs.size + 1)) { z with heap := m }) :
    wpAny (model pr wo) ar (call (.type "enumerate") [.ref q]) Qv Ex z := by
  obtain ⟨⟨c, dc, dd, sz⟩, ho, hc, k, hd⟩ := hT
  dsimp only at hc hd
  subst hc hd
  refine callType_new F.called_enumerate (by decide) (F.typeCall_enumerate_1 _) (F.newCall_enumerate_1 _) (fun ob => F.args_object_init_2 ob _) F.entry_enumerate_new (newEnumT q xs k dc sz) ⟨ho, ?_⟩
  have sz1 : (z.heap.push { cls := .type "tuple_iterator", data := .fields #[.ref q, .int 0 0] }).objs.size = z.heap.objs.size + 1 := Heap.size_push ..
  rw [sz1]
  have isE : IsEnum ((z.heap.push { cls := .type "tuple_iterator", data := .fields #[.ref q, .int 0 0] }).push { cls := .type "enumerate", data := .fields #[.none, .bool false, .ref z.heap.objs.size, rawInt 0, .none, .none] }) (z.heap.objs.size + 1) z.heap.objs.size 0 .none := by
    have w := Heap.get?_push_size (z.heap.push { cls := .type "tuple_iterator", data := .fields #[.ref q, .int 0 0] }) (o := { cls := .type "enumerate", data := .fields #[.none, .bool false, .ref z.heap.objs.size, rawInt 0, .none, .none] }) rfl
    rw [sz1] at w
    exact w
  exact ⟨⟨_, isE, rfl⟩, h _ isE ⟨_, Heap.get?_push_of_some _ (Heap.get?_push_size _ rfl), rfl, rfl⟩ fun b o hb => Heap.get?_push_of_some _ (Heap.get?_push_of_some _ hb)⟩

/-- the tuple at a, each item with its place -/
def IteT (K : PySem.W.Frag) (a : Addr) : It where
  go := fun i H => ∃ (vs : List V) (v : V), SqT K H a vs ∧ vs[i]? = some v
  yld := fun i H p H' => ∃ (T : Addr) (v : V), p = .ref T ∧ H T = none ∧ H' = upd H T (.tup [.int (i : Nat), v]) ∧ ∀ vs, SqT K H a vs → vs[i]? = some v
  stop := fun i H => ∃ vs : List V, SqT K H a vs ∧ vs.length ≤ i
theorem turnEnumT {P : Program} {w : World} {K : PySem.W.Frag} {es : List Expr} {kk : Nat} {tp : Pos} (a e it : Addr) :
    Turn P w K (.Tuple es kk tp) (IteT K a) [e, it] e (fun i h => (∃ old, IsEnum h e it ((i : Nat) : Int) old) ∧ h.IsTupleIter it a i ∧ e ≠ it) where
  mem := List.mem_cons_self
  obj := by
    rintro i h ⟨⟨old, he⟩, ⟨o, ho, hc, hd⟩, _⟩ b hb
    rcases List.mem_cons.mp hb with rfl | hb
    · exact ⟨_, he, fun v q => nomatch q⟩
    · cases List.mem_singleton.mp hb
      exact ⟨o, ho, fun v q => by rw [hd] at q; cases q⟩
  keep := by
    rintro i h h' ⟨⟨old, he⟩, hi, ne⟩ k
    exact ⟨⟨old, k e List.mem_cons_self _ he⟩, hi.at fun o q => k it (List.mem_cons_of_mem _ (List.mem_singleton.mpr rfl)) o q, ne⟩
  item := by
    rintro X rfl rfl rfl hc i pins s σ H E I hf ⟨⟨old, he⟩, hit, ne⟩ ⟨vs, v, hq, hx⟩
    obtain ⟨us, rv, tp', hz⟩ := I.tuple hq
    obtain ⟨u, hu, ru⟩ := rv.get hx
    have el : e < s.heap.objs.size := Heap.lt_size he
    have il : it < s.heap.objs.size := by obtain ⟨_, q, _⟩ := hit; exact Heap.lt_size q
    have tup : s.heap.IsTuple a us.toArray := tp'
    have ita : a ≠ it := fun z => by
      obtain ⟨o, ho, hcl, _⟩ := hit
      obtain ⟨o', ho', hcl', _⟩ := tup
      rw [z, ho] at ho'
      cases ho'
      rw [hcl] at hcl'
      injection hcl' with w
      exact absurd w (by decide)
    have ea : e ≠ a := fun z => by
      obtain ⟨o', ho', hcl', _⟩ := tup
      rw [← z] at ho'
      have he' : s.heap.get? e = some _ := he
      rw [he'] at ho'
      cases ho'
      injection hcl' with w
      exact absurd w (by decide)
    have il2 : i < us.toArray.size := by
      rw [List.size_toArray]
      exact (List.getElem?_eq_some_iff.mp hu).1
    refine wpAny_pyNext_enum_itemD (Draws.tuple (prog := X.prog) (w := X.w) (A := X.A.in1) (I.ok.hd hc) it a ita us.toArray) he ⟨hit, tup⟩ il2 ne (fun z => by
      rcases List.mem_cons.mp z with z | z
      · exact ne z
      · exact ea (List.mem_singleton.mp z)) fun x m tk hP ho hst hT hsz hk => ?_
    obtain rfl : x = u := by
      have e1 : us.toArray[i]? = some x := hP
      have e2 : us.toArray[i]? = some u := by simpa using hu
      rw [e2] at e1
      exact (Option.some.inj e1).symm
    refine ⟨_, rfl, wpAny_letOwnedTupleGo_enum (s := { s with heap := m, toks := tk + 1 }) ho fun m2 he2 sb => ?_⟩
    have hT2 : m2.get? s.heap.objs.size = some { cls := .type "tuple", data := .seq #[.int i tk, x] } := (sb.2 _ (Nat.ne_of_gt el)).trans hT
    have nw : ObjOk X.prog X.w (upd H s.heap.objs.size (.tup [.int (i : Nat), v])) m2 s.heap.objs.size (.tup [.int (i : Nat), v]) :=
      ⟨by show 2 ≤ sizeLine; decide, [.int i tk, x], .cons ⟨_, rfl⟩ (.cons ru .nil), ⟨_, hT2, rfl, _, rfl⟩⟩
    have I1 : Inv X pins σ (upd H s.heap.objs.size (.tup [.int (i : Nat), v])) { s with heap := m2, toks := tk + 1 } := by
      refine I.turnedNew (ch := [e, it]) (fun b ob hb q => ?_) hf (Nat.le_refl _) nw
      have b1 : b ≠ e := fun z => hb (by simp [z])
      have b2 : b ≠ it := fun z => hb (by simp [z])
      exact (sb.2 b b1).trans (hk b ob b1 b2 q)
    refine ⟨.ref s.heap.objs.size, _, I1, rfl, ⟨_, v, rfl, I.hok.fresh (Nat.le_refl _), rfl, fun ws hw => by rw [I.tuple_inj hw hq]; exact hx⟩, ⟨⟨x, ?_⟩, hst.1.at fun o q => (sb.2 it (Ne.symm ne)).trans q, ne⟩, fun b hb => ?_⟩
    · have e1 : ((i + 1 : Nat) : Int) = (i : Int) + 1 := by omega
      rw [e1]
      exact he2
    · have lt : b < s.heap.objs.size := by
        rcases List.mem_cons.mp hb with z | z
        · rw [z]; exact el
        · rw [List.mem_singleton.mp z]; exact il
      rw [upd_ne (Nat.ne_of_lt lt)]
      exact (hf b hb).1
  done := by
    rintro X rfl rfl rfl hc i pins s σ H E I hf ⟨⟨old, he⟩, hit, ne⟩ ⟨vs, hq, hx⟩
    obtain ⟨us, rv, tp', hz⟩ := I.tuple hq
    obtain ⟨f0, f1, f2, f3, f4, f5⟩ := hf it (by simp)
    have hl := rv.length
    have tup : s.heap.IsTuple a us.toArray := tp'
    have hT : s.TypeIs (.ref e) "enumerate" := ⟨_, he, rfl⟩
    unfold pyNext
    refine wpAny_bind (wpAny_attempt (wpAny_callSpecial?_slot (name := Str.ofString "__next__") hT F.slot_enumerate_next
      (wpAny_call_entry F.slot_enumerate_next hT F.entry_enumerate_next ?_ (F.args_enumerate_next_1 _))))
    show wpAny _ _ (field (.ref e) 2 >>= _) _ _ _
    refine wpAny_bind (wpAny_field he rfl (x := .ref it) rfl ?_)
    refine wpAny_bind (wpAny_nextOf_tuple_end (I.ok.hd hc) hit tup (i := i) (by simp; omega) fun m x he' hx' => ?_)
    obtain ⟨o, ho, hcl⟩ := hx'
    refine wpAny_bind (wpAny_isInstance (T := "StopIteration") (b := true) ⟨o, ho, hcl⟩ isSubtype_stop ?_)
    exact wpAny_pure ⟨rfl, I.turned (t' := s.toks) (fun b o hb q => he' b o hb q) f0 f1 f3 f4 f5⟩
  self := fun A i s Q E st h => let ⟨⟨_, he⟩, _⟩ := st; wpAny_pyIter_enum he h
/-- enumerate(x), x a list or a tuple -/
def iEnumA (K : PySem.W.Frag) (ta : TA) : TI := fun σ H R => ta σ H fun vs H1 => ∃ a xs, vs = [.ref a] ∧ ((SqL K H1 a xs ∧ R (Ite K a) H1) ∨ (SqT K H1 a xs ∧ R (IteT K a) H1))
theorem pi_enumA {X : Cx} {e : Expr} {ta : TA} {p pos tpos : Pos} {elts : List Expr} {kk : Nat} (hg : Gl X "enumerate") (hm : X.mg "enumerate" = none) (ha : PA X [e] ta) (hs : starEach [e] X.env = [(false, eval e X.env)] := by rfl) :
    PI X (.Tuple elts kk tpos) (.Call (.Name "enumerate" p) [e] [] pos) (iEnumA X.K ta) := by
  refine ⟨fun pins s σ H R I h => ?_⟩
  refine Call_ (ld_blt I hg hm boot_enumerate (PyProof.Rows.callWith_type1 (thn (ha.run pos pins s σ H _ I h) fun us s1 hq => ?_) hs rfl))
  obtain ⟨vs, H1, I1, r1, a, xs, ex, q⟩ := hq
  subst ex
  cases r1 with
  | cons r rr =>
    cases rr
    cases r
    have fin : ∀ (m : Heap) (J : It) (tn : Nat → Heap → Prop), Turn X.prog X.w X.K (.Tuple elts kk tpos) J [s1.heap.objs.size + 1, s1.heap.objs.size] (s1.heap.objs.size + 1) tn → tn 0 m → (∀ b o, s1.heap.get? b = some o → m.get? b = some o) → R J H1 →
        PIE X pins σ (.Tuple elts kk tpos) R (.ref (s1.heap.objs.size + 1)) { s1 with heap := m } := fun m J tn T t0 hk hR => by
      refine ⟨s1.heap.objs.size + 1, [s1.heap.objs.size + 1, s1.heap.objs.size], tn, J, H1, rfl, I1.kept (t' := s1.toks) hk, T, t0, fun b hb => ?_, hR⟩
      have le : s1.heap.objs.size ≤ b := by
        rcases List.mem_cons.mp hb with z | z
        · rw [z]; exact Nat.le_add_right _ _
        · rw [List.mem_singleton.mp z]; exact Nat.le_refl _
      exact I1.fpOk le (I1.hok.fresh le)
    rcases q with ⟨hq, hR⟩ | ⟨hq, hR⟩
    · obtain ⟨its, rv, p', hz⟩ := I1.list hq
      refine call_enumerate_list p'.isList fun m he hit hsz hk => wpAny_pyIter_enum he ?_
      exact fin m _ _ (turn_enum a _ _) ⟨⟨.none, he⟩, hit, Nat.succ_ne_self _⟩ hk hR
    · obtain ⟨its, rv, p', hz⟩ := I1.tuple hq
      refine callEnumT p' fun m he hit hk => wpAny_pyIter_enum he ?_
      exact fin m _ _ (turnEnumT a _ _) ⟨⟨.none, he⟩, hit, Nat.succ_ne_self _⟩ hk hR
end DL
end
section
/-! operators, subscripts, slices, built-ins by data -/
namespace DL
open PySem PySem.Spec PyProof.Rows L2
variable [Tbs]

/-! ### arithmetic -/
def smallB (i : Int) : Bool := decide (i.natAbs < big)
theorem small_of {i : Int} (h : smallB i = true) : i.natAbs < 2 ^ 2000 := of_decide_eq_true h
def cMul (i j : Int) : Bool := smallB i && smallB j
def cDiv (i j : Int) : Bool := decide (0 < j) && smallB j
def cMod (i j : Int) : Bool := decide (0 < j)
def cPow (i j : Int) : Bool := decide (0 ≤ j) && (decide (j ≤ 1000) && smallB i)
theorem r2s_add : R2S (rI0 fun i j => .int (i + j)) (fII (fun _ _ => true) fun i j => .int (i + j)) := r2s_I0 fun _ _ _ => .int _
theorem r2s_sub : R2S (rI0 fun i j => .int (i - j)) (fII (fun _ _ => true) fun i j => .int (i - j)) := r2s_I0 fun _ _ _ => .int _
theorem r2s_mul : R2S (rI CMulW fun i j => .int (i * j)) (fII cMul fun i j => .int (i * j)) := r2s_I (fun i j h => by
  obtain ⟨h1, h2⟩ := Bool.and_eq_true_iff.mp h
  exact wide_mul (small_of h1) (small_of h2) (by decide) (by decide) (by decide)) fun _ _ _ => .int _
theorem r2s_div : R2S (rI CDivW fun i j => .int (i / j)) (fII cDiv fun i j => .int (i / j)) := r2s_I (fun i j h => by
  obtain ⟨h1, h2⟩ := Bool.and_eq_true_iff.mp h
  exact wide_div (of_decide_eq_true h1) (small_of h2) (by decide) (by decide)) fun _ _ _ => .int _
theorem r2s_mod : R2S (rI (fun _ j => 0 < j) fun i j => .int (i % j)) (fII cMod fun i j => .int (i % j)) := r2s_I (fun i j h => of_decide_eq_true h) fun _ _ _ => .int _
def CPowB (i j : Int) : Prop := 0 ≤ j ∧ j ≤ 1000 ∧ i.natAbs < 2 ^ 2000
theorem op_powB {X : Cx} : OpR X (binaryOp .Pow) (rI CPowB fun i j => .int (i ^ j.toNat)) := opI fun i j _ _ _ _ _ hc q => by
  obtain ⟨h1, h2, h3⟩ := hc
  refine pow_int h1 ?_ q
  have b : Builtin.Int.intBits i ≤ 2001 := by
    have hl := PySem.Flt.log2_lt_of (n := i.natAbs) (k := 2000) (by decide) h3
    unfold Builtin.Int.intBits
    split <;> omega
  have e : (Builtin.Int.intBits i : Int) * j ≤ 2001 * 1000 := Int.mul_le_mul (by omega) h2 h1 (by decide)
  exact Int.le_trans e (by decide)
theorem r2s_pow : R2S (rI CPowB fun i j => .int (i ^ j.toNat)) (fII cPow fun i j => .int (i ^ j.toNat)) := r2s_I (fun i j h => by
  obtain ⟨h1, h2⟩ := Bool.and_eq_true_iff.mp h
  obtain ⟨h2, h3⟩ := Bool.and_eq_true_iff.mp h2
  exact ⟨of_decide_eq_true h1, of_decide_eq_true h2, small_of h3⟩) fun _ _ _ => .int _
/-- + of tuples -/
def fCatT : PyData → PyData → Option PyData
  | .tuple ds, .tuple es => if ds.length + es.length ≤ 16777216 then some (.tuple (ds ++ es)) else none
  | _, _ => none
theorem r2s_catT {K : PySem.W.Frag} : R2S (rCatA K) fCatT := fun Φ F ρ σ H Q x y d e z R k1 k2 hz q => by
  unfold fCatT at hz
  split at hz
  · rename_i ds es
    split at hz
    · rename_i hl
      cases hz
      obtain ⟨a, xs, rfl, ha, h1⟩ := k1.seqT (K := K) R.fs
      obtain ⟨b, ys, rfl, hb, h2⟩ := k2.seqT (K := K) R.fs
      have l1 := h1.length
      have l2 := h2.length
      refine ⟨a, b, xs, ys, rfl, rfl, ha, hb, by rw [sizeLine_is]; omega, fun e => ?_, fun _ e => ?_, fun _ _ p hp => ?_⟩
      · subst e
        cases h1
        cases k2 with
        | dn y => exact q _ F H R (Ext.refl Φ F) y
      · subst e
        cases h2
        rw [List.append_nil] at q
        cases k1 with
        | dn y => exact q _ F H R (Ext.refl Φ F) y
      · have hl' : (xs ++ ys).length ≤ sizeLine := by rw [List.length_append, sizeLine_is]; omega
        obtain ⟨R2, X2⟩ := R.lay (o := .tup (xs ++ ys)) hp (fun ws => bd_tup hl')
        exact q _ _ _ R2 X2 (.tup (.inl upd_same) ((h1.mono X2.1).append (h2.mono X2.1)))
    · cases hz
  · cases hz
def fAdd (d e : PyData) : Option PyData := match fII (fun _ _ => true) (fun i j => .int (i + j)) d e with
  | some z => some z
  | none => fCatT d e

/-! ### comparisons -/
theorem r2s_lt : R2S (rI0 fun i j => .bl (decide (i < j))) (fII (fun _ _ => true) fun i j => .bool (decide (i < j))) := r2s_I0 fun _ _ _ => .bl _
theorem r2s_le : R2S (rI0 fun i j => .bl (decide (i ≤ j))) (fII (fun _ _ => true) fun i j => .bool (decide (i ≤ j))) := r2s_I0 fun _ _ _ => .bl _
theorem r2s_gt : R2S (rI0 fun i j => .bl (decide (j < i))) (fII (fun _ _ => true) fun i j => .bool (decide (j < i))) := r2s_I0 fun _ _ _ => .bl _
theorem r2s_ge : R2S (rI0 fun i j => .bl (decide (j ≤ i))) (fII (fun _ _ => true) fun i j => .bool (decide (j ≤ i))) := r2s_I0 fun _ _ _ => .bl _
def asInts : List PyData → Option (List Int)
  | [] => some []
  | .int i :: ds => match asInts ds with
    | some ns => some (i :: ns)
    | none => none
  | _ :: _ => none
theorem asInts_some : ∀ {ds : List PyData} {ns : List Int}, asInts ds = some ns → ds = ns.map PyData.int
  | [], _, h => by cases h; rfl
  | d :: ds, ns, h => by
    cases d with
    | int i =>
      simp only [asInts] at h
      split at h
      · rename_i ms e
        cases h
        rw [asInts_some e]; rfl
      · cases h
    | _ => simp [asInts] at h
theorem asInts_map : ∀ ns : List Int, asInts (ns.map PyData.int) = some ns
  | [] => rfl
  | n :: ns => by
    show (match asInts (ns.map PyData.int) with | some ms => some (n :: ms) | none => none) = _
    rw [asInts_map ns]
def fLtT : PyData → PyData → Option PyData
  | .tuple ds, .tuple es => match asInts ds, asInts es with
    | some ns, some ms => some (.bool (HT.lexLt ns ms))
    | _, _ => none
  | _, _ => none
theorem r2s_ltT {K : PySem.W.Frag} : R2S (rLtT K) fLtT := fun Φ F ρ σ H Q x y d e z R k1 k2 hz q => by
  unfold fLtT at hz
  split at hz
  · rename_i ds es
    split at hz
    · rename_i ns ms e1 e2
      cases hz
      obtain ⟨a, xs, rfl, ha, h1⟩ := k1.seqT (K := K) R.fs
      obtain ⟨b, ys, rfl, hb, h2⟩ := k2.seqT (K := K) R.fs
      rw [asInts_some e1] at h1
      rw [asInts_some e2] at h2
      rw [h1.ints] at ha
      rw [h2.ints] at hb
      exact ⟨a, b, ns, ms, rfl, rfl, ha, hb, q _ F H R (Ext.refl Φ F) (.bl _)⟩
    · cases hz
  · cases hz
def fLt (d e : PyData) : Option PyData := match fII (fun _ _ => true) (fun i j => .bool (decide (i < j))) d e with
  | some z => some z
  | none => fLtT d e
theorem r2s_ltA {K : PySem.W.Frag} : R2S (fun x y H Q => (rI0 fun i j => .bl (decide (i < j))) x y H Q ∨ rLtT K x y H Q) fLt := r2s_lt.or r2s_ltT
/-- == and != -/
def fEqB : PyData → PyData → Option Bool
  | .int i, .int j => some (decide (i = j))
  | .bool i, .bool j => some (i == j)
  | .none, .none => some true
  | d, e => if SeqAt.shaped d && SeqAt.shaped e then some (PyData.eqv d e) else none
theorem fEqB_some {d e : PyData} {b : Bool} (h : fEqB d e = some b) : SeqAt.shaped d = true ∧ SeqAt.shaped e = true ∧ PyData.eqv d e = b := by
  unfold fEqB at h
  split at h
  · rename_i i j
    cases h
    refine ⟨rfl, rfl, ?_⟩
    simp only [PyData.eqv]
    exact Bool.beq_eq_decide_eq i j
  · cases h
    exact ⟨rfl, rfl, by simp only [PyData.eqv]⟩
  · cases h
    exact ⟨rfl, rfl, by simp only [PyData.eqv]⟩
  · split at h
    · rename_i hs
      cases h
      obtain ⟨h1, h2⟩ := Bool.and_eq_true_iff.mp hs
      exact ⟨h1, h2, rfl⟩
    · cases h
def fEq (d e : PyData) : Option PyData := match fEqB d e with
  | some b => some (.bool b)
  | none => none
def fNe (d e : PyData) : Option PyData := match fEqB d e with
  | some b => some (.bool (!b))
  | none => none
theorem r2s_eq {K : PySem.W.Frag} : R2S (rEqD K) fEq := fun Φ F ρ σ H Q x y d e z R k1 k2 hz q => by
  unfold fEq at hz
  split at hz
  · rename_i b hb
    cases hz
    obtain ⟨h1, h2, h3⟩ := fEqB_some hb
    exact ⟨d, e, k1.dp R.fs, k2.dp R.fs, h1, h2, by rw [h3]; exact q _ F H R (Ext.refl Φ F) (.bl _)⟩
  · cases hz
theorem r2s_ne {K : PySem.W.Frag} : R2S (rNeD K) fNe := fun Φ F ρ σ H Q x y d e z R k1 k2 hz q => by
  unfold fNe at hz
  split at hz
  · rename_i b hb
    cases hz
    obtain ⟨h1, h2, h3⟩ := fEqB_some hb
    exact ⟨d, e, k1.dp R.fs, k2.dp R.fs, h1, h2, by rw [h3]; exact q _ F H R (Ext.refl Φ F) (.bl _)⟩
  · cases hz
/-- is, is not: None, True, False -/
def isNone : PyData → Bool
  | .none => true
  | _ => false
def fIsB : PyData → PyData → Option Bool
  | d, .none => some (isNone d)
  | .bool a, .bool b => some (decide (a = b))
  | _, _ => none
def fIs (d e : PyData) : Option PyData := match fIsB d e with
  | some b => some (.bool b)
  | none => none
def fNis (d e : PyData) : Option PyData := match fIsB d e with
  | some b => some (.bool (!b))
  | none => none
theorem lk_none {F H : Hp} {v : V} {d : PyData} (k : Lk F H v d) : decide (v = .non) = isNone d := by
  cases k with
  | dn y => cases y <;> rfl
  | lst _ _ _ => rfl
theorem r2s_is : R2S (fun x y H Q => (y = .non ∧ Q (.bl (decide (x = .non))) H) ∨ rIsB x y H Q) fIs := fun Φ F ρ σ H Q x y d e z R k1 k2 hz q => by
  unfold fIs at hz
  split at hz
  · rename_i b hb
    cases hz
    unfold fIsB at hb
    split at hb
    · cases hb
      exact .inl ⟨k2.non, by rw [lk_none k1]; exact q _ F H R (Ext.refl Φ F) (.bl _)⟩
    · cases hb
      exact .inr ⟨_, _, k1.bl, k2.bl, q _ F H R (Ext.refl Φ F) (.bl _)⟩
    · cases hb
  · cases hz
theorem r2s_nis : R2S (fun x y H Q => (y = .non ∧ Q (.bl (!decide (x = .non))) H) ∨ rNotB x y H Q) fNis := fun Φ F ρ σ H Q x y d e z R k1 k2 hz q => by
  unfold fNis at hz
  split at hz
  · rename_i b hb
    cases hz
    unfold fIsB at hb
    split at hb
    · cases hb
      exact .inl ⟨k2.non, by rw [lk_none k1]; exact q _ F H R (Ext.refl Φ F) (.bl _)⟩
    · cases hb
      exact .inr ⟨_, _, k1.bl, k2.bl, q _ F H R (Ext.refl Φ F) (.bl _)⟩
    · cases hb
  · cases hz
/-- in, not in: flat things in lists and tuples of flat things -/
def flatD : PyData → Bool
  | .none => true
  | .bool _ => true
  | .int _ => true
  | .str _ => true
  | _ => false
def seqD : PyData → Option (List PyData)
  | .list ds => some ds
  | .tuple ds => some ds
  | _ => none
def fInB (d e : PyData) : Option Bool := match seqD e with
  | some ds => if flatD d && ds.all flatD then some (ds.any fun z => PyData.eqv z d) else none
  | none => none
def fIn (d e : PyData) : Option PyData := match fInB d e with
  | some b => some (.bool b)
  | none => none
def fNin (d e : PyData) : Option PyData := match fInB d e with
  | some b => some (.bool (!b))
  | none => none
theorem flat_of {F : Hp} {v : V} {d : PyData} (h : Dn F v d) (f : flatD d = true) : flatV v = true := by
  cases h <;> first | rfl | (cases f; done)
theorem eqV_of {F : Hp} {v u : V} {d e : PyData} (h : Dn F v d) (k : Dn F u e) (f : flatD d = true) (g : flatD e = true) : eqV v u = PyData.eqv d e := by
  cases h <;> cases k <;> first | (cases f; done) | (cases g; done) | (simp only [eqV, PyData.eqv]; done)
theorem flats_of {F : Hp} : ∀ {vs : List V} {ds : List PyData}, DnA F vs ds → ds.all flatD = true → vs.all flatV = true
  | _, _, .nil, _ => rfl
  | _, _, .cons a t, f => by
    rw [List.all_cons, Bool.and_eq_true] at f
    rw [List.all_cons, flat_of a f.1, flats_of t f.2]; rfl
theorem inV_of {F : Hp} {u : V} {e : PyData} (k : Dn F u e) (g : flatD e = true) : ∀ {vs : List V} {ds : List PyData}, DnA F vs ds → ds.all flatD = true → inV u vs = ds.any fun z => PyData.eqv z e
  | _, _, .nil, _ => rfl
  | _, _, .cons (v := v) (vs := vs) a t, f => by
    rw [List.all_cons, Bool.and_eq_true] at f
    have ih := inV_of k g t f.2
    show (eqV v u || inV u vs) = _
    rw [List.any_cons, eqV_of a k f.1 g, ih]
theorem lk_dn_flat {F H : Hp} {v : V} {d : PyData} (k : Lk F H v d) (f : flatD d = true) : Dn F v d := by
  cases k with
  | dn y => exact y
  | lst _ _ _ => cases f
theorem r2s_in {K : PySem.W.Frag} : R2S (rIn K false) fIn := fun Φ F ρ σ H Q x y d e z R k1 k2 hz q => by
  unfold fIn at hz
  split at hz
  · rename_i b hb
    cases hz
    unfold fInB at hb
    split at hb
    · rename_i ds hs
      split at hb
      · rename_i hf
        cases hb
        obtain ⟨f1, f2⟩ := Bool.and_eq_true_iff.mp hf
        have kd := lk_dn_flat k1 f1
        cases e with
        | list ds' =>
          cases hs
          obtain ⟨a, vs, rfl, ha, h1⟩ := k2.seqL (K := K) R.fs
          exact ⟨a, vs, rfl, .inl ha, flat_of kd f1, flats_of h1 f2, by rw [if_neg (by decide), inV_of kd f1 h1 f2]; exact q _ F H R (Ext.refl Φ F) (.bl _)⟩
        | tuple ds' =>
          cases hs
          obtain ⟨a, vs, rfl, ha, h1⟩ := k2.seqT (K := K) R.fs
          exact ⟨a, vs, rfl, .inr ha, flat_of kd f1, flats_of h1 f2, by rw [if_neg (by decide), inV_of kd f1 h1 f2]; exact q _ F H R (Ext.refl Φ F) (.bl _)⟩
        | _ => cases hs
      · cases hb
    · cases hb
  · cases hz
theorem r2s_nin {K : PySem.W.Frag} : R2S (rIn K true) fNin := fun Φ F ρ σ H Q x y d e z R k1 k2 hz q => by
  unfold fNin at hz
  split at hz
  · rename_i b hb
    cases hz
    unfold fInB at hb
    split at hb
    · rename_i ds hs
      split at hb
      · rename_i hf
        cases hb
        obtain ⟨f1, f2⟩ := Bool.and_eq_true_iff.mp hf
        have kd := lk_dn_flat k1 f1
        cases e with
        | list ds' =>
          cases hs
          obtain ⟨a, vs, rfl, ha, h1⟩ := k2.seqL (K := K) R.fs
          exact ⟨a, vs, rfl, .inl ha, flat_of kd f1, flats_of h1 f2, by rw [if_pos rfl, inV_of kd f1 h1 f2]; exact q _ F H R (Ext.refl Φ F) (.bl _)⟩
        | tuple ds' =>
          cases hs
          obtain ⟨a, vs, rfl, ha, h1⟩ := k2.seqT (K := K) R.fs
          exact ⟨a, vs, rfl, .inr ha, flat_of kd f1, flats_of h1 f2, by rw [if_pos rfl, inV_of kd f1 h1 f2]; exact q _ F H R (Ext.refl Φ F) (.bl _)⟩
        | _ => cases hs
      · cases hb
    · cases hb
  · cases hz

/-! ### subscripts and slices -/
def fIx : PyData → PyData → Option PyData
  | .list ds, .int i => atI ds i
  | .tuple ds, .int i => atI ds i
  | _, _ => none
theorem atI_of {F : Hp} {vs : List V} {ds : List PyData} {i : Int} {d : PyData} (h : DnA F vs ds) (e : atI ds i = some d) : ∃ v, atI vs i = some v ∧ Dn F v d := by
  unfold atI at e ⊢
  rw [h.length]
  cases q : ixN ds.length i with
  | none => rw [q] at e; cases e
  | some j =>
    rw [q] at e
    exact h.get (show ds[j]? = some d from e)
theorem r2s_ix {K : PySem.W.Frag} : R2S (rIx K) fIx := fun Φ F ρ σ H Q x y d e z R k1 k2 hz q => by
  unfold fIx at hz
  split at hz
  · obtain ⟨a, vs, rfl, ha, h1⟩ := k1.seqL (K := K) R.fs
    obtain ⟨v, hv, hd⟩ := atI_of h1 hz
    exact .inl ⟨a, vs, _, v, rfl, k2.int, ha, hv, q _ F H R (Ext.refl Φ F) hd⟩
  · obtain ⟨a, vs, rfl, ha, h1⟩ := k1.seqT (K := K) R.fs
    obtain ⟨v, hv, hd⟩ := atI_of h1 hz
    exact .inr (.inl ⟨a, vs, _, v, rfl, k2.int, ha, hv, q _ F H R (Ext.refl Φ F) hd⟩)
  · cases hz
theorem ev_ix {X : Cx} {a b : Expr} {ta tb : TE} {ma mb : M Ag} {pos : Pos} (ha : EX X a ta ma) (hb : EX X b tb mb) (hs : PlainIx b := by exact fun _ _ => rfl) : EV X (.Subscript a b pos) (tOp (rIx X.K) ta tb) (op2 fIx ma mb) := ⟨pe_ix ix_seq ha.pe hb.pe hs, se_op2 r2s_ix ha.se hb.se⟩

def SPt (t : TO) (m : M (Option Int)) : Prop := ∀ (Φ : Fx) (F : Hp) (ρ : Ro) (σ : L2.St) (H : Hp) (Q : Option Int → Hp → Prop) (o : Option Int) (ρ' : Ro), Rl Φ F ρ σ H → m ρ = some (o, ρ') →
  (∀ F' H', Rl Φ F' ρ' σ H' → Ext Φ F F' → Q o H') → t σ H Q
structure EP (X : Cx) (e : Option Expr) (t : TO) (m : M (Option Int)) : Prop where
  pe : PO X e t
  se : SPt t m
def pNo : M (Option Int) := ret none
def pYes (m : M PyData) : M (Option Int) := bnd m fun d => lft (match d with | .int i => some (some i) | _ => none)
theorem ep_none {X : Cx} : EP X none tNoPart pNo := ⟨po_none, fun Φ F ρ σ H Q o ρ' R e q => by
  obtain ⟨rfl, rfl⟩ := ret_some e
  exact q F H R (Ext.refl Φ F)⟩
theorem ep_some {X : Cx} {e : Expr} {t : TE} {m : M PyData} (h : EV X e t m) : EP X (some e) (tPart t) (pYes m) := ⟨po_some h.pe, fun Φ F ρ σ H Q o ρ' R e q => by
  obtain ⟨d, ρ1, e1, e2⟩ := bnd_some e
  obtain ⟨e3, rfl⟩ := lft_some e2
  refine h.se Φ F ρ σ H _ d _ R e1 fun v F' H' R' X' k => ?_
  split at e3
  · rename_i i
    cases e3
    cases k
    exact ⟨i, rfl, q F' H' R' X'⟩
  · cases e3⟩
def cutD {α : Type} (xs : List α) (lo hi : Option Int) : List α := (xs.drop (HT.sIx xs.length 0 lo)).take (HT.sIx xs.length xs.length hi - HT.sIx xs.length 0 lo)
def fCut (lo hi : Option Int) : PyData → Option PyData
  | .list ds => some (.list (cutD ds lo hi))
  | .tuple ds => some (.tuple (cutD ds lo hi))
  | _ => none
def mCut (m : M Ag) (ml mh : M (Option Int)) : M PyData := bnd m fun a => bnd ml fun lo => bnd mh fun hi ρ => match a.get ρ with
  | some d => (match fCut lo hi d with
    | some z => some (z, ρ)
    | none => none)
  | none => none
theorem cut_of {F : Hp} {vs : List V} {ds : List PyData} (h : DnA F vs ds) (lo hi : Option Int) : DnA F (cutV vs lo hi) (cutD ds lo hi) := by
  unfold cutV cutD
  rw [h.length]
  exact (h.drop _).take _
theorem cut_whole {α : Type} {ds : List α} {lo hi : Option Int} (h : HT.sIx ds.length 0 lo = 0 ∧ HT.sIx ds.length ds.length hi = ds.length) : cutD ds lo hi = ds := by
  unfold cutD
  rw [h.1, h.2, List.drop_zero, Nat.sub_zero, List.take_length]
theorem ev_cut {X : Cx} {a : Expr} {lo hi : Option Expr} {ta : TE} {tl th : TO} {m : M Ag} {ml mh : M (Option Int)} {pos p2 : Pos} (ha : EX X a ta m) (hl : EP X lo tl ml) (hh : EP X hi th mh) :
    EV X (.Subscript a (.Slice lo hi none p2) pos) (tSl (fun x l u H Q => rSlL X.K x l u H Q ∨ rSlA X.K x l u H Q) ta tl th) (mCut m ml mh) := ⟨pe_slice (sl_list.or sl_tupA) ha.pe hl.pe hh.pe, fun Φ F ρ σ H Q d ρ' R e q => by
  obtain ⟨ag, ρ1, e1, e2⟩ := bnd_some e
  obtain ⟨l, ρ2, e3, e4⟩ := bnd_some e2
  obtain ⟨u, ρ3, e5, e6⟩ := bnd_some e4
  refine ha.se Φ F ρ σ H _ ag ρ1 R e1 fun v F1 H1 R1 X1 k1 => ?_
  refine hl.se Φ F1 ρ1 σ H1 _ l ρ2 R1 e3 fun F2 H2 R2 X2 => ?_
  refine hh.se Φ F2 ρ2 σ H2 _ u ρ3 R2 e5 fun F3 H3 R3 X3 => ?_
  split at e6
  · rename_i dd hg
    split at e6
    · rename_i z hz
      cases e6
      have lk := Ag.lk R3 ((k1.mono X2.1).mono X3.1) hg
      have XX := (X1.trans X2).trans X3
      unfold fCut at hz
      split at hz
      · cases hz
        obtain ⟨p, vs, rfl, hp, h1⟩ := lk.seqL (K := X.K) R3.fs
        refine .inl ⟨p, vs, rfl, hp, fun t ht => ?_⟩
        have hb : (cutV vs l u).length ≤ sizeLine := by
          refine Nat.le_trans (cutV_length vs l u) ?_
          cases lk with
          | dn y => cases y with
            | lst r t =>
              rcases hp with hp | ⟨o, its, n, _, _, _, _, hs, hv⟩
              · rcases hp with hp | ⟨ob, hp⟩
                · have := R3.fs
                  rcases r with r | ⟨ob, r⟩
                  · have e := this _ _ r
                    rw [hp] at e; cases e
                    exact R3.bd _ _ (.inl (.inl r))
                  · have e := this _ _ r
                    rw [hp] at e; cases e
                · have := R3.fs
                  rcases r with r | ⟨ob', r⟩
                  · have e := this _ _ r
                    rw [hp] at e; cases e
                  · have e := this _ _ r
                    rw [hp] at e; cases e
                    exact R3.bd _ _ (.inl (.inr ⟨_, r⟩))
              · rw [hv.length]; exact hs
          | lst e hz t =>
            rw [h1.length, ← t.length]
            exact hz
        obtain ⟨R4, X4⟩ := R3.lay (o := .lst (cutV vs l u)) ht (fun ws => bd_lst hb)
        exact q _ _ _ R4 (XX.trans X4) (.lst (.inl upd_same) (cut_of (h1.mono X4.1) l u))
      · rename_i ds
        cases hz
        have dn : Dn F3 v (.tuple ds) := by
          cases lk with
          | dn y => exact y
        cases dn with
        | @tup p vs _ r h1 =>
          have hlen := h1.length
          have hb : (cutV vs l u).length ≤ sizeLine := Nat.le_trans (cutV_length vs l u) (R3.bd _ _ (.inr r))
          refine .inr ⟨p, vs, rfl, .inl (rd_mono R3.fs r), fun hw => ?_, fun hw t ht => ?_⟩
          · rw [hlen] at hw
            rw [cut_whole hw] at q
            exact q _ _ _ R3 XX (.tup r h1)
          · obtain ⟨R4, X4⟩ := R3.lay (o := .tup (cutV vs l u)) ht (fun ws => bd_tup hb)
            exact q _ _ _ R4 (XX.trans X4) (.tup (.inl upd_same) (cut_of (h1.mono X4.1) l u))
      · cases hz
    · cases e6
  · cases e6⟩

/-! ### built-ins -/
def f1 (g : PyData → Option PyData) : List PyData → Option PyData
  | [d] => g d
  | _ => none
def f1s (g : PyData → Option Sl) : List PyData → Option Sl
  | [d] => g d
  | _ => none
theorem lkA1 {F H : Hp} {vs : List V} {d : PyData} (h : LkA F H vs [d]) : ∃ v, vs = [v] ∧ Lk F H v d := by
  cases h with
  | cons a t => cases t; exact ⟨_, rfl, a⟩
theorem lkA2 {F H : Hp} {vs : List V} {d e : PyData} (h : LkA F H vs [d, e]) : ∃ v u, vs = [v, u] ∧ Lk F H v d ∧ Lk F H u e := by
  cases h with
  | cons a t => cases t with
    | cons b t => cases t; exact ⟨_, _, rfl, a, b⟩
def fLen : List PyData → Option PyData := f1 fun d => match seqD d with
  | some ds => some (.int ds.length)
  | none => none
theorem rcs_len {K : PySem.W.Frag} : RCS (fun xs H Q => ∃ p ys, xs = [.ref p] ∧ (SqL K H p ys ∨ SqT K H p ys) ∧ Q (.int ys.length) H) fLen := fun Φ F ρ σ H Q vs ds z R k hz q => by
  unfold fLen f1 at hz
  split at hz
  · rename_i d
    obtain ⟨v, rfl, lk⟩ := lkA1 k
    dsimp only at hz
    split at hz
    · rename_i es hs
      cases hz
      cases d with
      | list _ =>
        cases hs
        obtain ⟨a, ys, rfl, ha, h1⟩ := lk.seqL (K := K) R.fs
        exact ⟨a, ys, rfl, .inl ha, by rw [h1.length]; exact q _ F H R (Ext.refl Φ F) (.int _)⟩
      | tuple _ =>
        cases hs
        obtain ⟨a, ys, rfl, ha, h1⟩ := lk.seqT (K := K) R.fs
        exact ⟨a, ys, rfl, .inr ha, by rw [h1.length]; exact q _ F H R (Ext.refl Φ F) (.int _)⟩
      | _ => cases hs
    · cases hz
  · cases hz
/-- a list of ints -/
def intsL : PyData → Option (List Int)
  | .list ds => asInts ds
  | _ => none
theorem intsL_of {K : PySem.W.Frag} {F H : Hp} {v : V} {d : PyData} {ns : List Int} (hs : Same F H) (k : Lk F H v d) (h : intsL d = some ns) : ∃ a, v = .ref a ∧ SqL K H a (ns.map V.int) := by
  cases d with
  | list ds =>
    obtain ⟨a, vs, rfl, ha, h1⟩ := k.seqL (K := K) hs
    rw [asInts_some h] at h1
    rw [h1.ints] at ha
    exact ⟨a, rfl, ha⟩
  | _ => cases h
def asBls : List PyData → Option (List Bool)
  | [] => some []
  | .bool i :: ds => match asBls ds with
    | some ns => some (i :: ns)
    | none => none
  | _ :: _ => none
theorem asBls_some : ∀ {ds : List PyData} {ns : List Bool}, asBls ds = some ns → ds = ns.map PyData.bool
  | [], _, h => by cases h; rfl
  | d :: ds, ns, h => by
    cases d with
    | bool i =>
      simp only [asBls] at h
      split at h
      · rename_i ms e
        cases h
        rw [asBls_some e]; rfl
      · cases h
    | _ => simp [asBls] at h
theorem asBls_map : ∀ ns : List Bool, asBls (ns.map PyData.bool) = some ns
  | [] => rfl
  | n :: ns => by
    show (match asBls (ns.map PyData.bool) with | some ms => some (n :: ms) | none => none) = _
    rw [asBls_map ns]
def blsL : PyData → Option (List Bool)
  | .list ds => asBls ds
  | _ => none
theorem blsL_of {K : PySem.W.Frag} {F H : Hp} {v : V} {d : PyData} {ns : List Bool} (hs : Same F H) (k : Lk F H v d) (h : blsL d = some ns) : ∃ a, v = .ref a ∧ SqL K H a (ns.map V.bl) := by
  cases d with
  | list ds =>
    obtain ⟨a, vs, rfl, ha, h1⟩ := k.seqL (K := K) hs
    rw [asBls_some h] at h1
    rw [h1.bls] at ha
    exact ⟨a, rfl, ha⟩
  | _ => cases h
def fSum : List PyData → Option PyData := f1 fun d => match intsL d with
  | some ns => some (.int ns.sum)
  | none => none
theorem rcs_sum {K : PySem.W.Frag} : RCS (rSum K) fSum := fun Φ F ρ σ H Q vs ds z R k hz q => by
  unfold fSum f1 at hz
  split at hz
  · obtain ⟨v, rfl, lk⟩ := lkA1 k
    dsimp only at hz
    split at hz
    · rename_i ns hs
      cases hz
      obtain ⟨a, rfl, ha⟩ := intsL_of (K := K) R.fs lk hs
      exact ⟨a, ns, rfl, ha, q _ F H R (Ext.refl Φ F) (.int _)⟩
    · cases hz
  · cases hz
def fAll : List PyData → Option PyData := f1 fun d => match blsL d with
  | some bs => some (.bool (bs.all id))
  | none => none
def fAny : List PyData → Option PyData := f1 fun d => match blsL d with
  | some bs => some (.bool (bs.any id))
  | none => none
/-- the greatest, the least of a list -/
def maxL : List Int → Option Int
  | [] => none
  | n :: ns => some (ns.foldl (fun a b => if a < b then b else a) n)
def minL : List Int → Option Int
  | [] => none
  | n :: ns => some (ns.foldl (fun a b => if b < a then b else a) n)
theorem foldmax_mem : ∀ (ns : List Int) (n : Int), ns.foldl (fun a b => if a < b then b else a) n ∈ n :: ns ∧ ∀ y ∈ n :: ns, y ≤ ns.foldl (fun a b => if a < b then b else a) n
  | [], n => ⟨by simp, fun y hy => by simp at hy; rw [hy]; exact Int.le_refl _⟩
  | m :: ns, n => by
    obtain ⟨h1, h2⟩ := foldmax_mem ns (if n < m then m else n)
    rw [List.foldl_cons]
    refine ⟨?_, fun y hy => ?_⟩
    · rcases List.mem_cons.mp h1 with e | e
      · rw [e]; split <;> simp
      · simp [e]
    · have h3 := h2 _ List.mem_cons_self
      rcases List.mem_cons.mp hy with e | hy
      · subst e; refine Int.le_trans ?_ h3; split <;> omega
      · rcases List.mem_cons.mp hy with e | hy
        · subst e; refine Int.le_trans ?_ h3; split <;> omega
        · exact h2 y (List.mem_cons_of_mem _ hy)
theorem foldmin_mem : ∀ (ns : List Int) (n : Int), ns.foldl (fun a b => if b < a then b else a) n ∈ n :: ns ∧ ∀ y ∈ n :: ns, ns.foldl (fun a b => if b < a then b else a) n ≤ y
  | [], n => ⟨by simp, fun y hy => by simp at hy; rw [hy]; exact Int.le_refl _⟩
  | m :: ns, n => by
    obtain ⟨h1, h2⟩ := foldmin_mem ns (if m < n then m else n)
    rw [List.foldl_cons]
    refine ⟨?_, fun y hy => ?_⟩
    · rcases List.mem_cons.mp h1 with e | e
      · rw [e]; split <;> simp
      · simp [e]
    · have h3 := h2 _ List.mem_cons_self
      rcases List.mem_cons.mp hy with e | hy
      · subst e; refine Int.le_trans h3 ?_; split <;> omega
      · rcases List.mem_cons.mp hy with e | hy
        · subst e; refine Int.le_trans h3 ?_; split <;> omega
        · exact h2 y (List.mem_cons_of_mem _ hy)
theorem maxL_is {ns : List Int} {m : Int} (hm : m ∈ ns) (hle : ∀ y ∈ ns, y ≤ m) : maxL ns = some m := by
  cases ns with
  | nil => cases hm
  | cons n ns =>
    obtain ⟨h1, h2⟩ := foldmax_mem ns n
    have a := hle _ h1
    have b := h2 _ hm
    show some _ = some m
    congr 1
    omega
theorem minL_is {ns : List Int} {m : Int} (hm : m ∈ ns) (hle : ∀ y ∈ ns, m ≤ y) : minL ns = some m := by
  cases ns with
  | nil => cases hm
  | cons n ns =>
    obtain ⟨h1, h2⟩ := foldmin_mem ns n
    have a := hle _ h1
    have b := h2 _ hm
    show some _ = some m
    congr 1
    omega
def fMax1 (d : PyData) : Option PyData := match intsL d with
  | some ns => (match maxL ns with | some m => some (.int m) | none => none)
  | none => none
def fMin1 (d : PyData) : Option PyData := match intsL d with
  | some ns => (match minL ns with | some m => some (.int m) | none => none)
  | none => none
def fMax : List PyData → Option PyData
  | [d] => fMax1 d
  | [.int i, .int j] => some (.int (if j > i then j else i))
  | _ => none
def fMin : List PyData → Option PyData
  | [d] => fMin1 d
  | [.int i, .int j] => some (.int (if j < i then j else i))
  | _ => none
theorem rcs_max {K : PySem.W.Frag} : RCS (fun xs H Q => rMax K xs H Q ∨ ∃ i j, xs = [.int i, .int j] ∧ Q (.int (if j > i then j else i)) H) fMax := fun Φ F ρ σ H Q vs ds z R k hz q => by
  unfold fMax at hz
  split at hz
  · obtain ⟨v, rfl, lk⟩ := lkA1 k
    unfold fMax1 at hz
    split at hz
    · rename_i ns hs
      split at hz
      · rename_i m hm
        cases hz
        obtain ⟨a, rfl, ha⟩ := intsL_of (K := K) R.fs lk hs
        refine .inl ⟨a, ns, rfl, ha, ?_, fun m' h1 h2 => ?_⟩
        · cases ns with
          | nil => cases hm
          | cons _ _ => exact Nat.succ_pos _
        · have e := maxL_is h1 h2
          rw [hm] at e; cases e
          exact q _ F H R (Ext.refl Φ F) (.int _)
      · cases hz
    · cases hz
  · cases hz
    obtain ⟨v, u, rfl, l1, l2⟩ := lkA2 k
    exact .inr ⟨_, _, by rw [l1.int, l2.int], q _ F H R (Ext.refl Φ F) (.int _)⟩
  · cases hz
theorem rcs_min {K : PySem.W.Frag} : RCS (fun xs H Q => rMin K xs H Q ∨ ∃ i j, xs = [.int i, .int j] ∧ Q (.int (if j < i then j else i)) H) fMin := fun Φ F ρ σ H Q vs ds z R k hz q => by
  unfold fMin at hz
  split at hz
  · obtain ⟨v, rfl, lk⟩ := lkA1 k
    unfold fMin1 at hz
    split at hz
    · rename_i ns hs
      split at hz
      · rename_i m hm
        cases hz
        obtain ⟨a, rfl, ha⟩ := intsL_of (K := K) R.fs lk hs
        refine .inl ⟨a, ns, rfl, ha, ?_, fun m' h1 h2 => ?_⟩
        · cases ns with
          | nil => cases hm
          | cons _ _ => exact Nat.succ_pos _
        · have e := minL_is h1 h2
          rw [hm] at e; cases e
          exact q _ F H R (Ext.refl Φ F) (.int _)
      · cases hz
    · cases hz
  · cases hz
    obtain ⟨v, u, rfl, l1, l2⟩ := lkA2 k
    exact .inr ⟨_, _, by rw [l1.int, l2.int], q _ F H R (Ext.refl Φ F) (.int _)⟩
  · cases hz
def fAbs : List PyData → Option PyData
  | [.int i] => some (.int (if i < 0 then -i else i))
  | _ => none
theorem rcs_abs : RCS (fun xs H Q => ∃ i, xs = [.int i] ∧ Q (.int (if i < 0 then -i else i)) H) fAbs := fun Φ F ρ σ H Q vs ds z R k hz q => by
  unfold fAbs at hz
  split at hz
  · cases hz
    obtain ⟨v, rfl, lk⟩ := lkA1 k
    exact ⟨_, by rw [lk.int], q _ F H R (Ext.refl Φ F) (.int _)⟩
  · cases hz
def fInt : List PyData → Option PyData
  | [.int i] => some (.int i)
  | [.bool b] => some (.int (if b then 1 else 0))
  | _ => none
theorem rcs_int : RCS (fun xs H Q => (∃ i, xs = [.int i] ∧ Q (.int i) H) ∨ ∃ k, xs = [.bl k] ∧ Q (.int (if k then 1 else 0)) H) fInt := fun Φ F ρ σ H Q vs ds z R k hz q => by
  unfold fInt at hz
  split at hz
  · cases hz
    obtain ⟨v, rfl, lk⟩ := lkA1 k
    exact .inl ⟨_, by rw [lk.int], q _ F H R (Ext.refl Φ F) (.int _)⟩
  · cases hz
    obtain ⟨v, rfl, lk⟩ := lkA1 k
    exact .inr ⟨_, by rw [lk.bl], q _ F H R (Ext.refl Φ F) (.int _)⟩
  · cases hz
/-- the length of what is looked at -/
theorem Lk.bdL {Φ : Fx} {F H : Hp} {ρ : Ro} {σ : L2.St} {v : V} {ds : List PyData} (R : Rl Φ F ρ σ H) (k : Lk F H v (.list ds)) : ds.length ≤ sizeLine := by
  cases k with
  | dn y => cases y with
    | lst r t => rw [← t.length]; exact R.bd _ _ (.inl r)
  | lst e z t => rw [← t.length]; exact z
def fTuple : List PyData → Option PyData := f1 fun d => match d with
  | .list ds => some (.tuple ds)
  | .tuple ds => some (.tuple ds)
  | _ => none
theorem rcs_tuple {K : PySem.W.Frag} : RCS (fun xs H Q => ∃ p ys, xs = [.ref p] ∧ ((SqL K H p ys ∧ ∀ l, H l = none → Q (.ref l) (upd H l (.tup ys))) ∨ (SqT K H p ys ∧ Q (.ref p) H))) fTuple := fun Φ F ρ σ H Q vs ds z R k hz q => by
  unfold fTuple f1 at hz
  split at hz
  · obtain ⟨v, rfl, lk⟩ := lkA1 k
    dsimp only at hz
    split at hz
    · cases hz
      have hb := lk.bdL R
      obtain ⟨a, ys, rfl, ha, h1⟩ := lk.seqL (K := K) R.fs
      refine ⟨a, ys, rfl, .inl ⟨ha, fun l hl => ?_⟩⟩
      obtain ⟨R4, X4⟩ := R.lay (o := .tup ys) hl (fun ws => bd_tup (by rw [h1.length]; exact hb))
      exact q _ _ _ R4 X4 (.tup (.inl upd_same) (h1.mono X4.1))
    · cases hz
      cases lk with
      | dn y => cases y with
        | tup r t => exact ⟨_, _, rfl, .inr ⟨.inl (rd_mono R.fs r), q _ F H R (Ext.refl Φ F) (.tup r t)⟩⟩
    · cases hz
  · cases hz
def fList : List PyData → Option Sl := f1s fun d => match seqD d with
  | some ds => some (.ol ds)
  | none => none
theorem Lk.bdT {Φ : Fx} {F H : Hp} {ρ : Ro} {σ : L2.St} {v : V} {ds : List PyData} (R : Rl Φ F ρ σ H) (k : Lk F H v (.tuple ds)) : ds.length ≤ sizeLine := by
  cases k with
  | dn y => cases y with
    | tup r t => rw [← t.length]; exact R.bd _ _ (.inr r)
theorem rco_list {K : PySem.W.Frag} : RCO (fun xs H Q => ∃ p ys, xs = [.ref p] ∧ (SqL K H p ys ∨ SqT K H p ys) ∧ ∀ l, H l = none → Q (.ref l) (upd H l (.lst ys))) fList := fun Φ F ρ σ H Q vs ds z R k hz q => by
  unfold fList f1s at hz
  split at hz
  · rename_i d
    obtain ⟨v, rfl, lk⟩ := lkA1 k
    dsimp only at hz
    split at hz
    · rename_i es hs
      cases hz
      have fin : ∀ (ys : List V), DnA F ys es → es.length ≤ sizeLine → ∀ l, H l = none → Q (.ref l) (upd H l (.lst ys)) := fun ys h1 hb l hl =>
        q l (.lst ys) F _ (R.laid hl) (Ext.refl Φ F) (R.fresh hl) upd_same (.ol (by rw [h1.length]; exact hb) h1) rfl
      cases d with
      | list _ =>
        cases hs
        obtain ⟨a, ys, rfl, ha, h1⟩ := lk.seqL (K := K) R.fs
        exact ⟨a, ys, rfl, .inl ha, fin ys h1 (lk.bdL R)⟩
      | tuple _ =>
        cases hs
        obtain ⟨a, ys, rfl, ha, h1⟩ := lk.seqT (K := K) R.fs
        exact ⟨a, ys, rfl, .inr ha, fin ys h1 (lk.bdT R)⟩
      | _ => cases hs
    · cases hz
  · cases hz
/-! ### sorted -/
def rSortD (K : PySem.W.Frag) : List V → Hp → VK → Prop := fun vs H Q => ∃ (a : Addr) (zs : List (V × PyData)), vs = [.ref a] ∧ SqL K H a (zs.map Prod.fst) ∧ (∀ p ∈ zs, Dp K H p.1 p.2) ∧ PySem.W.AllAlike (zs.map Prod.snd) ∧ PySem.W.Sortable (zs.map Prod.snd) ∧ (∀ p ∈ zs, p.2.depth ≤ 10) ∧
  ∀ l, H l = none → Q (.ref l) (upd H l (.lst ((zs.mergeSort (PySem.W.dataLe false Prod.snd)).map Prod.fst)))
theorem vals_each : ∀ {zs : List (V × PyData)} {us : List Value}, Vals (zs.map Prod.fst) us → PySem.W.EachIs (fun u (p : V × PyData) => RelV p.1 u) us zs
  | [], _, .nil => .nil
  | _ :: _, _, .cons r t => .cons r (vals_each t)
theorem each_vals : ∀ {zs : List (V × PyData)} {us : List Value}, PySem.W.EachIs (fun u (p : V × PyData) => RelV p.1 u) us zs → Vals (zs.map Prod.fst) us
  | _, _, .nil => .nil
  | _, _, .cons r t => .cons r (each_vals t)
theorem each_reads {X : Cx} {pins : List (Addr × Obj)} {σ : L2.St} {H : Hp} {s : Shared} (I : Inv X pins σ H s) : ∀ {zs : List (V × PyData)} {us : List Value}, Vals (zs.map Prod.fst) us → (∀ p ∈ zs, Dp X.K H p.1 p.2) → PySem.W.EachIs (fun u (p : V × PyData) => ∃ as, Reads s.heap u p.2 as) us zs
  | [], _, .nil, _ => .nil
  | z :: zs, _, .cons r t, h => .cons (Dp.reads I z.2 z.1 _ (h z List.mem_cons_self) r) (each_reads I t fun p hp => h p (List.mem_cons_of_mem _ hp))
theorem cr_sortD {X : Cx} (hu : X.A.units + 64 < cLine) : CallR X (.builtin "sorted") (rSortD X.K) := by
  intro pins s σ H vs us Q I r h
  obtain ⟨a, zs, rfl, hs, hd, hal, hk, hdp, q⟩ := h
  obtain ⟨its, rv, hl, hz⟩ := I.list hs
  rw [Vals.ref1 r]
  have hz' : zs.length ≤ sizeLine := by rw [List.length_map] at hz; exact hz
  refine PySem.W.sorted_data (enc := Prod.snd) hl.isList (vals_each rv) (each_reads I rv hd) hal hk hz' (fun p hp => by have := hdp p hp; omega) fun out ho he => ?_
  obtain ⟨ep, he'⟩ := PyProof.Rows.sortedAll_at s.heap its out.toArray
  have hv := each_vals he
  refine ⟨.ref _, upd H (s.heap.objs.size + 1) (.lst ((zs.mergeSort (PySem.W.dataLe false Prod.snd)).map Prod.fst)), I.laid (t' := s.toks) (fun _ _ => PyProof.Rows.sortedAll_old) (Nat.le_succ _) ⟨?_, out, ep, hv, he'⟩, rfl, q _ (I.hok.fresh (Nat.le_succ _))⟩
  rw [List.length_map, List.length_mergeSort]
  exact hz'
open Classical in
noncomputable def fSorted : List PyData → Option Sl := f1s fun d => match d with
  | .list ds => if PySem.W.AllAlike ds ∧ PySem.W.Sortable ds ∧ (∀ p ∈ ds, p.depth ≤ 10) then some (.ol (ds.mergeSort (PySem.W.dataLe false id))) else none
  | _ => none
theorem DnA.zip {F : Hp} : ∀ {vs : List V} {ds : List PyData}, DnA F vs ds → (vs.zip ds).map Prod.fst = vs ∧ (vs.zip ds).map Prod.snd = ds ∧ ∀ p ∈ vs.zip ds, Dn F p.1 p.2
  | _, _, .nil => ⟨rfl, rfl, fun p hp => by cases hp⟩
  | _, _, .cons a t => by
    obtain ⟨h1, h2, h3⟩ := DnA.zip t
    refine ⟨by rw [List.zip_cons_cons, List.map_cons, h1], by rw [List.zip_cons_cons, List.map_cons, h2], fun p hp => ?_⟩
    rcases List.mem_cons.mp hp with e | hp
    · subst e; exact a
    · exact h3 p hp
theorem DnA.of_zip {F : Hp} : ∀ {zs : List (V × PyData)}, (∀ p ∈ zs, Dn F p.1 p.2) → DnA F (zs.map Prod.fst) (zs.map Prod.snd)
  | [], _ => .nil
  | z :: zs, h => .cons (h z List.mem_cons_self) (DnA.of_zip fun p hp => h p (List.mem_cons_of_mem _ hp))
theorem rco_sorted {K : PySem.W.Frag} : RCO (rSortD K) fSorted := fun Φ F ρ σ H Q vs ds z R k hz q => by
  unfold fSorted f1s at hz
  split at hz
  · rename_i d
    obtain ⟨v, rfl, lk⟩ := lkA1 k
    dsimp only at hz
    split at hz
    · rename_i es
      split at hz
      · rename_i hc
        cases hz
        have hb := lk.bdL R
        obtain ⟨a, ys, rfl, ha, h1⟩ := lk.seqL (K := K) R.fs
        obtain ⟨z1, z2, z3⟩ := h1.zip
        have srt : (((ys.zip es).mergeSort (PySem.W.dataLe false Prod.snd)).map Prod.snd) = es.mergeSort (PySem.W.dataLe false id) := by
          have := PySem.W.sort_maps (r := PySem.W.dataLe false (Prod.snd : V × PyData → PyData)) (s := PySem.W.dataLe false (id : PyData → PyData)) Prod.snd (l := ys.zip es) (fun _ _ _ _ => rfl)
          rw [z2] at this
          exact this
        have da : DnA F (((ys.zip es).mergeSort (PySem.W.dataLe false Prod.snd)).map Prod.fst) (es.mergeSort (PySem.W.dataLe false id)) := by
          rw [← srt]
          exact DnA.of_zip fun p hp => z3 p (List.mem_mergeSort.mp hp)
        refine ⟨a, ys.zip es, rfl, by rw [z1]; exact ha, fun p hp => (z3 p hp).dp K R.fs, by rw [z2]; exact hc.1, by rw [z2]; exact hc.2.1, fun p hp => hc.2.2 p.2 (by rw [← z2]; exact List.mem_map.mpr ⟨p, hp, rfl⟩), fun l hl => ?_⟩
        exact q l _ F _ (R.laid hl) (Ext.refl Φ F) (R.fresh hl) upd_same (.ol (by rw [da.length, List.length_mergeSort]; exact hb) da) rfl
      · cases hz
    · cases hz
  · cases hz
/-! ### isinstance of built-in classes -/
def tyD : PyData → String
  | .none => "NoneType"
  | .bool _ => "bool"
  | .int _ => "int"
  | .str _ => "str"
  | .list _ => "list"
  | .tuple _ => "tuple"
  | .dict _ => "dict"
def isTyD (T : String) (d : PyData) : Option Bool := kitB (tyD d) T
def mIsi (T : String) (m : M Ag) : M PyData := bnd m fun a ρ => match a.get ρ with
  | some d => (match isTyD T d with
    | some b => some (.bool b, ρ)
    | none => none)
  | none => none
theorem lk_ty {K : PySem.W.Frag} {F H : Hp} {v : V} {d : PyData} (hs : Same F H) (k : Lk F H v d) : TyX K H v (.type (tyD d)) := by
  cases k with
  | dn y =>
    cases y with
    | non => exact .base .non
    | bl b => exact .base (.bl b)
    | int i => exact .base (.int i)
    | str x => exact .base (.str x)
    | lst r t =>
      rcases r with r | ⟨o, r⟩
      · exact .base (.lst (hs _ _ r))
      · exact .base (.frz (hs _ _ r))
    | tup r t =>
      rcases r with r | ⟨o, r⟩
      · exact .base (.tup (hs _ _ r))
      · exact .fTuple (hs _ _ r)
  | lst e z t => exact .base (.lst e)
theorem ev_isi {X : Cx} {T : String} {x : Str} {e : Expr} {t : TE} {m : M Ag} {p p2 pos : Pos} (hg : Gl X "isinstance") (hm : X.mg "isinstance" = none) (hv : bootBuiltins "isinstance" = some (.builtin "isinstance")) (hg2 : Gl X x) (hm2 : X.mg x = none) (hv2 : bootBuiltins x = some (.type T)) (h : EX X e t m)
    (hn : x ≠ "__name__" := by decide) (hd : (x == ("__debug__" : Str)) = false := by decide)
    (hs1 : starEach [e, .Name x p2] X.env = (false, eval e X.env) :: starEach [.Name x p2] X.env := by rfl) (hs2 : starEach [.Name x p2] X.env = (false, eval (.Name x p2) X.env) :: starEach [] X.env := by rfl)
    (hpl : (backTo pos (starEach [.Name x p2] X.env)).any (·.1) = false := by rfl) :
    EV X (.Call (.Name "isinstance" p) [e, .Name x p2] [] pos) (tCB (rIsi X.K) (tCons t (tCons (tC (.ty T)) tNil))) (mIsi T m) := ⟨pe_callB call_isi hg hm hv (pa_cons h.pe (pa_cons (pe_bltn hg2 hm2 hv2 rfl hn hd) pa_nil hs2) hs1) (by decide) (by decide) hs1 hpl, fun Φ F ρ σ H Q d ρ' R e q => by
  obtain ⟨a, ρ1, e1, e2⟩ := bnd_some e
  refine h.se Φ F ρ σ H _ a ρ1 R e1 fun v F' H' R' X' k => ?_
  split at e2
  · rename_i d' hg'
    split at e2
    · rename_i b hb
      cases e2
      exact ⟨v, .ty T, .type (tyD d'), .type T, b, rfl, .ty T, lk_ty R'.fs (Ag.lk R' k hg'), kit_ty hb, q _ F' H' R' X' (.bl b)⟩
    · cases e2
  · cases e2⟩
end DL
end
section
/-! targets, iterables, comprehensions -/
namespace DL
open PySem PySem.Spec PyProof.Rows L2
variable [Tbs]

/-! ### wiping -/
theorem wipe_get {σ : L2.St} {j : Nat} : ∀ {vs : List Nat}, (wipe σ vs)[j]? = if j ∈ vs then (if j < σ.length then some none else none) else σ[j]?
  | [] => by simp [wipe]
  | v :: vs => by
    unfold wipe
    by_cases h : v = j
    · subst h
      by_cases hl : v < σ.length
      · rw [List.getElem?_set_self (by rw [wipe_length]; exact hl), if_pos List.mem_cons_self, if_pos hl]
      · rw [List.getElem?_eq_none (by rw [List.length_set, wipe_length]; omega), if_pos List.mem_cons_self, if_neg hl]
    · rw [List.getElem?_set_ne h, wipe_get]
      have : (j ∈ v :: vs) ↔ j ∈ vs := by
        rw [List.mem_cons]
        exact ⟨fun z => z.elim (fun e => absurd e.symm h) id, .inr⟩
      simp only [this]
theorem wipe_set {σ : L2.St} {i : Nat} {x : Option V} {vs : List Nat} (h : i ∈ vs) : wipe (σ.set i x) vs = wipe σ vs := by
  apply List.ext_getElem?
  intro j
  rw [wipe_get, wipe_get, List.length_set]
  by_cases hj : j ∈ vs
  · rw [if_pos hj, if_pos hj]
  · rw [if_neg hj, if_neg hj, List.getElem?_set_ne]
    rintro rfl
    exact hj h
theorem wipe_wipe {σ : L2.St} {vs : List Nat} : wipe (wipe σ vs) vs = wipe σ vs := by
  apply List.ext_getElem?
  intro j
  rw [wipe_get, wipe_length, wipe_get]
  by_cases hj : j ∈ vs
  · rw [if_pos hj, if_pos hj]
  · rw [if_neg hj, if_neg hj]
theorem wipe_off {σ σ' : L2.St} {vs : List Nat} (h : wipe σ' vs = wipe σ vs) {j : Nat} (hj : j ∉ vs) : σ'[j]? = σ[j]? := by
  have a := wipe_get (σ := σ') (j := j) (vs := vs)
  have b := wipe_get (σ := σ) (j := j) (vs := vs)
  rw [if_neg hj] at a b
  rw [← a, ← b, h]

/-- a comprehension's own slots are cleared -/
def clr1 (i : Nat) (ρ : Ro) : Option Ro := match ρ[i]? with
  | some (.d _) => some (ρ.set i .no)
  | some .no => some (ρ.set i .no)
  | _ => none
def clrs : List Nat → Ro → Option Ro
  | [], ρ => some ρ
  | v :: vs, ρ => match clrs vs ρ with
    | some ρ' => clr1 v ρ'
    | none => none
/-- .. and stand again behind a turn -/
def mrg : List Nat → Ro → Ro → Ro
  | [], _, ρ' => ρ'
  | v :: vs, ρ, ρ' => match ρ[v]? with
    | some s => (mrg vs ρ ρ').set v s
    | none => mrg vs ρ ρ'
def Sl.flat : Sl → Bool
  | .d _ => true
  | .no => true
  | _ => false
theorem flat_own {s : Sl} (h : s.flat = true) : s.own = false := by cases s <;> first | rfl | cases h
theorem clr1_some {i : Nat} {ρ ρ' : Ro} (h : clr1 i ρ = some ρ') : ∃ s, ρ[i]? = some s ∧ s.flat = true ∧ ρ' = ρ.set i .no := by
  unfold clr1 at h
  split at h
  · rename_i d e; cases h; exact ⟨_, e, rfl, rfl⟩
  · rename_i e; cases h; exact ⟨_, e, rfl, rfl⟩
  · cases h
theorem noBr {s : Sl} (h : s.own = false) : s.isBr = false := by cases s <;> first | rfl | cases h
theorem Rl.clrs {Φ : Fx} {F H : Hp} {σ : L2.St} : ∀ {vs : List Nat} {ρ ρ' : Ro}, Rl Φ F ρ σ H → DL.clrs vs ρ = some ρ' → Rl Φ F ρ' (wipe σ vs) H
  | [], ρ, ρ', R, h => by cases h; exact R
  | v :: vs, ρ, ρ', R, h => by
    simp only [DL.clrs] at h
    split at h
    · rename_i ρ1 e
      obtain ⟨s, h1, h2, rfl⟩ := clr1_some h
      exact (Rl.clrs R e).clear h1 (noBr (flat_own h2))
    · cases h
theorem clrs_len : ∀ {vs : List Nat} {ρ ρ' : Ro}, clrs vs ρ = some ρ' → ρ'.length = ρ.length
  | [], ρ, ρ', h => by cases h; rfl
  | v :: vs, ρ, ρ', h => by
    simp only [clrs] at h
    split at h
    · rename_i ρ1 e
      obtain ⟨s, h1, h2, rfl⟩ := clr1_some h
      rw [List.length_set, clrs_len e]
    · cases h
theorem clrs_get : ∀ {vs : List Nat} {ρ ρ' : Ro}, clrs vs ρ = some ρ' → ∀ j, (j ∈ vs → ∃ s, ρ[j]? = some s ∧ s.flat = true) ∧ (j ∉ vs → ρ'[j]? = ρ[j]?)
  | [], ρ, ρ', h, j => by cases h; exact ⟨fun z => (List.not_mem_nil z).elim, fun _ => rfl⟩
  | v :: vs, ρ, ρ', h, j => by
    simp only [clrs] at h
    split at h
    · rename_i ρ1 e
      obtain ⟨s, h1, h2, rfl⟩ := clr1_some h
      obtain ⟨a, b⟩ := clrs_get e j
      refine ⟨fun hj => ?_, fun hj => ?_⟩
      · by_cases hv : j ∈ vs
        · exact a hv
        · rcases List.mem_cons.mp hj with z | z
          · subst z; rw [b hv] at h1; exact ⟨s, h1, h2⟩
          · exact absurd z hv
      · rw [List.getElem?_set_ne (fun z => hj (by rw [← z]; exact List.mem_cons_self)), b fun z => hj (List.mem_cons_of_mem _ z)]
    · cases h
theorem mrg_len {ρ ρ' : Ro} : ∀ vs : List Nat, (mrg vs ρ ρ').length = ρ'.length
  | [] => rfl
  | v :: vs => by
    simp only [mrg]
    split
    · rw [List.length_set, mrg_len vs]
    · exact mrg_len vs
theorem mrg_get {ρ ρ' : Ro} (hl : ρ'.length = ρ.length) {j : Nat} : ∀ vs : List Nat, (mrg vs ρ ρ')[j]? = if j ∈ vs then ρ[j]? else ρ'[j]?
  | [] => by simp [mrg]
  | v :: vs => by
    simp only [mrg]
    by_cases h : v = j
    · subst h
      rw [if_pos List.mem_cons_self]
      split
      · rename_i s e
        rw [List.getElem?_set_self (by rw [mrg_len, hl]; exact (List.getElem?_eq_some_iff.mp e).1), e]
      · rename_i e
        rw [mrg_get hl vs, e]
        split
        · rfl
        · rw [List.getElem?_eq_none_iff] at e ⊢; omega
    · have hm : (j ∈ v :: vs) ↔ j ∈ vs := by
        rw [List.mem_cons]
        exact ⟨fun z => z.elim (fun e => absurd e.symm h) id, .inr⟩
      simp only [hm]
      split
      · rw [List.getElem?_set_ne h, mrg_get hl vs]
      · exact mrg_get hl vs
/-- behind a turn: the state around -/
theorem Rl.back {Φ : Fx} {F F' H H' : Hp} {ρ ρ1 ρ' : Ro} {σ σ' : L2.St} {vs : List Nat} (R : Rl Φ F ρ σ H) (hc : DL.clrs vs ρ = some ρ1) (R' : Rl Φ F' ρ' σ' H') (hs : wipe σ' vs = wipe σ vs) (hf : Same F F') : Rl Φ F' (mrg vs ρ ρ') σ H' := by
  have ls : σ'.length = σ.length := by
    have a := wipe_length σ' vs
    have b := wipe_length σ vs
    rw [hs] at a; omega
  have hl : ρ'.length = ρ.length := by rw [← R'.len, ls, R.len]
  have g := fun j => mrg_get (ρ := ρ) (ρ' := ρ') hl (j := j) vs
  have cg := clrs_get hc
  have own' : ∀ (i : Nat) (s : Sl), (mrg vs ρ ρ')[i]? = some s → s.own = true → i ∉ vs ∧ ρ'[i]? = some s := fun i s h1 h2 => by
    rw [g i] at h1
    by_cases hi : i ∈ vs
    · rw [if_pos hi] at h1
      obtain ⟨s', e, h3⟩ := (cg i).1 hi
      rw [h1] at e; cases e
      rw [flat_own h3] at h2; cases h2
    · rw [if_neg hi] at h1; exact ⟨hi, h1⟩
  refine ⟨by rw [mrg_len, hl]; exact R.len, R'.fs, R'.gs, R'.bd, fun i d h => ?_, fun i d h => ?_, fun i s h1 h2 => ?_, fun i j s s' l h1 h2 h3 h4 h5 h6 => ?_, fun p hp => ?_, R'.tb⟩
  · rw [g i] at h
    by_cases hi : i ∈ vs
    · rw [if_pos hi] at h
      obtain ⟨v, a, b⟩ := R.dat i d h
      exact ⟨v, a, b.mono hf⟩
    · rw [if_neg hi] at h
      rw [← wipe_off hs hi]
      exact R'.dat i d h
  · rw [g i] at h
    by_cases hi : i ∈ vs
    · obtain ⟨s', e, h3⟩ := (cg i).1 hi
      rw [if_pos hi, e] at h
      cases h
      cases h3
    · rw [if_neg hi] at h
      rw [← wipe_off hs hi]
      exact R'.lk i d h
  · obtain ⟨hi, h1⟩ := own' i s h1 h2
    rw [← wipe_off hs hi]
    exact R'.own i s h1 h2
  · obtain ⟨hi, h1⟩ := own' i s h1 h3
    obtain ⟨hj, h2⟩ := own' j s' h2 h4
    rw [← wipe_off hs hi] at h5
    rw [← wipe_off hs hj] at h6
    exact R'.dj i j s s' l h1 h2 h3 h4 h5 h6
  · obtain ⟨_, ds0, h0⟩ := R.io p hp
    obtain ⟨h1, ds, h2⟩ := R'.io p hp
    have hn : p.1 ∉ vs := fun z => by
      obtain ⟨s', e, h3⟩ := (cg p.1).1 z
      rw [h0] at e; cases e; cases h3
    rw [← wipe_off hs hn]
    exact ⟨h1, ds, by rw [g, if_neg hn]; exact h2⟩

/-! ### targets -/
def SG (gs : List Nat) (g : TG) (m : PyData → Ro → Option Ro) : Prop := ∀ (Φ : Fx) (F : Hp) (ρ : Ro) (σ : L2.St) (H : Hp) (v : V) (d : PyData) (ρ' : Ro) (Q : L2.St → Hp → Prop), Rl Φ F ρ σ H → Dn F v d → m d ρ = some ρ' →
  (∀ σ', Rl Φ F ρ' σ' H → (∀ vs, (∀ i ∈ gs, i ∈ vs) → wipe σ' vs = wipe σ vs) → Q σ' H) → g v σ H Q
def SGs (gs : List Nat) (g : TGs) (m : List PyData → Ro → Option Ro) : Prop := ∀ (Φ : Fx) (F : Hp) (ρ : Ro) (σ : L2.St) (H : Hp) (us : List V) (ds : List PyData) (ρ' : Ro) (Q : L2.St → Hp → Prop), Rl Φ F ρ σ H → DnA F us ds → m ds ρ = some ρ' →
  (∀ σ', Rl Φ F ρ' σ' H → (∀ vs, (∀ i ∈ gs, i ∈ vs) → wipe σ' vs = wipe σ vs) → Q σ' H) → g us σ H Q
structure EG (X : Cx) (e : Expr) (gs : List Nat) (g : TG) (m : PyData → Ro → Option Ro) : Prop where
  pe : PG X e g
  se : SG gs g m
structure EGs (X : Cx) (es : List Expr) (gs : List Nat) (g : TGs) (m : List PyData → Ro → Option Ro) : Prop where
  pe : PGs X es g
  se : SGs gs g m
def stN (i : Nat) (d : PyData) (ρ : Ro) : Option Ro := match ρ[i]? with
  | some s => if s.isBr = true then none else some (ρ.set i (.d d))
  | none => none
theorem sg_name (i : Nat) : SG [i] (gName i) (stN i) := fun Φ F ρ σ H v d ρ' Q R k e q => by
  unfold stN at e
  split at e
  · rename_i s hs
    split at e
    · cases e
    · rename_i hb
      cases e
      have hb' : s.isBr = false := by cases h : s.isBr <;> first | rfl | exact absurd h hb
      exact q _ (R.store k hs hb') fun vs hv => wipe_set (hv i List.mem_cons_self)
  · cases e
def tg0 (ds : List PyData) (ρ : Ro) : Option Ro := match ds with
  | [] => some ρ
  | _ => none
def tgC (m : PyData → Ro → Option Ro) (k : List PyData → Ro → Option Ro) (ds : List PyData) (ρ : Ro) : Option Ro := match ds with
  | d :: r => (match m d ρ with
    | some ρ' => k r ρ'
    | none => none)
  | [] => none
def tgT (k : List PyData → Ro → Option Ro) (d : PyData) (ρ : Ro) : Option Ro := match d with
  | .tuple ds => k ds ρ
  | _ => none
theorem sgs_nil : SGs [] gNil tg0 := fun Φ F ρ σ H us ds ρ' Q R k e q => by
  cases ds with
  | nil =>
    cases e
    cases k
    exact ⟨rfl, q σ R fun _ _ => rfl⟩
  | cons _ _ => cases e
theorem sgs_cons {gs hs : List Nat} {g : TG} {gg : TGs} {m : PyData → Ro → Option Ro} {k : List PyData → Ro → Option Ro} (h : SG gs g m) (h2 : SGs hs gg k) : SGs (gs ++ hs) (gCons g gg) (tgC m k) := fun Φ F ρ σ H us ds ρ' Q R kk e q => by
  cases ds with
  | nil => cases e
  | cons d r =>
    cases kk with
    | @cons v us _ _ a t =>
      simp only [tgC] at e
      split at e
      · rename_i ρ1 e1
        refine ⟨v, us, rfl, h Φ F ρ σ H v d ρ1 _ R a e1 fun σ1 R1 w1 => ?_⟩
        refine h2 Φ F ρ1 σ1 H us r ρ' Q R1 t e fun σ2 R2 w2 => q σ2 R2 fun vs hv => ?_
        rw [w2 vs fun i hi => hv i (List.mem_append_right _ hi), w1 vs fun i hi => hv i (List.mem_append_left _ hi)]
      · cases e
theorem sgs_lenT {gs : List Nat} {K : PySem.W.Frag} {gg : TGs} {k : List PyData → Ro → Option Ro} {n : Nat} (h : SGs gs gg k) (hn : ∀ ds ρ ρ', k ds ρ = some ρ' → ds.length = n) : SG gs (gTup K n gg) (tgT k) := fun Φ F ρ σ H v d ρ' Q R kk e q => by
  cases d with
  | tuple ds =>
    cases kk with
    | @tup a vs _ r t =>
      exact ⟨a, vs, rfl, .inl (rd_mono R.fs r), by rw [t.length]; exact hn ds ρ ρ' e, h Φ F ρ σ H vs ds ρ' Q R t e q⟩
  | _ => cases e
theorem tg0_len {ds : List PyData} {ρ ρ' : Ro} (h : tg0 ds ρ = some ρ') : ds.length = 0 := by
  cases ds with
  | nil => rfl
  | cons _ _ => cases h
theorem tgC_len {m : PyData → Ro → Option Ro} {k : List PyData → Ro → Option Ro} {n : Nat} (hk : ∀ ds ρ ρ', k ds ρ = some ρ' → ds.length = n) {ds : List PyData} {ρ ρ' : Ro} (h : tgC m k ds ρ = some ρ') : ds.length = n + 1 := by
  cases ds with
  | nil => cases h
  | cons d r =>
    simp only [tgC] at h
    split at h
    · rw [List.length_cons, hk _ _ _ h]
    · cases h
section
variable {X : Cx} {pos : Pos}
theorem eg_name (i : Nat) {x : Str} (hN : X.N.Nodup) (hi : X.N[i]? = some x := by rfl) (hx : Loc X.env.scope x := by first | exact Or.inl rfl | exact Or.inr rfl) (hf : X.fn x = true ∨ X.env.scope.names.lookup x = some .local := by first | exact .inl rfl | exact .inr rfl | assumption) : EG X (.Name x pos) [i] (gName i) (stN i) := ⟨pg_name hN hi hx hf, sg_name i⟩
theorem egs_nil : EGs X [] [] gNil tg0 := ⟨pgs_nil, sgs_nil⟩
end

/-! ### what is walked -/
structure Itm where
  xs : List PyData
  ow : Option Nat
def Itm.ok (it : Itm) (ρ : Ro) : Prop := match it.ow with
  | none => True
  | some j => (Ag.o j).get ρ = some (.list it.xs)
def ItS (J : It) (G0 F0 : Hp) (it : Itm) (σ0 : L2.St) : Prop := ∀ (Φ : Fx) (F : Hp) (ρ : Ro) (σ : L2.St) (H : Hp), Rl Φ F ρ σ H → Same G0 Φ.G → Same F0 F → it.ok ρ → (∀ j, it.ow = some j → σ[j]? = σ0[j]?) →
  (∀ (i : Nat) (d : PyData), it.xs[i]? = some d → J.go i H ∧ ∀ v H', J.yld i H v H' → ∃ F', Rl Φ F' ρ σ H' ∧ Ext Φ F F' ∧ Dn F' v d) ∧ ∀ i, it.xs.length ≤ i → J.stop i H
def SI (wi : TI) (m : M Itm) : Prop := ∀ (Φ : Fx) (F : Hp) (ρ : Ro) (σ : L2.St) (H : Hp) (R : It → Hp → Prop) (it : Itm) (ρ' : Ro), Rl Φ F ρ σ H → m ρ = some (it, ρ') →
  (∀ J F' H', Rl Φ F' ρ' σ H' → Ext Φ F F' → ItS J Φ.G F' it σ → it.xs.length ≤ sizeLine → R J H') → wi σ H R
structure EI (X : Cx) (tg e : Expr) (wi : TI) (m : M Itm) : Prop where
  pe : PI X tg e wi
  se : SI wi m

def iSeq (K : PySem.W.Frag) (tl : TE) : TI := fun σ H R => tl σ H fun x H1 => ∃ a, x = .ref a ∧ (((∃ xs, SqL K H1 a xs) ∧ R (Itl K a) H1) ∨ ((∃ xs, SqT K H1 a xs) ∧ R (Itt K a) H1))
theorem pi_seq {X : Cx} {tg e : Expr} {tl : TE} (he : PE X e tl) : PI X tg e (iSeq X.K tl) := by
  refine ⟨fun pins s σ H R I h => thn (he.run pins s σ H _ I h) fun v s1 hq => ?_⟩
  obtain ⟨x, H1, I1, r1, a, rfl, q⟩ := hq
  cases r1
  have fin : ∀ (m : Heap) (J : It) (tn : Nat → Heap → Prop), Turn X.prog X.w X.K tg J [s1.heap.objs.size] s1.heap.objs.size tn → tn 0 m → (∀ b o, s1.heap.get? b = some o → m.get? b = some o) → R J H1 → PIE X pins σ tg R (.ref s1.heap.objs.size) { s1 with heap := m } := fun m J tn T t0 hk hR =>
    ⟨s1.heap.objs.size, [s1.heap.objs.size], tn, J, H1, rfl, I1.kept (t' := s1.toks) hk, T, t0, fun b hb => by
      rw [List.mem_singleton.mp hb]
      exact I1.fpOk (Nat.le_refl _) (I1.hok.fresh (Nat.le_refl _)), hR⟩
  rcases q with ⟨⟨xs, hq⟩, hR⟩ | ⟨⟨xs, hq⟩, hR⟩
  · obtain ⟨its, rv, p, hz⟩ := I1.list hq
    exact wpAny_pyIter_list p.isList (fin _ _ _ (turn_list a _) ⟨_, Heap.get?_push_size _ rfl, rfl, rfl⟩ (fun b o e => Heap.get?_push_of_some _ e) hR)
  · obtain ⟨its, rv, p, hz⟩ := I1.tuple hq
    exact wpAny_pyIter_tuple (show s1.heap.IsTuple a its.toArray from p) (fin _ _ _ (turn_tuple a _) ⟨_, Heap.get?_push_size _ rfl, rfl, rfl⟩ (fun b o e => Heap.get?_push_of_some _ e) hR)
/-- an operand's items -/
def agI (ρ : Ro) (a : Ag) : Option Itm := match a with
  | .v d => (match seqD d with
    | some ds => some ⟨ds, none⟩
    | none => none)
  | .o j => (match (Ag.o j).get ρ with
    | some (.list ds) => some ⟨ds, some j⟩
    | _ => none)
def mSeq (m : M Ag) : M Itm := bnd m fun a ρ => match agI ρ a with
  | some it => some (it, ρ)
  | none => none
theorem rd_fun {F : Hp} {a : Addr} {vs ws : List V} (h : Rd F a (.lst vs)) (k : Rd F a (.lst ws)) : vs = ws := by
  rcases h with h | ⟨o, h⟩ <;> rcases k with k | ⟨o', k⟩ <;> rw [h] at k <;> cases k <;> rfl
theorem rd_funT {F : Hp} {a : Addr} {vs ws : List V} (h : Rd F a (.tup vs)) (k : Rd F a (.tup ws)) : vs = ws := by
  rcases h with h | ⟨o, h⟩ <;> rcases k with k | ⟨o', k⟩ <;> rw [h] at k <;> cases k <;> rfl
/-- how operands are read at each turn: what is read has these items -/
structure SeqAt2 (K : PySem.W.Frag) (isL : Bool) (a : Addr) (F0 : Hp) (it : Itm) (σ0 : L2.St) : Prop where
  at_ : ∀ (Φ : Fx) (F : Hp) (ρ : Ro) (σ : L2.St) (H : Hp), Rl Φ F ρ σ H → Same F0 F → it.ok ρ → (∀ j, it.ow = some j → σ[j]? = σ0[j]?) → ∃ vs, (if isL = true then Rd H a (.lst vs) else Rd H a (.tup vs)) ∧ DnA F vs it.xs
theorem agI_at {Φ : Fx} {F H : Hp} {ρ : Ro} {σ : L2.St} {v : V} {a : Ag} {it : Itm} (K : PySem.W.Frag) (R : Rl Φ F ρ σ H) (x : AgOk F σ v a) (e : agI ρ a = some it) : ∃ p isL, v = .ref p ∧ SeqAt2 K isL p F it σ ∧ it.ok ρ ∧ it.xs.length ≤ sizeLine ∧ ∃ vs, if isL = true then Rd H p (.lst vs) else Rd H p (.tup vs) := by
  cases a with
  | v d =>
    simp only [agI] at e
    split at e
    · rename_i ds hs
      cases e
      have x : Dn F v d := x
      cases d with
      | list _ =>
        cases hs
        cases x with
        | @lst p vs _ r t =>
          exact ⟨p, true, rfl, ⟨fun Φ' F' ρ' σ' H' R' S' _ _ => ⟨vs, by rw [if_pos rfl]; exact rd_mono R'.fs (rd_mono S' r), t.mono S'⟩⟩, trivial, by show ds.length ≤ _; rw [← t.length]; exact R.bd _ _ (.inl r), vs, by rw [if_pos rfl]; exact rd_mono R.fs r⟩
      | tuple _ =>
        cases hs
        cases x with
        | @tup p vs _ r t =>
          exact ⟨p, false, rfl, ⟨fun Φ' F' ρ' σ' H' R' S' _ _ => ⟨vs, by rw [if_neg (by decide)]; exact rd_mono R'.fs (rd_mono S' r), t.mono S'⟩⟩, trivial, by show ds.length ≤ _; rw [← t.length]; exact R.bd _ _ (.inr r), vs, by rw [if_neg (by decide)]; exact rd_mono R.fs r⟩
      | _ => cases hs
    · cases e
  | o j =>
    simp only [agI] at e
    split at e
    · rename_i ds hg
      cases e
      have x : σ[j]? = some (some v) := x
      have own_of : ∀ (Φ' : Fx) (F' : Hp) (ρ' : Ro) (σ' : L2.St) (H' : Hp), Rl Φ' F' ρ' σ' H' → (Ag.o j).get ρ' = some (.list ds) → σ'[j]? = σ[j]? → ∃ p vs, v = .ref p ∧ H' p = some (.lst vs) ∧ vs.length ≤ sizeLine ∧ DnA F' vs ds := fun Φ' F' ρ' σ' H' R' g s => by
        simp only [Ag.get] at g
        split at g
        · rename_i ds' q
          cases g
          obtain ⟨l, o, a, b, c, d, cn⟩ := R'.own j _ q rfl
          rw [s, x] at a; injection a with a; injection a with a
          cases cn with
          | ol h1 h2 => exact ⟨l, _, a, d, h1, h2⟩
        · rename_i ds' q
          cases g
          obtain ⟨l, o, a, b, c, d, cn⟩ := R'.own j _ q rfl
          rw [s, x] at a; injection a with a; injection a with a
          cases cn with
          | br h1 h2 => exact ⟨l, _, a, d, h1, h2⟩
        · cases g
      obtain ⟨p, vs, e1, e2, e3, e4⟩ := own_of Φ F ρ σ H R hg rfl
      refine ⟨p, true, e1, ⟨fun Φ' F' ρ' σ' H' R' S' ok sl => ?_⟩, hg, by show ds.length ≤ _; rw [← e4.length]; exact e3, vs, by rw [if_pos rfl]; exact .inl e2⟩
      obtain ⟨p', vs', f1, f2, f3, f4⟩ := own_of Φ' F' ρ' σ' H' R' ok (sl j rfl)
      rw [e1] at f1; cases f1
      exact ⟨vs', by rw [if_pos rfl]; exact .inl f2, f4⟩
    · cases e
theorem its_list {K : PySem.W.Frag} {p : Addr} {G0 F0 : Hp} {it : Itm} {σ0 : L2.St} (A : SeqAt2 K true p F0 it σ0) : ItS (Itl K p) G0 F0 it σ0 := fun Φ F ρ σ H R _ S ok sl => by
  obtain ⟨vs, hr, t⟩ := A.at_ Φ F ρ σ H R S ok sl
  rw [if_pos rfl] at hr
  refine ⟨fun i d hd => ?_, fun i hi => ⟨vs, .inl hr, by rw [t.length]; exact hi⟩⟩
  obtain ⟨v, hv, dn⟩ := t.get hd
  refine ⟨⟨vs, v, .inl hr, hv⟩, fun u H' hy => ?_⟩
  obtain ⟨rfl, hu⟩ := hy
  have := hu vs (.inl hr)
  rw [hv] at this; cases this
  exact ⟨F, R, Ext.refl Φ F, dn⟩
theorem its_tup {K : PySem.W.Frag} {p : Addr} {G0 F0 : Hp} {it : Itm} {σ0 : L2.St} (A : SeqAt2 K false p F0 it σ0) : ItS (Itt K p) G0 F0 it σ0 := fun Φ F ρ σ H R _ S ok sl => by
  obtain ⟨vs, hr, t⟩ := A.at_ Φ F ρ σ H R S ok sl
  rw [if_neg (by decide)] at hr
  refine ⟨fun i d hd => ?_, fun i hi => ⟨vs, .inl hr, by rw [t.length]; exact hi⟩⟩
  obtain ⟨v, hv, dn⟩ := t.get hd
  refine ⟨⟨vs, v, .inl hr, hv⟩, fun u H' hy => ?_⟩
  obtain ⟨rfl, hu⟩ := hy
  have := hu vs (.inl hr)
  rw [hv] at this; cases this
  exact ⟨F, R, Ext.refl Φ F, dn⟩
theorem si_seq {K : PySem.W.Frag} {t : TE} {m : M Ag} (h : SX t m) : SI (iSeq K t) (mSeq m) := fun Φ F ρ σ H R it ρ' R0 e q => by
  obtain ⟨a, ρ1, e1, e2⟩ := bnd_some e
  split at e2
  · rename_i it' hi
    cases e2
    refine h Φ F ρ σ H _ a _ R0 e1 fun v F' H' R' X' k => ?_
    obtain ⟨p, isL, rfl, A, ok, hz, vs, hr⟩ := agI_at K R' k hi
    cases isL with
    | true =>
      rw [if_pos rfl] at hr
      exact ⟨p, rfl, .inl ⟨⟨vs, .inl hr⟩, q _ F' H' R' X' (its_list A) hz⟩⟩
    | false =>
      rw [if_neg (by decide)] at hr
      exact ⟨p, rfl, .inr ⟨⟨vs, .inl hr⟩, q _ F' H' R' X' (its_tup A) hz⟩⟩
  · cases e2
theorem ei_seq {X : Cx} {tg e : Expr} {t : TE} {m : M Ag} (h : EX X e t m) : EI X tg e (iSeq X.K t) (mSeq m) := ⟨pi_seq h.pe, si_seq h.se⟩
/-- a new pair, frozen -/
theorem Rl.pair {Φ : Fx} {F H : Hp} {ρ : Ro} {σ : L2.St} (R : Rl Φ F ρ σ H) {T : Addr} {x y : V} {d e : PyData} (hT : H T = none) (hx : Dn F x d) (hy : Dn F y e) : ∃ F', Rl Φ F' ρ σ (upd H T (.tup [x, y])) ∧ Ext Φ F F' ∧ Dn F' (.ref T) (.tuple [d, e]) := by
  obtain ⟨R2, X2⟩ := R.lay (o := .tup [x, y]) hT (fun ws => bd_tup (by rw [sizeLine_is]; show 2 ≤ 16777216; decide))
  exact ⟨_, R2, X2, .tup (.inl upd_same) (.cons (hx.mono X2.1) (.cons (hy.mono X2.1) .nil))⟩
def enumD (xs : List PyData) : List PyData := xs.zipIdx.map fun p => .tuple [.int (p.2 : Nat), p.1]
theorem enumD_get {xs : List PyData} {i : Nat} {d : PyData} (h : (enumD xs)[i]? = some d) : ∃ e, xs[i]? = some e ∧ d = .tuple [.int (i : Nat), e] := by
  unfold enumD at h
  rw [List.getElem?_map, List.getElem?_zipIdx] at h
  cases q : xs[i]? with
  | none => rw [q] at h; cases h
  | some e =>
    rw [q] at h
    simp at h
    exact ⟨e, rfl, h.symm⟩
theorem enumD_len (xs : List PyData) : (enumD xs).length = xs.length := by unfold enumD; rw [List.length_map, List.length_zipIdx]
def mEnum (m : M (List Ag)) : M Itm := bnd m fun as ρ => match as with
  | [a] => (match agI ρ a with
    | some it => (match it.ow with
      | none => some (⟨enumD it.xs, none⟩, ρ)
      | some _ => none)
    | none => none)
  | _ => none
/-- the operand is data: what is read stands -/
theorem ok_none {it : Itm} (h : it.ow = none) (ρ : Ro) : it.ok ρ := by unfold Itm.ok; rw [h]; trivial
theorem si_enum {K : PySem.W.Frag} {t : TA} {m : M (List Ag)} (h : SA t m) : SI (iEnumA K t) (mEnum m) := fun Φ F ρ σ H R it ρ' R0 e q => by
  obtain ⟨as, ρ1, e1, e2⟩ := bnd_some e
  split at e2
  · rename_i a
    split at e2
    · rename_i it' hi
      split at e2
      · rename_i ho
        cases e2
        refine h Φ F ρ σ H _ _ _ R0 e1 fun vs F' H' R' X' k => ?_
        cases k with
        | cons ka kt =>
          cases kt
          obtain ⟨p, isL, rfl, A, ok, hz, vs, hr⟩ := agI_at K R' ka hi
          have hz' : (enumD it'.xs).length ≤ sizeLine := by rw [enumD_len]; exact hz
          cases isL with
          | true =>
            rw [if_pos rfl] at hr
            refine ⟨p, vs, rfl, .inl ⟨.inl hr, q _ F' H' R' X' (fun Φ2 F2 ρ2 σ2 H2 R2 _ S2 ok2 sl2 => ?_) hz'⟩⟩
            obtain ⟨ws, hw, t⟩ := A.at_ Φ2 F2 ρ2 σ2 H2 R2 S2 (ok_none ho _) (fun j hj => by rw [ho] at hj; cases hj)
            rw [if_pos rfl] at hw
            refine ⟨fun i d hd => ?_, fun i hi => ⟨ws, .inl hw, by rw [t.length]; rw [enumD_len] at hi; exact hi⟩⟩
            obtain ⟨e, he, rfl⟩ := enumD_get hd
            obtain ⟨v, hv, dn⟩ := t.get he
            refine ⟨⟨ws, v, .inl hw, hv⟩, fun u H3 hy => ?_⟩
            obtain ⟨T, x, rfl, hT, rfl, hx⟩ := hy
            have := hx ws (.inl hw)
            rw [hv] at this; cases this
            exact R2.pair hT (.int _) dn
          | false =>
            rw [if_neg (by decide)] at hr
            refine ⟨p, vs, rfl, .inr ⟨.inl hr, q _ F' H' R' X' (fun Φ2 F2 ρ2 σ2 H2 R2 _ S2 ok2 sl2 => ?_) hz'⟩⟩
            obtain ⟨ws, hw, t⟩ := A.at_ Φ2 F2 ρ2 σ2 H2 R2 S2 (ok_none ho _) (fun j hj => by rw [ho] at hj; cases hj)
            rw [if_neg (by decide)] at hw
            refine ⟨fun i d hd => ?_, fun i hi => ⟨ws, .inl hw, by rw [t.length]; rw [enumD_len] at hi; exact hi⟩⟩
            obtain ⟨e, he, rfl⟩ := enumD_get hd
            obtain ⟨v, hv, dn⟩ := t.get he
            refine ⟨⟨ws, v, .inl hw, hv⟩, fun u H3 hy => ?_⟩
            obtain ⟨T, x, rfl, hT, rfl, hx⟩ := hy
            have := hx ws (.inl hw)
            rw [hv] at this; cases this
            exact R2.pair hT (.int _) dn
      · cases e2
    · cases e2
  · cases e2
theorem ei_enum {X : Cx} {e : Expr} {ta : TA} {m : M (List Ag)} {p pos tpos : Pos} {elts : List Expr} {kk : Nat} (hg : Gl X "enumerate") (hm : X.mg "enumerate" = none) (ha : EA X [e] ta m) (hs : starEach [e] X.env = [(false, eval e X.env)] := by rfl) : EI X (.Tuple elts kk tpos) (.Call (.Name "enumerate" p) [e] [] pos) (iEnumA X.K ta) (mEnum m) := ⟨pi_enumA hg hm ha.pe hs, si_enum ha.se⟩
/-- zip of two lists, of two tuples -/
def zipD (xs ys : List PyData) : List PyData := (xs.zip ys).map fun p => .tuple [p.1, p.2]
theorem zipD_get {xs ys : List PyData} {i : Nat} {d : PyData} (h : (zipD xs ys)[i]? = some d) : ∃ a b, xs[i]? = some a ∧ ys[i]? = some b ∧ d = .tuple [a, b] := by
  unfold zipD at h
  rw [List.getElem?_map] at h
  cases q : (xs.zip ys)[i]? with
  | none => rw [q] at h; cases h
  | some p =>
    rw [q] at h
    obtain ⟨h1, h2⟩ := List.getElem?_zip_eq_some.mp q
    exact ⟨p.1, p.2, h1, h2, by cases h; rfl⟩
theorem zipD_len (xs ys : List PyData) : (zipD xs ys).length = min xs.length ys.length := by unfold zipD; rw [List.length_map, List.length_zip]
def sameKind : PyData → PyData → Bool
  | .list _, .list _ => true
  | .tuple _, .tuple _ => true
  | _, _ => false
def fZip : List Ag → Option Itm
  | [.v d, .v e] => if sameKind d e then (match seqD d, seqD e with
    | some xs, some ys => some ⟨zipD xs ys, none⟩
    | _, _ => none) else none
  | _ => none
def mZip (m : M (List Ag)) : M Itm := bnd m fun as => lft (fZip as)
theorem si_zip {K : PySem.W.Frag} {t : TA} {m : M (List Ag)} (h : SA t m) : SI (RZ.iZipA K t) (mZip m) := fun Φ F ρ σ H R it ρ' R0 e q => by
  obtain ⟨as, ρ1, e1, e2⟩ := bnd_some e
  obtain ⟨e3, rfl⟩ := lft_some e2
  unfold fZip at e3
  split at e3
  · rename_i d d'
    split at e3
    · rename_i hk
      refine h Φ F ρ σ H _ _ _ R0 e1 fun vs F' H' R' X' k => ?_
      cases k with
      | cons ka kt => cases kt with
        | cons kb kt =>
          cases kt
          have ka : Dn F' _ d := ka
          have kb : Dn F' _ d' := kb
          cases d with
          | list xs => cases d' with
            | list ys =>
              cases e3
              cases ka with
              | @lst a us _ ra ta => cases kb with
                | @lst b ws _ rb tb =>
                  refine ⟨a, b, us, ws, rfl, .inl ⟨.inl (rd_mono R'.fs ra), .inl (rd_mono R'.fs rb), q _ F' H' R' X' (fun Φ2 F2 ρ2 σ2 H2 R2 _ S2 ok2 sl2 => ?_) ?_⟩⟩
                  · have ha : SqL K H2 a us := .inl (rd_mono R2.fs (rd_mono S2 ra))
                    have hb : SqL K H2 b ws := .inl (rd_mono R2.fs (rd_mono S2 rb))
                    refine ⟨fun i d hd => ?_, fun i hi => ⟨us, ws, ha, hb, ?_⟩⟩
                    · obtain ⟨x, y, hx, hy, rfl⟩ := zipD_get hd
                      obtain ⟨v, hv, dv⟩ := (ta.mono S2).get hx
                      obtain ⟨w, hw, dw⟩ := (tb.mono S2).get hy
                      refine ⟨⟨us, ws, v, w, ha, hb, hv, hw⟩, fun u H3 hyl => ?_⟩
                      obtain ⟨T, v', w', rfl, hT, rfl, f1, f2⟩ := hyl
                      have g1 := f1 us ha
                      have g2 := f2 ws hb
                      rw [hv] at g1; cases g1
                      rw [hw] at g2; cases g2
                      exact R2.pair hT dv dw
                    · have l1 := ta.length
                      have l2 := tb.length
                      rw [zipD_len] at hi
                      omega
                  · have := R'.bd _ _ (.inl ra)
                    have l1 := ta.length
                    rw [zipD_len]
                    omega
            | _ => cases hk
          | tuple xs => cases d' with
            | tuple ys =>
              cases e3
              cases ka with
              | @tup a us _ ra ta => cases kb with
                | @tup b ws _ rb tb =>
                  refine ⟨a, b, us, ws, rfl, .inr ⟨.inl (rd_mono R'.fs ra), .inl (rd_mono R'.fs rb), q _ F' H' R' X' (fun Φ2 F2 ρ2 σ2 H2 R2 _ S2 ok2 sl2 => ?_) ?_⟩⟩
                  · have ha : SqT K H2 a us := .inl (rd_mono R2.fs (rd_mono S2 ra))
                    have hb : SqT K H2 b ws := .inl (rd_mono R2.fs (rd_mono S2 rb))
                    refine ⟨fun i d hd => ?_, fun i hi => ⟨us, ws, ha, hb, ?_⟩⟩
                    · obtain ⟨x, y, hx, hy, rfl⟩ := zipD_get hd
                      obtain ⟨v, hv, dv⟩ := (ta.mono S2).get hx
                      obtain ⟨w, hw, dw⟩ := (tb.mono S2).get hy
                      refine ⟨⟨us, ws, v, w, ha, hb, hv, hw⟩, fun u H3 hyl => ?_⟩
                      obtain ⟨T, v', w', rfl, hT, rfl, f1, f2⟩ := hyl
                      have g1 := f1 us ha
                      have g2 := f2 ws hb
                      rw [hv] at g1; cases g1
                      rw [hw] at g2; cases g2
                      exact R2.pair hT dv dw
                    · have l1 := ta.length
                      have l2 := tb.length
                      rw [zipD_len] at hi
                      omega
                  · have := R'.bd _ _ (.inr ra)
                    have l1 := ta.length
                    rw [zipD_len]
                    omega
            | _ => cases hk
          | _ => cases hk
    · cases e3
  · cases e3
theorem ei_zip {X : Cx} {e e2 : Expr} {ta : TA} {m : M (List Ag)} {p pos tpos : Pos} {elts : List Expr} {kk : Nat} (hg : Gl X "zip") (hm : X.mg "zip" = none) (ha : EA X [e, e2] ta m)
    (hs : starEach [e, e2] X.env = (false, eval e X.env) :: starEach [e2] X.env := by rfl) (hpl : (backTo pos (starEach [e2] X.env)).any (·.1) = false := by rfl) :
    EI X (.Tuple elts kk tpos) (.Call (.Name "zip" p) [e, e2] [] pos) (RZ.iZipA X.K ta) (mZip m) := ⟨RZ.pi_zipA hg hm ha.pe hs hpl, si_zip ha.se⟩
/-- ranges -/
def rngD (lo : Int) (n : Nat) : List PyData := (List.range n).map fun k => .int (lo + (k : Nat))
theorem its_rng {G0 F0 : Hp} {σ0 : L2.St} (lo : Int) (n : Nat) : ItS (Itr lo n) G0 F0 ⟨rngD lo n, none⟩ σ0 := fun Φ F ρ σ H R _ S ok sl => by
  refine ⟨fun i d hd => ?_, fun i hi => ?_⟩
  · have hd : (rngD lo n)[i]? = some d := hd
    unfold rngD at hd
    rw [List.getElem?_map] at hd
    cases q : (List.range n)[i]? with
    | none => rw [q] at hd; cases hd
    | some k =>
      obtain ⟨hl, hk⟩ := List.getElem?_eq_some_iff.mp q
      rw [List.length_range] at hl
      rw [List.getElem_range] at hk
      rw [q] at hd
      cases hd
      refine ⟨hl, fun v H' hy => ?_⟩
      obtain ⟨rfl, rfl⟩ := hy
      exact ⟨F, R, Ext.refl Φ F, by rw [hk]; exact .int _⟩
  · have hi : (rngD lo n).length ≤ i := hi
    unfold rngD at hi
    rw [List.length_map, List.length_range] at hi
    exact hi
def fRng : List PyData → Option Itm
  | [.int j] => if j ≤ 16777216 ∧ -16777216 ≤ j then some ⟨rngD 0 j.toNat, none⟩ else none
  | _ => none
def fRng2 : List PyData → Option Itm
  | [.int i, .int j] => if (j ≤ 8000000 ∧ -8000000 ≤ j) ∧ (i ≤ 8000000 ∧ -8000000 ≤ i) then some ⟨rngD i (j - i).toNat, none⟩ else none
  | _ => none
def mRng (m : M (List Ag)) : M Itm := bnd (datA m) fun ds => lft (fRng ds)
def mRng2 (m : M (List Ag)) : M Itm := bnd (datA m) fun ds => lft (fRng2 ds)
theorem si_rng {t : TA} {m : M (List Ag)} (h : SA t m) : SI (iRng1 t) (mRng m) := fun Φ F ρ σ H R it ρ' R0 e q => by
  obtain ⟨ds, ρ1, e1, e2⟩ := bnd_some e
  obtain ⟨e3, rfl⟩ := lft_some e2
  refine sa_dat h R0 e1 fun vs F' H' R' X' k => ?_
  unfold fRng at e3
  split at e3
  · split at e3
    · rename_i j hj
      cases e3
      cases k with
      | cons ka kt =>
        cases kt
        cases ka
        refine ⟨j, rfl, by omega, by omega, q _ F' H' R' X' (its_rng 0 _) ?_⟩
        show (rngD 0 j.toNat).length ≤ _
        unfold rngD
        rw [List.length_map, List.length_range, sizeLine_is]
        omega
    · cases e3
  · cases e3
theorem si_rng2 {t : TA} {m : M (List Ag)} (h : SA t m) : SI (iRng2 t) (mRng2 m) := fun Φ F ρ σ H R it ρ' R0 e q => by
  obtain ⟨ds, ρ1, e1, e2⟩ := bnd_some e
  obtain ⟨e3, rfl⟩ := lft_some e2
  refine sa_dat h R0 e1 fun vs F' H' R' X' k => ?_
  unfold fRng2 at e3
  split at e3
  · split at e3
    · rename_i i j hj
      cases e3
      cases k with
      | cons ka kt => cases kt with
        | cons kb kt =>
          cases kt
          cases ka
          cases kb
          refine ⟨i, j, rfl, ⟨by omega, by omega, by omega, by omega⟩, q _ F' H' R' X' (its_rng i _) ?_⟩
          show (rngD i (j - i).toNat).length ≤ _
          unfold rngD
          rw [List.length_map, List.length_range, sizeLine_is]
          omega
    · cases e3
  · cases e3
theorem ei_rng {X : Cx} {tg a : Expr} {ta : TA} {m : M (List Ag)} {p pos : Pos} (hg : Gl X "range") (hm : X.mg "range" = none) (ha : EA X [a] ta m) (hs : starEach [a] X.env = [(false, eval a X.env)] := by rfl) : EI X tg (.Call (.Name "range" p) [a] [] pos) (iRng1 ta) (mRng m) := ⟨pi_range1 hg hm ha.pe hs, si_rng ha.se⟩
theorem ei_rng2 {X : Cx} {tg a b : Expr} {ta : TA} {m : M (List Ag)} {p pos : Pos} (hg : Gl X "range") (hm : X.mg "range" = none) (ha : EA X [a, b] ta m) (hs : starEach [a, b] X.env = [(false, eval a X.env), (false, eval b X.env)] := by rfl) (hs2 : starEach [b] X.env = [(false, eval b X.env)] := by rfl) : EI X tg (.Call (.Name "range" p) [a, b] [] pos) (iRng2 ta) (mRng2 m) := ⟨pi_range2 hg hm ha.pe hs hs2, si_rng2 ha.se⟩

/-! ### list comprehensions -/
open Classical in
noncomputable def lcM (it : Itm) (vs : List Nat) (tgt : PyData → Ro → Option Ro) (mc : M Bool) (me : M PyData) : List PyData → M (List PyData)
  | [] => fun ρ => if it.ok ρ then some ([], ρ) else none
  | x :: xs => fun ρ => if it.ok ρ then
      (match clrs vs ρ with
      | none => none
      | some ρw => match tgt x ρw with
        | none => none
        | some ρ1 => match mc ρ1 with
          | none => none
          | some (true, ρ2) => (match me ρ2 with
            | none => none
            | some (y, ρ3) => match lcM it vs tgt mc me xs (mrg vs ρ ρ3) with
              | none => none
              | some (ys, ρ4) => some (y :: ys, ρ4))
          | some (false, ρ2) => lcM it vs tgt mc me xs (mrg vs ρ ρ2)) else none
noncomputable def mLc (mi : M Itm) (vs : List Nat) (tgt : PyData → Ro → Option Ro) (mc : M Bool) (me : M PyData) : M Sl := bnd mi fun it => bnd (lcM it vs tgt mc me it.xs) fun ys => ret (.ol ys)
def Fx.tag (Φ : Fx) (D : Addr) (o : HO) : Fx := ⟨upd Φ.G D o, Φ.io⟩
def HO.nf : HO → Bool
  | .frz _ _ => false
  | .tbl _ => false
  | .ext _ => false
  | _ => true
theorem nf_last {o : HO} (h : HO.nf o = true) : lasting o = false := by cases o <;> first | rfl | cases h
theorem nf_ne {o : HO} (h : HO.nf o = true) {ob : Obj} {u : HO} : o ≠ .frz ob u := fun z => by subst z; cases h
theorem Rl.retag {Φ : Fx} {F H : Hp} {ρ : Ro} {σ : L2.St} {D : Addr} {o o' : HO} (R : Rl (Φ.tag D o) F ρ σ H) (hF : F D = none) (hn : HO.nf o = true) : Rl (Φ.tag D o') F ρ σ (upd H D o') := by
  have nd : ∀ l, (Φ.tag D o).G l = none → l ≠ D ∧ Φ.G l = none := fun l h => by
    have ne : l ≠ D := fun z => by
      subst z
      have h : upd Φ.G l o l = none := h
      rw [upd_same] at h; cases h
    have h : upd Φ.G D o l = none := h
    rw [upd_ne ne] at h
    exact ⟨ne, h⟩
  refine ⟨R.len, same_upd R.fs hF, fun b u h => ?_, R.bd, R.dat, fun i d h => ?_, fun i s h1 h2 => ?_, R.dj, R.io, R.tb.retag.1.kt (kt_upd (some_last (R.gs D o upd_same) (nf_last hn)))⟩
  · by_cases hb : b = D
    · subst hb
      have h : upd Φ.G b o' b = some u := h
      rw [upd_same] at h ⊢
      exact h
    · have h : upd Φ.G D o' b = some u := h
      rw [upd_ne hb] at h ⊢
      exact R.gs b u (show upd Φ.G D o b = some u by rw [upd_ne hb]; exact h)
  · obtain ⟨l, ob, ps, a, b, c⟩ := R.lk i d h
    have b : upd Φ.G D o l = some (.frz ob (.dK ps)) := b
    have ne : l ≠ D := fun z => by subst z; rw [upd_same] at b; exact nf_ne hn (Option.some.inj b)
    rw [upd_ne ne] at b
    exact ⟨l, ob, ps, a, show upd Φ.G D o' l = _ by rw [upd_ne ne]; exact b, c⟩
  · obtain ⟨l, ob, a, b, c, d, e⟩ := R.own i s h1 h2
    obtain ⟨ne, hg⟩ := nd l c
    exact ⟨l, ob, a, b, show upd Φ.G D o' l = none by rw [upd_ne ne]; exact hg, by rw [upd_ne ne]; exact d, e⟩
theorem Rl.tagged {Φ : Fx} {F H : Hp} {ρ : Ro} {σ : L2.St} {D : Addr} {o : HO} (R : Rl Φ F ρ σ H) (h : H D = none) : Rl (Φ.tag D o) F ρ σ (upd H D o) := by
  have fr := R.fresh h
  refine ⟨R.len, same_upd R.fs fr.1, same_upd2 R.gs, R.bd, R.dat, fun i d h => ?_, fun i s h1 h2 => ?_, R.dj, R.io, (R.tb.tag (none_last h)).kt (kt_upd (none_last h))⟩
  · obtain ⟨l, ob, ps, a, b, c⟩ := R.lk i d h
    have ne : l ≠ D := fun z => by subst z; rw [fr.2.1] at b; cases b
    exact ⟨l, ob, ps, a, show upd Φ.G D o l = _ by rw [upd_ne ne]; exact b, c⟩
  obtain ⟨l, ob, a, b, c, d, e⟩ := R.own i s h1 h2
  have ne : l ≠ D := fun z => fr.2.2 i s h1 h2 (z ▸ a)
  exact ⟨l, ob, a, b, show upd Φ.G D o l = none by rw [upd_ne ne]; exact c, by rw [upd_ne ne]; exact d, e⟩
theorem Rl.untag {Φ : Fx} {F H : Hp} {ρ : Ro} {σ : L2.St} {D : Addr} {o : HO} (R : Rl (Φ.tag D o) F ρ σ H) (hG : Φ.G D = none) (hn : HO.nf o = true) : Rl Φ F ρ σ H ∧ (F D = none → Fresh Φ F ρ σ D) := by
  have nd : ∀ l, (Φ.tag D o).G l = none → l ≠ D ∧ Φ.G l = none := fun l h => by
    have ne : l ≠ D := fun z => by
      subst z
      have h : upd Φ.G l o l = none := h
      rw [upd_same] at h; cases h
    have h : upd Φ.G D o l = none := h
    rw [upd_ne ne] at h
    exact ⟨ne, h⟩
  refine ⟨⟨R.len, R.fs, fun b u h => R.gs b u ?_, R.bd, R.dat, fun i d h => ?_, fun i s h1 h2 => ?_, R.dj, R.io, R.tb.retag (o' := o).2⟩, fun hF => ⟨hF, hG, fun j s h1 h2 h3 => ?_⟩⟩
  · have ne : b ≠ D := fun z => by subst z; rw [hG] at h; cases h
    show upd Φ.G D o b = some u
    rw [upd_ne ne]; exact h
  · obtain ⟨l, ob, ps, a, b, c⟩ := R.lk i d h
    have b : upd Φ.G D o l = some (.frz ob (.dK ps)) := b
    have ne : l ≠ D := fun z => by subst z; rw [upd_same] at b; exact nf_ne hn (Option.some.inj b)
    rw [upd_ne ne] at b
    exact ⟨l, ob, ps, a, b, c⟩
  · obtain ⟨l, ob, a, b, c, d, e⟩ := R.own i s h1 h2
    exact ⟨l, ob, a, b, (nd l c).2, d, e⟩
  · obtain ⟨l, ob, a, b, c, d, e⟩ := R.own j s h1 h2
    rw [h3] at a
    injection a with a; injection a with a; injection a with a
    exact (nd l c).1 a.symm
theorem ext_untag {Φ : Fx} {F F' : Hp} {D : Addr} {o : HO} (h : Ext (Φ.tag D o) F F') (hG : Φ.G D = none) : Ext Φ F F' ∧ F' D = F D := by
  refine ⟨⟨h.1, fun b u e => h.2 b u ?_⟩, h.2 D o upd_same⟩
  have ne : b ≠ D := fun z => by subst z; rw [hG] at e; cases e
  show upd Φ.G D o b = some u
  rw [upd_ne ne]; exact e
theorem so_lc {wi : TI} {mi : M Itm} {vs gs : List Nat} {g : TG} {tgt : PyData → Ro → Option Ro} {tt : TT} {mc : M Bool} {te : TE} {me : M PyData} (hi : SI wi mi) (hg : SG gs g tgt) (hsub : ∀ i ∈ gs, i ∈ vs) (ht : STt tt mc) (he : SE te me) : SO (tLc wi g tt te vs) (mLc mi vs tgt mc me) := fun Φ F ρ σ H Q s ρ' R e q => by
  obtain ⟨it, ρ0, e1, e2⟩ := bnd_some e
  obtain ⟨ys, ρ9, e3, e4⟩ := bnd_some e2
  obtain ⟨rfl, rfl⟩ := ret_some e4
  refine hi Φ F ρ σ H _ it ρ0 R e1 fun J F0 H0 R0 X0 S0 hz D hD => ?_
  have gD : Φ.G D = none := none_of_same R0.gs hD
  have fD : F0 D = none := none_of_same R0.fs hD
  refine ⟨fun i n H => n = it.xs.length - i ∧ i ≤ it.xs.length ∧ ∃ F1 ρ1 acc done rest, Rl (Φ.tag D (.lst acc)) F1 ρ1 σ H ∧ Ext Φ F0 F1 ∧ F1 D = none ∧ DnA F1 acc done ∧ acc.length ≤ i ∧ lcM it vs tgt mc me (it.xs.drop i) ρ1 = some (rest, ρ') ∧ ys = done ++ rest,
    ⟨it.xs.length, rfl, Nat.zero_le _, F0, ρ0, [], [], ys, R0.tagged hD, Ext.refl Φ F0, fD, .nil, Nat.zero_le _, by rw [List.drop_zero]; exact e3, rfl⟩, ?_⟩
  rintro i n H1 ⟨rfl, hil, F1, ρ1, acc, done, rest, R1, X1, f1, da, hal, hl, rfl⟩
  have HD : H1 D = some (.lst acc) := R1.gs D _ upd_same
  by_cases hlt : i < it.xs.length
  · obtain ⟨x, hx⟩ : ∃ x, it.xs[i]? = some x := ⟨_, List.getElem?_eq_getElem hlt⟩
    rw [List.drop_eq_getElem_cons hlt] at hl
    have hxe : it.xs[i] = x := by rw [List.getElem?_eq_getElem hlt] at hx; exact Option.some.inj hx
    rw [hxe] at hl
    simp only [lcM] at hl
    split at hl
    · rename_i hok
      have S1 := S0 (Φ.tag D (.lst acc)) F1 ρ1 σ H1 R1 (same_upd (Same.refl Φ.G) gD) X1.1 hok (fun _ _ => rfl)
      obtain ⟨hgo, hyl⟩ := S1.1 i x hx
      refine .inr ⟨hgo, fun H' => i + 1 ≤ it.xs.length ∧ ∃ F2 ρ2 acc2 done2 rest2, Rl (Φ.tag D (.lst acc2)) F2 ρ2 σ H' ∧ Ext Φ F0 F2 ∧ F2 D = none ∧ DnA F2 acc2 done2 ∧ acc2.length ≤ i + 1 ∧ lcM it vs tgt mc me (it.xs.drop (i + 1)) ρ2 = some (rest2, ρ') ∧ done ++ rest = done2 ++ rest2,
        fun H' h => ⟨it.xs.length - (i + 1), by omega, rfl, h⟩, fun v H' hy => ?_⟩
      obtain ⟨F2, R2, X2, dn⟩ := hyl v H' hy
      split at hl
      · cases hl
      · rename_i ρw hw
        split at hl
        · cases hl
        · rename_i ρt htg
          have Rw := R2.clrs hw
          refine hg _ F2 ρw (wipe σ vs) H' v x ρt _ Rw dn htg fun σ2 Rt wp => ⟨(wp vs hsub).trans wipe_wipe, ?_⟩
          have ws : wipe σ2 vs = wipe σ vs := (wp vs hsub).trans wipe_wipe
          split at hl
          · cases hl
          · rename_i ρ2 hc
            refine ht _ F2 ρt σ2 H' _ true ρ2 Rt hc fun F3 H3 R3 X3 => ?_
            split at hl
            · cases hl
            · rename_i y ρ3 hy3
              split at hl
              · cases hl
              · rename_i ys' ρ4 hr
                cases hl
                rw [if_pos rfl]
                refine he _ F3 ρ2 σ2 H3 _ y ρ3 R3 hy3 fun u F4 H4 R4 X4 dy => ?_
                have XX := X2.trans (X3.trans X4)
                obtain ⟨XU, fD4⟩ := ext_untag XX gD
                rw [f1] at fD4
                have RB := R1.back hw R4 ws XX.1
                have HD4 : H4 D = some (.lst acc) := R4.gs D _ upd_same
                refine ⟨acc, HD4, ?_, by omega, F4, _, acc ++ [u], done ++ [y], ys', RB.retag fD4 rfl, X1.trans XU, fD4, (da.mono XX.1).append (.cons dy .nil), by rw [List.length_append]; simp; omega, hr, by simp⟩
                have : acc.length < it.xs.length := by omega
                omega
          · rename_i ρ2 hc
            refine ht _ F2 ρt σ2 H' _ false ρ2 Rt hc fun F3 H3 R3 X3 => ?_
            rw [if_neg (by decide)]
            have XX := X2.trans X3
            obtain ⟨XU, fD4⟩ := ext_untag XX gD
            rw [f1] at fD4
            have RB := R1.back hw R3 ws XX.1
            exact ⟨by omega, F3, _, acc, done, rest, RB, X1.trans XU, fD4, da.mono XX.1, by omega, hl, rfl⟩
    · cases hl
  · have ei : i = it.xs.length := by omega
    subst ei
    rw [List.drop_length] at hl
    simp only [lcM] at hl
    split at hl
    · rename_i hok
      cases hl
      have S1 := S0 (Φ.tag D (.lst acc)) F1 _ σ H1 R1 (same_upd (Same.refl Φ.G) gD) X1.1 hok (fun _ _ => rfl)
      obtain ⟨RU, fr⟩ := R1.untag gD rfl
      refine .inl ⟨S1.2 _ (Nat.le_refl _), ?_⟩
      rw [List.append_nil] at q
      exact q D (.lst acc) F1 H1 RU (X0.trans X1) (fr f1) HD (.ol (by omega) da) rfl
    · cases hl
theorem eo_lc {X : Cx} {elt tg iter : Expr} {ifs : List Expr} {scope : Scope} {own : List (Str × Nat)} {pos : Pos} {wi : TI} {mi : M Itm} {gs : List Nat} {g : TG} {tgt : PyData → Ro → Option Ro} {tt : TT} {mc : M Bool} {te : TE} {me : M PyData} (hc : X.calm = true) (hN : X.N.Nodup) (hi : EI X tg iter wi mi) (ok : BlkOk X.N X.env.scope scope own) (hsub : ∀ i ∈ gs, i ∈ own.map (·.2))
    (hg : ∀ (s : Shared) (H : Hp) (C : Addr) (cl : List (Str × Addr)) (fp : List Addr), EG (X.blk s H scope (compEnvC scope cl C X.env) fp) tg gs g tgt) (ht : ∀ (s : Shared) (H : Hp) (C : Addr) (cl : List (Str × Addr)) (fp : List Addr), PTs (X.blk s H scope (compEnvC scope cl C X.env) fp) ifs tt ∧ STt tt mc)
    (he : ∀ (s : Shared) (H : Hp) (C : Addr) (cl : List (Str × Addr)) (fp : List Addr), EV (X.blk s H scope (compEnvC scope cl C X.env) fp) elt te me) (hs : ∀ x, foldedSetIterable iter X.env x = pure x := by intro _; rfl)
    (s0 : Shared) (c0 : Addr) : EO X (.ListComp elt [⟨tg, iter, ifs, 0⟩] scope pos) (tLc wi g tt te (own.map (·.2))) (mLc mi (own.map (·.2)) tgt mc me) :=
  ⟨pe_lc hc hN hi.pe ok (fun s H C cl fp => (hg s H C cl fp).pe) (fun s H C cl fp => (ht s H C cl fp).1) (fun s H C cl fp => (he s H C cl fp).pe) hs, so_lc hi.se (hg s0 (fun _ => none) c0 [] []).se hsub (ht s0 (fun _ => none) c0 [] []).2 (he s0 (fun _ => none) c0 [] []).se⟩
end DL
end
section
/-! statements, defs, calls -/
namespace DL
open PySem PySem.Spec PyProof.Rows L2
variable [Tbs]

inductive Out where
  | nx
  | rt (d : PyData)
  | ro (s : Sl)
  | bk
  | ct
abbrev S := Ro → Option (Out × Ro)
def EndOk (Φ : Fx) (F : Hp) (D : Ends) (ρ' : Ro) : Out → Prop
  | .nx => ∀ F' σ' H', Rl Φ F' ρ' σ' H' → Ext Φ F F' → D.nx σ' H'
  | .rt d => ∀ v F' σ' H', Rl Φ F' ρ' σ' H' → Ext Φ F F' → Dn F' v d → D.rt v H'
  | .ro s => ∀ p o F' σ' H', Rl Φ F' ρ' σ' H' → Ext Φ F F' → Fresh Φ F' ρ' σ' p → H' p = some o → Cn F' o s → s.isBr = false → D.rt (.ref p) H'
  | .bk => ∀ F' σ' H', Rl Φ F' ρ' σ' H' → Ext Φ F F' → D.bk σ' H'
  | .ct => ∀ F' σ' H', Rl Φ F' ρ' σ' H' → Ext Φ F F' → D.ct σ' H'
theorem EndOk.ext {Φ : Fx} {F F1 : Hp} {D : Ends} {ρ' : Ro} {o : Out} (h : EndOk Φ F D ρ' o) (x : Ext Φ F F1) : EndOk Φ F1 D ρ' o := by
  cases o with
  | nx => exact fun F' σ' H' R X => h F' σ' H' R (x.trans X)
  | rt d => exact fun v F' σ' H' R X k => h v F' σ' H' R (x.trans X) k
  | ro s => exact fun p o F' σ' H' R X a b c d => h p o F' σ' H' R (x.trans X) a b c d
  | bk => exact fun F' σ' H' R X => h F' σ' H' R (x.trans X)
  | ct => exact fun F' σ' H' R X => h F' σ' H' R (x.trans X)
def SS (t : TS) (m : S) : Prop := ∀ (Φ : Fx) (F : Hp) (ρ : Ro) (σ : L2.St) (H : Hp) (D : Ends) (o : Out) (ρ' : Ro), Rl Φ F ρ σ H → m ρ = some (o, ρ') → EndOk Φ F D ρ' o → t D σ H
structure ES (X : Cx) (st : Stmt) (t : TS) (m : S) : Prop where
  pe : PS X st t
  se : SS t m
structure EB (X : Cx) (st : List Stmt) (t : TS) (m : S) : Prop where
  pe : PSs X st t
  se : SS t m

/-! ### blocks -/
def sNx : S := fun ρ => some (.nx, ρ)
def sSeq (m k : S) : S := fun ρ => match m ρ with
  | none => none
  | some (.nx, ρ') => k ρ'
  | some (o, ρ') => some (o, ρ')
theorem ss_nil : SS tNext sNx := fun Φ F ρ σ H D o ρ' R e q => by
  cases e
  exact q F σ H R (Ext.refl Φ F)
theorem ss_seq {t u : TS} {m k : S} (h : SS t m) (h2 : SS u k) : SS (tSeq t u) (sSeq m k) := fun Φ F ρ σ H D o ρ' R e q => by
  simp only [sSeq] at e
  split at e
  · cases e
  · rename_i ρ1 e1
    exact h Φ F ρ σ H _ .nx ρ1 R e1 fun F1 σ1 H1 R1 X1 => h2 Φ F1 ρ1 σ1 H1 D o ρ' R1 e (q.ext X1)
  · rename_i o1 ρ1 hn e1
    cases e
    refine h Φ F ρ σ H _ o ρ' R e1 ?_
    cases o with
    | nx => exact (hn rfl).elim
    | _ => exact q
section
variable {X : Cx} {st : Stmt} {rest : List Stmt} {pos : Pos}
theorem eb_nil : EB X [] tNext sNx := ⟨pss_nil, ss_nil⟩
theorem eb_cons {t u : TS} {m k : S} (h : ES X st t m) (h2 : EB X rest u k) : EB X (st :: rest) (tSeq t u) (sSeq m k) := ⟨pss_cons h.pe h2.pe, ss_seq h.se h2.se⟩
theorem eb_one {t : TS} {m : S} (h : ES X st t m) : EB X [st] t m := ⟨pss_one h.pe, h.se⟩
/-- what is not gone -/
def sNever : S := fun _ => none
theorem ss_never {t : TS} : SS t sNever := fun Φ F ρ σ H D o ρ' R e q => by cases e
theorem es_never : ES X st tNever sNever := ⟨ps_never, ss_never⟩
theorem eb_never {sts : List Stmt} : EB X sts tNever sNever := ⟨pss_never, ss_never⟩
theorem es_pass : ES X (.Pass pos) tNext sNx := ⟨ps_pass, ss_nil⟩
def sBk : S := fun ρ => some (.bk, ρ)
def sCt : S := fun ρ => some (.ct, ρ)
theorem es_break : ES X (.Break pos) tBreak sBk := ⟨ps_break, fun Φ F ρ σ H D o ρ' R e q => by cases e; exact q F σ H R (Ext.refl Φ F)⟩
theorem es_continue : ES X (.Continue pos) tCont sCt := ⟨ps_continue, fun Φ F ρ σ H D o ρ' R e q => by cases e; exact q F σ H R (Ext.refl Φ F)⟩
/-- return -/
def sRet (m : M PyData) : S := fun ρ => match m ρ with
  | none => none
  | some (d, ρ') => some (.rt d, ρ')
def sRetO (m : M Sl) : S := fun ρ => match m ρ with
  | none => none
  | some (s, ρ') => some (.ro s, ρ')
theorem ss_ret {t : TE} {m : M PyData} (h : SE t m) : SS (tRet t) (sRet m) := fun Φ F ρ σ H D o ρ' R e q => by
  simp only [sRet] at e
  split at e
  · cases e
  · rename_i d ρ1 e1
    cases e
    exact h Φ F ρ σ H _ d _ R e1 fun v F' H' R' X' k => q v F' σ H' R' X' k
theorem ss_retO {t : TE} {m : M Sl} (h : SO t m) : SS (tRet t) (sRetO m) := fun Φ F ρ σ H D o ρ' R e q => by
  simp only [sRetO] at e
  split at e
  · cases e
  · rename_i d ρ1 e1
    cases e
    exact h Φ F ρ σ H _ d _ R e1 fun p o F' H' R' X' a b c dd => q p o F' σ H' R' X' a b c dd
theorem es_ret {e : Expr} {t : TE} {m : M PyData} (h : EV X e t m) : ES X (.Return (some e) pos) (tRet t) (sRet m) := ⟨ps_ret h.pe, ss_ret h.se⟩
theorem es_retO {e : Expr} {t : TE} {m : M Sl} (h : EO X e t m) : ES X (.Return (some e) pos) (tRet t) (sRetO m) := ⟨ps_ret h.pe, ss_retO h.se⟩
/-- an expression by itself -/
def sDrop (m : M PyData) : S := fun ρ => match m ρ with
  | none => none
  | some (_, ρ') => some (.nx, ρ')
theorem ss_drop {t : TE} {m : M PyData} (h : SE t m) : SS (tDrop t) (sDrop m) := fun Φ F ρ σ H D o ρ' R e q => by
  simp only [sDrop] at e
  split at e
  · cases e
  · rename_i d ρ1 e1
    cases e
    exact h Φ F ρ σ H _ d _ R e1 fun v F' H' R' X' k => q F' σ H' R' X'
theorem es_expr {e : Expr} {t : TE} {m : M PyData} (h : EV X e t m) (hs : swapsWith e none pos.line X.env = pure false := by rfl) : ES X (.Expr e pos) (tDrop t) (sDrop m) := ⟨ps_expr h.pe hs, ss_drop h.se⟩
/-- if -/
def sIf (c : M Bool) (m k : S) : S := fun ρ => match c ρ with
  | none => none
  | some (true, ρ') => m ρ'
  | some (false, ρ') => k ρ'
theorem ss_if {c : TT} {t u : TS} {mc : M Bool} {m k : S} (hc : STt c mc) (h : SS t m) (h2 : SS u k) : SS (tIfS c t u) (sIf mc m k) := fun Φ F ρ σ H D o ρ' R e q => by
  simp only [sIf] at e
  split at e
  · cases e
  · rename_i ρ1 e1
    exact hc Φ F ρ σ H _ true ρ1 R e1 fun F' H' R' X' => h Φ F' ρ1 σ H' D o ρ' R' e (q.ext X')
  · rename_i ρ1 e1
    exact hc Φ F ρ σ H _ false ρ1 R e1 fun F' H' R' X' => h2 Φ F' ρ1 σ H' D o ρ' R' e (q.ext X')
theorem es_if {c : Expr} {a b : List Stmt} {tc : TT} {t u : TS} {mc : M Bool} {m k : S} (hc : ET X c tc mc) (h : EB X a t m) (h2 : EB X b u k) : ES X (.If c a b pos) (tIfS tc t u) (sIf mc m k) := ⟨ps_if hc.pe h.pe h2.pe, ss_if hc.se h.se h2.se⟩
end

/-! ### assignments -/
/-- data, or a fresh object of one's own -/
inductive Rv where
  | v (d : PyData)
  | f (s : Sl)
def RvOk (Φ : Fx) (F : Hp) (ρ : Ro) (σ : L2.St) (H : Hp) (v : V) : Rv → Prop
  | .v d => Dn F v d
  | .f s => ∃ p o, v = .ref p ∧ Fresh Φ F ρ σ p ∧ H p = some o ∧ Cn F o s ∧ s.isBr = false
def SR (t : TE) (m : M Rv) : Prop := ∀ (Φ : Fx) (F : Hp) (ρ : Ro) (σ : L2.St) (H : Hp) (Q : VK) (a : Rv) (ρ' : Ro), Rl Φ F ρ σ H → m ρ = some (a, ρ') →
  (∀ v F' H', Rl Φ F' ρ' σ H' → Ext Φ F F' → RvOk Φ F' ρ' σ H' v a → Q v H') → t σ H Q
structure ER (X : Cx) (e : Expr) (t : TE) (m : M Rv) : Prop where
  pe : PE X e t
  se : SR t m
def rvD (m : M PyData) : M Rv := bnd m fun d => ret (.v d)
def rvO (m : M Sl) : M Rv := bnd m fun d => ret (.f d)
theorem EV.er {X : Cx} {e : Expr} {t : TE} {m : M PyData} (h : EV X e t m) : ER X e t (rvD m) := ⟨h.pe, fun Φ F ρ σ H Q a ρ' R e q => by
  obtain ⟨d, ρ1, e1, e2⟩ := bnd_some e
  obtain ⟨rfl, rfl⟩ := ret_some e2
  exact h.se Φ F ρ σ H Q d _ R e1 q⟩
theorem EO.er {X : Cx} {e : Expr} {t : TE} {m : M Sl} (h : EO X e t m) : ER X e t (rvO m) := ⟨h.pe, fun Φ F ρ σ H Q a ρ' R e q => by
  obtain ⟨d, ρ1, e1, e2⟩ := bnd_some e
  obtain ⟨rfl, rfl⟩ := ret_some e2
  exact h.se Φ F ρ σ H Q d _ R e1 fun p o F' H' R' X' fr hp hc hb => q _ F' H' R' X' ⟨p, o, rfl, fr, hp, hc, hb⟩⟩
def stR (i : Nat) (a : Rv) (ρ : Ro) : Option Ro := match a with
  | .v d => stN i d ρ
  | .f s => (match ρ[i]? with
    | some t => if t.isBr = true then none else some (ρ.set i s)
    | none => none)
theorem Rl.stR {Φ : Fx} {F H : Hp} {ρ ρ' : Ro} {σ : L2.St} {i : Nat} {a : Rv} {v : V} (R : Rl Φ F ρ σ H) (k : RvOk Φ F ρ σ H v a) (e : DL.stR i a ρ = some ρ') : Rl Φ F ρ' (σ.set i (some v)) H := by
  cases a with
  | v d =>
    simp only [DL.stR, stN] at e
    split at e
    · rename_i s hs
      split at e
      · cases e
      · rename_i hb
        cases e
        exact R.store k hs (by cases h : s.isBr <;> first | rfl | exact absurd h hb)
    · cases e
  | f s =>
    simp only [DL.stR] at e
    split at e
    · rename_i t ht
      split at e
      · cases e
      · rename_i hb
        cases e
        obtain ⟨p, o, rfl, fr, hp, hc, hbr⟩ := k
        exact R.storeOwn fr hp hc hbr ht (by cases h : t.isBr <;> first | rfl | exact absurd h hb)
    · cases e
def sSet (i : Nat) (m : M Rv) : S := fun ρ => match m ρ with
  | none => none
  | some (a, ρ1) => match stR i a ρ1 with
    | none => none
    | some ρ2 => some (.nx, ρ2)
theorem ss_set {i : Nat} {t : TE} {m : M Rv} (h : SR t m) : SS (tAsg t (gName i)) (sSet i m) := fun Φ F ρ σ H D o ρ' R e q => by
  simp only [sSet] at e
  split at e
  · cases e
  · rename_i a ρ1 e1
    split at e
    · cases e
    · rename_i ρ2 e2
      cases e
      exact h Φ F ρ σ H _ a ρ1 R e1 fun v F' H' R' X' k => q F' _ H' (R'.stR k e2) X'
section
variable {X : Cx} {pos pos' : Pos} {e : Expr}
theorem es_set (i : Nat) {x : Str} {t : TE} {m : M Rv} (hN : X.N.Nodup) (h : ER X e t m) (hi : X.N[i]? = some x := by rfl) (hx : Loc X.env.scope x := by first | exact Or.inl rfl | exact Or.inr rfl) (hs : swapsWith e (some (.Name x pos')) pos.line X.env = pure false := by rfl) (hf : X.fn x = true ∨ X.env.scope.names.lookup x = some .local := by first | exact .inl rfl | exact .inr rfl | assumption) :
    ES X (.Assign [.Name x pos'] e pos) (tAsg t (gName i)) (sSet i m) := ⟨ps_set hN hi hx h.pe hs hf, ss_set h.se⟩
/-- name = [.. for ..] on one line -/
theorem es_setLc (i : Nat) {y : Str} {py : Pos} {elt tg iter : Expr} {ifs : List Expr} {scope : Scope} {own : List (Str × Nat)} {pos spos : Pos} {wi : TI} {mi : M Itm} {gs : List Nat} {g : TG} {tgt : PyData → Ro → Option Ro} {tt : TT} {mc : M Bool} {te : TE} {me : M PyData} (hc : X.calm = true) (hN : X.N.Nodup) (hi : EI X tg iter wi mi) (ok : BlkOk X.N X.env.scope scope own) (hsub : ∀ i ∈ gs, i ∈ own.map (·.2))
    (hg : ∀ (s : Shared) (H : Hp) (C : Addr) (cl : List (Str × Addr)) (fp : List Addr), EG (X.blk s H scope (compEnvC scope cl C X.env) fp) tg gs g tgt) (ht : ∀ (s : Shared) (H : Hp) (C : Addr) (cl : List (Str × Addr)) (fp : List Addr), PTs (X.blk s H scope (compEnvC scope cl C X.env) fp) ifs tt ∧ STt tt mc)
    (he : ∀ (s : Shared) (H : Hp) (C : Addr) (cl : List (Str × Addr)) (fp : List Addr), EV (X.blk s H scope (compEnvC scope cl C X.env) fp) elt te me) (s0 : Shared) (c0 : Addr)
    (hy : X.N[i]? = some y := by rfl) (hyl : X.env.scope.names.lookup y = some .local := by rfl) (hsw : swapsWith (.ListComp elt [⟨tg, iter, ifs, 0⟩] scope pos) (some (.Name y py)) spos.line X.env = pure true := by exact sw_true rfl rfl rfl (by decide +kernel)) (hs : ∀ x, foldedSetIterable iter X.env x = pure x := by intro _; rfl) :
    ES X (.Assign [.Name y py] (.ListComp elt [⟨tg, iter, ifs, 0⟩] scope pos) spos) (tAsg (tLc wi g tt te (own.map (·.2))) (gName i)) (sSet i (rvO (mLc mi (own.map (·.2)) tgt mc me))) :=
  ⟨ps_setLc hc hN hy hyl hsw hi.pe ok (fun s H C cl fp => (hg s H C cl fp).pe) (fun s H C cl fp => (ht s H C cl fp).1) (fun s H C cl fp => (he s H C cl fp).pe) hs,
    ss_set (EO.er (X := X) (e := .ListComp elt [⟨tg, iter, ifs, 0⟩] scope pos) (eo_lc hc hN hi ok hsub hg ht he hs s0 c0)).se⟩
/-- a, b = e, the value a tuple of data -/
def sTgt (m : M PyData) (tgt : PyData → Ro → Option Ro) : S := fun ρ => match m ρ with
  | none => none
  | some (d, ρ1) => match tgt d ρ1 with
    | none => none
    | some ρ2 => some (.nx, ρ2)
theorem ss_tgt {gs : List Nat} {g : TG} {tgt : PyData → Ro → Option Ro} {t : TE} {m : M PyData} (h : SE t m) (hg : SG gs g tgt) : SS (tAsg t g) (sTgt m tgt) := fun Φ F ρ σ H D o ρ' R e q => by
  simp only [sTgt] at e
  split at e
  · cases e
  · rename_i d ρ1 e1
    split at e
    · cases e
    · rename_i ρ2 e2
      cases e
      exact h Φ F ρ σ H _ d ρ1 R e1 fun v F' H' R' X' k => hg Φ F' ρ1 σ H' v d _ _ R' k e2 fun σ' Rs _ => q F' σ' H' Rs X'
theorem es_tgt {tg : Expr} {gs : List Nat} {g : TG} {tgt : PyData → Ro → Option Ro} {t : TE} {m : M PyData} (h : EV X e t m) (hg : EG X tg gs g tgt) (hs : swapsWithSole [tg] e pos.line X.env = pure false := by rfl) (hw : swappedStores [tg] e X.env = pure none := by rfl)
    (h1 : (assignEach [tg] X.env).map (·.2) = [assign tg X.env] := by rfl) : ES X (.Assign [tg] e pos) (tAsg t g) (sTgt m tgt) := ⟨ps_asg h.pe hg.pe hs hw h1, ss_tgt h.se hg.se⟩
/-- a, b = x, y -/
def sPar (i j : Nat) (m k : M Rv) : S := fun ρ => match m ρ with
  | none => none
  | some (a, ρ1) => match k ρ1 with
    | none => none
    | some (b, ρ2) => match stR i a ρ2 with
      | none => none
      | some ρ3 => match stR j b ρ3 with
        | none => none
        | some ρ4 => some (.nx, ρ4)
end
/-- what is in hand stays in hand while something is reckoned -/
theorem SR.under {t : TE} {m : M Rv} (h : SR t m) {Φ : Fx} {F H : Hp} {ρ ρ' : Ro} {σ : L2.St} {Q : VK} {a b : Rv} {u : V} (R : Rl Φ F ρ σ H) (k : RvOk Φ F ρ σ H u b) (e : m ρ = some (a, ρ'))
    (q : ∀ v F' H', Rl Φ F' ρ' σ H' → Ext Φ F F' → RvOk Φ F' ρ' σ H' v a → RvOk Φ F' ρ' σ H' u b → (∀ p, v = .ref p → u = .ref p → (∃ s, a = .f s) → (∃ s, b = .f s) → False) → Q v H') : t σ H Q := by
  cases b with
  | v d =>
    exact h Φ F ρ σ H Q a ρ' R e fun v F' H' R' X' k' => q v F' H' R' X' k' (Dn.mono X'.1 k) fun p _ _ _ ⟨s, hs⟩ => by cases hs
  | f s =>
    obtain ⟨p, o, rfl, fr, hp, hc, hb⟩ := k
    have ne : ∀ l (i : Nat) (t : Sl), ρ[i]? = some t → t.own = true → σ[i]? = some (some (.ref l)) → l ≠ p := fun l i t h1 h2 h3 z => fr.2.2 i t h1 h2 (z ▸ h3)
    have RT : Rl (Φ.tag p o) F ρ σ H := by
      refine ⟨R.len, R.fs, fun b u h => ?_, R.bd, R.dat, fun i d h => ?_, fun i t h1 h2 => ?_, R.dj, R.io, R.tb.tag (some_last hp hc.last)⟩
      · have h : upd Φ.G p o b = some u := h
        by_cases hb : b = p
        · subst hb; rw [upd_same] at h; rw [hp]; exact h
        · rw [upd_ne hb] at h; exact R.gs b u h
      · obtain ⟨l, ob, ps, a1, b1, c1⟩ := R.lk i d h
        have ne' : l ≠ p := fun z => by subst z; rw [fr.2.1] at b1; cases b1
        exact ⟨l, ob, ps, a1, show upd Φ.G p o l = _ by rw [upd_ne ne']; exact b1, c1⟩
      · obtain ⟨l, ob, a1, b1, c1, d1, e1⟩ := R.own i t h1 h2
        exact ⟨l, ob, a1, b1, show upd Φ.G p o l = none by rw [upd_ne (ne l i t h1 h2 a1)]; exact c1, d1, e1⟩
    refine h (Φ.tag p o) F ρ σ H Q a ρ' RT e fun v F' H' R' X' k' => ?_
    obtain ⟨XU, fp⟩ := ext_untag X' fr.2.1
    obtain ⟨RU, frU⟩ := R'.untag fr.2.1 (by cases hc <;> rfl)
    have hp' : H' p = some o := R'.gs p _ upd_same
    have fp0 : F' p = none := fp.trans fr.1
    have kb : RvOk Φ F' ρ' σ H' (.ref p) (.f s) := ⟨p, o, rfl, frU fp0, hp', hc.mono XU.1, hb⟩
    cases a with
    | v d => exact q v F' H' RU XU k' kb fun p _ _ ⟨s, hs⟩ _ => by cases hs
    | f s' =>
      obtain ⟨p2, o2, rfl, fr2, hp2, hc2, hb2⟩ := k'
      have np : p2 ≠ p := fun z => by
        have g : upd Φ.G p o p2 = none := fr2.2.1
        rw [z, upd_same] at g; cases g
      have g2 : Φ.G p2 = none := by
        have g : upd Φ.G p o p2 = none := fr2.2.1
        rw [upd_ne np] at g; exact g
      exact q _ F' H' RU XU ⟨p2, o2, rfl, ⟨fr2.1, g2, fr2.2.2⟩, hp2, hc2, hb2⟩ kb fun p' z1 z2 _ _ => by
        cases z1; cases z2; exact np rfl
theorem RvOk.after {Φ : Fx} {F H : Hp} {ρ ρ' : Ro} {σ : L2.St} {i : Nat} {a b : Rv} {v u : V} (R : Rl Φ F ρ σ H) (k : RvOk Φ F ρ σ H v a) (k2 : RvOk Φ F ρ σ H u b) (e : DL.stR i a ρ = some ρ') (hd : ∀ p, v = .ref p → u = .ref p → (∃ s, a = .f s) → (∃ s, b = .f s) → False) : RvOk Φ F ρ' (σ.set i (some v)) H u b := by
  cases b with
  | v d => exact k2
  | f s =>
    obtain ⟨p, o, rfl, fr, hp, hc, hb⟩ := k2
    refine ⟨p, o, rfl, ⟨fr.1, fr.2.1, fun j t h1 h2 h3 => ?_⟩, hp, hc, hb⟩
    have il : ∀ {s}, ρ[i]? = some s → i < ρ.length := fun h => (List.getElem?_eq_some_iff.mp h).1
    cases a with
    | v d =>
      simp only [DL.stR, stN] at e
      split at e
      · rename_i s0 hs
        split at e
        · cases e
        · cases e
          by_cases hj : i = j
          · subst hj
            rw [List.getElem?_set_self (il hs)] at h1
            cases h1; cases h2
          · rw [List.getElem?_set_ne hj] at h1 h3
            exact fr.2.2 j t h1 h2 h3
      · cases e
    | f s' =>
      simp only [DL.stR] at e
      split at e
      · rename_i s0 hs
        split at e
        · cases e
        · cases e
          by_cases hj : i = j
          · subst hj
            rw [List.getElem?_set_self (by rw [R.len]; exact il hs)] at h3
            injection h3 with h3; injection h3 with h3
            exact hd p h3 rfl ⟨_, rfl⟩ ⟨_, rfl⟩
          · rw [List.getElem?_set_ne hj] at h1 h3
            exact fr.2.2 j t h1 h2 h3
      · cases e
section
variable {X : Cx} {pos pos' : Pos} {e : Expr}
theorem ss_par {i j : Nat} {ta tb : TE} {m k : M Rv} (h : SR ta m) (h2 : SR tb k) : SS (tPar i j (tCons ta (tCons tb tNil))) (sPar i j m k) := fun Φ F ρ σ H D o ρ' R e q => by
  simp only [sPar] at e
  split at e
  · cases e
  · rename_i a ρ1 e1
    split at e
    · cases e
    · rename_i b ρ2 e2
      split at e
      · cases e
      · rename_i ρ3 e3
        split at e
        · cases e
        · rename_i ρ4 e4
          cases e
          refine h Φ F ρ σ H _ a ρ1 R e1 fun v F1 H1 R1 X1 k1 => ?_
          refine h2.under R1 k1 e2 fun u F2 H2 R2 X2 kb ka hd => ⟨v, u, rfl, ?_⟩
          have R3 := R2.stR ka e3
          have kb' := RvOk.after R2 ka kb e3 fun p z1 z2 z3 z4 => hd p z2 z1 z4 z3
          exact q F2 _ H2 (R3.stR kb' e4) (X1.trans X2)
theorem es_par (i j : Nat) {x y : Str} {a b : Expr} {ta tb : TE} {ma mb : M Rv} {px py pt : Pos} {kt k2 pt2} (hc : X.calm = true) (hN : X.N.Nodup) (h : ER X a ta ma) (h2 : ER X b tb mb) (hij : i ≠ j := by decide) (hi : X.N[i]? = some x := by rfl) (hj : X.N[j]? = some y := by rfl)
    (hx : X.env.scope.names.lookup x = some .local := by rfl) (hy : X.env.scope.names.lookup y = some .local := by rfl)
    (hw : swappedStores [.Tuple [.Name x px, .Name y py] kt pt] (.Tuple [a, b] k2 pt2) X.env = pure (some [x, y]) := by rfl)
    (hs : swapsWithSole [.Tuple [.Name x px, .Name y py] kt pt] (.Tuple [a, b] k2 pt2) pos.line X.env = pure false := by rfl)
    (hs1 : starEach [a, b] X.env = (false, eval a X.env) :: starEach [b] X.env := by rfl) (hs2 : starEach [b] X.env = (false, eval b X.env) :: starEach [] X.env := by rfl) :
    ES X (.Assign [.Tuple [.Name x px, .Name y py] kt pt] (.Tuple [a, b] k2 pt2) pos) (tPar i j (tCons ta (tCons tb tNil))) (sPar i j ma mb) := ⟨ps_par hc hN hi hj hij hx hy (pa_cons h.pe (pa_cons h2.pe pa_nil hs2) hs1) hw hs, ss_par h.se h2.se⟩
/-- a, b, c = x, y, z: data and at the end anything -/
def sPar3 (i j l : Nat) (m k n : M Rv) : S := fun ρ => match m ρ with
  | some (.v a, ρ1) => (match k ρ1 with
    | some (.v b, ρ2) => (match n ρ2 with
      | none => none
      | some (c, ρ3) => match stN i a ρ3 with
        | none => none
        | some ρ4 => match stN j b ρ4 with
          | none => none
          | some ρ5 => match stR l c ρ5 with
            | none => none
            | some ρ6 => some (.nx, ρ6))
    | _ => none)
  | _ => none

theorem ss_par3 {i j l : Nat} {ta tb tc : TE} {m k n : M Rv} (h : SR ta m) (h2 : SR tb k) (h3 : SR tc n) : SS (tPar3 i j l (tCons ta (tCons tb (tCons tc tNil)))) (sPar3 i j l m k n) := fun Φ F ρ σ H D o ρ' R e q => by
  simp only [sPar3] at e
  split at e
  · rename_i a ρ1 e1
    split at e
    · rename_i b ρ2 e2
      split at e
      · cases e
      · rename_i c ρ3 e3
        split at e
        · cases e
        · rename_i ρ4 e4
          split at e
          · cases e
          · rename_i ρ5 e5
            split at e
            · cases e
            · rename_i ρ6 e6
              cases e
              refine h Φ F ρ σ H _ _ ρ1 R e1 fun v F1 H1 R1 X1 k1 => ?_
              refine h2 Φ F1 ρ1 σ H1 _ _ ρ2 R1 e2 fun u F2 H2 R2 X2 k2 => ?_
              refine h3 Φ F2 ρ2 σ H2 _ _ ρ3 R2 e3 fun w F3 H3 R3 X3 k3 => ⟨v, u, w, rfl, ?_⟩
              have ka : RvOk Φ F3 ρ3 σ H3 v (.v a) := Dn.mono (X2.trans X3).1 k1
              have kb : RvOk Φ F3 ρ3 σ H3 u (.v b) := Dn.mono X3.1 k2
              have e4' : DL.stR i (.v a) ρ3 = some ρ4 := e4
              have R4 := R3.stR ka e4'
              have kc := RvOk.after R3 ka k3 e4' fun p _ _ ⟨s, hs⟩ => by cases hs
              have kb2 : RvOk Φ F3 ρ4 (σ.set i (some v)) H3 u (.v b) := kb
              have e5' : DL.stR j (.v b) ρ4 = some ρ5 := e5
              have R5 := R4.stR kb2 e5'
              have kc2 := RvOk.after R4 kb2 kc e5' fun p _ _ ⟨s, hs⟩ => by cases hs
              exact q F3 _ H3 (R5.stR kc2 e6) ((X1.trans X2).trans X3)
    · cases e
  · cases e
theorem es_par3 (i j l : Nat) {x y z : Str} {a b c : Expr} {ta tb tc : TE} {ma mb mc : M Rv} {px py pz pt pos : Pos} {kt k2 pt2} (hc : X.calm = true) (hN : X.N.Nodup) (h : ER X a ta ma) (h2 : ER X b tb mb) (h3 : ER X c tc mc) (hij : i ≠ j := by decide) (hil : i ≠ l := by decide) (hjl : j ≠ l := by decide) (hi : X.N[i]? = some x := by rfl) (hj : X.N[j]? = some y := by rfl) (hl : X.N[l]? = some z := by rfl)
    (hx : X.env.scope.names.lookup x = some .local := by rfl) (hy : X.env.scope.names.lookup y = some .local := by rfl) (hz : X.env.scope.names.lookup z = some .local := by rfl)
    (hw : swappedStores [.Tuple [.Name x px, .Name y py, .Name z pz] kt pt] (.Tuple [a, b, c] k2 pt2) X.env = pure (some [x, y, z]) := by rfl)
    (hs : swapsWithSole [.Tuple [.Name x px, .Name y py, .Name z pz] kt pt] (.Tuple [a, b, c] k2 pt2) pos.line X.env = pure false := by rfl)
    (hs1 : starEach [a, b, c] X.env = (false, eval a X.env) :: starEach [b, c] X.env := by rfl) (hs2 : starEach [b, c] X.env = (false, eval b X.env) :: starEach [c] X.env := by rfl) (hs3 : starEach [c] X.env = (false, eval c X.env) :: starEach [] X.env := by rfl) :
    ES X (.Assign [.Tuple [.Name x px, .Name y py, .Name z pz] kt pt] (.Tuple [a, b, c] k2 pt2) pos) (tPar3 i j l (tCons ta (tCons tb (tCons tc tNil)))) (sPar3 i j l ma mb mc) := ⟨ps_par3 hc hN hi hj hl hij hil hjl hx hy hz (pa_cons h.pe (pa_cons h2.pe (pa_cons h3.pe pa_nil hs3) hs2) hs1) hw hs, ss_par3 h.se h2.se h3.se⟩

end
/-! ### one's own list is changed -/
def putM (j : Nat) (f : List PyData → Option (PyData × List PyData)) : M PyData := fun ρ => match ρ[j]? with
  | some (.ol ds) => (match f ds with
    | some (z, ds') => some (z, ρ.set j (.ol ds'))
    | none => none)
  | some (.br ds) => (match f ds with
    | some (z, ds') => some (z, ρ.set j (.br ds'))
    | none => none)
  | _ => none
theorem Rl.putM {Φ : Fx} {F H : Hp} {ρ ρ' : Ro} {σ : L2.St} {j : Nat} {v : V} {f : List PyData → Option (PyData × List PyData)} {z : PyData} (R : Rl Φ F ρ σ H) (k : AgOk F σ v (.o j)) (e : DL.putM j f ρ = some (z, ρ')) :
    ∃ l vs ds ds', v = .ref l ∧ H l = some (.lst vs) ∧ vs.length ≤ sizeLine ∧ DnA F vs ds ∧ f ds = some (z, ds') ∧ ∀ vs', vs'.length ≤ sizeLine → DnA F vs' ds' → Rl Φ F ρ' σ (upd H l (.lst vs')) := by
  have k : σ[j]? = some (some v) := k
  simp only [DL.putM] at e
  split at e
  · rename_i ds hj
    split at e
    · rename_i z' ds' hf
      cases e
      obtain ⟨l, o, a, b, c, d, cn⟩ := R.own j _ hj rfl
      rw [k] at a; injection a with a; injection a with a
      cases cn with
      | ol h1 h2 => exact ⟨l, _, ds, ds', a, d, h1, h2, hf, fun vs' g1 g2 => R.write hj rfl (by rw [k, a]) (.ol g1 g2) rfl⟩
    · cases e
  · rename_i ds hj
    split at e
    · rename_i z' ds' hf
      cases e
      obtain ⟨l, o, a, b, c, d, cn⟩ := R.own j _ hj rfl
      rw [k] at a; injection a with a; injection a with a
      cases cn with
      | br h1 h2 => exact ⟨l, _, ds, ds', a, d, h1, h2, hf, fun vs' g1 g2 => R.write hj rfl (by rw [k, a]) (.br g1 g2) rfl⟩
    · cases e
  · cases e
/-- x[k] = e -/
def fPut (k : Int) (d : PyData) (ds : List PyData) : Option (PyData × List PyData) := match ixN ds.length k with
  | some n => some (.none, ds.set n d)
  | none => none
def sPut (m : M PyData) (ma : M Ag) (mi : M PyData) : S := fun ρ => match m ρ with
  | none => none
  | some (d, ρ1) => match ma ρ1 with
    | some (.o j, ρ2) => (match mi ρ2 with
      | some (.int k, ρ3) => (match putM j (fPut k d) ρ3 with
        | some (_, ρ4) => some (.nx, ρ4)
        | none => none)
      | _ => none)
    | _ => none
theorem ss_put {t ta ti : TE} {m mi : M PyData} {ma : M Ag} (h : SE t m) (ha : SX ta ma) (hi : SE ti mi) : SS (tAsg t (gSub ta ti rSetL)) (sPut m ma mi) := fun Φ F ρ σ H D o ρ' R e q => by
  simp only [sPut] at e
  split at e
  · cases e
  · rename_i d ρ1 e1
    split at e
    · rename_i j ρ2 e2
      split at e
      · rename_i k ρ3 e3
        split at e
        · rename_i z ρ4 e4
          cases e
          refine h Φ F ρ σ H _ d ρ1 R e1 fun v F1 H1 R1 X1 kd => ?_
          refine ha Φ F1 ρ1 σ H1 _ _ ρ2 R1 e2 fun u F2 H2 R2 X2 ku => ?_
          refine hi Φ F2 ρ2 σ H2 _ _ ρ3 R2 e3 fun w F3 H3 R3 X3 kw => ?_
          cases kw
          obtain ⟨l, vs, ds, ds', rfl, hl, hz, da, hf, fin⟩ := R3.putM (ku.mono X3.1) e4
          unfold fPut at hf
          split at hf
          · rename_i n hn
            cases hf
            refine ⟨l, vs, k, n, rfl, rfl, hl, by rw [da.length]; exact hn, ?_⟩
            exact q F3 σ _ (fin _ (by rw [List.length_set]; exact hz) (da.set (kd.mono (X2.trans X3).1) n)) ((X1.trans X2).trans X3)
          · cases hf
        · cases e
      · cases e
    · cases e
theorem es_put {X : Cx} {pos pos' : Pos} {e a b : Expr} {t ta ti : TE} {m mi : M PyData} {ma : M Ag} (h : EV X e t m) (ha : EX X a ta ma) (hi : EV X b ti mi) (hg : PG X (.Subscript a b pos') (gSub ta ti rSetL)) (hs : swapsWithSole [.Subscript a b pos'] e pos.line X.env = pure false := by rfl) (hw : swappedStores [.Subscript a b pos'] e X.env = pure none := by rfl)
    (h1 : (assignEach [.Subscript a b pos'] X.env).map (·.2) = [assign (.Subscript a b pos') X.env] := by rfl) : ES X (.Assign [.Subscript a b pos'] e pos) (tAsg t (gSub ta ti rSetL)) (sPut m ma mi) := ⟨ps_asg h.pe hg hs hw h1, ss_put h.se ha.se hi.se⟩
/-- x.m(..): f by the arguments -/
def RM (r : V → List V → Hp → VK → Prop) (f : List PyData → List PyData → Option (PyData × List PyData)) : Prop := ∀ (Φ : Fx) (F : Hp) (ρ : Ro) (σ : L2.St) (H : Hp) (Q : VK) (l : Addr) (ws : List V) (cs : List PyData) (vs : List V) (ds : List PyData) (z : PyData) (cs' : List PyData), Rl Φ F ρ σ H → H l = some (.lst ws) → ws.length ≤ sizeLine → DnA F ws cs → LkA F H vs ds → f ds cs = some (z, cs') →
  (∀ v ws', ws'.length ≤ sizeLine → DnA F ws' cs' → Dn F v z → Q v (upd H l (.lst ws'))) → r (.ref l) vs H Q
def chkL (a : Ag) : M Unit := fun ρ => match a.get ρ with
  | some (.list _) => some ((), ρ)
  | _ => none
def mMt (f : List PyData → List PyData → Option (PyData × List PyData)) (mo : M Ag) (ma : M (List Ag)) : M PyData := bnd mo fun a => bnd (chkL a) fun _ => bnd (getA ma) fun ds => match a with
  | .o j => putM j (f ds)
  | .v _ => fun _ => none
theorem se_mt {K : PySem.W.Frag} {r : V → List V → Hp → VK → Prop} {f : List PyData → List PyData → Option (PyData × List PyData)} {to : TE} {t : TA} {mo : M Ag} {ma : M (List Ag)} (hr : RM r f) (ho : SX to mo) (ha : SA t ma) : SE (tBM K "list" r to t) (mMt f mo ma) := fun Φ F ρ σ H Q d ρ' R e q => by
  obtain ⟨a, ρ1, e1, e2⟩ := bnd_some e
  obtain ⟨_, ρ1', e0, e2⟩ := bnd_some e2
  obtain ⟨ds, ρ2, e3, e4⟩ := bnd_some e2
  have hck : ρ1' = ρ1 ∧ ∃ xs, a.get ρ1 = some (.list xs) := by
    unfold chkL at e0
    split at e0
    · rename_i xs hx
      cases e0
      exact ⟨rfl, xs, hx⟩
    · cases e0
  obtain ⟨rfl, xs, hx⟩ := hck
  cases a with
  | v _ => cases e4
  | o j =>
    refine ho Φ F ρ σ H _ _ _ R e1 fun v F1 H1 R1 X1 k1 => ?_
    obtain ⟨l, vs, rfl, hl, _⟩ := (Ag.lk R1 k1 hx).seqL (K := K) R1.fs
    refine ⟨.inl ⟨rfl, _, hl⟩, ?_⟩
    refine sa_get ha R1 e3 fun us F2 H2 R2 X2 k2 => ?_
    obtain ⟨l', vs', cs, cs', e5, hl', hz, da, hf, fin⟩ := R2.putM (k1.mono X2.1) e4
    cases e5
    exact hr Φ F2 _ σ H2 Q l vs' cs us ds d cs' R2 hl' hz da k2 hf fun w ws' g1 g2 g3 => q w F2 _ (fin ws' g1 g2) (X1.trans X2) g3

theorem ev_mt {X : Cx} {o e : Expr} {es : List Expr} {name : Str} {id : String} {r : V → List V → Hp → VK → Prop} {f : List PyData → List PyData → Option (PyData × List PyData)} {to : TE} {t : TA} {mo : M Ag} {ma : M (List Ag)} {apos cpos : Pos} (pa : PlainAttrs "list") (slot : Slot "list" name id) (hty : typeOf (.builtin id) = pure (.type "method_descriptor")) (hm : MtR X id r) (hr : RM r f) (ho : EX X o to mo) (ha : EA X (e :: es) t ma)
    (hbase : attributeBase o name X.env (eval o X.env) = eval o X.env := by rfl)
    (hfew : ((backTo cpos (starEach (e :: es) X.env)).all (fun x => !x.1) && (backToKw cpos (keywordEach [] X.env)).all (fun x => x.1.isSome) && decide ((e :: es).length + ([] : List Keyword).length + (if ([] : List Keyword).isEmpty then 0 else 1) < 30)) = true := by rfl)
    (hline : (apos.endLine == cpos.line) = true := by rfl) (hs : starEach (e :: es) X.env = (false, eval e X.env) :: starEach es X.env := by rfl) (hplain : (backTo cpos (starEach es X.env)).any (·.1) = false := by rfl) :
    EV X (.Call (.Attribute o name apos) (e :: es) [] cpos) (tBM X.K "list" r to t) (mMt f mo ma) := ⟨pe_bm pa slot hty hm ho.pe ha.pe hbase hfew hline hs hplain, se_mt hr ho.se ha.se⟩
def fAppend : List PyData → List PyData → Option (PyData × List PyData)
  | [.list _], _ => none
  | [d], cs => if cs.length < 16777216 then some (.none, cs ++ [d]) else none
  | _, _ => none
theorem rm_append : RM rAppend fAppend := fun Φ F ρ σ H Q l ws cs vs ds z cs' R hl hz da k hf q => by
  unfold fAppend at hf
  split at hf
  · cases hf
  · rename_i _ d hn
    split at hf
    · rename_i hlen
      cases hf
      obtain ⟨v, rfl, lk⟩ := lkA1 k
      have dn : Dn F v d := by
        cases lk with
        | dn y => exact y
        | lst _ _ _ => exact (hn _ rfl).elim
      have hl' : ws.length < sizeLine := by rw [da.length, sizeLine_is]; exact hlen
      exact ⟨l, ws, v, rfl, rfl, hl, hl', q _ _ (by rw [List.length_append]; simp; omega) (da.append (.cons dn .nil)) .non⟩
    · cases hf
  · cases hf
def rExt (K : PySem.W.Frag) : V → List V → Hp → VK → Prop := fun x vs H Q => ∃ l b xs zs, x = .ref l ∧ vs = [.ref b] ∧ H l = some (.lst xs) ∧ Rd H b (.lst zs) ∧ xs.length + zs.length ≤ sizeLine ∧ Q .non (upd H l (.lst (xs ++ zs)))
theorem mt_ext {X : Cx} : MtR X "list.extend" (rExt X.K) := by
  rintro pins s σ H x vs v us Q I rx rv ⟨l, b, xs, zs, rfl, rfl, hH, hB, hz, q⟩
  cases rx
  obtain ⟨u, rfl, ru⟩ := rv.one
  cases ru
  obtain ⟨z, its, n, r, hl, e⟩ := I.lstM hH
  obtain ⟨z2, its2, n2, r2, e2⟩ := hB.ok I.hok
  have hl2 := r2.length
  have both : its.toArray.size + its2.toArray.size ≤ sizeLine := by rw [List.size_toArray, List.size_toArray]; omega
  have short : ¬ (!its.toArray.isEmpty && Builtin.List.listTooLong (its.toArray.size + its2.toArray.size)) = true := by
    rw [notLongL both, Bool.and_false]
    exact Bool.false_ne_true
  refine call_meets F.slot_list_extend ⟨_, e, rfl⟩ F.entry_list_extend (F.args_list_extend_2 _ _) (AutoSeq1.list_extend_list_list_0 l its.toArray n b its2.toArray n2 short (by rw [List.size_toArray]; omega) (by omega)) ⟨e, e2, ?_⟩
  exact ⟨.non, _, I.lset (its' := its ++ its2) hH e (by simp) (r.append r2) (by rw [List.length_append]; omega), rfl, q⟩
def fExtend : List PyData → List PyData → Option (PyData × List PyData)
  | [.list es], cs => if cs.length + es.length ≤ 16777216 then some (.none, cs ++ es) else none
  | _, _ => none
theorem rm_extend {K : PySem.W.Frag} : RM (rExt K) fExtend := fun Φ F ρ σ H Q l ws cs vs ds z cs' R hl hz da k hf q => by
  unfold fExtend at hf
  split at hf
  · rename_i _ es
    split at hf
    · rename_i hlen
      cases hf
      obtain ⟨v, rfl, lk⟩ := lkA1 k
      have hb : ∃ b zs, v = .ref b ∧ Rd H b (.lst zs) ∧ DnA F zs es := by
        cases lk with
        | dn y => cases y with
          | lst r t => exact ⟨_, _, rfl, rd_mono R.fs r, t⟩
        | lst e z t => exact ⟨_, _, rfl, .inl e, t⟩
      obtain ⟨b, zs, rfl, hb, t⟩ := hb
      have l1 := da.length
      have l2 := t.length
      have hl' : ws.length + zs.length ≤ sizeLine := by rw [sizeLine_is]; omega
      exact ⟨l, b, ws, zs, rfl, rfl, hl, hb, hl', q _ _ (by rw [List.length_append]; exact hl') (da.append t) .non⟩
    · cases hf
  · cases hf
def fInsert : List PyData → List PyData → Option (PyData × List PyData)
  | [_, .list _], _ => none
  | [.int i, d], cs => if cs.length < 16777216 ∧ 0 ≤ i ∧ i < 16777216 then some (.none, cs.take i.toNat ++ [d] ++ cs.drop i.toNat) else none
  | _, _ => none
theorem rm_insert : RM (fun x vs H Q => ∃ (l : Addr) (xs : List V) (i : Int) (y : V), x = .ref l ∧ vs = [.int i, y] ∧ H l = some (.lst xs) ∧ xs.length < sizeLine ∧ 0 ≤ i ∧ i < 2 ^ 63 ∧
    Q .non (upd H l (.lst (xs.take i.toNat ++ [y] ++ xs.drop i.toNat)))) fInsert := fun Φ F ρ σ H Q l ws cs vs ds z cs' R hl hz da k hf q => by
  unfold fInsert at hf
  split at hf
  · cases hf
  · rename_i _ i d hn
    split at hf
    · rename_i hlen
      cases hf
      obtain ⟨v, u, rfl, l1, l2⟩ := lkA2 k
      have dn : Dn F u d := by
        cases l2 with
        | dn y => exact y
        | lst _ _ _ => exact (hn _ rfl).elim
      have hl' : ws.length < sizeLine := by rw [da.length, sizeLine_is]; exact hlen.1
      refine ⟨l, ws, i, u, rfl, by rw [l1.int], hl, hl', hlen.2.1, by omega, q _ _ ?_ (((da.take _).append (.cons dn .nil)).append (da.drop _)) .non⟩
      rw [List.length_append, List.length_append, List.length_take, List.length_drop]
      simp only [List.length_singleton]
      omega
    · cases hf
  · cases hf
theorem mt_popI {X : Cx} : MtR X "list.pop" rPopAt := mt_popAt
def fPopAt : List PyData → List PyData → Option (PyData × List PyData)
  | [.int i], cs => if -16777216 ≤ i ∧ i < 16777216 then (match seqIndex? i cs.length with
    | some k => (match cs[k]? with
      | some d => some (d, cs.eraseIdx k)
      | none => none)
    | none => none) else none
  | _, _ => none
theorem rm_popAt : RM rPopAt fPopAt := fun Φ F ρ σ H Q l ws cs vs ds z cs' R hl hz da k hf q => by
  unfold fPopAt at hf
  split at hf
  · rename_i _ i
    split at hf
    · rename_i hi
      split at hf
      · rename_i n hn
        split at hf
        · rename_i d hd
          cases hf
          obtain ⟨v, rfl, lk⟩ := lkA1 k
          obtain ⟨y, hy, dn⟩ := da.get hd
          refine ⟨l, ws, i, n, y, rfl, by rw [lk.int], hl, by omega, by omega, by rw [da.length]; exact hn, hy, q _ _ ?_ (da.eraseIdx n) dn⟩
          exact Nat.le_trans (len_erase ws n) hz
        · cases hf
      · cases hf
    · cases hf
  · cases hf

/-! ### for -/
open Classical in
noncomputable def forM (it : Itm) (tgt : PyData → Ro → Option Ro) (b : S) : List PyData → S
  | [] => fun ρ => some (.nx, ρ)
  | x :: xs => fun ρ => match tgt x ρ with
    | none => none
    | some ρ1 => match b ρ1 with
      | none => none
      | some (.nx, ρ2) => forM it tgt b xs ρ2
      | some (.ct, ρ2) => forM it tgt b xs ρ2
      | some (.bk, ρ2) => some (.nx, ρ2)
      | some (o, ρ2) => some (o, ρ2)
noncomputable def sFor (mi : M Itm) (tgt : PyData → Ro → Option Ro) (b : S) : S := fun ρ => match mi ρ with
  | none => none
  | some (it, ρ1) => match it.ow with
    | some _ => none
    | none => forM it tgt b it.xs ρ1
theorem ss_for {wi : TI} {mi : M Itm} {gs : List Nat} {g : TG} {tgt : PyData → Ro → Option Ro} {tb : TS} {b : S} (hi : SI wi mi) (hg : SG gs g tgt) (hb : SS tb b) : SS (tFor wi g tb) (sFor mi tgt b) := fun Φ F ρ σ H D o ρ' R e q => by
  simp only [sFor] at e
  split at e
  · cases e
  · rename_i it ρ1 e1
    split at e
    · cases e
    · rename_i ho
      refine hi Φ F ρ σ H _ it ρ1 R e1 fun J F1 H1 R1 X1 S1 hz => ?_
      refine ⟨fun i n σ H => n = it.xs.length - i ∧ i ≤ it.xs.length ∧ ∃ F2 ρ2, Rl Φ F2 ρ2 σ H ∧ Ext Φ F1 F2 ∧ forM it tgt b (it.xs.drop i) ρ2 = some (o, ρ'), ⟨it.xs.length, rfl, Nat.zero_le _, F1, ρ1, R1, Ext.refl Φ F1, by rw [List.drop_zero]; exact e⟩, ?_⟩
      rintro i n σ2 H2 ⟨rfl, hil, F2, ρ2, R2, X2, e2⟩
      have T := S1 Φ F2 ρ2 σ2 H2 R2 (Same.refl Φ.G) X2.1 (ok_none ho _) (fun j hj => by rw [ho] at hj; cases hj)
      by_cases hlt : i < it.xs.length
      · obtain ⟨x, hx⟩ : ∃ x, it.xs[i]? = some x := ⟨_, List.getElem?_eq_getElem hlt⟩
        rw [List.drop_eq_getElem_cons hlt] at e2
        have hxe : it.xs[i] = x := by rw [List.getElem?_eq_getElem hlt] at hx; exact Option.some.inj hx
        rw [hxe] at e2
        obtain ⟨hgo, hyl⟩ := T.1 i x hx
        refine .inr ⟨hgo, fun σ' H' => i + 1 ≤ it.xs.length ∧ ∃ F3 ρ3, Rl Φ F3 ρ3 σ' H' ∧ Ext Φ F1 F3 ∧ forM it tgt b (it.xs.drop (i + 1)) ρ3 = some (o, ρ'), fun σ' H' h => ⟨it.xs.length - (i + 1), by omega, rfl, h⟩, fun v H' hy => ?_⟩
        obtain ⟨F3, R3, X3, dn⟩ := hyl v H' hy
        simp only [forM] at e2
        split at e2
        · cases e2
        · rename_i ρ3 e3
          refine hg Φ F3 ρ2 σ2 H' v x ρ3 _ R3 dn e3 fun σ3 R4 _ => ?_
          split at e2
          · cases e2
          · rename_i ρ4 e4
            exact hb Φ F3 ρ3 σ3 H' _ .nx ρ4 R4 e4 fun F5 σ5 H5 R5 X5 => ⟨hlt, F5, ρ4, R5, X2.trans (X3.trans X5), e2⟩
          · rename_i ρ4 e4
            exact hb Φ F3 ρ3 σ3 H' _ .ct ρ4 R4 e4 fun F5 σ5 H5 R5 X5 => ⟨hlt, F5, ρ4, R5, X2.trans (X3.trans X5), e2⟩
          · rename_i ρ4 e4
            cases e2
            exact hb Φ F3 ρ3 σ3 H' _ .bk _ R4 e4 fun F5 σ5 H5 R5 X5 => q F5 σ5 H5 R5 (X1.trans (X2.trans (X3.trans X5)))
          · rename_i o4 ρ4 n1 n2 n3 e4
            cases e2
            refine hb Φ F3 ρ3 σ3 H' _ o _ R4 e4 ?_
            have qq := q.ext (X1.trans (X2.trans X3))
            cases o with
            | nx => exact (n1 rfl).elim
            | ct => exact (n2 rfl).elim
            | bk => exact (n3 rfl).elim
            | rt d => exact qq
            | ro s => exact qq
      · have ei : i = it.xs.length := by omega
        subst ei
        rw [List.drop_length] at e2
        cases e2
        exact .inl ⟨T.2 _ (Nat.le_refl _), q F2 σ2 H2 R2 (X1.trans X2)⟩
theorem es_for {X : Cx} {tg iter : Expr} {body : List Stmt} {wi : TI} {mi : M Itm} {gs : List Nat} {g : TG} {tgt : PyData → Ro → Option Ro} {tb : TS} {b : S} {pos : Pos} (hp : PassesOwn (model X.prog X.w) X.A X.env X.xe) (hc : X.calm = true) (hi : EI X tg iter wi mi) (hg : EG X tg gs g tgt) (hb : EB X body tb b)
    (hs : ∀ x, foldedSetIterable iter X.env x = pure x := by intro _; rfl) : ES X (.For tg iter body [] pos) (tFor wi g tb) (sFor mi tgt b) := ⟨ps_for hp hc hi.pe hg.pe hb.pe hs, ss_for hi.se hg.se hb.se⟩

/-! ### defs -/
def Bd (F : Hp) : Prop := ∀ (a : Addr) (vs : List V), Rd F a (.lst vs) ∨ Rd F a (.tup vs) → vs.length ≤ sizeLine
open Classical in
/-- all but the tables -/
noncomputable def noT (H : Hp) : Hp := fun b => if b ∈ Tbs.T.map (·.1) then none else H b
theorem noT_tab {H : Hp} {q : Addr × Str} (h : q ∈ Tbs.T) : noT H q.1 = none := if_pos (List.mem_map_of_mem h)
theorem noT_same (H : Hp) : Same (noT H) H := fun b o e => by
  unfold noT at e
  split at e
  · cases e
  · exact e
theorem noT_of {H : Hp} {b : Addr} {o : HO} (e : H b = some o) (h : ∀ q ∈ Tbs.T, q.1 ≠ b) : noT H b = some o := by
  unfold noT
  rw [if_neg]
  · exact e
  · intro z
    obtain ⟨q, hq, e⟩ := List.mem_map.mp z
    exact h q hq e
def TabsOk (F H : Hp) : Prop := ∀ q ∈ Tbs.T, F q.1 = none ∧ LamX.TabS H q.1 q.2
theorem TbOk.tabs {G F H : Hp} (t : TbOk G F H) : TabsOk F H := fun q hq => ⟨(t q hq).1, (t q hq).2.2⟩
theorem TabsOk.tb {F H : Hp} (t : TabsOk F H) : TbOk (noT H) F H := fun q hq => ⟨(t q hq).1, noT_tab hq, (t q hq).2⟩
/-- a def of data -/
def spP (n : Nat) (m : List PyData → Option PyData) : Sp := fun vs H Q _ => ∃ F ds d, DnA F vs ds ∧ Same F H ∧ Bd F ∧ TabsOk F H ∧ vs.length = n ∧ m ds = some d ∧
  ∀ v F' H', Same F F' → Same F' H' → Same (noT H) H' → (∀ b o, noT H b = some o → F' b = F b) → Bd F' → TabsOk F' H' → Dn F' v d → Q v H'
def initP (n : Nat) (ds : List PyData) : Ro := ds.map Sl.d ++ List.replicate (n - ds.length) Sl.no
def runP (n : Nat) (m : S) (ds : List PyData) : Option PyData := match m (initP n ds) with
  | some (.rt d, _) => some d
  | some (.nx, _) => some .none
  | _ => none
theorem init_get {n : Nat} {ds : List PyData} {i : Nat} {s : Sl} (h : (initP n ds)[i]? = some s) : (∃ d, ds[i]? = some d ∧ s = .d d) ∨ s = .no := by
  unfold initP at h
  by_cases hi : i < ds.length
  · rw [List.getElem?_append_left (by rw [List.length_map]; exact hi), List.getElem?_map] at h
    cases q : ds[i]? with
    | none => rw [q] at h; cases h
    | some d => rw [q] at h; cases h; exact .inl ⟨d, rfl, rfl⟩
  · rw [List.getElem?_append_right (by rw [List.length_map]; omega), List.getElem?_replicate] at h
    split at h
    · cases h; exact .inr rfl
    · cases h
theorem start_get {N : List Str} {vs : List V} {i : Nat} {v : V} (h : vs[i]? = some v) : (start N vs)[i]? = some (some v) := by
  unfold L2.start
  have hi : i < vs.length := (List.getElem?_eq_some_iff.mp h).1
  rw [List.getElem?_append_left (by rw [List.length_map]; exact hi), List.getElem?_map, h]
  rfl
theorem rl_start {F H : Hp} {N : List Str} {vs : List V} {ds : List PyData} (hd : DnA F vs ds) (hs : Same F H) (hb : Bd F) (ht : TabsOk F H) (hn : vs.length ≤ N.length) : Rl ⟨noT H, []⟩ F (initP N.length ds) (start N vs) H := by
  have no : ∀ (i : Nat) (s : Sl), (initP N.length ds)[i]? = some s → s.own = true → False := fun i s h1 h2 => by
    rcases init_get h1 with ⟨d, _, rfl⟩ | rfl <;> cases h2
  refine ⟨?_, hs, noT_same H, hb, fun i d h => ?_, fun i d h => ?_, fun i s h1 h2 => (no i s h1 h2).elim, fun i j s s' l h1 h2 h3 h4 h5 h6 => (no i s h1 h3).elim, fun p hp => (by cases hp), ht.tb⟩
  · unfold L2.start initP
    rw [List.length_append, List.length_map, List.length_replicate, List.length_append, List.length_map, List.length_replicate, hd.length]
  · rcases init_get h with ⟨d', h1, h2⟩ | h2
    · cases h2
      obtain ⟨v, hv, dn⟩ := hd.get h1
      exact ⟨v, start_get hv, dn⟩
    · cases h2
  · rcases init_get h with ⟨d', h1, h2⟩ | h2 <;> cases h2
/-- behind a call that leaves all as it was -/
theorem Rl.grow {Φ : Fx} {F F2 H H2 : Hp} {ρ : Ro} {σ : L2.St} (R : Rl Φ F ρ σ H) (h1 : Same F F2) (h2 : Same F2 H2) (h3 : Same (noT H) H2) (h4 : ∀ b o, noT H b = some o → F2 b = F b) (h5 : Bd F2) (h6 : TabsOk F2 H2) : Rl Φ F2 ρ σ H2 ∧ Ext Φ F F2 := by
  have up : ∀ b o, H b = some o → lasting o = false → noT H b = some o := fun b o e hl => noT_of e fun q hq => R.tb.ne hq (some_last e hl)
  have gup : ∀ b o, Φ.G b = some o → noT H b = some o := fun b o e => noT_of (R.gs b o e) fun q hq z => by
    have := (R.tb q hq).2.1
    rw [z, e] at this
    cases this
  exact ⟨⟨R.len, h2, fun b o e => h3 b o (gup b o e), h5, fun i d h => by
      obtain ⟨v, a, b⟩ := R.dat i d h
      exact ⟨v, a, b.mono h1⟩, fun i d h => by
      obtain ⟨l, ob, ps, a, b, c⟩ := R.lk i d h
      exact ⟨l, ob, ps, a, b, c.mono h1⟩, fun i s g1 g2 => by
      obtain ⟨l, o, a, b, c, d, e⟩ := R.own i s g1 g2
      exact ⟨l, o, a, (h4 l o (up l o d e.last)).trans b, c, h3 l o (up l o d e.last), e.mono h1⟩, R.dj, R.io, fun q hq => ⟨(h6 q hq).1, (R.tb q hq).2.1, (h6 q hq).2⟩⟩, h1, fun b o h => h4 b o (gup b o h)⟩
def mCall (n : Nat) (m : List PyData → Option PyData) (ma : M (List Ag)) : M PyData := bnd (datA ma) fun ds => lft (if ds.length = n then m ds else none)
theorem se_call {n : Nat} {m : List PyData → Option PyData} {t : TA} {ma : M (List Ag)} {E : XK} (h : SA t ma) : SE (tCall (spP n m) [] E t) (mCall n m ma) := fun Φ F ρ σ H Q d ρ' R e q => by
  obtain ⟨ds, ρ1, e1, e2⟩ := bnd_some e
  obtain ⟨e3, rfl⟩ := lft_some e2
  split at e3
  · rename_i hn
    refine sa_dat h R e1 fun vs F' H' R' X' k => ?_
    show spP n m (vs ++ []) H' Q E
    rw [List.append_nil]
    refine ⟨F', ds, d, k, R'.fs, R'.bd, R'.tb.tabs, by rw [k.length]; exact hn, e3, fun v F2 H2 h1 h2 h3 h4 h5 h6 dn => ?_⟩
    obtain ⟨R2, X2⟩ := R'.grow h1 h2 h3 h4 h5 h6
    exact q v F2 H2 R2 (X'.trans X2) dn
  · cases e3
end DL
end
section
/-! more words: tuple targets, chains, dicts, built-in names -/
namespace DL
open PySem PySem.Spec PyProof.Rows L2
variable [Tbs]

/-! ### targets that are tuples -/
structure EGl (X : Cx) (es : List Expr) (n : Nat) (gs : List Nat) (g : TGs) (m : List PyData → Ro → Option Ro) : Prop where
  pe : PGs X es g
  se : SGs gs g m
  ln : ∀ ds ρ ρ', m ds ρ = some ρ' → ds.length = n
section
variable {X : Cx} {pos : Pos}
theorem egl_nil : EGl X [] 0 [] gNil tg0 := ⟨pgs_nil, sgs_nil, fun _ _ _ h => tg0_len h⟩
theorem egl_cons {e : Expr} {es : List Expr} {n : Nat} {gs hs : List Nat} {g : TG} {gg : TGs} {m : PyData → Ro → Option Ro} {k : List PyData → Ro → Option Ro} (h : EG X e gs g m) (h2 : EGl X es n hs gg k)
    (hss : (assignEach (e :: es) X.env).map (·.2) = assign e X.env :: (assignEach es X.env).map (·.2) := by rfl) : EGl X (e :: es) (n + 1) (gs ++ hs) (gCons g gg) (tgC m k) := ⟨pgs_cons h.pe h2.pe hss, sgs_cons h.se h2.se, fun _ _ _ h => tgC_len h2.ln h⟩
theorem eg_tup {es : List Expr} {k n : Nat} {gs : List Nat} {gg : TGs} {m : List PyData → Ro → Option Ro} (hc : X.calm = true) (h : EGl X es n gs gg m) (hn : (assignEach es X.env).length = n := by rfl) (hst : (assignEach es X.env).findIdx? (·.1) = none := by rfl) : EG X (.Tuple es k pos) gs (gTup X.K n gg) (tgT m) := ⟨pg_tup hc h.pe hn hst, sgs_lenT h.se h.ln⟩
end

/-! ### chains -/
def mChain (f f' : PyData → PyData → Option PyData) (ma mb mc : M Ag) : M PyData := bnd ma fun a => bnd mb fun b => bnd (gets2 f a b) fun d => match d with
  | .bool true => bnd mc fun c => gets2 f' b c
  | .bool false => ret (.bool false)
  | _ => fun _ => none
theorem se_chain {r r' : R2} {f f' : PyData → PyData → Option PyData} {ta tb tc : TE} {ma mb mc : M Ag} (hr : R2S r f) (hr' : R2S r' f') (ha : SX ta ma) (hb : SX tb mb) (hc : SX tc mc) : SE (tChain r r' ta tb tc) (mChain f f' ma mb mc) := fun Φ F ρ σ H Q z ρ' R e q => by
  obtain ⟨a, ρ1, e1, e2⟩ := bnd_some e
  obtain ⟨b, ρ2, e3, e4⟩ := bnd_some e2
  obtain ⟨d, ρ3, e5, e6⟩ := bnd_some e4
  obtain ⟨x, y, g1, g2, g3, rfl⟩ := gets2_some e5
  refine ha Φ F ρ σ H _ a ρ1 R e1 fun v F1 H1 R1 X1 k1 => ?_
  refine hb Φ F1 ρ1 σ H1 _ b _ R1 e3 fun u F2 H2 R2 X2 k2 => ?_
  refine hr Φ F2 _ σ H2 _ v u x y d R2 (Ag.lk R2 (k1.mono X2.1) g1) (Ag.lk R2 k2 g2) g3 fun w F3 H3 R3 X3 k3 => ?_
  split at e6
  · cases k3
    refine ⟨true, rfl, ?_⟩
    rw [if_pos rfl]
    obtain ⟨c, ρ4, e7, e8⟩ := bnd_some e6
    obtain ⟨x2, y2, g4, g5, g6, rfl⟩ := gets2_some e8
    refine hc Φ F3 _ σ H3 _ c _ R3 e7 fun t F4 H4 R4 X4 k4 => ?_
    exact hr' Φ F4 _ σ H4 Q u t x2 y2 z R4 (Ag.lk R4 ((k2.mono X3.1).mono X4.1) g4) (Ag.lk R4 k4 g5) g6 fun w' F5 H5 R5 X5 k5 => q w' F5 H5 R5 ((((X1.trans X2).trans X3).trans X4).trans X5) k5
  · cases k3
    refine ⟨false, rfl, ?_⟩
    rw [if_neg (by decide)]
    obtain ⟨rfl, rfl⟩ := ret_some e6
    exact q _ F3 H3 R3 ((X1.trans X2).trans X3) (.bl false)
  · cases e6
section
variable {X : Cx} {a b c : Expr} {ta tb tc : TE} {ma mb mc : M Ag} {pos : Pos}
theorem ev_chain {op op' : CmpOp} {r r' : R2} {f f' : PyData → PyData → Option PyData} (ho : OpR X (compareOp op) r) (hr : R2S r f) (ho' : OpR X (compareOp op') r') (hr' : R2S r' f') (ha : EX X a ta ma) (hb : EX X b tb mb) (hc : EX X c tc mc) (hm : lastMarks [op, op'] [b, c] = false := by with_unfolding_all rfl) :
    EV X (.Compare a [op, op'] [b, c] pos) (tChain r r' ta tb tc) (mChain f f' ma mb mc) := ⟨pe_chain ho ho' ha.pe hb.pe hc.pe hm, se_chain hr hr' ha.se hb.se hc.se⟩
theorem et_chain {op op' : CmpOp} {r r' : R2} {f f' : PyData → PyData → Option PyData} (ho : OpR X (compareOp op) r) (hr : R2S r f) (ho' : OpR X (compareOp op') r') (hr' : R2S r' f') (ha : EX X a ta ma) (hb : EX X b tb mb) (hc : EX X c tc mc) (hm : lastMarks [op, op'] [b, c] = false := by with_unfolding_all rfl) :
    ET X (.Compare a [op, op'] [b, c] pos) (tTest (tChain r r' ta tb tc)) (tbool (mChain f f' ma mb mc)) := ⟨pt_chain ho ho' ha.pe hb.pe hc.pe hm, stt_test (se_chain hr hr' ha.se hb.se hc.se)⟩
/-- -x -/
def fNeg : PyData → Option PyData
  | .int i => some (.int (-i))
  | _ => none
def op1 (f : PyData → Option PyData) (m : M Ag) : M PyData := bnd m fun a ρ => match a.get ρ with
  | some d => (match f d with
    | some z => some (z, ρ)
    | none => none)
  | none => none
theorem ev_neg (ha : EX X a ta ma) : EV X (.UnaryOp .USub a pos) (tUn (rU fun i => .int (-i)) ta) (op1 fNeg ma) := ⟨pe_un un_neg ha.pe, fun Φ F ρ σ H Q d ρ' R e q => by
  obtain ⟨ag, ρ1, e1, e2⟩ := bnd_some e
  refine ha.se Φ F ρ σ H _ ag ρ1 R e1 fun v F' H' R' X' k => ?_
  split at e2
  · rename_i d' hg
    split at e2
    · rename_i z hz
      cases e2
      unfold fNeg at hz
      split at hz
      · cases hz
        have lk := Ag.lk R' k hg
        exact ⟨_, lk.int, q _ F' H' R' X' (.int _)⟩
      · cases hz
    · cases e2
  · cases e2⟩
end

/-! ### all, any of lists -/
theorem rcs_all {K : PySem.W.Frag} : RCS (rAll K) fAll := fun Φ F ρ σ H Q vs ds z R k hz q => by
  unfold fAll f1 at hz
  split at hz
  · obtain ⟨v, rfl, lk⟩ := lkA1 k
    dsimp only at hz
    split at hz
    · rename_i bs hs
      cases hz
      obtain ⟨a, rfl, ha⟩ := blsL_of (K := K) R.fs lk hs
      exact ⟨a, bs, rfl, ha, q _ F H R (Ext.refl Φ F) (.bl _)⟩
    · cases hz
  · cases hz
theorem rcs_any {K : PySem.W.Frag} : RCS (rAny K) fAny := fun Φ F ρ σ H Q vs ds z R k hz q => by
  unfold fAny f1 at hz
  split at hz
  · obtain ⟨v, rfl, lk⟩ := lkA1 k
    dsimp only at hz
    split at hz
    · rename_i bs hs
      cases hz
      obtain ⟨a, rfl, ha⟩ := blsL_of (K := K) R.fs lk hs
      exact ⟨a, bs, rfl, ha, q _ F H R (Ext.refl Φ F) (.bl _)⟩
    · cases hz
  · cases hz

/-! ### names of built-ins -/
theorem bt_sum : bootBuiltins "sum" = some (.builtin "sum") := by decide +kernel
theorem bt_len : bootBuiltins "len" = some (.builtin "len") := by decide +kernel
theorem bt_all : bootBuiltins "all" = some (.builtin "all") := by decide +kernel
theorem bt_any : bootBuiltins "any" = some (.builtin "any") := by decide +kernel
theorem bt_min : bootBuiltins "min" = some (.builtin "min") := by decide +kernel
theorem bt_max : bootBuiltins "max" = some (.builtin "max") := by decide +kernel
theorem bt_abs : bootBuiltins "abs" = some (.builtin "abs") := by decide +kernel
theorem bt_sorted : bootBuiltins "sorted" = some (.builtin "sorted") := by decide +kernel
theorem bt_isinstance : bootBuiltins "isinstance" = some (.builtin "isinstance") := by decide +kernel
theorem bt_repr : bootBuiltins "repr" = some (.builtin "repr") := by decide +kernel
theorem bt_int : bootBuiltins "int" = some (.type "int") := by decide +kernel
theorem bt_bool : bootBuiltins "bool" = some (.type "bool") := by decide +kernel
theorem bt_tuple : bootBuiltins "tuple" = some (.type "tuple") := by decide +kernel
theorem bt_list : bootBuiltins "list" = some (.type "list") := by decide +kernel
theorem bt_str : bootBuiltins "str" = some (.type "str") := by decide +kernel
theorem bt_set : bootBuiltins "set" = some (.type "set") := by decide +kernel
theorem bt_dict : bootBuiltins "dict" = some (.type "dict") := by decide +kernel

/-! ### dicts of one's own -/
theorem so_dnew : SO tDNewK (ret (.od [])) := fun Φ F ρ σ H Q s ρ' R e q => by
  obtain ⟨rfl, rfl⟩ := ret_some e
  exact fun p hp => q p (.dK []) F _ (R.laid hp) (Ext.refl Φ F) (R.fresh hp) upd_same (.od (by show 0 ≤ sizeLine; exact Nat.zero_le _) .nil) rfl
theorem eo_dnew {X : Cx} {pos : Pos} : EO X (.Dict [] [] pos) tDNewK (ret (.od [])) := ⟨pe_dnewK, so_dnew⟩
def keyD : PyData → Option Key
  | .int i => some (.inl i)
  | .str x => some (.inr x)
  | _ => none
def lookK {β : Type} (kvs : List (Key × β)) (k : Key) : Option β := (kvs.find? fun kv => decide (kv.1 = k)).map (·.2)
def putD {β : Type} (kvs : List (Key × β)) (k : Key) (v : β) : List (Key × β) := if (kvs.any fun kv => decide (kv.1 = k)) = true then kvs.map (fun kv => if kv.1 = k then (kv.1, v) else kv) else kvs ++ [(k, v)]
theorem keyD_of {F : Hp} {v : V} {d : PyData} {k : Key} (h : Dn F v d) (e : keyD d = some k) : v = kV k := by
  cases h <;> simp [keyD] at e <;> subst e <;> rfl
theorem KvA.length {F : Hp} : ∀ {ps : List (Key × V)} {kvs : List (Key × PyData)}, KvA F ps kvs → ps.length = kvs.length
  | _, _, .nil => rfl
  | _, _, .cons _ t => by rw [List.length_cons, List.length_cons, KvA.length t]
theorem KvA.look {F : Hp} {k : Key} : ∀ {ps : List (Key × V)} {kvs : List (Key × PyData)}, KvA F ps kvs → (∀ d, lookK kvs k = some d → ∃ v, valV ps k = some v ∧ Dn F v d) ∧ (lookK kvs k = none → valV ps k = none)
  | _, _, .nil => ⟨fun d h => by simp [lookK] at h, fun _ => rfl⟩
  | _, _, .cons (k := k') (v := v) (d := d) (ps := ps) (kvs := kvs) a t => by
    obtain ⟨h1, h2⟩ := KvA.look (k := k) t
    by_cases hk : k' = k
    · subst hk
      refine ⟨fun e h => ?_, fun h => ?_⟩
      · simp [lookK, List.find?_cons] at h
        subst h
        exact ⟨v, by simp [valV, List.find?_cons], a⟩
      · simp [lookK, List.find?_cons] at h
    · have e1 : lookK ((k', d) :: kvs) k = lookK kvs k := by simp [lookK, List.find?_cons, hk]
      have e2 : valV ((k', v) :: ps) k = valV ps k := by simp [valV, List.find?_cons, hk]
      rw [e1, e2]
      exact ⟨h1, h2⟩
theorem KvA.any {F : Hp} {k : Key} : ∀ {ps : List (Key × V)} {kvs : List (Key × PyData)}, KvA F ps kvs → (ps.any fun kv => decide (kv.1 = k)) = kvs.any fun kv => decide (kv.1 = k)
  | _, _, .nil => rfl
  | _, _, .cons a t => by rw [List.any_cons, List.any_cons, KvA.any t]
theorem KvA.mapPut {F : Hp} {k : Key} {v : V} {d : PyData} (h : Dn F v d) : ∀ {ps : List (Key × V)} {kvs : List (Key × PyData)}, KvA F ps kvs → KvA F (ps.map fun kv => if kv.1 = k then (kv.1, v) else kv) (kvs.map fun kv => if kv.1 = k then (kv.1, d) else kv)
  | _, _, .nil => .nil
  | _, _, .cons (k := k') a t => by
    rw [List.map_cons, List.map_cons]
    by_cases hk : k' = k
    · rw [if_pos hk, if_pos hk]; exact .cons h (KvA.mapPut h t)
    · rw [if_neg hk, if_neg hk]; exact .cons a (KvA.mapPut h t)
theorem KvA.snoc {F : Hp} {k : Key} {v : V} {d : PyData} (h : Dn F v d) : ∀ {ps : List (Key × V)} {kvs : List (Key × PyData)}, KvA F ps kvs → KvA F (ps ++ [(k, v)]) (kvs ++ [(k, d)])
  | _, _, .nil => .cons h .nil
  | _, _, .cons a t => .cons a (KvA.snoc h t)
theorem KvA.put {F : Hp} {k : Key} {v : V} {d : PyData} {ps : List (Key × V)} {kvs : List (Key × PyData)} (t : KvA F ps kvs) (h : Dn F v d) : KvA F (putK ps k v) (putD kvs k d) := by
  unfold putK putD
  rw [t.any]
  split
  · exact t.mapPut h
  · exact t.snoc h
theorem put_len {β : Type} (kvs : List (Key × β)) (k : Key) (v : β) : (putD kvs k v).length ≤ kvs.length + 1 := by
  unfold putD
  split
  · rw [List.length_map]; omega
  · rw [List.length_append]; simp
/-- the dict in a slot -/
def dicOf (ρ : Ro) : Ag → Option (List (Key × PyData))
  | .o j => (match ρ[j]? with
    | some (.od kvs) => some kvs
    | some (.lk kvs) => some kvs
    | _ => none)
  | .v _ => none
theorem dic_rd {Φ : Fx} {F H : Hp} {ρ : Ro} {σ : L2.St} {v : V} {a : Ag} {kvs : List (Key × PyData)} (R : Rl Φ F ρ σ H) (k : AgOk F σ v a) (e : dicOf ρ a = some kvs) : ∃ l ps, v = .ref l ∧ Rd H l (.dK ps) ∧ KvA F ps kvs := by
  cases a with
  | v d => cases e
  | o j =>
    have k : σ[j]? = some (some v) := k
    simp only [dicOf] at e
    split at e
    · rename_i kvs' hj
      cases e
      obtain ⟨l, o, a, b, c, d, cn⟩ := R.own j _ hj rfl
      rw [k] at a; injection a with a; injection a with a
      cases cn with
      | od h1 h2 => exact ⟨l, _, a, .inl d, h2⟩
    · rename_i kvs' hj
      cases e
      obtain ⟨l, od, ps, a, b, c⟩ := R.lk j _ hj
      rw [k] at a; injection a with a; injection a with a
      exact ⟨l, ps, a, .inr ⟨od, R.gs _ _ b⟩, c⟩
    · cases e
/-- d[k], there -/
def mDGet (mo : M Ag) (mk : M PyData) : M PyData := bnd mo fun a => bnd mk fun d ρ => match dicOf ρ a with
  | some kvs => (match keyD d with
    | some k => (match lookK kvs k with
      | some z => some (z, ρ)
      | none => none)
    | none => none)
  | none => none
theorem se_dget {td ty : TE} {mo : M Ag} {mk : M PyData} (ho : SX td mo) (hk : SE ty mk) : SE (tDGet td ty) (mDGet mo mk) := fun Φ F ρ σ H Q z ρ' R e q => by
  obtain ⟨a, ρ1, e1, e2⟩ := bnd_some e
  obtain ⟨d, ρ2, e3, e4⟩ := bnd_some e2
  refine ho Φ F ρ σ H _ a ρ1 R e1 fun v F1 H1 R1 X1 k1 => ?_
  refine hk Φ F1 ρ1 σ H1 _ d ρ2 R1 e3 fun u F2 H2 R2 X2 k2 => ?_
  split at e4
  · rename_i kvs hd
    split at e4
    · rename_i k hkk
      split at e4
      · rename_i z' hz
        cases e4
        obtain ⟨l, ps, rfl, hr, ha⟩ := dic_rd R2 (k1.mono X2.1) hd
        obtain ⟨w, hw, dn⟩ := ha.look.1 _ hz
        exact ⟨l, w, rfl, .inl ⟨ps, k, hr, keyD_of k2 hkk, hw.symm⟩, q w F2 H2 R2 (X1.trans X2) dn⟩
      · cases e4
    · cases e4
  · cases e4
theorem ev_dget {X : Cx} {o i : Expr} {td ty : TE} {mo : M Ag} {mk : M PyData} {pos : Pos} (hu : X.A.units + 1 < cLine) (ho : EX X o td mo) (hk : EV X i ty mk) (hs : NoSl i := by exact fun _ _ => rfl) : EV X (.Subscript o i pos) (tDGet td ty) (mDGet mo mk) := ⟨pe_dget hu ho.pe hk.pe hs, se_dget ho.se hk.se⟩
/-- d[k] = v -/
def putMD (j : Nat) (k : Key) (d : PyData) (ρ : Ro) : Option Ro := match ρ[j]? with
  | some (.od kvs) => if kvs.length < 16777216 then some (ρ.set j (.od (putD kvs k d))) else none
  | _ => none
def sDPutM (m : M PyData) (mo : M Ag) (mk : M PyData) : S := fun ρ => match m ρ with
  | none => none
  | some (d, ρ1) => match mo ρ1 with
    | some (.o j, ρ2) => (match mk ρ2 with
      | none => none
      | some (kd, ρ3) => match keyD kd with
        | none => none
        | some k => match putMD j k d ρ3 with
          | none => none
          | some ρ4 => some (.nx, ρ4))
    | _ => none
theorem ss_dput {tv td ty : TE} {m mk : M PyData} {mo : M Ag} (h : SE tv m) (ho : SX td mo) (hk : SE ty mk) : SS (sDPut td ty tv) (sDPutM m mo mk) := fun Φ F ρ σ H D o ρ' R e q => by
  simp only [sDPutM] at e
  split at e
  · cases e
  · rename_i d ρ1 e1
    split at e
    · rename_i j ρ2 e2
      split at e
      · cases e
      · rename_i kd ρ3 e3
        split at e
        · cases e
        · rename_i k hkk
          split at e
          · cases e
          · rename_i ρ4 e4
            cases e
            refine h Φ F ρ σ H _ d ρ1 R e1 fun v F1 H1 R1 X1 kv => ?_
            refine ho Φ F1 ρ1 σ H1 _ _ ρ2 R1 e2 fun u F2 H2 R2 X2 ku => ?_
            refine hk Φ F2 ρ2 σ H2 _ kd ρ3 R2 e3 fun w F3 H3 R3 X3 kw => ?_
            have ku : σ[j]? = some (some u) := ku
            unfold putMD at e4
            split at e4
            · rename_i kvs hj
              split at e4
              · rename_i hl
                cases e4
                obtain ⟨l, ob, a, b, c, hd, cn⟩ := R3.own j _ hj rfl
                rw [ku] at a; injection a with a; injection a with a
                subst a
                cases cn with
                | @od ps _ h1 h2 =>
                  have h1' : ps.length < sizeLine := by rw [h2.length, sizeLine_is]; exact hl
                  have nw : KvA F3 (putK ps k v) (putD kvs k d) := h2.put (kv.mono (X2.trans X3).1)
                  have hw := keyD_of kw hkk
                  subst hw
                  refine ⟨l, _, rfl, DPut.k hd h1', ?_⟩
                  refine q F3 σ _ (R3.write hj rfl ku (.od ?_ nw) rfl) ((X1.trans X2).trans X3)
                  have := put_len kvs k d
                  rw [nw.length, sizeLine_is]
                  omega
              · cases e4
            · cases e4
    · cases e
theorem es_dput {X : Cx} {o i e : Expr} {tv td ty : TE} {m mk : M PyData} {mo : M Ag} {pos pos' : Pos} (hu : X.A.units + 1 < cLine) (h : EV X e tv m) (ho : EX X o td mo) (hk : EV X i ty mk) (hs : swapsWith e (some (.Subscript o i pos')) pos.line X.env = pure false := by rfl) : ES X (.Assign [.Subscript o i pos'] e pos) (sDPut td ty tv) (sDPutM m mo mk) := ⟨ps_dput hu ho.pe hk.pe h.pe hs, ss_dput h.se ho.se hk.se⟩
/-- k in d, k not in d -/
def mDIn (neg : Bool) (mk : M PyData) (mo : M Ag) : M PyData := bnd mk fun d => bnd mo fun a ρ => match dicOf ρ a with
  | some kvs => (match keyD d with
    | some k => some (.bool (if neg then !(lookK kvs k).isSome else (lookK kvs k).isSome), ρ)
    | none => none)
  | none => none
theorem look_some {F : Hp} {k : Key} {ps : List (Key × V)} {kvs : List (Key × PyData)} (h : KvA F ps kvs) : (valV ps k).isSome = (lookK kvs k).isSome := by
  cases e : lookK kvs k with
  | none => rw [h.look.2 e]; rfl
  | some d =>
    obtain ⟨v, hv, _⟩ := h.look.1 d e
    rw [hv]; rfl
theorem se_din {td ty : TE} {mo : M Ag} {mk : M PyData} (hk : SE ty mk) (ho : SX td mo) : SE (tDIn ty td) (mDIn false mk mo) := fun Φ F ρ σ H Q z ρ' R e q => by
  obtain ⟨d, ρ1, e1, e2⟩ := bnd_some e
  obtain ⟨a, ρ2, e3, e4⟩ := bnd_some e2
  refine hk Φ F ρ σ H _ d ρ1 R e1 fun u F1 H1 R1 X1 k1 => ?_
  refine ho Φ F1 ρ1 σ H1 _ a ρ2 R1 e3 fun v F2 H2 R2 X2 k2 => ?_
  split at e4
  · rename_i kvs hd
    split at e4
    · rename_i k hkk
      cases e4
      obtain ⟨l, ps, rfl, hr, ha⟩ := dic_rd R2 k2 hd
      refine ⟨l, valV ps k, rfl, .inl ⟨ps, k, hr, keyD_of k1 hkk, rfl⟩, ?_⟩
      rw [look_some ha]
      rw [if_neg (by decide)] at q
      exact q _ F2 H2 R2 (X1.trans X2) (.bl _)
    · cases e4
  · cases e4
theorem se_dnin {td ty : TE} {mo : M Ag} {mk : M PyData} (hk : SE ty mk) (ho : SX td mo) : SE (tDNotIn ty td) (mDIn true mk mo) := fun Φ F ρ σ H Q z ρ' R e q => by
  obtain ⟨d, ρ1, e1, e2⟩ := bnd_some e
  obtain ⟨a, ρ2, e3, e4⟩ := bnd_some e2
  refine hk Φ F ρ σ H _ d ρ1 R e1 fun u F1 H1 R1 X1 k1 => ?_
  refine ho Φ F1 ρ1 σ H1 _ a ρ2 R1 e3 fun v F2 H2 R2 X2 k2 => ?_
  split at e4
  · rename_i kvs hd
    split at e4
    · rename_i k hkk
      cases e4
      obtain ⟨l, ps, rfl, hr, ha⟩ := dic_rd R2 k2 hd
      refine ⟨l, valV ps k, rfl, .inl ⟨ps, k, hr, keyD_of k1 hkk, rfl⟩, ?_⟩
      rw [look_some ha]
      rw [if_pos rfl] at q
      exact q _ F2 H2 R2 (X1.trans X2) (.bl _)
    · cases e4
  · cases e4
/-- a comprehension over a dict of one's own -/
def noLk (ρ : Ro) : Bool := ρ.all fun s => match s with
  | .lk _ => false
  | _ => true
def keysOf (kvs : List (Key × PyData)) : List PyData := kvs.map fun p => match p.1 with
  | .inl i => .int i
  | .inr x => .str x
/-- what is walked stands locked: the items -/
def mKeys (m : M Ag) : M Itm := bnd m fun a ρ => match a with
  | .o j => (match ρ[j]? with
    | some (.lk kvs) => if kvs.length ≤ 16777216 then some (⟨keysOf kvs, none⟩, ρ) else none
    | _ => none)
  | _ => none
theorem keys_get {F : Hp} : ∀ {ps : List (Key × V)} {kvs : List (Key × PyData)}, KvA F ps kvs → ∀ {i : Nat} {d : PyData}, (keysOf kvs)[i]? = some d → ∃ k v, ps[i]? = some (k, v) ∧ ∀ F', Dn F' (kV k) d
  | _, _, .nil, i, d, h => by cases h
  | _, _, .cons (k := k) (v := v) a t, 0, d, h => by
    refine ⟨k, v, rfl, fun F' => ?_⟩
    cases k <;> (cases h; first | exact .int _ | exact .str _)
  | _, _, .cons a t, i + 1, d, h => by
    obtain ⟨k, v, h1, h2⟩ := keys_get t (i := i) (d := d) h
    exact ⟨k, v, h1, h2⟩
theorem si_keys {t : TE} {m : M Ag} (h : SX t m) : SI (iKeys t) (mKeys m) := fun Φ F ρ σ H R it ρ' R0 e q => by
  obtain ⟨a, ρ1, e1, e2⟩ := bnd_some e
  refine h Φ F ρ σ H _ a _ R0 e1 fun v F' H' R' X' k => ?_
  split at e2
  · rename_i j
    split at e2
    · rename_i kvs hj
      split at e2
      · rename_i hl
        cases e2
        have k : σ[j]? = some (some v) := k
        obtain ⟨l, od, ps, a, b, c⟩ := R'.lk j _ hj
        rw [k] at a; injection a with a; injection a with a
        subst a
        have hH := R'.gs _ _ b
        refine ⟨l, od, rfl, .inl ⟨ps, hH, q _ F' H' R' X' (fun Φ2 F2 ρ2 σ2 H2 R2 G2 S2 _ _ => ?_) (by show (keysOf kvs).length ≤ _; unfold keysOf; rw [List.length_map, sizeLine_is]; exact hl)⟩⟩
        have h2 : H2 l = some (.frz od (.dK ps)) := R2.gs _ _ (G2 _ _ b)
        refine ⟨fun i d hd => ?_, fun i hi => ⟨h2, ?_⟩⟩
        · obtain ⟨kk, vv, g1, g2⟩ := keys_get c hd
          refine ⟨⟨h2, (List.getElem?_eq_some_iff.mp g1).1⟩, fun v H3 hy => ?_⟩
          obtain ⟨rfl, k3, v3, g3, rfl⟩ := hy
          rw [g1] at g3
          cases g3
          exact ⟨F2, R2, Ext.refl Φ2 F2, g2 F2⟩
        · have hi : (keysOf kvs).length ≤ i := hi
          unfold keysOf at hi
          rw [List.length_map] at hi
          rw [c.length]
          exact hi
      · cases e2
    · cases e2
  · cases e2
theorem ei_keys {X : Cx} {tg e : Expr} {t : TE} {m : M Ag} (h : EX X e t m) : EI X tg e (iKeys t) (mKeys m) := ⟨pi_keys h.pe, si_keys h.se⟩
theorem Rl.lock {Φ : Fx} {F H : Hp} {ρ : Ro} {σ : L2.St} {j : Nat} {kvs : List (Key × PyData)} (R : Rl Φ F ρ σ H) (hj : ρ[j]? = some (.od kvs)) : ∃ l ps, σ[j]? = some (some (.ref l)) ∧ H l = some (.dK ps) ∧ KvA F ps kvs ∧ ps.length ≤ sizeLine ∧ Φ.G l = none ∧ F l = none ∧
    ∀ od, Rl (Φ.tag l (.frz od (.dK ps))) F (ρ.set j (.lk kvs)) σ (upd H l (.frz od (.dK ps))) := by
  obtain ⟨l, o, a, b, c, d, cn⟩ := R.own j _ hj rfl
  cases cn with
  | @od ps _ h1 h2 =>
    have il : j < ρ.length := (List.getElem?_eq_some_iff.mp hj).1
    refine ⟨l, ps, a, d, h2, h1, c, b, fun od => ?_⟩
    have back : ∀ (i : Nat) (s : Sl), (ρ.set j (.lk kvs))[i]? = some s → s.own = true → i ≠ j ∧ ρ[i]? = some s := fun i s g1 g2 => by
      by_cases hi : j = i
      · subst hi
        rw [List.getElem?_set_self il] at g1
        cases g1; cases g2
      · rw [List.getElem?_set_ne hi] at g1
        exact ⟨Ne.symm hi, g1⟩
    refine ⟨by rw [List.length_set]; exact R.len, same_upd R.fs b, same_upd2 R.gs, R.bd, fun i e h => ?_, fun i e h => ?_, fun i s g1 g2 => ?_, fun i i' s s' l' g1 g2 g3 g4 g5 g6 => ?_, fun p hp => ?_, (R.tb.tag (some_last d rfl)).kt (kt_upd (some_last d rfl))⟩
    · by_cases hi : j = i
      · subst hi
        rw [List.getElem?_set_self il] at h; cases h
      · rw [List.getElem?_set_ne hi] at h
        exact R.dat i e h
    · by_cases hi : j = i
      · subst hi
        rw [List.getElem?_set_self il] at h
        cases h
        exact ⟨l, od, ps, a, upd_same, h2⟩
      · rw [List.getElem?_set_ne hi] at h
        obtain ⟨l', od', ps', a', b', c'⟩ := R.lk i e h
        have ne : l' ≠ l := fun z => by subst z; rw [c] at b'; cases b'
        exact ⟨l', od', ps', a', show upd Φ.G l _ l' = _ by rw [upd_ne ne]; exact b', c'⟩
    · obtain ⟨hi, g1⟩ := back i s g1 g2
      obtain ⟨l', o', a', b', c', d', e'⟩ := R.own i s g1 g2
      have ne : l' ≠ l := fun z => hi (R.dj i j s _ l g1 hj g2 rfl (z ▸ a') a)
      exact ⟨l', o', a', b', show upd Φ.G l _ l' = _ by rw [upd_ne ne]; exact c', by rw [upd_ne ne]; exact d', e'⟩
    · obtain ⟨_, g1⟩ := back i s g1 g3
      obtain ⟨_, g2⟩ := back i' s' g2 g4
      exact R.dj i i' s s' l' g1 g2 g3 g4 g5 g6
    · obtain ⟨h1', ds, h2'⟩ := R.io p hp
      have : j ≠ p.1 := fun z => by rw [z, h2'] at hj; cases hj
      rw [List.getElem?_set_ne this]
      exact ⟨h1', ds, h2'⟩
theorem noLk_get {ρ : Ro} (h : noLk ρ = true) {i : Nat} {kvs : List (Key × PyData)} : ρ[i]? ≠ some (.lk kvs) := fun e => by
  have := List.all_eq_true.mp h _ (List.mem_of_getElem? e)
  cases this
theorem Rl.unlock {Φ : Fx} {F H : Hp} {ρ : Ro} {σ : L2.St} {j : Nat} {l : Addr} {od : Obj} {ps : List (Key × V)} {kvs kvs' : List (Key × PyData)} (R : Rl (Φ.tag l (.frz od (.dK ps))) F ρ σ H) (hj : ρ[j]? = some (.lk kvs')) (hn : noLk (ρ.set j .no) = true) (a : σ[j]? = some (some (.ref l))) (c : KvA F ps kvs) (hl : ps.length ≤ sizeLine) (hG : Φ.G l = none) (hF : F l = none) :
    H l = some (.frz od (.dK ps)) ∧ Rl Φ F (ρ.set j (.od kvs)) σ (upd H l (.dK ps)) := by
  have il : j < ρ.length := (List.getElem?_eq_some_iff.mp hj).1
  have nd : ∀ l', (Φ.tag l (.frz od (.dK ps))).G l' = none → l' ≠ l ∧ Φ.G l' = none := fun l' h => by
    have ne : l' ≠ l := fun z => by
      subst z
      have h : upd Φ.G l' _ l' = none := h
      rw [upd_same] at h; cases h
    have h : upd Φ.G l _ l' = none := h
    rw [upd_ne ne] at h
    exact ⟨ne, h⟩
  have own' : ∀ (i : Nat) (s : Sl), i ≠ j → (ρ.set j (.od kvs))[i]? = some s → ρ[i]? = some s := fun i s hi h => by
    rw [List.getElem?_set_ne (Ne.symm hi)] at h; exact h
  have far : ∀ (i : Nat) (s : Sl) (l' : Addr), ρ[i]? = some s → s.own = true → σ[i]? = some (some (.ref l')) → l' ≠ l := fun i s l' h1 h2 h3 => by
    obtain ⟨l2, o', a', b', c', d', e'⟩ := R.own i s h1 h2
    rw [h3] at a'; injection a' with a'; injection a' with a'; injection a' with a'
    rw [a']; exact (nd l2 c').1
  refine ⟨R.gs _ _ upd_same, by rw [List.length_set]; exact R.len, same_upd R.fs hF, fun b u h => ?_, R.bd, fun i e h => ?_, fun i e h => ?_, fun i s g1 g2 => ?_, fun i i' s s' l' g1 g2 g3 g4 g5 g6 => ?_, fun p hp => ?_, R.tb.retag (o' := .lst []).2.kt (kt_upd (some_last (R.gs _ _ upd_same) rfl))⟩
  · have ne : b ≠ l := fun z => by subst z; rw [hG] at h; cases h
    rw [upd_ne ne]
    exact R.gs b u (show upd Φ.G l _ b = _ by rw [upd_ne ne]; exact h)
  · by_cases hi : i = j
    · subst hi; rw [List.getElem?_set_self il] at h; cases h
    · exact R.dat i e (own' i _ hi h)
  · by_cases hi : i = j
    · subst hi; rw [List.getElem?_set_self il] at h; cases h
    · have h' := own' i _ hi h
      have : (ρ.set j Sl.no)[i]? = some (.lk e) := by rw [List.getElem?_set_ne (Ne.symm hi)]; exact h'
      exact absurd this (noLk_get hn)
  · by_cases hi : i = j
    · subst hi
      rw [List.getElem?_set_self il] at g1
      cases g1
      exact ⟨l, _, a, hF, hG, upd_same, .od hl c⟩
    · have g1' := own' i _ hi g1
      obtain ⟨l2, o', a', b', c', d', e'⟩ := R.own i s g1' g2
      obtain ⟨n1, n2⟩ := nd l2 c'
      exact ⟨l2, o', a', b', n2, by rw [upd_ne n1]; exact d', e'⟩
  · by_cases hi : i = j
    · by_cases hi' : i' = j
      · rw [hi, hi']
      · have g2' := own' i' _ hi' g2
        subst hi
        rw [a] at g5; injection g5 with g5; injection g5 with g5; injection g5 with g5
        subst g5
        exact absurd rfl (far i' s' l g2' g4 g6)
    · have g1' := own' i _ hi g1
      by_cases hi' : i' = j
      · subst hi'
        rw [a] at g6; injection g6 with g6; injection g6 with g6; injection g6 with g6
        subst g6
        exact absurd rfl (far i s l g1' g3 g5)
      · exact R.dj i i' s s' l' g1' (own' i' _ hi' g2) g3 g4 g5 g6
  · obtain ⟨h1', ds, h2'⟩ := R.io p hp
    have : j ≠ p.1 := fun z => by rw [z, h2'] at hj; cases hj
    rw [List.getElem?_set_ne this]
    exact ⟨h1', ds, h2'⟩
def mLock (j : Nat) (m : M Sl) : M Sl := fun ρ => match ρ[j]? with
  | some (.od kvs) => (match m (ρ.set j (.lk kvs)) with
    | some (s, ρ') => (match ρ'[j]? with
      | some (.lk _) => if noLk (ρ'.set j .no) = true then some (s, ρ'.set j (.od kvs)) else none
      | _ => none)
    | none => none)
  | _ => none
theorem lock_core {t : TE} {m : M Sl} (h : SO t m) {Φ : Fx} {F H : Hp} {ρ ρ' : Ro} {σ : L2.St} {j : Nat} {s : Sl} (R : Rl Φ F ρ σ H) (e : mLock j m ρ = some (s, ρ')) : ∃ l u, H l = some u ∧ Mut (some u) ∧ ∀ (od : Obj) (Q : VK),
    (∀ p o F' H', H' l = some (.frz od u) → Rl Φ F' ρ' σ (upd H' l u) → Ext Φ F F' → Fresh Φ F' ρ' σ p → (upd H' l u) p = some o → Cn F' o s → s.isBr = false → Q (.ref p) H') → t σ (upd H l (.frz od u)) Q := by
  simp only [mLock] at e
  split at e
  · rename_i kvs hj
    split at e
    · rename_i s' ρ1 e1
      split at e
      · rename_i kvs' hj1
        split at e
        · rename_i hn
          cases e
          obtain ⟨l, ps, a, b, c, d, g, f, K⟩ := R.lock hj
          refine ⟨l, _, b, trivial, fun od Q q => ?_⟩
          refine h _ F _ σ _ Q s ρ1 (K od) e1 fun p o F' H' R' X' fr hp hc hb => ?_
          have fl : F' l = none := (X'.2 l _ upd_same).trans f
          have X2 : Ext Φ F F' := ⟨X'.1, fun b u hb => X'.2 b u (by
            have ne : b ≠ l := fun z => by subst z; rw [g] at hb; cases hb
            show upd Φ.G l _ b = _
            rw [upd_ne ne]; exact hb)⟩
          obtain ⟨u1, u2⟩ := R'.unlock (kvs := kvs) hj1 hn a (c.mono X'.1) d g fl
          have pl : p ≠ l := fun z => by
            have := fr.2.1
            subst z
            have this : upd Φ.G p _ p = none := this
            rw [upd_same] at this; cases this
          have pG : Φ.G p = none := by
            have this : upd Φ.G l _ p = none := fr.2.1
            rw [upd_ne pl] at this; exact this
          refine q p o F' H' u1 u2 X2 ⟨fr.1, pG, fun i t h1 h2 h3 => ?_⟩ (by rw [upd_ne pl]; exact hp) hc hb
          by_cases hi : i = j
          · subst hi
            rw [a] at h3; injection h3 with h3; injection h3 with h3; injection h3 with h3
            exact pl h3.symm
          · rw [List.getElem?_set_ne (Ne.symm hi)] at h1
            exact fr.2.2 i t h1 h2 h3
        · cases e
      · cases e
    · cases e
  · cases e
theorem eo_lock {X : Cx} {e : Expr} {t : TE} {m : M Sl} (j : Nat) (h : EO X e t m) : EO X e (tLockE t) (mLock j m) := ⟨pe_lock h.pe, fun Φ F ρ σ H Q s ρ' R e q => by
  obtain ⟨l, u, h1, h2, h3⟩ := lock_core h.se R e
  exact ⟨l, u, h1, h2, fun od => h3 od _ fun p o F' H' a b c d g i k => ⟨a, q p o F' _ b c d g i k⟩⟩⟩
/-- x = [.. for .. in d ..] -/
theorem es_lock {X : Cx} {st : Stmt} {t : TE} {m : M Sl} (i j : Nat) (h : PS X st (tAsg t (gName i))) (hs : SO t m) : ES X st (tLock (tAsg t (gName i))) (sSet i (rvO (mLock j m))) := ⟨ps_lock h, fun Φ F ρ σ H D o ρ' R e q => by
  simp only [sSet] at e
  split at e
  · cases e
  · rename_i a ρ1 e1
    obtain ⟨s, ρ2, e3, e4⟩ := bnd_some e1
    obtain ⟨rfl, rfl⟩ := ret_some e4
    split at e
    · cases e
    · rename_i ρ3 e5
      cases e
      obtain ⟨l, u, h1, h2, h3⟩ := lock_core hs R e3
      refine ⟨l, u, h1, h2, fun od => h3 od _ fun p o F' H' a b c d g i' k => ⟨a, ?_⟩⟩
      exact q F' _ _ (b.stR (a := .f s) (v := .ref p) ⟨p, o, rfl, d, g, i', k⟩ e5) c⟩
end DL
end
section
/-! short names for a printed derivation -/
namespace DL
open PySem PySem.Spec PyProof.Rows L2
variable [Tbs]
def fSub : PyData → PyData → Option PyData := fII (fun _ _ => true) fun i j => .int (i - j)
def fMul : PyData → PyData → Option PyData := fII cMul fun i j => .int (i * j)
def fDiv : PyData → PyData → Option PyData := fII cDiv fun i j => .int (i / j)
def fMod : PyData → PyData → Option PyData := fII cMod fun i j => .int (i % j)
def fPow : PyData → PyData → Option PyData := fII cPow fun i j => .int (i ^ j.toNat)
def fLe : PyData → PyData → Option PyData := fII (fun _ _ => true) fun i j => .bool (decide (i ≤ j))
def fGt : PyData → PyData → Option PyData := fII (fun _ _ => true) fun i j => .bool (decide (j < i))
def fGe : PyData → PyData → Option PyData := fII (fun _ _ => true) fun i j => .bool (decide (j ≤ i))
abbrev rAddU (K : PySem.W.Frag) : R2 := fun x y H Q => (rI0 fun i j => .int (i + j)) x y H Q ∨ rCatA K x y H Q
abbrev rLtU (K : PySem.W.Frag) : R2 := fun x y H Q => (rI0 fun i j => .bl (decide (i < j))) x y H Q ∨ rLtT K x y H Q
abbrev rLeU : R2 := rI0 fun i j => .bl (decide (i ≤ j))
abbrev rIsU : R2 := fun x y H Q => (y = .non ∧ Q (.bl (decide (x = .non))) H) ∨ rIsB x y H Q
abbrev rNisU : R2 := fun x y H Q => (y = .non ∧ Q (.bl (!decide (x = .non))) H) ∨ rNotB x y H Q
abbrev rInsU : V → List V → Hp → VK → Prop := fun x vs H Q => ∃ (l : Addr) (xs : List V) (i : Int) (y : V), x = .ref l ∧ vs = [.int i, y] ∧ H l = some (.lst xs) ∧ xs.length < sizeLine ∧ 0 ≤ i ∧ i < 2 ^ 63 ∧ Q .non (upd H l (.lst (xs.take i.toNat ++ [y] ++ xs.drop i.toNat)))
theorem q_add {K : PySem.W.Frag} : R2S (fun x y H Q => (rI0 fun i j => .int (i + j)) x y H Q ∨ rCatA K x y H Q) fAdd := r2s_add.or r2s_catT
theorem q_sub : R2S (rI0 fun i j => .int (i - j)) fSub := r2s_sub
theorem q_mul : R2S (rI CMulW fun i j => .int (i * j)) fMul := r2s_mul
theorem q_div : R2S (rI CDivW fun i j => .int (i / j)) fDiv := r2s_div
theorem q_mod : R2S (rI (fun _ j => 0 < j) fun i j => .int (i % j)) fMod := r2s_mod
theorem q_pow : R2S (rI CPowB fun i j => .int (i ^ j.toNat)) fPow := r2s_pow
theorem q_le : R2S (rI0 fun i j => .bl (decide (i ≤ j))) fLe := r2s_le
theorem q_gt : R2S (rI0 fun i j => .bl (decide (j < i))) fGt := r2s_gt
theorem q_ge : R2S (rI0 fun i j => .bl (decide (j ≤ i))) fGe := r2s_ge
section
variable {X : Cx} {a b : Expr} {ta tb : TE} {ma mb : M Ag} {pos : Pos} {k : Nat}
theorem v_add (ha : EX X a ta ma) (hb : EX X b tb mb) : EV X (.BinOp a .Add b pos) (tOp (rAddU X.K) ta tb) (op2 fAdd ma mb) := ev_op (op_add.or op_catA) q_add ha hb
theorem v_sub (ha : EX X a ta ma) (hb : EX X b tb mb) : EV X (.BinOp a .Sub b pos) (tOp (rI0 fun i j => .int (i - j)) ta tb) (op2 fSub ma mb) := ev_op op_sub q_sub ha hb
theorem v_mul (ha : EX X a ta ma) (hb : EX X b tb mb) : EV X (.BinOp a .Mult b pos) (tOp (rI CMulW fun i j => .int (i * j)) ta tb) (op2 fMul ma mb) := ev_op op_mulW q_mul ha hb
theorem v_div (ha : EX X a ta ma) (hb : EX X b tb mb) : EV X (.BinOp a .FloorDiv b pos) (tOp (rI CDivW fun i j => .int (i / j)) ta tb) (op2 fDiv ma mb) := ev_op op_fdivW q_div ha hb
theorem v_mod (ha : EX X a ta ma) (hb : EX X b tb mb) : EV X (.BinOp a .Mod b pos) (tOp (rI (fun _ j => 0 < j) fun i j => .int (i % j)) ta tb) (op2 fMod ma mb) := ev_op op_mod q_mod ha hb
theorem v_pow (ha : EX X a ta ma) (hb : EX X b tb mb) : EV X (.BinOp a .Pow b pos) (tOp (rI CPowB fun i j => .int (i ^ j.toNat)) ta tb) (op2 fPow ma mb) := ev_op op_powB q_pow ha hb
theorem v_lt (hr : Room k X.A) (ha : EX X a ta ma) (hb : EX X b tb mb) : EV X (.Compare a [.Lt] [b] pos) (tOp (rLtU X.K) ta tb) (op2 fLt ma mb) := ev_cmp (op_lt.or (op_ltT hr.units0)) r2s_ltA (nomark _) ha hb
theorem v_le (ha : EX X a ta ma) (hb : EX X b tb mb) : EV X (.Compare a [.LtE] [b] pos) (tOp rLeU ta tb) (op2 fLe ma mb) := ev_cmp op_le q_le (nomark _) ha hb
theorem v_gt (ha : EX X a ta ma) (hb : EX X b tb mb) : EV X (.Compare a [.Gt] [b] pos) (tOp (rI0 fun i j => .bl (decide (j < i))) ta tb) (op2 fGt ma mb) := ev_cmp op_gt q_gt (nomark _) ha hb
theorem v_ge (ha : EX X a ta ma) (hb : EX X b tb mb) : EV X (.Compare a [.GtE] [b] pos) (tOp (rI0 fun i j => .bl (decide (j ≤ i))) ta tb) (op2 fGe ma mb) := ev_cmp op_ge q_ge (nomark _) ha hb
theorem v_eq (hr : Room k X.A) (ha : EX X a ta ma) (hb : EX X b tb mb) : EV X (.Compare a [.Eq] [b] pos) (tOp (rEqD X.K) ta tb) (op2 fEq ma mb) := ev_cmp (op_eqD hr.units) r2s_eq (nomark _) ha hb
theorem v_ne (hr : Room k X.A) (ha : EX X a ta ma) (hb : EX X b tb mb) : EV X (.Compare a [.NotEq] [b] pos) (tOp (rNeD X.K) ta tb) (op2 fNe ma mb) := ev_cmp (op_neD hr.units) r2s_ne (nomark _) ha hb
theorem v_is (ha : EX X a ta ma) (hb : EX X b tb mb) : EV X (.Compare a [.Is] [b] pos) (tOp rIsU ta tb) (op2 fIs ma mb) := ev_cmp (op_isN.or op_isBl) r2s_is (nomark _) ha hb
theorem v_nis (ha : EX X a ta ma) (hb : EX X b tb mb) : EV X (.Compare a [.IsNot] [b] pos) (tOp rNisU ta tb) (op2 fNis ma mb) := ev_cmp (op_notN.or op_notBl) r2s_nis (nomark _) ha hb
theorem v_in (ha : EX X a ta ma) (hb : EX X b tb mb) (hm : behindInMarks .In b = false := by rfl) : EV X (.Compare a [.In] [b] pos) (tOp (rIn X.K false) ta tb) (op2 fIn ma mb) := ev_cmp op_in_seq r2s_in hm ha hb
theorem v_nin (ha : EX X a ta ma) (hb : EX X b tb mb) (hm : behindInMarks .NotIn b = false := by rfl) : EV X (.Compare a [.NotIn] [b] pos) (tOp (rIn X.K true) ta tb) (op2 fNin ma mb) := ev_cmp op_notIn_seq r2s_nin hm ha hb
theorem t_lt (hr : Room k X.A) (ha : EX X a ta ma) (hb : EX X b tb mb) : ET X (.Compare a [.Lt] [b] pos) (tTest (tOp (rLtU X.K) ta tb)) (tbool (op2 fLt ma mb)) := et_cmp (op_lt.or (op_ltT hr.units0)) r2s_ltA (nomark _) ha hb
theorem t_le (ha : EX X a ta ma) (hb : EX X b tb mb) : ET X (.Compare a [.LtE] [b] pos) (tTest (tOp rLeU ta tb)) (tbool (op2 fLe ma mb)) := et_cmp op_le q_le (nomark _) ha hb
theorem t_gt (ha : EX X a ta ma) (hb : EX X b tb mb) : ET X (.Compare a [.Gt] [b] pos) (tTest (tOp (rI0 fun i j => .bl (decide (j < i))) ta tb)) (tbool (op2 fGt ma mb)) := et_cmp op_gt q_gt (nomark _) ha hb
theorem t_ge (ha : EX X a ta ma) (hb : EX X b tb mb) : ET X (.Compare a [.GtE] [b] pos) (tTest (tOp (rI0 fun i j => .bl (decide (j ≤ i))) ta tb)) (tbool (op2 fGe ma mb)) := et_cmp op_ge q_ge (nomark _) ha hb
theorem t_eq (hr : Room k X.A) (ha : EX X a ta ma) (hb : EX X b tb mb) : ET X (.Compare a [.Eq] [b] pos) (tTest (tOp (rEqD X.K) ta tb)) (tbool (op2 fEq ma mb)) := et_cmp (op_eqD hr.units) r2s_eq (nomark _) ha hb
theorem t_ne (hr : Room k X.A) (ha : EX X a ta ma) (hb : EX X b tb mb) : ET X (.Compare a [.NotEq] [b] pos) (tTest (tOp (rNeD X.K) ta tb)) (tbool (op2 fNe ma mb)) := et_cmp (op_neD hr.units) r2s_ne (nomark _) ha hb
theorem t_is (ha : EX X a ta ma) (hb : EX X b tb mb) : ET X (.Compare a [.Is] [b] pos) (tTest (tOp rIsU ta tb)) (tbool (op2 fIs ma mb)) := et_cmp (op_isN.or op_isBl) r2s_is (nomark _) ha hb
theorem t_nis (ha : EX X a ta ma) (hb : EX X b tb mb) : ET X (.Compare a [.IsNot] [b] pos) (tTest (tOp rNisU ta tb)) (tbool (op2 fNis ma mb)) := et_cmp (op_notN.or op_notBl) r2s_nis (nomark _) ha hb
theorem t_in (ha : EX X a ta ma) (hb : EX X b tb mb) (hm : behindInMarks .In b = false := by rfl) : ET X (.Compare a [.In] [b] pos) (tTest (tOp (rIn X.K false) ta tb)) (tbool (op2 fIn ma mb)) := et_cmp op_in_seq r2s_in hm ha hb
theorem t_nin (ha : EX X a ta ma) (hb : EX X b tb mb) (hm : behindInMarks .NotIn b = false := by rfl) : ET X (.Compare a [.NotIn] [b] pos) (tTest (tOp (rIn X.K true) ta tb)) (tbool (op2 fNin ma mb)) := et_cmp op_notIn_seq r2s_nin hm ha hb

/-- a chain of two -/
theorem v_lele {c : Expr} {tc : TE} {mc : M Ag} (ha : EX X a ta ma) (hb : EX X b tb mb) (hc : EX X c tc mc) (hm : lastMarks [.LtE, .LtE] [b, c] = false := by with_unfolding_all rfl) : EV X (.Compare a [.LtE, .LtE] [b, c] pos) (tChain rLeU rLeU ta tb tc) (mChain fLe fLe ma mb mc) := ev_chain op_le q_le op_le q_le ha hb hc hm
theorem v_ltlt {c : Expr} {tc : TE} {mc : M Ag} (hr : Room k X.A) (ha : EX X a ta ma) (hb : EX X b tb mb) (hc : EX X c tc mc) (hm : lastMarks [.Lt, .Lt] [b, c] = false := by with_unfolding_all rfl) : EV X (.Compare a [.Lt, .Lt] [b, c] pos) (tChain (rLtU X.K) (rLtU X.K) ta tb tc) (mChain fLt fLt ma mb mc) := ev_chain (op_lt.or (op_ltT hr.units0)) r2s_ltA (op_lt.or (op_ltT hr.units0)) r2s_ltA ha hb hc hm
theorem v_lelt {c : Expr} {tc : TE} {mc : M Ag} (hr : Room k X.A) (ha : EX X a ta ma) (hb : EX X b tb mb) (hc : EX X c tc mc) (hm : lastMarks [.LtE, .Lt] [b, c] = false := by with_unfolding_all rfl) : EV X (.Compare a [.LtE, .Lt] [b, c] pos) (tChain rLeU (rLtU X.K) ta tb tc) (mChain fLe fLt ma mb mc) := ev_chain op_le q_le (op_lt.or (op_ltT hr.units0)) r2s_ltA ha hb hc hm
theorem v_ltle {c : Expr} {tc : TE} {mc : M Ag} (hr : Room k X.A) (ha : EX X a ta ma) (hb : EX X b tb mb) (hc : EX X c tc mc) (hm : lastMarks [.Lt, .LtE] [b, c] = false := by with_unfolding_all rfl) : EV X (.Compare a [.Lt, .LtE] [b, c] pos) (tChain (rLtU X.K) rLeU ta tb tc) (mChain fLt fLe ma mb mc) := ev_chain (op_lt.or (op_ltT hr.units0)) r2s_ltA op_le q_le ha hb hc hm
theorem t_lele {c : Expr} {tc : TE} {mc : M Ag} (ha : EX X a ta ma) (hb : EX X b tb mb) (hc : EX X c tc mc) (hm : lastMarks [.LtE, .LtE] [b, c] = false := by with_unfolding_all rfl) : ET X (.Compare a [.LtE, .LtE] [b, c] pos) (tTest (tChain rLeU rLeU ta tb tc)) (tbool (mChain fLe fLe ma mb mc)) := et_chain op_le q_le op_le q_le ha hb hc hm
theorem t_ltlt {c : Expr} {tc : TE} {mc : M Ag} (hr : Room k X.A) (ha : EX X a ta ma) (hb : EX X b tb mb) (hc : EX X c tc mc) (hm : lastMarks [.Lt, .Lt] [b, c] = false := by with_unfolding_all rfl) : ET X (.Compare a [.Lt, .Lt] [b, c] pos) (tTest (tChain (rLtU X.K) (rLtU X.K) ta tb tc)) (tbool (mChain fLt fLt ma mb mc)) := et_chain (op_lt.or (op_ltT hr.units0)) r2s_ltA (op_lt.or (op_ltT hr.units0)) r2s_ltA ha hb hc hm
theorem t_lelt {c : Expr} {tc : TE} {mc : M Ag} (hr : Room k X.A) (ha : EX X a ta ma) (hb : EX X b tb mb) (hc : EX X c tc mc) (hm : lastMarks [.LtE, .Lt] [b, c] = false := by with_unfolding_all rfl) : ET X (.Compare a [.LtE, .Lt] [b, c] pos) (tTest (tChain rLeU (rLtU X.K) ta tb tc)) (tbool (mChain fLe fLt ma mb mc)) := et_chain op_le q_le (op_lt.or (op_ltT hr.units0)) r2s_ltA ha hb hc hm
theorem t_ltle {c : Expr} {tc : TE} {mc : M Ag} (hr : Room k X.A) (ha : EX X a ta ma) (hb : EX X b tb mb) (hc : EX X c tc mc) (hm : lastMarks [.Lt, .LtE] [b, c] = false := by with_unfolding_all rfl) : ET X (.Compare a [.Lt, .LtE] [b, c] pos) (tTest (tChain (rLtU X.K) rLeU ta tb tc)) (tbool (mChain fLt fLe ma mb mc)) := et_chain (op_lt.or (op_ltT hr.units0)) r2s_ltA op_le q_le ha hb hc hm
end
theorem if_nil {X : Cx} : PTs X [] tYes ∧ STt tYes (ret true) := ⟨pts_nil, fun Φ F ρ σ H Q b ρ' R e q => by
  obtain ⟨rfl, rfl⟩ := ret_some e
  exact q F H R (Ext.refl Φ F)⟩
theorem if_one {X : Cx} {c : Expr} {t : TT} {m : M Bool} (h : ET X c t m) : PTs X [c] t ∧ STt t m := ⟨pts_one h.pe, h.se⟩
/-! built-ins by name -/
section
variable {X : Cx} {p pos : Pos} {e : Expr} {es : List Expr} {t : TA} {m : M (List Ag)} {k : Nat}
theorem c_len (hm : X.mg "len" = none) (ha : EA X [e] t m) (hg : Gl X "len" := by rfl) (he : starEach [e] X.env = (false, eval e X.env) :: starEach [] X.env := by rfl) : EV X (.Call (.Name "len" p) [e] [] pos) (tCB (fun xs H Q => ∃ p ys, xs = [.ref p] ∧ (SqL X.K H p ys ∨ SqT X.K H p ys) ∧ Q (.int ys.length) H) t) (opA fLen m) := ev_callB call_len_seq rcs_len hg hm bt_len ha (he := he)
theorem c_sum (hc : X.calm = true) (hm : X.mg "sum" = none) (ha : EA X [e] t m) (hg : Gl X "sum" := by rfl) (he : starEach [e] X.env = (false, eval e X.env) :: starEach [] X.env := by rfl) : EV X (.Call (.Name "sum" p) [e] [] pos) (tCB (rSum X.K) t) (opA fSum m) := ev_callB (cr_sum hc) rcs_sum hg hm bt_sum ha (he := he)
theorem c_all (hc : X.calm = true) (hm : X.mg "all" = none) (ha : EA X [e] t m) (hg : Gl X "all" := by rfl) (he : starEach [e] X.env = (false, eval e X.env) :: starEach [] X.env := by rfl) : EV X (.Call (.Name "all" p) [e] [] pos) (tCB (rAll X.K) t) (opA fAll m) := ev_callB (cr_all hc) rcs_all hg hm bt_all ha (he := he)
theorem c_any (hc : X.calm = true) (hm : X.mg "any" = none) (ha : EA X [e] t m) (hg : Gl X "any" := by rfl) (he : starEach [e] X.env = (false, eval e X.env) :: starEach [] X.env := by rfl) : EV X (.Call (.Name "any" p) [e] [] pos) (tCB (rAny X.K) t) (opA fAny m) := ev_callB (cr_any hc) rcs_any hg hm bt_any ha (he := he)
theorem c_abs (hm : X.mg "abs" = none) (ha : EA X [e] t m) (hg : Gl X "abs" := by rfl) (he : starEach [e] X.env = (false, eval e X.env) :: starEach [] X.env := by rfl) : EV X (.Call (.Name "abs" p) [e] [] pos) (tCB (fun xs H Q => ∃ i, xs = [.int i] ∧ Q (.int (if i < 0 then -i else i)) H) t) (opA fAbs m) := ev_callB call_abs rcs_abs hg hm bt_abs ha (he := he)
theorem c_max (hc : X.calm = true) (hm : X.mg "max" = none) (ha : EA X (e :: es) t m) (hg : Gl X "max" := by rfl) (he : starEach (e :: es) X.env = (false, eval e X.env) :: starEach es X.env := by rfl) (hpl : (backTo pos (starEach es X.env)).any (·.1) = false := by rfl) : EV X (.Call (.Name "max" p) (e :: es) [] pos) (tCB (fun xs H Q => rMax X.K xs H Q ∨ ∃ i j, xs = [.int i, .int j] ∧ Q (.int (if j > i then j else i)) H) t) (opA fMax m) := ev_callB ((cr_max hc).or (call_max2 hc)) rcs_max hg hm bt_max ha (he := he) (hpl := hpl)
theorem c_min (hc : X.calm = true) (hm : X.mg "min" = none) (ha : EA X (e :: es) t m) (hg : Gl X "min" := by rfl) (he : starEach (e :: es) X.env = (false, eval e X.env) :: starEach es X.env := by rfl) (hpl : (backTo pos (starEach es X.env)).any (·.1) = false := by rfl) : EV X (.Call (.Name "min" p) (e :: es) [] pos) (tCB (fun xs H Q => rMin X.K xs H Q ∨ ∃ i j, xs = [.int i, .int j] ∧ Q (.int (if j < i then j else i)) H) t) (opA fMin m) := ev_callB ((cr_min hc).or (call_min2 hc)) rcs_min hg hm bt_min ha (he := he) (hpl := hpl)
theorem c_int (hm : X.mg "int" = none) (ha : EA X [e] t m) (hg : Gl X "int" := by rfl) (he : starEach [e] X.env = (false, eval e X.env) :: starEach [] X.env := by rfl) : EV X (.Call (.Name "int" p) [e] [] pos) (tCB (fun xs H Q => (∃ i, xs = [.int i] ∧ Q (.int i) H) ∨ ∃ k, xs = [.bl k] ∧ Q (.int (if k then 1 else 0)) H) t) (opA fInt m) := ev_callT call_int1 rcs_int hg hm bt_int ha (he := he)
theorem c_tuple (hm : X.mg "tuple" = none) (ha : EA X [e] t m) (hg : Gl X "tuple" := by rfl) (he : starEach [e] X.env = (false, eval e X.env) :: starEach [] X.env := by rfl) : EV X (.Call (.Name "tuple" p) [e] [] pos) (tCB (fun xs H Q => ∃ p ys, xs = [.ref p] ∧ ((SqL X.K H p ys ∧ ∀ l, H l = none → Q (.ref l) (upd H l (.tup ys))) ∨ (SqT X.K H p ys ∧ Q (.ref p) H))) t) (opA fTuple m) := ev_callT call_tuple_of rcs_tuple hg hm bt_tuple ha (he := he)
theorem o_list (hm : X.mg "list" = none) (ha : EA X [e] t m) (hg : Gl X "list" := by rfl) (he : starEach [e] X.env = (false, eval e X.env) :: starEach [] X.env := by rfl) : EO X (.Call (.Name "list" p) [e] [] pos) (tCB (fun xs H Q => ∃ p ys, xs = [.ref p] ∧ (SqL X.K H p ys ∨ SqT X.K H p ys) ∧ ∀ l, H l = none → Q (.ref l) (upd H l (.lst ys))) t) (opA fList m) := eo_callT call_list_of rco_list hg hm bt_list ha (he := he)
theorem o_sorted (hr : Room k X.A) (hm : X.mg "sorted" = none) (ha : EA X [e] t m) (hg : Gl X "sorted" := by rfl) (he : starEach [e] X.env = (false, eval e X.env) :: starEach [] X.env := by rfl) : EO X (.Call (.Name "sorted" p) [e] [] pos) (tCB (rSortD X.K) t) (opA fSorted m) := eo_callB (cr_sortD hr.units) rco_sorted hg hm bt_sorted ha (he := he)
theorem c_isi {T : String} {x : Str} {te : TE} {me : M Ag} {p2 : Pos} (hm : X.mg "isinstance" = none) (hm2 : X.mg x = none) (hv2 : bootBuiltins x = some (.type T)) (h : EX X e te me) (hg : Gl X "isinstance" := by rfl) (hg2 : Gl X x := by rfl) (hn : x ≠ "__name__" := by decide) (hd : (x == ("__debug__" : Str)) = false := by decide)
    (hs1 : starEach [e, .Name x p2] X.env = (false, eval e X.env) :: starEach [.Name x p2] X.env := by rfl) : EV X (.Call (.Name "isinstance" p) [e, .Name x p2] [] pos) (tCB (rIsi X.K) (tCons te (tCons (tC (.ty T)) tNil))) (mIsi T me) := ev_isi hg hm bt_isinstance hg2 hm2 hv2 h (hn := hn) (hd := hd) (hs1 := hs1)
/-- methods of one's own lists -/
theorem m_append {o : Expr} {to : TE} {mo : M Ag} {apos : Pos} (ho : EX X o to mo) (ha : EA X [e] t m) (hbase : attributeBase o "append" X.env (eval o X.env) = eval o X.env := by rfl)
    (hfew : ((backTo pos (starEach [e] X.env)).all (fun x => !x.1) && (backToKw pos (keywordEach [] X.env)).all (fun x => x.1.isSome) && decide (([e] : List Expr).length + ([] : List Keyword).length + (if ([] : List Keyword).isEmpty then 0 else 1) < 30)) = true := by rfl)
    (hline : (apos.endLine == pos.line) = true := by rfl) (hs : starEach [e] X.env = (false, eval e X.env) :: starEach [] X.env := by rfl) : EV X (.Call (.Attribute o "append" apos) [e] [] pos) (tBM X.K "list" rAppend to t) (mMt fAppend mo m) := ev_mt PySem.F.plainAttrs_list PySem.F.slot_list_append PySem.F.type_list_append mt_append rm_append ho ha hbase hfew hline hs
theorem m_extend {o : Expr} {to : TE} {mo : M Ag} {apos : Pos} (ho : EX X o to mo) (ha : EA X [e] t m) (hbase : attributeBase o "extend" X.env (eval o X.env) = eval o X.env := by rfl)
    (hfew : ((backTo pos (starEach [e] X.env)).all (fun x => !x.1) && (backToKw pos (keywordEach [] X.env)).all (fun x => x.1.isSome) && decide (([e] : List Expr).length + ([] : List Keyword).length + (if ([] : List Keyword).isEmpty then 0 else 1) < 30)) = true := by rfl)
    (hline : (apos.endLine == pos.line) = true := by rfl) (hs : starEach [e] X.env = (false, eval e X.env) :: starEach [] X.env := by rfl) : EV X (.Call (.Attribute o "extend" apos) [e] [] pos) (tBM X.K "list" (rExt X.K) to t) (mMt fExtend mo m) := ev_mt PySem.F.plainAttrs_list PySem.F.slot_list_extend PySem.F.type_list_extend mt_ext rm_extend ho ha hbase hfew hline hs
theorem m_pop {o : Expr} {to : TE} {mo : M Ag} {apos : Pos} (ho : EX X o to mo) (ha : EA X [e] t m) (hbase : attributeBase o "pop" X.env (eval o X.env) = eval o X.env := by rfl)
    (hfew : ((backTo pos (starEach [e] X.env)).all (fun x => !x.1) && (backToKw pos (keywordEach [] X.env)).all (fun x => x.1.isSome) && decide (([e] : List Expr).length + ([] : List Keyword).length + (if ([] : List Keyword).isEmpty then 0 else 1) < 30)) = true := by rfl)
    (hline : (apos.endLine == pos.line) = true := by rfl) (hs : starEach [e] X.env = (false, eval e X.env) :: starEach [] X.env := by rfl) : EV X (.Call (.Attribute o "pop" apos) [e] [] pos) (tBM X.K "list" rPopAt to t) (mMt fPopAt mo m) := ev_mt PySem.F.plainAttrs_list PySem.F.slot_list_pop PySem.F.type_list_pop mt_popAt rm_popAt ho ha hbase hfew hline hs
theorem m_insert {o e2 : Expr} {to : TE} {mo : M Ag} {apos : Pos} (ho : EX X o to mo) (ha : EA X [e, e2] t m) (hbase : attributeBase o "insert" X.env (eval o X.env) = eval o X.env := by rfl)
    (hfew : ((backTo pos (starEach [e, e2] X.env)).all (fun x => !x.1) && (backToKw pos (keywordEach [] X.env)).all (fun x => x.1.isSome) && decide (([e, e2] : List Expr).length + ([] : List Keyword).length + (if ([] : List Keyword).isEmpty then 0 else 1) < 30)) = true := by rfl)
    (hline : (apos.endLine == pos.line) = true := by rfl) (hs : starEach [e, e2] X.env = (false, eval e X.env) :: starEach [e2] X.env := by rfl) (hplain : (backTo pos (starEach [e2] X.env)).any (·.1) = false := by rfl) : EV X (.Call (.Attribute o "insert" apos) [e, e2] [] pos) (tBM X.K "list" rInsU to t) (mMt fInsert mo m) := ev_mt PySem.F.plainAttrs_list PySem.F.slot_list_insert PySem.F.type_list_insert mt_insert rm_insert ho ha hbase hfew hline hs hplain
end
end DL
end
section
namespace DL
open PySem PySem.Spec PyProof.Rows L2
variable [Tbs]
theorem lockPS {X : Cx} {st : Stmt} {t : TS} {m : S} (h : ES X st t m) : PS X st t := h.pe
theorem lockSO {X : Cx} {e : Expr} {t : TE} {m : M Sl} (h : EO X e t m) : SO t m := h.se

/-! ### the reading that a mirror has of itself -/
def cE (m : M PyData) : TE := fun σ H Q => ∃ Φ F ρ d ρ', Rl Φ F ρ σ H ∧ m ρ = some (d, ρ') ∧ ∀ v F' H', Rl Φ F' ρ' σ H' → Ext Φ F F' → Dn F' v d → Q v H'
def cT (m : M Bool) : TT := fun σ H Q => ∃ Φ F ρ b ρ', Rl Φ F ρ σ H ∧ m ρ = some (b, ρ') ∧ ∀ F' H', Rl Φ F' ρ' σ H' → Ext Φ F F' → Q b H'
def cG (gs : List Nat) (m : PyData → Ro → Option Ro) : TG := fun v σ H Q => ∃ Φ F ρ d ρ', Rl Φ F ρ σ H ∧ Dn F v d ∧ m d ρ = some ρ' ∧ ∀ σ', Rl Φ F ρ' σ' H → (∀ vs, (∀ i ∈ gs, i ∈ vs) → wipe σ' vs = wipe σ vs) → Q σ' H
theorem EV.can {X : Cx} {e : Expr} {t : TE} {m : M PyData} (h : EV X e t m) : EV X e (cE m) m :=
  ⟨⟨fun pins s σ H Q I ⟨Φ, F, ρ, d, ρ', R, em, q⟩ => h.pe.run pins s σ H Q I (h.se Φ F ρ σ H Q d ρ' R em q)⟩, fun Φ F ρ σ H Q d ρ' R em q => ⟨Φ, F, ρ, d, ρ', R, em, q⟩⟩
theorem tests_can {X : Cx} {es : List Expr} {t : TT} {m : M Bool} (h : PTs X es t ∧ STt t m) : PTs X es (cT m) ∧ STt (cT m) m :=
  ⟨⟨fun pins s σ H Q I ⟨Φ, F, ρ, d, ρ', R, em, q⟩ => h.1.run pins s σ H Q I (h.2 Φ F ρ σ H Q d ρ' R em q)⟩, fun Φ F ρ σ H Q d ρ' R em q => ⟨Φ, F, ρ, d, ρ', R, em, q⟩⟩
theorem EG.can {X : Cx} {e : Expr} {gs vs : List Nat} {g : TG} {m : PyData → Ro → Option Ro} (h : EG X e gs g m) (hv : ∀ i ∈ gs, i ∈ vs) : EG X e vs (cG vs m) m :=
  ⟨⟨fun pins s σ H v u Q I r ⟨Φ, F, ρ, d, ρ', R, k, em, q⟩ => h.pe.run pins s σ H v u Q I r (h.se Φ F ρ σ H v d ρ' Q R k em fun σ' R' w => q σ' R' fun us hu => w us fun i hi => hu i (hv i hi))⟩,
   fun Φ F ρ σ H v d ρ' Q R k em q => ⟨Φ, F, ρ, d, ρ', R, k, em, q⟩⟩
theorem eo_lcC {X : Cx} {elt tg iter : Expr} {ifs : List Expr} {scope : Scope} {own : List (Str × Nat)} {vs : List Nat} {pos : Pos} {wi : TI} {mi : M Itm} {tgt : PyData → Ro → Option Ro} {mc : M Bool} {me : M PyData} (hc : X.calm = true) (hN : X.N.Nodup) (hi : EI X tg iter wi mi) (ok : BlkOk X.N X.env.scope scope own)
    (hg : ∀ (s : Shared) (H : Hp) (C : Addr) (cl : List (Str × Addr)) (fp : List Addr), ∃ gs g, (∀ i ∈ gs, i ∈ vs) ∧ EG (X.blk s H scope (compEnvC scope cl C X.env) fp) tg gs g tgt)
    (ht : ∀ (s : Shared) (H : Hp) (C : Addr) (cl : List (Str × Addr)) (fp : List Addr), ∃ tt, PTs (X.blk s H scope (compEnvC scope cl C X.env) fp) ifs tt ∧ STt tt mc)
    (he : ∀ (s : Shared) (H : Hp) (C : Addr) (cl : List (Str × Addr)) (fp : List Addr), ∃ te, EV (X.blk s H scope (compEnvC scope cl C X.env) fp) elt te me) (s0 : Shared) (hv : own.map (·.2) = vs := by rfl) (hs : ∀ x, foldedSetIterable iter X.env x = pure x := by intro _; rfl) :
    EO X (.ListComp elt [⟨tg, iter, ifs, 0⟩] scope pos) (tLc wi (cG vs tgt) (cT mc) (cE me) vs) (mLc mi vs tgt mc me) := by
  subst hv
  exact eo_lc hc hN hi ok (fun i hi => hi) (fun s H C cl fp => by obtain ⟨gs, g, h1, h2⟩ := hg s H C cl fp; exact h2.can h1) (fun s H C cl fp => by obtain ⟨t, h⟩ := ht s H C cl fp; exact tests_can h)
    (fun s H C cl fp => by obtain ⟨t, h⟩ := he s H C cl fp; exact h.can) hs s0 0
theorem es_setLcC (i : Nat) {X : Cx} {y : Str} {py : Pos} {elt tg iter : Expr} {ifs : List Expr} {scope : Scope} {own : List (Str × Nat)} {vs : List Nat} {pos spos : Pos} {wi : TI} {mi : M Itm} {tgt : PyData → Ro → Option Ro} {mc : M Bool} {me : M PyData} (hc : X.calm = true) (hN : X.N.Nodup) (hi : EI X tg iter wi mi) (ok : BlkOk X.N X.env.scope scope own)
    (hg : ∀ (s : Shared) (H : Hp) (C : Addr) (cl : List (Str × Addr)) (fp : List Addr), ∃ gs g, (∀ i ∈ gs, i ∈ vs) ∧ EG (X.blk s H scope (compEnvC scope cl C X.env) fp) tg gs g tgt)
    (ht : ∀ (s : Shared) (H : Hp) (C : Addr) (cl : List (Str × Addr)) (fp : List Addr), ∃ tt, PTs (X.blk s H scope (compEnvC scope cl C X.env) fp) ifs tt ∧ STt tt mc)
    (he : ∀ (s : Shared) (H : Hp) (C : Addr) (cl : List (Str × Addr)) (fp : List Addr), ∃ te, EV (X.blk s H scope (compEnvC scope cl C X.env) fp) elt te me) (s0 : Shared) (hv : own.map (·.2) = vs := by rfl)
    (hy : X.N[i]? = some y := by rfl) (hyl : X.env.scope.names.lookup y = some .local := by rfl) (hsw : swapsWith (.ListComp elt [⟨tg, iter, ifs, 0⟩] scope pos) (some (.Name y py)) spos.line X.env = pure true := by exact sw_true rfl rfl rfl (by decide +kernel)) (hs : ∀ x, foldedSetIterable iter X.env x = pure x := by intro _; rfl) :
    ES X (.Assign [.Name y py] (.ListComp elt [⟨tg, iter, ifs, 0⟩] scope pos) spos) (tAsg (tLc wi (cG vs tgt) (cT mc) (cE me) vs) (gName i)) (sSet i (rvO (mLc mi vs tgt mc me))) := by
  subst hv
  exact es_setLc i hc hN hi ok (fun i hi => hi) (fun s H C cl fp => by obtain ⟨gs, g, h1, h2⟩ := hg s H C cl fp; exact h2.can h1) (fun s H C cl fp => by obtain ⟨t, h⟩ := ht s H C cl fp; exact tests_can h)
    (fun s H C cl fp => by obtain ⟨t, h⟩ := he s H C cl fp; exact h.can) s0 0 hy hyl hsw hs
/-- x = [.. for .. in d ..] over a dict of one's own -/
theorem es_lockLc (i j : Nat) {X : Cx} {y : Str} {py : Pos} {elt tg iter : Expr} {ifs : List Expr} {scope : Scope} {own : List (Str × Nat)} {vs : List Nat} {pos spos : Pos} {wi : TI} {mi : M Itm} {tgt : PyData → Ro → Option Ro} {mc : M Bool} {me : M PyData} (hc : X.calm = true) (hN : X.N.Nodup) (hi : EI X tg iter wi mi) (ok : BlkOk X.N X.env.scope scope own)
    (hg : ∀ (s : Shared) (H : Hp) (C : Addr) (cl : List (Str × Addr)) (fp : List Addr), ∃ gs g, (∀ i ∈ gs, i ∈ vs) ∧ EG (X.blk s H scope (compEnvC scope cl C X.env) fp) tg gs g tgt)
    (ht : ∀ (s : Shared) (H : Hp) (C : Addr) (cl : List (Str × Addr)) (fp : List Addr), ∃ tt, PTs (X.blk s H scope (compEnvC scope cl C X.env) fp) ifs tt ∧ STt tt mc)
    (he : ∀ (s : Shared) (H : Hp) (C : Addr) (cl : List (Str × Addr)) (fp : List Addr), ∃ te, EV (X.blk s H scope (compEnvC scope cl C X.env) fp) elt te me) (s0 : Shared) (hv : own.map (·.2) = vs := by rfl)
    (hy : X.N[i]? = some y := by rfl) (hyl : X.env.scope.names.lookup y = some .local := by rfl) (hsw : swapsWith (.ListComp elt [⟨tg, iter, ifs, 0⟩] scope pos) (some (.Name y py)) spos.line X.env = pure true := by exact sw_true rfl rfl rfl (by decide +kernel)) (hs : ∀ x, foldedSetIterable iter X.env x = pure x := by intro _; rfl) :
    ES X (.Assign [.Name y py] (.ListComp elt [⟨tg, iter, ifs, 0⟩] scope pos) spos) (tLock (tAsg (tLc wi (cG vs tgt) (cT mc) (cE me) vs) (gName i))) (sSet i (rvO (mLock j (mLc mi vs tgt mc me)))) :=
  es_lock i j (lockPS (es_setLcC i hc hN hi ok hg ht he s0 hv hy hyl hsw hs)) (lockSO (eo_lcC hc hN hi ok hg ht he s0 hv hs (pos := pos)))
theorem es_putL {X : Cx} {pos pos' : Pos} {e a b : Expr} {t ta ti : TE} {m mi : M PyData} {ma : M Ag} (h : EV X e t m) (ha : EX X a ta ma) (hi : EV X b ti mi) (hs : swapsWithSole [.Subscript a b pos'] e pos.line X.env = pure false := by rfl) (hw : swappedStores [.Subscript a b pos'] e X.env = pure none := by rfl)
    (hsb : ∀ v, assign (.Subscript a b pos') X.env v = (do
      let ov ← holding [v] (eval a X.env); let iv ← holding [v, ov] (eval b X.env); standAt pos'
      holding [v, ov, iv] (setItem ov iv v); release [v, ov, iv] []) := by intro _; rfl) (h1 : (assignEach [.Subscript a b pos'] X.env).map (·.2) = [assign (.Subscript a b pos') X.env] := by rfl) : ES X (.Assign [.Subscript a b pos'] e pos) (tAsg t (gSub ta ti rSetL)) (sPut m ma mi) := es_put h ha hi (pg_sub ha.pe hi.pe set_list hsb) hs hw h1
end DL
end
section
/-! defs once more, the list of objects that are being shown known to be empty -/
namespace DL
open PySem PySem.Spec PyProof.Rows L2
variable [Tbs]
structure RmG (k : Nat) (A : Around) : Prop where
  r : Room k A
  g : A.guards = some []
theorem RmG.mono {j k : Nat} {A : Around} (x : RmG k A) (h : j ≤ k) : RmG j A := ⟨x.r.mono h, x.g⟩
structure FnG (P : Program) (w : World) (K : PySem.W.Frag) (mg : Str → Option Value) (base : Heap) (k : Nat) (f : Addr) (fd : FuncData) (ps : List Str) (sp : Sp) : Prop where
  ln : ∀ vs H Q E, sp vs H Q E → vs.length = ps.length
  go : ∀ (B : Around) (fr : List Env) (sh : Shared) (M : Hp) (ar : Args) (ys : List Value) (zs : List V) (Q : VK) (E : XK), RmG k B → Env0 P w K mg base B fr sh M → BindsTo sh fd ar (ps.zip ys) → Vals zs ys → sp zs M Q E → codeAny (model P w) B (.call (.ref f) ar) (CR CX0 fr P w M sh Q E) sh
section
variable {P : Program} {w : World} {K : PySem.W.Frag} {mg : Str → Option Value} {base : Heap}
theorem FnG.mono {j k : Nat} {f : Addr} {fd : FuncData} {ps : List Str} {sp : Sp} (F : FnG P w K mg base j f fd ps sp) (h : j ≤ k) : FnG P w K mg base k f fd ps sp := ⟨F.ln, fun B fr sh M ar ys zs Q E r => F.go B fr sh M ar ys zs Q E (r.mono h)⟩
theorem funG {x qual : Str} {st : Stmt} {f : Addr} {fd : FuncData} {N ps : List Str} {k : Nat} {sp : Sp} (Fn : Fun K x qual st f fd) (Sc : FnScope N ps (defScope st)) (ln : ∀ vs H Q E, sp vs H Q E → vs.length = ps.length)
    (body : ∀ (cdv : Value) (A : Around) (fr : List Env) (sh : Shared) (M : Hp) (zs : List V) (Q : VK) (E : XK), fd.code = cdv → RmG k (A.deeper (envOfC qual (defScope st) sh.heap.objs.size f cdv)) → sp zs M Q E →
      ∃ t, PSs (cxOf CX0 P w K mg base N qual (defScope st) f cdv A fr sh M E).nox (defBody st) t ∧ t { nx := fun _ M' => Q .non M', rt := Q } (start N zs) M) : FnG P w K mg base (k + 1) f fd ps sp := by
  obtain ⟨oc, od, kV, doc, pm, an, cdv, ct, osl, rfl, look, hcode⟩ := Fn.ex
  refine ⟨ln, fun B fr sh M ar ys zs Q E hr e0 hb rv hsp => ?_⟩
  have below : ∀ b o, base.get? b = some o → sh.heap.get? b = some o := fun b o e => (e0.bs b o e).1
  have Kin : K.In sh.heap := e0.mod.kin.keeps below
  have kinds : ∀ y ∈ ps.zip ys, (defScope st).names.lookup y.1 = some .local ∨ ((defScope st).names.lookup y.1 = some .cell ∧ ((cellsFrom (sh.heap.objs.size + 1) (defScope st).names []).lookup y.1).isSome = true) := by
    rintro ⟨n, v⟩ hy
    have := Sc.par n (List.of_mem_zip hy).1
    exact this.imp id fun q => ⟨q, PySem.W.cellsFrom_some _ _ _ (.inl q)⟩
  apply codeAny_call_function hr.r.depth (Kin _ _ look) rfl Sc.co Sc.gen rfl (PySem.W.codeRec_of Kin hcode)
  apply hb
  refine wpAny_newFunctionEnv_cells Sc.kind kinds fun en hen sh1 inside => ?_
  subst hen
  have hlimit : sh.heap.NoLimit := e0.mod.nolimit.keeps below
  refine ⟨hlimit.keeps inside.toInCall.keep, codeAny_func ?_⟩
  obtain ⟨t, ht, hq⟩ := body cdv B fr sh M zs Q E rfl ⟨hr.r.deeper _, hr.g⟩ hsp
  have J0 := inv_start (CX := CX0) (E := E) Sc hr.r.hd e0 (ln _ _ _ _ hsp) rv inside
  refine wpAny_mono (ht.nox.run [] sh1 (start N zs) M _ J0 hq) (fun fl s2 hs => ?_) fun _ _ he => he
  rcases fl with _ | _ | _ | u
  · obtain ⟨σ2, M2, J, q⟩ := hs
    exact ⟨.non, M2, J.os, J.bare, J.base, J.hok, rfl, q⟩
  · obtain ⟨_, _, _, q⟩ := hs
    exact q.elim
  · obtain ⟨_, _, _, q⟩ := hs
    exact q.elim
  · obtain ⟨v, σ2, M2, J, rv2, q⟩ := hs
    exact ⟨v, M2, J.os, J.bare, J.base, J.hok, rv2, q⟩
end
section
variable {X : Cx} {k : Nat} {f : Addr} {fd : FuncData} {ps : List Str} {sp : Sp} {x : Str} {p pos : Pos} {e : Expr} {es : List Expr} {t : TA}
/-- f(e, ..) -/
theorem pe_callG (F : FnG X.prog X.w X.K X.mg X.base k f fd ps sp) (hr : RmG k X.A) (hg : Gl X x) (hm : X.mg x = some (.ref f)) (hk : PySem.W.keepIn X.K (.ref f) = true) (hb : Binds X.K fd ps []) (ha : PA X (e :: es) t) (hdb : (x == ("__debug__" : Str)) = false := by decide)
    (he : starEach (e :: es) X.env = (false, eval e X.env) :: starEach es X.env := by rfl) (hpl : (backTo pos (starEach es X.env)).any (·.1) = false := by rfl) : PE X (.Call (.Name x p) (e :: es) [] pos) (tCall sp [] E0 t) := by
  refine ⟨fun pins sh σ M Q I h => wpAny_Call_Name_kw (ld_glob I hg hm (PySem.W.callWith_K (h₀ := X.base) I.ok.mod.kin hk (thn (ha.run pos pins sh σ M _ I h) ?_) he hpl) hdb)⟩
  rintro us s1 ⟨vs, M1, J, rv, q⟩
  refine ⟨J.kIn, ?_⟩
  replace q : sp (vs ++ []) M1 Q E0 := q
  rw [List.append_nil] at q
  have hlen : (us ++ []).length = ps.length := by rw [List.append_nil, ← rv.length]; exact F.ln _ _ _ _ q
  have hbt := hb s1 us J.kIn hlen
  rw [List.append_nil] at hbt
  refine wpAny_call (codeAny_mono (F.go X.A X.stack s1 M1 ⟨us, []⟩ us vs Q E0 hr J.env0 hbt rv q) ?_)
  rintro (er | fl) s2 hq
  · exact False.elim hq
  · cases fl with
    | ret u => exact J.after hq
    | next => exact False.elim hq
    | brk => exact False.elim hq
    | cont => exact False.elim hq
theorem ev_callG {n : Nat} {m : List PyData → Option PyData} {ma : M (List Ag)} (F : FnG X.prog X.w X.K X.mg X.base k f fd ps (spP n m)) (hr : RmG k X.A) (hg : Gl X x) (hm : X.mg x = some (.ref f)) (hk : PySem.W.keepIn X.K (.ref f) = true) (hb : Binds X.K fd ps [])
    (ha : EA X (e :: es) t ma) (hdb : (x == ("__debug__" : Str)) = false := by decide) (he : starEach (e :: es) X.env = (false, eval e X.env) :: starEach es X.env := by rfl) (hpl : (backTo pos (starEach es X.env)).any (·.1) = false := by rfl) :
    EV X (.Call (.Name x p) (e :: es) [] pos) (tCall (spP n m) [] E0 t) (mCall n m ma) := ⟨pe_callG F hr hg hm hk hb ha.pe hdb he hpl, se_call ha.se⟩
end
section
variable {P : Program} {w : World} {K : PySem.W.Frag} {mg : Str → Option Value} {base : Heap}
theorem gn_pure {x qual : Str} {st : Stmt} {f : Addr} {fd : FuncData} {N ps : List Str} {k : Nat} {m : S} (Fn : Fun K x qual st f fd) (Sc : FnScope N ps (defScope st))
    (hbody : ∀ (cdv : Value) (A : Around) (fr : List Env) (s : Shared) (H : Hp) (E : XK), RmG k (A.deeper (envOfC qual (defScope st) s.heap.objs.size f cdv)) → ∃ t, EB (cxOf CX0 P w K mg base N qual (defScope st) f cdv A fr s H E).nox (defBody st) t m) :
    FnG P w K mg base (k + 1) f fd ps (spP ps.length (runP N.length m)) := by
  refine funG Fn Sc (fun vs H Q E ⟨F, ds, d, _, _, _, _, hl, _⟩ => hl) (fun cdv A fr s H vs Q E _ hr ⟨F, ds, d, da, hs, hbd, htb, hl, hm, q⟩ => ?_)
  obtain ⟨t, hb⟩ := hbody cdv A fr s H E hr
  have hn : vs.length ≤ N.length := by
    have := congrArg List.length Sc.pre
    rw [List.length_take] at this
    omega
  refine ⟨t, hb.pe, ?_⟩
  have R := rl_start (N := N) da hs hbd htb hn
  unfold runP at hm
  split at hm
  · rename_i d' ρ' hr'
    cases hm
    exact hb.se _ F _ _ H _ _ ρ' R hr' fun v F' σ' H' R' X' kd => q v F' H' X'.1 R'.fs R'.gs X'.2 R'.bd R'.tb.tabs kd
  · rename_i ρ' hr'
    cases hm
    exact hb.se _ F _ _ H _ _ ρ' R hr' fun F' σ' H' R' X' => q .non F' H' X'.1 R'.fs R'.gs X'.2 R'.bd R'.tb.tabs .non
  · cases hm
end

/-! ### a list is lent: the first argument is changed in place -/
noncomputable def but (H : Hp) (l : Addr) : Hp := fun b => if b = l then none else noT H b
theorem but_self {H : Hp} {l : Addr} : but H l l = none := if_pos rfl
theorem but_ne {H : Hp} {l b : Addr} (h : b ≠ l) : but H l b = noT H b := if_neg h
def spB (n : Nat) (m : List PyData → List PyData → Option (PyData × List PyData)) : Sp := fun vs H Q _ => ∃ F l ws us cs ds z cs', vs = .ref l :: us ∧ H l = some (.lst ws) ∧ ws.length ≤ sizeLine ∧ F l = none ∧ DnA F ws cs ∧ DnA F us ds ∧ Same F H ∧ Bd F ∧ TabsOk F H ∧ us.length = n ∧ m cs ds = some (z, cs') ∧
  ∀ v F' H' ws', Same F F' → Same F' H' → Same (but H l) H' → (∀ b o, b ≠ l → noT H b = some o → F' b = F b) → Bd F' → TabsOk F' H' → F' l = none → H' l = some (.lst ws') → ws'.length ≤ sizeLine → DnA F' ws' cs' → Dn F' v z → Q v H'
def runB (n : Nat) (m : S) (cs ds : List PyData) : Option (PyData × List PyData) := match m (Sl.br cs :: initP (n - 1) ds) with
  | some (.rt d, ρ) => (match (ρ[0]? : Option Sl) with
    | some (Sl.br cs') => some (d, cs')
    | _ => none)
  | some (.nx, ρ) => (match (ρ[0]? : Option Sl) with
    | some (Sl.br cs') => some (.none, cs')
    | _ => none)
  | _ => none
theorem rl_lent {F H : Hp} {N : List Str} {l : Addr} {ws us : List V} {cs ds : List PyData} (hl : H l = some (.lst ws)) (hz : ws.length ≤ sizeLine) (hf : F l = none) (dc : DnA F ws cs) (dd : DnA F us ds) (hs : Same F H) (hb : Bd F) (ht : TabsOk F H) (hn : (V.ref l :: us).length ≤ N.length) :
    Rl ⟨but H l, [(0, l)]⟩ F (.br cs :: initP (N.length - 1) ds) (start N (.ref l :: us)) H := by
  have hst : start N (.ref l :: us) = some (.ref l) :: (us.map some ++ List.replicate (N.length - 1 - us.length) none) := by
    unfold L2.start
    rw [List.map_cons, List.cons_append, List.length_cons, Nat.sub_add_eq, Nat.sub_right_comm]
  rw [hst]
  have hn' : us.length ≤ N.length - 1 := by rw [List.length_cons] at hn; omega
  have gt : ∀ (i : Nat) (v : V), us[i]? = some v → (us.map some ++ List.replicate (N.length - 1 - us.length) (none : Option V))[i]? = some (some v) := fun i v h => by
    have hi : i < us.length := (List.getElem?_eq_some_iff.mp h).1
    rw [List.getElem?_append_left (by rw [List.length_map]; exact hi), List.getElem?_map, h]
    rfl
  refine ⟨?_, hs, fun b o e => ?_, hb, fun i d h => ?_, fun i kvs h => ?_, fun i s h1 h2 => ?_, fun i j s s' a h1 h2 h3 h4 _ _ => ?_, fun q hq => ?_, fun q hq => ⟨(ht q hq).1, ?_, (ht q hq).2⟩⟩
  · unfold initP
    rw [List.length_cons, List.length_cons, List.length_append, List.length_append, List.length_map, List.length_map, List.length_replicate, List.length_replicate, dd.length]
  · by_cases h : b = l
    · subst h
      have e : but H b b = some o := e
      rw [but_self] at e; cases e
    · have e : but H l b = some o := e
      rw [but_ne h] at e; exact noT_same H b o e
  · cases i with
    | zero => cases h
    | succ i =>
      rw [List.getElem?_cons_succ] at h ⊢
      rcases init_get h with ⟨d', h1, h2⟩ | h2
      · cases h2
        obtain ⟨v, hv, dn⟩ := dd.get h1
        exact ⟨v, gt i v hv, dn⟩
      · cases h2
  · cases i with
    | zero => cases h
    | succ i =>
      rw [List.getElem?_cons_succ] at h
      rcases init_get h with ⟨d', h1, h2⟩ | h2 <;> cases h2
  · cases i with
    | zero =>
      cases h1
      exact ⟨l, _, rfl, hf, but_self, hl, .br hz dc⟩
    | succ i =>
      rw [List.getElem?_cons_succ] at h1
      rcases init_get h1 with ⟨d', _, rfl⟩ | rfl <;> cases h2
  · have zero : ∀ (i : Nat) (s : Sl), (Sl.br cs :: initP (N.length - 1) ds)[i]? = some s → s.own = true → i = 0 := fun i s h1 h2 => by
      cases i with
      | zero => rfl
      | succ i =>
        rw [List.getElem?_cons_succ] at h1
        rcases init_get h1 with ⟨d', _, rfl⟩ | rfl <;> cases h2
    rw [zero i s h1 h3, zero j s' h2 h4]
  · cases List.mem_singleton.mp hq
    exact ⟨rfl, cs, rfl⟩
  · by_cases h : q.1 = l
    · rw [h]; exact but_self
    · show but H l q.1 = none
      rw [but_ne h]; exact noT_tab hq
theorem lent_end {F F' H H' : Hp} {l : Addr} {ρ : Ro} {σ : L2.St} {cs' : List PyData} (R : Rl ⟨but H l, [(0, l)]⟩ F' ρ σ H') (X : Ext ⟨but H l, [(0, l)]⟩ F F') (h : ρ[0]? = some (.br cs')) :
    ∃ ws', H' l = some (.lst ws') ∧ ws'.length ≤ sizeLine ∧ DnA F' ws' cs' ∧ F' l = none ∧ Same (but H l) H' ∧ ∀ b o, b ≠ l → noT H b = some o → F' b = F b := by
  obtain ⟨e0, _⟩ := R.io (0, l) List.mem_cons_self
  obtain ⟨a, o, e1, f1, _, g1, c1⟩ := R.own 0 _ h rfl
  have e0 : σ[0]? = some (some (.ref l)) := e0
  rw [e0] at e1
  injection e1 with e1; injection e1 with e1; injection e1 with e1
  subst e1
  cases c1 with
  | br h1 h2 => exact ⟨_, g1, h1, h2, f1, R.gs, fun b o hb ho => X.2 b o (by show but H l b = some o; rw [but_ne hb]; exact ho)⟩
section
variable {P : Program} {w : World} {K : PySem.W.Frag} {mg : Str → Option Value} {base : Heap}
theorem gn_lent {x qual : Str} {st : Stmt} {f : Addr} {fd : FuncData} {N ps : List Str} {k : Nat} {m : S} (Fn : Fun K x qual st f fd) (Sc : FnScope N ps (defScope st))
    (hbody : ∀ (cdv : Value) (A : Around) (fr : List Env) (s : Shared) (H : Hp) (E : XK), RmG k (A.deeper (envOfC qual (defScope st) s.heap.objs.size f cdv)) → ∃ t, EB (cxOf CX0 P w K mg base N qual (defScope st) f cdv A fr s H E).nox (defBody st) t m) (hp : 0 < ps.length := by decide) :
    FnG P w K mg base (k + 1) f fd ps (spB (ps.length - 1) (runB N.length m)) := by
  refine funG Fn Sc (fun vs H Q E ⟨F, l, ws, us, cs, ds, z, cs', e, _, _, _, _, _, _, _, _, hl, _⟩ => by subst e; rw [List.length_cons]; omega) (fun cdv A fr s H vs Q E _ hr ⟨F, l, ws, us, cs, ds, z, cs', e, hl, hz, hf, dc, dd, hs, hbd, htb, hn, hm, q⟩ => ?_)
  subst e
  obtain ⟨t, hb⟩ := hbody cdv A fr s H E hr
  have hn2 : (V.ref l :: us).length ≤ N.length := by
    have := congrArg List.length Sc.pre
    rw [List.length_take] at this
    rw [List.length_cons]
    omega
  refine ⟨t, hb.pe, ?_⟩
  have R := rl_lent hl hz hf dc dd hs hbd htb hn2
  unfold runB at hm
  split at hm
  · rename_i d' ρ' hr'
    split at hm
    · rename_i cs2 h0
      cases hm
      exact hb.se _ F _ _ H _ _ ρ' R hr' fun v F' σ' H' R' X' kd => by
        obtain ⟨ws', a, b, c, d, g, i⟩ := lent_end R' X' h0
        exact q v F' H' ws' X'.1 R'.fs g i R'.bd R'.tb.tabs d a b c kd
    · cases hm
  · rename_i ρ' hr'
    split at hm
    · rename_i cs2 h0
      cases hm
      exact hb.se _ F _ _ H _ _ ρ' R hr' fun F' σ' H' R' X' => by
        obtain ⟨ws', a, b, c, d, g, i⟩ := lent_end R' X' h0
        exact q .non F' H' ws' X'.1 R'.fs g i R'.bd R'.tb.tabs d a b c .non
    · cases hm
  · cases hm
end
end DL
end
section
/-! calls that change a list of one's own; what is shown -/
namespace DL
open PySem PySem.Spec PyProof.Rows L2
variable [Tbs]
theorem upd_back {H : Hp} {l : Addr} {o o' : HO} (h : H l = some o) : upd (upd H l o') l o = H := by
  funext b
  by_cases hb : b = l
  · subst hb; rw [upd_same, h]
  · rw [upd_ne hb, upd_ne hb]
theorem Rl.lend1 {Φ : Fx} {F H : Hp} {ρ : Ro} {σ : L2.St} {j : Nat} {s s' : Sl} {l : Addr} {ws : List V} (R : Rl Φ F ρ σ H) (hj : ρ[j]? = some s) (ho : s.own = true) (hb : s'.isBr = s.isBr) (hσ : σ[j]? = some (some (.ref l))) (hl : H l = some (.lst ws)) (fl : F l = none) {F' H' : Hp} {ws' : List V}
    (h1 : Same F F') (h2 : Same F' H') (h3 : Same (but H l) H') (h4 : ∀ b o, b ≠ l → noT H b = some o → F' b = F b) (h5 : Bd F') (h5t : TabsOk F' H') (h6 : F' l = none) (h7 : H' l = some (.lst ws')) (hc : Cn F' (.lst ws') s') : Rl Φ F' (ρ.set j s') σ H' ∧ Ext Φ F F' := by
  have g2 : Same F' (upd H' l (.lst ws)) := same_upd h2 h6
  have g3 : Same (noT H) (upd H' l (.lst ws)) := fun b o e => by
    by_cases hb : b = l
    · subst hb
      have e := noT_same H _ _ e
      rw [hl] at e; cases e; exact upd_same
    · rw [upd_ne hb]; exact h3 b o (by rw [but_ne hb]; exact e)
  have g4 : ∀ b o, noT H b = some o → F' b = F b := fun b o e => by
    by_cases hb : b = l
    · subst hb; rw [h6, fl]
    · exact h4 b o hb e
  have g5 : TabsOk F' (upd H' l (.lst ws)) := fun q hq => ⟨(h5t q hq).1, tabS_kt (h5t q hq).2 (kt_upd (some_last h7 rfl))⟩
  obtain ⟨R2, X2⟩ := R.grow h1 g2 g3 g4 h5 g5
  have R3 := R2.write hj ho hσ hc hb
  rw [upd_back h7] at R3
  exact ⟨R3, X2⟩
theorem Rl.lend {Φ : Fx} {F H : Hp} {ρ ρ' : Ro} {σ : L2.St} {j : Nat} {v : V} {f : List PyData → Option (PyData × List PyData)} {z : PyData} (R : Rl Φ F ρ σ H) (k : AgOk F σ v (.o j)) (e : DL.putM j f ρ = some (z, ρ')) :
    ∃ l ws cs cs', v = .ref l ∧ H l = some (.lst ws) ∧ ws.length ≤ sizeLine ∧ F l = none ∧ DnA F ws cs ∧ f cs = some (z, cs') ∧
      ∀ F' H' ws', Same F F' → Same F' H' → Same (but H l) H' → (∀ b o, b ≠ l → noT H b = some o → F' b = F b) → Bd F' → TabsOk F' H' → F' l = none → H' l = some (.lst ws') → ws'.length ≤ sizeLine → DnA F' ws' cs' → Rl Φ F' ρ' σ H' ∧ Ext Φ F F' := by
  have k : σ[j]? = some (some v) := k
  simp only [DL.putM] at e
  split at e
  · rename_i ds hj
    split at e
    · rename_i z' ds' hf
      cases e
      obtain ⟨l, o, a, b, c, d, cn⟩ := R.own j _ hj rfl
      have a2 := a
      rw [k] at a; injection a with a; injection a with a
      cases cn with
      | ol h1 h2 => exact ⟨l, _, ds, ds', a, d, h1, b, h2, hf, fun F' H' ws' g1 g2 g3 g4 g5 gt g6 g7 g8 g9 => R.lend1 (s' := .ol ds') hj rfl rfl a2 d b g1 g2 g3 g4 g5 gt g6 g7 (.ol g8 g9)⟩
    · cases e
  · rename_i ds hj
    split at e
    · rename_i z' ds' hf
      cases e
      obtain ⟨l, o, a, b, c, d, cn⟩ := R.own j _ hj rfl
      have a2 := a
      rw [k] at a; injection a with a; injection a with a
      cases cn with
      | br h1 h2 => exact ⟨l, _, ds, ds', a, d, h1, b, h2, hf, fun F' H' ws' g1 g2 g3 g4 g5 gt g6 g7 g8 g9 => R.lend1 (s' := .br ds') hj rfl rfl a2 d b g1 g2 g3 g4 g5 gt g6 g7 (.br g8 g9)⟩
    · cases e
  · cases e
def mCallI (n : Nat) (f : List PyData → List PyData → Option (PyData × List PyData)) (ma : M (List Ag)) : M PyData := bnd ma fun as => match as with
  | .o j :: r => (match agD r with
    | some ds => putM j (fun cs => if ds.length = n then f cs ds else none)
    | none => fun _ => none)
  | _ => fun _ => none
theorem se_callI {n : Nat} {f : List PyData → List PyData → Option (PyData × List PyData)} {t : TA} {ma : M (List Ag)} (h : SA t ma) : SE (tCall (spB n f) [] E0 t) (mCallI n f ma) := fun Φ F ρ σ H Q d ρ' R e q => by
  obtain ⟨as, ρ1, e1, e2⟩ := bnd_some e
  refine h Φ F ρ σ H _ as ρ1 R e1 fun vs F1 H1 R1 X1 k => ?_
  cases k with
  | nil => cases e2
  | @cons v a us r k1 k2 =>
    cases a with
    | v _ => cases e2
    | o j =>
      replace e2 : (match agD r with | some ds => putM j (fun cs => if ds.length = n then f cs ds else none) | none => fun _ => none) ρ1 = some (d, ρ') := e2
      cases hd : agD r with
      | none => rw [hd] at e2; cases e2
      | some ds =>
        rw [hd] at e2
        replace e2 : putM j (fun cs => if ds.length = n then f cs ds else none) ρ1 = some (d, ρ') := e2
        obtain ⟨l, ws, cs, cs', rfl, hl, hz, hf, dc, hm, fin⟩ := R1.lend k1 e2
        split at hm
        · rename_i hn
          have du := agD_ok k2 hd
          show spB n f ((V.ref l :: us) ++ []) H1 Q E0
          rw [List.append_nil]
          refine ⟨F1, l, ws, us, cs, ds, d, cs', rfl, hl, hz, hf, dc, du, R1.fs, R1.bd, R1.tb.tabs, by rw [du.length]; exact hn, hm, fun v F' H' ws' g1 g2 g3 g4 g5 gt g6 g7 g8 g9 kd => ?_⟩
          obtain ⟨R2, X2⟩ := fin F' H' ws' g1 g2 g3 g4 g5 gt g6 g7 g8 g9
          exact q v F' H' R2 (X1.trans X2) kd
        · cases hm
section
variable {X : Cx} {k : Nat} {f : Addr} {fd : FuncData} {ps : List Str} {sp : Sp} {x : Str} {p pos : Pos} {e : Expr} {es : List Expr} {t : TA}
theorem ev_callI {n : Nat} {m : List PyData → List PyData → Option (PyData × List PyData)} {ma : M (List Ag)} (F : FnG X.prog X.w X.K X.mg X.base k f fd ps (spB n m)) (hr : RmG k X.A) (hg : Gl X x) (hm : X.mg x = some (.ref f)) (hk : PySem.W.keepIn X.K (.ref f) = true) (hb : Binds X.K fd ps [])
    (ha : EA X (e :: es) t ma) (hdb : (x == ("__debug__" : Str)) = false := by decide) (he : starEach (e :: es) X.env = (false, eval e X.env) :: starEach es X.env := by rfl) (hpl : (backTo pos (starEach es X.env)).any (·.1) = false := by rfl) :
    EV X (.Call (.Name x p) (e :: es) [] pos) (tCall (spB n m) [] E0 t) (mCallI n m ma) := ⟨pe_callG F hr hg hm hk hb ha.pe hdb he hpl, se_callI ha.se⟩
end

/-! ### a def that gives an object of its own -/
def spO (n : Nat) (m : List PyData → Option Sl) : Sp := fun vs H Q _ => ∃ F ds s, DnA F vs ds ∧ Same F H ∧ Bd F ∧ TabsOk F H ∧ vs.length = n ∧ m ds = some s ∧
  ∀ p o F' H', Same F F' → Same F' H' → Same (noT H) H' → (∀ b o, noT H b = some o → F' b = F b) → Bd F' → TabsOk F' H' → F' p = none → noT H p = none ∧ (∀ q ∈ Tbs.T, q.1 ≠ p) → H' p = some o → Cn F' o s → s.isBr = false → Q (.ref p) H'
def runO (n : Nat) (m : S) (ds : List PyData) : Option Sl := match m (initP n ds) with
  | some (.ro s, _) => some s
  | _ => none
section
variable {P : Program} {w : World} {K : PySem.W.Frag} {mg : Str → Option Value} {base : Heap}
theorem gn_own {x qual : Str} {st : Stmt} {f : Addr} {fd : FuncData} {N ps : List Str} {k : Nat} {m : S} (Fn : Fun K x qual st f fd) (Sc : FnScope N ps (defScope st))
    (hbody : ∀ (cdv : Value) (A : Around) (fr : List Env) (s : Shared) (H : Hp) (E : XK), RmG k (A.deeper (envOfC qual (defScope st) s.heap.objs.size f cdv)) → ∃ t, EB (cxOf CX0 P w K mg base N qual (defScope st) f cdv A fr s H E).nox (defBody st) t m) :
    FnG P w K mg base (k + 1) f fd ps (spO ps.length (runO N.length m)) := by
  refine funG Fn Sc (fun vs H Q E ⟨F, ds, d, _, _, _, _, hl, _⟩ => hl) (fun cdv A fr s H vs Q E _ hr ⟨F, ds, d, da, hs, hbd, htb, hl, hm, q⟩ => ?_)
  obtain ⟨t, hb⟩ := hbody cdv A fr s H E hr
  have hn : vs.length ≤ N.length := by
    have := congrArg List.length Sc.pre
    rw [List.length_take] at this
    omega
  refine ⟨t, hb.pe, ?_⟩
  have R := rl_start (N := N) da hs hbd htb hn
  unfold runO at hm
  split at hm
  · rename_i d' ρ' hr'
    cases hm
    exact hb.se _ F _ _ H _ _ ρ' R hr' fun p o F' σ' H' R' X' fr e c b => q p o F' H' X'.1 R'.fs R'.gs X'.2 R'.bd R'.tb.tabs fr.1 ⟨fr.2.1, fun q hq => R'.tb.ne hq (some_last e c.last)⟩ e c b
  · cases hm
end
def mCallO (n : Nat) (m : List PyData → Option Sl) (ma : M (List Ag)) : M Sl := bnd (datA ma) fun ds => lft (if ds.length = n then m ds else none)
theorem so_callO {n : Nat} {m : List PyData → Option Sl} {t : TA} {ma : M (List Ag)} (h : SA t ma) : SO (tCall (spO n m) [] E0 t) (mCallO n m ma) := fun Φ F ρ σ H Q d ρ' R e q => by
  obtain ⟨ds, ρ1, e1, e2⟩ := bnd_some e
  obtain ⟨e3, rfl⟩ := lft_some e2
  split at e3
  · rename_i hn
    refine sa_dat h R e1 fun vs F' H' R' X' k => ?_
    show spO n m (vs ++ []) H' Q E0
    rw [List.append_nil]
    refine ⟨F', ds, d, k, R'.fs, R'.bd, R'.tb.tabs, by rw [k.length]; exact hn, e3, fun p o F2 H2 h1 h2 h3 h4 h5 ht h6 h7 h8 h9 h10 => ?_⟩
    obtain ⟨R2, X2⟩ := R'.grow h1 h2 h3 h4 h5 ht
    have hp : H' p = none := by
      cases e : H' p with
      | none => rfl
      | some o => have := noT_of e h7.2; rw [h7.1] at this; cases this
    refine q p o F2 H2 R2 (X'.trans X2) ⟨h6, none_of_same R'.gs hp, fun j s g1 g2 g3 => ?_⟩ h8 h9 h10
    exact (R'.fresh hp).2.2 j s g1 g2 g3
  · cases e3
section
variable {X : Cx} {k : Nat} {f : Addr} {fd : FuncData} {ps : List Str} {sp : Sp} {x : Str} {p pos : Pos} {e : Expr} {es : List Expr} {t : TA}
theorem eo_callO {n : Nat} {m : List PyData → Option Sl} {ma : M (List Ag)} (F : FnG X.prog X.w X.K X.mg X.base k f fd ps (spO n m)) (hr : RmG k X.A) (hg : Gl X x) (hm : X.mg x = some (.ref f)) (hk : PySem.W.keepIn X.K (.ref f) = true) (hb : Binds X.K fd ps [])
    (ha : EA X (e :: es) t ma) (hdb : (x == ("__debug__" : Str)) = false := by decide) (he : starEach (e :: es) X.env = (false, eval e X.env) :: starEach es X.env := by rfl) (hpl : (backTo pos (starEach es X.env)).any (·.1) = false := by rfl) :
    EO X (.Call (.Name x p) (e :: es) [] pos) (tCall (spO n m) [] E0 t) (mCallO n m ma) := ⟨pe_callG F hr hg hm hk hb ha.pe hdb he hpl, so_callO ha.se⟩
end

/-! ### f(g(..)): a fresh list is lent, then lost -/
def mCallF (f : List PyData → List PyData → Option (PyData × List PyData)) (m : M Sl) : M PyData := bnd m fun s => match s with
  | .ol cs => (match f cs [] with
    | some (z, _) => ret z
    | none => fun _ => none)
  | _ => fun _ => none
theorem se_callF {f : List PyData → List PyData → Option (PyData × List PyData)} {t : TE} {m : M Sl} (h : SO t m) : SE (tCall (spB 0 f) [] E0 (tCons t tNil)) (mCallF f m) := fun Φ F ρ σ H Q d ρ' R e q => by
  obtain ⟨s, ρ1, e1, e2⟩ := bnd_some e
  refine h Φ F ρ σ H _ s ρ1 R e1 fun p o F1 H1 R1 X1 fr ho c _ => ?_
  cases c with
  | br _ _ => cases e2
  | od _ _ => cases e2
  | @ol ws cs hz dc =>
    replace e2 : (match f cs [] with | some (z, _) => ret z | none => fun _ => none) ρ1 = some (d, ρ') := e2
    cases hm : f cs [] with
    | none => rw [hm] at e2; cases e2
    | some zz =>
      obtain ⟨z, cs'⟩ := zz
      rw [hm] at e2
      obtain ⟨rfl, rfl⟩ := ret_some (show ret z ρ1 = some (d, ρ') from e2)
      show spB 0 f ([V.ref p] ++ []) H1 Q E0
      rw [List.append_nil]
      refine ⟨F1, p, ws, [], cs, [], _, cs', rfl, ho, hz, fr.1, dc, .nil, R1.fs, R1.bd, R1.tb.tabs, rfl, hm, fun v F' H' ws' g1 g2 g3 g4 g5 gt g6 g7 g8 g9 kd => ?_⟩
      have g3' : ∀ b o, b ≠ p → noT H1 b = some o → H' b = some o := fun b o hb e => g3 b o (by rw [but_ne hb]; exact e)
      have up : ∀ b o, H1 b = some o → lasting o = false → noT H1 b = some o := fun b o e hl => noT_of e fun q hq => R1.tb.ne hq (some_last e hl)
      have gup : ∀ b o, Φ.G b = some o → noT H1 b = some o := fun b o e => noT_of (R1.gs b o e) fun q hq z => by
        have := (R1.tb q hq).2.1
        rw [z, e] at this
        cases this
      have pp : ∀ b o, Φ.G b = some o → b ≠ p := fun b o e z => by subst z; rw [fr.2.1] at e; cases e
      refine q v F' H' ?_ (X1.trans ⟨g1, fun b o e => g4 b o (pp b o e) (gup b o e)⟩) kd
      have low : ∀ (b : Addr) (o : HO), F1 b = some o → b ≠ p := fun b o e z => by subst z; rw [fr.1] at e; cases e
      refine ⟨R1.len, g2, fun b o e => g3' b o (pp b o e) (gup b o e), g5, fun i d h => ?_, fun i d h => ?_, fun i s h1 h2 => ?_, R1.dj, R1.io, fun q hq => ⟨(gt q hq).1, (R1.tb q hq).2.1, (gt q hq).2⟩⟩
      · obtain ⟨v, a, b⟩ := R1.dat i d h
        exact ⟨v, a, b.mono g1⟩
      · obtain ⟨l, ob, ps, a, b, c⟩ := R1.lk i d h
        exact ⟨l, ob, ps, a, b, c.mono g1⟩
      · obtain ⟨l, o2, a, b, c, d, e⟩ := R1.own i s h1 h2
        have hl : l ≠ p := fun z => fr.2.2 i s h1 h2 (z ▸ a)
        exact ⟨l, o2, a, (g4 l o2 hl (up l o2 d e.last)).trans b, c, g3' l o2 hl (up l o2 d e.last), e.mono g1⟩
section
variable {X : Cx} {k : Nat} {f : Addr} {fd : FuncData} {ps : List Str} {sp : Sp} {x : Str} {p pos : Pos} {e : Expr} {t : TE}
theorem ev_callF {m : List PyData → List PyData → Option (PyData × List PyData)} {ma : M Sl} (F : FnG X.prog X.w X.K X.mg X.base k f fd ps (spB 0 m)) (hr : RmG k X.A) (hg : Gl X x) (hm : X.mg x = some (.ref f)) (hk : PySem.W.keepIn X.K (.ref f) = true) (hb : Binds X.K fd ps [])
    (ha : EO X e t ma) (hdb : (x == ("__debug__" : Str)) = false := by decide) (he : starEach [e] X.env = (false, eval e X.env) :: starEach [] X.env := by rfl) (hpl : (backTo pos (starEach [] X.env)).any (·.1) = false := by rfl) :
    EV X (.Call (.Name x p) [e] [] pos) (tCall (spB 0 m) [] E0 (tCons t tNil)) (mCallF m ma) := ⟨pe_callG F hr hg hm hk hb (pa_cons ha.pe pa_nil he) hdb he hpl, se_callF ha.se⟩
end
end DL
end
section
/-! more built-in functions -/
namespace DL
open PySem PySem.Spec PyProof.Rows L2
variable [Tbs]
/-- x = e over a dict of one's own, x any name -/
theorem es_lockSet (i j : Nat) {X : Cx} {x : Str} {e : Expr} {pos pos' : Pos} {t : TE} {m : M Sl} (hN : X.N.Nodup) (h : EO X e t m) (hi : X.N[i]? = some x := by rfl) (hx : Loc X.env.scope x := by first | exact Or.inl rfl | exact Or.inr rfl) (hs : swapsWith e (some (.Name x pos')) pos.line X.env = pure false := by rfl)
    (hf : X.fn x = true ∨ X.env.scope.names.lookup x = some .local := by first | exact .inl rfl | exact .inr rfl | assumption) : ES X (.Assign [.Name x pos'] e pos) (tLock (tAsg t (gName i))) (sSet i (rvO (mLock j m))) := es_lock i j (lockPS (es_set i hN h.er hi hx hs hf)) (lockSO h)

/-! ### list(range(a, b)) -/
theorem rgD_ints (a b : Int) (F : Hp) : DnA F (rgV a b) (rngD a (b - a).toNat) := by
  unfold rgV rngD
  generalize List.range (b - a).toNat = l
  induction l with
  | nil => exact .nil
  | cons x l ih => exact .cons (.int _) ih
def fLRng : PyData → Option Sl
  | .int n => if 0 ≤ n ∧ n ≤ 16777216 then some (.ol (rngD 0 n.toNat)) else none
  | _ => none
def mListRng (m : M PyData) : M Sl := bnd m fun d => lft (fLRng d)
section
variable {X : Cx} {a b : Expr} {ma mb : M PyData} {ta tb : TE} {p p2 pos pos2 : Pos}
theorem o_listRange (hc : X.calm = true) (hm : X.mg "list" = none) (hm2 : X.mg "range" = none) (ha : EV X a ta ma) (hg : Gl X "list" := by rfl) (hg2 : Gl X "range" := by rfl) (na : starEach [a] X.env = (false, eval a X.env) :: starEach [] X.env := by rfl)
    (na2 : starEach [.Call (.Name "range" p2) [a] [] pos2] X.env = (false, eval (.Call (.Name "range" p2) [a] [] pos2) X.env) :: starEach [] X.env := by rfl) :
    EO X (.Call (.Name "list" p) [.Call (.Name "range" p2) [a] [] pos2] [] pos) (tLstRg (tRg1 ta)) (mListRng ma) := ⟨pe_listRg hc hg hm (prg_1 hg2 hm2 ha.pe na) na2, fun Φ F ρ σ H Q s ρ' R e q => by
  obtain ⟨d, ρ1, e1, e2⟩ := bnd_some e
  obtain ⟨e3, rfl⟩ := lft_some e2
  refine ha.se Φ F ρ σ H _ d _ R e1 fun v F' H' R' X' k => ?_
  unfold fLRng at e3
  split at e3
  · rename_i n
    split at e3
    · rename_i hn
      cases e3
      cases k
      refine ⟨n, rfl, RgOk.of_le (Int.le_refl 0) hn.2 (by decide) hn.1, fun p hp => ?_⟩
      have hz : (rgV 0 n).length ≤ sizeLine := by rw [rgV_length, sizeLine_is]; omega
      have hd := rgD_ints 0 n F'
      rw [show n - 0 = n from by omega] at hd
      exact q p (.lst (rgV 0 n)) F' _ (R'.laid hp) X' (R'.fresh hp) upd_same (.ol hz hd) rfl
    · cases e3
  · cases e3⟩
end

/-! ### max(x, key=len) -/
def lenD : PyData → Nat
  | .list ds => ds.length
  | .tuple ds => ds.length
  | _ => 0
def isTupD : PyData → Bool
  | .tuple _ => true
  | _ => false
def bestLen (ds : List PyData) : Nat := argBest (fun i j => decide (lenD (ds.getD j .none) < lenD (ds.getD i .none))) (ds.length - 1)
def fMaxLen : PyData → Option PyData
  | .list ds => if ds.all isTupD && !ds.isEmpty then ds[bestLen ds]? else none
  | _ => none
section
variable {prog : Program} {w : World} {A : Around} {E : Value → Shared → Prop} {s : Shared}
theorem max_by_len {l : Addr} {vs : Array Value} (len : Nat → Nat) {Q : Value → Shared → Prop} (hh : A.handled = none) (hl : s.heap.IsList l vs) (hn : 0 < vs.size)
    (ht : ∀ i v, vs[i]? = some v → ∃ a its, v = .ref a ∧ IsTup s.heap a its ∧ its.size = len i ∧ its.size ≤ sizeLine) (h : ∀ v h' tk, vs[argBest (fun i j => decide (len j < len i)) (vs.size - 1)]? = some v → (∀ b o, s.heap.get? b = some o → h'.get? b = some o) → Q v { s with heap := h', toks := tk }) :
    wpAny (model prog w) A (call (.builtin "max") [.ref l] [(Str.ofString "key", .builtin "len")]) Q E s := by
  have keepT : ∀ {h1 h2 : Heap} {a : Addr} {its : Array Value}, (∀ b o, h1.get? b = some o → h2.get? b = some o) → IsTup h1 a its → IsTup h2 a its := fun k ⟨o, e, r⟩ => ⟨o, k _ _ e, r⟩
  refine call_max_walkKB (PySem.W.iter_listW (A := A.in1) hh hl fun s2 e2 W st hfp hw hk => ?_)
  subst e2
  have base : ∀ {s' : Shared}, (∃ h' tk, s' = { s with heap := h', toks := tk } ∧ ∀ b o, s.heap.get? b = some o → h'.get? b = some o) → ∀ b o, s.heap.get? b = some o → s'.heap.get? b = some o := fun ⟨h', tk, e, k⟩ => by subst e; exact k
  have moved : ∀ (S : Addr) (x s' : Shared), S ≠ s.heap.objs.size → (∀ b o, s.heap.get? b = some o → b ≠ S) → (∃ h' tk, x = { s with heap := h', toks := tk } ∧ ∀ b o, s.heap.get? b = some o → h'.get? b = some o) → Moved (S :: [s.heap.objs.size]) (fun a b => b = a) x s' → ∃ h' tk, s' = { s with heap := h', toks := tk } ∧ ∀ b o, s.heap.get? b = some o → h'.get? b = some o := by
    rintro S x s' hS hb ⟨h', tk, rfl, k⟩ m
    refine ⟨s'.heap, s'.toks, ?_, fun b o e => m.heap b o ?_ (k b o e)⟩
    · obtain ⟨hp, g, d, t, os⟩ := s'
      have h1 : g = s.gens := m.gens
      have h2 : d = s.drawn := m.drawn
      have h3 : os = s.os := m.os
      subst h1; subst h2; subst h3
      rfl
    · intro z
      rcases List.mem_cons.mp z with z | z
      · exact hb b o e z
      · have := List.mem_singleton.mp z
        exact absurd (Heap.lt_size e) (by rw [this]; exact Nat.lt_irrefl _)
  have szS : s.heap.objs.size < (s.heap.push ({ cls := .type "list_iterator", data := .fields #[.ref l, .int 0 0] } : Obj)).objs.size := by rw [Heap.size_push]; exact Nat.lt_succ_self _
  have hSb : ∀ b o, s.heap.get? b = some o → b ≠ (s.heap.push ({ cls := .type "list_iterator", data := .fields #[.ref l, .int 0 0] } : Obj)).objs.size := fun b o e z => by
    have hlt := Heap.lt_size e
    rw [z] at hlt
    exact absurd (Nat.lt_trans hlt szS) (Nat.lt_irrefl _)
  refine ⟨_, _, _, _, _, _, _, (fun s' => ∃ h' tk, s' = { s with heap := h', toks := tk } ∧ ∀ b o, s.heap.get? b = some o → h'.get? b = some o), (fun i k _ => ∃ t, k = .int (len i : Nat) t), (fun i j => decide (len j < len i)), rfl, W, st, hfp, hn, ⟨fun x s' hx m => moved _ x s' (Nat.ne_of_gt szS) hSb hx m, fun _ _ _ _ hv _ => hv, ?_, ?_⟩, ⟨_, _, rfl, hk⟩, ?_⟩
  · rintro i v x o Q E hi hP ⟨h', tk, rfl, k⟩ hst hS hq
    obtain ⟨a, its, rfl, it, hz, hz2⟩ := ht i v hP
    have hit : IsTup h' a its := keepT k it
    refine len_tuple hit (by have := line63; omega) ?_
    exact hq _ _ ⟨h', _, rfl, k⟩ ⟨hst.1, hst.2⟩ hS ⟨_, by rw [hz]⟩ fun _ _ z => z
  · rintro i j ki kj x Q E hx ⟨t, rfl⟩ ⟨t', rfl⟩ hq
    refine P.gt_int ?_
    have e : decide ((len i : Int) > (len j : Int)) = decide (len j < len i) := by
      apply decide_eq_decide.mpr
      omega
    rw [e]
    exact hq
  · rintro v s' hP ⟨h', tk, rfl, k⟩
    exact h v h' tk hP k
end
def rMaxLen (K : PySem.W.Frag) : V → Hp → VK → Prop := fun x H Q => ∃ (a : Addr) (zs : List (Addr × List V)), x = .ref a ∧ SqL K H a (zs.map fun p => .ref p.1) ∧ zs ≠ [] ∧ (∀ p ∈ zs, SqT K H p.1 p.2) ∧
  ∀ b, (zs.map (·.1))[argBest (fun i j => decide ((zs.map (·.2.length)).getD j 0 < (zs.map (·.2.length)).getD i 0)) (zs.length - 1)]? = some b → Q (.ref b) H
def tMaxLen (K : PySem.W.Frag) (te : TE) : TE := fun σ H Q => te σ H fun x H1 => ∃ y, [x] = [y] ∧ rMaxLen K y H1 Q
theorem zs_at {H : Hp} {K : PySem.W.Frag} {zs : List (Addr × List V)} {its : List Value} (r : Vals (zs.map fun p => V.ref p.1) its) : its = zs.map fun p => Value.ref p.1 := by
  induction zs generalizing its with
  | nil => cases r; rfl
  | cons z zs ih =>
    cases r with
    | cons a t =>
      cases a
      rw [ih t]
      rfl
section
variable {X : Cx} {e : Expr} {te : TE} {p1 p2 pos kpos : Pos}
theorem pe_maxLen (hc : X.calm = true) (hm : X.mg "max" = none) (hm2 : X.mg "len" = none) (he : PE X e te) (hg : Gl X "max" := by rfl) (hg2 : Gl X "len" := by rfl) (na : starEach [e] X.env = (false, eval e X.env) :: starEach [] X.env := by rfl)
    (hk : backToKw pos (keywordEach [⟨some "key", .Name "len" p2, kpos⟩] X.env) = [(some (Str.ofString "key"), (do let v ← eval (.Name "len" p2) X.env; standAt pos; pure v : Sem Value))] := by rfl) :
    PE X (.Call (.Name "max" p1) [e] [⟨some "key", .Name "len" p2, kpos⟩] pos) (tMaxLen X.K te) := by
  refine ⟨fun pins s σ H Q I h => ?_⟩
  refine wpAny_Call_Name_kw (ld_blt I hg hm bt_max ?_)
  refine PyProof.Rows.callWith_kw (thn ((pa_cons he pa_nil na).run pos pins s σ H (fun vs H1 => ∃ y, vs = [y] ∧ rMaxLen X.K y H1 Q) I h) fun us s1 ⟨vs, H1, I1, r1, q1⟩ => ?_) (by rw [na]; rfl) (by rw [na]; rfl) (by rw [hk]; rfl) (by rw [hk]; rfl)
  obtain ⟨y, rfl, a, zs, rfl, hs, hn, ht, q⟩ := q1
  rw [Vals.ref1 r1, hk]
  refine wpAny_evalAll_cons (wpAny_bind (ld_blt I1 hg2 hm2 bt_len (wpAny_bind (wpAny_standAt (wpAny_pure (wpAny_evalAll_nil ?_))))))
  show wpAny _ _ (call (.builtin "max") [.ref a] [(Str.ofString "key", .builtin "len")]) _ _ _
  obtain ⟨its, rv, pl, hz⟩ := I1.list hs
  have hi := zs_at (H := H1) (K := X.K) rv
  have hsz : its.toArray.size = zs.length := by rw [List.size_toArray, hi, List.length_map]
  have get : ∀ (i : Nat) (v : Value), its.toArray[i]? = some v → ∃ p, zs[i]? = some p ∧ v = .ref p.1 := fun i v e => by
    rw [List.getElem?_toArray, hi, List.getElem?_map] at e
    obtain ⟨p, h1, h2⟩ := Option.map_eq_some_iff.mp e
    exact ⟨p, h1, h2.symm⟩
  refine max_by_len (fun i => (zs.map (·.2.length)).getD i 0) (I1.ok.hd hc) pl.isList (by rw [hsz]; exact List.length_pos_iff.mpr hn) (fun i v e => ?_) fun v h' tk e k => ?_
  · obtain ⟨p, h1, rfl⟩ := get i v e
    obtain ⟨us, r2, it, hz2⟩ := I1.tuple (ht p (List.mem_of_getElem? h1))
    refine ⟨p.1, us.toArray, rfl, it, ?_, ?_⟩
    · rw [List.size_toArray, ← r2.length, List.getD_eq_getElem?_getD, List.getElem?_map, h1]; rfl
    · rw [List.size_toArray, ← r2.length]; exact hz2
  · rw [hsz] at e
    obtain ⟨p, h1, rfl⟩ := get _ v e
    exact ⟨.ref p.1, H1, I1.kept k, rfl, q p.1 (by rw [List.getElem?_map, h1]; rfl)⟩
end
theorem tups_of {K : PySem.W.Frag} {F H : Hp} (hs : Same F H) : ∀ {vs : List V} {ds : List PyData}, DnA F vs ds → ds.all isTupD = true → ∃ zs : List (Addr × List V), vs = zs.map (fun p => V.ref p.1) ∧ (∀ p ∈ zs, SqT K H p.1 p.2) ∧ zs.map (·.2.length) = ds.map lenD
  | _, _, .nil, _ => ⟨[], rfl, fun p hp => (by cases hp), rfl⟩
  | _, _, .cons (d := d) a t, h => by
    rw [List.all_cons, Bool.and_eq_true] at h
    obtain ⟨zs, h1, h2, h3⟩ := tups_of hs t h.2
    cases d with
    | tuple es =>
      cases a with
      | @tup b us _ r k =>
        refine ⟨(b, us) :: zs, by rw [h1]; rfl, fun p hp => ?_, by rw [List.map_cons, List.map_cons, h3, k.length]; rfl⟩
        rcases List.mem_cons.mp hp with rfl | hp
        · exact .inl (rd_mono hs r)
        · exact h2 p hp
    | _ => cases h.1
theorem sx_maxLen {K : PySem.W.Frag} {te : TE} {m : M Ag} (h : SX te m) : SE (tMaxLen K te) (bnd m fun a ρ => match a.get ρ with
    | some d => (match fMaxLen d with
      | some z => some (z, ρ)
      | none => none)
    | none => none) := fun Φ F ρ σ H Q d ρ' R e q => by
  obtain ⟨a, ρ1, e1, e2⟩ := bnd_some e
  split at e2
  · rename_i d0 hd
    split at e2
    · rename_i z hz
      cases e2
      refine h Φ F ρ σ H _ a _ R e1 fun v F' H' R' X' k => ?_
      have lk := Ag.lk R' k hd
      unfold fMaxLen at hz
      split at hz
      · rename_i ds
        split at hz
        · rename_i hall
          rw [Bool.and_eq_true, Bool.not_eq_true'] at hall
          obtain ⟨b, vs, rfl, hs, da⟩ := lk.seqL (K := K) R'.fs
          obtain ⟨zs, rfl, ht, hl⟩ := tups_of (K := K) R'.fs da hall.1
          have hlen : zs.length = ds.length := by have := da.length; rw [List.length_map] at this; exact this
          refine ⟨_, rfl, b, zs, rfl, hs, ?_, ht, fun c hc => ?_⟩
          · rintro rfl
            rw [List.length_nil] at hlen
            rw [List.eq_nil_of_length_eq_zero hlen.symm] at hall
            cases hall.2
          · have hb : argBest (fun i j => decide ((zs.map (·.2.length)).getD j 0 < (zs.map (·.2.length)).getD i 0)) (zs.length - 1) = bestLen ds := by
              unfold bestLen
              rw [hl, hlen]
              congr 1
              funext i j
              have g : ∀ i, (ds.map lenD).getD i 0 = lenD (ds.getD i .none) := fun i => by
                rw [List.getD_eq_getElem?_getD, List.getElem?_map, List.getD_eq_getElem?_getD]
                cases ds[i]? <;> rfl
              rw [g, g]
            rw [hb] at hc
            obtain ⟨v, hv, dn⟩ := da.get hz
            rw [List.getElem?_map] at hv hc
            obtain ⟨p, p1, p2⟩ := Option.map_eq_some_iff.mp hv
            obtain ⟨p', p3, p4⟩ := Option.map_eq_some_iff.mp hc
            rw [p1] at p3
            cases p3
            subst p4
            rw [← p2] at dn
            exact q _ F' H' R' X' dn
        · cases hz
      · cases hz
    · cases e2
  · cases e2
noncomputable def mMaxLen (m : M Ag) : M PyData := bnd m fun a ρ => match a.get ρ with
  | some d => (match fMaxLen d with
    | some z => some (z, ρ)
    | none => none)
  | none => none
section
variable {X : Cx} {e : Expr} {te : TE} {m : M Ag} {p1 p2 pos kpos : Pos}
theorem c_maxLen (hc : X.calm = true) (hm : X.mg "max" = none) (hm2 : X.mg "len" = none) (he : EX X e te m) (hg : Gl X "max" := by rfl) (hg2 : Gl X "len" := by rfl) (na : starEach [e] X.env = (false, eval e X.env) :: starEach [] X.env := by rfl)
    (hk : backToKw pos (keywordEach [⟨some "key", .Name "len" p2, kpos⟩] X.env) = [(some (Str.ofString "key"), (do let v ← eval (.Name "len" p2) X.env; standAt pos; pure v : Sem Value))] := by rfl) :
    EV X (.Call (.Name "max" p1) [e] [⟨some "key", .Name "len" p2, kpos⟩] pos) (tMaxLen X.K te) (mMaxLen m) := ⟨pe_maxLen hc hm hm2 he.pe hg hg2 na hk, sx_maxLen he.se⟩
end
end DL
end
section
/-! repr; sorted(set(x)) -/
namespace DL
open PySem PySem.Spec PyProof.Rows L2
variable [Tbs]
def isIL : PyData → Bool
  | .int _ => true
  | .list _ => true
  | .tuple _ => true
  | _ => false
def okRepr (d : PyData) : Bool := d.showable && !d.hasDict && decide (d.depth ≤ 10) && decide (d.shown.length ≤ 16777216) && isIL d
def rRepr (K : PySem.W.Frag) : List V → Hp → VK → Prop := fun xs H Q => ∃ x d, xs = [x] ∧ Dp K H x d ∧ okRepr d = true ∧ Q (.str d.shown) H
theorem cr_repr {X : Cx} (hg : X.A.guards = some []) (hu : X.A.units + 64 < cLine) : CallR X (.builtin "repr") (rRepr X.K) := by
  intro pins s σ H xs us Q I r h
  obtain ⟨x, d, rfl, k, ok, q⟩ := h
  unfold okRepr at ok
  simp only [Bool.and_eq_true, Bool.not_eq_true', decide_eq_true_eq] at ok
  obtain ⟨⟨⟨⟨h1, h2⟩, h3⟩, h4⟩, h5⟩ := ok
  obtain ⟨u, rfl, rx⟩ := vals1 r
  obtain ⟨as, rd⟩ := Dp.reads I d x u k rx
  have fin : ∀ a, u = .ref a → wpAny (model X.prog X.w) X.A (call (.builtin "repr") [u]) (L2.EP X pins σ Q) X.xe s := fun a e => by
    subst e
    exact repr_of_reads' rd h1 (fun z => by rw [h2] at z; cases z) hg (by omega) (fun _ _ e => e) (fun h' t tk kk => ⟨.str d.shown, H, I.kept kk, ⟨t, rfl⟩, q⟩) (by rw [sizeLine_is]; exact h4)
  cases d with
  | int i =>
    cases k
    obtain ⟨t, rfl⟩ := rx
    have e : (PyData.int i).shown = Str.ofString (toString i) := by simp [PyData.shown]
    rw [e] at q
    exact PySem.P.repr_of_int (by simpa [PyData.showable] using h1) ⟨.str _, H, I.tok _, ⟨_, rfl⟩, q⟩
  | list ds => cases rd with
    | list a b c d => exact fin _ rfl
  | tuple ds => cases rd with
    | tuple a b c d => exact fin _ rfl
  | _ => cases h5
def fRepr : List PyData → Option PyData := f1 fun d => if okRepr d = true then some (.str d.shown) else none
theorem rcs_repr {K : PySem.W.Frag} : RCS (rRepr K) fRepr := fun Φ F ρ σ H Q vs ds z R k hz q => by
  unfold fRepr f1 at hz
  split at hz
  · rename_i d
    obtain ⟨v, rfl, lk⟩ := lkA1 k
    dsimp only at hz
    split at hz
    · rename_i ok
      cases hz
      exact ⟨v, d, rfl, lk.dp R.fs, ok, q _ F H R (Ext.refl Φ F) (.str _)⟩
    · cases hz
  · cases hz
section
variable {X : Cx} {p pos : Pos} {e : Expr} {t : TA} {m : M (List Ag)} {k : Nat}
theorem c_repr (hr : RmG k X.A) (hm : X.mg "repr" = none) (ha : EA X [e] t m) (hg : Gl X "repr" := by rfl) (he : starEach [e] X.env = (false, eval e X.env) :: starEach [] X.env := by rfl) : EV X (.Call (.Name "repr" p) [e] [] pos) (tCB (rRepr X.K) t) (opA fRepr m) := ev_callB (cr_repr hr.g hr.r.units) rcs_repr hg hm bt_repr ha (he := he)
end

/-! ### set(list of ints) -/
section
variable {P : Program} {w : World} {A : Around} {E : Value → Shared → Prop} {s : Shared}
abbrev emptySet (w : World) : Obj := { cls := .type "set", dict := none, data := .set #[] 0 (.fresh 0 0 (!w.params.followText "set-order")) }
set_option maxHeartbeats 3200000 in
theorem set_of_list {l : Addr} {items : Array Value} (ks : List Int) {Q : Value → Shared → Prop} (hA : A.handled = none) (hl : s.heap.IsList l items) (hi : IntsAre items.toList ks) (hb : ks.length + 1 < scanBound)
    (fin : ∀ (g : Heap) (tk c : Nat), SetR w g s.heap.objs.size (fun j => decide (j ∈ ks)) c → c ≤ ks.length → (∀ b o, s.heap.get? b = some o → g.get? b = some o) → Q (.ref s.heap.objs.size) { s with heap := g, toks := tk }) :
    wpAny (model P w) A (call (.type "set") [.ref l]) Q E s := by
  have size_ks : items.size = ks.length := by
    have := IntsAre.length hi
    rwa [Array.length_toList] at this
  obtain ⟨_, _, hmro⟩ := F.called_set.mro
  have hmade := F.called_set.made
  have hsubty := F.called_set.sub
  apply wpAny_call
  apply codeAny_of_tree
  show wpAny _ _ (callAny (.type "set") _) _ _ _
  refine wpAny_pure ⟨Code.quiet_builtin _ (by decide +kernel), codeAny_builtin F.entry_type_call ?_⟩
  rw [Around.under_plain (weight_type_call_type "set" [.ref l] []) rfl]
  have nt := F.called_set.notType
  have cc := F.called_set.canCreate
  have tc := F.typeCall_set_1 (.ref l)
  repeat (any_goals (first | assumption | wp_step))

  refine codeAny_mono (code_set_led1 (.ref l) (E := E) (Q₁ := fun ob z => ob = .ref s.heap.objs.size ∧ z = { s with heap := s.heap.push (emptySet w) }) ⟨rfl, rfl⟩) ?_
  rintro (er | fl) z hr
  · exact hr
  · cases fl with
    | ret ob =>
      obtain ⟨rfl, rfl⟩ := hr
      have atS : (s.heap.push (emptySet w)).get? s.heap.objs.size = some (emptySet w) := Heap.get?_push_size _ rfl
      have tyS : Shared.TypeIs { s with heap := s.heap.push (emptySet w) } (.ref s.heap.objs.size) "set" := ⟨_, atS, rfl⟩
      have il := F.called_set.init.lookup
      have ib := F.called_set.init.bind (.ref s.heap.objs.size)
      repeat (any_goals (first | assumption | wp_step))

      refine codeAny_mono (codeAny_call_builtin (R := wants (fun r y => r = .none ∧ ∃ g tk c, y = { s with heap := g, toks := tk } ∧ SetR w g s.heap.objs.size (fun j => decide (j ∈ ks)) c ∧ c ≤ ks.length ∧
          (∀ b o, s.heap.get? b = some o → g.get? b = some o)) E) F.called_set.init.plain F.entry_set_init (check_set_init_1 tyS ?_)) ?_
      · obtain ⟨⟨ocls, odict, odata, oslots⟩, hol, hcl, nl, hdl⟩ := hl
        simp only at hcl hdl
        subst hcl; subst hdl
        have hol2 : (s.heap.push (emptySet w)).get? l = some { cls := .type "list", dict := odict, data := .seq items nl, slots := oslots } := Heap.get?_push_of_some _ hol
        have sub1 := F.sub_list_set
        have sub2 := F.sub_list_frozenset
        have ndict : (Value.type "list" == Value.type "dict") = false := by decide
        have hl2 : (s.heap.push (emptySet w)).IsList l items := ⟨_, hol2, rfl, nl, rfl⟩
        unfold Builtin.«set.__init__» noKeywords Builtin.Frozenset.updateFrom
        generalize hPI : pyIter = PI
        wp_walk
        subst hPI

        refine wpAny_pyIter_list hl2 ?_
        refine wpAny_bind (wpAny_runValue ?_)
        have lS : l < s.heap.objs.size := Heap.lt_size hol
        have hA3 : A.in1.in1.in1.handled = none := by simp [hA]
        have szp : (s.heap.push (emptySet w)).objs.size = s.heap.objs.size + 1 := Heap.size_push ..
        have lne : l ≠ (s.heap.push (emptySet w)).objs.size := by
          rw [Heap.size_push]; exact Nat.ne_of_lt (Nat.lt_succ_of_lt lS)
        have apart : s.heap.objs.size ∉ [(s.heap.push (emptySet w)).objs.size, l] := by
          rw [Heap.size_push]; simp only [List.mem_cons, List.mem_singleton, List.not_mem_nil, or_false, not_or]
          exact ⟨Nat.ne_of_lt (Nat.lt_succ_self _), Nat.ne_of_gt lS⟩
        have vals : ∀ (i : Nat) (v : Value), items[i]? = some v → ∃ k t, ks[i]? = some k ∧ v = .int k t := fun i v hv => by
          have hik : i < ks.length := by rw [← size_ks]; exact (Array.getElem?_eq_some_iff.mp hv).1
          obtain ⟨t, e⟩ := PyProof.Rows.IntsAre.int_at hi i v (by rw [Array.getElem?_toList]; exact hv)
          refine ⟨ks[i], t, List.getElem?_eq_getElem hik, ?_⟩
          rw [e, List.getD_eq_getElem?_getD, List.getElem?_eq_getElem hik] <;> rfl
        refine set_update_ints ((Walks.list hA3 _ l lne items).toS) s.heap.objs.size apart ks size_ks hb vals (items.size - 0) 0 _ (by omega) (Nat.zero_le _) ⟨⟨_, Heap.get?_push_size _ rfl, rfl, rfl⟩, (hl2.push _)⟩ ?start ?done
        case start =>
          have got : ((s.heap.push (emptySet w)).push { cls := .type "list_iterator", data := .fields #[.ref l, .int 0 0] }).get? s.heap.objs.size = some (emptySet w) := Heap.get?_push_of_some _ atS
          exact ⟨0, Nat.le_refl 0, setR_new_at got⟩
        case done =>
          intro y c2 mv hc2 hS2
          obtain ⟨g, gs, dr, tk, os⟩ := y
          obtain rfl : gs = s.gens := mv.gens
          obtain rfl : dr = s.drawn := mv.drawn
          obtain rfl : os = s.os := mv.os
          show wpAny _ _ _ _ _ _
          refine wpAny_pure ?_
          show wpAny _ _ (PySem.ret Value.none) _ _ _
          rw [size_ks] at hc2
          refine wpAny_pure ⟨rfl, g, tk, c2, rfl, hS2, hc2, fun b o e => ?_⟩
          have hlt : b < s.heap.objs.size := Heap.lt_size e
          refine mv.heap b o ?_ (Heap.get?_push_of_some _ (Heap.get?_push_of_some _ e))
          simp only [List.mem_cons, List.mem_singleton, List.not_mem_nil, or_false, not_or]
          exact ⟨Nat.ne_of_lt hlt, by rw [Heap.size_push]; exact Nat.ne_of_lt (Nat.lt_succ_of_lt hlt)⟩
      · rintro (er | fl2) y hr2
        · exact hr2
        · cases fl2 with
          | ret r =>
            obtain ⟨rfl, g, tk, c2, rfl, hS2, hc2, hk2⟩ := hr2
            repeat (any_goals (first | assumption | wp_step))
            exact fin _ _ _ hS2 hc2 hk2
          | _ => exact hr2.elim
    | _ => exact hr.elim
end
end DL
end
section
/-! sorted(set(x)), x an ascending tuple of ints or of pairs -/
namespace DL
open PySem PySem.Spec PyProof.Rows L2
section
variable {P : Program} {w : World} {A : Around} {E : Value → Shared → Prop} {s : Shared}
set_option maxHeartbeats 3200000 in
theorem set_of_tups {l : Addr} {items : Array Value} (kp : List (Addr × List Int)) {Q : Value → Shared → Prop} (hA : A.handled = none) (hl : s.heap.IsTuple l items) (hi : items.toList = kp.map fun p => Value.ref p.1)
    (each : ∀ p ∈ kp, IsT P w s.heap p.2 p.1) (few : kp.length < 64) (hu : A.units + 3 < cLine)
    (fin : ∀ (g : Heap) (tk : Nat) L es ep t, SetTR P w g s.heap.objs.size L es ep t → Got kp kp.length L → (∀ b o, s.heap.get? b = some o → g.get? b = some o) → Q (.ref s.heap.objs.size) { s with heap := g, toks := tk }) :
    wpAny (model P w) A (call (.type "set") [.ref l]) Q E s := by
  have size_kp : items.size = kp.length := by
    have := congrArg List.length hi
    rwa [Array.length_toList, List.length_map] at this
  obtain ⟨_, _, hmro⟩ := F.called_set.mro
  have hmade := F.called_set.made
  have hsubty := F.called_set.sub
  apply wpAny_call
  apply codeAny_of_tree
  show wpAny _ _ (callAny (.type "set") _) _ _ _
  refine wpAny_pure ⟨Code.quiet_builtin _ (by decide +kernel), codeAny_builtin F.entry_type_call ?_⟩
  rw [Around.under_plain (weight_type_call_type "set" [.ref l] []) rfl]
  have nt := F.called_set.notType
  have cc := F.called_set.canCreate
  have tc := F.typeCall_set_1 (.ref l)
  repeat (any_goals (first | assumption | wp_step))

  refine codeAny_mono (code_set_led1 (.ref l) (E := E) (Q₁ := fun ob z => ob = .ref s.heap.objs.size ∧ z = { s with heap := s.heap.push (emptySet w) }) ⟨rfl, rfl⟩) ?_
  rintro (er | fl) z hr
  · exact hr
  · cases fl with
    | ret ob =>
      obtain ⟨rfl, rfl⟩ := hr
      have atS : (s.heap.push (emptySet w)).get? s.heap.objs.size = some (emptySet w) := Heap.get?_push_size _ rfl
      have tyS : Shared.TypeIs { s with heap := s.heap.push (emptySet w) } (.ref s.heap.objs.size) "set" := ⟨_, atS, rfl⟩
      have il := F.called_set.init.lookup
      have ib := F.called_set.init.bind (.ref s.heap.objs.size)
      repeat (any_goals (first | assumption | wp_step))

      refine codeAny_mono (codeAny_call_builtin (R := wants (fun r y => r = .none ∧ ∃ g tk L es ep t, y = { s with heap := g, toks := tk } ∧ SetTR P w g s.heap.objs.size L es ep t ∧ Got kp kp.length L ∧
          (∀ b o, s.heap.get? b = some o → g.get? b = some o)) E) F.called_set.init.plain F.entry_set_init (check_set_init_1 tyS ?_)) ?_
      · obtain ⟨⟨ocls, odict, odata, oslots⟩, hol, hcl, nl, hdl⟩ := hl
        simp only at hcl hdl
        subst hcl; subst hdl
        have hol2 : (s.heap.push (emptySet w)).get? l = some { cls := .type "tuple", dict := odict, data := .seq items nl, slots := oslots } := Heap.get?_push_of_some _ hol
        have sub1 := F.sub_tuple_set
        have sub2 := F.sub_tuple_frozenset
        have ndict : (Value.type "tuple" == Value.type "dict") = false := by decide
        have hl2 : (s.heap.push (emptySet w)).IsTuple l items := ⟨_, hol2, rfl, nl, rfl⟩
        unfold Builtin.«set.__init__» noKeywords Builtin.Frozenset.updateFrom
        generalize hPI : pyIter = PI
        wp_walk
        subst hPI

        refine wpAny_pyIter_tuple hl2 ?_
        refine wpAny_bind (wpAny_runValue ?_)
        have lS : l < s.heap.objs.size := Heap.lt_size hol
        have hA3 : A.in1.in1.in1.handled = none := by simp [hA]
        have szp : (s.heap.push (emptySet w)).objs.size = s.heap.objs.size + 1 := Heap.size_push ..
        have lne : l ≠ (s.heap.push (emptySet w)).objs.size := by
          rw [Heap.size_push]; exact Nat.ne_of_lt (Nat.lt_succ_of_lt lS)
        have apart : s.heap.objs.size ∉ [(s.heap.push (emptySet w)).objs.size, l] := by
          rw [Heap.size_push]; simp only [List.mem_cons, List.mem_singleton, List.not_mem_nil, or_false, not_or]
          exact ⟨Nat.ne_of_lt (Nat.lt_succ_self _), Nat.ne_of_gt lS⟩
        have vals : ∀ (i : Nat) (v : Value), items[i]? = some v → ∃ p, kp[i]? = some p ∧ v = .ref p.1 := fun i v hv => by
          rw [← Array.getElem?_toList, hi, List.getElem?_map] at hv
          obtain ⟨p, h1, h2⟩ := Option.map_eq_some_iff.mp hv
          exact ⟨p, h1, h2.symm⟩
        have gone : ∀ b, s.heap.objs.size ≤ b → s.heap.get? b = none := fun b hb => by
          cases q : s.heap.get? b with
          | none => rfl
          | some o => exact absurd (Nat.lt_of_lt_of_le (Heap.lt_size q) hb) (Nat.lt_irrefl _)
        refine set_update_tups ((Walks.tuple hA3 _ l lne items).toS) s.heap.objs.size apart kp size_kp few vals s.heap each (gone _ (Nat.le_refl _)) (fun b hb => gone b (by rw [List.mem_singleton.mp hb, Heap.size_push]; exact Nat.le_succ _)) hu (items.size - 0) 0 _ (by omega) (Nat.zero_le _)
          ⟨⟨_, Heap.get?_push_size _ rfl, rfl, rfl⟩, (hl2.push _)⟩ (fun b o e => Heap.get?_push_of_some _ (Heap.get?_push_of_some _ e)) ?start ?done
        case start =>
          have got : ((s.heap.push (emptySet w)).push { cls := .type "tuple_iterator", data := .fields #[.ref l, .int 0 0] }).get? s.heap.objs.size = some (emptySet w) := Heap.get?_push_of_some _ atS
          exact ⟨[], #[], 0, _, setTR_fresh got, Got.zero kp⟩
        case done =>
          intro y L es ep t mv hS2 gt kk
          obtain ⟨g, gs, dr, tk, os⟩ := y
          obtain rfl : gs = s.gens := mv.gens
          obtain rfl : dr = s.drawn := mv.drawn
          obtain rfl : os = s.os := mv.os
          show wpAny _ _ _ _ _ _
          refine wpAny_pure ?_
          show wpAny _ _ (PySem.ret Value.none) _ _ _
          rw [size_kp] at gt
          exact wpAny_pure ⟨rfl, g, tk, L, es, ep, t, rfl, hS2, gt, kk⟩
      · rintro (er | fl2) y hr2
        · exact hr2
        · cases fl2 with
          | ret r =>
            obtain ⟨rfl, g, tk, L, es, ep, t, rfl, hS2, gt, kk⟩ := hr2
            repeat (any_goals (first | assumption | wp_step))
            exact fin _ _ _ _ _ _ hS2 gt kk
          | _ => exact hr2.elim
    | _ => exact hr.elim
end
end DL
end
section
namespace DL
open PySem PySem.Spec PyProof.Rows L2
variable [Tbs]
/-! ### one ascending list of given members -/
theorem asc_unique {α : Type} (lt : α → α → Prop) (irr : ∀ a, ¬ lt a a) (tr : ∀ a b c, lt a b → lt b c → lt a c) : ∀ {xs ys : List α}, xs.Pairwise lt → ys.Pairwise lt → (∀ k, k ∈ xs ↔ k ∈ ys) → xs = ys
  | [], [], _, _, _ => rfl
  | [], y :: ys, _, _, h => absurd ((h y).mpr List.mem_cons_self) (List.not_mem_nil)
  | x :: xs, [], _, _, h => absurd ((h x).mp List.mem_cons_self) (List.not_mem_nil)
  | x :: xs, y :: ys, hx, hy, h => by
    rw [List.pairwise_cons] at hx hy
    have e : x = y := by
      rcases List.mem_cons.mp ((h x).mp List.mem_cons_self) with e | m
      · exact e
      · rcases List.mem_cons.mp ((h y).mpr List.mem_cons_self) with e | m2
        · exact e.symm
        · exact absurd (tr _ _ _ (hy.1 x m) (hx.1 y m2)) (irr _)
    subst e
    congr 1
    refine asc_unique lt irr tr hx.2 hy.2 fun k => ⟨fun m => ?_, fun m => ?_⟩
    · rcases List.mem_cons.mp ((h k).mp (List.mem_cons_of_mem _ m)) with e | m2
      · subst e; exact absurd (hx.1 _ m) (irr _)
      · exact m2
    · rcases List.mem_cons.mp ((h k).mpr (List.mem_cons_of_mem _ m)) with e | m2
      · subst e; exact absurd (hy.1 _ m) (irr _)
      · exact m2
def intsT : List PyData → Option (List Int)
  | [] => some []
  | .int n :: r => (intsT r).map (n :: ·)
  | _ => none
def pairsT : List PyData → Option (List (Int × Int))
  | [] => some []
  | .tuple [.int a, .int b] :: r => (pairsT r).map ((a, b) :: ·)
  | _ => none
def ascI : List Int → Bool
  | a :: b :: r => decide (a < b) && ascI (b :: r)
  | _ => true
def ascP : List (Int × Int) → Bool
  | p :: q :: r => decide (p.1 * 64 + p.2 < q.1 * 64 + q.2) && ascP (q :: r)
  | _ => true
theorem ascI_pw : ∀ {l : List Int}, ascI l = true → l.Pairwise (· < ·)
  | [], _ => .nil
  | [a], _ => by simp
  | a :: b :: r, h => by
    unfold ascI at h
    rw [Bool.and_eq_true, decide_eq_true_eq] at h
    have ih := ascI_pw h.2
    rw [List.pairwise_cons] at ih ⊢
    refine ⟨fun c hc => ?_, ascI_pw h.2⟩
    rcases List.mem_cons.mp hc with e | hc
    · rw [e]; exact h.1
    · exact Int.lt_trans h.1 (ih.1 c hc)
theorem ascP_pw : ∀ {l : List (Int × Int)}, ascP l = true → l.Pairwise (fun p q => p.1 * 64 + p.2 < q.1 * 64 + q.2)
  | [], _ => .nil
  | [a], _ => by simp
  | a :: b :: r, h => by
    unfold ascP at h
    rw [Bool.and_eq_true, decide_eq_true_eq] at h
    have ih := ascP_pw h.2
    rw [List.pairwise_cons] at ih ⊢
    refine ⟨fun c hc => ?_, ascP_pw h.2⟩
    rcases List.mem_cons.mp hc with e | hc
    · rw [e]; exact h.1
    · exact Int.lt_trans h.1 (ih.1 c hc)
theorem intsT_dn {F : Hp} : ∀ {ds : List PyData} {ns : List Int} {vs : List V}, intsT ds = some ns → DnA F vs ds → vs = ns.map V.int ∧ ds = ns.map PyData.int
  | [], _, _, h, .nil => by cases h; exact ⟨rfl, rfl⟩
  | .int n :: r, _, _, h, .cons (.int _) t => by
    unfold intsT at h
    obtain ⟨l, h1, rfl⟩ := Option.map_eq_some_iff.mp h
    obtain ⟨e1, e2⟩ := intsT_dn h1 t
    exact ⟨by rw [e1]; rfl, by rw [e2]; rfl⟩
theorem pairsT_dn {F : Hp} : ∀ {ds : List PyData} {ps : List (Int × Int)} {vs : List V}, pairsT ds = some ps → DnA F vs ds → ∃ kp : List (Addr × List Int), vs = kp.map (fun p => V.ref p.1) ∧ kp.map (·.2) = ps.map (fun p => [p.1, p.2]) ∧ ds = ps.map (fun p => .tuple [.int p.1, .int p.2]) ∧ ∀ p ∈ kp, Rd F p.1 (.tup (p.2.map V.int)) ∧ Dn F (.ref p.1) (.tuple (p.2.map PyData.int))
  | [], _, _, h, .nil => by cases h; exact ⟨[], rfl, rfl, rfl, fun p hp => (by cases hp)⟩
  | .tuple [.int a, .int b] :: r, _, _, h, .cons (.tup (a := c) rd k) t => by
    unfold pairsT at h
    obtain ⟨l, h1, rfl⟩ := Option.map_eq_some_iff.mp h
    obtain ⟨kp, e1, e2, e3, e4⟩ := pairsT_dn h1 t
    have k0 := k
    cases k with
    | cons k1 k2 => cases k1; cases k2 with
      | cons k3 k4 =>
        cases k3; cases k4
        refine ⟨(c, [a, b]) :: kp, by rw [e1]; rfl, by rw [List.map_cons, List.map_cons, e2], by rw [e3]; rfl, fun p hp => ?_⟩
        rcases List.mem_cons.mp hp with rfl | hp
        · exact ⟨rd, .tup rd k0⟩
        · exact e4 p hp

/-! ### the rules -/
def rSetU (K : PySem.W.Frag) (P : Program) (w : World) : List V → Hp → VK → Prop := fun xs H Q =>
  (∃ (p : Addr) (ns : List Int), xs = [.ref p] ∧ SqT K H p (ns.map V.int) ∧ ns.length < 64 ∧ ∀ q c, H q = none → c ≤ ns.length → Q (.ref q) (upd H q (SetO w q (fun j => decide (j ∈ ns)) c))) ∨
  (∃ (p : Addr) (kp : List (Addr × List Int)), xs = [.ref p] ∧ SqT K H p (kp.map fun p => V.ref p.1) ∧ (∀ p ∈ kp, SqT K H p.1 (p.2.map V.int)) ∧ kp.length < 64 ∧ ∀ a L, H a = none → (∀ p ∈ L, p ∈ kp) → (∀ p ∈ kp, p.2 ∈ L.map (·.2)) → Q (.ref a) (upd H a (SetTO P w a L)))
theorem cr_setU {X : Cx} (hc : X.calm = true) (hu : X.A.units + 64 < cLine) : CallR X (.type "set") (rSetU X.K X.prog X.w) := by
  rintro pins s σ H xs us Q I r (⟨p, ns, rfl, hs, hl, q⟩ | ⟨p, kp, rfl, hs, hk, hl, q⟩)
  · rw [Vals.ref1 r]
    obtain ⟨its, rv, pt, hz⟩ := I.tuple hs
    refine call_set_tupI ns (I.ok.hd hc) (show s.heap.IsTuple p its.toArray from pt) (ints_of_vals rv) (by unfold scanBound; omega) fun h' tk c R1 hcn k => ?_
    exact ⟨.ref s.heap.objs.size, upd H s.heap.objs.size (SetO X.w s.heap.objs.size (fun j => decide (j ∈ ns)) c), I.laid (t' := tk) k (Nat.le_refl _) (setO_new R1), rfl, q _ c (I.hok.fresh (Nat.le_refl _)) hcn⟩
  · rw [Vals.ref1 r]
    obtain ⟨its, rv, pt, hz⟩ := I.tuple hs
    refine set_of_tups (P := X.prog) (w := X.w) kp (I.ok.hd hc) (show s.heap.IsTuple p its.toArray from pt) (by simpa using refs_of_vals rv) (fun p hp => I.isT (hk p hp)) hl (by omega) fun h' tk L es ep t R g k => ?_
    refine ⟨.ref s.heap.objs.size, upd H s.heap.objs.size (SetTO X.prog X.w s.heap.objs.size L), I.laid (t' := tk) k (Nat.le_refl _) (setTO_new R.t0), rfl, q _ L (I.hok.fresh (Nat.le_refl _)) (fun p hp => List.mem_of_mem_take (g.sub p hp)) fun p hp => g.all p (by rw [List.take_length]; exact hp)⟩
def rSrtU (K : PySem.W.Frag) (P : Program) (w : World) : List V → Hp → VK → Prop := fun xs H Q => rSortedSet w xs H Q ∨ rSortedT K P w xs H Q
theorem cr_srtU {X : Cx} (hc : X.calm = true) : CallR X (.builtin "sorted") (rSrtU X.K X.prog X.w) := by
  rintro pins s σ H xs us Q I r (h | h)
  · exact cr_sortedSet hc pins s σ H xs us Q I r h
  · exact cr_sortedT hc pins s σ H xs us Q I r h
open Classical in
noncomputable def fSrtSet : PyData → Option Sl
  | .tuple ds => (match intsT ds with
    | some ns => if ns.length < 64 ∧ ascI ns = true then some (.ol ds) else none
    | none => (match pairsT ds with
      | some ps => if ps.length < 64 ∧ ascP ps = true ∧ (∀ p ∈ ps, 0 ≤ p.1 ∧ p.1 < 64 ∧ 0 ≤ p.2 ∧ p.2 < 64) then some (.ol ds) else none
      | none => none))
  | _ => none
noncomputable def mSrtSet (m : M Ag) : M Sl := bnd m fun a ρ => match a.get ρ with
  | some d => (match fSrtSet d with
    | some z => some (z, ρ)
    | none => none)
  | none => none
theorem so_srtSet {K : PySem.W.Frag} {P : Program} {w : World} {te : TE} {m : M Ag} (h : SX te m) : SO (tCB (rSrtU K P w) (tCons (tCB (rSetU K P w) (tCons te tNil)) tNil)) (mSrtSet m) := fun Φ F ρ σ H Q z ρ' R e q => by
  obtain ⟨a, ρ1, e1, e2⟩ := bnd_some e
  split at e2
  · rename_i d0 hd
    split at e2
    · rename_i z' hz
      cases e2
      refine h Φ F ρ σ H _ a _ R e1 fun v F' H' R' X' k => ?_
      have lk := Ag.lk R' k hd
      unfold fSrtSet at hz
      split at hz
      · rename_i ds
        obtain ⟨b, vs, rfl, hs, da⟩ := lk.seqT (K := K) R'.fs
        have hb : vs.length ≤ sizeLine := by rw [da.length]; exact lk.bdT R'
        split at hz
        · rename_i ns hns
          split at hz
          · rename_i hc
            cases hz
            obtain ⟨rfl, rfl⟩ := intsT_dn hns da
            refine .inl ⟨b, ns, rfl, hs, hc.1, fun p c hp hcn => ?_⟩
            refine .inl ⟨p, _, c, rfl, upd_same, by omega, fun ns' p2 h1 h2 h3 h4 => ?_⟩
            have e : ns' = ns := asc_unique (· < ·) (fun a => Int.lt_irrefl a) (fun a b c => Int.lt_trans) h1 (ascI_pw hc.2) fun k => by rw [h2 k, decide_eq_true_eq]
            subst e
            have R2 := R'.laid (o := SetO w p (fun j => decide (j ∈ ns')) c) hp
            exact q p2 (.lst (ns'.map V.int)) F' _ (R2.laid h4) X' (R2.fresh h4) upd_same (.ol hb da) rfl
          · cases hz
        · split at hz
          · rename_i ps hps
            split at hz
            · rename_i hc
              cases hz
              obtain ⟨kp, rfl, e2, rfl, e4⟩ := pairsT_dn hps da
              have hl : kp.length = ps.length := by have := congrArg List.length e2; rwa [List.length_map, List.length_map] at this
              refine .inr ⟨b, kp, rfl, hs, fun p hp => .inl (rd_mono R'.fs (e4 p hp).1), by rw [hl]; exact hc.1, fun p L hp hL1 hL2 => ?_⟩
              have R2 := R'.laid (o := SetTO P w p L) hp
              have cont : ∀ x ∈ kp, ∃ y ∈ ps, x.2 = [y.1, y.2] := fun x hx => by
                have : x.2 ∈ kp.map (·.2) := List.mem_map_of_mem hx
                rw [e2] at this
                obtain ⟨y, h1, h2⟩ := List.mem_map.mp this
                exact ⟨y, h1, h2.symm⟩
              refine .inr ⟨p, L, 2, 64, rfl, upd_same, fun x hx => .inl (rd_mono R2.fs (e4 x (hL1 x hx)).1), by decide, fun x hx => ?_, fun L' p2 h1 h2 h3 h4 h5 => ?_⟩
              · obtain ⟨y, hy, ey⟩ := cont x (hL1 x hx)
                obtain ⟨b1, b2, b3, b4⟩ := hc.2.2 y hy
                rw [ey]
                refine ⟨rfl, fun k hk => ?_⟩
                rcases List.mem_cons.mp hk with e | hk
                · rw [e]; exact ⟨b1, b2⟩
                · rw [List.mem_singleton.mp hk]; exact ⟨b3, b4⟩
              · -- the contents
                have inL : ∀ x ∈ L', x ∈ kp := fun x hx => hL1 x (h1.mem_iff.mp hx)
                have kpw : kp.Pairwise (fun x y => TS.code 64 x.2 < TS.code 64 y.2) := by
                  have : (kp.map (·.2)).Pairwise (fun x y => TS.code 64 x < TS.code 64 y) := by
                    rw [e2]
                    refine List.pairwise_map.mpr ((ascP_pw hc.2.1).imp fun {x y} hxy => ?_)
                    rw [code_pair, code_pair]; exact hxy
                  exact (List.pairwise_map (f := fun x : Addr × List Int => x.2)).mp this
                have uniq : ∀ x ∈ kp, ∀ y ∈ kp, TS.code 64 x.2 = TS.code 64 y.2 → x = y := fun x hx y hy e => by
                  have : ∀ (l : List (Addr × List Int)), l.Pairwise (fun x y => TS.code 64 x.2 < TS.code 64 y.2) → x ∈ l → y ∈ l → x = y := fun l => by
                    induction l with
                    | nil => intro _ hx; cases hx
                    | cons z l ih =>
                      intro pw hx hy
                      rw [List.pairwise_cons] at pw
                      rcases List.mem_cons.mp hx with ex | hx
                      · rcases List.mem_cons.mp hy with ey | hy
                        · rw [ex, ey]
                        · have := pw.1 y hy; rw [← ex, e] at this; exact absurd this (Int.lt_irrefl _)
                      · rcases List.mem_cons.mp hy with ey | hy
                        · have := pw.1 x hx; rw [← ey, e] at this; exact absurd this (Int.lt_irrefl _)
                        · exact ih pw.2 hx hy
                  exact this kp kpw hx hy
                have nd : L'.Pairwise (fun x y => x.2 ≠ y.2) := (List.pairwise_map (f := fun x : Addr × List Int => x.2)).mp h2
                have pw' : L'.Pairwise (fun x y => TS.code 64 x.2 < TS.code 64 y.2) := by
                  refine (h4.and nd).imp_of_mem fun {x y} hx hy hxy => ?_
                  rcases Int.lt_or_eq_of_le hxy.1 with h | h
                  · exact h
                  · exact absurd (congrArg Prod.snd (uniq x (inL x hx) y (inL y hy) h)) hxy.2
                have e : L' = kp := asc_unique (fun x y : Addr × List Int => TS.code 64 x.2 < TS.code 64 y.2) (fun a => Int.lt_irrefl _) (fun a b c => Int.lt_trans) pw' kpw fun x => ⟨fun hx => inL x hx, fun hx => by
                  obtain ⟨y, hy, ey⟩ := List.mem_map.mp (hL2 x hx)
                  have : y = x := uniq y (hL1 y hy) x hx (by rw [ey])
                  rw [← this]
                  exact h1.mem_iff.mpr hy⟩
                subst e
                exact q p2 (.lst (L'.map fun q => V.ref q.1)) F' _ (R2.laid h5) X' (R2.fresh h5) upd_same (.ol hb da) rfl
            · cases hz
          · cases hz
      · cases hz
    · cases e2
  · cases e2
section
variable {X : Cx} {e : Expr} {te : TE} {m : M Ag} {p p2 pos pos2 : Pos} {k : Nat}
theorem o_srtSet (hc : X.calm = true) (hr : RmG k X.A) (hm : X.mg "sorted" = none) (hm2 : X.mg "set" = none) (he : EX X e te m) (hg : Gl X "sorted" := by rfl) (hg2 : Gl X "set" := by rfl) (na : starEach [e] X.env = (false, eval e X.env) :: starEach [] X.env := by rfl)
    (na2 : starEach [.Call (.Name "set" p2) [e] [] pos2] X.env = (false, eval (.Call (.Name "set" p2) [e] [] pos2) X.env) :: starEach [] X.env := by rfl) :
    EO X (.Call (.Name "sorted" p) [.Call (.Name "set" p2) [e] [] pos2] [] pos) (tCB (rSrtU X.K X.prog X.w) (tCons (tCB (rSetU X.K X.prog X.w) (tCons te tNil)) tNil)) (mSrtSet m) :=
  ⟨pe_callB (cr_srtU hc) hg hm bt_sorted (pa_cons (pe_callTy (cr_setU hc hr.r.units) hg2 hm2 PyProof.Rows.boot_set (pa_cons he.pe pa_nil na) (he := na)) pa_nil na2) (he := na2), so_srtSet he.se⟩
end
end DL
end
section
/-! sorted(range(n), key=lambda one: (rows[one][k], one)) -/
namespace DL
open PySem PySem.Spec PyProof.Rows L2
variable [Tbs]
abbrev keyBody (cl one : Str) (k : Int) (kd x1 : Nat) (p1 p2 p3 p4 p5 p6 p7 : Pos) : Expr := .Tuple [.Subscript (.Subscript (.Name cl p1) (.Name one p2) p3) (.Constant (.int k) kd p4) p5, .Name one p6] x1 p7
section
variable {P : Program} {w : World} {A : Around} {s : Shared}
theorem lam_key {f c' c0 a b : Addr} {qual cl one : Str} {params : Arguments} {scope : Scope} {clos : List (Str × Addr)} {pm ctv : Value} {k z i : Int} {t t0 : Tok} {kd x1 : Nat} {p1 p2 p3 p4 p5 p6 p7 : Pos} {rows its : Array Value} {ri ki : Nat}
    (hf : s.heap.get? f = some (PySem.W.kla_obj "<lambda>" qual params (keyBody cl one k kd x1 p1 p2 p3 p4 p5 p6 p7) scope clos pm c' ctv)) (hcd : s.heap.CodeRec (.ref c') qual) (hlim : s.heap.NoLimit) (hroom : A.depth < recursionLimit)
    (hbind : ∀ v : Value, bindArgs (PySem.W.kla_fn "<lambda>" qual params (keyBody cl one k kd x1 p1 p2 p3 p4 p5 p6 p7) scope clos pm (.ref c') ctv) ⟨[v], []⟩ = pure [(one, v)])
    (hk : scope.kind = .function) (hco : scope.isCoroutine = false) (hgen : scope.isGenerator = false) (hcell : ∀ y ∈ scope.names, y.2 ≠ .cell) (hone : scope.names.lookup one = some .local) (hcl : scope.names.lookup cl = some .free)
    (hd1 : (cl == ("__debug__" : Str)) = false) (hd2 : (cl == ("__classdict__" : Str)) = false) (hd3 : (one == ("__debug__" : Str)) = false)
    (hc0 : clos.lookup cl = some c0) (hv0 : s.heap.IsCell c0 (some (.ref a))) (hrows : IsTup s.heap a rows) (hri : seqIndex? i rows.size = some ri) (hi1 : -(2 ^ 63) ≤ i) (hi2 : i < 2 ^ 63) (hb : rows[ri]? = some (.ref b)) (hits : IsTup s.heap b its)
    (hki : seqIndex? k its.size = some ki) (hk1 : -(2 ^ 63) ≤ k) (hk2 : k < 2 ^ 63) (hz : its[ki]? = some (.int z t0)) :
    wpAny (model P w) A (call (.ref f) [.int i t]) (PySem.W.KeyPure (.tuple [.int z, .int i]) s) (fun _ _ => False) s := by
  refine wpAny_call (PySem.W.kla_callFunE hroom hf rfl hco hgen rfl hcd ?_)
  rw [hbind]
  refine wpAny_pure (wpAny_newFunctionEnv hcell (fun y hy => by rw [List.mem_singleton.mp hy]; exact hone) (fun h1 hns hsb => ⟨hlim.fresh _ hsb, ?_⟩) hk)
  have kp : ∀ b o, s.heap.get? b = some o → h1.get? b = some o := fun b o e => hsb.extBut b o (Nat.ne_of_lt (Heap.lt_size e)) (Heap.get?_push_of_some _ e)
  have cellK : h1.IsCell c0 (some (.ref a)) := by obtain ⟨o, ho, hd⟩ := hv0; exact ⟨o, kp _ _ ho, hd⟩
  have one_is : (fun x => ([(one, Value.int i t)] : List (Str × Value)).reverse.lookup x) one = some (Value.int i t) := by simp
  show codeAny _ _ (.expr (keyBody cl one k kd x1 p1 p2 p3 p4 p5 p6 p7) (PySem.W.envX qual scope s.heap.objs.size f (.ref c') clos)) _ _
  refine PySem.W.kla_codeExpr (wpAny_Tuple_spliced ?_)
  show wpAny _ _ (spliced ((false, eval _ _) :: (false, eval _ _) :: [])) _ _ _
  refine Calls.spliced_cons (Subscript_ (Subscript_ (wpAny_Name (wpAny_loadName_free hk hcl hc0 cellK ?_ hd2) hd1)))
  refine wpAny_Name (wpAny_loadName_local hk hone hns one_is ?_) hd3
  refine item_tuple (hrows.keeps kp) hi1 hi2 hri hb ?_
  refine wpAny_Constant_int ?_
  refine subscriptTail_builtinR (x := Value.int z t0) (hits.keeps kp).typeIs slot_tuple_getitem.lookup (getItem_tuple (j := ki) (hits.keeps kp) hk1 hk2 hki hz ⟨rfl, ?_⟩)
  refine Calls.spliced_cons (wpAny_Name (wpAny_loadName_local hk hone hns one_is ?_) hd3)
  refine Calls.spliced_nil ?_
  refine ⟨by rw [sizeLine_is]; show 2 ≤ 16777216; decide, ?_⟩
  refine ⟨_, _, rfl, fun b o e => Heap.get?_push_of_some _ (kp b o e), ?_⟩
  exact .tuple (Heap.get?_push_size _ rfl) rfl rfl (.cons (.int z t0) (.cons (.int i t) .nil))
end
section
variable {P : Program} {w : World} {A : Around} {E : Value → Shared → Prop} {s : Shared}
/-- what a range gives as a list, and where the heap ends -/
theorem collect_rng {r : Addr} {n : Nat} {u v t : Tok} {Q : List Value → Shared → Prop} (hh : A.handled = none) (hr : IsRange s.heap r 0 n 1 t u v) (hn : n ≤ 1000)
    (fin : ∀ (g : Heap) (tk : Nat) (acc : Array Value), (∀ b o, s.heap.get? b = some o → g.get? b = some o) → s.heap.objs.size ≤ g.objs.size → ItemsOf (fun i v => ∃ t, v = .int (0 + i * 1) t) acc n → Q acc.toList { s with heap := g, toks := tk }) :
    wpAny (model P w) A (collect (.ref r)) Q E s := by
  unfold collect
  refine wpAny_bind (wpAny_runValue (codeAny_builtin F.entry_proto_collect ?_))
  rw [Around.under_plainId F.plain_proto_collect _]
  show wpAny _ A.in1 (newList [] >>= fun l => again (.builtin "list.__iadd__" ⟨[l, .ref r], []⟩)) _ _ s
  refine wpAny_bind (wpAny_newObj_type (wpAny_pure ⟨plainId_quiet F.plain_list_iadd _, codeAny_builtin F.entry_list_iadd ?_⟩))
  rw [Around.under_plainId F.plain_list_iadd _]
  show wpAny _ A.in1 (Builtin.List.listExtendWith (.ref s.heap.objs.size) (.ref r) (.ref s.heap.objs.size)) _ _ _
  have atS : (s.heap.push { cls := .type "list", data := .seq ([] : List Value).toArray }).get? s.heap.objs.size = some { cls := .type "list", data := .seq #[] 0 } := Heap.get?_push_size _ rfl
  refine wpAny_mono (wpAny_extend_range (A := A) (n := n) (a := 0) (b := n) (c := 1) (R := fun rr y => rr = .ok (.ret (.ref s.heap.objs.size)) ∧ ∃ (g : Heap) (tk : Nat) (acc : Array Value) (c : Nat), y = { s with heap := g, toks := tk } ∧
      (∀ b o, s.heap.get? b = some o → g.get? b = some o) ∧ g.get? s.heap.objs.size = some { cls := .type "list", dict := none, data := .seq acc c, slots := #[] } ∧ ItemsOf (fun i v => ∃ t, v = .int (0 + i * 1) t) acc n)
    (s := { s with heap := s.heap.push { cls := .type "list", data := .seq ([] : List Value).toArray } }) hh (Heap.get?_push_of_some _ hr) (small_one (by omega) (by omega) (by omega) (by omega)) (by rw [rangeSize_nat]; omega) (by omega) _ _ 0 atS
    (fun g tk acc c k e hi => ⟨rfl, g, tk, acc, c, rfl, fun b o q => k b o (Nat.ne_of_lt (Heap.lt_size q)) (Heap.get?_push_of_some _ q), e, hi⟩)) ?_ ?_
  · rintro (f | c2) y h
    · obtain ⟨e, g, tk, acc, c, rfl, k, eS, hi⟩ := h
      cases e
      exact show wpAny _ A (load s.heap.objs.size >>= _) _ _ _ from wpAny_bind (wpAny_load eS (wpAny_pure (fin g tk acc k (Nat.le_of_lt (Heap.lt_size eS)) hi)))
    · refine ⟨h.1, codeAny_mono h.2 ?_⟩
      rintro rr y2 ⟨rfl, g, tk, acc, c, rfl, k, eS, hi⟩
      exact show wpAny _ A (load s.heap.objs.size >>= _) _ _ _ from wpAny_bind (wpAny_load eS (wpAny_pure (fin g tk acc k (Nat.le_of_lt (Heap.lt_size eS)) hi)))
  · intro e y h
    exact absurd h.1 (by simp)
theorem each_rng : ∀ {vs : List Value} {n : Nat}, vs.length = n → (∀ (i : Nat) (v : Value), vs[i]? = some v → ∃ t, v = Value.int i t) → PySem.W.EachIs (fun v (i : Nat) => ∃ t, v = Value.int i t) vs (List.range n) := by
  have gen : ∀ (vs : List Value) (k : Nat), (∀ (i : Nat) (v : Value), vs[i]? = some v → ∃ t, v = Value.int (k + i : Nat) t) → PySem.W.EachIs (fun v (i : Nat) => ∃ t, v = Value.int i t) vs (List.range' k vs.length) := by
    intro vs
    induction vs with
    | nil => intro k _; exact .nil
    | cons v vs ih =>
      intro k h
      rw [List.length_cons, List.range'_succ]
      refine .cons (h 0 v rfl) (ih (k + 1) fun i w e => ?_)
      obtain ⟨t, e2⟩ := h (i + 1) w e
      exact ⟨t, by rw [e2]; congr 1; omega⟩
  intro vs n hn h
  subst hn
  rw [List.range_eq_range']
  exact gen vs 0 fun i v e => by rw [Nat.zero_add]; exact h i v e
theorem sorted_rng {r : Addr} {n : Nat} {u v t : Tok} {q : Addr} {Q : Value → Shared → Prop} (k : Nat → PyData) (hh : A.handled = none) (hr : IsRange s.heap r 0 n 1 t u v) (hn : n ≤ 1000) (hal : PySem.W.AllAlike ((List.range n).map k)) (hk : PySem.W.Sortable ((List.range n).map k))
    (hu : ∀ i, i < n → A.units + 2 + (k i).depth < cLine)
    (turn : ∀ (i : Nat) (t : Tok), i < n → ∀ (h : Heap) (tk : Nat), (∀ b o, s.heap.get? b = some o → h.get? b = some o) → wpAny (model P w) A.in1.in1 (call (.ref q) [.int i t]) (PySem.W.KeyPure (k i) { s with heap := h, toks := tk }) (fun _ _ => False) { s with heap := h, toks := tk })
    (fin : ∀ out c h' tk p, (∀ b o, s.heap.get? b = some o → h'.get? b = some o) → s.heap.objs.size ≤ p → h'.get? p = some (PyProof.Rows.seqObj "list" (List.toArray out) c) → PySem.W.EachIs (fun v (i : Nat) => ∃ t, v = Value.int i t) out ((List.range n).mergeSort (PySem.W.dataLe false k)) → Q (.ref p) { s with heap := h', toks := tk }) :
    wpAny (model P w) A (call (.builtin "sorted") [.ref r] [(Str.ofString "key", .ref q)]) Q E s := by
  refine call_function_entry_kw kind_sorted plain_sorted entry_sorted (PyProof.Rows.ksk_s1 _ _) ?_
  unfold Builtin.«sorted»
  refine wpAny_bind (m := checkCount "sorted" 1 1 _) (wpAny_pure ?_)
  refine wpAny_bind (collect_rng (A := A.in1) hh hr hn fun h1 tk1 acc kp szle hi => ?_)
  have hsz : acc.toList.length = n := by rw [Array.length_toList]; exact hi.1
  refine wpAny_bind (wpAny_newList ?_ (by rw [hsz, sizeLine_is]; omega))
  have atL : (h1.push (PyProof.Rows.seqObj "list" acc.toList.toArray 0)).get? h1.objs.size = some (PyProof.Rows.seqObj "list" acc.toList.toArray 0) := Heap.get?_push_size _ rfl
  have kp2 : ∀ b o, s.heap.get? b = some o → (h1.push (PyProof.Rows.seqObj "list" acc.toList.toArray 0)).get? b = some o := fun b o e => Heap.get?_push_of_some _ (kp b o e)
  have ev : PySem.W.EachIs (fun v (i : Nat) => ∃ t, v = Value.int i t) acc.toList (List.range n) := by
    refine each_rng hsz fun i v e => ?_
    obtain ⟨t, rfl⟩ := hi.2 i v (by rw [← Array.getElem?_toList]; exact e)
    exact ⟨t, by rw [Int.zero_add, Int.mul_one]⟩
  have up : ∀ {g : Heap}, PySem.W.KeepsBut h1.objs.size (h1.push (PyProof.Rows.seqObj "list" acc.toList.toArray 0)) g → ∀ b o, s.heap.get? b = some o → g.get? b = some o := fun {g} kk b o e => kk b o (fun z => by
    have := Heap.lt_size (kp b o e)
    rw [z] at this
    exact absurd this (Nat.lt_irrefl _)) (kp2 b o e)
  refine wpAny_bind (wpAny_holding (wpAny_call_entry_kw slot_list_sort ⟨_, atL, rfl⟩ entry_list_sort ?_ (PyProof.Rows.ksk_l1 _ _)))
  rw [PyProof.Rows.ksk_t1]
  refine PySem.W.keyH_tree (kz := (List.range n).map k) (A := A.in1.in1) (s := { s with heap := h1.push (PyProof.Rows.seqObj "list" acc.toList.toArray 0), toks := tk1 }) atL (by rw [List.length_map, List.length_range, hsz]) (by rw [hsz, sizeLine_is]; omega) hal hk ?_ ?_ ?_
  · intro d hd
    obtain ⟨i, hi2, rfl⟩ := List.mem_map.mp hd
    exact hu i (List.mem_range.mp hi2)
  · refine PySem.W.keyH_turns (s := { s with heap := h1.push (PyProof.Rows.seqObj "list" acc.toList.toArray 0), toks := tk1 }) ev fun x i hx hi2 h tk kk => ?_
    obtain ⟨t', rfl⟩ := hx
    exact turn i t' (List.mem_range.mp hi2) h tk (up kk)
  · intro h' tk out c kk hD ko
    refine ⟨.none, rfl, wpAny_pure ⟨_, rfl, fin out c h' tk h1.objs.size (up kk) szle hD (PySem.W.keyedOut_each k ko ev)⟩⟩
end
end DL
end
section
set_option maxHeartbeats 1000000
/-! a lambda is made where a table of its own is tracked; sorted by it -/
namespace DL
open PySem PySem.Spec PyProof.Rows L2
variable [Tbs]
section
variable {X : Cx} {pins : List (Addr × Obj)} {σ : L2.St} {H : Hp} {s : Shared}
/-- the lambda is made: at P alone something changes, and a code object is new or found -/
theorem lam_mk {c P : Addr} {params : Arguments} {body : Expr} {scope : Scope} {pos : Pos} {E : Value → Shared → Prop} {Q : Value → Shared → Prop} (I : Inv X pins σ H s) (TB : LamX.TabB X.base X.mg c P) (hcode : X.env.code = .ref c) (hT : LamX.TabS H P (X.env.qual ++ "<lambda>"))
    (hdef : defaultsOf params X.env = ([], [])) (hfree : ∀ y ∈ scope.names, y.2 = .free → ∃ c, X.env.cells.lookup y.1 = some c)
    (fin : ∀ (f c' : Addr) (pm ctv : Value) (M : Hp) (z : Shared), Inv X pins σ M z → (∀ b o, b ≠ P → H b = some o → M b = some o) → LamX.TabS M P (X.env.qual ++ "<lambda>") →
      z.heap.get? f = some (PySem.W.kla_obj "<lambda>" (X.env.qual ++ "<lambda>") params body scope (cloFrom X.env.cells scope.names []) pm c' ctv) → M c' = some (LamX.CodeO c' (X.env.qual ++ "<lambda>")) → Q (.ref f) z) :
    wpAny (model X.prog X.w) X.A (eval (.Lambda params body scope pos) X.env) Q E s := by
  obtain ⟨ps, hP, ht, ha⟩ := hT
  apply PySem.W.kla_eval hdef
  have bP := TB.bm.keeps I.bk
  have getP : s.heap.get? P = some { cls := .none, data := .fields ps } := I.hok P _ hP
  cases hc : codeAmong pos ps.toList with
  | some cv =>
    obtain ⟨c', rfl, hco⟩ := ha pos cv hc
    refine PySem.W.kla_makeFunctionHit (mg := X.mg) (c := c) (P := P) (ps := ps) (closure_ok hfree) I.ok.glob (I.mod.glob.keeps I.bk) hcode (TB.code.keeps I.bk) getP ht hc bP fun ctv g tk kx _ => ?_
    exact fin g.objs.size c' ((X.mg "__name__").getD .none) ctv H _ (I.kept fun b o e => Heap.get?_push_of_some _ (kx b o e)) (fun b o _ e => e) ⟨ps, hP, ht, ha⟩ (Heap.get?_push_size _ rfl) hco
  | none =>
    refine PySem.W.kla_makeFunction (mg := X.mg) (c := c) (P := P) (ps := ps) (closure_ok hfree) I.ok.glob (I.mod.glob.keeps I.bk) hcode (TB.code.keeps I.bk) getP ht hc TB.gP bP fun c' ctv g tk kx hge hlt hrec htb => ?_
    obtain ⟨c2, oc, vs, t, e2, hoc, hd, hv⟩ := hrec
    cases e2
    have nC : H c' = none := I.hok.fresh hge
    have nPC : P ≠ c' := fun z => by rw [z, nC] at hP; cases hP
    have I1 := LamX.inv_table (t' := tk) (q := X.env.qual ++ "<lambda>") (more := #[rawInt pos.line, rawInt pos.col, .ref c']) (h' := g.push (PySem.W.kla_obj "<lambda>" (X.env.qual ++ "<lambda>") params body scope (cloFrom X.env.cells scope.names []) ((X.mg "__name__").getD .none) c' ctv)) I hP
      (fun b o hb e => Heap.get?_push_of_some _ (kx b o hb e)) (Heap.get?_push_of_some _ htb) hge ⟨oc, vs, t, Heap.get?_push_of_some _ hoc, hd, hv⟩
    have keep : ∀ b o, b ≠ P → H b = some o → upd (upd H P (.tbl (ps ++ #[rawInt pos.line, rawInt pos.col, .ref c']))) c' (LamX.CodeO c' (X.env.qual ++ "<lambda>")) b = some o := fun b o hb e => by
      have hbc : b ≠ c' := fun z => by rw [z, nC] at e; cases e
      rw [upd_ne hbc, upd_ne hb]; exact e
    refine fin g.objs.size c' ((X.mg "__name__").getD .none) ctv _ _ I1 keep ⟨_, by rw [upd_ne nPC, upd_same], by rw [show (ps ++ #[rawInt pos.line, rawInt pos.col, .ref c']).toList = ps.toList ++ [rawInt pos.line, rawInt pos.col, .ref c'] by simp]; exact PySem.TriplesOk_snoc _ _ _ _ ht, fun p' cv hcv => ?_⟩ (Heap.get?_push_size _ rfl) upd_same
    rw [show (ps ++ #[rawInt pos.line, rawInt pos.col, .ref c']).toList = ps.toList ++ [rawInt pos.line, rawInt pos.col, .ref c'] by simp] at hcv
    rcases LamX.among_app _ ht hcv with z | z
    · obtain ⟨c0, e1, e2⟩ := ha p' cv z
      exact ⟨c0, e1, keep _ _ (fun z => by rw [z, hP] at e2; exact LamX.codeO_ne ps (Option.some.inj e2).symm) e2⟩
    · exact ⟨c', z, upd_same⟩
end

theorem seqIx {i n : Nat} (h : i < n) : seqIndex? (i : Int) n = some i := by
  unfold seqIndex?
  have h1 : ¬ (i : Int) < 0 := by omega
  have h2 : (i : Int) < (n : Int) := by omega
  have h3 : (0 : Int) ≤ (i : Int) := by omega
  simp [h1, h2, h3]
/-! ### the keys' order -/
def keyZ (zs : List Int) (i : Nat) : PyData := .tuple [.int (zs.getD i 0), .int i]
def ordZ (zs : List Int) : List Nat := (List.range zs.length).mergeSort (PySem.W.dataLe false (keyZ zs))
theorem ordZ_is (zs : List Int) : ordZ zs = (List.range zs.length).mergeSort (fun i j => decide (zs.getD i 0 < zs.getD j 0 ∨ (zs.getD i 0 = zs.getD j 0 ∧ (i : Int) ≤ (j : Int)))) := by
  unfold ordZ
  have := PySem.W.dataLe_ii (β := Nat) (fun i => zs.getD i 0) (fun i => (i : Int))
  rw [show PySem.W.dataLe false (keyZ zs) = _ from this]
def tSrtKey (K : PySem.W.Frag) (ci k : Nat) (P : Addr) (q : Str) (te : TE) : TE := fun σ H Q => te σ H fun x H1 => ∃ (n : Nat) (a : Addr) (zs : List (Addr × List V × Int)), x = .int n ∧ n = zs.length ∧ n ≤ 1000 ∧ σ[ci]? = some (some (.ref a)) ∧ SqT K H1 a (zs.map fun z => .ref z.1) ∧
  (∀ z ∈ zs, SqT K H1 z.1 z.2.1 ∧ z.2.1[k]? = some (.int z.2.2)) ∧ LamX.TabS H1 P q ∧
  ∀ r H2 p, H1 r = none → (∀ b o, b ≠ P → upd H1 r (.rng 0 n) b = some o → H2 b = some o) → LamX.TabS H2 P q → H2 p = none → Q (.ref p) (upd H2 p (.lst ((ordZ (zs.map (·.2.2))).map fun (i : Nat) => V.int (i : Int))))
theorem vals_nats : ∀ {is : List Nat} {vs : List Value}, PySem.W.EachIs (fun v (i : Nat) => ∃ t, v = Value.int i t) vs is → Vals (is.map fun (i : Nat) => V.int (i : Int)) vs
  | _, _, .nil => .nil
  | _, _, .cons h t => .cons h (vals_nats t)
section
variable {X : Cx} {ea : Expr} {te : TE} {cl one : Str} {params : Arguments} {scope : Scope} {ci k kd x1 kk : Nat} {c P : Addr} {p1 p2 p3 p4 p5 p6 p7 pn pr prc kpos lpos pos : Pos}
theorem pe_srtKey (hc : X.calm = true) (hr : Room kk X.A) (hm : X.mg "sorted" = none) (hm2 : X.mg "range" = none) (he : PE X ea te) (TB : LamX.TabB X.base X.mg c P) (hcode : X.env.code = .ref c) (hN : X.N[ci]? = some cl) (hvis : X.env.scope.names.lookup cl = some .cell) (hk63 : k < 1000)
    (hbind : ∀ (q : Str) (cs : List (Str × Addr)) (pm cdv ct v : Value), bindArgs (PySem.W.kla_fn "<lambda>" q params (keyBody cl one k kd x1 p1 p2 p3 p4 p5 p6 p7) scope cs pm cdv ct) ⟨[v], []⟩ = pure [(one, v)])
    (hk : scope.kind = .function) (hco : scope.isCoroutine = false) (hgen : scope.isGenerator = false) (hcell : ∀ y ∈ scope.names, y.2 ≠ .cell) (hone : scope.names.lookup one = some .local) (hcl : scope.names.lookup cl = some .free)
    (hfr : ∀ y ∈ scope.names, y.2 = .free → X.env.scope.names.lookup y.1 = some .cell ∨ X.env.scope.names.lookup y.1 = some .free)
    (hd1 : (cl == ("__debug__" : Str)) = false) (hd2 : (cl == ("__classdict__" : Str)) = false) (hd3 : (one == ("__debug__" : Str)) = false) (hdef : defaultsOf params X.env = ([], []) := by rfl)
    (hg : Gl X "sorted" := by rfl) (hg2 : Gl X "range" := by rfl) (na : starEach [ea] X.env = (false, eval ea X.env) :: starEach [] X.env := by rfl)
    (na2 : starEach [.Call (.Name "range" pr) [ea] [] prc] X.env = (false, eval (.Call (.Name "range" pr) [ea] [] prc) X.env) :: starEach [] X.env := by rfl)
    (hkw : backToKw pos (keywordEach [⟨some "key", .Lambda params (keyBody cl one k kd x1 p1 p2 p3 p4 p5 p6 p7) scope lpos, kpos⟩] X.env) = [(some (Str.ofString "key"), (do let v ← eval (.Lambda params (keyBody cl one k kd x1 p1 p2 p3 p4 p5 p6 p7) scope lpos) X.env; standAt pos; pure v : Sem Value))] := by rfl) :
    PE X (.Call (.Name "sorted" pn) [.Call (.Name "range" pr) [ea] [] prc] [⟨some "key", .Lambda params (keyBody cl one k kd x1 p1 p2 p3 p4 p5 p6 p7) scope lpos, kpos⟩] pos) (tSrtKey X.K ci k P (X.env.qual ++ "<lambda>") te) := by
  refine ⟨fun pins s σ H Q I h => ?_⟩
  refine wpAny_Call_Name_kw (ld_blt I hg hm bt_sorted ?_)
  refine PyProof.Rows.callWith_kw ?_ (by rw [na2]; rfl) (by rw [na2]; rfl) (by rw [hkw]; rfl) (by rw [hkw]; rfl)
  rw [na2]
  show wpAny _ _ (spliced ((false, eval _ X.env) :: [])) _ _ s
  refine PySem.Calls.spliced_cons ?_
  refine Call_ (ld_blt I hg2 hm2 boot_range (PyProof.Rows.callWith_type1 (one_arg he I h (fun v s2 x H2 I2 rx q => ?_) na) na))
  obtain ⟨n, a, zs, rfl, hn, hn1, hσ, hs, hz, hT, fin⟩ := q
  obtain ⟨t, rfl⟩ := rx
  refine call_range_1 (PySem.Calls.spliced_nil ?_)
  have hr2 : H2 s2.heap.objs.size = none := I2.hok.fresh (Nat.le_refl _)
  have I3 : Inv X pins σ (upd H2 s2.heap.objs.size (.rng 0 n)) { s2 with heap := s2.heap.push { cls := .type "range", data := .fields #[.int 0 s2.toks, .int n t, .int 1 (s2.toks + 1)] }, toks := s2.toks + 2 } :=
    I2.laid (fun b u e => Heap.get?_push_of_some _ e) (Nat.le_refl _) ⟨_, _, _, Heap.get?_push_size _ rfl⟩
  have nr : ∀ {o : HO}, lasting o = true → ∀ b, H2 b = some o → b ≠ s2.heap.objs.size := fun _ b e z => by rw [z, hr2] at e; cases e
  have hT3 : LamX.TabS (upd H2 s2.heap.objs.size (.rng 0 n)) P (X.env.qual ++ "<lambda>") := hT.ext fun b o e => by
    rw [upd_ne (fun z => by rw [z, hr2] at e; cases e)]; exact e
  have hfree : ∀ y ∈ scope.names, y.2 = .free → ∃ c, X.env.cells.lookup y.1 = some c := fun y hy e => I.ok.has _ (hfr y hy e)
  rw [hkw]
  refine wpAny_evalAll_cons (wpAny_bind (lam_mk I3 TB hcode hT3 hdef hfree fun f c' pm ctv M z J km tm hf hco' => wpAny_bind (wpAny_standAt (wpAny_pure (wpAny_evalAll_nil ?_)))))
  show wpAny _ _ (call (.builtin "sorted") [.ref s2.heap.objs.size] [(Str.ofString "key", .ref f)]) _ _ _
  have hPr : P ≠ s2.heap.objs.size := fun z => by
    obtain ⟨ps, e, _⟩ := hT
    rw [z, hr2] at e; cases e
  have hrM : M s2.heap.objs.size = some (.rng 0 n) := km _ _ (Ne.symm hPr) upd_same
  obtain ⟨t1, t2, t3, hrng⟩ := J.hok _ _ hrM
  have kM : ∀ b o, H2 b = some o → (∀ ps, o ≠ .tbl ps) → M b = some o := fun b o e hne => km b o (fun z => by
    obtain ⟨ps, e2, _⟩ := hT
    rw [z, e2] at e
    exact hne ps (Option.some.inj e).symm) (by rw [upd_ne (fun z => by rw [z, hr2] at e; cases e)]; exact e)
  have sqM : ∀ {b : Addr} {xs : List V}, SqT X.K H2 b xs → SqT X.K M b xs := fun {b xs} h => by
    rcases h with (h | ⟨o, h⟩) | h
    · exact .inl (.inl (kM _ _ h (fun ps z => by cases z)))
    · exact .inl (.inr ⟨o, kM _ _ h (fun ps z => by cases z)⟩)
    · exact .inr h
  obtain ⟨⟨oc, cvs, ct2, hoc, hcd, hcv⟩, _, _⟩ := J.hok c' _ hco'
  -- the rows' cell
  obtain ⟨m, hns, hloc⟩ := J.loc
  obtain ⟨w0, rw0, lk⟩ := hloc ci cl (.ref a) hN hσ (.inr (.inl hvis))
  obtain rfl : w0 = Value.ref a := rw0
  obtain ⟨c0, hc0, hcell0⟩ : ∃ c0, X.env.cells.lookup cl = some c0 ∧ z.heap.IsCell c0 (some (.ref a)) := by
    rcases lk with ⟨h1, _⟩ | ⟨_, c0, h2, h3⟩
    · have h1 : X.env.scope.names.lookup cl = some .local := h1
      rw [hvis] at h1; cases h1
    · exact ⟨c0, h2, h3⟩
  have hclo : (cloFrom X.env.cells scope.names []).lookup cl = some c0 := by
    obtain ⟨c1, h1⟩ := L2.mem_lookup (cloFrom_has (cells := X.env.cells) (acc := []) (PySem.mem_of_lookup hcl))
    rcases cloFrom_mem (PySem.mem_of_lookup h1) with hm | ⟨_, h2⟩
    · cases hm
    · rw [hc0] at h2
      rw [h1, h2]; rfl
  obtain ⟨rowsV, rvr, ptr, hzr⟩ := J.tuple (sqM hs)
  have hrows : rowsV = zs.map fun z => Value.ref z.1 := by
    clear hz fin hn hσ hs hzr ptr hloc lk
    induction zs generalizing rowsV with
    | nil => cases rvr; rfl
    | cons y ys ih =>
      cases rvr with
      | cons e t => cases e; rw [ih _ t]; rfl
  have hzl : (zs.map (·.2.2)).length = n := by rw [List.length_map]; exact hn.symm
  refine sorted_rng (n := n) (u := t2) (v := t3) (t := t1) (keyZ (zs.map (·.2.2))) (J.ok.hd hc) hrng hn1 (PySem.W.AllAlike.of fun _ _ => by simp [PySem.W.alike, PySem.W.alikeAll, keyZ]) (PySem.W.Sortable.tuples fun _ => ⟨_, _, rfl⟩) (fun i hi => ?_) (fun i t hi g tk kp => ?_) fun out c2 g tk p kp hp hL hout => ?_
  · have := hr.units
    have e : (keyZ (zs.map (·.2.2)) i).depth = 1 := by simp [keyZ, PyData.depth, PyData.depthAll]
    omega
  · obtain ⟨y, hy⟩ : ∃ y, zs[i]? = some y := ⟨_, List.getElem?_eq_getElem (by omega)⟩
    obtain ⟨h1, h2⟩ := hz y (List.mem_of_getElem? hy)
    obtain ⟨its, rvi, pti, hzi⟩ := J.tuple (sqM h1)
    obtain ⟨u, hu, ru⟩ := rvi.get h2
    obtain ⟨t9, rfl⟩ := ru
    have hgz : (zs.map (·.2.2)).getD i 0 = y.2.2 := by
      rw [List.getD_eq_getElem?_getD, List.getElem?_map, hy]; rfl
    have hlen : its.length = y.2.1.length := rvi.length.symm
    have hkl : k < its.length := (List.getElem?_eq_some_iff.mp hu).1
    have ptr2 : IsTup g a rowsV.toArray := ptr.keeps kp
    have pti2 : IsTup g y.1 its.toArray := pti.keeps kp
    show wpAny _ _ _ (PySem.W.KeyPure (.tuple [.int ((zs.map (·.2.2)).getD i 0), .int i]) _) _ _
    rw [hgz]
    refine lam_key (s := { z with heap := g, toks := tk }) (A := X.A.in1.in1) (c' := c') (c0 := c0) (a := a) (b := y.1) (rows := rowsV.toArray) (its := its.toArray) (ri := i) (ki := k) (kp _ _ hf) ⟨c', oc, cvs, ct2, rfl, kp _ _ hoc, hcd, hcv⟩ (J.nolimit.keeps kp) hr.depth (fun v => hbind _ _ _ _ _ v) hk hco hgen hcell hone hcl hd1 hd2 hd3 hclo ?_ ptr2 ?_ (by omega) (by omega) ?_ pti2 ?_ (by omega) (by omega) (t0 := t9) ?_
    · obtain ⟨o, ho, hd⟩ := hcell0
      exact ⟨o, kp _ _ ho, hd⟩
    · rw [List.size_toArray, hrows, List.length_map]
      exact seqIx (by omega)
    · rw [List.getElem?_toArray, hrows, List.getElem?_map, hy]; rfl
    · rw [List.size_toArray]
      exact seqIx hkl
    · rw [List.getElem?_toArray]; exact hu
  · have hpN : M p = none := J.hok.fresh hp
    have hln : ((ordZ (zs.map (·.2.2))).map fun (i : Nat) => V.int (i : Int)).length ≤ sizeLine := by
      unfold ordZ
      rw [List.length_map, List.length_mergeSort, List.length_range, hzl, sizeLine_is]; omega
    have hv : Vals ((ordZ (zs.map (·.2.2))).map fun (i : Nat) => V.int (i : Int)) out := by
      unfold ordZ
      rw [hzl]
      exact vals_nats hout
    exact ⟨.ref p, upd M p (.lst ((ordZ (zs.map (·.2.2))).map fun (i : Nat) => V.int (i : Int))), J.laid kp hp ⟨hln, out, c2, hv, hL⟩, rfl, fin _ M p hr2 km tm hpN⟩
end
end DL
end
section
namespace DL
open PySem PySem.Spec PyProof.Rows L2
variable [Tbs]
def keyInts (k : Nat) : List PyData → Option (List Int)
  | [] => some []
  | .tuple vs :: r => (match vs[k]? with
    | some (.int z) => (keyInts k r).map (z :: ·)
    | _ => none)
  | _ => none
theorem keyInts_dn {K : PySem.W.Frag} {F H : Hp} (hs : Same F H) {k : Nat} : ∀ {ds : List PyData} {zs : List Int} {vs : List V}, keyInts k ds = some zs → DnA F vs ds → ∃ ys : List (Addr × List V × Int), vs = ys.map (fun y => V.ref y.1) ∧ ys.map (·.2.2) = zs ∧ ∀ y ∈ ys, SqT K H y.1 y.2.1 ∧ y.2.1[k]? = some (.int y.2.2)
  | [], _, _, h, .nil => by cases h; exact ⟨[], rfl, rfl, fun y hy => (by cases hy)⟩
  | .tuple es :: r, _, _, h, .cons (.tup (a := a) (vs := us) rd t) t2 => by
    unfold keyInts at h
    split at h
    · rename_i z hz
      obtain ⟨l, h1, rfl⟩ := Option.map_eq_some_iff.mp h
      obtain ⟨ys, e1, e2, e3⟩ := keyInts_dn hs h1 t2
      obtain ⟨v, hv, dn⟩ := t.get hz
      cases dn
      refine ⟨(a, us, z) :: ys, by rw [e1]; rfl, by rw [List.map_cons, e2], fun y hy => ?_⟩
      rcases List.mem_cons.mp hy with rfl | hy
      · exact ⟨.inl (rd_mono hs rd), hv⟩
      · exact e3 y hy
    · cases h
noncomputable def mSrtKey (ci k : Nat) (m : M PyData) : M Sl := bnd m fun d ρ => match d, (ρ[ci]? : Option Sl) with
  | .int n, some (.d (.tuple rows)) => (match keyInts k rows with
    | some zs => if n = (zs.length : Int) ∧ zs.length ≤ 1000 then some (.ol ((ordZ zs).map fun (i : Nat) => .int (i : Int)), ρ) else none
    | none => none)
  | _, _ => none
/-- at a table alone something changed -/
theorem Rl.retab {Φ : Fx} {F H H' : Hp} {ρ : Ro} {σ : L2.St} (R : Rl Φ F ρ σ H) {P : Addr} {q : Str} (hP : (P, q) ∈ Tbs.T) (hu : ∀ p ∈ Tbs.T, p.1 = P → p.2 = q) (k : ∀ b o, b ≠ P → H b = some o → H' b = some o) (t : LamX.TabS H' P q) : Rl Φ F ρ σ H' := by
  obtain ⟨f0, g0, ps, hp, _⟩ := R.tb _ hP
  have low : ∀ {A : Hp} {b : Addr} {o : HO}, A P = none → A b = some o → b ≠ P := fun e h z => by rw [z, e] at h; cases h
  refine ⟨R.len, fun b o e => k b o (low f0 e) (R.fs b o e), fun b o e => k b o (low g0 e) (R.gs b o e), R.bd, R.dat, R.lk, fun i s h1 h2 => ?_, R.dj, R.io, fun p hq => ⟨(R.tb p hq).1, (R.tb p hq).2.1, ?_⟩⟩
  · obtain ⟨l, o, a, b, c, d, e⟩ := R.own i s h1 h2
    have hl : l ≠ P := fun z => by
      have hp : H P = some (.tbl ps) := hp
      rw [z, hp] at d
      have := e.last
      rw [← Option.some.inj d] at this
      cases this
    exact ⟨l, o, a, b, c, k l o hl d, e⟩
  · by_cases hb : p.1 = P
    · rw [hb, hu p hq hb]; exact t
    · obtain ⟨ps', h1, h2, h3⟩ := (R.tb p hq).2.2
      refine ⟨ps', k _ _ hb h1, h2, fun pos cv hc => ?_⟩
      obtain ⟨c, e1, e2⟩ := h3 pos cv hc
      refine ⟨c, e1, k _ _ (fun z => ?_) e2⟩
      have hp : H P = some (.tbl ps) := hp
      rw [z, hp] at e2
      exact LamX.codeO_ne ps (Option.some.inj e2).symm
theorem so_srtKey {K : PySem.W.Frag} {ci k : Nat} {P : Addr} {q : Str} {te : TE} {m : M PyData} (hP : (P, q) ∈ Tbs.T) (hu : ∀ p ∈ Tbs.T, p.1 = P → p.2 = q) (h : SE te m) : SO (tSrtKey K ci k P q te) (mSrtKey ci k m) := fun Φ F ρ σ H Q s ρ' R e hQ => by
  obtain ⟨d, ρ1, e1, e2⟩ := bnd_some e
  refine h Φ F ρ σ H _ d ρ1 R e1 fun v F' H' R' X' kd => ?_
  split at e2
  · rename_i n rows hrow
    split at e2
    · rename_i zs hz
      split at e2
      · rename_i hc
        cases e2
        cases kd
        obtain ⟨v, hv, dn⟩ := R'.dat ci _ hrow
        cases dn with
        | @tup a vs _ rd da =>
          obtain ⟨ys, rfl, e4, e5⟩ := keyInts_dn (K := K) R'.fs hz da
          have hl : ys.length = zs.length := by rw [← e4, List.length_map]
          refine ⟨zs.length, a, ys, by rw [hc.1], by rw [hl], hc.2, hv, .inl (rd_mono R'.fs rd), e5, (R'.tb _ hP).2.2, fun r H2 p hr km tm hp => ?_⟩
          rw [e4]
          have R2 := R'.laid (o := .rng 0 zs.length) hr
          have R3 := R2.retab hP hu km tm
          have hd : DnA F' ((ordZ zs).map fun (i : Nat) => V.int (i : Int)) ((ordZ zs).map fun (i : Nat) => PyData.int (i : Int)) := by
            generalize ordZ zs = l
            induction l with
            | nil => exact .nil
            | cons x l ih => exact .cons (.int _) ih
          have hz2 : ((ordZ zs).map fun (i : Nat) => V.int (i : Int)).length ≤ sizeLine := by
            unfold ordZ
            rw [List.length_map, List.length_mergeSort, List.length_range, sizeLine_is]; omega
          exact hQ p (.lst _) F' _ (R3.laid hp) X' (R3.fresh hp) upd_same (.ol hz2 hd) rfl
      · cases e2
    · cases e2
  · cases e2
section
variable {X : Cx} {ea : Expr} {te : TE} {me : M PyData} {cl one : Str} {params : Arguments} {scope : Scope} {kd x1 kk : Nat} {c P : Addr} {p1 p2 p3 p4 p5 p6 p7 pn pr prc kpos lpos pos : Pos}
theorem o_srtKey (ci k : Nat) {q : Str} (hq : X.env.qual ++ "<lambda>" = q) (hP : (P, q) ∈ Tbs.T) (hu : ∀ p ∈ Tbs.T, p.1 = P → p.2 = q) (hc : X.calm = true) (hr : RmG kk X.A) (hm : X.mg "sorted" = none) (hm2 : X.mg "range" = none) (he : EV X ea te me) (TB : LamX.TabB X.base X.mg c P) (hcode : X.env.code = .ref c) (hN : X.N[ci]? = some cl := by rfl) (hvis : X.env.scope.names.lookup cl = some .cell := by rfl) (hk63 : k < 1000 := by decide)
    (hbind : ∀ (q : Str) (cs : List (Str × Addr)) (pm cdv ct v : Value), bindArgs (PySem.W.kla_fn "<lambda>" q params (keyBody cl one k kd x1 p1 p2 p3 p4 p5 p6 p7) scope cs pm cdv ct) ⟨[v], []⟩ = pure [(one, v)] := by intro _ _ _ _ _ _; rfl)
    (hk : scope.kind = .function := by rfl) (hco : scope.isCoroutine = false := by rfl) (hgen : scope.isGenerator = false := by rfl) (hcell : ∀ y ∈ scope.names, y.2 ≠ .cell := by decide +kernel) (hone : scope.names.lookup one = some .local := by rfl) (hcl : scope.names.lookup cl = some .free := by rfl)
    (hfr : (scope.names.all fun y => !decide (y.2 = .free) || y.1 == cl) = true := by decide +kernel)
    (hd1 : (cl == ("__debug__" : Str)) = false := by decide) (hd2 : (cl == ("__classdict__" : Str)) = false := by decide) (hd3 : (one == ("__debug__" : Str)) = false := by decide) (hdef : defaultsOf params X.env = ([], []) := by rfl)
    (hg : Gl X "sorted" := by rfl) (hg2 : Gl X "range" := by rfl) (na : starEach [ea] X.env = (false, eval ea X.env) :: starEach [] X.env := by rfl)
    (na2 : starEach [.Call (.Name "range" pr) [ea] [] prc] X.env = (false, eval (.Call (.Name "range" pr) [ea] [] prc) X.env) :: starEach [] X.env := by rfl)
    (hkw : backToKw pos (keywordEach [⟨some "key", .Lambda params (keyBody cl one k kd x1 p1 p2 p3 p4 p5 p6 p7) scope lpos, kpos⟩] X.env) = [(some (Str.ofString "key"), (do let v ← eval (.Lambda params (keyBody cl one k kd x1 p1 p2 p3 p4 p5 p6 p7) scope lpos) X.env; standAt pos; pure v : Sem Value))] := by rfl) :
    EO X (.Call (.Name "sorted" pn) [.Call (.Name "range" pr) [ea] [] prc] [⟨some "key", .Lambda params (keyBody cl one k kd x1 p1 p2 p3 p4 p5 p6 p7) scope lpos, kpos⟩] pos) (tSrtKey X.K ci k P q te) (mSrtKey ci k me) := by
  subst hq
  exact ⟨pe_srtKey hc hr.r hm hm2 he.pe TB hcode hN hvis hk63 hbind hk hco hgen hcell hone hcl (fun y hy e => by
    have := List.all_eq_true.mp hfr y hy
    rw [Bool.or_eq_true, Bool.not_eq_true', decide_eq_false_iff_not] at this
    rcases this with z | z
    · exact absurd e z
    · rw [beq_iff_eq.mp z]; exact .inl hvis) hd1 hd2 hd3 hdef hg hg2 na na2 hkw, so_srtKey hP hu he.se⟩
end
section
variable {P : Program} {w : World} {K : PySem.W.Frag} {mg : Str → Option Value} {base : Heap}
/-- a def of data that makes a lambda -/
theorem gn_pureC {x qual : Str} {st : Stmt} {f : Addr} {fd : FuncData} {N ps : List Str} {k : Nat} {m : S} (Fn : Fun K x qual st f fd) (Sc : FnScope N ps (defScope st))
    (hbody : ∀ (cdv : Value) (A : Around) (fr : List Env) (s : Shared) (H : Hp) (E : XK), fd.code = cdv → RmG k (A.deeper (envOfC qual (defScope st) s.heap.objs.size f cdv)) → ∃ t, EB (cxOf CX0 P w K mg base N qual (defScope st) f cdv A fr s H E).nox (defBody st) t m) :
    FnG P w K mg base (k + 1) f fd ps (spP ps.length (runP N.length m)) := by
  refine funG Fn Sc (fun vs H Q E ⟨F, ds, d, _, _, _, _, hl, _⟩ => hl) (fun cdv A fr s H vs Q E hcd hr ⟨F, ds, d, da, hs, hbd, htb, hl, hm, q⟩ => ?_)
  obtain ⟨t, hb⟩ := hbody cdv A fr s H E hcd hr
  have hn : vs.length ≤ N.length := by
    have := congrArg List.length Sc.pre
    rw [List.length_take] at this
    omega
  refine ⟨t, hb.pe, ?_⟩
  have R := rl_start (N := N) da hs hbd htb hn
  unfold runP at hm
  split at hm
  · rename_i d' ρ' hr'
    cases hm
    exact hb.se _ F _ _ H _ _ ρ' R hr' fun v F' σ' H' R' X' kd => q v F' H' X'.1 R'.fs R'.gs X'.2 R'.bd R'.tb.tabs kd
  · rename_i ρ' hr'
    cases hm
    exact hb.se _ F _ _ H _ _ ρ' R hr' fun F' σ' H' R' X' => q .non F' H' X'.1 R'.fs R'.gs X'.2 R'.bd R'.tb.tabs .non
  · cases hm
end
end DL
end
section
set_option maxHeartbeats 1000000
/-! the end of a law: its promise at the heap behind the top -/
namespace DL
open PySem PySem.Spec PyProof.Rows L2
/-- the abstract heap of a law's call: the script, frozen, and the empty tables -/
noncomputable def hp0 (a : Addr) (ob : Obj) (ns : List Int) (tabs : List Addr) : Hp := fun b => if b = a then some (.frz ob (.lst (ns.map V.int))) else if b ∈ tabs then some (.tbl #[]) else none
theorem hp0_a {a : Addr} {ob : Obj} {ns : List Int} {tabs : List Addr} : hp0 a ob ns tabs a = some (.frz ob (.lst (ns.map V.int))) := if_pos rfl
theorem hp0_t {a b : Addr} {ob : Obj} {ns : List Int} {tabs : List Addr} (h : b ≠ a) (hb : b ∈ tabs) : hp0 a ob ns tabs b = some (.tbl #[]) := (if_neg h).trans (if_pos hb)
theorem hp0_some {a b : Addr} {ob : Obj} {ns : List Int} {tabs : List Addr} {u : HO} (h : hp0 a ob ns tabs b = some u) : (b = a ∧ u = .frz ob (.lst (ns.map V.int))) ∨ (b ≠ a ∧ b ∈ tabs ∧ u = .tbl #[]) := by
  unfold hp0 at h
  by_cases hb : b = a
  · rw [if_pos hb] at h; exact .inl ⟨hb, (Option.some.inj h).symm⟩
  · rw [if_neg hb] at h
    by_cases ht : b ∈ tabs
    · rw [if_pos ht] at h; exact .inr ⟨hb, ht, (Option.some.inj h).symm⟩
    · rw [if_neg ht] at h; cases h
theorem law_callG {P : Program} {w : World} {K : PySem.W.Frag} {mg mb : Str → Option Value} {k : Nat} {fa a : Addr} {cs : List (Addr × Addr)} {fd : FuncData} {x : Str} {sp : Sp} {s1 : Shared} {vs : List Value} {ns : List Int}
    (KX : K.In s1.heap) (hns : s1.heap.Ns mainGlobals mg) (hb : s1.heap.Ns builtinsNs mb) (hbb : ∀ x : Str, x ≠ "__name__" → mb x = bootBuiltins x) (hlim : s1.heap.NoLimit) (hgens : s1.gens = #[])
    (tabE : ∀ p ∈ cs, s1.heap.get? p.2 = some { cls := .none, data := .fields #[] }) (tabK : ∀ p ∈ cs, K.lookup p.2 = none) (heads : ∀ p ∈ cs, PySem.W.CodeHd s1.heap p.1 p.2) (noList : ∀ b o, K.lookup b = some o → o.cls ≠ .type "list")
    (hbm : ∃ (bm : Addr) (ob : Obj), mg "__builtins__" = some (.ref bm) ∧ bm ≠ builtinsNs ∧ s1.heap.get? bm = some ob ∧ ob.cls = .type "module" ∧ ob.dict = some builtinsNs ∧ ob.data = .plain)
    (ha : s1.heap.get? a = some { cls := .type "list", data := .seq vs.toArray }) (hi : IntsAre vs ns) (hl : ns.length ≤ sizeLine) (hr : Room k callerA)
    (F : ∀ base : Heap, K.In base → base.Ns mainGlobals mg → (∀ p ∈ cs, LamX.TabB base mg p.1 p.2) → FnG P w K mg base k fa fd [x] sp) (hbind : ∀ (s : Shared) (u : Value), BindsTo s fd ⟨[u], []⟩ [(x, u)])
    (hsp : ∀ ob : Obj, (∀ p ∈ cs, p.2 ≠ a) → sp [.ref a] (hp0 a ob ns (cs.map (·.2))) (fun v _ => v = .bl true) E0) :
    codeAny (model P w) callerA (.call (.ref fa) ⟨[.ref a], []⟩) (fun r s' => r = .ok (.ret (.bool true)) ∧ OldK s1.heap s'.heap ∧ s'.os = s1.os ∧ AllBare s'.gens) s1 := by
  have tabAt : ∀ b : Addr, b ∈ cs.map (·.2) → s1.heap.get? b = some { cls := .none, data := .fields #[] } := fun b hb => by
    obtain ⟨p, hp, rfl⟩ := List.mem_map.mp hb
    exact tabE p hp
  have aK : K.lookup a = none := by
    cases e : K.lookup a with
    | none => rfl
    | some o =>
      have := KX a o e
      rw [ha] at this
      exact absurd (by rw [← Option.some.inj this]) (noList a o e)
  have aT : ∀ p ∈ cs, p.2 ≠ a := fun p hp z => by
    have e := tabE p hp
    rw [z, ha] at e
    have := congrArg Obj.cls (Option.some.inj e)
    cases this
  let ob0 : Obj := { cls := .type "list", data := .seq vs.toArray }
  let H := hp0 a ob0 ns (cs.map (·.2))
  have HT : ∀ p ∈ cs, H p.2 = some (.tbl #[]) := fun p hp => hp0_t (aT p hp) (List.mem_map_of_mem hp)
  have Hok : HOk P w H s1.heap := fun b u e => by
    rcases hp0_some e with ⟨rfl, rfl⟩ | ⟨_, ht, rfl⟩
    · exact ⟨ha, by rw [List.length_map]; exact hl, vs, _, vals_ints hi, ha⟩
    · exact tabAt b ht
  -- an object that is neither a list nor a table is not tracked
  have other : ∀ {b : Addr} {o : Obj}, s1.heap.get? b = some o → (∀ ws n, o.data ≠ .seq ws n) → o.data ≠ .fields #[] → H b = none := fun {b o} e d1 d2 => by
    cases q : H b with
    | none => rfl
    | some u =>
      rcases hp0_some q with ⟨rfl, _⟩ | ⟨_, ht, _⟩
      · rw [ha] at e; cases e; exact (d1 _ _ rfl).elim
      · rw [tabAt b ht] at e; cases e; exact (d2 rfl).elim
  have down : ∀ {b : Addr} {o : Obj}, s1.heap.get? b = some o → H b = none → (hidT s1.heap H).get? b = some o := fun e n => hidT_get e n
  have nsD : ∀ {b : Addr} {m : Str → Option Value}, s1.heap.Ns b m → (hidT s1.heap H).Ns b m := by
    rintro b m ⟨o, es, ep, e, d, r⟩
    exact ⟨o, es, ep, down e (other e (fun ws n z => by rw [d] at z; cases z) (fun z => by rw [d] at z; cases z)), d, r⟩
  have KD : K.In (hidT s1.heap H) := fun b o e => down (KX b o e) (by
    cases q : H b with
    | none => rfl
    | some u =>
      rcases hp0_some q with ⟨rfl, _⟩ | ⟨_, ht, _⟩
      · rw [aK] at e; cases e
      · obtain ⟨p, hp, rfl⟩ := List.mem_map.mp ht
        rw [tabK p hp] at e; cases e)
  have MD : L2.Mod K mg (hidT s1.heap H) := ⟨KD, nsD hns, ⟨mb, nsD hb, hbb⟩, by obtain ⟨mc, h1, h2⟩ := hlim; exact ⟨mc, nsD h1, h2⟩⟩
  have ngm : ∀ {b : Addr} {o : Obj} {u : Data}, s1.heap.get? b = some o → o.data = u → (∀ es ep, u ≠ .dict es ep) → b ≠ mainGlobals := fun {b o u} e d h z => by
    obtain ⟨o2, es, ep, e2, d2, _⟩ := hns
    rw [z, e2] at e
    cases e
    exact h es ep (d.symm.trans d2)
  have TBs : ∀ p ∈ cs, LamX.TabB (hidT s1.heap H) mg p.1 p.2 := fun p hp => by
    refine ⟨?_, ?_, (ngm (tabE p hp) rfl (fun _ _ z => by cases z)).symm⟩
    · obtain ⟨o, us, file, tf, flags, tg, inF, text, tt, e1, r1, r2, r3, rest⟩ := heads p hp
      refine ⟨o, us, file, tf, flags, tg, inF, text, tt, down e1 (other e1 (fun ws n z => by rw [r2] at z; cases z) (fun z => ?_)), r1, r2, r3, rest⟩
      rw [r2] at z
      cases z
      simp at r3
    · obtain ⟨bm, ob, b1, b2, b3, b4, b5, b6⟩ := hbm
      refine ⟨bm, ob, b1, b2, ngm b3 b6 (fun _ _ z => by cases z), fun z => ?_, down b3 (other b3 (fun ws n z => by rw [b6] at z; cases z) (fun z => by rw [b6] at z; cases z)), b4, b5, b6⟩
      rw [z, tabE p hp] at b3
      cases b3
      cases b6
  have e0 : Env0 P w K mg (hidT s1.heap H) callerA [] s1 H := ⟨rfl, MD, fun b o e => of_hidT e, Nat.le_of_eq (hidT_size _ _), trivial, fun b hb => absurd (show b ∈ ([] : List Addr) from hb) (by simp), Hok, .of_eq hgens⟩
  refine codeAny_mono ((F _ KD (nsD hns) TBs).go callerA [] s1 H ⟨[.ref a], []⟩ [.ref a] [.ref a] _ E0 ⟨hr, rfl⟩ e0 (hbind s1 (.ref a)) (.cons rfl .nil) (hsp ob0 aT)) ?_
  rintro (er | fl) s' h
  · exact False.elim h
  · cases fl with
    | next => exact False.elim h
    | brk => exact False.elim h
    | cont => exact False.elim h
    | ret u =>
      obtain ⟨v, H', os, bare, un, hok', rv, q⟩ := h
      obtain rfl : v = .bl true := q
      obtain rfl : u = Value.bool true := rv
      have stays : ∀ b o, b ∉ cs.map (·.2) → s1.heap.get? b = some o → s'.heap.get? b = some o := fun b o nb e => by
        cases q : H b with
        | none => exact un.keep b o e q (by intro z; exact absurd (show b ∈ ([] : List Addr) from z) (by simp)) (by simp)
        | some u =>
          rcases hp0_some q with ⟨rfl, rfl⟩ | ⟨_, ht, _⟩
          · obtain ⟨e1, _⟩ := Hok _ _ q
            obtain ⟨e2, _⟩ := hok' _ _ (un.frzs _ _ _ q)
            rw [e] at e1; cases e1
            exact e2
          · exact absurd ht nb
      have more : ∀ p ∈ cs, ∃ m : Array Value, s'.heap.get? p.2 = some { cls := .none, data := .fields m } := fun p hp => by
        obtain ⟨m, z⟩ := un.tbls p.2 #[] (HT p hp)
        exact ⟨_, hok' p.2 _ z⟩
      refine ⟨rfl, ⟨fun b o e => ?_, fun b o e => ?_⟩, os, bare⟩
      · by_cases hb : b ∈ cs.map (·.2)
        · obtain ⟨p, hp, rfl⟩ := List.mem_map.mp hb
          obtain ⟨m, hm⟩ := more p hp
          rw [tabE p hp] at e
          cases e
          exact .inr (.inl ⟨((heads p hp).tab (tabE p hp)).isCodeTable, rfl, #[], m, rfl, by rw [Array.empty_append]; exact hm⟩)
        · exact .inl (stays b o hb e)
      · by_cases hb : b ∈ cs.map (·.2)
        · obtain ⟨p, hp, rfl⟩ := List.mem_map.mp hb
          obtain ⟨m, hm⟩ := more p hp
          exact ⟨_, hm⟩
        · exact ⟨o, stays b o hb e⟩
/-- a law whose mirror says True -/
theorem walk_ofG {l : PySem.W.OpenLaw} {n k : Nat} {q : Program} {loose : List Str} {XP : (Str → Option Value) → Heap → Prop} {YP : World → Heap → Prop} {d : DefRec} {K : Params → PySem.W.Frag} {x : Str} {m : List PyData → Option PyData}
    (hn : l.most = some n) (hn2 : n ≤ sizeLine) (hdf : d.params.defaults = []) (hr : Room k callerA) (hY : ∀ (w : World) (h : Heap), YP w h → (K w.params).In h) (noList : ∀ w b o, (K w).lookup b = some o → o.cls ≠ .type "list")
    (F : ∀ (w : World) (mg : Str → Option Value) (fa : Addr) (h : Heap), YP w h → (K w.params).In h → h.Ns mainGlobals mg → mg d.name = some (.ref fa) →
      ∃ (fd : FuncData) (cs : List (Addr × Addr × Str)), (∀ p ∈ cs, h.get? p.2.1 = some { cls := .none, data := .fields #[] }) ∧ (∀ p ∈ cs, (K w.params).lookup p.2.1 = none) ∧ (∀ p ∈ cs, PySem.W.CodeHd h p.1 p.2.1) ∧ (∀ (s : Shared) (u : Value), BindsTo s fd ⟨[u], []⟩ [(x, u)]) ∧
        ∀ base : Heap, (K w.params).In base → base.Ns mainGlobals mg → (∀ p ∈ cs, LamX.TabB base mg p.1 p.2.1) → FnG l.prog w (K w.params) mg base k fa fd [x] (@spP ⟨cs.map (·.2)⟩ 1 m))
    (hm : ∀ ns : List Int, ns.length ≤ n → (∀ z ∈ ns, Builtin.Int.intBits z ≤ 1048576) → m [.list (ns.map PyData.int)] = some (.bool true)) :
    PySem.W.WalkO q loose XP YP l.row.toRowW d [] (fun f vs => PySem.call f vs) := by
  refine Att.attach_callB hn hdf fun w s0 s1 mg mb fa o pm cd doc a vs ns G Y ho hd hcd hmg hobj hints hlen hbits hg => ?_
  have KX := hY w _ Y
  obtain ⟨fd, cs, tE, tK, hh, hb, hF⟩ := F w mg fa _ Y KX G.T.g hmg
  letI : Tbs := ⟨cs.map (·.2)⟩
  have mem : ∀ {Pr : Addr × Addr → Prop}, (∀ p ∈ cs, Pr (p.1, p.2.1)) → ∀ p ∈ cs.map (fun p => (p.1, p.2.1)), Pr p := fun {Pr} h p hp => by
    obtain ⟨y, hy, e⟩ := List.mem_map.mp hp
    rw [← e]
    exact h y hy
  refine law_callG (cs := cs.map fun p => (p.1, p.2.1)) (sp := spP 1 m) KX G.T.g G.T.b G.T.builtins G.T.nolimit hg (mem tE) (mem tK) (mem hh) (noList w.params) G.T.bmain hobj hints (Nat.le_trans hlen hn2) hr (fun base h1 h2 h3 => hF base h1 h2 fun p hp => h3 (p.1, p.2.1) (List.mem_map_of_mem hp)) hb fun ob hne => ?_
  have hz : (ns.map V.int).length ≤ sizeLine := by rw [List.length_map]; exact Nat.le_trans hlen hn2
  refine ⟨fun b => if b = a then some (.frz ob (.lst (ns.map V.int))) else none, [.list (ns.map PyData.int)], .bool true, .cons (.lst (.inr ⟨ob, if_pos rfl⟩) (DnA.ofInts ns)) .nil, fun b u e => ?_, fun b us e => ?_, fun p hp => ⟨if_neg ?_, ?_⟩, rfl, hm ns hlen hbits, fun v F' H' _ _ _ _ _ _ dn => by cases dn; rfl⟩
  · by_cases hb : b = a
    · have e' := (if_pos hb).symm.trans e
      cases e'
      rw [hb]; exact hp0_a
    · have e' := (if_neg hb).symm.trans e
      cases e'
  · rcases e with (e | ⟨o2, e⟩) | (e | ⟨o2, e⟩) <;> by_cases hb : b = a
    all_goals first
      | (have e' := (if_neg hb).symm.trans e; cases e' <;> exact hz)
      | (have e' := (if_pos hb).symm.trans e; cases e' <;> exact hz)
  · have hp : p ∈ cs.map (·.2) := hp
    obtain ⟨y, hy, rfl⟩ := List.mem_map.mp hp
    exact hne (y.1, y.2.1) (List.mem_map_of_mem hy)
  · have hp : p ∈ cs.map (·.2) := hp
    obtain ⟨y, hy, rfl⟩ := List.mem_map.mp hp
    refine LamX.TabS.nil (hp0_t (hne (y.1, y.2.1) (List.mem_map_of_mem hy)) ?_)
    rw [List.map_map]
    exact List.mem_map_of_mem (f := (fun p : Addr × Addr => p.2) ∘ fun p : Addr × Addr × Str => (p.1, p.2.1)) hy
end DL
end
section
/-! a mirror is read -/
namespace DL
open PySem PySem.Spec PyProof.Rows L2
local instance tbs0 : Tbs := ⟨[]⟩
section
variable {α β : Type} (ρ : Ro)
theorem bnd_ap (m : M α) (k : α → M β) : bnd m k ρ = (match m ρ with | none => none | some (a, ρ') => k a ρ') := rfl
theorem ret_ap (a : α) : DL.ret a ρ = some (a, ρ) := rfl
theorem lft_ap (o : Option α) : lft o ρ = (match o with | none => none | some a => some (a, ρ)) := rfl
theorem nm_ap (j : Nat) : nm j ρ = (match (ρ[j]? : Option Sl) with
  | some (.d d) => some (.v d, ρ)
  | some (.ol _) => some (.o j, ρ)
  | some (.br _) => some (.o j, ρ)
  | some (.od _) => some (.o j, ρ)
  | some (.lk _) => some (.o j, ρ)
  | _ => none) := rfl
theorem frzv_ap (d : PyData) : frz (.v d) ρ = some (d, ρ) := rfl
theorem frzo_ap (j : Nat) : frz (.o j) ρ = (match (ρ[j]? : Option Sl) with
    | some (.ol ds) => some (.list ds, ρ.set j (.d (.list ds)))
    | _ => none) := rfl
theorem dat_ap (m : M Ag) : dat m ρ = bnd m frz ρ := rfl
theorem val_ap (m : M PyData) : val m ρ = bnd m (fun d => DL.ret (.v d)) ρ := rfl
theorem getv_ap (d : PyData) : (Ag.v d).get ρ = some d := rfl
theorem geto_ap (j : Nat) : (Ag.o j).get ρ = (match (ρ[j]? : Option Sl) with
    | some (.ol ds) => some (.list ds)
    | some (.br ds) => some (.list ds)
    | _ => none) := rfl
theorem gets2_ap (f : PyData → PyData → Option α) (a b : Ag) : gets2 f a b ρ = (match a.get ρ, b.get ρ with
  | some d, some e => (match f d e with
    | some z => some (z, ρ)
    | none => none)
  | _, _ => none) := rfl
theorem op2_ap (f : PyData → PyData → Option α) (ma mb : M Ag) : op2 f ma mb ρ = bnd ma (fun a => bnd mb fun b => gets2 f a b) ρ := rfl
theorem op1_ap (f : PyData → Option PyData) (m : M Ag) : op1 f m ρ = bnd m (fun a ρ => match a.get ρ with
  | some d => (match f d with
    | some z => some (z, ρ)
    | none => none)
  | none => none) ρ := rfl
theorem tbool_ap (m : M PyData) : tbool m ρ = bnd m (fun d => lft (match d with | .bool b => some b | _ => none)) ρ := rfl
theorem mAnd_ap (m k : M Bool) : mAnd m k ρ = bnd m (fun b => if b = true then k else DL.ret false) ρ := rfl
theorem mOr_ap (m k : M Bool) : mOr m k ρ = bnd m (fun b => if b = true then DL.ret true else k) ρ := rfl
theorem mNot_ap (m : M Bool) : mNot m ρ = bnd m (fun b => DL.ret (!b)) ρ := rfl
theorem vAnd_ap (m k : M PyData) : vAnd m k ρ = bnd (tbool m) (fun b => if b = true then k else DL.ret (.bool false)) ρ := rfl
theorem vOr_ap (m k : M PyData) : vOr m k ρ = bnd (tbool m) (fun b => if b = true then DL.ret (.bool true) else k) ρ := rfl
theorem vNot_ap (m : M PyData) : vNot m ρ = bnd (tbool m) (fun b => DL.ret (.bool (!b))) ρ := rfl
theorem mIte_ap (c : M Bool) (m k : M α) : mIte c m k ρ = bnd c (fun b => if b = true then m else k) ρ := rfl
theorem aNil_ap : aNil ρ = some ([], ρ) := rfl
theorem aCons_ap (m : M Ag) (k : M (List Ag)) : aCons m k ρ = bnd m (fun a => bnd k fun as => DL.ret (a :: as)) ρ := rfl
theorem datA_ap (m : M (List Ag)) : datA m ρ = bnd m (fun as => lft (agD as)) ρ := rfl
theorem getA_ap (m : M (List Ag)) : getA m ρ = bnd m (fun as ρ => match agG ρ as with
  | some ds => some (ds, ρ)
  | none => none) ρ := rfl
theorem opA_ap (f : List PyData → Option α) (m : M (List Ag)) : opA f m ρ = bnd (getA m) (fun ds => lft (f ds)) ρ := rfl
theorem mTup_ap (m : M (List Ag)) : mTup m ρ = bnd (datA m) (fun ds => lft (if ds.length ≤ 16777216 then some (.tuple ds) else none)) ρ := rfl
theorem mLst_ap (m : M (List Ag)) : mLst m ρ = bnd (datA m) (fun ds => lft (if ds.length ≤ 16777216 then some (.ol ds) else none)) ρ := rfl
theorem foD_ap (m : M Sl) : foD m ρ = bnd m (fun s => lft (slD s)) ρ := rfl
theorem mCall_ap (n : Nat) (f : List PyData → Option PyData) (ma : M (List Ag)) : mCall n f ma ρ = bnd (datA ma) (fun ds => lft (if ds.length = n then f ds else none)) ρ := rfl
theorem mChain_ap (f f' : PyData → PyData → Option PyData) (ma mb mc : M Ag) : mChain f f' ma mb mc ρ = bnd ma (fun a => bnd mb fun b => bnd (gets2 f a b) fun d => match d with
  | .bool true => bnd mc fun c => gets2 f' b c
  | .bool false => DL.ret (.bool false)
  | _ => fun _ => none) ρ := rfl
theorem mIsi_ap (T : String) (m : M Ag) : mIsi T m ρ = bnd m (fun a ρ => match a.get ρ with
  | some d => (match isTyD T d with
    | some b => some (.bool b, ρ)
    | none => none)
  | none => none) ρ := rfl
theorem mSeq_ap (m : M Ag) : mSeq m ρ = bnd m (fun a ρ => match agI ρ a with
  | some it => some (it, ρ)
  | none => none) ρ := rfl
theorem mEnum_ap (m : M (List Ag)) : mEnum m ρ = bnd m (fun as ρ => match as with
  | [a] => (match agI ρ a with
    | some it => (match it.ow with
      | none => some (⟨enumD it.xs, none⟩, ρ)
      | some _ => none)
    | none => none)
  | _ => none) ρ := rfl
theorem mZip_ap (m : M (List Ag)) : mZip m ρ = bnd m (fun as => lft (fZip as)) ρ := rfl
theorem mRng_ap (m : M (List Ag)) : mRng m ρ = bnd (datA m) (fun ds => lft (fRng ds)) ρ := rfl
theorem mLc_ap (mi : M Itm) (vs : List Nat) (tgt : PyData → Ro → Option Ro) (mc : M Bool) (me : M PyData) : mLc mi vs tgt mc me ρ = bnd mi (fun it => bnd (lcM it vs tgt mc me it.xs) fun ys => DL.ret (.ol ys)) ρ := rfl
theorem pNo_ap : pNo ρ = some (none, ρ) := rfl
theorem pYes_ap (m : M PyData) : pYes m ρ = bnd m (fun d => lft (match d with | .int i => some (some i) | _ => none)) ρ := rfl
theorem mListRng_ap (m : M PyData) : mListRng m ρ = bnd m (fun d => lft (fLRng d)) ρ := rfl
theorem sNx_ap : sNx ρ = some (.nx, ρ) := rfl
theorem sNever_ap : sNever ρ = none := rfl
theorem sSeq_ap (m k : S) : sSeq m k ρ = (match m ρ with
  | none => none
  | some (.nx, ρ') => k ρ'
  | some (o, ρ') => some (o, ρ')) := rfl
theorem sRet_ap (m : M PyData) : sRet m ρ = (match m ρ with
  | none => none
  | some (d, ρ') => some (.rt d, ρ')) := rfl
theorem sRetO_ap (m : M Sl) : sRetO m ρ = (match m ρ with
  | none => none
  | some (s, ρ') => some (.ro s, ρ')) := rfl
theorem sDrop_ap (m : M PyData) : sDrop m ρ = (match m ρ with
  | none => none
  | some (_, ρ') => some (.nx, ρ')) := rfl
theorem sIf_ap (c : M Bool) (m k : S) : sIf c m k ρ = (match c ρ with
  | none => none
  | some (true, ρ') => m ρ'
  | some (false, ρ') => k ρ') := rfl
theorem rvD_ap (m : M PyData) : rvD m ρ = bnd m (fun d => DL.ret (.v d)) ρ := rfl
theorem rvO_ap (m : M Sl) : rvO m ρ = bnd m (fun d => DL.ret (.f d)) ρ := rfl
theorem sSet_ap (i : Nat) (m : M Rv) : sSet i m ρ = (match m ρ with
  | none => none
  | some (a, ρ1) => match stR i a ρ1 with
    | none => none
    | some ρ2 => some (.nx, ρ2)) := rfl
theorem sTgt_ap (m : M PyData) (tgt : PyData → Ro → Option Ro) : sTgt m tgt ρ = (match m ρ with
  | none => none
  | some (d, ρ1) => match tgt d ρ1 with
    | none => none
    | some ρ2 => some (.nx, ρ2)) := rfl
theorem sFor_ap (mi : M Itm) (tgt : PyData → Ro → Option Ro) (b : S) : sFor mi tgt b ρ = (match mi ρ with
  | none => none
  | some (it, ρ1) => match it.ow with
    | some _ => none
    | none => forM it tgt b it.xs ρ1) := rfl
theorem mMt_ap (f : List PyData → List PyData → Option (PyData × List PyData)) (mo : M Ag) (ma : M (List Ag)) : mMt f mo ma ρ = bnd mo (fun a => bnd (chkL a) fun _ => bnd (getA ma) fun ds => match a with
  | .o j => putM j (f ds)
  | .v _ => fun _ => none) ρ := rfl
theorem chkL_ap (a : Ag) : chkL a ρ = (match a.get ρ with
  | some (.list _) => some ((), ρ)
  | _ => none) := rfl
theorem putM_ap (j : Nat) (f : List PyData → Option (PyData × List PyData)) : putM j f ρ = (match (ρ[j]? : Option Sl) with
  | some (.ol ds) => (match f ds with
    | some (z, ds') => some (z, ρ.set j (.ol ds'))
    | none => none)
  | some (.br ds) => (match f ds with
    | some (z, ds') => some (z, ρ.set j (.br ds'))
    | none => none)
  | _ => none) := rfl
theorem stN_ap (i : Nat) (d : PyData) : stN i d ρ = (match (ρ[i]? : Option Sl) with
  | some s => if s.isBr = true then none else some (ρ.set i (.d d))
  | none => none) := rfl
theorem stRv_ap (i : Nat) (d : PyData) : stR i (.v d) ρ = stN i d ρ := rfl
theorem stRf_ap (i : Nat) (s : Sl) : stR i (.f s) ρ = (match (ρ[i]? : Option Sl) with
    | some t => if t.isBr = true then none else some (ρ.set i s)
    | none => none) := rfl
theorem tgT_ap (k : List PyData → Ro → Option Ro) (ds : List PyData) : tgT k (.tuple ds) ρ = k ds ρ := rfl
theorem tgC_ap (m : PyData → Ro → Option Ro) (k : List PyData → Ro → Option Ro) (d : PyData) (r : List PyData) : tgC m k (d :: r) ρ = (match m d ρ with
    | some ρ' => k r ρ'
    | none => none) := rfl
theorem tg0_ap : tg0 [] ρ = some ρ := rfl
theorem runP_ap (n : Nat) (m : S) (ds : List PyData) : runP n m ds = (match m (initP n ds) with
  | some (.rt d, _) => some d
  | some (.nx, _) => some .none
  | _ => none) := rfl
end
theorem sPar_ap (ρ : Ro) (i j : Nat) (m k : M Rv) : sPar i j m k ρ = (match m ρ with
  | none => none
  | some (a, ρ1) => match k ρ1 with
    | none => none
    | some (b, ρ2) => match stR i a ρ2 with
      | none => none
      | some ρ3 => match stR j b ρ3 with
        | none => none
        | some ρ4 => some (.nx, ρ4)) := rfl
theorem sPar3_ap (ρ : Ro) (i j l : Nat) (m k n : M Rv) : sPar3 i j l m k n ρ = (match m ρ with
  | some (.v a, ρ1) => (match k ρ1 with
    | some (.v b, ρ2) => (match n ρ2 with
      | none => none
      | some (c, ρ3) => match stN i a ρ3 with
        | none => none
        | some ρ4 => match stN j b ρ4 with
          | none => none
          | some ρ5 => match stR l c ρ5 with
            | none => none
            | some ρ6 => some (.nx, ρ6))
    | _ => none)
  | _ => none) := rfl
theorem sPut_ap (ρ : Ro) (m : M PyData) (ma : M Ag) (mi : M PyData) : sPut m ma mi ρ = (match m ρ with
  | none => none
  | some (d, ρ1) => match ma ρ1 with
    | some (.o j, ρ2) => (match mi ρ2 with
      | some (.int k, ρ3) => (match putM j (fPut k d) ρ3 with
        | some (_, ρ4) => some (.nx, ρ4)
        | none => none)
      | _ => none)
    | _ => none) := rfl
theorem mCut_ap (ρ : Ro) (m : M Ag) (ml mh : M (Option Int)) : mCut m ml mh ρ = bnd m (fun a => bnd ml fun lo => bnd mh fun hi ρ => match a.get ρ with
  | some d => (match fCut lo hi d with
    | some z => some (z, ρ)
    | none => none)
  | none => none) ρ := rfl
theorem mMaxLen_ap (ρ : Ro) (m : M Ag) : mMaxLen m ρ = bnd m (fun a ρ => match a.get ρ with
  | some d => (match fMaxLen d with
    | some z => some (z, ρ)
    | none => none)
  | none => none) ρ := rfl
theorem mSrtSet_ap (ρ : Ro) (m : M Ag) : mSrtSet m ρ = bnd m (fun a ρ => match a.get ρ with
  | some d => (match fSrtSet d with
    | some z => some (z, ρ)
    | none => none)
  | none => none) ρ := rfl
theorem mSrtKey_ap (ρ : Ro) (ci k : Nat) (m : M PyData) : mSrtKey ci k m ρ = bnd m (fun d ρ => match d, (ρ[ci]? : Option Sl) with
  | .int n, some (.d (.tuple rows)) => (match keyInts k rows with
    | some zs => if n = (zs.length : Int) ∧ zs.length ≤ 1000 then some (.ol ((ordZ zs).map fun (i : Nat) => .int (i : Int)), ρ) else none
    | none => none)
  | _, _ => none) ρ := rfl
theorem mKeys_ap (ρ : Ro) (m : M Ag) : mKeys m ρ = bnd m (fun a ρ => match a with
  | .o j => (match (ρ[j]? : Option Sl) with
    | some (.lk kvs) => if kvs.length ≤ 16777216 then some (⟨keysOf kvs, none⟩, ρ) else none
    | _ => none)
  | _ => none) ρ := rfl
theorem mDGet_ap (ρ : Ro) (mo : M Ag) (mk : M PyData) : mDGet mo mk ρ = bnd mo (fun a => bnd mk fun d ρ => match dicOf ρ a with
  | some kvs => (match keyD d with
    | some k => (match lookK kvs k with
      | some z => some (z, ρ)
      | none => none)
    | none => none)
  | none => none) ρ := rfl
theorem dicOf_ap (ρ : Ro) (j : Nat) : dicOf ρ (.o j) = (match (ρ[j]? : Option Sl) with
    | some (.od kvs) => some kvs
    | some (.lk kvs) => some kvs
    | _ => none) := rfl
theorem putMD_ap (ρ : Ro) (j : Nat) (k : Key) (d : PyData) : putMD j k d ρ = (match (ρ[j]? : Option Sl) with
  | some (.od kvs) => if kvs.length < 16777216 then some (ρ.set j (.od (putD kvs k d))) else none
  | _ => none) := rfl
theorem sDPutM_ap (ρ : Ro) (m : M PyData) (mo : M Ag) (mk : M PyData) : sDPutM m mo mk ρ = (match m ρ with
  | none => none
  | some (d, ρ1) => match mo ρ1 with
    | some (.o j, ρ2) => (match mk ρ2 with
      | none => none
      | some (kd, ρ3) => match keyD kd with
        | none => none
        | some k => match putMD j k d ρ3 with
          | none => none
          | some ρ4 => some (.nx, ρ4))
    | _ => none) := rfl
theorem mLock_ap (ρ : Ro) (j : Nat) (m : M Sl) : mLock j m ρ = (match (ρ[j]? : Option Sl) with
  | some (.od kvs) => (match m (ρ.set j (.lk kvs)) with
    | some (s, ρ') => (match (ρ'[j]? : Option Sl) with
      | some (.lk _) => if noLk (ρ'.set j .no) = true then some (s, ρ'.set j (.od kvs)) else none
      | _ => none)
    | none => none)
  | _ => none) := rfl
theorem mCallI_ap (ρ : Ro) (n : Nat) (f : List PyData → List PyData → Option (PyData × List PyData)) (ma : M (List Ag)) : mCallI n f ma ρ = bnd ma (fun as => match as with
  | .o j :: r => (match agD r with
    | some ds => putM j (fun cs => if ds.length = n then f cs ds else none)
    | none => fun _ => none)
  | _ => fun _ => none) ρ := rfl
theorem mCallO_ap (ρ : Ro) (n : Nat) (m : List PyData → Option Sl) (ma : M (List Ag)) : mCallO n m ma ρ = bnd (datA ma) (fun ds => lft (if ds.length = n then m ds else none)) ρ := rfl
theorem mCallF_ap (ρ : Ro) (f : List PyData → List PyData → Option (PyData × List PyData)) (m : M Sl) : mCallF f m ρ = bnd m (fun s => match s with
  | .ol cs => (match f cs [] with
    | some (z, _) => DL.ret z
    | none => fun _ => none)
  | _ => fun _ => none) ρ := rfl
theorem runB_ap (n : Nat) (m : S) (cs ds : List PyData) : runB n m cs ds = (match m (Sl.br cs :: initP (n - 1) ds) with
  | some (.rt d, ρ) => (match (ρ[0]? : Option Sl) with
    | some (Sl.br cs') => some (d, cs')
    | _ => none)
  | some (.nx, ρ) => (match (ρ[0]? : Option Sl) with
    | some (Sl.br cs') => some (.none, cs')
    | _ => none)
  | _ => none) := rfl
theorem runO_ap (n : Nat) (m : S) (ds : List PyData) : runO n m ds = (match m (initP n ds) with
  | some (.ro s, _) => some s
  | _ => none) := rfl
theorem fLe_ap (i j : Int) : fLe (.int i) (.int j) = some (.bool (decide (i ≤ j))) := rfl
theorem fLt_ap (i j : Int) : fLt (.int i) (.int j) = some (.bool (decide (i < j))) := rfl
theorem fGt_ap (i j : Int) : fGt (.int i) (.int j) = some (.bool (decide (j < i))) := rfl
theorem fGe_ap (i j : Int) : fGe (.int i) (.int j) = some (.bool (decide (j ≤ i))) := rfl
theorem fSub_ap (i j : Int) : fSub (.int i) (.int j) = some (.int (i - j)) := rfl
theorem fAdd_ap (i j : Int) : fAdd (.int i) (.int j) = some (.int (i + j)) := rfl
theorem fNeg_ap (i : Int) : fNeg (.int i) = some (.int (-i)) := rfl
theorem fLen_t (ds : List PyData) : fLen [.tuple ds] = some (.int ds.length) := rfl
theorem fLen_l (ds : List PyData) : fLen [.list ds] = some (.int ds.length) := rfl
theorem fAll_l (ds : List PyData) : fAll [.list ds] = (match asBls ds with | some bs => some (.bool (bs.all id)) | none => none) := rfl
theorem fAny_l (ds : List PyData) : fAny [.list ds] = (match asBls ds with | some bs => some (.bool (bs.any id)) | none => none) := rfl
theorem fTuple_l (ds : List PyData) : fTuple [.list ds] = some (.tuple ds) := rfl
theorem fTuple_t (ds : List PyData) : fTuple [.tuple ds] = some (.tuple ds) := rfl
theorem fList_l (ds : List PyData) : fList [.list ds] = some (.ol ds) := rfl
theorem fList_t (ds : List PyData) : fList [.tuple ds] = some (.ol ds) := rfl
theorem fInt_i (i : Int) : fInt [.int i] = some (.int i) := rfl
theorem fEq_int (i j : Int) : fEq (.int i) (.int j) = some (.bool (decide (i = j))) := rfl
theorem fNe_int (i j : Int) : fNe (.int i) (.int j) = some (.bool (!decide (i = j))) := rfl
theorem fIx_t (ds : List PyData) (i : Int) : fIx (.tuple ds) (.int i) = atI ds i := rfl
theorem fIx_l (ds : List PyData) (i : Int) : fIx (.list ds) (.int i) = atI ds i := rfl
theorem fIs_b (a b : Bool) : fIs (.bool a) (.bool b) = some (.bool (decide (a = b))) := by cases a <;> cases b <;> rfl
theorem fNis_b (a b : Bool) : fNis (.bool a) (.bool b) = some (.bool (!decide (a = b))) := by cases a <;> cases b <;> rfl
theorem fIs_n (d : PyData) : fIs d .none = some (.bool (isNone d)) := by cases d <;> rfl
theorem fNis_n (d : PyData) : fNis d .none = some (.bool (!isNone d)) := by cases d <;> rfl
theorem isNone_i (i : Int) : isNone (.int i) = false := rfl
theorem isNone_n : isNone .none = true := rfl
theorem fApp_i (i : Int) (cs : List PyData) : fAppend [.int i] cs = (if cs.length < 16777216 then some (.none, cs ++ [.int i]) else none) := rfl
theorem fApp_t (ds cs : List PyData) : fAppend [.tuple ds] cs = (if cs.length < 16777216 then some (.none, cs ++ [.tuple ds]) else none) := rfl
theorem fExt_l (es cs : List PyData) : fExtend [.list es] cs = (if cs.length + es.length ≤ 16777216 then some (.none, cs ++ es) else none) := rfl
/-! loops -/
theorem lc_pure {it : Itm} {vs : List Nat} {tgt : PyData → Ro → Option Ro} {mc : M Bool} {me : M PyData} {ρ ρw : Ro} (ok : it.ok ρ) (hc : clrs vs ρ = some ρw) (p : PyData → Bool) (g : PyData → PyData) : ∀ xs : List PyData,
    (∀ x ∈ xs, ∃ ρ1, tgt x ρw = some ρ1 ∧ mrg vs ρ ρ1 = ρ ∧ mc ρ1 = some (p x, ρ1) ∧ (p x = true → me ρ1 = some (g x, ρ1))) → lcM it vs tgt mc me xs ρ = some ((xs.filter p).map g, ρ)
  | [], _ => by simp [lcM, ok]
  | x :: xs, h => by
    obtain ⟨ρ1, h1, h2, h3, h4⟩ := h x List.mem_cons_self
    have ih := lc_pure ok hc p g xs fun y hy => h y (List.mem_cons_of_mem _ hy)
    cases hp : p x with
    | true =>
      rw [hp] at h3
      simp [lcM, ok, hc, h1, h3, h4 hp, h2, ih, hp]
    | false =>
      rw [hp] at h3
      simp [lcM, ok, hc, h1, h3, h2, ih, hp]
/-- the same where every item is taken -/
theorem lc_all {it : Itm} {vs : List Nat} {tgt : PyData → Ro → Option Ro} {me : M PyData} {ρ ρw : Ro} (ok : it.ok ρ) (hc : clrs vs ρ = some ρw) (g : PyData → PyData) (xs : List PyData)
    (h : ∀ x ∈ xs, ∃ ρ1, tgt x ρw = some ρ1 ∧ mrg vs ρ ρ1 = ρ ∧ me ρ1 = some (g x, ρ1)) : lcM it vs tgt (ret true) me xs ρ = some (xs.map g, ρ) := by
  have := lc_pure (mc := ret true) (me := me) (tgt := tgt) ok hc (fun _ => true) g xs fun x hx => by
    obtain ⟨ρ1, h1, h2, h3⟩ := h x hx
    exact ⟨ρ1, h1, h2, rfl, fun _ => h3⟩
  rw [this, List.filter_eq_self.mpr fun _ _ => rfl]
theorem ty_int_int (v : Int) : isTyD "int" (.int v) = some true := by show kitB "int" "int" = some true; decide +kernel
theorem ty_bool_int (v : Int) : isTyD "bool" (.int v) = some false := by show kitB "int" "bool" = some false; decide +kernel
theorem ty_tup_tup (ds : List PyData) : isTyD "tuple" (.tuple ds) = some true := by show kitB "tuple" "tuple" = some true; decide +kernel
theorem ty_bool_bool (b : Bool) : isTyD "bool" (.bool b) = some true := by show kitB "bool" "bool" = some true; decide +kernel
theorem ty_int_bool (b : Bool) : isTyD "int" (.bool b) = some true := by show kitB "bool" "int" = some true; decide +kernel
theorem at0 {α : Type} (a : α) (l : List α) : atI (a :: l) 0 = some a := atI_nat (j := 0) rfl
theorem at1 {α : Type} (a b : α) (l : List α) : atI (a :: b :: l) 1 = some b := atI_nat (j := 1) rfl
theorem at2 {α : Type} (a b c : α) (l : List α) : atI (a :: b :: c :: l) 2 = some c := atI_nat (j := 2) rfl
theorem at3 {α : Type} (a b c d : α) (l : List α) : atI (a :: b :: c :: d :: l) 3 = some d := atI_nat (j := 3) rfl
theorem atm1_4 {α : Type} (a b c d : α) : atI [a, b, c, d] (-1) = some d := by unfold atI ixN; simp
theorem asBls_of {α : Type} (f : α → Bool) (xs : List α) : asBls (xs.map fun x => PyData.bool (f x)) = some (xs.map f) := by
  have := asBls_map (xs.map f)
  rw [List.map_map] at this
  exact this
theorem lc_map {γ : Type} {it : Itm} {vs : List Nat} {tgt : PyData → Ro → Option Ro} {me : M PyData} {ρ ρw : Ro} (e g : γ → PyData) (ok : it.ok ρ) (hc : clrs vs ρ = some ρw) (ys : List γ)
    (h : ∀ y ∈ ys, ∃ ρ1, tgt (e y) ρw = some ρ1 ∧ mrg vs ρ ρ1 = ρ ∧ me ρ1 = some (g y, ρ1)) : lcM it vs tgt (DL.ret true) me (ys.map e) ρ = some (ys.map g, ρ) := by
  induction ys with
  | nil => simp [lcM, ok]
  | cons y ys ih =>
    obtain ⟨ρ1, h1, h2, h3⟩ := h y List.mem_cons_self
    have ih := ih fun y hy => h y (List.mem_cons_of_mem _ hy)
    simp [lcM, ok, hc, h1, h3, h2, ih, ret_ap]
theorem lc_filt {γ : Type} {it : Itm} {vs : List Nat} {tgt : PyData → Ro → Option Ro} {mc : M Bool} {me : M PyData} {ρ ρw : Ro} (e g : γ → PyData) (p : γ → Bool) (ok : it.ok ρ) (hc : clrs vs ρ = some ρw) (ys : List γ)
    (h : ∀ y ∈ ys, ∃ ρ1, tgt (e y) ρw = some ρ1 ∧ mrg vs ρ ρ1 = ρ ∧ mc ρ1 = some (p y, ρ1) ∧ (p y = true → me ρ1 = some (g y, ρ1))) : lcM it vs tgt mc me (ys.map e) ρ = some ((ys.filter p).map g, ρ) := by
  induction ys with
  | nil => simp [lcM, ok]
  | cons y ys ih =>
    obtain ⟨ρ1, h1, h2, h3, h4⟩ := h y List.mem_cons_self
    have ih := ih fun y hy => h y (List.mem_cons_of_mem _ hy)
    cases hp : p y with
    | true =>
      rw [hp] at h3
      simp [lcM, ok, hc, h1, h3, h4 hp, h2, ih, hp]
    | false =>
      rw [hp] at h3
      simp [lcM, ok, hc, h1, h3, h2, ih, hp]
/-- a loop that is never left: what it keeps -/
theorem for_rel {γ δ : Type} {it : Itm} {tgt : PyData → Ro → Option Ro} {b : S} (e : γ → PyData) (R : δ → Ro → Prop) (step : δ → γ → δ) : ∀ (ys : List γ) (a : δ) (ρ : Ro), R a ρ →
    (∀ y ∈ ys, ∀ a ρ, R a ρ → ∃ ρ1 ρ2, tgt (e y) ρ = some ρ1 ∧ b ρ1 = some (.nx, ρ2) ∧ R (step a y) ρ2) → ∃ ρ', forM it tgt b (ys.map e) ρ = some (.nx, ρ') ∧ R (ys.foldl step a) ρ'
  | [], a, ρ, h, _ => ⟨ρ, rfl, h⟩
  | y :: ys, a, ρ, h, hs => by
    obtain ⟨ρ1, ρ2, h1, h2, h3⟩ := hs y List.mem_cons_self a ρ h
    obtain ⟨ρ', h4, h5⟩ := for_rel (it := it) (tgt := tgt) (b := b) e R step ys (step a y) ρ2 h3 fun y hy => hs y (List.mem_cons_of_mem _ hy)
    exact ⟨ρ', by simp [forM, h1, h2, h4], h5⟩
theorem for_at {γ δ : Type} {it : Itm} {tgt : PyData → Ro → Option Ro} {b : S} (e : γ → PyData) (R : Nat → δ → Ro → Prop) (step : δ → γ → δ) : ∀ (ys : List γ) (k : Nat) (a : δ) (ρ : Ro), R k a ρ →
    (∀ i y, ys[i]? = some y → ∀ a ρ, R (k + i) a ρ → ∃ ρ1 ρ2, tgt (e y) ρ = some ρ1 ∧ b ρ1 = some (.nx, ρ2) ∧ R (k + i + 1) (step a y) ρ2) → ∃ ρ', forM it tgt b (ys.map e) ρ = some (.nx, ρ') ∧ R (k + ys.length) (ys.foldl step a) ρ'
  | [], k, a, ρ, h, _ => ⟨ρ, rfl, h⟩
  | y :: ys, k, a, ρ, h, hs => by
    obtain ⟨ρ1, ρ2, h1, h2, h3⟩ := hs 0 y rfl a ρ h
    obtain ⟨ρ', h4, h5⟩ := for_at (it := it) (tgt := tgt) (b := b) e R step ys (k + 1) (step a y) ρ2 h3 fun i y hy a ρ hr => by
      have := hs (i + 1) y hy a ρ (by rw [← Nat.add_assoc]; rw [Nat.add_right_comm]; exact hr)
      rw [show k + 1 + i + 1 = k + (i + 1) + 1 by omega]; exact this
    refine ⟨ρ', by simp [forM, h1, h2, h4], ?_⟩
    rw [show k + (y :: ys).length = k + 1 + ys.length by simp; omega]
    exact h5
/-- a slot that holds data or nothing -/
def ofO : Option PyData → Sl
  | none => .no
  | some d => .d d
end DL
end
section
namespace K15
open PySem PySem.Spec PyProof.Rows L2 DL
def topS (i : Nat) : Stmt := PySem.Challenge.pw_nevermelted_k15_whole_claims_corner_by_c.main.body.getD i (.Pass ⟨0, 0, 0, 0⟩)
/-- what the top has written -/
structure Tx (K : PySem.W.Frag) (mg : Str → Option Value) where
  a_is_integer : Addr
  fd_is_integer : FuncData
  F_is_integer : Fun K "is_integer" "is_integer" (topS 5) a_is_integer fd_is_integer
  g_is_integer : mg "is_integer" = some (.ref a_is_integer)
  b_is_integer : Binds K fd_is_integer ["value"] []
  a_is_between : Addr
  fd_is_between : FuncData
  F_is_between : Fun K "is_between" "is_between" (topS 6) a_is_between fd_is_between
  g_is_between : mg "is_between" = some (.ref a_is_between)
  b_is_between : Binds K fd_is_between ["value", "low", "high"] []
  a_are_between : Addr
  fd_are_between : FuncData
  F_are_between : Fun K "are_between" "are_between" (topS 7) a_are_between fd_are_between
  g_are_between : mg "are_between" = some (.ref a_are_between)
  b_are_between : Binds K fd_are_between ["value", "low", "high"] []
  a_is_ascending : Addr
  fd_is_ascending : FuncData
  F_is_ascending : Fun K "is_ascending" "is_ascending" (topS 8) a_is_ascending fd_is_ascending
  g_is_ascending : mg "is_ascending" = some (.ref a_is_ascending)
  b_is_ascending : Binds K fd_is_ascending ["items"] []
  a_is_claim : Addr
  fd_is_claim : FuncData
  F_is_claim : Fun K "is_claim" "is_claim" (topS 15) a_is_claim fd_is_claim
  g_is_claim : mg "is_claim" = some (.ref a_is_claim)
  b_is_claim : Binds K fd_is_claim ["value"] []
  a_are_claims : Addr
  fd_are_claims : FuncData
  F_are_claims : Fun K "are_claims" "are_claims" (topS 16) a_are_claims fd_are_claims
  g_are_claims : mg "are_claims" = some (.ref a_are_claims)
  b_are_claims : Binds K fd_are_claims ["value"] []
  a_check_claims : Addr
  fd_check_claims : FuncData
  F_check_claims : Fun K "check_claims" "check_claims" (topS 17) a_check_claims fd_check_claims
  g_check_claims : mg "check_claims" = some (.ref a_check_claims)
  b_check_claims : Binds K fd_check_claims ["value"] []
  a_check_claim : Addr
  fd_check_claim : FuncData
  F_check_claim : Fun K "check_claim" "check_claim" (topS 18) a_check_claim fd_check_claim
  g_check_claim : mg "check_claim" = some (.ref a_check_claim)
  b_check_claim : Binds K fd_check_claim ["claims", "claim"] []
  a_meet : Addr
  fd_meet : FuncData
  F_meet : Fun K "meet" "meet" (topS 19) a_meet fd_meet
  g_meet : mg "meet" = some (.ref a_meet)
  b_meet : Binds K fd_meet ["one", "other"] []
  a_do_meet : Addr
  fd_do_meet : FuncData
  F_do_meet : Fun K "do_meet" "do_meet" (topS 20) a_do_meet fd_do_meet
  g_do_meet : mg "do_meet" = some (.ref a_do_meet)
  b_do_meet : Binds K fd_do_meet ["claims", "one", "other"] []
  a_by_rank : Addr
  fd_by_rank : FuncData
  F_by_rank : Fun K "by_rank" "by_rank" (topS 21) a_by_rank fd_by_rank
  g_by_rank : mg "by_rank" = some (.ref a_by_rank)
  b_by_rank : Binds K fd_by_rank ["claims"] []
  a_granted_of : Addr
  fd_granted_of : FuncData
  F_granted_of : Fun K "granted_of" "granted_of" (topS 22) a_granted_of fd_granted_of
  g_granted_of : mg "granted_of" = some (.ref a_granted_of)
  b_granted_of : Binds K fd_granted_of ["claims"] []
  a_granted : Addr
  fd_granted : FuncData
  F_granted : Fun K "granted" "granted" (topS 23) a_granted fd_granted
  g_granted : mg "granted" = some (.ref a_granted)
  b_granted : Binds K fd_granted ["claims"] []
  a_barred_by : Addr
  fd_barred_by : FuncData
  F_barred_by : Fun K "barred_by" "barred_by" (topS 24) a_barred_by fd_barred_by
  g_barred_by : mg "barred_by" = some (.ref a_barred_by)
  b_barred_by : Binds K fd_barred_by ["claims", "claim"] []
  a_holds : Addr
  fd_holds : FuncData
  F_holds : Fun K "holds" "holds" (topS 27) a_holds fd_holds
  g_holds : mg "holds" = some (.ref a_holds)
  b_holds : Binds K fd_holds ["pin", "claim"] []
  a_are_pins : Addr
  fd_are_pins : FuncData
  F_are_pins : Fun K "are_pins" "are_pins" (topS 28) a_are_pins fd_are_pins
  g_are_pins : mg "are_pins" = some (.ref a_are_pins)
  b_are_pins : Binds K fd_are_pins ["value"] []
  a_is_lot_of : Addr
  fd_is_lot_of : FuncData
  F_is_lot_of : Fun K "is_lot_of" "is_lot_of" (topS 29) a_is_lot_of fd_is_lot_of
  g_is_lot_of : mg "is_lot_of" = some (.ref a_is_lot_of)
  b_is_lot_of : Binds K fd_is_lot_of ["claims", "value"] []
  a_most_of : Addr
  fd_most_of : FuncData
  F_most_of : Fun K "most_of" "most_of" (topS 30) a_most_of fd_most_of
  g_most_of : mg "most_of" = some (.ref a_most_of)
  b_most_of : Binds K fd_most_of ["claims"] []
  a_most_stands : Addr
  fd_most_stands : FuncData
  F_most_stands : Fun K "most_stands" "most_stands" (topS 31) a_most_stands fd_most_stands
  g_most_stands : mg "most_stands" = some (.ref a_most_stands)
  b_most_stands : Binds K fd_most_stands ["claims"] []
  a_shows_most_stands : Addr
  fd_shows_most_stands : FuncData
  F_shows_most_stands : Fun K "shows_most_stands" "shows_most_stands" (topS 32) a_shows_most_stands fd_shows_most_stands
  g_shows_most_stands : mg "shows_most_stands" = some (.ref a_shows_most_stands)
  b_shows_most_stands : Binds K fd_shows_most_stands ["claims", "value"] []
  a_held_by : Addr
  fd_held_by : FuncData
  F_held_by : Fun K "held_by" "held_by" (topS 33) a_held_by fd_held_by
  g_held_by : mg "held_by" = some (.ref a_held_by)
  b_held_by : Binds K fd_held_by ["claims", "pin"] []
  a_rows_of : Addr
  fd_rows_of : FuncData
  F_rows_of : Fun K "rows_of" "rows_of" (topS 34) a_rows_of fd_rows_of
  g_rows_of : mg "rows_of" = some (.ref a_rows_of)
  b_rows_of : Binds K fd_rows_of ["claims"] []
  a_fewest_of : Addr
  fd_fewest_of : FuncData
  F_fewest_of : Fun K "fewest_of" "fewest_of" (topS 35) a_fewest_of fd_fewest_of
  g_fewest_of : mg "fewest_of" = some (.ref a_fewest_of)
  b_fewest_of : Binds K fd_fewest_of ["claims"] []
  a_fewest_rows : Addr
  fd_fewest_rows : FuncData
  F_fewest_rows : Fun K "fewest_rows" "fewest_rows" (topS 36) a_fewest_rows fd_fewest_rows
  g_fewest_rows : mg "fewest_rows" = some (.ref a_fewest_rows)
  b_fewest_rows : Binds K fd_fewest_rows ["claims"] []
  a_are_rows : Addr
  fd_are_rows : FuncData
  F_are_rows : Fun K "are_rows" "are_rows" (topS 37) a_are_rows fd_are_rows
  g_are_rows : mg "are_rows" = some (.ref a_are_rows)
  b_are_rows : Binds K fd_are_rows ["claims", "number", "value"] []
  a_are_held : Addr
  fd_are_held : FuncData
  F_are_held : Fun K "are_held" "are_held" (topS 38) a_are_held fd_are_held
  g_are_held : mg "are_held" = some (.ref a_are_held)
  b_are_held : Binds K fd_are_held ["claims", "lot"] []
  a_shows_fewest_rows : Addr
  fd_shows_fewest_rows : FuncData
  F_shows_fewest_rows : Fun K "shows_fewest_rows" "shows_fewest_rows" (topS 39) a_shows_fewest_rows fd_shows_fewest_rows
  g_shows_fewest_rows : mg "shows_fewest_rows" = some (.ref a_shows_fewest_rows)
  b_shows_fewest_rows : Binds K fd_shows_fewest_rows ["claims", "value"] []
  a_law_pot : Addr
  fd_law_pot : FuncData
  F_law_pot : Fun K "_law_pot" "_law_pot" (topS 41) a_law_pot fd_law_pot
  g_law_pot : mg "_law_pot" = some (.ref a_law_pot)
  b_law_pot : Binds K fd_law_pot ["script", "place"] []
  a_law_take : Addr
  fd_law_take : FuncData
  F_law_take : Fun K "_law_take" "_law_take" (topS 42) a_law_take fd_law_take
  g_law_take : mg "_law_take" = some (.ref a_law_take)
  b_law_take : Binds K fd_law_take ["pot", "upto"] []
  a_law_cells : Addr
  fd_law_cells : FuncData
  F_law_cells : Fun K "_law_cells" "_law_cells" (topS 43) a_law_cells fd_law_cells
  g_law_cells : mg "_law_cells" = some (.ref a_law_cells)
  b_law_cells : Binds K fd_law_cells ["script", "most"] []
  a_law_of : Addr
  fd_law_of : FuncData
  F_law_of : Fun K "_law_of" "_law_of" (topS 44) a_law_of fd_law_of
  g_law_of : mg "_law_of" = some (.ref a_law_of)
  b_law_of : Binds K fd_law_of ["pot", "some"] []
  a_law_is_int : Addr
  fd_law_is_int : FuncData
  F_law_is_int : Fun K "_law_is_int" "_law_is_int" (topS 45) a_law_is_int fd_law_is_int
  g_law_is_int : mg "_law_is_int" = some (.ref a_law_is_int)
  b_law_is_int : Binds K fd_law_is_int ["value", "low", "high"] []
  a_law_claims : Addr
  fd_law_claims : FuncData
  F_law_claims : Fun K "_law_claims" "_law_claims" (topS 46) a_law_claims fd_law_claims
  g_law_claims : mg "_law_claims" = some (.ref a_law_claims)
  b_law_claims : Binds K fd_law_claims ["pot", "many", "corners"] []
  a_law_do_meet : Addr
  fd_law_do_meet : FuncData
  F_law_do_meet : Fun K "_law_do_meet" "_law_do_meet" (topS 47) a_law_do_meet fd_law_do_meet
  g_law_do_meet : mg "_law_do_meet" = some (.ref a_law_do_meet)
  b_law_do_meet : Binds K fd_law_do_meet ["one", "other"] []
  a_law_stands : Addr
  fd_law_stands : FuncData
  F_law_stands : Fun K "_law_stands" "_law_stands" (topS 48) a_law_stands fd_law_stands
  g_law_stands : mg "_law_stands" = some (.ref a_law_stands)
  b_law_stands : Binds K fd_law_stands ["claims"] []
  a_law_rows_of : Addr
  fd_law_rows_of : FuncData
  F_law_rows_of : Fun K "_law_rows_of" "_law_rows_of" (topS 49) a_law_rows_of fd_law_rows_of
  g_law_rows_of : mg "_law_rows_of" = some (.ref a_law_rows_of)
  b_law_rows_of : Binds K fd_law_rows_of ["claims"] []
  a_law_fullest : Addr
  fd_law_fullest : FuncData
  F_law_fullest : Fun K "_law_fullest" "_law_fullest" (topS 50) a_law_fullest fd_law_fullest
  g_law_fullest : mg "_law_fullest" = some (.ref a_law_fullest)
  b_law_fullest : Binds K fd_law_fullest ["claims"] []
  a_law_holds : Addr
  fd_law_holds : FuncData
  F_law_holds : Fun K "_law_holds" "_law_holds" (topS 51) a_law_holds fd_law_holds
  g_law_holds : mg "_law_holds" = some (.ref a_law_holds)
  b_law_holds : Binds K fd_law_holds ["claims", "pins"] []
  a_law_is_free : Addr
  fd_law_is_free : FuncData
  F_law_is_free : Fun K "_law_is_free" "_law_is_free" (topS 52) a_law_is_free fd_law_is_free
  g_law_is_free : mg "_law_is_free" = some (.ref a_law_is_free)
  b_law_is_free : Binds K fd_law_is_free ["claims", "lot"] []
  a_law_pairs : Addr
  fd_law_pairs : FuncData
  F_law_pairs : Fun K "_law_pairs" "_law_pairs" (topS 53) a_law_pairs fd_law_pairs
  g_law_pairs : mg "_law_pairs" = some (.ref a_law_pairs)
  b_law_pairs : Binds K fd_law_pairs ["lot"] []
  a_law_right : Addr
  fd_law_right : FuncData
  F_law_right : Fun K "_law_right" "_law_right" (topS 54) a_law_right fd_law_right
  g_law_right : mg "_law_right" = some (.ref a_law_right)
  b_law_right : Binds K fd_law_right ["pot"] []
  a_law : Addr
  fd_law : FuncData
  F_law : Fun K "law" "law" (topS 55) a_law fd_law
  g_law : mg "law" = some (.ref a_law)
  b_law : Binds K fd_law ["script"] []
  cc_law_stands : Addr
  pp_law_stands : Addr
  k_law_stands : fd_law_stands.code = .ref cc_law_stands
  cc_law_rows_of : Addr
  pp_law_rows_of : Addr
  k_law_rows_of : fd_law_rows_of.code = .ref cc_law_rows_of
  c_MOST_CORNERS : ∃ t, mg "MOST_CORNERS" = some (.int 7 t)
  c_MOST_TICKS : ∃ t, mg "MOST_TICKS" = some (.int 12 t)
  c_MOST_CLAIMS : ∃ t, mg "MOST_CLAIMS" = some (.int 8 t)
  c_MOST_RANK : ∃ t, mg "MOST_RANK" = some (.int 9 t)
  c_FOUR : ∃ t, mg "FOUR" = some (.int 4 t)
  c_THREE : ∃ t, mg "THREE" = some (.int 3 t)
  n_abs : mg "abs" = none
  n_all : mg "all" = none
  n_any : mg "any" = none
  n_bool : mg "bool" = none
  n_enumerate : mg "enumerate" = none
  n_int : mg "int" = none
  n_isinstance : mg "isinstance" = none
  n_len : mg "len" = none
  n_list : mg "list" = none
  n_max : mg "max" = none
  n_min : mg "min" = none
  n_range : mg "range" = none
  n_repr : mg "repr" = none
  n_set : mg "set" = none
  n_sorted : mg "sorted" = none
  n_sum : mg "sum" = none
  n_tuple : mg "tuple" = none
  n_zip : mg "zip" = none
abbrev q_law_stands : Str := Str.ofString "_law_stands.<locals>.<lambda>"
abbrev q_law_rows_of : Str := Str.ofString "_law_rows_of.<locals>.<lambda>"
structure Lm [Tbs] {K : PySem.W.Frag} {mg : Str → Option Value} (T : Tx K mg) (base : Heap) : Prop where
  t_law_stands : LamX.TabB base mg T.cc_law_stands T.pp_law_stands
  p_law_stands : (T.pp_law_stands, q_law_stands) ∈ Tbs.T
  u_law_stands : ∀ p ∈ Tbs.T, p.1 = T.pp_law_stands → p.2 = q_law_stands
  t_law_rows_of : LamX.TabB base mg T.cc_law_rows_of T.pp_law_rows_of
  p_law_rows_of : (T.pp_law_rows_of, q_law_rows_of) ∈ Tbs.T
  u_law_rows_of : ∀ p ∈ Tbs.T, p.1 = T.pp_law_rows_of → p.2 = q_law_rows_of
end K15
end
section
namespace K15
open PySem PySem.Spec PyProof.Rows L2 DL
section
variable [Tbs] {P : Program} {w : World} {K : PySem.W.Frag} {mg : Str → Option Value} {base : Heap}
/-! is_integer -/
abbrev st_is_integer : Stmt := topS 5
theorem sc_is_integer : FnScope ["value"] ["value"] (defScope st_is_integer) := ⟨rfl, rfl, rfl, by decide +kernel, rfl, by decide +kernel, by decide +kernel⟩
noncomputable def m_is_integer : S :=
    (sRet (vAnd (mIsi "int" (nm 0)) (vNot (mIsi "bool" (nm 0)))))
noncomputable def f_is_integer : List PyData → Option PyData := runP 1 m_is_integer
theorem ok_is_integer (T : Tx K mg) : FnG P w K mg base 1 T.a_is_integer T.fd_is_integer ["value"] (spP 1 f_is_integer) :=
  gn_pure (N := ["value"]) (m := m_is_integer) T.F_is_integer sc_is_integer fun cdv A outer s H E hr => ⟨_,
    (eb_one (es_ret (ev_and (c_isi (T := "int") T.n_isinstance T.n_int bt_int (ex_var 0)) (ev_one (ev_not (c_isi (T := "bool") T.n_isinstance T.n_bool bt_bool (ex_var 0)))))))⟩
/-! is_between -/
abbrev st_is_between : Stmt := topS 6
theorem sc_is_between : FnScope ["value", "low", "high"] ["value", "low", "high"] (defScope st_is_between) := ⟨rfl, rfl, rfl, by decide +kernel, rfl, by decide +kernel, by decide +kernel⟩
noncomputable def m_is_between : S :=
    (sRet (vAnd (mCall 1 f_is_integer (aCons (val (dat (nm 0))) aNil)) (mChain fLe fLe (nm 1) (nm 0) (nm 2))))
noncomputable def f_is_between : List PyData → Option PyData := runP 3 m_is_between
theorem ok_is_between (T : Tx K mg) : FnG P w K mg base 2 T.a_is_between T.fd_is_between ["value", "low", "high"] (spP 3 f_is_between) :=
  gn_pure (N := ["value", "low", "high"]) (m := m_is_between) T.F_is_between sc_is_between fun cdv A outer s H E hr => ⟨_,
    (eb_one (es_ret (ev_and (ev_callG (ok_is_integer T) (hr.mono (by decide)) rfl T.g_is_integer T.F_is_integer.kp T.b_is_integer (ea_cons (EV.ex (ev_var 0)) ea_nil)) (ev_one (v_lele (ex_var 1) (ex_var 0) (ex_var 2))))))⟩
/-! are_between -/
abbrev st_are_between : Stmt := topS 7
theorem sc_are_between : FnScope ["value", "low", "high", "one"] ["value", "low", "high"] (defScope st_are_between) := ⟨rfl, rfl, rfl, by decide +kernel, rfl, by decide +kernel, by decide +kernel⟩
noncomputable def m_are_between : S :=
    (sRet (vAnd (mIsi "tuple" (nm 0)) (opA fAll (aCons (val (foD (mLc (mSeq (nm 0)) [3] (stN 3) (ret true) (mCall 3 f_is_between (aCons (val (dat (nm 3))) (aCons (val (dat (nm 1))) (aCons (val (dat (nm 2))) aNil))))))) aNil))))
noncomputable def f_are_between : List PyData → Option PyData := runP 4 m_are_between
theorem ok_are_between (T : Tx K mg) : FnG P w K mg base 3 T.a_are_between T.fd_are_between ["value", "low", "high"] (spP 3 f_are_between) :=
  gn_pure (N := ["value", "low", "high", "one"]) (m := m_are_between) T.F_are_between sc_are_between fun cdv A outer s H E hr => ⟨_,
    (eb_one (es_ret (ev_and (c_isi (T := "tuple") T.n_isinstance T.n_tuple bt_tuple (ex_var 0)) (ev_one (c_all rfl T.n_all (ea_cons (EV.ex (EO.ev (eo_lcC (own := [("one", 3)]) rfl sc_are_between.nd (ei_seq (ex_var 0)) (blkOk_by (by kernel_rfl)) (fun _ _ _ _ _ => ⟨_, _, by decide, (eg_name 3 sc_are_between.nd)⟩) (fun _ _ _ _ _ => ⟨_, if_nil⟩) (fun _ _ _ _ _ => ⟨_, (ev_callG (ok_is_between T) (hr.mono (by decide)) rfl T.g_is_between T.F_is_between.kp T.b_is_between (ea_cons (EV.ex (ev_var 3)) (ea_cons (EV.ex (ev_var 1)) (ea_cons (EV.ex (ev_var 2)) ea_nil))))⟩) s))) ea_nil))))))⟩
/-! is_ascending -/
abbrev st_is_ascending : Stmt := topS 8
theorem sc_is_ascending : FnScope ["items", "one", "other"] ["items"] (defScope st_is_ascending) := ⟨rfl, rfl, rfl, by decide +kernel, rfl, by decide +kernel, by decide +kernel⟩
noncomputable def m_is_ascending : S :=
    (sRet (opA fAll (aCons (val (foD (mLc (mZip (aCons (val (dat (nm 0))) (aCons (val (mCut (nm 0) (pYes (ret (.int 1))) pNo)) aNil))) [1, 2] (tgT (tgC (stN 1) (tgC (stN 2) tg0))) (ret true) (op2 fLt (nm 1) (nm 2))))) aNil)))
noncomputable def f_is_ascending : List PyData → Option PyData := runP 3 m_is_ascending
theorem ok_is_ascending (T : Tx K mg) : FnG P w K mg base 1 T.a_is_ascending T.fd_is_ascending ["items"] (spP 1 f_is_ascending) :=
  gn_pure (N := ["items", "one", "other"]) (m := m_is_ascending) T.F_is_ascending sc_is_ascending fun cdv A outer s H E hr => ⟨_,
    (eb_one (es_ret (c_all rfl T.n_all (ea_cons (EV.ex (EO.ev (eo_lcC (own := [("one", 1), ("other", 2)]) rfl sc_is_ascending.nd (ei_zip rfl T.n_zip (ea_cons (EV.ex (ev_var 0)) (ea_cons (EV.ex (ev_cut (ex_var 0) (ep_some ev_int) ep_none)) ea_nil))) (blkOk_by (by kernel_rfl)) (fun _ _ _ _ _ => ⟨_, _, by decide, (eg_tup rfl (egl_cons (eg_name 1 sc_is_ascending.nd) (egl_cons (eg_name 2 sc_is_ascending.nd) egl_nil)))⟩) (fun _ _ _ _ _ => ⟨_, if_nil⟩) (fun _ _ _ _ _ => ⟨_, (v_lt hr.r (ex_var 1) (ex_var 2))⟩) s))) ea_nil))))⟩
/-! is_claim -/
abbrev st_is_claim : Stmt := topS 15
theorem sc_is_claim : FnScope ["value", "corner", "first", "last", "rank"] ["value"] (defScope st_is_claim) := ⟨rfl, rfl, rfl, by decide +kernel, rfl, by decide +kernel, by decide +kernel⟩
noncomputable def m_is_claim : S :=
    (sSeq (sIf (mOr (mNot (tbool (mCall 3 f_are_between (aCons (val (dat (nm 0))) (aCons (val (ret (.int 0))) (aCons (val (ret (.int 12))) aNil)))))) (tbool (op2 fNe (val (opA fLen (aCons (nm 0) aNil))) (val (ret (.int 4)))))) (sRet (ret (.bool false))) sNx)
    (sSeq (sTgt (dat (nm 0)) (tgT (tgC (stN 1) (tgC (stN 2) (tgC (stN 3) (tgC (stN 4) tg0))))))
    (sRet (vAnd (op2 fLt (nm 1) (val (ret (.int 7)))) (vAnd (op2 fLe (nm 2) (nm 3)) (op2 fLe (nm 4) (val (ret (.int 9)))))))))
noncomputable def f_is_claim : List PyData → Option PyData := runP 5 m_is_claim
theorem ok_is_claim (T : Tx K mg) : FnG P w K mg base 4 T.a_is_claim T.fd_is_claim ["value"] (spP 1 f_is_claim) :=
  gn_pure (N := ["value", "corner", "first", "last", "rank"]) (m := m_is_claim) T.F_is_claim sc_is_claim fun cdv A outer s H E hr => ⟨_,
    (eb_cons (es_if (EW.et (ew_or (et_not (et_val (ev_callG (ok_are_between T) (hr.mono (by decide)) rfl T.g_are_between T.F_are_between.kp T.b_are_between (ea_cons (EV.ex (ev_var 0)) (ea_cons (EV.ex ev_int) (ea_cons (EV.ex (ev_globI rfl T.c_MOST_TICKS)) ea_nil)))))) (ew_or1 (t_ne hr.r (EV.ex (c_len T.n_len (ea_cons (ex_var 0) ea_nil))) (EV.ex (ev_globI rfl T.c_FOUR)))))) (eb_one (es_ret ev_bl)) eb_nil)
    (eb_cons (es_tgt (ev_var 0) (eg_tup rfl (egl_cons (eg_name 1 sc_is_claim.nd) (egl_cons (eg_name 2 sc_is_claim.nd) (egl_cons (eg_name 3 sc_is_claim.nd) (egl_cons (eg_name 4 sc_is_claim.nd) egl_nil))))))
    (eb_one (es_ret (ev_and (v_lt hr.r (ex_var 1) (EV.ex (ev_globI rfl T.c_MOST_CORNERS))) (ev_and (v_le (ex_var 2) (ex_var 3)) (ev_one (v_le (ex_var 4) (EV.ex (ev_globI rfl T.c_MOST_RANK))))))))))⟩
/-! are_claims -/
abbrev st_are_claims : Stmt := topS 16
theorem sc_are_claims : FnScope ["value", "claim"] ["value"] (defScope st_are_claims) := ⟨rfl, rfl, rfl, by decide +kernel, rfl, by decide +kernel, by decide +kernel⟩
noncomputable def m_are_claims : S :=
    (sRet (vAnd (mIsi "tuple" (nm 0)) (vAnd (op2 fLe (val (opA fLen (aCons (nm 0) aNil))) (val (ret (.int 8)))) (opA fAll (aCons (val (foD (mLc (mSeq (nm 0)) [1] (stN 1) (ret true) (mCall 1 f_is_claim (aCons (val (dat (nm 1))) aNil))))) aNil)))))
noncomputable def f_are_claims : List PyData → Option PyData := runP 2 m_are_claims
theorem ok_are_claims (T : Tx K mg) : FnG P w K mg base 5 T.a_are_claims T.fd_are_claims ["value"] (spP 1 f_are_claims) :=
  gn_pure (N := ["value", "claim"]) (m := m_are_claims) T.F_are_claims sc_are_claims fun cdv A outer s H E hr => ⟨_,
    (eb_one (es_ret (ev_and (c_isi (T := "tuple") T.n_isinstance T.n_tuple bt_tuple (ex_var 0)) (ev_and (v_le (EV.ex (c_len T.n_len (ea_cons (ex_var 0) ea_nil))) (EV.ex (ev_globI rfl T.c_MOST_CLAIMS))) (ev_one (c_all rfl T.n_all (ea_cons (EV.ex (EO.ev (eo_lcC (own := [("claim", 1)]) rfl sc_are_claims.nd (ei_seq (ex_var 0)) (blkOk_by (by kernel_rfl)) (fun _ _ _ _ _ => ⟨_, _, by decide, (eg_name 1 sc_are_claims.nd)⟩) (fun _ _ _ _ _ => ⟨_, if_nil⟩) (fun _ _ _ _ _ => ⟨_, (ev_callG (ok_is_claim T) (hr.mono (by decide)) rfl T.g_is_claim T.F_is_claim.kp T.b_is_claim (ea_cons (EV.ex (ev_var 1)) ea_nil))⟩) s))) ea_nil)))))))⟩
/-! check_claims -/
abbrev st_check_claims : Stmt := topS 17
theorem sc_check_claims : FnScope ["value"] ["value"] (defScope st_check_claims) := ⟨rfl, rfl, rfl, by decide +kernel, rfl, by decide +kernel, by decide +kernel⟩
noncomputable def m_check_claims : S :=
    (sIf (mNot (tbool (mCall 1 f_are_claims (aCons (val (dat (nm 0))) aNil)))) sNever sNx)
noncomputable def f_check_claims : List PyData → Option PyData := runP 1 m_check_claims
theorem ok_check_claims (T : Tx K mg) : FnG P w K mg base 6 T.a_check_claims T.fd_check_claims ["value"] (spP 1 f_check_claims) :=
  gn_pure (N := ["value"]) (m := m_check_claims) T.F_check_claims sc_check_claims fun cdv A outer s H E hr => ⟨_,
    (eb_one (es_if (et_not (et_val (ev_callG (ok_are_claims T) (hr.mono (by decide)) rfl T.g_are_claims T.F_are_claims.kp T.b_are_claims (ea_cons (EV.ex (ev_var 0)) ea_nil)))) eb_never eb_nil))⟩
/-! check_claim -/
abbrev st_check_claim : Stmt := topS 18
theorem sc_check_claim : FnScope ["claims", "claim"] ["claims", "claim"] (defScope st_check_claim) := ⟨rfl, rfl, rfl, by decide +kernel, rfl, by decide +kernel, by decide +kernel⟩
noncomputable def m_check_claim : S :=
    (sIf (mNot (tbool (mCall 3 f_is_between (aCons (val (dat (nm 1))) (aCons (val (ret (.int 0))) (aCons (val (op2 fSub (val (opA fLen (aCons (nm 0) aNil))) (val (ret (.int 1))))) aNil)))))) sNever sNx)
noncomputable def f_check_claim : List PyData → Option PyData := runP 2 m_check_claim
theorem ok_check_claim (T : Tx K mg) : FnG P w K mg base 3 T.a_check_claim T.fd_check_claim ["claims", "claim"] (spP 2 f_check_claim) :=
  gn_pure (N := ["claims", "claim"]) (m := m_check_claim) T.F_check_claim sc_check_claim fun cdv A outer s H E hr => ⟨_,
    (eb_one (es_if (et_not (et_val (ev_callG (ok_is_between T) (hr.mono (by decide)) rfl T.g_is_between T.F_is_between.kp T.b_is_between (ea_cons (EV.ex (ev_var 1)) (ea_cons (EV.ex ev_int) (ea_cons (EV.ex (v_sub (EV.ex (c_len T.n_len (ea_cons (ex_var 0) ea_nil))) (EV.ex ev_int))) ea_nil)))))) eb_never eb_nil))⟩
/-! meet -/
abbrev st_meet : Stmt := topS 19
theorem sc_meet : FnScope ["one", "other"] ["one", "other"] (defScope st_meet) := ⟨rfl, rfl, rfl, by decide +kernel, rfl, by decide +kernel, by decide +kernel⟩
noncomputable def m_meet : S :=
    (sRet (vAnd (op2 fEq (val (op2 fIx (nm 0) (val (ret (.int 0))))) (val (op2 fIx (nm 1) (val (ret (.int 0)))))) (vAnd (op2 fLe (val (op2 fIx (nm 0) (val (ret (.int 1))))) (val (op2 fIx (nm 1) (val (ret (.int 2)))))) (op2 fLe (val (op2 fIx (nm 1) (val (ret (.int 1))))) (val (op2 fIx (nm 0) (val (ret (.int 2)))))))))
noncomputable def f_meet : List PyData → Option PyData := runP 2 m_meet
theorem ok_meet (T : Tx K mg) : FnG P w K mg base 1 T.a_meet T.fd_meet ["one", "other"] (spP 2 f_meet) :=
  gn_pure (N := ["one", "other"]) (m := m_meet) T.F_meet sc_meet fun cdv A outer s H E hr => ⟨_,
    (eb_one (es_ret (ev_and (v_eq hr.r (EV.ex (ev_ix (ex_var 0) (EV.ex ev_int))) (EV.ex (ev_ix (ex_var 1) (EV.ex ev_int)))) (ev_and (v_le (EV.ex (ev_ix (ex_var 0) (EV.ex ev_int))) (EV.ex (ev_ix (ex_var 1) (EV.ex ev_int)))) (ev_one (v_le (EV.ex (ev_ix (ex_var 1) (EV.ex ev_int))) (EV.ex (ev_ix (ex_var 0) (EV.ex ev_int)))))))))⟩
/-! do_meet -/
abbrev st_do_meet : Stmt := topS 20
theorem sc_do_meet : FnScope ["claims", "one", "other"] ["claims", "one", "other"] (defScope st_do_meet) := ⟨rfl, rfl, rfl, by decide +kernel, rfl, by decide +kernel, by decide +kernel⟩
noncomputable def m_do_meet : S :=
    (sSeq (sDrop (mCall 1 f_check_claims (aCons (val (dat (nm 0))) aNil)))
    (sSeq (sDrop (mCall 2 f_check_claim (aCons (val (dat (nm 0))) (aCons (val (dat (nm 1))) aNil))))
    (sSeq (sDrop (mCall 2 f_check_claim (aCons (val (dat (nm 0))) (aCons (val (dat (nm 2))) aNil))))
    (sRet (mCall 2 f_meet (aCons (val (op2 fIx (nm 0) (nm 1))) (aCons (val (op2 fIx (nm 0) (nm 2))) aNil)))))))
noncomputable def f_do_meet : List PyData → Option PyData := runP 3 m_do_meet
theorem ok_do_meet (T : Tx K mg) : FnG P w K mg base 7 T.a_do_meet T.fd_do_meet ["claims", "one", "other"] (spP 3 f_do_meet) :=
  gn_pure (N := ["claims", "one", "other"]) (m := m_do_meet) T.F_do_meet sc_do_meet fun cdv A outer s H E hr => ⟨_,
    (eb_cons (es_expr (ev_callG (ok_check_claims T) (hr.mono (by decide)) rfl T.g_check_claims T.F_check_claims.kp T.b_check_claims (ea_cons (EV.ex (ev_var 0)) ea_nil)))
    (eb_cons (es_expr (ev_callG (ok_check_claim T) (hr.mono (by decide)) rfl T.g_check_claim T.F_check_claim.kp T.b_check_claim (ea_cons (EV.ex (ev_var 0)) (ea_cons (EV.ex (ev_var 1)) ea_nil))))
    (eb_cons (es_expr (ev_callG (ok_check_claim T) (hr.mono (by decide)) rfl T.g_check_claim T.F_check_claim.kp T.b_check_claim (ea_cons (EV.ex (ev_var 0)) (ea_cons (EV.ex (ev_var 2)) ea_nil))))
    (eb_one (es_ret (ev_callG (ok_meet T) (hr.mono (by decide)) rfl T.g_meet T.F_meet.kp T.b_meet (ea_cons (EV.ex (ev_ix (ex_var 0) (ex_var 1))) (ea_cons (EV.ex (ev_ix (ex_var 0) (ex_var 2))) ea_nil))))))))⟩
/-! by_rank -/
abbrev st_by_rank : Stmt := topS 21
theorem sc_by_rank : FnScope ["claims", "rank", "place", "claim"] ["claims"] (defScope st_by_rank) := ⟨rfl, rfl, rfl, by decide +kernel, rfl, by decide +kernel, by decide +kernel⟩
noncomputable def m_by_rank : S :=
    (sRet (foD (mLc (mSeq (val (foD (opA fSorted (aCons (val (foD (mLc (mEnum (aCons (val (dat (nm 0))) aNil)) [2, 3] (tgT (tgC (stN 2) (tgC (stN 3) tg0))) (ret true) (mTup (aCons (val (op2 fIx (nm 3) (val (op1 fNeg (val (ret (.int 1))))))) (aCons (val (dat (nm 2))) aNil)))))) aNil))))) [1, 2] (tgT (tgC (stN 1) (tgC (stN 2) tg0))) (ret true) (dat (nm 2)))))
noncomputable def f_by_rank : List PyData → Option PyData := runP 4 m_by_rank
theorem ok_by_rank (T : Tx K mg) : FnG P w K mg base 1 T.a_by_rank T.fd_by_rank ["claims"] (spP 1 f_by_rank) :=
  gn_pure (N := ["claims", "rank", "place", "claim"]) (m := m_by_rank) T.F_by_rank sc_by_rank fun cdv A outer s H E hr => ⟨_,
    (eb_one (es_ret (EO.ev (eo_lcC (own := [("rank", 1), ("place", 2)]) rfl sc_by_rank.nd (ei_seq (EV.ex (EO.ev (o_sorted hr.r T.n_sorted (ea_cons (EV.ex (EO.ev (eo_lcC (own := [("place", 2), ("claim", 3)]) rfl sc_by_rank.nd (ei_enum rfl T.n_enumerate (ea_cons (EV.ex (ev_var 0)) ea_nil)) (blkOk_by (by kernel_rfl)) (fun _ _ _ _ _ => ⟨_, _, by decide, (eg_tup rfl (egl_cons (eg_name 2 sc_by_rank.nd) (egl_cons (eg_name 3 sc_by_rank.nd) egl_nil)))⟩) (fun _ _ _ _ _ => ⟨_, if_nil⟩) (fun _ _ _ _ _ => ⟨_, (ev_tup (ea_cons (EV.ex (ev_ix (ex_var 3) (EV.ex (ev_neg (EV.ex ev_int))))) (ea_cons (EV.ex (ev_var 2)) ea_nil)))⟩) s))) ea_nil))))) (blkOk_by (by kernel_rfl)) (fun _ _ _ _ _ => ⟨_, _, by decide, (eg_tup rfl (egl_cons (eg_name 1 sc_by_rank.nd) (egl_cons (eg_name 2 sc_by_rank.nd) egl_nil)))⟩) (fun _ _ _ _ _ => ⟨_, if_nil⟩) (fun _ _ _ _ _ => ⟨_, (ev_var 2)⟩) s))))⟩
/-! granted_of -/
abbrev st_granted_of : Stmt := topS 22
theorem sc_granted_of : FnScope ["claims", "found", "place", "other"] ["claims"] (defScope st_granted_of) := ⟨rfl, rfl, rfl, by decide +kernel, rfl, by decide +kernel, by decide +kernel⟩
noncomputable def m_granted_of : S :=
    (sSeq (sSet 1 (rvO (mLst aNil)))
    (sSeq (sFor (mSeq (val (mCall 1 f_by_rank (aCons (val (dat (nm 0))) aNil)))) (stN 2) (sIf (mNot (tbool (opA fAny (aCons (val (foD (mLc (mSeq (nm 1)) [3] (stN 3) (ret true) (mCall 2 f_meet (aCons (val (op2 fIx (nm 0) (nm 2))) (aCons (val (op2 fIx (nm 0) (nm 3))) aNil)))))) aNil)))) (sDrop (mMt fAppend (nm 1) (aCons (val (dat (nm 2))) aNil))) sNx))
    (sRet (dat (nm 1)))))
noncomputable def f_granted_of : List PyData → Option PyData := runP 4 m_granted_of
theorem ok_granted_of (T : Tx K mg) : FnG P w K mg base 2 T.a_granted_of T.fd_granted_of ["claims"] (spP 1 f_granted_of) :=
  gn_pure (N := ["claims", "found", "place", "other"]) (m := m_granted_of) T.F_granted_of sc_granted_of fun cdv A outer s H E hr => ⟨_,
    (eb_cons (es_set 1 sc_granted_of.nd (EO.er (eo_lst ea_nil)))
    (eb_cons (es_for PassesOwn.never rfl (ei_seq (EV.ex (ev_callG (ok_by_rank T) (hr.mono (by decide)) rfl T.g_by_rank T.F_by_rank.kp T.b_by_rank (ea_cons (EV.ex (ev_var 0)) ea_nil)))) (eg_name 2 sc_granted_of.nd) (eb_one (es_if (et_not (et_val (c_any rfl T.n_any (ea_cons (EV.ex (EO.ev (eo_lcC (own := [("other", 3)]) rfl sc_granted_of.nd (ei_seq (ex_var 1)) (blkOk_by (by kernel_rfl)) (fun _ _ _ _ _ => ⟨_, _, by decide, (eg_name 3 sc_granted_of.nd)⟩) (fun _ _ _ _ _ => ⟨_, if_nil⟩) (fun _ _ _ _ _ => ⟨_, (ev_callG (ok_meet T) (hr.mono (by decide)) rfl T.g_meet T.F_meet.kp T.b_meet (ea_cons (EV.ex (ev_ix (ex_var 0) (ex_var 2))) (ea_cons (EV.ex (ev_ix (ex_var 0) (ex_var 3))) ea_nil)))⟩) s))) ea_nil)))) (eb_one (es_expr (m_append (ex_var 1) (ea_cons (EV.ex (ev_var 2)) ea_nil)))) eb_nil)))
    (eb_one (es_ret (ev_var 1)))))⟩
/-! granted -/
abbrev st_granted : Stmt := topS 23
theorem sc_granted : FnScope ["claims"] ["claims"] (defScope st_granted) := ⟨rfl, rfl, rfl, by decide +kernel, rfl, by decide +kernel, by decide +kernel⟩
noncomputable def m_granted : S :=
    (sSeq (sDrop (mCall 1 f_check_claims (aCons (val (dat (nm 0))) aNil)))
    (sRet (opA fTuple (aCons (val (foD (opA fSorted (aCons (val (mCall 1 f_granted_of (aCons (val (dat (nm 0))) aNil))) aNil)))) aNil))))
noncomputable def f_granted : List PyData → Option PyData := runP 1 m_granted
theorem ok_granted (T : Tx K mg) : FnG P w K mg base 7 T.a_granted T.fd_granted ["claims"] (spP 1 f_granted) :=
  gn_pure (N := ["claims"]) (m := m_granted) T.F_granted sc_granted fun cdv A outer s H E hr => ⟨_,
    (eb_cons (es_expr (ev_callG (ok_check_claims T) (hr.mono (by decide)) rfl T.g_check_claims T.F_check_claims.kp T.b_check_claims (ea_cons (EV.ex (ev_var 0)) ea_nil)))
    (eb_one (es_ret (c_tuple T.n_tuple (ea_cons (EV.ex (EO.ev (o_sorted hr.r T.n_sorted (ea_cons (EV.ex (ev_callG (ok_granted_of T) (hr.mono (by decide)) rfl T.g_granted_of T.F_granted_of.kp T.b_granted_of (ea_cons (EV.ex (ev_var 0)) ea_nil))) ea_nil)))) ea_nil)))))⟩
/-! barred_by -/
abbrev st_barred_by : Stmt := topS 24
theorem sc_barred_by : FnScope ["claims", "claim", "found", "place"] ["claims", "claim"] (defScope st_barred_by) := ⟨rfl, rfl, rfl, by decide +kernel, rfl, by decide +kernel, by decide +kernel⟩
noncomputable def m_barred_by : S :=
    (sSeq (sDrop (mCall 1 f_check_claims (aCons (val (dat (nm 0))) aNil)))
    (sSeq (sDrop (mCall 2 f_check_claim (aCons (val (dat (nm 0))) (aCons (val (dat (nm 1))) aNil))))
    (sSeq (sSet 2 (rvD (mCall 1 f_granted_of (aCons (val (dat (nm 0))) aNil))))
    (sSeq (sIf (tbool (op2 fIn (nm 1) (nm 2))) (sRet (ret .none)) sNx)
    (sRet (op2 fIx (val (foD (mLc (mSeq (nm 2)) [3] (stN 3) (tbool (mCall 2 f_meet (aCons (val (op2 fIx (nm 0) (nm 3))) (aCons (val (op2 fIx (nm 0) (nm 1))) aNil)))) (dat (nm 3))))) (val (ret (.int 0)))))))))
noncomputable def f_barred_by : List PyData → Option PyData := runP 4 m_barred_by
theorem ok_barred_by (T : Tx K mg) : FnG P w K mg base 7 T.a_barred_by T.fd_barred_by ["claims", "claim"] (spP 2 f_barred_by) :=
  gn_pure (N := ["claims", "claim", "found", "place"]) (m := m_barred_by) T.F_barred_by sc_barred_by fun cdv A outer s H E hr => ⟨_,
    (eb_cons (es_expr (ev_callG (ok_check_claims T) (hr.mono (by decide)) rfl T.g_check_claims T.F_check_claims.kp T.b_check_claims (ea_cons (EV.ex (ev_var 0)) ea_nil)))
    (eb_cons (es_expr (ev_callG (ok_check_claim T) (hr.mono (by decide)) rfl T.g_check_claim T.F_check_claim.kp T.b_check_claim (ea_cons (EV.ex (ev_var 0)) (ea_cons (EV.ex (ev_var 1)) ea_nil))))
    (eb_cons (es_set 2 sc_barred_by.nd (EV.er (ev_callG (ok_granted_of T) (hr.mono (by decide)) rfl T.g_granted_of T.F_granted_of.kp T.b_granted_of (ea_cons (EV.ex (ev_var 0)) ea_nil))))
    (eb_cons (es_if (t_in (ex_var 1) (ex_var 2)) (eb_one (es_ret ev_non)) eb_nil)
    (eb_one (es_ret (ev_ix (EV.ex (EO.ev (eo_lcC (own := [("place", 3)]) rfl sc_barred_by.nd (ei_seq (ex_var 2)) (blkOk_by (by kernel_rfl)) (fun _ _ _ _ _ => ⟨_, _, by decide, (eg_name 3 sc_barred_by.nd)⟩) (fun _ _ _ _ _ => ⟨_, (if_one (et_val (ev_callG (ok_meet T) (hr.mono (by decide)) rfl T.g_meet T.F_meet.kp T.b_meet (ea_cons (EV.ex (ev_ix (ex_var 0) (ex_var 3))) (ea_cons (EV.ex (ev_ix (ex_var 0) (ex_var 1))) ea_nil)))))⟩) (fun _ _ _ _ _ => ⟨_, (ev_var 3)⟩) s))) (EV.ex ev_int))))))))⟩
end
end K15
end
section
namespace K15
open PySem PySem.Spec PyProof.Rows L2 DL
section
variable [Tbs] {P : Program} {w : World} {K : PySem.W.Frag} {mg : Str → Option Value} {base : Heap}
/-! holds -/
abbrev st_holds : Stmt := topS 27
theorem sc_holds : FnScope ["pin", "claim"] ["pin", "claim"] (defScope st_holds) := ⟨rfl, rfl, rfl, by decide +kernel, rfl, by decide +kernel, by decide +kernel⟩
noncomputable def m_holds : S :=
    (sRet (vAnd (op2 fEq (val (op2 fIx (nm 0) (val (ret (.int 0))))) (val (op2 fIx (nm 1) (val (ret (.int 0)))))) (mChain fLe fLe (val (op2 fIx (nm 1) (val (ret (.int 1))))) (val (op2 fIx (nm 0) (val (ret (.int 1))))) (val (op2 fIx (nm 1) (val (ret (.int 2))))))))
noncomputable def f_holds : List PyData → Option PyData := runP 2 m_holds
theorem ok_holds (T : Tx K mg) : FnG P w K mg base 1 T.a_holds T.fd_holds ["pin", "claim"] (spP 2 f_holds) :=
  gn_pure (N := ["pin", "claim"]) (m := m_holds) T.F_holds sc_holds fun cdv A outer s H E hr => ⟨_,
    (eb_one (es_ret (ev_and (v_eq hr.r (EV.ex (ev_ix (ex_var 0) (EV.ex ev_int))) (EV.ex (ev_ix (ex_var 1) (EV.ex ev_int)))) (ev_one (v_lele (EV.ex (ev_ix (ex_var 1) (EV.ex ev_int))) (EV.ex (ev_ix (ex_var 0) (EV.ex ev_int))) (EV.ex (ev_ix (ex_var 1) (EV.ex ev_int))))))))⟩
/-! are_pins -/
abbrev st_are_pins : Stmt := topS 28
theorem sc_are_pins : FnScope ["value", "pin"] ["value"] (defScope st_are_pins) := ⟨rfl, rfl, rfl, by decide +kernel, rfl, by decide +kernel, by decide +kernel⟩
noncomputable def m_are_pins : S :=
    (sSeq (sIf (mOr (mNot (tbool (mIsi "tuple" (nm 0)))) (mNot (tbool (opA fAll (aCons (val (foD (mLc (mSeq (nm 0)) [1] (stN 1) (ret true) (vAnd (mCall 3 f_are_between (aCons (val (dat (nm 1))) (aCons (val (ret (.int 0))) (aCons (val (ret (.int 12))) aNil)))) (op2 fEq (val (opA fLen (aCons (nm 1) aNil))) (val (ret (.int 2)))))))) aNil))))) (sRet (ret (.bool false))) sNx)
    (sRet (vAnd (opA fAll (aCons (val (foD (mLc (mSeq (nm 0)) [1] (stN 1) (ret true) (op2 fLt (val (op2 fIx (nm 1) (val (ret (.int 0))))) (val (ret (.int 7))))))) aNil)) (mCall 1 f_is_ascending (aCons (val (dat (nm 0))) aNil)))))
noncomputable def f_are_pins : List PyData → Option PyData := runP 2 m_are_pins
theorem ok_are_pins (T : Tx K mg) : FnG P w K mg base 4 T.a_are_pins T.fd_are_pins ["value"] (spP 1 f_are_pins) :=
  gn_pure (N := ["value", "pin"]) (m := m_are_pins) T.F_are_pins sc_are_pins fun cdv A outer s H E hr => ⟨_,
    (eb_cons (es_if (EW.et (ew_or (et_not (et_val (c_isi (T := "tuple") T.n_isinstance T.n_tuple bt_tuple (ex_var 0)))) (ew_or1 (et_not (et_val (c_all rfl T.n_all (ea_cons (EV.ex (EO.ev (eo_lcC (own := [("pin", 1)]) rfl sc_are_pins.nd (ei_seq (ex_var 0)) (blkOk_by (by kernel_rfl)) (fun _ _ _ _ _ => ⟨_, _, by decide, (eg_name 1 sc_are_pins.nd)⟩) (fun _ _ _ _ _ => ⟨_, if_nil⟩) (fun _ _ _ _ _ => ⟨_, (ev_and (ev_callG (ok_are_between T) (hr.mono (by decide)) rfl T.g_are_between T.F_are_between.kp T.b_are_between (ea_cons (EV.ex (ev_var 1)) (ea_cons (EV.ex ev_int) (ea_cons (EV.ex (ev_globI rfl T.c_MOST_TICKS)) ea_nil)))) (ev_one (v_eq hr.r (EV.ex (c_len T.n_len (ea_cons (ex_var 1) ea_nil))) (EV.ex ev_int))))⟩) s))) ea_nil))))))) (eb_one (es_ret ev_bl)) eb_nil)
    (eb_one (es_ret (ev_and (c_all rfl T.n_all (ea_cons (EV.ex (EO.ev (eo_lcC (own := [("pin", 1)]) rfl sc_are_pins.nd (ei_seq (ex_var 0)) (blkOk_by (by kernel_rfl)) (fun _ _ _ _ _ => ⟨_, _, by decide, (eg_name 1 sc_are_pins.nd)⟩) (fun _ _ _ _ _ => ⟨_, if_nil⟩) (fun _ _ _ _ _ => ⟨_, (v_lt hr.r (EV.ex (ev_ix (ex_var 1) (EV.ex ev_int))) (EV.ex (ev_globI rfl T.c_MOST_CORNERS)))⟩) s))) ea_nil)) (ev_one (ev_callG (ok_is_ascending T) (hr.mono (by decide)) rfl T.g_is_ascending T.F_is_ascending.kp T.b_is_ascending (ea_cons (EV.ex (ev_var 0)) ea_nil)))))))⟩
/-! is_lot_of -/
abbrev st_is_lot_of : Stmt := topS 29
theorem sc_is_lot_of : FnScope ["claims", "value"] ["claims", "value"] (defScope st_is_lot_of) := ⟨rfl, rfl, rfl, by decide +kernel, rfl, by decide +kernel, by decide +kernel⟩
noncomputable def m_is_lot_of : S :=
    (sRet (vAnd (mCall 3 f_are_between (aCons (val (dat (nm 1))) (aCons (val (ret (.int 0))) (aCons (val (op2 fSub (val (opA fLen (aCons (nm 0) aNil))) (val (ret (.int 1))))) aNil)))) (mCall 1 f_is_ascending (aCons (val (dat (nm 1))) aNil))))
noncomputable def f_is_lot_of : List PyData → Option PyData := runP 2 m_is_lot_of
theorem ok_is_lot_of (T : Tx K mg) : FnG P w K mg base 4 T.a_is_lot_of T.fd_is_lot_of ["claims", "value"] (spP 2 f_is_lot_of) :=
  gn_pure (N := ["claims", "value"]) (m := m_is_lot_of) T.F_is_lot_of sc_is_lot_of fun cdv A outer s H E hr => ⟨_,
    (eb_one (es_ret (ev_and (ev_callG (ok_are_between T) (hr.mono (by decide)) rfl T.g_are_between T.F_are_between.kp T.b_are_between (ea_cons (EV.ex (ev_var 1)) (ea_cons (EV.ex ev_int) (ea_cons (EV.ex (v_sub (EV.ex (c_len T.n_len (ea_cons (ex_var 0) ea_nil))) (EV.ex ev_int))) ea_nil)))) (ev_one (ev_callG (ok_is_ascending T) (hr.mono (by decide)) rfl T.g_is_ascending T.F_is_ascending.kp T.b_is_ascending (ea_cons (EV.ex (ev_var 1)) ea_nil))))))⟩
/-! most_of -/
abbrev st_most_of : Stmt := topS 30
theorem sc_most_of : FnScope ["claims", "lot", "pins", "last", "place", "claim", "other"] ["claims"] (defScope st_most_of) := ⟨rfl, rfl, rfl, by decide +kernel, rfl, by decide +kernel, by decide +kernel⟩
noncomputable def m_most_of : S :=
    (sSeq (sPar 1 2 (rvO (mLst aNil)) (rvO (mLst aNil)))
    (sSeq (sFor (mSeq (val (foD (opA fSorted (aCons (val (foD (mLc (mEnum (aCons (val (dat (nm 0))) aNil)) [4, 5] (tgT (tgC (stN 4) (tgC (stN 5) tg0))) (ret true) (mTup (aCons (val (op2 fIx (nm 5) (val (ret (.int 2))))) (aCons (val (dat (nm 4))) aNil)))))) aNil))))) (tgT (tgC (stN 3) (tgC (stN 4) tg0))) (sIf (mNot (tbool (opA fAny (aCons (val (foD (mLc (mSeq (nm 1)) [6] (stN 6) (ret true) (mCall 2 f_meet (aCons (val (op2 fIx (nm 0) (nm 4))) (aCons (val (op2 fIx (nm 0) (nm 6))) aNil)))))) aNil)))) (sSeq (sDrop (mMt fAppend (nm 1) (aCons (val (dat (nm 4))) aNil)))
    (sDrop (mMt fAppend (nm 2) (aCons (val (mTup (aCons (val (op2 fIx (val (op2 fIx (nm 0) (nm 4))) (val (ret (.int 0))))) (aCons (val (dat (nm 3))) aNil)))) aNil)))) sNx))
    (sRet (mTup (aCons (val (opA fLen (aCons (nm 1) aNil))) (aCons (val (opA fTuple (aCons (val (foD (opA fSorted (aCons (nm 1) aNil)))) aNil))) (aCons (val (opA fTuple (aCons (val (foD (opA fSorted (aCons (nm 2) aNil)))) aNil))) aNil)))))))
noncomputable def f_most_of : List PyData → Option PyData := runP 7 m_most_of
theorem ok_most_of (T : Tx K mg) : FnG P w K mg base 2 T.a_most_of T.fd_most_of ["claims"] (spP 1 f_most_of) :=
  gn_pure (N := ["claims", "lot", "pins", "last", "place", "claim", "other"]) (m := m_most_of) T.F_most_of sc_most_of fun cdv A outer s H E hr => ⟨_,
    (eb_cons (es_par 1 2 rfl sc_most_of.nd (EO.er (eo_lst ea_nil)) (EO.er (eo_lst ea_nil)))
    (eb_cons (es_for PassesOwn.never rfl (ei_seq (EV.ex (EO.ev (o_sorted hr.r T.n_sorted (ea_cons (EV.ex (EO.ev (eo_lcC (own := [("place", 4), ("claim", 5)]) rfl sc_most_of.nd (ei_enum rfl T.n_enumerate (ea_cons (EV.ex (ev_var 0)) ea_nil)) (blkOk_by (by kernel_rfl)) (fun _ _ _ _ _ => ⟨_, _, by decide, (eg_tup rfl (egl_cons (eg_name 4 sc_most_of.nd) (egl_cons (eg_name 5 sc_most_of.nd) egl_nil)))⟩) (fun _ _ _ _ _ => ⟨_, if_nil⟩) (fun _ _ _ _ _ => ⟨_, (ev_tup (ea_cons (EV.ex (ev_ix (ex_var 5) (EV.ex ev_int))) (ea_cons (EV.ex (ev_var 4)) ea_nil)))⟩) s))) ea_nil))))) (eg_tup rfl (egl_cons (eg_name 3 sc_most_of.nd) (egl_cons (eg_name 4 sc_most_of.nd) egl_nil))) (eb_one (es_if (et_not (et_val (c_any rfl T.n_any (ea_cons (EV.ex (EO.ev (eo_lcC (own := [("other", 6)]) rfl sc_most_of.nd (ei_seq (ex_var 1)) (blkOk_by (by kernel_rfl)) (fun _ _ _ _ _ => ⟨_, _, by decide, (eg_name 6 sc_most_of.nd)⟩) (fun _ _ _ _ _ => ⟨_, if_nil⟩) (fun _ _ _ _ _ => ⟨_, (ev_callG (ok_meet T) (hr.mono (by decide)) rfl T.g_meet T.F_meet.kp T.b_meet (ea_cons (EV.ex (ev_ix (ex_var 0) (ex_var 4))) (ea_cons (EV.ex (ev_ix (ex_var 0) (ex_var 6))) ea_nil)))⟩) s))) ea_nil)))) (eb_cons (es_expr (m_append (ex_var 1) (ea_cons (EV.ex (ev_var 4)) ea_nil)))
    (eb_one (es_expr (m_append (ex_var 2) (ea_cons (EV.ex (ev_tup (ea_cons (EV.ex (ev_ix (EV.ex (ev_ix (ex_var 0) (ex_var 4))) (EV.ex ev_int))) (ea_cons (EV.ex (ev_var 3)) ea_nil)))) ea_nil))))) eb_nil)))
    (eb_one (es_ret (ev_tup (ea_cons (EV.ex (c_len T.n_len (ea_cons (ex_var 1) ea_nil))) (ea_cons (EV.ex (c_tuple T.n_tuple (ea_cons (EV.ex (EO.ev (o_sorted hr.r T.n_sorted (ea_cons (ex_var 1) ea_nil)))) ea_nil))) (ea_cons (EV.ex (c_tuple T.n_tuple (ea_cons (EV.ex (EO.ev (o_sorted hr.r T.n_sorted (ea_cons (ex_var 2) ea_nil)))) ea_nil))) ea_nil))))))))⟩
/-! most_stands -/
abbrev st_most_stands : Stmt := topS 31
theorem sc_most_stands : FnScope ["claims"] ["claims"] (defScope st_most_stands) := ⟨rfl, rfl, rfl, by decide +kernel, rfl, by decide +kernel, by decide +kernel⟩
noncomputable def m_most_stands : S :=
    (sSeq (sDrop (mCall 1 f_check_claims (aCons (val (dat (nm 0))) aNil)))
    (sRet (mCall 1 f_most_of (aCons (val (dat (nm 0))) aNil))))
noncomputable def f_most_stands : List PyData → Option PyData := runP 1 m_most_stands
theorem ok_most_stands (T : Tx K mg) : FnG P w K mg base 7 T.a_most_stands T.fd_most_stands ["claims"] (spP 1 f_most_stands) :=
  gn_pure (N := ["claims"]) (m := m_most_stands) T.F_most_stands sc_most_stands fun cdv A outer s H E hr => ⟨_,
    (eb_cons (es_expr (ev_callG (ok_check_claims T) (hr.mono (by decide)) rfl T.g_check_claims T.F_check_claims.kp T.b_check_claims (ea_cons (EV.ex (ev_var 0)) ea_nil)))
    (eb_one (es_ret (ev_callG (ok_most_of T) (hr.mono (by decide)) rfl T.g_most_of T.F_most_of.kp T.b_most_of (ea_cons (EV.ex (ev_var 0)) ea_nil)))))⟩
/-! shows_most_stands -/
abbrev st_shows_most_stands : Stmt := topS 32
theorem sc_shows_most_stands : FnScope ["claims", "value", "number", "lot", "pins", "at", "place", "other", "pin", "claim"] ["claims", "value"] (defScope st_shows_most_stands) := ⟨rfl, rfl, rfl, by decide +kernel, rfl, by decide +kernel, by decide +kernel⟩
noncomputable def m_shows_most_stands : S :=
    (sSeq (sDrop (mCall 1 f_check_claims (aCons (val (dat (nm 0))) aNil)))
    (sSeq (sIf (mOr (mNot (tbool (mIsi "tuple" (nm 1)))) (mOr (tbool (op2 fNe (val (opA fLen (aCons (nm 1) aNil))) (val (ret (.int 3))))) (mOr (mNot (tbool (mCall 2 f_is_lot_of (aCons (val (dat (nm 0))) (aCons (val (op2 fIx (nm 1) (val (ret (.int 1))))) aNil))))) (mNot (tbool (mCall 1 f_are_pins (aCons (val (op2 fIx (nm 1) (val (ret (.int 2))))) aNil))))))) (sRet (ret (.bool false))) sNx)
    (sSeq (sTgt (dat (nm 1)) (tgT (tgC (stN 2) (tgC (stN 3) (tgC (stN 4) tg0)))))
    (sSeq (sIf (mOr (mNot (tbool (mCall 3 f_is_between (aCons (val (dat (nm 2))) (aCons (val (opA fLen (aCons (nm 3) aNil))) (aCons (val (opA fLen (aCons (nm 3) aNil))) aNil)))))) (tbool (op2 fNe (val (opA fLen (aCons (nm 4) aNil))) (val (opA fLen (aCons (nm 3) aNil)))))) (sRet (ret (.bool false))) sNx)
    (sSeq (sFor (mEnum (aCons (val (dat (nm 3))) aNil)) (tgT (tgC (stN 5) (tgC (stN 6) tg0))) (sIf (tbool (opA fAny (aCons (val (foD (mLc (mSeq (val (mCut (nm 3) (pYes (op2 fAdd (nm 5) (val (ret (.int 1))))) pNo))) [7] (stN 7) (ret true) (mCall 2 f_meet (aCons (val (op2 fIx (nm 0) (nm 6))) (aCons (val (op2 fIx (nm 0) (nm 7))) aNil)))))) aNil))) (sRet (ret (.bool false))) sNx))
    (sRet (opA fAll (aCons (val (foD (mLc (mSeq (nm 0)) [9] (stN 9) (ret true) (opA fAny (aCons (val (foD (mLc (mSeq (nm 4)) [8] (stN 8) (ret true) (mCall 2 f_holds (aCons (val (dat (nm 8))) (aCons (val (dat (nm 9))) aNil)))))) aNil))))) aNil))))))))
noncomputable def f_shows_most_stands : List PyData → Option PyData := runP 10 m_shows_most_stands
theorem ok_shows_most_stands (T : Tx K mg) : FnG P w K mg base 7 T.a_shows_most_stands T.fd_shows_most_stands ["claims", "value"] (spP 2 f_shows_most_stands) :=
  gn_pure (N := ["claims", "value", "number", "lot", "pins", "at", "place", "other", "pin", "claim"]) (m := m_shows_most_stands) T.F_shows_most_stands sc_shows_most_stands fun cdv A outer s H E hr => ⟨_,
    (eb_cons (es_expr (ev_callG (ok_check_claims T) (hr.mono (by decide)) rfl T.g_check_claims T.F_check_claims.kp T.b_check_claims (ea_cons (EV.ex (ev_var 0)) ea_nil)))
    (eb_cons (es_if (EW.et (ew_or (et_not (et_val (c_isi (T := "tuple") T.n_isinstance T.n_tuple bt_tuple (ex_var 1)))) (ew_or (t_ne hr.r (EV.ex (c_len T.n_len (ea_cons (ex_var 1) ea_nil))) (EV.ex (ev_globI rfl T.c_THREE))) (ew_or (et_not (et_val (ev_callG (ok_is_lot_of T) (hr.mono (by decide)) rfl T.g_is_lot_of T.F_is_lot_of.kp T.b_is_lot_of (ea_cons (EV.ex (ev_var 0)) (ea_cons (EV.ex (ev_ix (ex_var 1) (EV.ex ev_int))) ea_nil))))) (ew_or1 (et_not (et_val (ev_callG (ok_are_pins T) (hr.mono (by decide)) rfl T.g_are_pins T.F_are_pins.kp T.b_are_pins (ea_cons (EV.ex (ev_ix (ex_var 1) (EV.ex ev_int))) ea_nil))))))))) (eb_one (es_ret ev_bl)) eb_nil)
    (eb_cons (es_tgt (ev_var 1) (eg_tup rfl (egl_cons (eg_name 2 sc_shows_most_stands.nd) (egl_cons (eg_name 3 sc_shows_most_stands.nd) (egl_cons (eg_name 4 sc_shows_most_stands.nd) egl_nil)))))
    (eb_cons (es_if (EW.et (ew_or (et_not (et_val (ev_callG (ok_is_between T) (hr.mono (by decide)) rfl T.g_is_between T.F_is_between.kp T.b_is_between (ea_cons (EV.ex (ev_var 2)) (ea_cons (EV.ex (c_len T.n_len (ea_cons (ex_var 3) ea_nil))) (ea_cons (EV.ex (c_len T.n_len (ea_cons (ex_var 3) ea_nil))) ea_nil)))))) (ew_or1 (t_ne hr.r (EV.ex (c_len T.n_len (ea_cons (ex_var 4) ea_nil))) (EV.ex (c_len T.n_len (ea_cons (ex_var 3) ea_nil))))))) (eb_one (es_ret ev_bl)) eb_nil)
    (eb_cons (es_for PassesOwn.never rfl (ei_enum rfl T.n_enumerate (ea_cons (EV.ex (ev_var 3)) ea_nil)) (eg_tup rfl (egl_cons (eg_name 5 sc_shows_most_stands.nd) (egl_cons (eg_name 6 sc_shows_most_stands.nd) egl_nil))) (eb_one (es_if (et_val (c_any rfl T.n_any (ea_cons (EV.ex (EO.ev (eo_lcC (own := [("other", 7)]) rfl sc_shows_most_stands.nd (ei_seq (EV.ex (ev_cut (ex_var 3) (ep_some (v_add (ex_var 5) (EV.ex ev_int))) ep_none))) (blkOk_by (by kernel_rfl)) (fun _ _ _ _ _ => ⟨_, _, by decide, (eg_name 7 sc_shows_most_stands.nd)⟩) (fun _ _ _ _ _ => ⟨_, if_nil⟩) (fun _ _ _ _ _ => ⟨_, (ev_callG (ok_meet T) (hr.mono (by decide)) rfl T.g_meet T.F_meet.kp T.b_meet (ea_cons (EV.ex (ev_ix (ex_var 0) (ex_var 6))) (ea_cons (EV.ex (ev_ix (ex_var 0) (ex_var 7))) ea_nil)))⟩) s))) ea_nil))) (eb_one (es_ret ev_bl)) eb_nil)))
    (eb_one (es_ret (c_all rfl T.n_all (ea_cons (EV.ex (EO.ev (eo_lcC (own := [("claim", 9)]) rfl sc_shows_most_stands.nd (ei_seq (ex_var 0)) (blkOk_by (by kernel_rfl)) (fun _ _ _ _ _ => ⟨_, _, by decide, (eg_name 9 sc_shows_most_stands.nd)⟩) (fun _ _ _ _ _ => ⟨_, if_nil⟩) (fun _ _ _ _ _ => ⟨_, (c_any rfl T.n_any (ea_cons (EV.ex (EO.ev (eo_lcC (own := [("pin", 8)]) rfl sc_shows_most_stands.nd (ei_seq (ex_var 4)) (blkOk_by (by kernel_rfl)) (fun _ _ _ _ _ => ⟨_, _, by decide, (eg_name 8 sc_shows_most_stands.nd)⟩) (fun _ _ _ _ _ => ⟨_, if_nil⟩) (fun _ _ _ _ _ => ⟨_, (ev_callG (ok_holds T) (hr.mono (by decide)) rfl T.g_holds T.F_holds.kp T.b_holds (ea_cons (EV.ex (ev_var 8)) (ea_cons (EV.ex (ev_var 9)) ea_nil)))⟩) s))) ea_nil))⟩) s))) ea_nil)))))))))⟩
/-! held_by -/
abbrev st_held_by : Stmt := topS 33
theorem sc_held_by : FnScope ["claims", "pin", "place", "claim"] ["claims", "pin"] (defScope st_held_by) := ⟨rfl, rfl, rfl, by decide +kernel, rfl, by decide +kernel, by decide +kernel⟩
noncomputable def m_held_by : S :=
    (sRet (opA fTuple (aCons (val (foD (mLc (mEnum (aCons (val (dat (nm 0))) aNil)) [2, 3] (tgT (tgC (stN 2) (tgC (stN 3) tg0))) (tbool (mCall 2 f_holds (aCons (val (dat (nm 1))) (aCons (val (dat (nm 3))) aNil)))) (dat (nm 2))))) aNil)))
noncomputable def f_held_by : List PyData → Option PyData := runP 4 m_held_by
theorem ok_held_by (T : Tx K mg) : FnG P w K mg base 2 T.a_held_by T.fd_held_by ["claims", "pin"] (spP 2 f_held_by) :=
  gn_pure (N := ["claims", "pin", "place", "claim"]) (m := m_held_by) T.F_held_by sc_held_by fun cdv A outer s H E hr => ⟨_,
    (eb_one (es_ret (c_tuple T.n_tuple (ea_cons (EV.ex (EO.ev (eo_lcC (own := [("place", 2), ("claim", 3)]) rfl sc_held_by.nd (ei_enum rfl T.n_enumerate (ea_cons (EV.ex (ev_var 0)) ea_nil)) (blkOk_by (by kernel_rfl)) (fun _ _ _ _ _ => ⟨_, _, by decide, (eg_tup rfl (egl_cons (eg_name 2 sc_held_by.nd) (egl_cons (eg_name 3 sc_held_by.nd) egl_nil)))⟩) (fun _ _ _ _ _ => ⟨_, (if_one (et_val (ev_callG (ok_holds T) (hr.mono (by decide)) rfl T.g_holds T.F_holds.kp T.b_holds (ea_cons (EV.ex (ev_var 1)) (ea_cons (EV.ex (ev_var 3)) ea_nil)))))⟩) (fun _ _ _ _ _ => ⟨_, (ev_var 2)⟩) s))) ea_nil))))⟩
/-! rows_of -/
abbrev st_rows_of : Stmt := topS 34
theorem sc_rows_of : FnScope ["claims", "found", "first", "place", "claim", "other", "taken", "row"] ["claims"] (defScope st_rows_of) := ⟨rfl, rfl, rfl, by decide +kernel, rfl, by decide +kernel, by decide +kernel⟩
noncomputable def m_rows_of : S :=
    (sSeq (sSet 1 (rvO (ret (.od []))))
    (sSeq (sFor (mSeq (val (foD (opA fSorted (aCons (val (foD (mLc (mEnum (aCons (val (dat (nm 0))) aNil)) [3, 4] (tgT (tgC (stN 3) (tgC (stN 4) tg0))) (ret true) (mTup (aCons (val (op2 fIx (nm 4) (val (ret (.int 1))))) (aCons (val (dat (nm 3))) aNil)))))) aNil))))) (tgT (tgC (stN 2) (tgC (stN 3) tg0))) (sSeq (sSet 6 (rvO (mLock 1 (mLc (mKeys (nm 1)) [5] (stN 5) (tbool (mCall 2 f_meet (aCons (val (op2 fIx (nm 0) (nm 3))) (aCons (val (op2 fIx (nm 0) (nm 5))) aNil)))) (mDGet (nm 1) (dat (nm 5)))))))
    (sDPutM (opA fMin (aCons (val (foD (mLc (mRng (aCons (val (opA fLen (aCons (nm 0) aNil))) aNil)) [7] (stN 7) (tbool (op2 fNin (nm 7) (nm 6))) (dat (nm 7))))) aNil)) (nm 1) (dat (nm 3)))))
    (sRet (opA fTuple (aCons (val (foD (mLc (mRng (aCons (val (opA fLen (aCons (nm 0) aNil))) aNil)) [3] (stN 3) (ret true) (mDGet (nm 1) (dat (nm 3)))))) aNil)))))
noncomputable def f_rows_of : List PyData → Option PyData := runP 8 m_rows_of
theorem ok_rows_of (T : Tx K mg) : FnG P w K mg base 2 T.a_rows_of T.fd_rows_of ["claims"] (spP 1 f_rows_of) :=
  gn_pure (N := ["claims", "found", "first", "place", "claim", "other", "taken", "row"]) (m := m_rows_of) T.F_rows_of sc_rows_of fun cdv A outer s H E hr => ⟨_,
    (eb_cons (es_set 1 sc_rows_of.nd (EO.er eo_dnew))
    (eb_cons (es_for PassesOwn.never rfl (ei_seq (EV.ex (EO.ev (o_sorted hr.r T.n_sorted (ea_cons (EV.ex (EO.ev (eo_lcC (own := [("place", 3), ("claim", 4)]) rfl sc_rows_of.nd (ei_enum rfl T.n_enumerate (ea_cons (EV.ex (ev_var 0)) ea_nil)) (blkOk_by (by kernel_rfl)) (fun _ _ _ _ _ => ⟨_, _, by decide, (eg_tup rfl (egl_cons (eg_name 3 sc_rows_of.nd) (egl_cons (eg_name 4 sc_rows_of.nd) egl_nil)))⟩) (fun _ _ _ _ _ => ⟨_, if_nil⟩) (fun _ _ _ _ _ => ⟨_, (ev_tup (ea_cons (EV.ex (ev_ix (ex_var 4) (EV.ex ev_int))) (ea_cons (EV.ex (ev_var 3)) ea_nil)))⟩) s))) ea_nil))))) (eg_tup rfl (egl_cons (eg_name 2 sc_rows_of.nd) (egl_cons (eg_name 3 sc_rows_of.nd) egl_nil))) (eb_cons (es_lockSet 6 1 sc_rows_of.nd (eo_lcC (own := [("other", 5)]) rfl sc_rows_of.nd (ei_keys (ex_var 1)) (blkOk_by (by kernel_rfl)) (fun _ _ _ _ _ => ⟨_, _, by decide, (eg_name 5 sc_rows_of.nd)⟩) (fun _ _ _ _ _ => ⟨_, (if_one (et_val (ev_callG (ok_meet T) (hr.mono (by decide)) rfl T.g_meet T.F_meet.kp T.b_meet (ea_cons (EV.ex (ev_ix (ex_var 0) (ex_var 3))) (ea_cons (EV.ex (ev_ix (ex_var 0) (ex_var 5))) ea_nil)))))⟩) (fun _ _ _ _ _ => ⟨_, (ev_dget (hu_of hr.r) (ex_var 1) (ev_var 5))⟩) s))
    (eb_one (es_dput (hu_of hr.r) (c_min rfl T.n_min (ea_cons (EV.ex (EO.ev (eo_lcC (own := [("row", 7)]) rfl sc_rows_of.nd (ei_rng rfl T.n_range (ea_cons (EV.ex (c_len T.n_len (ea_cons (ex_var 0) ea_nil))) ea_nil)) (blkOk_by (by kernel_rfl)) (fun _ _ _ _ _ => ⟨_, _, by decide, (eg_name 7 sc_rows_of.nd)⟩) (fun _ _ _ _ _ => ⟨_, (if_one (t_nin (ex_var 7) (ex_var 6)))⟩) (fun _ _ _ _ _ => ⟨_, (ev_var 7)⟩) s))) ea_nil)) (ex_var 1) (ev_var 3)))))
    (eb_one (es_ret (c_tuple T.n_tuple (ea_cons (EV.ex (EO.ev (eo_lcC (own := [("place", 3)]) rfl sc_rows_of.nd (ei_rng rfl T.n_range (ea_cons (EV.ex (c_len T.n_len (ea_cons (ex_var 0) ea_nil))) ea_nil)) (blkOk_by (by kernel_rfl)) (fun _ _ _ _ _ => ⟨_, _, by decide, (eg_name 3 sc_rows_of.nd)⟩) (fun _ _ _ _ _ => ⟨_, if_nil⟩) (fun _ _ _ _ _ => ⟨_, (ev_dget (hu_of hr.r) (ex_var 1) (ev_var 3))⟩) s))) ea_nil))))))⟩
/-! fewest_of -/
abbrev st_fewest_of : Stmt := topS 35
theorem sc_fewest_of : FnScope ["claims", "claim", "lots", "lot"] ["claims"] (defScope st_fewest_of) := ⟨rfl, rfl, rfl, by decide +kernel, rfl, by decide +kernel, by decide +kernel⟩
noncomputable def m_fewest_of : S :=
    (sSeq (sSet 2 (rvO (mLc (mSeq (nm 0)) [1] (stN 1) (ret true) (mCall 2 f_held_by (aCons (val (dat (nm 0))) (aCons (val (mTup (aCons (val (op2 fIx (nm 1) (val (ret (.int 0))))) (aCons (val (op2 fIx (nm 1) (val (ret (.int 1))))) aNil)))) aNil))))))
    (sSeq (sSet 3 (rvD (mIte (tbool (op2 fNe (nm 2) (val (foD (mLst aNil))))) (mMaxLen (nm 2)) (mTup aNil))))
    (sRet (mTup (aCons (val (opA fLen (aCons (nm 3) aNil))) (aCons (val (mCall 1 f_rows_of (aCons (val (dat (nm 0))) aNil))) (aCons (val (dat (nm 3))) aNil)))))))
noncomputable def f_fewest_of : List PyData → Option PyData := runP 4 m_fewest_of
theorem ok_fewest_of (T : Tx K mg) : FnG P w K mg base 3 T.a_fewest_of T.fd_fewest_of ["claims"] (spP 1 f_fewest_of) :=
  gn_pure (N := ["claims", "claim", "lots", "lot"]) (m := m_fewest_of) T.F_fewest_of sc_fewest_of fun cdv A outer s H E hr => ⟨_,
    (eb_cons (es_setLcC 2 (own := [("claim", 1)]) rfl sc_fewest_of.nd (ei_seq (ex_var 0)) (blkOk_by (by kernel_rfl)) (fun _ _ _ _ _ => ⟨_, _, by decide, (eg_name 1 sc_fewest_of.nd)⟩) (fun _ _ _ _ _ => ⟨_, if_nil⟩) (fun _ _ _ _ _ => ⟨_, (ev_callG (ok_held_by T) (hr.mono (by decide)) rfl T.g_held_by T.F_held_by.kp T.b_held_by (ea_cons (EV.ex (ev_var 0)) (ea_cons (EV.ex (ev_tup (ea_cons (EV.ex (ev_ix (ex_var 1) (EV.ex ev_int))) (ea_cons (EV.ex (ev_ix (ex_var 1) (EV.ex ev_int))) ea_nil)))) ea_nil)))⟩) s)
    (eb_cons (es_set 3 sc_fewest_of.nd (EV.er (ev_if (t_ne hr.r (ex_var 2) (EV.ex (EO.ev (eo_lst ea_nil)))) (c_maxLen rfl T.n_max T.n_len (ex_var 2)) (ev_tup ea_nil))))
    (eb_one (es_ret (ev_tup (ea_cons (EV.ex (c_len T.n_len (ea_cons (ex_var 3) ea_nil))) (ea_cons (EV.ex (ev_callG (ok_rows_of T) (hr.mono (by decide)) rfl T.g_rows_of T.F_rows_of.kp T.b_rows_of (ea_cons (EV.ex (ev_var 0)) ea_nil))) (ea_cons (EV.ex (ev_var 3)) ea_nil))))))))⟩
/-! fewest_rows -/
abbrev st_fewest_rows : Stmt := topS 36
theorem sc_fewest_rows : FnScope ["claims"] ["claims"] (defScope st_fewest_rows) := ⟨rfl, rfl, rfl, by decide +kernel, rfl, by decide +kernel, by decide +kernel⟩
noncomputable def m_fewest_rows : S :=
    (sSeq (sDrop (mCall 1 f_check_claims (aCons (val (dat (nm 0))) aNil)))
    (sRet (mCall 1 f_fewest_of (aCons (val (dat (nm 0))) aNil))))
noncomputable def f_fewest_rows : List PyData → Option PyData := runP 1 m_fewest_rows
theorem ok_fewest_rows (T : Tx K mg) : FnG P w K mg base 7 T.a_fewest_rows T.fd_fewest_rows ["claims"] (spP 1 f_fewest_rows) :=
  gn_pure (N := ["claims"]) (m := m_fewest_rows) T.F_fewest_rows sc_fewest_rows fun cdv A outer s H E hr => ⟨_,
    (eb_cons (es_expr (ev_callG (ok_check_claims T) (hr.mono (by decide)) rfl T.g_check_claims T.F_check_claims.kp T.b_check_claims (ea_cons (EV.ex (ev_var 0)) ea_nil)))
    (eb_one (es_ret (ev_callG (ok_fewest_of T) (hr.mono (by decide)) rfl T.g_fewest_of T.F_fewest_of.kp T.b_fewest_of (ea_cons (EV.ex (ev_var 0)) ea_nil)))))⟩
/-! are_rows -/
abbrev st_are_rows : Stmt := topS 37
theorem sc_are_rows : FnScope ["claims", "number", "value", "one", "other"] ["claims", "number", "value"] (defScope st_are_rows) := ⟨rfl, rfl, rfl, by decide +kernel, rfl, by decide +kernel, by decide +kernel⟩
noncomputable def m_are_rows : S :=
    (sSeq (sIf (mOr (mNot (tbool (mCall 3 f_are_between (aCons (val (dat (nm 2))) (aCons (val (ret (.int 0))) (aCons (val (op2 fSub (nm 1) (val (ret (.int 1))))) aNil)))))) (tbool (op2 fNe (val (opA fLen (aCons (nm 2) aNil))) (val (opA fLen (aCons (nm 0) aNil)))))) (sRet (ret (.bool false))) sNx)
    (sSeq (sFor (mRng (aCons (val (opA fLen (aCons (nm 0) aNil))) aNil)) (stN 3) (sFor (mRng (aCons (val (dat (nm 3))) aNil)) (stN 4) (sIf (mAnd (tbool (op2 fEq (val (op2 fIx (nm 2) (nm 3))) (val (op2 fIx (nm 2) (nm 4))))) (tbool (mCall 2 f_meet (aCons (val (op2 fIx (nm 0) (nm 3))) (aCons (val (op2 fIx (nm 0) (nm 4))) aNil))))) (sRet (ret (.bool false))) sNx)))
    (sRet (ret (.bool true)))))
noncomputable def f_are_rows : List PyData → Option PyData := runP 5 m_are_rows
theorem ok_are_rows (T : Tx K mg) : FnG P w K mg base 4 T.a_are_rows T.fd_are_rows ["claims", "number", "value"] (spP 3 f_are_rows) :=
  gn_pure (N := ["claims", "number", "value", "one", "other"]) (m := m_are_rows) T.F_are_rows sc_are_rows fun cdv A outer s H E hr => ⟨_,
    (eb_cons (es_if (EW.et (ew_or (et_not (et_val (ev_callG (ok_are_between T) (hr.mono (by decide)) rfl T.g_are_between T.F_are_between.kp T.b_are_between (ea_cons (EV.ex (ev_var 2)) (ea_cons (EV.ex ev_int) (ea_cons (EV.ex (v_sub (ex_var 1) (EV.ex ev_int))) ea_nil)))))) (ew_or1 (t_ne hr.r (EV.ex (c_len T.n_len (ea_cons (ex_var 2) ea_nil))) (EV.ex (c_len T.n_len (ea_cons (ex_var 0) ea_nil))))))) (eb_one (es_ret ev_bl)) eb_nil)
    (eb_cons (es_for PassesOwn.never rfl (ei_rng rfl T.n_range (ea_cons (EV.ex (c_len T.n_len (ea_cons (ex_var 0) ea_nil))) ea_nil)) (eg_name 3 sc_are_rows.nd) (eb_one (es_for PassesOwn.never rfl (ei_rng rfl T.n_range (ea_cons (EV.ex (ev_var 3)) ea_nil)) (eg_name 4 sc_are_rows.nd) (eb_one (es_if (EW.et (ew_and (t_eq hr.r (EV.ex (ev_ix (ex_var 2) (ex_var 3))) (EV.ex (ev_ix (ex_var 2) (ex_var 4)))) (ew_and1 (et_val (ev_callG (ok_meet T) (hr.mono (by decide)) rfl T.g_meet T.F_meet.kp T.b_meet (ea_cons (EV.ex (ev_ix (ex_var 0) (ex_var 3))) (ea_cons (EV.ex (ev_ix (ex_var 0) (ex_var 4))) ea_nil))))))) (eb_one (es_ret ev_bl)) eb_nil)))))
    (eb_one (es_ret ev_bl))))⟩
/-! are_held -/
abbrev st_are_held : Stmt := topS 38
theorem sc_are_held : FnScope ["claims", "lot", "place", "firsts", "pin"] ["claims", "lot"] (defScope st_are_held) := ⟨rfl, rfl, rfl, by decide +kernel, rfl, by decide +kernel, by decide +kernel⟩
noncomputable def m_are_held : S :=
    (sSeq (sIf (tbool (op2 fEq (nm 1) (val (mTup aNil)))) (sRet (ret (.bool true))) sNx)
    (sSeq (sSet 3 (rvO (mLc (mSeq (nm 1)) [2] (stN 2) (ret true) (op2 fIx (val (op2 fIx (nm 0) (nm 2))) (val (ret (.int 1)))))))
    (sSeq (sSet 4 (rvD (mTup (aCons (val (op2 fIx (val (op2 fIx (nm 0) (val (op2 fIx (nm 1) (val (ret (.int 0))))))) (val (ret (.int 0))))) (aCons (val (opA fMax (aCons (nm 3) aNil))) aNil)))))
    (sRet (opA fAll (aCons (val (foD (mLc (mSeq (nm 1)) [2] (stN 2) (ret true) (mCall 2 f_holds (aCons (val (dat (nm 4))) (aCons (val (op2 fIx (nm 0) (nm 2))) aNil)))))) aNil))))))
noncomputable def f_are_held : List PyData → Option PyData := runP 5 m_are_held
theorem ok_are_held (T : Tx K mg) : FnG P w K mg base 2 T.a_are_held T.fd_are_held ["claims", "lot"] (spP 2 f_are_held) :=
  gn_pure (N := ["claims", "lot", "place", "firsts", "pin"]) (m := m_are_held) T.F_are_held sc_are_held fun cdv A outer s H E hr => ⟨_,
    (eb_cons (es_if (t_eq hr.r (ex_var 1) (EV.ex (ev_tup ea_nil))) (eb_one (es_ret ev_bl)) eb_nil)
    (eb_cons (es_setLcC 3 (own := [("place", 2)]) rfl sc_are_held.nd (ei_seq (ex_var 1)) (blkOk_by (by kernel_rfl)) (fun _ _ _ _ _ => ⟨_, _, by decide, (eg_name 2 sc_are_held.nd)⟩) (fun _ _ _ _ _ => ⟨_, if_nil⟩) (fun _ _ _ _ _ => ⟨_, (ev_ix (EV.ex (ev_ix (ex_var 0) (ex_var 2))) (EV.ex ev_int))⟩) s)
    (eb_cons (es_set 4 sc_are_held.nd (EV.er (ev_tup (ea_cons (EV.ex (ev_ix (EV.ex (ev_ix (ex_var 0) (EV.ex (ev_ix (ex_var 1) (EV.ex ev_int))))) (EV.ex ev_int))) (ea_cons (EV.ex (c_max rfl T.n_max (ea_cons (ex_var 3) ea_nil))) ea_nil)))))
    (eb_one (es_ret (c_all rfl T.n_all (ea_cons (EV.ex (EO.ev (eo_lcC (own := [("place", 2)]) rfl sc_are_held.nd (ei_seq (ex_var 1)) (blkOk_by (by kernel_rfl)) (fun _ _ _ _ _ => ⟨_, _, by decide, (eg_name 2 sc_are_held.nd)⟩) (fun _ _ _ _ _ => ⟨_, if_nil⟩) (fun _ _ _ _ _ => ⟨_, (ev_callG (ok_holds T) (hr.mono (by decide)) rfl T.g_holds T.F_holds.kp T.b_holds (ea_cons (EV.ex (ev_var 4)) (ea_cons (EV.ex (ev_ix (ex_var 0) (ex_var 2))) ea_nil)))⟩) s))) ea_nil)))))))⟩
/-! shows_fewest_rows -/
abbrev st_shows_fewest_rows : Stmt := topS 39
theorem sc_shows_fewest_rows : FnScope ["claims", "value", "number", "rows", "lot"] ["claims", "value"] (defScope st_shows_fewest_rows) := ⟨rfl, rfl, rfl, by decide +kernel, rfl, by decide +kernel, by decide +kernel⟩
noncomputable def m_shows_fewest_rows : S :=
    (sSeq (sDrop (mCall 1 f_check_claims (aCons (val (dat (nm 0))) aNil)))
    (sSeq (sIf (mOr (mNot (tbool (mIsi "tuple" (nm 1)))) (mOr (tbool (op2 fNe (val (opA fLen (aCons (nm 1) aNil))) (val (ret (.int 3))))) (mNot (tbool (mCall 2 f_is_lot_of (aCons (val (dat (nm 0))) (aCons (val (op2 fIx (nm 1) (val (ret (.int 2))))) aNil))))))) (sRet (ret (.bool false))) sNx)
    (sSeq (sTgt (dat (nm 1)) (tgT (tgC (stN 2) (tgC (stN 3) (tgC (stN 4) tg0)))))
    (sSeq (sIf (mOr (mNot (tbool (mCall 3 f_is_between (aCons (val (dat (nm 2))) (aCons (val (opA fLen (aCons (nm 4) aNil))) (aCons (val (opA fLen (aCons (nm 4) aNil))) aNil)))))) (mNot (tbool (mCall 3 f_are_rows (aCons (val (dat (nm 0))) (aCons (val (dat (nm 2))) (aCons (val (dat (nm 3))) aNil))))))) (sRet (ret (.bool false))) sNx)
    (sRet (mCall 2 f_are_held (aCons (val (dat (nm 0))) (aCons (val (dat (nm 4))) aNil))))))))
noncomputable def f_shows_fewest_rows : List PyData → Option PyData := runP 5 m_shows_fewest_rows
theorem ok_shows_fewest_rows (T : Tx K mg) : FnG P w K mg base 7 T.a_shows_fewest_rows T.fd_shows_fewest_rows ["claims", "value"] (spP 2 f_shows_fewest_rows) :=
  gn_pure (N := ["claims", "value", "number", "rows", "lot"]) (m := m_shows_fewest_rows) T.F_shows_fewest_rows sc_shows_fewest_rows fun cdv A outer s H E hr => ⟨_,
    (eb_cons (es_expr (ev_callG (ok_check_claims T) (hr.mono (by decide)) rfl T.g_check_claims T.F_check_claims.kp T.b_check_claims (ea_cons (EV.ex (ev_var 0)) ea_nil)))
    (eb_cons (es_if (EW.et (ew_or (et_not (et_val (c_isi (T := "tuple") T.n_isinstance T.n_tuple bt_tuple (ex_var 1)))) (ew_or (t_ne hr.r (EV.ex (c_len T.n_len (ea_cons (ex_var 1) ea_nil))) (EV.ex (ev_globI rfl T.c_THREE))) (ew_or1 (et_not (et_val (ev_callG (ok_is_lot_of T) (hr.mono (by decide)) rfl T.g_is_lot_of T.F_is_lot_of.kp T.b_is_lot_of (ea_cons (EV.ex (ev_var 0)) (ea_cons (EV.ex (ev_ix (ex_var 1) (EV.ex ev_int))) ea_nil))))))))) (eb_one (es_ret ev_bl)) eb_nil)
    (eb_cons (es_tgt (ev_var 1) (eg_tup rfl (egl_cons (eg_name 2 sc_shows_fewest_rows.nd) (egl_cons (eg_name 3 sc_shows_fewest_rows.nd) (egl_cons (eg_name 4 sc_shows_fewest_rows.nd) egl_nil)))))
    (eb_cons (es_if (EW.et (ew_or (et_not (et_val (ev_callG (ok_is_between T) (hr.mono (by decide)) rfl T.g_is_between T.F_is_between.kp T.b_is_between (ea_cons (EV.ex (ev_var 2)) (ea_cons (EV.ex (c_len T.n_len (ea_cons (ex_var 4) ea_nil))) (ea_cons (EV.ex (c_len T.n_len (ea_cons (ex_var 4) ea_nil))) ea_nil)))))) (ew_or1 (et_not (et_val (ev_callG (ok_are_rows T) (hr.mono (by decide)) rfl T.g_are_rows T.F_are_rows.kp T.b_are_rows (ea_cons (EV.ex (ev_var 0)) (ea_cons (EV.ex (ev_var 2)) (ea_cons (EV.ex (ev_var 3)) ea_nil))))))))) (eb_one (es_ret ev_bl)) eb_nil)
    (eb_one (es_ret (ev_callG (ok_are_held T) (hr.mono (by decide)) rfl T.g_are_held T.F_are_held.kp T.b_are_held (ea_cons (EV.ex (ev_var 0)) (ea_cons (EV.ex (ev_var 4)) ea_nil)))))))))⟩
/-! _law_pot -/
abbrev st_law_pot : Stmt := topS 41
theorem sc_law_pot : FnScope ["script", "place", "cell", "own", "small"] ["script", "place"] (defScope st_law_pot) := ⟨rfl, rfl, rfl, by decide +kernel, rfl, by decide +kernel, by decide +kernel⟩
noncomputable def m_law_pot : S :=
    (sSeq (sSet 2 (rvD (mIte (tbool (op2 fLt (nm 1) (val (opA fLen (aCons (nm 0) aNil))))) (op2 fIx (nm 0) (nm 1)) (op2 fAdd (val (op2 fAdd (val (op2 fMod (val (opA fInt (aCons (val (opA fSum (aCons (val (mCut (nm 0) pNo (pYes (ret (.int 1))))) aNil))) aNil))) (val (ret (.int 1000751))))) (val (op2 fMul (val (ret (.int 3856))) (nm 1))))) (val (ret (.int 1106)))))))
    (sSeq (sSet 3 (rvD (op2 fMul (val (op2 fMod (val (opA fInt (aCons (val (opA fAbs (aCons (nm 2) aNil))) aNil))) (val (op2 fPow (val (op2 fPow (val (ret (.int 10))) (val (ret (.int 60))))) (val (ret (.int 5))))))) (val (opA fInt (aCons (val (op2 fGe (val (opA fAbs (aCons (nm 2) aNil))) (val (op2 fPow (val (ret (.int 10))) (val (ret (.int 18))))))) aNil))))))
    (sSeq (sSet 4 (rvD (op2 fMod (val (opA fInt (aCons (nm 2) aNil))) (val (ret (.int 2305843009213693951))))))
    (sRetO (mLst (aCons (val (dat (nm 3))) (aCons (val (op2 fMod (val (opA fInt (aCons (val (op2 fAdd (val (op2 fAdd (val (op2 fMul (nm 4) (val (ret (.int 48961))))) (val (op2 fMul (val (op2 fMul (val (ret (.int 8501))) (nm 1))) (nm 1))))) (val (ret (.int 2308))))) aNil))) (val (ret (.int 2305843009213693921))))) (aCons (val (ret (.int 0))) aNil))))))))
noncomputable def f_law_pot : List PyData → Option Sl := runO 5 m_law_pot
theorem ok_law_pot (T : Tx K mg) : FnG P w K mg base 1 T.a_law_pot T.fd_law_pot ["script", "place"] (spO 2 f_law_pot) :=
  gn_own (N := ["script", "place", "cell", "own", "small"]) (m := m_law_pot) T.F_law_pot sc_law_pot fun cdv A outer s H E hr => ⟨_,
    (eb_cons (es_set 2 sc_law_pot.nd (EV.er (ev_if (t_lt hr.r (ex_var 1) (EV.ex (c_len T.n_len (ea_cons (ex_var 0) ea_nil)))) (ev_ix (ex_var 0) (ex_var 1)) (v_add (EV.ex (v_add (EV.ex (v_mod (EV.ex (c_int T.n_int (ea_cons (EV.ex (c_sum rfl T.n_sum (ea_cons (EV.ex (ev_cut (ex_var 0) ep_none (ep_some ev_int))) ea_nil))) ea_nil))) (EV.ex ev_int))) (EV.ex (v_mul (EV.ex ev_int) (ex_var 1))))) (EV.ex ev_int)))))
    (eb_cons (es_set 3 sc_law_pot.nd (EV.er (v_mul (EV.ex (v_mod (EV.ex (c_int T.n_int (ea_cons (EV.ex (c_abs T.n_abs (ea_cons (ex_var 2) ea_nil))) ea_nil))) (EV.ex (v_pow (EV.ex (v_pow (EV.ex ev_int) (EV.ex ev_int))) (EV.ex ev_int))))) (EV.ex (c_int T.n_int (ea_cons (EV.ex (v_ge (EV.ex (c_abs T.n_abs (ea_cons (ex_var 2) ea_nil))) (EV.ex (v_pow (EV.ex ev_int) (EV.ex ev_int))))) ea_nil))))))
    (eb_cons (es_set 4 sc_law_pot.nd (EV.er (v_mod (EV.ex (c_int T.n_int (ea_cons (ex_var 2) ea_nil))) (EV.ex ev_int))))
    (eb_one (es_retO (eo_lst (ea_cons (EV.ex (ev_var 3)) (ea_cons (EV.ex (v_mod (EV.ex (c_int T.n_int (ea_cons (EV.ex (v_add (EV.ex (v_add (EV.ex (v_mul (ex_var 4) (EV.ex ev_int))) (EV.ex (v_mul (EV.ex (v_mul (EV.ex ev_int) (ex_var 1))) (ex_var 1))))) (EV.ex ev_int))) ea_nil))) (EV.ex ev_int))) (ea_cons (EV.ex ev_int) ea_nil)))))))))⟩
end
end K15
end
section
namespace K15
open PySem PySem.Spec PyProof.Rows L2 DL
section
variable [Tbs] {P : Program} {w : World} {K : PySem.W.Frag} {mg : Str → Option Value} {base : Heap}
/-! _law_take -/
abbrev st_law_take : Stmt := topS 42
theorem sc_law_take : FnScope ["pot", "upto", "digit", "prime", "blend"] ["pot", "upto"] (defScope st_law_take) := ⟨rfl, rfl, rfl, by decide +kernel, rfl, by decide +kernel, by decide +kernel⟩
noncomputable def m_law_take : S :=
    (sSeq (sIf (tbool (op2 fGt (val (op2 fIx (nm 0) (val (ret (.int 0))))) (val (ret (.int 0))))) (sSeq (sSet 2 (rvD (op2 fMod (val (opA fInt (aCons (val (op2 fIx (nm 0) (val (ret (.int 0))))) aNil))) (nm 1))))
    (sSeq (sPut (op2 fDiv (val (op2 fIx (nm 0) (val (ret (.int 0))))) (nm 1)) (nm 0) (ret (.int 0)))
    (sRet (opA fInt (aCons (nm 2) aNil))))) sNx)
    (sSeq (sPut (op2 fAdd (val (op2 fIx (nm 0) (val (ret (.int 2))))) (val (ret (.int 1)))) (nm 0) (ret (.int 2)))
    (sSeq (sSet 3 (rvD (op2 fIx (val (foD (mLst (aCons (val (ret (.int 2147483647))) (aCons (val (ret (.int 2147483629))) (aCons (val (ret (.int 2147483587))) (aCons (val (ret (.int 2147483579))) (aCons (val (ret (.int 2147483563))) aNil)))))))) (val (op2 fMod (val (opA fInt (aCons (val (op2 fIx (nm 0) (val (ret (.int 2))))) aNil))) (val (ret (.int 5))))))))
    (sSeq (sSet 4 (rvD (op2 fMod (val (opA fInt (aCons (val (op2 fPow (val (opA fInt (aCons (val (op2 fAdd (val (op2 fAdd (val (op2 fIx (nm 0) (val (ret (.int 1))))) (val (op2 fMul (val (op2 fMul (val (ret (.int 51917))) (val (op2 fIx (nm 0) (val (ret (.int 2))))))) (val (op2 fIx (nm 0) (val (ret (.int 2))))))))) (val (ret (.int 3176))))) aNil))) (val (ret (.int 3))))) aNil))) (nm 3))))
    (sSeq (sSet 4 (rvD (op2 fMod (val (opA fInt (aCons (val (op2 fMul (nm 4) (val (op2 fAdd (val (op2 fMod (val (opA fInt (aCons (nm 4) aNil))) (val (ret (.int 8191))))) (val (op2 fMul (val (ret (.int 716))) (val (op2 fIx (nm 0) (val (ret (.int 2))))))))))) aNil))) (val (ret (.int 2305843009213693907))))))
    (sRet (op2 fMod (val (opA fInt (aCons (val (op2 fDiv (nm 4) (val (ret (.int 229))))) aNil))) (nm 1))))))))
noncomputable def f_law_take : List PyData → List PyData → Option (PyData × List PyData) := runB 5 m_law_take
theorem ok_law_take (T : Tx K mg) : FnG P w K mg base 1 T.a_law_take T.fd_law_take ["pot", "upto"] (spB 1 f_law_take) :=
  gn_lent (N := ["pot", "upto", "digit", "prime", "blend"]) (m := m_law_take) T.F_law_take sc_law_take fun cdv A outer s H E hr => ⟨_,
    (eb_cons (es_if (t_gt (EV.ex (ev_ix (ex_var 0) (EV.ex ev_int))) (EV.ex ev_int)) (eb_cons (es_set 2 sc_law_take.nd (EV.er (v_mod (EV.ex (c_int T.n_int (ea_cons (EV.ex (ev_ix (ex_var 0) (EV.ex ev_int))) ea_nil))) (ex_var 1))))
    (eb_cons (es_putL (v_div (EV.ex (ev_ix (ex_var 0) (EV.ex ev_int))) (ex_var 1)) (ex_var 0) ev_int)
    (eb_one (es_ret (c_int T.n_int (ea_cons (ex_var 2) ea_nil)))))) eb_nil)
    (eb_cons (es_putL (v_add (EV.ex (ev_ix (ex_var 0) (EV.ex ev_int))) (EV.ex ev_int)) (ex_var 0) ev_int)
    (eb_cons (es_set 3 sc_law_take.nd (EV.er (ev_ix (EV.ex (EO.ev (eo_lst (ea_cons (EV.ex ev_int) (ea_cons (EV.ex ev_int) (ea_cons (EV.ex ev_int) (ea_cons (EV.ex ev_int) (ea_cons (EV.ex ev_int) ea_nil)))))))) (EV.ex (v_mod (EV.ex (c_int T.n_int (ea_cons (EV.ex (ev_ix (ex_var 0) (EV.ex ev_int))) ea_nil))) (EV.ex ev_int))))))
    (eb_cons (es_set 4 sc_law_take.nd (EV.er (v_mod (EV.ex (c_int T.n_int (ea_cons (EV.ex (v_pow (EV.ex (c_int T.n_int (ea_cons (EV.ex (v_add (EV.ex (v_add (EV.ex (ev_ix (ex_var 0) (EV.ex ev_int))) (EV.ex (v_mul (EV.ex (v_mul (EV.ex ev_int) (EV.ex (ev_ix (ex_var 0) (EV.ex ev_int))))) (EV.ex (ev_ix (ex_var 0) (EV.ex ev_int))))))) (EV.ex ev_int))) ea_nil))) (EV.ex ev_int))) ea_nil))) (ex_var 3))))
    (eb_cons (es_set 4 sc_law_take.nd (EV.er (v_mod (EV.ex (c_int T.n_int (ea_cons (EV.ex (v_mul (ex_var 4) (EV.ex (v_add (EV.ex (v_mod (EV.ex (c_int T.n_int (ea_cons (ex_var 4) ea_nil))) (EV.ex ev_int))) (EV.ex (v_mul (EV.ex ev_int) (EV.ex (ev_ix (ex_var 0) (EV.ex ev_int))))))))) ea_nil))) (EV.ex ev_int))))
    (eb_one (es_ret (v_mod (EV.ex (c_int T.n_int (ea_cons (EV.ex (v_div (ex_var 4) (EV.ex ev_int))) ea_nil))) (ex_var 1)))))))))⟩
/-! _law_cells -/
abbrev st_law_cells : Stmt := topS 43
theorem sc_law_cells : FnScope ["script", "most"] ["script", "most"] (defScope st_law_cells) := ⟨rfl, rfl, rfl, by decide +kernel, rfl, by decide +kernel, by decide +kernel⟩
noncomputable def m_law_cells : S :=
    (sRet (foD (mListRng (opA fMax (aCons (val (ret (.int 1))) (aCons (val (opA fMin (aCons (nm 1) (aCons (val (opA fLen (aCons (nm 0) aNil))) aNil)))) aNil))))))
noncomputable def f_law_cells : List PyData → Option PyData := runP 2 m_law_cells
theorem ok_law_cells (T : Tx K mg) : FnG P w K mg base 1 T.a_law_cells T.fd_law_cells ["script", "most"] (spP 2 f_law_cells) :=
  gn_pure (N := ["script", "most"]) (m := m_law_cells) T.F_law_cells sc_law_cells fun cdv A outer s H E hr => ⟨_,
    (eb_one (es_ret (EO.ev (o_listRange rfl T.n_list T.n_range (c_max rfl T.n_max (ea_cons (EV.ex ev_int) (ea_cons (EV.ex (c_min rfl T.n_min (ea_cons (ex_var 1) (ea_cons (EV.ex (c_len T.n_len (ea_cons (ex_var 0) ea_nil))) ea_nil)))) ea_nil)))))))⟩
/-! _law_of -/
abbrev st_law_of : Stmt := topS 44
theorem sc_law_of : FnScope ["pot", "some"] ["pot", "some"] (defScope st_law_of) := ⟨rfl, rfl, rfl, by decide +kernel, rfl, by decide +kernel, by decide +kernel⟩
noncomputable def m_law_of : S :=
    (sRet (op2 fIx (nm 1) (val (mCallI 1 f_law_take (aCons (nm 0) (aCons (val (opA fLen (aCons (nm 1) aNil))) aNil))))))
noncomputable def f_law_of : List PyData → List PyData → Option (PyData × List PyData) := runB 2 m_law_of
theorem ok_law_of (T : Tx K mg) : FnG P w K mg base 2 T.a_law_of T.fd_law_of ["pot", "some"] (spB 1 f_law_of) :=
  gn_lent (N := ["pot", "some"]) (m := m_law_of) T.F_law_of sc_law_of fun cdv A outer s H E hr => ⟨_,
    (eb_one (es_ret (ev_ix (ex_var 1) (EV.ex (ev_callI (ok_law_take T) (hr.mono (by decide)) rfl T.g_law_take T.F_law_take.kp T.b_law_take (ea_cons (ex_var 0) (ea_cons (EV.ex (c_len T.n_len (ea_cons (ex_var 1) ea_nil))) ea_nil)))))))⟩
/-! _law_is_int -/
abbrev st_law_is_int : Stmt := topS 45
theorem sc_law_is_int : FnScope ["value", "low", "high"] ["value", "low", "high"] (defScope st_law_is_int) := ⟨rfl, rfl, rfl, by decide +kernel, rfl, by decide +kernel, by decide +kernel⟩
noncomputable def m_law_is_int : S :=
    (sRet (vAnd (mIsi "int" (nm 0)) (vAnd (vNot (mIsi "bool" (nm 0))) (mChain fLe fLe (nm 1) (nm 0) (nm 2)))))
noncomputable def f_law_is_int : List PyData → Option PyData := runP 3 m_law_is_int
theorem ok_law_is_int (T : Tx K mg) : FnG P w K mg base 1 T.a_law_is_int T.fd_law_is_int ["value", "low", "high"] (spP 3 f_law_is_int) :=
  gn_pure (N := ["value", "low", "high"]) (m := m_law_is_int) T.F_law_is_int sc_law_is_int fun cdv A outer s H E hr => ⟨_,
    (eb_one (es_ret (ev_and (c_isi (T := "int") T.n_isinstance T.n_int bt_int (ex_var 0)) (ev_and (ev_not (c_isi (T := "bool") T.n_isinstance T.n_bool bt_bool (ex_var 0))) (ev_one (v_lele (ex_var 1) (ex_var 0) (ex_var 2)))))))⟩
/-! _law_claims -/
abbrev st_law_claims : Stmt := topS 46
theorem sc_law_claims : FnScope ["pot", "many", "corners", "found", "claim", "first"] ["pot", "many", "corners"] (defScope st_law_claims) := ⟨rfl, rfl, rfl, by decide +kernel, rfl, by decide +kernel, by decide +kernel⟩
noncomputable def m_law_claims : S :=
    (sSeq (sSet 3 (rvO (mLst aNil)))
    (sSeq (sFor (mRng (aCons (val (mCallI 1 f_law_take (aCons (nm 0) (aCons (val (op2 fAdd (nm 1) (val (ret (.int 1))))) aNil)))) aNil)) (stN 4) (sSeq (sSet 5 (rvD (opA fInt (aCons (val (mCallI 1 f_law_take (aCons (nm 0) (aCons (val (ret (.int 13))) aNil)))) aNil))))
    (sDrop (mMt fAppend (nm 3) (aCons (val (mTup (aCons (val (opA fInt (aCons (val (mCallI 1 f_law_take (aCons (nm 0) (aCons (val (dat (nm 2))) aNil)))) aNil))) (aCons (val (dat (nm 5))) (aCons (val (opA fInt (aCons (val (opA fMin (aCons (val (ret (.int 12))) (aCons (val (op2 fAdd (nm 5) (val (mCallI 1 f_law_of (aCons (nm 0) (aCons (val (foD (mLst (aCons (val (ret (.int 0))) (aCons (val (ret (.int 1))) (aCons (val (ret (.int 2))) (aCons (val (ret (.int 2))) (aCons (val (ret (.int 3))) (aCons (val (ret (.int 5))) (aCons (val (ret (.int 12))) aNil)))))))))) aNil)))))) aNil)))) aNil))) (aCons (val (opA fInt (aCons (val (mCallI 1 f_law_of (aCons (nm 0) (aCons (val (foD (mLst (aCons (val (ret (.int 0))) (aCons (val (ret (.int 1))) (aCons (val (ret (.int 1))) (aCons (val (ret (.int 2))) (aCons (val (ret (.int 9))) aNil)))))))) aNil)))) aNil))) aNil)))))) aNil)))))
    (sSeq (sIf (mAnd (tbool (mChain fLt fLt (val (ret (.int 0))) (val (opA fLen (aCons (nm 3) aNil))) (nm 1))) (tbool (op2 fEq (val (mCallI 1 f_law_take (aCons (nm 0) (aCons (val (ret (.int 2))) aNil)))) (val (ret (.int 0)))))) (sDrop (mMt fInsert (nm 3) (aCons (val (mCallI 1 f_law_take (aCons (nm 0) (aCons (val (op2 fAdd (val (opA fLen (aCons (nm 3) aNil))) (val (ret (.int 1))))) aNil)))) (aCons (val (op2 fIx (nm 3) (val (ret (.int 0))))) aNil)))) sNx)
    (sRet (opA fTuple (aCons (nm 3) aNil))))))
noncomputable def f_law_claims : List PyData → List PyData → Option (PyData × List PyData) := runB 6 m_law_claims
theorem ok_law_claims (T : Tx K mg) : FnG P w K mg base 3 T.a_law_claims T.fd_law_claims ["pot", "many", "corners"] (spB 2 f_law_claims) :=
  gn_lent (N := ["pot", "many", "corners", "found", "claim", "first"]) (m := m_law_claims) T.F_law_claims sc_law_claims fun cdv A outer s H E hr => ⟨_,
    (eb_cons (es_set 3 sc_law_claims.nd (EO.er (eo_lst ea_nil)))
    (eb_cons (es_for PassesOwn.never rfl (ei_rng rfl T.n_range (ea_cons (EV.ex (ev_callI (ok_law_take T) (hr.mono (by decide)) rfl T.g_law_take T.F_law_take.kp T.b_law_take (ea_cons (ex_var 0) (ea_cons (EV.ex (v_add (ex_var 1) (EV.ex ev_int))) ea_nil)))) ea_nil)) (eg_name 4 sc_law_claims.nd) (eb_cons (es_set 5 sc_law_claims.nd (EV.er (c_int T.n_int (ea_cons (EV.ex (ev_callI (ok_law_take T) (hr.mono (by decide)) rfl T.g_law_take T.F_law_take.kp T.b_law_take (ea_cons (ex_var 0) (ea_cons (EV.ex ev_int) ea_nil)))) ea_nil))))
    (eb_one (es_expr (m_append (ex_var 3) (ea_cons (EV.ex (ev_tup (ea_cons (EV.ex (c_int T.n_int (ea_cons (EV.ex (ev_callI (ok_law_take T) (hr.mono (by decide)) rfl T.g_law_take T.F_law_take.kp T.b_law_take (ea_cons (ex_var 0) (ea_cons (EV.ex (ev_var 2)) ea_nil)))) ea_nil))) (ea_cons (EV.ex (ev_var 5)) (ea_cons (EV.ex (c_int T.n_int (ea_cons (EV.ex (c_min rfl T.n_min (ea_cons (EV.ex ev_int) (ea_cons (EV.ex (v_add (ex_var 5) (EV.ex (ev_callI (ok_law_of T) (hr.mono (by decide)) rfl T.g_law_of T.F_law_of.kp T.b_law_of (ea_cons (ex_var 0) (ea_cons (EV.ex (EO.ev (eo_lst (ea_cons (EV.ex ev_int) (ea_cons (EV.ex ev_int) (ea_cons (EV.ex ev_int) (ea_cons (EV.ex ev_int) (ea_cons (EV.ex ev_int) (ea_cons (EV.ex ev_int) (ea_cons (EV.ex ev_int) ea_nil)))))))))) ea_nil)))))) ea_nil)))) ea_nil))) (ea_cons (EV.ex (c_int T.n_int (ea_cons (EV.ex (ev_callI (ok_law_of T) (hr.mono (by decide)) rfl T.g_law_of T.F_law_of.kp T.b_law_of (ea_cons (ex_var 0) (ea_cons (EV.ex (EO.ev (eo_lst (ea_cons (EV.ex ev_int) (ea_cons (EV.ex ev_int) (ea_cons (EV.ex ev_int) (ea_cons (EV.ex ev_int) (ea_cons (EV.ex ev_int) ea_nil)))))))) ea_nil)))) ea_nil))) ea_nil)))))) ea_nil))))))
    (eb_cons (es_if (EW.et (ew_and (t_ltlt hr.r (EV.ex ev_int) (EV.ex (c_len T.n_len (ea_cons (ex_var 3) ea_nil))) (ex_var 1)) (ew_and1 (t_eq hr.r (EV.ex (ev_callI (ok_law_take T) (hr.mono (by decide)) rfl T.g_law_take T.F_law_take.kp T.b_law_take (ea_cons (ex_var 0) (ea_cons (EV.ex ev_int) ea_nil)))) (EV.ex ev_int))))) (eb_one (es_expr (m_insert (ex_var 3) (ea_cons (EV.ex (ev_callI (ok_law_take T) (hr.mono (by decide)) rfl T.g_law_take T.F_law_take.kp T.b_law_take (ea_cons (ex_var 0) (ea_cons (EV.ex (v_add (EV.ex (c_len T.n_len (ea_cons (ex_var 3) ea_nil))) (EV.ex ev_int))) ea_nil)))) (ea_cons (EV.ex (ev_ix (ex_var 3) (EV.ex ev_int))) ea_nil))))) eb_nil)
    (eb_one (es_ret (c_tuple T.n_tuple (ea_cons (ex_var 3) ea_nil)))))))⟩
/-! _law_do_meet -/
abbrev st_law_do_meet : Stmt := topS 47
theorem sc_law_do_meet : FnScope ["one", "other"] ["one", "other"] (defScope st_law_do_meet) := ⟨rfl, rfl, rfl, by decide +kernel, rfl, by decide +kernel, by decide +kernel⟩
noncomputable def m_law_do_meet : S :=
    (sRet (vAnd (op2 fEq (val (op2 fIx (nm 0) (val (ret (.int 0))))) (val (op2 fIx (nm 1) (val (ret (.int 0)))))) (vAnd (op2 fLe (val (op2 fIx (nm 0) (val (ret (.int 1))))) (val (op2 fIx (nm 1) (val (ret (.int 2)))))) (op2 fLe (val (op2 fIx (nm 1) (val (ret (.int 1))))) (val (op2 fIx (nm 0) (val (ret (.int 2)))))))))
noncomputable def f_law_do_meet : List PyData → Option PyData := runP 2 m_law_do_meet
theorem ok_law_do_meet (T : Tx K mg) : FnG P w K mg base 1 T.a_law_do_meet T.fd_law_do_meet ["one", "other"] (spP 2 f_law_do_meet) :=
  gn_pure (N := ["one", "other"]) (m := m_law_do_meet) T.F_law_do_meet sc_law_do_meet fun cdv A outer s H E hr => ⟨_,
    (eb_one (es_ret (ev_and (v_eq hr.r (EV.ex (ev_ix (ex_var 0) (EV.ex ev_int))) (EV.ex (ev_ix (ex_var 1) (EV.ex ev_int)))) (ev_and (v_le (EV.ex (ev_ix (ex_var 0) (EV.ex ev_int))) (EV.ex (ev_ix (ex_var 1) (EV.ex ev_int)))) (ev_one (v_le (EV.ex (ev_ix (ex_var 1) (EV.ex ev_int))) (EV.ex (ev_ix (ex_var 0) (EV.ex ev_int)))))))))⟩
/-! _law_stands -/
abbrev st_law_stands : Stmt := topS 48
theorem sc_law_stands : FnScope ["claims", "lot", "pins", "place", "other"] ["claims"] (defScope st_law_stands) := ⟨rfl, rfl, rfl, by decide +kernel, rfl, by decide +kernel, by decide +kernel⟩
noncomputable def m_law_stands : S :=
    (sSeq (sPar 1 2 (rvO (mLst aNil)) (rvO (mLst aNil)))
    (sSeq (sFor (mSeq (val (foD (mSrtKey 0 2 (opA fLen (aCons (nm 0) aNil)))))) (stN 3) (sIf (mNot (tbool (opA fAny (aCons (val (foD (mLc (mSeq (nm 1)) [4] (stN 4) (ret true) (mCall 2 f_law_do_meet (aCons (val (op2 fIx (nm 0) (nm 3))) (aCons (val (op2 fIx (nm 0) (nm 4))) aNil)))))) aNil)))) (sSeq (sDrop (mMt fAppend (nm 1) (aCons (val (opA fInt (aCons (nm 3) aNil))) aNil)))
    (sDrop (mMt fAppend (nm 2) (aCons (val (mTup (aCons (val (op2 fIx (val (op2 fIx (nm 0) (nm 3))) (val (ret (.int 0))))) (aCons (val (op2 fIx (val (op2 fIx (nm 0) (nm 3))) (val (ret (.int 2))))) aNil)))) aNil)))) sNx))
    (sRet (mTup (aCons (val (opA fTuple (aCons (val (foD (opA fSorted (aCons (nm 1) aNil)))) aNil))) (aCons (val (opA fTuple (aCons (val (foD (opA fSorted (aCons (nm 2) aNil)))) aNil))) aNil))))))
noncomputable def f_law_stands : List PyData → Option PyData := runP 5 m_law_stands
theorem ok_law_stands (T : Tx K mg) (L : Lm T base) : FnG P w K mg base 2 T.a_law_stands T.fd_law_stands ["claims"] (spP 1 f_law_stands) :=
  gn_pureC (N := ["claims", "lot", "pins", "place", "other"]) (m := m_law_stands) T.F_law_stands sc_law_stands fun cdv A outer s H E hcd hr => ⟨_,
    (eb_cons (es_par 1 2 rfl sc_law_stands.nd (EO.er (eo_lst ea_nil)) (EO.er (eo_lst ea_nil)))
    (eb_cons (es_for PassesOwn.never rfl (ei_seq (EV.ex (EO.ev (o_srtKey 0 2 (q := q_law_stands) rfl L.p_law_stands L.u_law_stands rfl hr T.n_sorted T.n_range (c_len T.n_len (ea_cons (ex_var 0) ea_nil)) L.t_law_stands (hcd.symm.trans T.k_law_stands))))) (eg_name 3 sc_law_stands.nd) (eb_one (es_if (et_not (et_val (c_any rfl T.n_any (ea_cons (EV.ex (EO.ev (eo_lcC (own := [("other", 4)]) rfl sc_law_stands.nd (ei_seq (ex_var 1)) (blkOk_by (by kernel_rfl)) (fun _ _ _ _ _ => ⟨_, _, by decide, (eg_name 4 sc_law_stands.nd)⟩) (fun _ _ _ _ _ => ⟨_, if_nil⟩) (fun _ _ _ _ _ => ⟨_, (ev_callG (ok_law_do_meet T) (hr.mono (by decide)) rfl T.g_law_do_meet T.F_law_do_meet.kp T.b_law_do_meet (ea_cons (EV.ex (ev_ix (ex_var 0) (ex_var 3))) (ea_cons (EV.ex (ev_ix (ex_var 0) (ex_var 4))) ea_nil)))⟩) s))) ea_nil)))) (eb_cons (es_expr (m_append (ex_var 1) (ea_cons (EV.ex (c_int T.n_int (ea_cons (ex_var 3) ea_nil))) ea_nil)))
    (eb_one (es_expr (m_append (ex_var 2) (ea_cons (EV.ex (ev_tup (ea_cons (EV.ex (ev_ix (EV.ex (ev_ix (ex_var 0) (ex_var 3))) (EV.ex ev_int))) (ea_cons (EV.ex (ev_ix (EV.ex (ev_ix (ex_var 0) (ex_var 3))) (EV.ex ev_int))) ea_nil)))) ea_nil))))) eb_nil)))
    (eb_one (es_ret (ev_tup (ea_cons (EV.ex (c_tuple T.n_tuple (ea_cons (EV.ex (EO.ev (o_sorted hr.r T.n_sorted (ea_cons (ex_var 1) ea_nil)))) ea_nil))) (ea_cons (EV.ex (c_tuple T.n_tuple (ea_cons (EV.ex (EO.ev (o_sorted hr.r T.n_sorted (ea_cons (ex_var 2) ea_nil)))) ea_nil))) ea_nil)))))))⟩
/-! _law_rows_of -/
abbrev st_law_rows_of : Stmt := topS 49
theorem sc_law_rows_of : FnScope ["claims", "rows", "place", "other", "taken", "row"] ["claims"] (defScope st_law_rows_of) := ⟨rfl, rfl, rfl, by decide +kernel, rfl, by decide +kernel, by decide +kernel⟩
noncomputable def m_law_rows_of : S :=
    (sSeq (sSet 1 (rvO (ret (.od []))))
    (sSeq (sFor (mSeq (val (foD (mSrtKey 0 1 (opA fLen (aCons (nm 0) aNil)))))) (stN 2) (sSeq (sSet 4 (rvO (mLock 1 (mLc (mKeys (nm 1)) [3] (stN 3) (tbool (mCall 2 f_law_do_meet (aCons (val (op2 fIx (nm 0) (nm 2))) (aCons (val (op2 fIx (nm 0) (nm 3))) aNil)))) (mDGet (nm 1) (dat (nm 3)))))))
    (sDPutM (opA fMin (aCons (val (foD (mLc (mRng (aCons (val (opA fLen (aCons (nm 0) aNil))) aNil)) [5] (stN 5) (tbool (op2 fNin (nm 5) (nm 4))) (dat (nm 5))))) aNil)) (nm 1) (dat (nm 2)))))
    (sRet (opA fTuple (aCons (val (foD (mLc (mRng (aCons (val (opA fLen (aCons (nm 0) aNil))) aNil)) [2] (stN 2) (ret true) (opA fInt (aCons (val (mDGet (nm 1) (dat (nm 2)))) aNil))))) aNil)))))
noncomputable def f_law_rows_of : List PyData → Option PyData := runP 6 m_law_rows_of
theorem ok_law_rows_of (T : Tx K mg) (L : Lm T base) : FnG P w K mg base 2 T.a_law_rows_of T.fd_law_rows_of ["claims"] (spP 1 f_law_rows_of) :=
  gn_pureC (N := ["claims", "rows", "place", "other", "taken", "row"]) (m := m_law_rows_of) T.F_law_rows_of sc_law_rows_of fun cdv A outer s H E hcd hr => ⟨_,
    (eb_cons (es_set 1 sc_law_rows_of.nd (EO.er eo_dnew))
    (eb_cons (es_for PassesOwn.never rfl (ei_seq (EV.ex (EO.ev (o_srtKey 0 1 (q := q_law_rows_of) rfl L.p_law_rows_of L.u_law_rows_of rfl hr T.n_sorted T.n_range (c_len T.n_len (ea_cons (ex_var 0) ea_nil)) L.t_law_rows_of (hcd.symm.trans T.k_law_rows_of))))) (eg_name 2 sc_law_rows_of.nd) (eb_cons (es_lockSet 4 1 sc_law_rows_of.nd (eo_lcC (own := [("other", 3)]) rfl sc_law_rows_of.nd (ei_keys (ex_var 1)) (blkOk_by (by kernel_rfl)) (fun _ _ _ _ _ => ⟨_, _, by decide, (eg_name 3 sc_law_rows_of.nd)⟩) (fun _ _ _ _ _ => ⟨_, (if_one (et_val (ev_callG (ok_law_do_meet T) (hr.mono (by decide)) rfl T.g_law_do_meet T.F_law_do_meet.kp T.b_law_do_meet (ea_cons (EV.ex (ev_ix (ex_var 0) (ex_var 2))) (ea_cons (EV.ex (ev_ix (ex_var 0) (ex_var 3))) ea_nil)))))⟩) (fun _ _ _ _ _ => ⟨_, (ev_dget (hu_of hr.r) (ex_var 1) (ev_var 3))⟩) s))
    (eb_one (es_dput (hu_of hr.r) (c_min rfl T.n_min (ea_cons (EV.ex (EO.ev (eo_lcC (own := [("row", 5)]) rfl sc_law_rows_of.nd (ei_rng rfl T.n_range (ea_cons (EV.ex (c_len T.n_len (ea_cons (ex_var 0) ea_nil))) ea_nil)) (blkOk_by (by kernel_rfl)) (fun _ _ _ _ _ => ⟨_, _, by decide, (eg_name 5 sc_law_rows_of.nd)⟩) (fun _ _ _ _ _ => ⟨_, (if_one (t_nin (ex_var 5) (ex_var 4)))⟩) (fun _ _ _ _ _ => ⟨_, (ev_var 5)⟩) s))) ea_nil)) (ex_var 1) (ev_var 2)))))
    (eb_one (es_ret (c_tuple T.n_tuple (ea_cons (EV.ex (EO.ev (eo_lcC (own := [("place", 2)]) rfl sc_law_rows_of.nd (ei_rng rfl T.n_range (ea_cons (EV.ex (c_len T.n_len (ea_cons (ex_var 0) ea_nil))) ea_nil)) (blkOk_by (by kernel_rfl)) (fun _ _ _ _ _ => ⟨_, _, by decide, (eg_name 2 sc_law_rows_of.nd)⟩) (fun _ _ _ _ _ => ⟨_, if_nil⟩) (fun _ _ _ _ _ => ⟨_, (c_int T.n_int (ea_cons (EV.ex (ev_dget (hu_of hr.r) (ex_var 1) (ev_var 2))) ea_nil))⟩) s))) ea_nil))))))⟩
/-! _law_fullest -/
abbrev st_law_fullest : Stmt := topS 50
theorem sc_law_fullest : FnScope ["claims", "best", "corner", "first", "last", "rank", "place", "its", "lot"] ["claims"] (defScope st_law_fullest) := ⟨rfl, rfl, rfl, by decide +kernel, rfl, by decide +kernel, by decide +kernel⟩
noncomputable def m_law_fullest : S :=
    (sSeq (sSet 1 (rvD (mTup aNil)))
    (sSeq (sFor (mSeq (val (dat (nm 0)))) (tgT (tgC (stN 2) (tgC (stN 3) (tgC (stN 4) (tgC (stN 5) tg0))))) (sSeq (sSet 8 (rvD (opA fTuple (aCons (val (foD (mLc (mEnum (aCons (val (dat (nm 0))) aNil)) [6, 7] (tgT (tgC (stN 6) (tgC (stN 7) tg0))) (mAnd (tbool (op2 fEq (val (op2 fIx (nm 7) (val (ret (.int 0))))) (nm 2))) (tbool (mChain fLe fLe (val (op2 fIx (nm 7) (val (ret (.int 1))))) (nm 3) (val (op2 fIx (nm 7) (val (ret (.int 2)))))))) (opA fInt (aCons (nm 6) aNil))))) aNil))))
    (sSet 1 (rvD (mIte (tbool (op2 fGt (val (opA fLen (aCons (nm 8) aNil))) (val (opA fLen (aCons (nm 1) aNil))))) (dat (nm 8)) (dat (nm 1)))))))
    (sRet (dat (nm 1)))))
noncomputable def f_law_fullest : List PyData → Option PyData := runP 9 m_law_fullest
theorem ok_law_fullest (T : Tx K mg) : FnG P w K mg base 1 T.a_law_fullest T.fd_law_fullest ["claims"] (spP 1 f_law_fullest) :=
  gn_pure (N := ["claims", "best", "corner", "first", "last", "rank", "place", "its", "lot"]) (m := m_law_fullest) T.F_law_fullest sc_law_fullest fun cdv A outer s H E hr => ⟨_,
    (eb_cons (es_set 1 sc_law_fullest.nd (EV.er (ev_tup ea_nil)))
    (eb_cons (es_for PassesOwn.never rfl (ei_seq (EV.ex (ev_var 0))) (eg_tup rfl (egl_cons (eg_name 2 sc_law_fullest.nd) (egl_cons (eg_name 3 sc_law_fullest.nd) (egl_cons (eg_name 4 sc_law_fullest.nd) (egl_cons (eg_name 5 sc_law_fullest.nd) egl_nil))))) (eb_cons (es_set 8 sc_law_fullest.nd (EV.er (c_tuple T.n_tuple (ea_cons (EV.ex (EO.ev (eo_lcC (own := [("place", 6), ("its", 7)]) rfl sc_law_fullest.nd (ei_enum rfl T.n_enumerate (ea_cons (EV.ex (ev_var 0)) ea_nil)) (blkOk_by (by kernel_rfl)) (fun _ _ _ _ _ => ⟨_, _, by decide, (eg_tup rfl (egl_cons (eg_name 6 sc_law_fullest.nd) (egl_cons (eg_name 7 sc_law_fullest.nd) egl_nil)))⟩) (fun _ _ _ _ _ => ⟨_, (if_one (EW.et (ew_and (t_eq hr.r (EV.ex (ev_ix (ex_var 7) (EV.ex ev_int))) (ex_var 2)) (ew_and1 (t_lele (EV.ex (ev_ix (ex_var 7) (EV.ex ev_int))) (ex_var 3) (EV.ex (ev_ix (ex_var 7) (EV.ex ev_int))))))))⟩) (fun _ _ _ _ _ => ⟨_, (c_int T.n_int (ea_cons (ex_var 6) ea_nil))⟩) s))) ea_nil))))
    (eb_one (es_set 1 sc_law_fullest.nd (EV.er (ev_if (t_gt (EV.ex (c_len T.n_len (ea_cons (ex_var 8) ea_nil))) (EV.ex (c_len T.n_len (ea_cons (ex_var 1) ea_nil)))) (ev_var 8) (ev_var 1)))))))
    (eb_one (es_ret (ev_var 1)))))⟩
/-! _law_holds -/
abbrev st_law_holds : Stmt := topS 51
theorem sc_law_holds : FnScope ["claims", "pins", "pin", "its"] ["claims", "pins"] (defScope st_law_holds) := ⟨rfl, rfl, rfl, by decide +kernel, rfl, by decide +kernel, by decide +kernel⟩
noncomputable def m_law_holds : S :=
    (sRet (opA fAll (aCons (val (foD (mLc (mSeq (nm 0)) [3] (stN 3) (ret true) (opA fAny (aCons (val (foD (mLc (mSeq (nm 1)) [2] (stN 2) (ret true) (vAnd (op2 fEq (val (op2 fIx (nm 2) (val (ret (.int 0))))) (val (op2 fIx (nm 3) (val (ret (.int 0)))))) (mChain fLe fLe (val (op2 fIx (nm 3) (val (ret (.int 1))))) (val (op2 fIx (nm 2) (val (ret (.int 1))))) (val (op2 fIx (nm 3) (val (ret (.int 2)))))))))) aNil))))) aNil)))
noncomputable def f_law_holds : List PyData → Option PyData := runP 4 m_law_holds
theorem ok_law_holds (T : Tx K mg) : FnG P w K mg base 1 T.a_law_holds T.fd_law_holds ["claims", "pins"] (spP 2 f_law_holds) :=
  gn_pure (N := ["claims", "pins", "pin", "its"]) (m := m_law_holds) T.F_law_holds sc_law_holds fun cdv A outer s H E hr => ⟨_,
    (eb_one (es_ret (c_all rfl T.n_all (ea_cons (EV.ex (EO.ev (eo_lcC (own := [("its", 3)]) rfl sc_law_holds.nd (ei_seq (ex_var 0)) (blkOk_by (by kernel_rfl)) (fun _ _ _ _ _ => ⟨_, _, by decide, (eg_name 3 sc_law_holds.nd)⟩) (fun _ _ _ _ _ => ⟨_, if_nil⟩) (fun _ _ _ _ _ => ⟨_, (c_any rfl T.n_any (ea_cons (EV.ex (EO.ev (eo_lcC (own := [("pin", 2)]) rfl sc_law_holds.nd (ei_seq (ex_var 1)) (blkOk_by (by kernel_rfl)) (fun _ _ _ _ _ => ⟨_, _, by decide, (eg_name 2 sc_law_holds.nd)⟩) (fun _ _ _ _ _ => ⟨_, if_nil⟩) (fun _ _ _ _ _ => ⟨_, (ev_and (v_eq hr.r (EV.ex (ev_ix (ex_var 2) (EV.ex ev_int))) (EV.ex (ev_ix (ex_var 3) (EV.ex ev_int)))) (ev_one (v_lele (EV.ex (ev_ix (ex_var 3) (EV.ex ev_int))) (EV.ex (ev_ix (ex_var 2) (EV.ex ev_int))) (EV.ex (ev_ix (ex_var 3) (EV.ex ev_int))))))⟩) s))) ea_nil))⟩) s))) ea_nil))))⟩
/-! _law_pairs -/
abbrev st_law_pairs : Stmt := topS 53
theorem sc_law_pairs : FnScope ["lot", "found", "one", "other"] ["lot"] (defScope st_law_pairs) := ⟨rfl, rfl, rfl, by decide +kernel, rfl, by decide +kernel, by decide +kernel⟩
noncomputable def m_law_pairs : S :=
    (sSeq (sSet 1 (rvO (mLst aNil)))
    (sSeq (sFor (mSeq (val (dat (nm 0)))) (stN 2) (sDrop (mMt fExtend (nm 1) (aCons (val (foD (mLc (mSeq (nm 0)) [3] (stN 3) (ret true) (mTup (aCons (val (dat (nm 2))) (aCons (val (dat (nm 3))) aNil)))))) aNil))))
    (sRet (dat (nm 1)))))
noncomputable def f_law_pairs : List PyData → Option PyData := runP 4 m_law_pairs
theorem ok_law_pairs (T : Tx K mg) : FnG P w K mg base 1 T.a_law_pairs T.fd_law_pairs ["lot"] (spP 1 f_law_pairs) :=
  gn_pure (N := ["lot", "found", "one", "other"]) (m := m_law_pairs) T.F_law_pairs sc_law_pairs fun cdv A outer s H E hr => ⟨_,
    (eb_cons (es_set 1 sc_law_pairs.nd (EO.er (eo_lst ea_nil)))
    (eb_cons (es_for PassesOwn.never rfl (ei_seq (EV.ex (ev_var 0))) (eg_name 2 sc_law_pairs.nd) (eb_one (es_expr (m_extend (ex_var 1) (ea_cons (EV.ex (EO.ev (eo_lcC (own := [("other", 3)]) rfl sc_law_pairs.nd (ei_seq (ex_var 0)) (blkOk_by (by kernel_rfl)) (fun _ _ _ _ _ => ⟨_, _, by decide, (eg_name 3 sc_law_pairs.nd)⟩) (fun _ _ _ _ _ => ⟨_, if_nil⟩) (fun _ _ _ _ _ => ⟨_, (ev_tup (ea_cons (EV.ex (ev_var 2)) (ea_cons (EV.ex (ev_var 3)) ea_nil)))⟩) s))) ea_nil)))))
    (eb_one (es_ret (ev_var 1)))))⟩
/-! _law_is_free -/
abbrev st_law_is_free : Stmt := topS 52
theorem sc_law_is_free : FnScope ["claims", "lot", "one", "other"] ["claims", "lot"] (defScope st_law_is_free) := ⟨rfl, rfl, rfl, by decide +kernel, rfl, by decide +kernel, by decide +kernel⟩
noncomputable def m_law_is_free : S :=
    (sRet (vNot (opA fAny (aCons (val (foD (mLc (mSeq (val (mCall 1 f_law_pairs (aCons (val (dat (nm 1))) aNil)))) [2, 3] (tgT (tgC (stN 2) (tgC (stN 3) tg0))) (ret true) (vAnd (mCall 2 f_law_do_meet (aCons (val (op2 fIx (nm 0) (nm 2))) (aCons (val (op2 fIx (nm 0) (nm 3))) aNil))) (op2 fLt (nm 2) (nm 3)))))) aNil))))
noncomputable def f_law_is_free : List PyData → Option PyData := runP 4 m_law_is_free
theorem ok_law_is_free (T : Tx K mg) : FnG P w K mg base 2 T.a_law_is_free T.fd_law_is_free ["claims", "lot"] (spP 2 f_law_is_free) :=
  gn_pure (N := ["claims", "lot", "one", "other"]) (m := m_law_is_free) T.F_law_is_free sc_law_is_free fun cdv A outer s H E hr => ⟨_,
    (eb_one (es_ret (ev_not (c_any rfl T.n_any (ea_cons (EV.ex (EO.ev (eo_lcC (own := [("one", 2), ("other", 3)]) rfl sc_law_is_free.nd (ei_seq (EV.ex (ev_callG (ok_law_pairs T) (hr.mono (by decide)) rfl T.g_law_pairs T.F_law_pairs.kp T.b_law_pairs (ea_cons (EV.ex (ev_var 1)) ea_nil)))) (blkOk_by (by kernel_rfl)) (fun _ _ _ _ _ => ⟨_, _, by decide, (eg_tup rfl (egl_cons (eg_name 2 sc_law_is_free.nd) (egl_cons (eg_name 3 sc_law_is_free.nd) egl_nil)))⟩) (fun _ _ _ _ _ => ⟨_, if_nil⟩) (fun _ _ _ _ _ => ⟨_, (ev_and (ev_callG (ok_law_do_meet T) (hr.mono (by decide)) rfl T.g_law_do_meet T.F_law_do_meet.kp T.b_law_do_meet (ea_cons (EV.ex (ev_ix (ex_var 0) (ex_var 2))) (ea_cons (EV.ex (ev_ix (ex_var 0) (ex_var 3))) ea_nil))) (ev_one (v_lt hr.r (ex_var 2) (ex_var 3))))⟩) s))) ea_nil)))))⟩
end
end K15
end
section
namespace K15
open PySem PySem.Spec PyProof.Rows L2 DL
section
variable [Tbs] {P : Program} {w : World} {K : PySem.W.Frag} {mg : Str → Option Value} {base : Heap}
/-! _law_right -/
abbrev st_law_right : Stmt := topS 54
theorem sc_law_right : FnScope ["pot", "claims", "lot", "pins", "rows", "full", "number", "its", "told", "many", "places", "held", "row", "one", "other", "stands", "most", "fine", "corner", "place", "here", "some", "bar", "wide"] ["pot"] (defScope st_law_right) := ⟨rfl, rfl, rfl, by decide +kernel, rfl, by decide +kernel, by decide +kernel⟩
noncomputable def m_law_right : S :=
    (sSeq (sSet 1 (rvD (mCallI 2 f_law_claims (aCons (nm 0) (aCons (val (ret (.int 8))) (aCons (val (ret (.int 7))) aNil))))))
    (sSeq (sIf (tbool (op2 fNis (val (mCall 1 f_are_claims (aCons (val (dat (nm 1))) aNil))) (val (ret (.bool true))))) (sRet (ret (.bool false))) sNx)
    (sSeq (sTgt (mCall 1 f_law_stands (aCons (val (dat (nm 1))) aNil)) (tgT (tgC (stN 2) (tgC (stN 3) tg0))))
    (sSeq (sPar 4 5 (rvD (mCall 1 f_law_rows_of (aCons (val (dat (nm 1))) aNil))) (rvD (mCall 1 f_law_fullest (aCons (val (dat (nm 1))) aNil))))
    (sSeq (sTgt (mCall 1 f_most_stands (aCons (val (dat (nm 1))) aNil)) (tgT (tgC (stN 6) (tgC (stN 7) (tgC (stN 8) tg0)))))
    (sSeq (sIf (mOr (tbool (op2 fNe (val (opA fRepr (aCons (nm 6) aNil))) (val (opA fRepr (aCons (val (opA fLen (aCons (nm 2) aNil))) aNil))))) (mOr (tbool (op2 fNe (val (opA fLen (aCons (nm 7) aNil))) (nm 6))) (mOr (tbool (op2 fNe (val (opA fLen (aCons (nm 8) aNil))) (nm 6))) (mOr (tbool (op2 fNe (val (foD (opA fList (aCons (nm 7) aNil)))) (val (foD (mSrtSet (nm 7)))))) (tbool (op2 fNe (val (foD (opA fList (aCons (nm 8) aNil)))) (val (foD (mSrtSet (nm 8)))))))))) (sRet (ret (.bool false))) sNx)
    (sSeq (sIf (mOr (mNot (tbool (mCall 2 f_law_is_free (aCons (val (dat (nm 1))) (aCons (val (dat (nm 7))) aNil))))) (mOr (mNot (tbool (mCall 2 f_law_holds (aCons (val (dat (nm 1))) (aCons (val (dat (nm 8))) aNil))))) (tbool (op2 fNis (val (mCall 2 f_shows_most_stands (aCons (val (dat (nm 1))) (aCons (val (mTup (aCons (val (dat (nm 6))) (aCons (val (dat (nm 7))) (aCons (val (dat (nm 8))) aNil))))) aNil)))) (val (ret (.bool true))))))) (sRet (ret (.bool false))) sNx)
    (sSeq (sIf (mOr (tbool (op2 fNis (val (mCall 2 f_shows_most_stands (aCons (val (dat (nm 1))) (aCons (val (mTup (aCons (val (dat (nm 6))) (aCons (val (dat (nm 2))) (aCons (val (dat (nm 3))) aNil))))) aNil)))) (val (ret (.bool true))))) (mAnd (tbool (op2 fGt (nm 6) (val (ret (.int 0))))) (tbool (op2 fNis (val (mCall 2 f_shows_most_stands (aCons (val (dat (nm 1))) (aCons (val (mTup (aCons (val (op2 fSub (nm 6) (val (ret (.int 1))))) (aCons (val (mCut (nm 2) (pYes (ret (.int 1))) pNo)) (aCons (val (mCut (nm 3) (pYes (ret (.int 1))) pNo)) aNil))))) aNil)))) (val (ret (.bool false))))))) (sRet (ret (.bool false))) sNx)
    (sSeq (sTgt (mCall 1 f_fewest_rows (aCons (val (dat (nm 1))) aNil)) (tgT (tgC (stN 9) (tgC (stN 10) (tgC (stN 11) tg0)))))
    (sSeq (sIf (mOr (tbool (op2 fNe (val (opA fRepr (aCons (nm 9) aNil))) (val (opA fRepr (aCons (val (opA fLen (aCons (nm 5) aNil))) aNil))))) (mOr (tbool (op2 fNe (val (opA fLen (aCons (nm 10) aNil))) (val (opA fLen (aCons (nm 1) aNil))))) (mNot (tbool (opA fAll (aCons (val (foD (mLc (mSeq (nm 10)) [12] (stN 12) (ret true) (mCall 3 f_law_is_int (aCons (val (dat (nm 12))) (aCons (val (ret (.int 0))) (aCons (val (op2 fSub (nm 9) (val (ret (.int 1))))) aNil))))))) aNil)))))) (sRet (ret (.bool false))) sNx)
    (sSeq (sIf (tbool (opA fAny (aCons (val (foD (mLc (mSeq (val (mCall 1 f_law_pairs (aCons (val (foD (mListRng (opA fLen (aCons (nm 1) aNil))))) aNil)))) [13, 14] (tgT (tgC (stN 13) (tgC (stN 14) tg0))) (ret true) (vAnd (op2 fEq (val (op2 fIx (nm 10) (nm 13))) (val (op2 fIx (nm 10) (nm 14)))) (vAnd (op2 fLt (nm 13) (nm 14)) (mCall 2 f_law_do_meet (aCons (val (op2 fIx (nm 1) (nm 13))) (aCons (val (op2 fIx (nm 1) (nm 14))) aNil)))))))) aNil))) (sRet (ret (.bool false))) sNx)
    (sSeq (sIf (mOr (tbool (op2 fNis (val (mCall 2 f_shows_fewest_rows (aCons (val (dat (nm 1))) (aCons (val (mTup (aCons (val (dat (nm 9))) (aCons (val (dat (nm 4))) (aCons (val (dat (nm 5))) aNil))))) aNil)))) (val (ret (.bool true))))) (tbool (op2 fNis (val (mCall 2 f_shows_fewest_rows (aCons (val (dat (nm 1))) (aCons (val (mTup (aCons (val (dat (nm 9))) (aCons (val (dat (nm 10))) (aCons (val (dat (nm 11))) aNil))))) aNil)))) (val (ret (.bool true)))))) (sRet (ret (.bool false))) sNx)
    (sSeq (sIf (mAnd (tbool (op2 fGt (nm 9) (val (ret (.int 0))))) (tbool (op2 fNis (val (mCall 2 f_shows_fewest_rows (aCons (val (dat (nm 1))) (aCons (val (mTup (aCons (val (op2 fAdd (nm 9) (val (ret (.int 1))))) (aCons (val (dat (nm 4))) (aCons (val (dat (nm 5))) aNil))))) aNil)))) (val (ret (.bool false)))))) (sRet (ret (.bool false))) sNx)
    (sSeq (sPar3 15 16 17 (rvD (ret (.int 0))) (rvD (ret (.int 0))) (rvO (mLst aNil)))
    (sSeq (sFor (mRng (aCons (val (ret (.int 7))) aNil)) (stN 18) (sSeq (sSet 20 (rvO (mLc (mRng (aCons (val (opA fLen (aCons (nm 1) aNil))) aNil)) [19] (stN 19) (tbool (op2 fEq (val (op2 fIx (val (op2 fIx (nm 1) (nm 19))) (val (ret (.int 0))))) (nm 18))) (dat (nm 19)))))
    (sSeq (sSet 21 (rvD (opA fTuple (aCons (val (foD (mLc (mSeq (nm 20)) [19] (stN 19) (ret true) (op2 fIx (nm 1) (nm 19))))) aNil))))
    (sSeq (sPar 15 16 (rvD (op2 fAdd (nm 15) (val (op2 fIx (val (mCall 1 f_most_stands (aCons (val (dat (nm 21))) aNil))) (val (ret (.int 0))))))) (rvD (opA fMax (aCons (nm 16) (aCons (val (op2 fIx (val (mCall 1 f_fewest_rows (aCons (val (dat (nm 21))) aNil))) (val (ret (.int 0))))) aNil)))))
    (sSeq (sDrop (mMt fExtend (nm 17) (aCons (val (foD (mLc (mSeq (val (mCall 1 f_granted (aCons (val (dat (nm 21))) aNil)))) [19] (stN 19) (ret true) (op2 fIx (nm 20) (nm 19))))) aNil)))
    (sFor (mRng (aCons (val (opA fLen (aCons (nm 21) aNil))) aNil)) (stN 19) (sSeq (sPar 22 23 (rvD (mCall 2 f_barred_by (aCons (val (dat (nm 21))) (aCons (val (dat (nm 19))) aNil)))) (rvD (mCall 2 f_barred_by (aCons (val (dat (nm 1))) (aCons (val (op2 fIx (nm 20) (nm 19))) aNil)))))
    (sIf (mOr (tbool (op2 fNe (val (op2 fIs (nm 22) (val (ret .none)))) (val (op2 fIs (nm 23) (val (ret .none)))))) (mAnd (tbool (op2 fNis (nm 22) (val (ret .none)))) (tbool (op2 fNe (val (op2 fIx (nm 20) (nm 22))) (nm 23))))) (sRet (ret (.bool false))) sNx))))))))
    (sSeq (sIf (mOr (tbool (op2 fNe (nm 15) (nm 6))) (mOr (tbool (op2 fNe (nm 16) (nm 9))) (tbool (op2 fNe (val (opA fRepr (aCons (val (mCall 1 f_granted (aCons (val (dat (nm 1))) aNil))) aNil))) (val (opA fRepr (aCons (val (opA fTuple (aCons (val (foD (opA fSorted (aCons (nm 17) aNil)))) aNil))) aNil))))))) (sRet (ret (.bool false))) sNx)
    (sRet (opA fAll (aCons (val (foD (mLc (mSeq (val (mCall 1 f_law_pairs (aCons (val (foD (mListRng (opA fLen (aCons (nm 1) aNil))))) aNil)))) [13, 14] (tgT (tgC (stN 13) (tgC (stN 14) tg0))) (ret true) (op2 fEq (val (mCall 3 f_do_meet (aCons (val (dat (nm 1))) (aCons (val (dat (nm 13))) (aCons (val (dat (nm 14))) aNil))))) (val (mCall 2 f_law_do_meet (aCons (val (op2 fIx (nm 1) (nm 13))) (aCons (val (op2 fIx (nm 1) (nm 14))) aNil)))))))) aNil)))))))))))))))))))
noncomputable def f_law_right : List PyData → List PyData → Option (PyData × List PyData) := runB 24 m_law_right
theorem ok_law_right (T : Tx K mg) (L : Lm T base) : FnG P w K mg base 8 T.a_law_right T.fd_law_right ["pot"] (spB 0 f_law_right) :=
  gn_lent (N := ["pot", "claims", "lot", "pins", "rows", "full", "number", "its", "told", "many", "places", "held", "row", "one", "other", "stands", "most", "fine", "corner", "place", "here", "some", "bar", "wide"]) (m := m_law_right) T.F_law_right sc_law_right fun cdv A outer s H E hr => ⟨_,
    (eb_cons (es_set 1 sc_law_right.nd (EV.er (ev_callI (ok_law_claims T) (hr.mono (by decide)) rfl T.g_law_claims T.F_law_claims.kp T.b_law_claims (ea_cons (ex_var 0) (ea_cons (EV.ex ev_int) (ea_cons (EV.ex ev_int) ea_nil))))))
    (eb_cons (es_if (t_nis (EV.ex (ev_callG (ok_are_claims T) (hr.mono (by decide)) rfl T.g_are_claims T.F_are_claims.kp T.b_are_claims (ea_cons (EV.ex (ev_var 1)) ea_nil))) (EV.ex ev_bl)) (eb_one (es_ret ev_bl)) eb_nil)
    (eb_cons (es_tgt (ev_callG (ok_law_stands T L) (hr.mono (by decide)) rfl T.g_law_stands T.F_law_stands.kp T.b_law_stands (ea_cons (EV.ex (ev_var 1)) ea_nil)) (eg_tup rfl (egl_cons (eg_name 2 sc_law_right.nd) (egl_cons (eg_name 3 sc_law_right.nd) egl_nil))))
    (eb_cons (es_par 4 5 rfl sc_law_right.nd (EV.er (ev_callG (ok_law_rows_of T L) (hr.mono (by decide)) rfl T.g_law_rows_of T.F_law_rows_of.kp T.b_law_rows_of (ea_cons (EV.ex (ev_var 1)) ea_nil))) (EV.er (ev_callG (ok_law_fullest T) (hr.mono (by decide)) rfl T.g_law_fullest T.F_law_fullest.kp T.b_law_fullest (ea_cons (EV.ex (ev_var 1)) ea_nil))))
    (eb_cons (es_tgt (ev_callG (ok_most_stands T) (hr.mono (by decide)) rfl T.g_most_stands T.F_most_stands.kp T.b_most_stands (ea_cons (EV.ex (ev_var 1)) ea_nil)) (eg_tup rfl (egl_cons (eg_name 6 sc_law_right.nd) (egl_cons (eg_name 7 sc_law_right.nd) (egl_cons (eg_name 8 sc_law_right.nd) egl_nil)))))
    (eb_cons (es_if (EW.et (ew_or (t_ne hr.r (EV.ex (c_repr hr T.n_repr (ea_cons (ex_var 6) ea_nil))) (EV.ex (c_repr hr T.n_repr (ea_cons (EV.ex (c_len T.n_len (ea_cons (ex_var 2) ea_nil))) ea_nil)))) (ew_or (t_ne hr.r (EV.ex (c_len T.n_len (ea_cons (ex_var 7) ea_nil))) (ex_var 6)) (ew_or (t_ne hr.r (EV.ex (c_len T.n_len (ea_cons (ex_var 8) ea_nil))) (ex_var 6)) (ew_or (t_ne hr.r (EV.ex (EO.ev (o_list T.n_list (ea_cons (ex_var 7) ea_nil)))) (EV.ex (EO.ev (o_srtSet rfl hr T.n_sorted T.n_set (ex_var 7))))) (ew_or1 (t_ne hr.r (EV.ex (EO.ev (o_list T.n_list (ea_cons (ex_var 8) ea_nil)))) (EV.ex (EO.ev (o_srtSet rfl hr T.n_sorted T.n_set (ex_var 8))))))))))) (eb_one (es_ret ev_bl)) eb_nil)
    (eb_cons (es_if (EW.et (ew_or (et_not (et_val (ev_callG (ok_law_is_free T) (hr.mono (by decide)) rfl T.g_law_is_free T.F_law_is_free.kp T.b_law_is_free (ea_cons (EV.ex (ev_var 1)) (ea_cons (EV.ex (ev_var 7)) ea_nil))))) (ew_or (et_not (et_val (ev_callG (ok_law_holds T) (hr.mono (by decide)) rfl T.g_law_holds T.F_law_holds.kp T.b_law_holds (ea_cons (EV.ex (ev_var 1)) (ea_cons (EV.ex (ev_var 8)) ea_nil))))) (ew_or1 (t_nis (EV.ex (ev_callG (ok_shows_most_stands T) (hr.mono (by decide)) rfl T.g_shows_most_stands T.F_shows_most_stands.kp T.b_shows_most_stands (ea_cons (EV.ex (ev_var 1)) (ea_cons (EV.ex (ev_tup (ea_cons (EV.ex (ev_var 6)) (ea_cons (EV.ex (ev_var 7)) (ea_cons (EV.ex (ev_var 8)) ea_nil))))) ea_nil)))) (EV.ex ev_bl)))))) (eb_one (es_ret ev_bl)) eb_nil)
    (eb_cons (es_if (EW.et (ew_or (t_nis (EV.ex (ev_callG (ok_shows_most_stands T) (hr.mono (by decide)) rfl T.g_shows_most_stands T.F_shows_most_stands.kp T.b_shows_most_stands (ea_cons (EV.ex (ev_var 1)) (ea_cons (EV.ex (ev_tup (ea_cons (EV.ex (ev_var 6)) (ea_cons (EV.ex (ev_var 2)) (ea_cons (EV.ex (ev_var 3)) ea_nil))))) ea_nil)))) (EV.ex ev_bl)) (ew_or1 (EW.et (ew_and (t_gt (ex_var 6) (EV.ex ev_int)) (ew_and1 (t_nis (EV.ex (ev_callG (ok_shows_most_stands T) (hr.mono (by decide)) rfl T.g_shows_most_stands T.F_shows_most_stands.kp T.b_shows_most_stands (ea_cons (EV.ex (ev_var 1)) (ea_cons (EV.ex (ev_tup (ea_cons (EV.ex (v_sub (ex_var 6) (EV.ex ev_int))) (ea_cons (EV.ex (ev_cut (ex_var 2) (ep_some ev_int) ep_none)) (ea_cons (EV.ex (ev_cut (ex_var 3) (ep_some ev_int) ep_none)) ea_nil))))) ea_nil)))) (EV.ex ev_bl)))))))) (eb_one (es_ret ev_bl)) eb_nil)
    (eb_cons (es_tgt (ev_callG (ok_fewest_rows T) (hr.mono (by decide)) rfl T.g_fewest_rows T.F_fewest_rows.kp T.b_fewest_rows (ea_cons (EV.ex (ev_var 1)) ea_nil)) (eg_tup rfl (egl_cons (eg_name 9 sc_law_right.nd) (egl_cons (eg_name 10 sc_law_right.nd) (egl_cons (eg_name 11 sc_law_right.nd) egl_nil)))))
    (eb_cons (es_if (EW.et (ew_or (t_ne hr.r (EV.ex (c_repr hr T.n_repr (ea_cons (ex_var 9) ea_nil))) (EV.ex (c_repr hr T.n_repr (ea_cons (EV.ex (c_len T.n_len (ea_cons (ex_var 5) ea_nil))) ea_nil)))) (ew_or (t_ne hr.r (EV.ex (c_len T.n_len (ea_cons (ex_var 10) ea_nil))) (EV.ex (c_len T.n_len (ea_cons (ex_var 1) ea_nil)))) (ew_or1 (et_not (et_val (c_all rfl T.n_all (ea_cons (EV.ex (EO.ev (eo_lcC (own := [("row", 12)]) rfl sc_law_right.nd (ei_seq (ex_var 10)) (blkOk_by (by kernel_rfl)) (fun _ _ _ _ _ => ⟨_, _, by decide, (eg_name 12 sc_law_right.nd)⟩) (fun _ _ _ _ _ => ⟨_, if_nil⟩) (fun _ _ _ _ _ => ⟨_, (ev_callG (ok_law_is_int T) (hr.mono (by decide)) rfl T.g_law_is_int T.F_law_is_int.kp T.b_law_is_int (ea_cons (EV.ex (ev_var 12)) (ea_cons (EV.ex ev_int) (ea_cons (EV.ex (v_sub (ex_var 9) (EV.ex ev_int))) ea_nil))))⟩) s))) ea_nil)))))))) (eb_one (es_ret ev_bl)) eb_nil)
    (eb_cons (es_if (et_val (c_any rfl T.n_any (ea_cons (EV.ex (EO.ev (eo_lcC (own := [("one", 13), ("other", 14)]) rfl sc_law_right.nd (ei_seq (EV.ex (ev_callG (ok_law_pairs T) (hr.mono (by decide)) rfl T.g_law_pairs T.F_law_pairs.kp T.b_law_pairs (ea_cons (EV.ex (EO.ev (o_listRange rfl T.n_list T.n_range (c_len T.n_len (ea_cons (ex_var 1) ea_nil))))) ea_nil)))) (blkOk_by (by kernel_rfl)) (fun _ _ _ _ _ => ⟨_, _, by decide, (eg_tup rfl (egl_cons (eg_name 13 sc_law_right.nd) (egl_cons (eg_name 14 sc_law_right.nd) egl_nil)))⟩) (fun _ _ _ _ _ => ⟨_, if_nil⟩) (fun _ _ _ _ _ => ⟨_, (ev_and (v_eq hr.r (EV.ex (ev_ix (ex_var 10) (ex_var 13))) (EV.ex (ev_ix (ex_var 10) (ex_var 14)))) (ev_and (v_lt hr.r (ex_var 13) (ex_var 14)) (ev_one (ev_callG (ok_law_do_meet T) (hr.mono (by decide)) rfl T.g_law_do_meet T.F_law_do_meet.kp T.b_law_do_meet (ea_cons (EV.ex (ev_ix (ex_var 1) (ex_var 13))) (ea_cons (EV.ex (ev_ix (ex_var 1) (ex_var 14))) ea_nil))))))⟩) s))) ea_nil))) (eb_one (es_ret ev_bl)) eb_nil)
    (eb_cons (es_if (EW.et (ew_or (t_nis (EV.ex (ev_callG (ok_shows_fewest_rows T) (hr.mono (by decide)) rfl T.g_shows_fewest_rows T.F_shows_fewest_rows.kp T.b_shows_fewest_rows (ea_cons (EV.ex (ev_var 1)) (ea_cons (EV.ex (ev_tup (ea_cons (EV.ex (ev_var 9)) (ea_cons (EV.ex (ev_var 4)) (ea_cons (EV.ex (ev_var 5)) ea_nil))))) ea_nil)))) (EV.ex ev_bl)) (ew_or1 (t_nis (EV.ex (ev_callG (ok_shows_fewest_rows T) (hr.mono (by decide)) rfl T.g_shows_fewest_rows T.F_shows_fewest_rows.kp T.b_shows_fewest_rows (ea_cons (EV.ex (ev_var 1)) (ea_cons (EV.ex (ev_tup (ea_cons (EV.ex (ev_var 9)) (ea_cons (EV.ex (ev_var 10)) (ea_cons (EV.ex (ev_var 11)) ea_nil))))) ea_nil)))) (EV.ex ev_bl))))) (eb_one (es_ret ev_bl)) eb_nil)
    (eb_cons (es_if (EW.et (ew_and (t_gt (ex_var 9) (EV.ex ev_int)) (ew_and1 (t_nis (EV.ex (ev_callG (ok_shows_fewest_rows T) (hr.mono (by decide)) rfl T.g_shows_fewest_rows T.F_shows_fewest_rows.kp T.b_shows_fewest_rows (ea_cons (EV.ex (ev_var 1)) (ea_cons (EV.ex (ev_tup (ea_cons (EV.ex (v_add (ex_var 9) (EV.ex ev_int))) (ea_cons (EV.ex (ev_var 4)) (ea_cons (EV.ex (ev_var 5)) ea_nil))))) ea_nil)))) (EV.ex ev_bl))))) (eb_one (es_ret ev_bl)) eb_nil)
    (eb_cons (es_par3 15 16 17 rfl sc_law_right.nd (EV.er ev_int) (EV.er ev_int) (EO.er (eo_lst ea_nil)))
    (eb_cons (es_for PassesOwn.never rfl (ei_rng rfl T.n_range (ea_cons (EV.ex ev_int) ea_nil)) (eg_name 18 sc_law_right.nd) (eb_cons (es_set 20 sc_law_right.nd (EO.er (eo_lcC (own := [("place", 19)]) rfl sc_law_right.nd (ei_rng rfl T.n_range (ea_cons (EV.ex (c_len T.n_len (ea_cons (ex_var 1) ea_nil))) ea_nil)) (blkOk_by (by kernel_rfl)) (fun _ _ _ _ _ => ⟨_, _, by decide, (eg_name 19 sc_law_right.nd)⟩) (fun _ _ _ _ _ => ⟨_, (if_one (t_eq hr.r (EV.ex (ev_ix (EV.ex (ev_ix (ex_var 1) (ex_var 19))) (EV.ex ev_int))) (ex_var 18)))⟩) (fun _ _ _ _ _ => ⟨_, (ev_var 19)⟩) s)))
    (eb_cons (es_set 21 sc_law_right.nd (EV.er (c_tuple T.n_tuple (ea_cons (EV.ex (EO.ev (eo_lcC (own := [("place", 19)]) rfl sc_law_right.nd (ei_seq (ex_var 20)) (blkOk_by (by kernel_rfl)) (fun _ _ _ _ _ => ⟨_, _, by decide, (eg_name 19 sc_law_right.nd)⟩) (fun _ _ _ _ _ => ⟨_, if_nil⟩) (fun _ _ _ _ _ => ⟨_, (ev_ix (ex_var 1) (ex_var 19))⟩) s))) ea_nil))))
    (eb_cons (es_par 15 16 rfl sc_law_right.nd (EV.er (v_add (ex_var 15) (EV.ex (ev_ix (EV.ex (ev_callG (ok_most_stands T) (hr.mono (by decide)) rfl T.g_most_stands T.F_most_stands.kp T.b_most_stands (ea_cons (EV.ex (ev_var 21)) ea_nil))) (EV.ex ev_int))))) (EV.er (c_max rfl T.n_max (ea_cons (ex_var 16) (ea_cons (EV.ex (ev_ix (EV.ex (ev_callG (ok_fewest_rows T) (hr.mono (by decide)) rfl T.g_fewest_rows T.F_fewest_rows.kp T.b_fewest_rows (ea_cons (EV.ex (ev_var 21)) ea_nil))) (EV.ex ev_int))) ea_nil)))))
    (eb_cons (es_expr (m_extend (ex_var 17) (ea_cons (EV.ex (EO.ev (eo_lcC (own := [("place", 19)]) rfl sc_law_right.nd (ei_seq (EV.ex (ev_callG (ok_granted T) (hr.mono (by decide)) rfl T.g_granted T.F_granted.kp T.b_granted (ea_cons (EV.ex (ev_var 21)) ea_nil)))) (blkOk_by (by kernel_rfl)) (fun _ _ _ _ _ => ⟨_, _, by decide, (eg_name 19 sc_law_right.nd)⟩) (fun _ _ _ _ _ => ⟨_, if_nil⟩) (fun _ _ _ _ _ => ⟨_, (ev_ix (ex_var 20) (ex_var 19))⟩) s))) ea_nil)))
    (eb_one (es_for PassesOwn.never rfl (ei_rng rfl T.n_range (ea_cons (EV.ex (c_len T.n_len (ea_cons (ex_var 21) ea_nil))) ea_nil)) (eg_name 19 sc_law_right.nd) (eb_cons (es_par 22 23 rfl sc_law_right.nd (EV.er (ev_callG (ok_barred_by T) (hr.mono (by decide)) rfl T.g_barred_by T.F_barred_by.kp T.b_barred_by (ea_cons (EV.ex (ev_var 21)) (ea_cons (EV.ex (ev_var 19)) ea_nil)))) (EV.er (ev_callG (ok_barred_by T) (hr.mono (by decide)) rfl T.g_barred_by T.F_barred_by.kp T.b_barred_by (ea_cons (EV.ex (ev_var 1)) (ea_cons (EV.ex (ev_ix (ex_var 20) (ex_var 19))) ea_nil)))))
    (eb_one (es_if (EW.et (ew_or (t_ne hr.r (EV.ex (v_is (ex_var 22) (EV.ex ev_non))) (EV.ex (v_is (ex_var 23) (EV.ex ev_non)))) (ew_or1 (EW.et (ew_and (t_nis (ex_var 22) (EV.ex ev_non)) (ew_and1 (t_ne hr.r (EV.ex (ev_ix (ex_var 20) (ex_var 22))) (ex_var 23)))))))) (eb_one (es_ret ev_bl)) eb_nil))))))))))
    (eb_cons (es_if (EW.et (ew_or (t_ne hr.r (ex_var 15) (ex_var 6)) (ew_or (t_ne hr.r (ex_var 16) (ex_var 9)) (ew_or1 (t_ne hr.r (EV.ex (c_repr hr T.n_repr (ea_cons (EV.ex (ev_callG (ok_granted T) (hr.mono (by decide)) rfl T.g_granted T.F_granted.kp T.b_granted (ea_cons (EV.ex (ev_var 1)) ea_nil))) ea_nil))) (EV.ex (c_repr hr T.n_repr (ea_cons (EV.ex (c_tuple T.n_tuple (ea_cons (EV.ex (EO.ev (o_sorted hr.r T.n_sorted (ea_cons (ex_var 17) ea_nil)))) ea_nil))) ea_nil)))))))) (eb_one (es_ret ev_bl)) eb_nil)
    (eb_one (es_ret (c_all rfl T.n_all (ea_cons (EV.ex (EO.ev (eo_lcC (own := [("one", 13), ("other", 14)]) rfl sc_law_right.nd (ei_seq (EV.ex (ev_callG (ok_law_pairs T) (hr.mono (by decide)) rfl T.g_law_pairs T.F_law_pairs.kp T.b_law_pairs (ea_cons (EV.ex (EO.ev (o_listRange rfl T.n_list T.n_range (c_len T.n_len (ea_cons (ex_var 1) ea_nil))))) ea_nil)))) (blkOk_by (by kernel_rfl)) (fun _ _ _ _ _ => ⟨_, _, by decide, (eg_tup rfl (egl_cons (eg_name 13 sc_law_right.nd) (egl_cons (eg_name 14 sc_law_right.nd) egl_nil)))⟩) (fun _ _ _ _ _ => ⟨_, if_nil⟩) (fun _ _ _ _ _ => ⟨_, (v_eq hr.r (EV.ex (ev_callG (ok_do_meet T) (hr.mono (by decide)) rfl T.g_do_meet T.F_do_meet.kp T.b_do_meet (ea_cons (EV.ex (ev_var 1)) (ea_cons (EV.ex (ev_var 13)) (ea_cons (EV.ex (ev_var 14)) ea_nil))))) (EV.ex (ev_callG (ok_law_do_meet T) (hr.mono (by decide)) rfl T.g_law_do_meet T.F_law_do_meet.kp T.b_law_do_meet (ea_cons (EV.ex (ev_ix (ex_var 1) (ex_var 13))) (ea_cons (EV.ex (ev_ix (ex_var 1) (ex_var 14))) ea_nil)))))⟩) s))) ea_nil))))))))))))))))))))⟩
/-! law -/
abbrev st_law : Stmt := topS 55
theorem sc_law : FnScope ["script", "place"] ["script"] (defScope st_law) := ⟨rfl, rfl, rfl, by decide +kernel, rfl, by decide +kernel, by decide +kernel⟩
noncomputable def m_law : S :=
    (sRet (opA fAll (aCons (val (foD (mLc (mSeq (val (mCall 2 f_law_cells (aCons (val (dat (nm 0))) (aCons (val (ret (.int 3))) aNil))))) [1] (stN 1) (ret true) (mCallF f_law_right (mCallO 2 f_law_pot (aCons (val (dat (nm 0))) (aCons (val (dat (nm 1))) aNil))))))) aNil)))
noncomputable def f_law : List PyData → Option PyData := runP 2 m_law
theorem ok_law (T : Tx K mg) (L : Lm T base) : FnG P w K mg base 9 T.a_law T.fd_law ["script"] (spP 1 f_law) :=
  gn_pure (N := ["script", "place"]) (m := m_law) T.F_law sc_law fun cdv A outer s H E hr => ⟨_,
    (eb_one (es_ret (c_all rfl T.n_all (ea_cons (EV.ex (EO.ev (eo_lcC (own := [("place", 1)]) rfl sc_law.nd (ei_seq (EV.ex (ev_callG (ok_law_cells T) (hr.mono (by decide)) rfl T.g_law_cells T.F_law_cells.kp T.b_law_cells (ea_cons (EV.ex (ev_var 0)) (ea_cons (EV.ex ev_int) ea_nil))))) (blkOk_by (by kernel_rfl)) (fun _ _ _ _ _ => ⟨_, _, by decide, (eg_name 1 sc_law.nd)⟩) (fun _ _ _ _ _ => ⟨_, if_nil⟩) (fun _ _ _ _ _ => ⟨_, (ev_callF (ok_law_right T L) (hr.mono (by decide)) rfl T.g_law_right T.F_law_right.kp T.b_law_right (eo_callO (ok_law_pot T) (hr.mono (by decide)) rfl T.g_law_pot T.F_law_pot.kp T.b_law_pot (ea_cons (EV.ex (ev_var 0)) (ea_cons (EV.ex (ev_var 1)) ea_nil))))⟩) s))) ea_nil))))⟩
end
end K15
end
section
namespace K15
local instance : DL.Tbs := ⟨[]⟩
open PySem PySem.Spec PyProof.Rows L2 DL
theorem is_integer_int (v : Int) : f_is_integer [.int v] = some (.bool true) := by
  simp [runP_ap, initP, bnd_ap, ret_ap, lft_ap, nm_ap, frzv_ap, frzo_ap, dat_ap, val_ap, getv_ap, geto_ap, gets2_ap, op2_ap, op1_ap, tbool_ap, mAnd_ap, mOr_ap, mNot_ap, vAnd_ap, vOr_ap, vNot_ap, mIte_ap, aNil_ap, aCons_ap, datA_ap, getA_ap, opA_ap, mTup_ap, mLst_ap, foD_ap, mCall_ap, mChain_ap, mIsi_ap, mSeq_ap, mEnum_ap, mZip_ap, mRng_ap, mLc_ap, pNo_ap, pYes_ap, mListRng_ap, sNx_ap, sNever_ap, sSeq_ap, sRet_ap, sRetO_ap, sDrop_ap, sIf_ap, rvD_ap, rvO_ap, sSet_ap, sTgt_ap, sFor_ap, mMt_ap, chkL_ap, putM_ap, stN_ap, stRv_ap, stRf_ap, tgT_ap, tgC_ap, tg0_ap, sPar_ap, sPar3_ap, sPut_ap, mCut_ap, mMaxLen_ap, mSrtSet_ap, mSrtKey_ap, mKeys_ap, mDGet_ap, dicOf_ap, putMD_ap, sDPutM_ap, mLock_ap, mCallI_ap, mCallO_ap, mCallF_ap, runB_ap, runO_ap, agD, agG, agI, slD, Sl.isBr, seqD, fLe_ap, fLt_ap, fGt_ap, fGe_ap, fSub_ap, fAdd_ap, fNeg_ap, fLen_t, fLen_l, fAll_l, fAny_l, fTuple_l, fTuple_t, fList_l, fList_t, fInt_i, fEq_int, fNe_int, fIx_t, fIx_l, fIs_b, fNis_b, fIs_n, fNis_n, isNone_i, isNone_n, fApp_i, fApp_t, fExt_l, f_is_integer, m_is_integer, ty_int_int, ty_bool_int]
theorem is_between_int (v a b : Int) : f_is_between [.int v, .int a, .int b] = some (.bool (decide (a ≤ v ∧ v ≤ b))) := by
  by_cases h : a ≤ v <;> simp [runP_ap, initP, bnd_ap, ret_ap, lft_ap, nm_ap, frzv_ap, frzo_ap, dat_ap, val_ap, getv_ap, geto_ap, gets2_ap, op2_ap, op1_ap, tbool_ap, mAnd_ap, mOr_ap, mNot_ap, vAnd_ap, vOr_ap, vNot_ap, mIte_ap, aNil_ap, aCons_ap, datA_ap, getA_ap, opA_ap, mTup_ap, mLst_ap, foD_ap, mCall_ap, mChain_ap, mIsi_ap, mSeq_ap, mEnum_ap, mZip_ap, mRng_ap, mLc_ap, pNo_ap, pYes_ap, mListRng_ap, sNx_ap, sNever_ap, sSeq_ap, sRet_ap, sRetO_ap, sDrop_ap, sIf_ap, rvD_ap, rvO_ap, sSet_ap, sTgt_ap, sFor_ap, mMt_ap, chkL_ap, putM_ap, stN_ap, stRv_ap, stRf_ap, tgT_ap, tgC_ap, tg0_ap, sPar_ap, sPar3_ap, sPut_ap, mCut_ap, mMaxLen_ap, mSrtSet_ap, mSrtKey_ap, mKeys_ap, mDGet_ap, dicOf_ap, putMD_ap, sDPutM_ap, mLock_ap, mCallI_ap, mCallO_ap, mCallF_ap, runB_ap, runO_ap, agD, agG, agI, slD, Sl.isBr, seqD, fLe_ap, fLt_ap, fGt_ap, fGe_ap, fSub_ap, fAdd_ap, fNeg_ap, fLen_t, fLen_l, fAll_l, fAny_l, fTuple_l, fTuple_t, fList_l, fList_t, fInt_i, fEq_int, fNe_int, fIx_t, fIx_l, fIs_b, fNis_b, fIs_n, fNis_n, isNone_i, isNone_n, fApp_i, fApp_t, fExt_l, f_is_between, m_is_between, is_integer_int, h]
theorem law_is_int_int (v a b : Int) : f_law_is_int [.int v, .int a, .int b] = some (.bool (decide (a ≤ v ∧ v ≤ b))) := by
  by_cases h : a ≤ v <;> simp [runP_ap, initP, bnd_ap, ret_ap, lft_ap, nm_ap, frzv_ap, frzo_ap, dat_ap, val_ap, getv_ap, geto_ap, gets2_ap, op2_ap, op1_ap, tbool_ap, mAnd_ap, mOr_ap, mNot_ap, vAnd_ap, vOr_ap, vNot_ap, mIte_ap, aNil_ap, aCons_ap, datA_ap, getA_ap, opA_ap, mTup_ap, mLst_ap, foD_ap, mCall_ap, mChain_ap, mIsi_ap, mSeq_ap, mEnum_ap, mZip_ap, mRng_ap, mLc_ap, pNo_ap, pYes_ap, mListRng_ap, sNx_ap, sNever_ap, sSeq_ap, sRet_ap, sRetO_ap, sDrop_ap, sIf_ap, rvD_ap, rvO_ap, sSet_ap, sTgt_ap, sFor_ap, mMt_ap, chkL_ap, putM_ap, stN_ap, stRv_ap, stRf_ap, tgT_ap, tgC_ap, tg0_ap, sPar_ap, sPar3_ap, sPut_ap, mCut_ap, mMaxLen_ap, mSrtSet_ap, mSrtKey_ap, mKeys_ap, mDGet_ap, dicOf_ap, putMD_ap, sDPutM_ap, mLock_ap, mCallI_ap, mCallO_ap, mCallF_ap, runB_ap, runO_ap, agD, agG, agI, slD, Sl.isBr, seqD, fLe_ap, fLt_ap, fGt_ap, fGe_ap, fSub_ap, fAdd_ap, fNeg_ap, fLen_t, fLen_l, fAll_l, fAny_l, fTuple_l, fTuple_t, fList_l, fList_t, fInt_i, fEq_int, fNe_int, fIx_t, fIx_l, fIs_b, fNis_b, fIs_n, fNis_n, isNone_i, isNone_n, fApp_i, fApp_t, fExt_l, f_law_is_int, m_law_is_int, ty_int_int, ty_bool_int, h]
theorem meet_is (c f l r c' f' l' r' : Int) : f_meet [.tuple [.int c, .int f, .int l, .int r], .tuple [.int c', .int f', .int l', .int r']] = some (.bool (decide (c = c' ∧ f ≤ l' ∧ f' ≤ l))) := by
  by_cases h : c = c' <;> by_cases h2 : f ≤ l' <;> simp [runP_ap, initP, bnd_ap, ret_ap, lft_ap, nm_ap, frzv_ap, frzo_ap, dat_ap, val_ap, getv_ap, geto_ap, gets2_ap, op2_ap, op1_ap, tbool_ap, mAnd_ap, mOr_ap, mNot_ap, vAnd_ap, vOr_ap, vNot_ap, mIte_ap, aNil_ap, aCons_ap, datA_ap, getA_ap, opA_ap, mTup_ap, mLst_ap, foD_ap, mCall_ap, mChain_ap, mIsi_ap, mSeq_ap, mEnum_ap, mZip_ap, mRng_ap, mLc_ap, pNo_ap, pYes_ap, mListRng_ap, sNx_ap, sNever_ap, sSeq_ap, sRet_ap, sRetO_ap, sDrop_ap, sIf_ap, rvD_ap, rvO_ap, sSet_ap, sTgt_ap, sFor_ap, mMt_ap, chkL_ap, putM_ap, stN_ap, stRv_ap, stRf_ap, tgT_ap, tgC_ap, tg0_ap, sPar_ap, sPar3_ap, sPut_ap, mCut_ap, mMaxLen_ap, mSrtSet_ap, mSrtKey_ap, mKeys_ap, mDGet_ap, dicOf_ap, putMD_ap, sDPutM_ap, mLock_ap, mCallI_ap, mCallO_ap, mCallF_ap, runB_ap, runO_ap, agD, agG, agI, slD, Sl.isBr, seqD, fLe_ap, fLt_ap, fGt_ap, fGe_ap, fSub_ap, fAdd_ap, fNeg_ap, fLen_t, fLen_l, fAll_l, fAny_l, fTuple_l, fTuple_t, fList_l, fList_t, fInt_i, fEq_int, fNe_int, fIx_t, fIx_l, fIs_b, fNis_b, fIs_n, fNis_n, isNone_i, isNone_n, fApp_i, fApp_t, fExt_l, f_meet, m_meet, at0, at1, at2, h, h2]
theorem law_meet_is (c f l r c' f' l' r' : Int) : f_law_do_meet [.tuple [.int c, .int f, .int l, .int r], .tuple [.int c', .int f', .int l', .int r']] = some (.bool (decide (c = c' ∧ f ≤ l' ∧ f' ≤ l))) := by
  by_cases h : c = c' <;> by_cases h2 : f ≤ l' <;> simp [runP_ap, initP, bnd_ap, ret_ap, lft_ap, nm_ap, frzv_ap, frzo_ap, dat_ap, val_ap, getv_ap, geto_ap, gets2_ap, op2_ap, op1_ap, tbool_ap, mAnd_ap, mOr_ap, mNot_ap, vAnd_ap, vOr_ap, vNot_ap, mIte_ap, aNil_ap, aCons_ap, datA_ap, getA_ap, opA_ap, mTup_ap, mLst_ap, foD_ap, mCall_ap, mChain_ap, mIsi_ap, mSeq_ap, mEnum_ap, mZip_ap, mRng_ap, mLc_ap, pNo_ap, pYes_ap, mListRng_ap, sNx_ap, sNever_ap, sSeq_ap, sRet_ap, sRetO_ap, sDrop_ap, sIf_ap, rvD_ap, rvO_ap, sSet_ap, sTgt_ap, sFor_ap, mMt_ap, chkL_ap, putM_ap, stN_ap, stRv_ap, stRf_ap, tgT_ap, tgC_ap, tg0_ap, sPar_ap, sPar3_ap, sPut_ap, mCut_ap, mMaxLen_ap, mSrtSet_ap, mSrtKey_ap, mKeys_ap, mDGet_ap, dicOf_ap, putMD_ap, sDPutM_ap, mLock_ap, mCallI_ap, mCallO_ap, mCallF_ap, runB_ap, runO_ap, agD, agG, agI, slD, Sl.isBr, seqD, fLe_ap, fLt_ap, fGt_ap, fGe_ap, fSub_ap, fAdd_ap, fNeg_ap, fLen_t, fLen_l, fAll_l, fAny_l, fTuple_l, fTuple_t, fList_l, fList_t, fInt_i, fEq_int, fNe_int, fIx_t, fIx_l, fIs_b, fNis_b, fIs_n, fNis_n, isNone_i, isNone_n, fApp_i, fApp_t, fExt_l, f_law_do_meet, m_law_do_meet, at0, at1, at2, h, h2]
theorem holds_is (k t c f l r : Int) : f_holds [.tuple [.int k, .int t], .tuple [.int c, .int f, .int l, .int r]] = some (.bool (decide (k = c ∧ f ≤ t ∧ t ≤ l))) := by
  by_cases h : k = c <;> by_cases h2 : f ≤ t <;> simp [runP_ap, initP, bnd_ap, ret_ap, lft_ap, nm_ap, frzv_ap, frzo_ap, dat_ap, val_ap, getv_ap, geto_ap, gets2_ap, op2_ap, op1_ap, tbool_ap, mAnd_ap, mOr_ap, mNot_ap, vAnd_ap, vOr_ap, vNot_ap, mIte_ap, aNil_ap, aCons_ap, datA_ap, getA_ap, opA_ap, mTup_ap, mLst_ap, foD_ap, mCall_ap, mChain_ap, mIsi_ap, mSeq_ap, mEnum_ap, mZip_ap, mRng_ap, mLc_ap, pNo_ap, pYes_ap, mListRng_ap, sNx_ap, sNever_ap, sSeq_ap, sRet_ap, sRetO_ap, sDrop_ap, sIf_ap, rvD_ap, rvO_ap, sSet_ap, sTgt_ap, sFor_ap, mMt_ap, chkL_ap, putM_ap, stN_ap, stRv_ap, stRf_ap, tgT_ap, tgC_ap, tg0_ap, sPar_ap, sPar3_ap, sPut_ap, mCut_ap, mMaxLen_ap, mSrtSet_ap, mSrtKey_ap, mKeys_ap, mDGet_ap, dicOf_ap, putMD_ap, sDPutM_ap, mLock_ap, mCallI_ap, mCallO_ap, mCallF_ap, runB_ap, runO_ap, agD, agG, agI, slD, Sl.isBr, seqD, fLe_ap, fLt_ap, fGt_ap, fGe_ap, fSub_ap, fAdd_ap, fNeg_ap, fLen_t, fLen_l, fAll_l, fAny_l, fTuple_l, fTuple_t, fList_l, fList_t, fInt_i, fEq_int, fNe_int, fIx_t, fIx_l, fIs_b, fNis_b, fIs_n, fNis_n, isNone_i, isNone_n, fApp_i, fApp_t, fExt_l, f_holds, m_holds, at0, at1, at2, h, h2]

/-! typed claims -/
abbrev Cl := Int × Int × Int × Int
def enc (c : Cl) : PyData := .tuple [.int c.1, .int c.2.1, .int c.2.2.1, .int c.2.2.2]
def okC (c : Cl) : Prop := 0 ≤ c.1 ∧ c.1 < 7 ∧ 0 ≤ c.2.1 ∧ c.2.1 ≤ c.2.2.1 ∧ c.2.2.1 ≤ 12 ∧ 0 ≤ c.2.2.2 ∧ c.2.2.2 ≤ 9
def mt (a b : Cl) : Bool := decide (a.1 = b.1 ∧ a.2.1 ≤ b.2.2.1 ∧ b.2.1 ≤ a.2.2.1)
def hd (p : Int × Int) (c : Cl) : Bool := decide (p.1 = c.1 ∧ c.2.1 ≤ p.2 ∧ p.2 ≤ c.2.2.1)
def encP (p : Int × Int) : PyData := .tuple [.int p.1, .int p.2]
def eN (i : Nat) : PyData := .int (i : Int)
theorem meetE (a b : Cl) : f_meet [enc a, enc b] = some (.bool (mt a b)) := meet_is ..
theorem lmeetE (a b : Cl) : f_law_do_meet [enc a, enc b] = some (.bool (mt a b)) := law_meet_is ..
theorem holdsE (p : Int × Int) (c : Cl) : f_holds [encP p, enc c] = some (.bool (hd p c)) := holds_is ..
theorem are_between_ints (ns : List Int) (a b : Int) : f_are_between [.tuple (ns.map PyData.int), .int a, .int b] = some (.bool (ns.all fun v => decide (a ≤ v ∧ v ≤ b))) := by
  have L := lc_map (it := ⟨ns.map PyData.int, none⟩) (vs := [3]) (tgt := stN 3) (me := mCall 3 f_is_between (aCons (val (dat (nm 3))) (aCons (val (dat (nm 1))) (aCons (val (dat (nm 2))) aNil)))) (ρ := [.d (.tuple (ns.map PyData.int)), .d (.int a), .d (.int b), .no]) PyData.int (fun v => .bool (decide (a ≤ v ∧ v ≤ b))) (ok_none rfl _) rfl ns fun v _ =>
    ⟨[.d (.tuple (ns.map PyData.int)), .d (.int a), .d (.int b), .d (.int v)], rfl, rfl, by simp [runP_ap, initP, bnd_ap, ret_ap, lft_ap, nm_ap, frzv_ap, frzo_ap, dat_ap, val_ap, getv_ap, geto_ap, gets2_ap, op2_ap, op1_ap, tbool_ap, mAnd_ap, mOr_ap, mNot_ap, vAnd_ap, vOr_ap, vNot_ap, mIte_ap, aNil_ap, aCons_ap, datA_ap, getA_ap, opA_ap, mTup_ap, mLst_ap, foD_ap, mCall_ap, mChain_ap, mIsi_ap, mSeq_ap, mEnum_ap, mZip_ap, mRng_ap, mLc_ap, pNo_ap, pYes_ap, mListRng_ap, sNx_ap, sNever_ap, sSeq_ap, sRet_ap, sRetO_ap, sDrop_ap, sIf_ap, rvD_ap, rvO_ap, sSet_ap, sTgt_ap, sFor_ap, mMt_ap, chkL_ap, putM_ap, stN_ap, stRv_ap, stRf_ap, tgT_ap, tgC_ap, tg0_ap, sPar_ap, sPar3_ap, sPut_ap, mCut_ap, mMaxLen_ap, mSrtSet_ap, mSrtKey_ap, mKeys_ap, mDGet_ap, dicOf_ap, putMD_ap, sDPutM_ap, mLock_ap, mCallI_ap, mCallO_ap, mCallF_ap, runB_ap, runO_ap, agD, agG, agI, slD, Sl.isBr, seqD, fLe_ap, fLt_ap, fGt_ap, fGe_ap, fSub_ap, fAdd_ap, fNeg_ap, fLen_t, fLen_l, fAll_l, fAny_l, fTuple_l, fTuple_t, fList_l, fList_t, fInt_i, fEq_int, fNe_int, fIx_t, fIx_l, fIs_b, fNis_b, fIs_n, fNis_n, isNone_i, isNone_n, fApp_i, fApp_t, fExt_l, is_between_int]⟩
  simp [runP_ap, initP, bnd_ap, ret_ap, lft_ap, nm_ap, frzv_ap, frzo_ap, dat_ap, val_ap, getv_ap, geto_ap, gets2_ap, op2_ap, op1_ap, tbool_ap, mAnd_ap, mOr_ap, mNot_ap, vAnd_ap, vOr_ap, vNot_ap, mIte_ap, aNil_ap, aCons_ap, datA_ap, getA_ap, opA_ap, mTup_ap, mLst_ap, foD_ap, mCall_ap, mChain_ap, mIsi_ap, mSeq_ap, mEnum_ap, mZip_ap, mRng_ap, mLc_ap, pNo_ap, pYes_ap, mListRng_ap, sNx_ap, sNever_ap, sSeq_ap, sRet_ap, sRetO_ap, sDrop_ap, sIf_ap, rvD_ap, rvO_ap, sSet_ap, sTgt_ap, sFor_ap, mMt_ap, chkL_ap, putM_ap, stN_ap, stRv_ap, stRf_ap, tgT_ap, tgC_ap, tg0_ap, sPar_ap, sPar3_ap, sPut_ap, mCut_ap, mMaxLen_ap, mSrtSet_ap, mSrtKey_ap, mKeys_ap, mDGet_ap, dicOf_ap, putMD_ap, sDPutM_ap, mLock_ap, mCallI_ap, mCallO_ap, mCallF_ap, runB_ap, runO_ap, agD, agG, agI, slD, Sl.isBr, seqD, fLe_ap, fLt_ap, fGt_ap, fGe_ap, fSub_ap, fAdd_ap, fNeg_ap, fLen_t, fLen_l, fAll_l, fAny_l, fTuple_l, fTuple_t, fList_l, fList_t, fInt_i, fEq_int, fNe_int, fIx_t, fIx_l, fIs_b, fNis_b, fIs_n, fNis_n, isNone_i, isNone_n, fApp_i, fApp_t, fExt_l, f_are_between, m_are_between, ty_tup_tup, L, asBls_of]
theorem is_claimE {c : Cl} (h : okC c) : f_is_claim [enc c] = some (.bool true) := by
  obtain ⟨h1, h2, h3, h4, h5, h6, h7⟩ := h
  have B := are_between_ints [c.1, c.2.1, c.2.2.1, c.2.2.2] 0 12
  have a1 : c.1 ≤ 12 := by omega
  have a2 : c.2.1 ≤ 12 := by omega
  have a3 : 0 ≤ c.2.2.1 := by omega
  have a4 : c.2.2.2 ≤ 12 := by omega
  simp only [List.map_cons, List.map_nil] at B
  simp [h1, a1, h3, a2, a3, h5, h6, a4] at B
  simp [runP_ap, initP, bnd_ap, ret_ap, lft_ap, nm_ap, frzv_ap, frzo_ap, dat_ap, val_ap, getv_ap, geto_ap, gets2_ap, op2_ap, op1_ap, tbool_ap, mAnd_ap, mOr_ap, mNot_ap, vAnd_ap, vOr_ap, vNot_ap, mIte_ap, aNil_ap, aCons_ap, datA_ap, getA_ap, opA_ap, mTup_ap, mLst_ap, foD_ap, mCall_ap, mChain_ap, mIsi_ap, mSeq_ap, mEnum_ap, mZip_ap, mRng_ap, mLc_ap, pNo_ap, pYes_ap, mListRng_ap, sNx_ap, sNever_ap, sSeq_ap, sRet_ap, sRetO_ap, sDrop_ap, sIf_ap, rvD_ap, rvO_ap, sSet_ap, sTgt_ap, sFor_ap, mMt_ap, chkL_ap, putM_ap, stN_ap, stRv_ap, stRf_ap, tgT_ap, tgC_ap, tg0_ap, sPar_ap, sPar3_ap, sPut_ap, mCut_ap, mMaxLen_ap, mSrtSet_ap, mSrtKey_ap, mKeys_ap, mDGet_ap, dicOf_ap, putMD_ap, sDPutM_ap, mLock_ap, mCallI_ap, mCallO_ap, mCallF_ap, runB_ap, runO_ap, agD, agG, agI, slD, Sl.isBr, seqD, fLe_ap, fLt_ap, fGt_ap, fGe_ap, fSub_ap, fAdd_ap, fNeg_ap, fLen_t, fLen_l, fAll_l, fAny_l, fTuple_l, fTuple_t, fList_l, fList_t, fInt_i, fEq_int, fNe_int, fIx_t, fIx_l, fIs_b, fNis_b, fIs_n, fNis_n, isNone_i, isNone_n, fApp_i, fApp_t, fExt_l, f_is_claim, m_is_claim, enc, B, h2, h4, h7]
theorem are_claimsE {cs : List Cl} (h : ∀ c ∈ cs, okC c) (hl : cs.length ≤ 8) : f_are_claims [.tuple (cs.map enc)] = some (.bool true) := by
  have L := lc_map (it := ⟨cs.map enc, none⟩) (vs := [1]) (tgt := stN 1) (me := mCall 1 f_is_claim (aCons (val (dat (nm 1))) aNil)) (ρ := [.d (.tuple (cs.map enc)), .no]) enc (fun _ => .bool true) (ok_none rfl _) rfl cs fun c hc =>
    ⟨[.d (.tuple (cs.map enc)), .d (enc c)], rfl, rfl, by simp [runP_ap, initP, bnd_ap, ret_ap, lft_ap, nm_ap, frzv_ap, frzo_ap, dat_ap, val_ap, getv_ap, geto_ap, gets2_ap, op2_ap, op1_ap, tbool_ap, mAnd_ap, mOr_ap, mNot_ap, vAnd_ap, vOr_ap, vNot_ap, mIte_ap, aNil_ap, aCons_ap, datA_ap, getA_ap, opA_ap, mTup_ap, mLst_ap, foD_ap, mCall_ap, mChain_ap, mIsi_ap, mSeq_ap, mEnum_ap, mZip_ap, mRng_ap, mLc_ap, pNo_ap, pYes_ap, mListRng_ap, sNx_ap, sNever_ap, sSeq_ap, sRet_ap, sRetO_ap, sDrop_ap, sIf_ap, rvD_ap, rvO_ap, sSet_ap, sTgt_ap, sFor_ap, mMt_ap, chkL_ap, putM_ap, stN_ap, stRv_ap, stRf_ap, tgT_ap, tgC_ap, tg0_ap, sPar_ap, sPar3_ap, sPut_ap, mCut_ap, mMaxLen_ap, mSrtSet_ap, mSrtKey_ap, mKeys_ap, mDGet_ap, dicOf_ap, putMD_ap, sDPutM_ap, mLock_ap, mCallI_ap, mCallO_ap, mCallF_ap, runB_ap, runO_ap, agD, agG, agI, slD, Sl.isBr, seqD, fLe_ap, fLt_ap, fGt_ap, fGe_ap, fSub_ap, fAdd_ap, fNeg_ap, fLen_t, fLen_l, fAll_l, fAny_l, fTuple_l, fTuple_t, fList_l, fList_t, fInt_i, fEq_int, fNe_int, fIx_t, fIx_l, fIs_b, fNis_b, fIs_n, fNis_n, isNone_i, isNone_n, fApp_i, fApp_t, fExt_l, is_claimE (h c hc)]⟩
  have hl' : (cs.length : Int) ≤ 8 := by omega
  have A : asBls (cs.map fun _ => PyData.bool true) = some (cs.map fun _ => true) := asBls_of (fun _ => true) cs
  simp [runP_ap, initP, bnd_ap, ret_ap, lft_ap, nm_ap, frzv_ap, frzo_ap, dat_ap, val_ap, getv_ap, geto_ap, gets2_ap, op2_ap, op1_ap, tbool_ap, mAnd_ap, mOr_ap, mNot_ap, vAnd_ap, vOr_ap, vNot_ap, mIte_ap, aNil_ap, aCons_ap, datA_ap, getA_ap, opA_ap, mTup_ap, mLst_ap, foD_ap, mCall_ap, mChain_ap, mIsi_ap, mSeq_ap, mEnum_ap, mZip_ap, mRng_ap, mLc_ap, pNo_ap, pYes_ap, mListRng_ap, sNx_ap, sNever_ap, sSeq_ap, sRet_ap, sRetO_ap, sDrop_ap, sIf_ap, rvD_ap, rvO_ap, sSet_ap, sTgt_ap, sFor_ap, mMt_ap, chkL_ap, putM_ap, stN_ap, stRv_ap, stRf_ap, tgT_ap, tgC_ap, tg0_ap, sPar_ap, sPar3_ap, sPut_ap, mCut_ap, mMaxLen_ap, mSrtSet_ap, mSrtKey_ap, mKeys_ap, mDGet_ap, dicOf_ap, putMD_ap, sDPutM_ap, mLock_ap, mCallI_ap, mCallO_ap, mCallF_ap, runB_ap, runO_ap, agD, agG, agI, slD, Sl.isBr, seqD, fLe_ap, fLt_ap, fGt_ap, fGe_ap, fSub_ap, fAdd_ap, fNeg_ap, fLen_t, fLen_l, fAll_l, fAny_l, fTuple_l, fTuple_t, fList_l, fList_t, fInt_i, fEq_int, fNe_int, fIx_t, fIx_l, fIs_b, fNis_b, fIs_n, fNis_n, isNone_i, isNone_n, fApp_i, fApp_t, fExt_l, f_are_claims, m_are_claims, ty_tup_tup, hl', L, A]

/-! the parts of the program -/
structure Okc (cs : List Cl) : Prop where
  ok : ∀ c ∈ cs, okC c
  few : cs.length ≤ 8
theorem check_claimsE {cs : List Cl} (h : Okc cs) : f_check_claims [.tuple (cs.map enc)] = some .none := by
  simp [runP_ap, initP, bnd_ap, ret_ap, lft_ap, nm_ap, frzv_ap, frzo_ap, dat_ap, val_ap, getv_ap, geto_ap, gets2_ap, op2_ap, op1_ap, tbool_ap, mAnd_ap, mOr_ap, mNot_ap, vAnd_ap, vOr_ap, vNot_ap, mIte_ap, aNil_ap, aCons_ap, datA_ap, getA_ap, opA_ap, mTup_ap, mLst_ap, foD_ap, mCall_ap, mChain_ap, mIsi_ap, mSeq_ap, mEnum_ap, mZip_ap, mRng_ap, mLc_ap, pNo_ap, pYes_ap, mListRng_ap, sNx_ap, sNever_ap, sSeq_ap, sRet_ap, sRetO_ap, sDrop_ap, sIf_ap, rvD_ap, rvO_ap, sSet_ap, sTgt_ap, sFor_ap, mMt_ap, chkL_ap, putM_ap, stN_ap, stRv_ap, stRf_ap, tgT_ap, tgC_ap, tg0_ap, sPar_ap, sPar3_ap, sPut_ap, mCut_ap, mMaxLen_ap, mSrtSet_ap, mSrtKey_ap, mKeys_ap, mDGet_ap, dicOf_ap, putMD_ap, sDPutM_ap, mLock_ap, mCallI_ap, mCallO_ap, mCallF_ap, runB_ap, runO_ap, agD, agG, agI, slD, Sl.isBr, seqD, fLe_ap, fLt_ap, fGt_ap, fGe_ap, fSub_ap, fAdd_ap, fNeg_ap, fLen_t, fLen_l, fAll_l, fAny_l, fTuple_l, fTuple_t, fList_l, fList_t, fInt_i, fEq_int, fNe_int, fIx_t, fIx_l, fIs_b, fNis_b, fIs_n, fNis_n, isNone_i, isNone_n, fApp_i, fApp_t, fExt_l, f_check_claims, m_check_claims, are_claimsE h.ok h.few]
theorem check_claimE {cs : List Cl} {i : Nat} (hi : i < cs.length) : f_check_claim [.tuple (cs.map enc), .int (i : Int)] = some .none := by
  have h1 : (i : Int) ≤ (cs.length : Int) - 1 := by omega
  have h2 : (0 : Int) ≤ (i : Int) := by omega
  simp [runP_ap, initP, bnd_ap, ret_ap, lft_ap, nm_ap, frzv_ap, frzo_ap, dat_ap, val_ap, getv_ap, geto_ap, gets2_ap, op2_ap, op1_ap, tbool_ap, mAnd_ap, mOr_ap, mNot_ap, vAnd_ap, vOr_ap, vNot_ap, mIte_ap, aNil_ap, aCons_ap, datA_ap, getA_ap, opA_ap, mTup_ap, mLst_ap, foD_ap, mCall_ap, mChain_ap, mIsi_ap, mSeq_ap, mEnum_ap, mZip_ap, mRng_ap, mLc_ap, pNo_ap, pYes_ap, mListRng_ap, sNx_ap, sNever_ap, sSeq_ap, sRet_ap, sRetO_ap, sDrop_ap, sIf_ap, rvD_ap, rvO_ap, sSet_ap, sTgt_ap, sFor_ap, mMt_ap, chkL_ap, putM_ap, stN_ap, stRv_ap, stRf_ap, tgT_ap, tgC_ap, tg0_ap, sPar_ap, sPar3_ap, sPut_ap, mCut_ap, mMaxLen_ap, mSrtSet_ap, mSrtKey_ap, mKeys_ap, mDGet_ap, dicOf_ap, putMD_ap, sDPutM_ap, mLock_ap, mCallI_ap, mCallO_ap, mCallF_ap, runB_ap, runO_ap, agD, agG, agI, slD, Sl.isBr, seqD, fLe_ap, fLt_ap, fGt_ap, fGe_ap, fSub_ap, fAdd_ap, fNeg_ap, fLen_t, fLen_l, fAll_l, fAny_l, fTuple_l, fTuple_t, fList_l, fList_t, fInt_i, fEq_int, fNe_int, fIx_t, fIx_l, fIs_b, fNis_b, fIs_n, fNis_n, isNone_i, isNone_n, fApp_i, fApp_t, fExt_l, f_check_claim, m_check_claim, is_between_int, h1, h2]
def c0 : Cl := (0, 0, 0, 0)
def cl (cs : List Cl) (i : Nat) : Cl := cs.getD i c0
theorem at_enc {cs : List Cl} {i : Nat} (hi : i < cs.length) : atI (cs.map enc) (i : Int) = some (enc (cl cs i)) := by
  refine atI_nat ?_
  rw [List.getElem?_map, List.getElem?_eq_getElem hi]
  show some (enc _) = some (enc _)
  rw [cl, List.getD_eq_getElem?_getD, List.getElem?_eq_getElem hi]; rfl
def MM (cs : List Cl) (i j : Nat) : Bool := mt (cl cs i) (cl cs j)
theorem do_meetE {cs : List Cl} (h : Okc cs) {i j : Nat} (hi : i < cs.length) (hj : j < cs.length) : f_do_meet [.tuple (cs.map enc), .int (i : Int), .int (j : Int)] = some (.bool (MM cs i j)) := by
  simp [runP_ap, initP, bnd_ap, ret_ap, lft_ap, nm_ap, frzv_ap, frzo_ap, dat_ap, val_ap, getv_ap, geto_ap, gets2_ap, op2_ap, op1_ap, tbool_ap, mAnd_ap, mOr_ap, mNot_ap, vAnd_ap, vOr_ap, vNot_ap, mIte_ap, aNil_ap, aCons_ap, datA_ap, getA_ap, opA_ap, mTup_ap, mLst_ap, foD_ap, mCall_ap, mChain_ap, mIsi_ap, mSeq_ap, mEnum_ap, mZip_ap, mRng_ap, mLc_ap, pNo_ap, pYes_ap, mListRng_ap, sNx_ap, sNever_ap, sSeq_ap, sRet_ap, sRetO_ap, sDrop_ap, sIf_ap, rvD_ap, rvO_ap, sSet_ap, sTgt_ap, sFor_ap, mMt_ap, chkL_ap, putM_ap, stN_ap, stRv_ap, stRf_ap, tgT_ap, tgC_ap, tg0_ap, sPar_ap, sPar3_ap, sPut_ap, mCut_ap, mMaxLen_ap, mSrtSet_ap, mSrtKey_ap, mKeys_ap, mDGet_ap, dicOf_ap, putMD_ap, sDPutM_ap, mLock_ap, mCallI_ap, mCallO_ap, mCallF_ap, runB_ap, runO_ap, agD, agG, agI, slD, Sl.isBr, seqD, fLe_ap, fLt_ap, fGt_ap, fGe_ap, fSub_ap, fAdd_ap, fNeg_ap, fLen_t, fLen_l, fAll_l, fAny_l, fTuple_l, fTuple_t, fList_l, fList_t, fInt_i, fEq_int, fNe_int, fIx_t, fIx_l, fIs_b, fNis_b, fIs_n, fNis_n, isNone_i, isNone_n, fApp_i, fApp_t, fExt_l, f_do_meet, m_do_meet, check_claimsE h, check_claimE hi, check_claimE hj, at_enc hi, at_enc hj, meetE, MM]
/-- sorted pairs of ints -/
def leP (p q : Int × Int) : Bool := decide (p.1 < q.1 ∨ (p.1 = q.1 ∧ p.2 ≤ q.2))
theorem sort_pairs (ps : List (Int × Int)) : fSorted [.list (ps.map encP)] = some (.ol ((ps.mergeSort leP).map encP)) := by
  have e : PySem.W.dataLe false (fun p : Int × Int => encP p) = fun p q => leP p q := PySem.W.dataLe_ii (β := Int × Int) (fun p => p.1) (fun p => p.2)
  have e2 : ∀ p q : Int × Int, leP p q = PySem.W.dataLe false id (encP p) (encP q) := fun p q => by
    have := congrFun (congrFun e p) q
    rw [← this]; rfl
  have hm : ((ps.mergeSort leP).map encP) = (ps.map encP).mergeSort (PySem.W.dataLe false id) := List.map_mergeSort fun a _ b _ => e2 a b
  unfold fSorted f1s
  simp only
  rw [if_pos, hm]
  refine ⟨PySem.W.AllAlike.of fun _ _ => by simp [PySem.W.alike, PySem.W.alikeAll, encP], PySem.W.Sortable.tuples fun p => ⟨_, _, rfl⟩, fun d hd => ?_⟩
  obtain ⟨p, _, rfl⟩ := List.mem_map.mp hd
  simp [encP, PyData.depth, PyData.depthAll]
theorem sort_ints (ns : List Int) : fSorted [.list (ns.map PyData.int)] = some (.ol ((ns.mergeSort fun a b => decide (a ≤ b)).map PyData.int)) := by
  have e : PySem.W.dataLe false (fun n : Int => PyData.int n) = fun a b => decide (a ≤ b) := PySem.W.dataLe_int (β := Int) (fun n => n)
  have hm : ((ns.mergeSort fun a b => decide (a ≤ b)).map PyData.int) = (ns.map PyData.int).mergeSort (PySem.W.dataLe false id) := List.map_mergeSort fun a _ b _ => by
    have := congrFun (congrFun e a) b
    rw [← this]; rfl
  unfold fSorted f1s
  simp only
  rw [if_pos, hm]
  refine ⟨PySem.W.AllAlike.of fun _ _ => by simp [PySem.W.alike], PySem.W.Sortable.others fun n => ⟨fun z => (by cases z), fun _ z => (by cases z)⟩, fun d hd => ?_⟩
  obtain ⟨p, _, rfl⟩ := List.mem_map.mp hd
  simp [PyData.depth]
/-! ### orders -/
def pairsOf (zs : List Int) : List (Int × Int) := (List.range zs.length).map fun i => (zs.getD i 0, (i : Int))
theorem sort_pairsOf (zs : List Int) : (pairsOf zs).mergeSort leP = (ordZ zs).map fun i => (zs.getD i 0, (i : Int)) := by
  rw [ordZ_is]
  exact (List.map_mergeSort (r := fun i j => decide (zs.getD i 0 < zs.getD j 0 ∨ (zs.getD i 0 = zs.getD j 0 ∧ (i : Int) ≤ (j : Int)))) (s := leP) (f := fun i : Nat => (zs.getD i 0, (i : Int))) fun a _ b _ => rfl).symm
theorem ord_perm (zs : List Int) : (ordZ zs).Perm (List.range zs.length) := List.mergeSort_perm _ _
theorem ord_mem {zs : List Int} {i : Nat} (h : i ∈ ordZ zs) : i < zs.length := List.mem_range.mp ((ord_perm zs).mem_iff.mp h)
theorem enumD_enc (cs : List Cl) : enumD (cs.map enc) = (List.range cs.length).map fun i => .tuple [.int (i : Int), enc (cl cs i)] := by
  unfold enumD
  apply List.ext_getElem?
  intro i
  rw [List.getElem?_map, List.getElem?_zipIdx, List.getElem?_map, List.getElem?_map]
  by_cases h : i < cs.length
  · rw [List.getElem?_eq_getElem h, List.getElem?_eq_getElem (by rw [List.length_range]; exact h)]
    simp [cl, List.getD_eq_getElem?_getD, h]
  · rw [List.getElem?_eq_none (by omega), List.getElem?_eq_none (by rw [List.length_range]; omega)]
    rfl

def pk (zs : List Int) (i : Nat) : PyData := encP (zs.getD i 0, (i : Int))
theorem pk_eq (zs : List Int) (i : Nat) : pk zs i = .tuple [.int (zs.getD i 0), .int (i : Int)] := rfl
theorem sort_pk (zs : List Int) : fSorted [.list ((List.range zs.length).map (pk zs))] = some (.ol ((ordZ zs).map (pk zs))) := by
  have SP := sort_pairs (pairsOf zs)
  rw [sort_pairsOf, List.map_map] at SP
  unfold pairsOf at SP
  rw [List.map_map] at SP
  exact SP
def rks (cs : List Cl) : List Int := cs.map (·.2.2.2)
def fss (cs : List Cl) : List Int := cs.map (·.2.1)
def lss (cs : List Cl) : List Int := cs.map (·.2.2.1)
theorem rks_len (cs : List Cl) : (rks cs).length = cs.length := List.length_map ..
theorem fss_len (cs : List Cl) : (fss cs).length = cs.length := List.length_map ..
theorem lss_len (cs : List Cl) : (lss cs).length = cs.length := List.length_map ..
theorem get_map {f : Cl → Int} (h0 : f c0 = 0) (cs : List Cl) (i : Nat) : (cs.map f).getD i 0 = f (cl cs i) := by
  rw [List.getD_eq_getElem?_getD, List.getElem?_map, cl, List.getD_eq_getElem?_getD]
  cases cs[i]? with
  | none => exact h0.symm
  | some c => rfl
theorem rks_get (cs : List Cl) (i : Nat) : (rks cs).getD i 0 = (cl cs i).2.2.2 := get_map (f := fun c => c.2.2.2) rfl cs i
theorem fss_get (cs : List Cl) (i : Nat) : (fss cs).getD i 0 = (cl cs i).2.1 := get_map (f := fun c => c.2.1) rfl cs i
theorem lss_get (cs : List Cl) (i : Nat) : (lss cs).getD i 0 = (cl cs i).2.2.1 := get_map (f := fun c => c.2.2.1) rfl cs i
def enI (cs : List Cl) (i : Nat) : PyData := .tuple [.int (i : Int), enc (cl cs i)]
theorem enum_is (cs : List Cl) : enumD (cs.map enc) = (List.range cs.length).map (enI cs) := enumD_enc cs
theorem by_rankE (cs : List Cl) : f_by_rank [.tuple (cs.map enc)] = some (.list ((ordZ (rks cs)).map eN)) := by
  have L1 := lc_map (it := ⟨(List.range cs.length).map (enI cs), none⟩) (vs := [2, 3]) (tgt := tgT (tgC (stN 2) (tgC (stN 3) tg0))) (me := mTup (aCons (val (op2 fIx (nm 3) (val (op1 fNeg (val (DL.ret (.int 1))))))) (aCons (val (dat (nm 2))) aNil))) (ρ := [.d (.tuple (cs.map enc)), .no, .no, .no])
    (enI cs) (pk (rks cs)) (ok_none rfl _) rfl (List.range cs.length) fun i _ =>
    ⟨[.d (.tuple (cs.map enc)), .no, .d (.int (i : Int)), .d (enc (cl cs i))], rfl, rfl, by rw [pk_eq, rks_get]; simp [runP_ap, initP, bnd_ap, ret_ap, lft_ap, nm_ap, frzv_ap, frzo_ap, dat_ap, val_ap, getv_ap, geto_ap, gets2_ap, op2_ap, op1_ap, tbool_ap, mAnd_ap, mOr_ap, mNot_ap, vAnd_ap, vOr_ap, vNot_ap, mIte_ap, aNil_ap, aCons_ap, datA_ap, getA_ap, opA_ap, mTup_ap, mLst_ap, foD_ap, mCall_ap, mChain_ap, mIsi_ap, mSeq_ap, mEnum_ap, mZip_ap, mRng_ap, mLc_ap, pNo_ap, pYes_ap, mListRng_ap, sNx_ap, sNever_ap, sSeq_ap, sRet_ap, sRetO_ap, sDrop_ap, sIf_ap, rvD_ap, rvO_ap, sSet_ap, sTgt_ap, sFor_ap, mMt_ap, chkL_ap, putM_ap, stN_ap, stRv_ap, stRf_ap, tgT_ap, tgC_ap, tg0_ap, sPar_ap, sPar3_ap, sPut_ap, mCut_ap, mMaxLen_ap, mSrtSet_ap, mSrtKey_ap, mKeys_ap, mDGet_ap, dicOf_ap, putMD_ap, sDPutM_ap, mLock_ap, mCallI_ap, mCallO_ap, mCallF_ap, runB_ap, runO_ap, agD, agG, agI, slD, Sl.isBr, seqD, fLe_ap, fLt_ap, fGt_ap, fGe_ap, fSub_ap, fAdd_ap, fNeg_ap, fLen_t, fLen_l, fAll_l, fAny_l, fTuple_l, fTuple_t, fList_l, fList_t, fInt_i, fEq_int, fNe_int, fIx_t, fIx_l, fIs_b, fNis_b, fIs_n, fNis_n, isNone_i, isNone_n, fApp_i, fApp_t, fExt_l, enc, atm1_4]⟩
  have SP := sort_pk (rks cs)
  rw [rks_len] at SP
  have L2 := lc_map (it := ⟨(ordZ (rks cs)).map (pk (rks cs)), none⟩) (vs := [1, 2]) (tgt := tgT (tgC (stN 1) (tgC (stN 2) tg0))) (me := dat (nm 2)) (ρ := [.d (.tuple (cs.map enc)), .no, .no, .no])
    (pk (rks cs)) eN (ok_none rfl _) rfl (ordZ (rks cs)) fun i _ =>
    ⟨[.d (.tuple (cs.map enc)), .d (.int ((rks cs).getD i 0)), .d (.int (i : Int)), .no], rfl, rfl, by simp [runP_ap, initP, bnd_ap, ret_ap, lft_ap, nm_ap, frzv_ap, frzo_ap, dat_ap, val_ap, getv_ap, geto_ap, gets2_ap, op2_ap, op1_ap, tbool_ap, mAnd_ap, mOr_ap, mNot_ap, vAnd_ap, vOr_ap, vNot_ap, mIte_ap, aNil_ap, aCons_ap, datA_ap, getA_ap, opA_ap, mTup_ap, mLst_ap, foD_ap, mCall_ap, mChain_ap, mIsi_ap, mSeq_ap, mEnum_ap, mZip_ap, mRng_ap, mLc_ap, pNo_ap, pYes_ap, mListRng_ap, sNx_ap, sNever_ap, sSeq_ap, sRet_ap, sRetO_ap, sDrop_ap, sIf_ap, rvD_ap, rvO_ap, sSet_ap, sTgt_ap, sFor_ap, mMt_ap, chkL_ap, putM_ap, stN_ap, stRv_ap, stRf_ap, tgT_ap, tgC_ap, tg0_ap, sPar_ap, sPar3_ap, sPut_ap, mCut_ap, mMaxLen_ap, mSrtSet_ap, mSrtKey_ap, mKeys_ap, mDGet_ap, dicOf_ap, putMD_ap, sDPutM_ap, mLock_ap, mCallI_ap, mCallO_ap, mCallF_ap, runB_ap, runO_ap, agD, agG, agI, slD, Sl.isBr, seqD, fLe_ap, fLt_ap, fGt_ap, fGe_ap, fSub_ap, fAdd_ap, fNeg_ap, fLen_t, fLen_l, fAll_l, fAny_l, fTuple_l, fTuple_t, fList_l, fList_t, fInt_i, fEq_int, fNe_int, fIx_t, fIx_l, fIs_b, fNis_b, fIs_n, fNis_n, isNone_i, isNone_n, fApp_i, fApp_t, fExt_l, eN]⟩
  simp [runP_ap, initP, bnd_ap, ret_ap, lft_ap, nm_ap, frzv_ap, frzo_ap, dat_ap, val_ap, getv_ap, geto_ap, gets2_ap, op2_ap, op1_ap, tbool_ap, mAnd_ap, mOr_ap, mNot_ap, vAnd_ap, vOr_ap, vNot_ap, mIte_ap, aNil_ap, aCons_ap, datA_ap, getA_ap, opA_ap, mTup_ap, mLst_ap, foD_ap, mCall_ap, mChain_ap, mIsi_ap, mSeq_ap, mEnum_ap, mZip_ap, mRng_ap, mLc_ap, pNo_ap, pYes_ap, mListRng_ap, sNx_ap, sNever_ap, sSeq_ap, sRet_ap, sRetO_ap, sDrop_ap, sIf_ap, rvD_ap, rvO_ap, sSet_ap, sTgt_ap, sFor_ap, mMt_ap, chkL_ap, putM_ap, stN_ap, stRv_ap, stRf_ap, tgT_ap, tgC_ap, tg0_ap, sPar_ap, sPar3_ap, sPut_ap, mCut_ap, mMaxLen_ap, mSrtSet_ap, mSrtKey_ap, mKeys_ap, mDGet_ap, dicOf_ap, putMD_ap, sDPutM_ap, mLock_ap, mCallI_ap, mCallO_ap, mCallF_ap, runB_ap, runO_ap, agD, agG, agI, slD, Sl.isBr, seqD, fLe_ap, fLt_ap, fGt_ap, fGe_ap, fSub_ap, fAdd_ap, fNeg_ap, fLen_t, fLen_l, fAll_l, fAny_l, fTuple_l, fTuple_t, fList_l, fList_t, fInt_i, fEq_int, fNe_int, fIx_t, fIx_l, fIs_b, fNis_b, fIs_n, fNis_n, isNone_i, isNone_n, fApp_i, fApp_t, fExt_l, f_by_rank, m_by_rank, enum_is, L1, SP, L2]

theorem fApp_N (i : Nat) (cs : List PyData) : fAppend [eN i] cs = (if cs.length < 16777216 then some (.none, cs ++ [eN i]) else none) := rfl
theorem fIx_tN (ds : List PyData) (i : Nat) : fIx (.tuple ds) (eN i) = atI ds (i : Int) := rfl
theorem fIx_lN (ds : List PyData) (i : Nat) : fIx (.list ds) (eN i) = atI ds (i : Int) := rfl
theorem fInt_N (i : Nat) : fInt [eN i] = some (eN i) := rfl
/-! ### the greedy choice -/
def clash (cs : List Cl) (found : List Nat) (p : Nat) : Bool := found.any fun o => MM cs p o
def gstep (cs : List Cl) (found : List Nat) (p : Nat) : List Nat := if clash cs found p = true then found else found ++ [p]
def greedy (cs : List Cl) (order : List Nat) : List Nat := order.foldl (gstep cs) []
theorem gstep_mem {cs : List Cl} {found : List Nat} {p o : Nat} (h : o ∈ gstep cs found p) : o ∈ found ∨ o = p := by
  unfold gstep at h
  split at h
  · exact .inl h
  · rcases List.mem_append.mp h with h | h
    · exact .inl h
    · exact .inr (List.mem_singleton.mp h)
theorem gstep_len (cs : List Cl) (found : List Nat) (p : Nat) : (gstep cs found p).length ≤ found.length + 1 := by
  unfold gstep
  split
  · omega
  · simp
theorem ord_at {zs : List Int} {i y : Nat} (h : (ordZ zs)[i]? = some y) : y < zs.length ∧ i < zs.length := by
  refine ⟨ord_mem (List.mem_of_getElem? h), ?_⟩
  have := (List.getElem?_eq_some_iff.mp h).1
  rw [(ord_perm zs).length_eq, List.length_range] at this
  exact this
theorem granted_ofE {cs : List Cl} (hl : cs.length ≤ 8) : f_granted_of [.tuple (cs.map enc)] = some (.list ((greedy cs (ordZ (rks cs))).map eN)) := by
  obtain ⟨ρ', h1, o2, o3, rfl, h3, h4⟩ := for_at (it := ⟨(ordZ (rks cs)).map eN, none⟩) (tgt := stN 2)
    (b := sIf (mNot (tbool (opA fAny (aCons (val (foD (mLc (mSeq (nm 1)) [3] (stN 3) (DL.ret true) (mCall 2 f_meet (aCons (val (op2 fIx (nm 0) (nm 2))) (aCons (val (op2 fIx (nm 0) (nm 3))) aNil)))))) aNil)))) (sDrop (mMt fAppend (nm 1) (aCons (val (dat (nm 2))) aNil))) sNx) eN
    (fun k (found : List Nat) (ρ : Ro) => ∃ o2 o3, ρ = [.d (.tuple (cs.map enc)), .ol (found.map eN), ofO o2, ofO o3] ∧ found.length ≤ k ∧ ∀ o ∈ found, o < cs.length) (gstep cs) (ordZ (rks cs)) 0 [] [.d (.tuple (cs.map enc)), .ol [], .no, .no] ⟨none, none, rfl, Nat.le_refl _, fun o h => (by cases h)⟩ (by
      rintro i y hy found ρ ⟨o2, o3, rfl, hk, hb⟩
      obtain ⟨hy1, hi⟩ := ord_at hy
      rw [rks_len] at hy1 hi
      have L := lc_map (it := ⟨found.map eN, some 1⟩) (vs := [3]) (tgt := stN 3) (me := mCall 2 f_meet (aCons (val (op2 fIx (nm 0) (nm 2))) (aCons (val (op2 fIx (nm 0) (nm 3))) aNil))) (ρ := [.d (.tuple (cs.map enc)), .ol (found.map eN), .d (eN y), ofO o3]) (ρw := [.d (.tuple (cs.map enc)), .ol (found.map eN), .d (eN y), .no])
        eN (fun o => .bool (MM cs y o)) rfl (by cases o3 <;> rfl) found fun o ho => ⟨[.d (.tuple (cs.map enc)), .ol (found.map eN), .d (eN y), .d (eN o)], rfl, (by cases o3 <;> rfl), by simp [runP_ap, initP, bnd_ap, ret_ap, lft_ap, nm_ap, frzv_ap, frzo_ap, dat_ap, val_ap, getv_ap, geto_ap, gets2_ap, op2_ap, op1_ap, tbool_ap, mAnd_ap, mOr_ap, mNot_ap, vAnd_ap, vOr_ap, vNot_ap, mIte_ap, aNil_ap, aCons_ap, datA_ap, getA_ap, opA_ap, mTup_ap, mLst_ap, foD_ap, mCall_ap, mChain_ap, mIsi_ap, mSeq_ap, mEnum_ap, mZip_ap, mRng_ap, mLc_ap, pNo_ap, pYes_ap, mListRng_ap, sNx_ap, sNever_ap, sSeq_ap, sRet_ap, sRetO_ap, sDrop_ap, sIf_ap, rvD_ap, rvO_ap, sSet_ap, sTgt_ap, sFor_ap, mMt_ap, chkL_ap, putM_ap, stN_ap, stRv_ap, stRf_ap, tgT_ap, tgC_ap, tg0_ap, sPar_ap, sPar3_ap, sPut_ap, mCut_ap, mMaxLen_ap, mSrtSet_ap, mSrtKey_ap, mKeys_ap, mDGet_ap, dicOf_ap, putMD_ap, sDPutM_ap, mLock_ap, mCallI_ap, mCallO_ap, mCallF_ap, runB_ap, runO_ap, agD, agG, agI, slD, Sl.isBr, seqD, fLe_ap, fLt_ap, fGt_ap, fGe_ap, fSub_ap, fAdd_ap, fNeg_ap, fLen_t, fLen_l, fAll_l, fAny_l, fTuple_l, fTuple_t, fList_l, fList_t, fInt_i, fEq_int, fNe_int, fIx_t, fIx_l, fIs_b, fNis_b, fIs_n, fNis_n, isNone_i, isNone_n, fApp_i, fApp_t, fExt_l, fIx_tN, at_enc hy1, at_enc (hb o ho), meetE, MM]⟩
      have hlen : found.length < 16777216 := by omega
      refine ⟨[.d (.tuple (cs.map enc)), .ol (found.map eN), .d (eN y), ofO o3], [.d (.tuple (cs.map enc)), .ol ((gstep cs found y).map eN), .d (eN y), ofO o3], by cases o2 <;> rfl, ?_, some (eN y), o3, rfl, Nat.le_trans (gstep_len cs found y) (by omega), fun o ho => ?_⟩
      · cases hc : clash cs found y with
        | true =>
          have hany : found.any (MM cs y) = true := hc
          have hg : gstep cs found y = found := by unfold gstep; rw [if_pos hc]
          rw [hg]
          simp [runP_ap, initP, bnd_ap, ret_ap, lft_ap, nm_ap, frzv_ap, frzo_ap, dat_ap, val_ap, getv_ap, geto_ap, gets2_ap, op2_ap, op1_ap, tbool_ap, mAnd_ap, mOr_ap, mNot_ap, vAnd_ap, vOr_ap, vNot_ap, mIte_ap, aNil_ap, aCons_ap, datA_ap, getA_ap, opA_ap, mTup_ap, mLst_ap, foD_ap, mCall_ap, mChain_ap, mIsi_ap, mSeq_ap, mEnum_ap, mZip_ap, mRng_ap, mLc_ap, pNo_ap, pYes_ap, mListRng_ap, sNx_ap, sNever_ap, sSeq_ap, sRet_ap, sRetO_ap, sDrop_ap, sIf_ap, rvD_ap, rvO_ap, sSet_ap, sTgt_ap, sFor_ap, mMt_ap, chkL_ap, putM_ap, stN_ap, stRv_ap, stRf_ap, tgT_ap, tgC_ap, tg0_ap, sPar_ap, sPar3_ap, sPut_ap, mCut_ap, mMaxLen_ap, mSrtSet_ap, mSrtKey_ap, mKeys_ap, mDGet_ap, dicOf_ap, putMD_ap, sDPutM_ap, mLock_ap, mCallI_ap, mCallO_ap, mCallF_ap, runB_ap, runO_ap, agD, agG, agI, slD, Sl.isBr, seqD, fLe_ap, fLt_ap, fGt_ap, fGe_ap, fSub_ap, fAdd_ap, fNeg_ap, fLen_t, fLen_l, fAll_l, fAny_l, fTuple_l, fTuple_t, fList_l, fList_t, fInt_i, fEq_int, fNe_int, fIx_t, fIx_l, fIs_b, fNis_b, fIs_n, fNis_n, isNone_i, isNone_n, fApp_i, fApp_t, fExt_l, L, asBls_of, hany]
        | false =>
          have hany : found.any (MM cs y) = false := hc
          have hg : gstep cs found y = found ++ [y] := by unfold gstep; rw [if_neg (by rw [hc]; exact Bool.false_ne_true)]
          rw [hg]
          simp [runP_ap, initP, bnd_ap, ret_ap, lft_ap, nm_ap, frzv_ap, frzo_ap, dat_ap, val_ap, getv_ap, geto_ap, gets2_ap, op2_ap, op1_ap, tbool_ap, mAnd_ap, mOr_ap, mNot_ap, vAnd_ap, vOr_ap, vNot_ap, mIte_ap, aNil_ap, aCons_ap, datA_ap, getA_ap, opA_ap, mTup_ap, mLst_ap, foD_ap, mCall_ap, mChain_ap, mIsi_ap, mSeq_ap, mEnum_ap, mZip_ap, mRng_ap, mLc_ap, pNo_ap, pYes_ap, mListRng_ap, sNx_ap, sNever_ap, sSeq_ap, sRet_ap, sRetO_ap, sDrop_ap, sIf_ap, rvD_ap, rvO_ap, sSet_ap, sTgt_ap, sFor_ap, mMt_ap, chkL_ap, putM_ap, stN_ap, stRv_ap, stRf_ap, tgT_ap, tgC_ap, tg0_ap, sPar_ap, sPar3_ap, sPut_ap, mCut_ap, mMaxLen_ap, mSrtSet_ap, mSrtKey_ap, mKeys_ap, mDGet_ap, dicOf_ap, putMD_ap, sDPutM_ap, mLock_ap, mCallI_ap, mCallO_ap, mCallF_ap, runB_ap, runO_ap, agD, agG, agI, slD, Sl.isBr, seqD, fLe_ap, fLt_ap, fGt_ap, fGe_ap, fSub_ap, fAdd_ap, fNeg_ap, fLen_t, fLen_l, fAll_l, fAny_l, fTuple_l, fTuple_t, fList_l, fList_t, fInt_i, fEq_int, fNe_int, fIx_t, fIx_l, fIs_b, fNis_b, fIs_n, fNis_n, isNone_i, isNone_n, fApp_i, fApp_t, fExt_l, L, asBls_of, hany, fApp_N, hlen]
      · rcases gstep_mem ho with h | h
        · exact hb o h
        · rw [h]; exact hy1)
  simp [runP_ap, initP, bnd_ap, ret_ap, lft_ap, nm_ap, frzv_ap, frzo_ap, dat_ap, val_ap, getv_ap, geto_ap, gets2_ap, op2_ap, op1_ap, tbool_ap, mAnd_ap, mOr_ap, mNot_ap, vAnd_ap, vOr_ap, vNot_ap, mIte_ap, aNil_ap, aCons_ap, datA_ap, getA_ap, opA_ap, mTup_ap, mLst_ap, foD_ap, mCall_ap, mChain_ap, mIsi_ap, mSeq_ap, mEnum_ap, mZip_ap, mRng_ap, mLc_ap, pNo_ap, pYes_ap, mListRng_ap, sNx_ap, sNever_ap, sSeq_ap, sRet_ap, sRetO_ap, sDrop_ap, sIf_ap, rvD_ap, rvO_ap, sSet_ap, sTgt_ap, sFor_ap, mMt_ap, chkL_ap, putM_ap, stN_ap, stRv_ap, stRf_ap, tgT_ap, tgC_ap, tg0_ap, sPar_ap, sPar3_ap, sPut_ap, mCut_ap, mMaxLen_ap, mSrtSet_ap, mSrtKey_ap, mKeys_ap, mDGet_ap, dicOf_ap, putMD_ap, sDPutM_ap, mLock_ap, mCallI_ap, mCallO_ap, mCallF_ap, runB_ap, runO_ap, agD, agG, agI, slD, Sl.isBr, seqD, fLe_ap, fLt_ap, fGt_ap, fGe_ap, fSub_ap, fAdd_ap, fNeg_ap, fLen_t, fLen_l, fAll_l, fAny_l, fTuple_l, fTuple_t, fList_l, fList_t, fInt_i, fEq_int, fNe_int, fIx_t, fIx_l, fIs_b, fNis_b, fIs_n, fNis_n, isNone_i, isNone_n, fApp_i, fApp_t, fExt_l, f_granted_of, m_granted_of, by_rankE, h1]
  rfl
end K15
end
section
namespace K15
local instance : DL.Tbs := ⟨[]⟩
open PySem PySem.Spec PyProof.Rows L2 DL
/-! ### sorting what was found -/
def srtN (l : List Nat) : List Nat := l.mergeSort fun a b => decide (a ≤ b)
theorem sort_N (l : List Nat) : fSorted [.list (l.map eN)] = some (.ol ((srtN l).map eN)) := by
  have h := sort_ints (l.map fun (i : Nat) => (i : Int))
  have e : (l.map fun (i : Nat) => (i : Int)).map PyData.int = l.map eN := by rw [List.map_map]; rfl
  rw [e] at h
  rw [h]
  have := List.map_mergeSort (r := fun a b : Nat => decide (a ≤ b)) (s := fun a b : Int => decide (a ≤ b)) (f := fun (i : Nat) => (i : Int)) (l := l) fun a _ b _ => by
    apply decide_eq_decide.mpr; omega
  rw [← this, List.map_map]
  rfl
theorem grantedE {cs : List Cl} (h : Okc cs) : f_granted [.tuple (cs.map enc)] = some (.tuple ((srtN (greedy cs (ordZ (rks cs)))).map eN)) := by
  simp [runP_ap, initP, bnd_ap, ret_ap, lft_ap, nm_ap, frzv_ap, frzo_ap, dat_ap, val_ap, getv_ap, geto_ap, gets2_ap, op2_ap, op1_ap, tbool_ap, mAnd_ap, mOr_ap, mNot_ap, vAnd_ap, vOr_ap, vNot_ap, mIte_ap, aNil_ap, aCons_ap, datA_ap, getA_ap, opA_ap, mTup_ap, mLst_ap, foD_ap, mCall_ap, mChain_ap, mIsi_ap, mSeq_ap, mEnum_ap, mZip_ap, mRng_ap, mLc_ap, pNo_ap, pYes_ap, mListRng_ap, sNx_ap, sNever_ap, sSeq_ap, sRet_ap, sRetO_ap, sDrop_ap, sIf_ap, rvD_ap, rvO_ap, sSet_ap, sTgt_ap, sFor_ap, mMt_ap, chkL_ap, putM_ap, stN_ap, stRv_ap, stRf_ap, tgT_ap, tgC_ap, tg0_ap, sPar_ap, sPar3_ap, sPut_ap, mCut_ap, mMaxLen_ap, mSrtSet_ap, mSrtKey_ap, mKeys_ap, mDGet_ap, dicOf_ap, putMD_ap, sDPutM_ap, mLock_ap, mCallI_ap, mCallO_ap, mCallF_ap, runB_ap, runO_ap, agD, agG, agI, slD, Sl.isBr, seqD, fLe_ap, fLt_ap, fGt_ap, fGe_ap, fSub_ap, fAdd_ap, fNeg_ap, fLen_t, fLen_l, fAll_l, fAny_l, fTuple_l, fTuple_t, fList_l, fList_t, fInt_i, fEq_int, fNe_int, fIx_t, fIx_l, fIs_b, fNis_b, fIs_n, fNis_n, isNone_i, isNone_n, fApp_i, fApp_t, fExt_l, f_granted, m_granted, check_claimsE h, granted_ofE h.few, sort_N]
theorem eqv_int (a b : Int) : PyData.eqv (.int a) (.int b) = decide (a = b) := by
  simp only [PyData.eqv]; exact Bool.beq_eq_decide_eq a b
theorem fIn_N (i : Nat) (l : List Nat) : fIn (eN i) (.list (l.map eN)) = some (.bool (l.contains i)) := by
  have hf : (l.map eN).all flatD = true := List.all_eq_true.mpr fun d hd => by
    obtain ⟨j, _, rfl⟩ := List.mem_map.mp hd; rfl
  have ha : ((l.map eN).any fun z => PyData.eqv z (eN i)) = l.contains i := by
    rw [List.any_map]
    induction l with
    | nil => rfl
    | cons a l ih =>
      have hf' : (l.map eN).all flatD = true := by rw [List.map_cons, List.all_cons, Bool.and_eq_true] at hf; exact hf.2
      rw [List.any_cons, ih hf', List.contains_cons]
      congr 1
      show PyData.eqv (.int (a : Int)) (.int (i : Int)) = _
      rw [eqv_int]
      have : ((a : Int) = (i : Int)) ↔ i = a := by omega
      rw [decide_eq_decide.mpr this]
      exact (Bool.beq_eq_decide_eq i a).symm
  unfold fIn fInB seqD
  simp only
  rw [if_pos (by rw [hf]; rfl), ha]
/-- what bars a claim -/
def bars (cs : List Cl) (i : Nat) : List Nat := (greedy cs (ordZ (rks cs))).filter fun p => MM cs p i
theorem greedy_lt {cs : List Cl} : ∀ {order found : List Nat}, (∀ o ∈ order, o < cs.length) → (∀ o ∈ found, o < cs.length) → ∀ o ∈ order.foldl (gstep cs) found, o < cs.length
  | [], _, _, h2, o, ho => h2 o ho
  | p :: order, found, h1, h2, o, ho => by
    refine greedy_lt (fun o ho => h1 o (List.mem_cons_of_mem _ ho)) (fun o ho => ?_) o ho
    rcases gstep_mem ho with h | h
    · exact h2 o h
    · rw [h]; exact h1 p List.mem_cons_self
theorem ord_lt {zs : List Int} : ∀ o ∈ ordZ zs, o < zs.length := fun o ho => ord_mem ho
theorem granted_lt {cs : List Cl} : ∀ o ∈ greedy cs (ordZ (rks cs)), o < cs.length := greedy_lt (fun o ho => by have := ord_lt o ho; rwa [rks_len] at this) fun o ho => by cases ho
theorem barred_in {cs : List Cl} (h : Okc cs) {i : Nat} (hi : i < cs.length) (hg : i ∈ greedy cs (ordZ (rks cs))) : f_barred_by [.tuple (cs.map enc), eN i] = some .none := by
  have hcc := check_claimE hi
  have e : (.int (i : Int) : PyData) = eN i := rfl
  rw [e] at hcc
  simp [runP_ap, initP, bnd_ap, ret_ap, lft_ap, nm_ap, frzv_ap, frzo_ap, dat_ap, val_ap, getv_ap, geto_ap, gets2_ap, op2_ap, op1_ap, tbool_ap, mAnd_ap, mOr_ap, mNot_ap, vAnd_ap, vOr_ap, vNot_ap, mIte_ap, aNil_ap, aCons_ap, datA_ap, getA_ap, opA_ap, mTup_ap, mLst_ap, foD_ap, mCall_ap, mChain_ap, mIsi_ap, mSeq_ap, mEnum_ap, mZip_ap, mRng_ap, mLc_ap, pNo_ap, pYes_ap, mListRng_ap, sNx_ap, sNever_ap, sSeq_ap, sRet_ap, sRetO_ap, sDrop_ap, sIf_ap, rvD_ap, rvO_ap, sSet_ap, sTgt_ap, sFor_ap, mMt_ap, chkL_ap, putM_ap, stN_ap, stRv_ap, stRf_ap, tgT_ap, tgC_ap, tg0_ap, sPar_ap, sPar3_ap, sPut_ap, mCut_ap, mMaxLen_ap, mSrtSet_ap, mSrtKey_ap, mKeys_ap, mDGet_ap, dicOf_ap, putMD_ap, sDPutM_ap, mLock_ap, mCallI_ap, mCallO_ap, mCallF_ap, runB_ap, runO_ap, agD, agG, agI, slD, Sl.isBr, seqD, fLe_ap, fLt_ap, fGt_ap, fGe_ap, fSub_ap, fAdd_ap, fNeg_ap, fLen_t, fLen_l, fAll_l, fAny_l, fTuple_l, fTuple_t, fList_l, fList_t, fInt_i, fEq_int, fNe_int, fIx_t, fIx_l, fIs_b, fNis_b, fIs_n, fNis_n, isNone_i, isNone_n, fApp_i, fApp_t, fExt_l, f_barred_by, m_barred_by, check_claimsE h, hcc, granted_ofE h.few, fIn_N, hg]
theorem barred_out {cs : List Cl} (h : Okc cs) {i p : Nat} (hi : i < cs.length) (hg : i ∉ greedy cs (ordZ (rks cs))) (hp : (bars cs i)[0]? = some p) : f_barred_by [.tuple (cs.map enc), eN i] = some (eN p) := by
  have hcc := check_claimE hi
  have e : (.int (i : Int) : PyData) = eN i := rfl
  rw [e] at hcc
  have L := lc_filt (it := ⟨(greedy cs (ordZ (rks cs))).map eN, none⟩) (vs := [3]) (tgt := stN 3) (mc := tbool (mCall 2 f_meet (aCons (val (op2 fIx (nm 0) (nm 3))) (aCons (val (op2 fIx (nm 0) (nm 1))) aNil)))) (me := dat (nm 3)) (ρ := [.d (.tuple (cs.map enc)), .d (eN i), .d (.list ((greedy cs (ordZ (rks cs))).map eN)), .no])
    eN eN (fun p => MM cs p i) (ok_none rfl _) rfl (greedy cs (ordZ (rks cs))) fun o ho => ⟨[.d (.tuple (cs.map enc)), .d (eN i), .d (.list ((greedy cs (ordZ (rks cs))).map eN)), .d (eN o)], rfl, rfl, by simp [runP_ap, initP, bnd_ap, ret_ap, lft_ap, nm_ap, frzv_ap, frzo_ap, dat_ap, val_ap, getv_ap, geto_ap, gets2_ap, op2_ap, op1_ap, tbool_ap, mAnd_ap, mOr_ap, mNot_ap, vAnd_ap, vOr_ap, vNot_ap, mIte_ap, aNil_ap, aCons_ap, datA_ap, getA_ap, opA_ap, mTup_ap, mLst_ap, foD_ap, mCall_ap, mChain_ap, mIsi_ap, mSeq_ap, mEnum_ap, mZip_ap, mRng_ap, mLc_ap, pNo_ap, pYes_ap, mListRng_ap, sNx_ap, sNever_ap, sSeq_ap, sRet_ap, sRetO_ap, sDrop_ap, sIf_ap, rvD_ap, rvO_ap, sSet_ap, sTgt_ap, sFor_ap, mMt_ap, chkL_ap, putM_ap, stN_ap, stRv_ap, stRf_ap, tgT_ap, tgC_ap, tg0_ap, sPar_ap, sPar3_ap, sPut_ap, mCut_ap, mMaxLen_ap, mSrtSet_ap, mSrtKey_ap, mKeys_ap, mDGet_ap, dicOf_ap, putMD_ap, sDPutM_ap, mLock_ap, mCallI_ap, mCallO_ap, mCallF_ap, runB_ap, runO_ap, agD, agG, agI, slD, Sl.isBr, seqD, fLe_ap, fLt_ap, fGt_ap, fGe_ap, fSub_ap, fAdd_ap, fNeg_ap, fLen_t, fLen_l, fAll_l, fAny_l, fTuple_l, fTuple_t, fList_l, fList_t, fInt_i, fEq_int, fNe_int, fIx_t, fIx_l, fIs_b, fNis_b, fIs_n, fNis_n, isNone_i, isNone_n, fApp_i, fApp_t, fExt_l, fIx_tN, at_enc hi, at_enc (granted_lt o ho), meetE, MM], fun _ => by simp [runP_ap, initP, bnd_ap, ret_ap, lft_ap, nm_ap, frzv_ap, frzo_ap, dat_ap, val_ap, getv_ap, geto_ap, gets2_ap, op2_ap, op1_ap, tbool_ap, mAnd_ap, mOr_ap, mNot_ap, vAnd_ap, vOr_ap, vNot_ap, mIte_ap, aNil_ap, aCons_ap, datA_ap, getA_ap, opA_ap, mTup_ap, mLst_ap, foD_ap, mCall_ap, mChain_ap, mIsi_ap, mSeq_ap, mEnum_ap, mZip_ap, mRng_ap, mLc_ap, pNo_ap, pYes_ap, mListRng_ap, sNx_ap, sNever_ap, sSeq_ap, sRet_ap, sRetO_ap, sDrop_ap, sIf_ap, rvD_ap, rvO_ap, sSet_ap, sTgt_ap, sFor_ap, mMt_ap, chkL_ap, putM_ap, stN_ap, stRv_ap, stRf_ap, tgT_ap, tgC_ap, tg0_ap, sPar_ap, sPar3_ap, sPut_ap, mCut_ap, mMaxLen_ap, mSrtSet_ap, mSrtKey_ap, mKeys_ap, mDGet_ap, dicOf_ap, putMD_ap, sDPutM_ap, mLock_ap, mCallI_ap, mCallO_ap, mCallF_ap, runB_ap, runO_ap, agD, agG, agI, slD, Sl.isBr, seqD, fLe_ap, fLt_ap, fGt_ap, fGe_ap, fSub_ap, fAdd_ap, fNeg_ap, fLen_t, fLen_l, fAll_l, fAny_l, fTuple_l, fTuple_t, fList_l, fList_t, fInt_i, fEq_int, fNe_int, fIx_t, fIx_l, fIs_b, fNis_b, fIs_n, fNis_n, isNone_i, isNone_n, fApp_i, fApp_t, fExt_l]⟩
  have hat : atI ((bars cs i).map eN) 0 = some (eN p) := atI_nat (j := 0) (by rw [List.getElem?_map, hp]; rfl)
  unfold bars at hat
  simp [runP_ap, initP, bnd_ap, ret_ap, lft_ap, nm_ap, frzv_ap, frzo_ap, dat_ap, val_ap, getv_ap, geto_ap, gets2_ap, op2_ap, op1_ap, tbool_ap, mAnd_ap, mOr_ap, mNot_ap, vAnd_ap, vOr_ap, vNot_ap, mIte_ap, aNil_ap, aCons_ap, datA_ap, getA_ap, opA_ap, mTup_ap, mLst_ap, foD_ap, mCall_ap, mChain_ap, mIsi_ap, mSeq_ap, mEnum_ap, mZip_ap, mRng_ap, mLc_ap, pNo_ap, pYes_ap, mListRng_ap, sNx_ap, sNever_ap, sSeq_ap, sRet_ap, sRetO_ap, sDrop_ap, sIf_ap, rvD_ap, rvO_ap, sSet_ap, sTgt_ap, sFor_ap, mMt_ap, chkL_ap, putM_ap, stN_ap, stRv_ap, stRf_ap, tgT_ap, tgC_ap, tg0_ap, sPar_ap, sPar3_ap, sPut_ap, mCut_ap, mMaxLen_ap, mSrtSet_ap, mSrtKey_ap, mKeys_ap, mDGet_ap, dicOf_ap, putMD_ap, sDPutM_ap, mLock_ap, mCallI_ap, mCallO_ap, mCallF_ap, runB_ap, runO_ap, agD, agG, agI, slD, Sl.isBr, seqD, fLe_ap, fLt_ap, fGt_ap, fGe_ap, fSub_ap, fAdd_ap, fNeg_ap, fLen_t, fLen_l, fAll_l, fAny_l, fTuple_l, fTuple_t, fList_l, fList_t, fInt_i, fEq_int, fNe_int, fIx_t, fIx_l, fIs_b, fNis_b, fIs_n, fNis_n, isNone_i, isNone_n, fApp_i, fApp_t, fExt_l, f_barred_by, m_barred_by, check_claimsE h, hcc, granted_ofE h.few, fIn_N, hg, L, hat]
end K15
end
section
namespace K15
local instance : DL.Tbs := ⟨[]⟩
open PySem PySem.Spec PyProof.Rows L2 DL
theorem ixE0 (c : Cl) : fIx (enc c) (.int 0) = some (.int c.1) := at0 ..
theorem ixE1 (c : Cl) : fIx (enc c) (.int 1) = some (.int c.2.1) := at1 ..
theorem ixE2 (c : Cl) : fIx (enc c) (.int 2) = some (.int c.2.2.1) := at2 ..
theorem ixP0 (p : Int × Int) : fIx (encP p) (.int 0) = some (.int p.1) := at0 ..
theorem ixP1 (p : Int × Int) : fIx (encP p) (.int 1) = some (.int p.2) := at1 ..
theorem fApp_P (p : Int × Int) (cs : List PyData) : fAppend [encP p] cs = (if cs.length < 16777216 then some (.none, cs ++ [encP p]) else none) := rfl
def pin (cs : List Cl) (i : Nat) : Int × Int := ((cl cs i).1, (cl cs i).2.2.1)
theorem pin_tup (cs : List Cl) (i : Nat) : PyData.tuple [.int (cl cs i).1, .int (cl cs i).2.2.1] = encP (pin cs i) := rfl
noncomputable def b_most : S := (sIf (mNot (tbool (opA fAny (aCons (val (foD (mLc (mSeq (nm 1)) [6] (stN 6) (DL.ret true) (mCall 2 f_meet (aCons (val (op2 fIx (nm 0) (nm 4))) (aCons (val (op2 fIx (nm 0) (nm 6))) aNil)))))) aNil)))) (sSeq (sDrop (mMt fAppend (nm 1) (aCons (val (dat (nm 4))) aNil)))
    (sDrop (mMt fAppend (nm 2) (aCons (val (mTup (aCons (val (op2 fIx (val (op2 fIx (nm 0) (nm 4))) (val (DL.ret (.int 0))))) (aCons (val (dat (nm 3))) aNil)))) aNil)))) sNx)
noncomputable def i_most : M Sl := (mLc (mEnum (aCons (val (dat (nm 0))) aNil)) [4, 5] (tgT (tgC (stN 4) (tgC (stN 5) tg0))) (DL.ret true) (mTup (aCons (val (op2 fIx (nm 5) (val (DL.ret (.int 2))))) (aCons (val (dat (nm 4))) aNil))))
theorem m_most_is : m_most_of = sSeq (sPar 1 2 (rvO (mLst aNil)) (rvO (mLst aNil)))
    (sSeq (sFor (mSeq (val (foD (opA fSorted (aCons (val (foD i_most)) aNil))))) (tgT (tgC (stN 3) (tgC (stN 4) tg0))) b_most)
    (sRet (mTup (aCons (val (opA fLen (aCons (nm 1) aNil))) (aCons (val (opA fTuple (aCons (val (foD (opA fSorted (aCons (nm 1) aNil)))) aNil))) (aCons (val (opA fTuple (aCons (val (foD (opA fSorted (aCons (nm 2) aNil)))) aNil))) aNil)))))) := rfl
theorem i_most_is (cs : List Cl) : i_most [.d (.tuple (cs.map enc)), .ol [], .ol [], .no, .no, .no, .no] = some (.ol ((List.range cs.length).map (pk (lss cs))), [.d (.tuple (cs.map enc)), .ol [], .ol [], .no, .no, .no, .no]) := by
  have L1 := lc_map (it := ⟨(List.range cs.length).map (enI cs), none⟩) (vs := [4, 5]) (tgt := tgT (tgC (stN 4) (tgC (stN 5) tg0))) (me := mTup (aCons (val (op2 fIx (nm 5) (val (DL.ret (.int 2))))) (aCons (val (dat (nm 4))) aNil))) (ρ := [.d (.tuple (cs.map enc)), .ol [], .ol [], .no, .no, .no, .no])
    (enI cs) (pk (lss cs)) (ok_none rfl _) rfl (List.range cs.length) fun i _ =>
    ⟨[.d (.tuple (cs.map enc)), .ol [], .ol [], .no, .d (.int (i : Int)), .d (enc (cl cs i)), .no], rfl, rfl, by rw [pk_eq, lss_get]; simp [runP_ap, initP, bnd_ap, ret_ap, lft_ap, nm_ap, frzv_ap, frzo_ap, dat_ap, val_ap, getv_ap, geto_ap, gets2_ap, op2_ap, op1_ap, tbool_ap, mAnd_ap, mOr_ap, mNot_ap, vAnd_ap, vOr_ap, vNot_ap, mIte_ap, aNil_ap, aCons_ap, datA_ap, getA_ap, opA_ap, mTup_ap, mLst_ap, foD_ap, mCall_ap, mChain_ap, mIsi_ap, mSeq_ap, mEnum_ap, mZip_ap, mRng_ap, mLc_ap, pNo_ap, pYes_ap, mListRng_ap, sNx_ap, sNever_ap, sSeq_ap, sRet_ap, sRetO_ap, sDrop_ap, sIf_ap, rvD_ap, rvO_ap, sSet_ap, sTgt_ap, sFor_ap, mMt_ap, chkL_ap, putM_ap, stN_ap, stRv_ap, stRf_ap, tgT_ap, tgC_ap, tg0_ap, sPar_ap, sPar3_ap, sPut_ap, mCut_ap, mMaxLen_ap, mSrtSet_ap, mSrtKey_ap, mKeys_ap, mDGet_ap, dicOf_ap, putMD_ap, sDPutM_ap, mLock_ap, mCallI_ap, mCallO_ap, mCallF_ap, runB_ap, runO_ap, agD, agG, agI, slD, Sl.isBr, seqD, fLe_ap, fLt_ap, fGt_ap, fGe_ap, fSub_ap, fAdd_ap, fNeg_ap, fLen_t, fLen_l, fAll_l, fAny_l, fTuple_l, fTuple_t, fList_l, fList_t, fInt_i, fEq_int, fNe_int, fIx_t, fIx_l, fIs_b, fNis_b, fIs_n, fNis_n, isNone_i, isNone_n, fApp_i, fApp_t, fExt_l, ixE2]⟩
  unfold i_most
  simp [runP_ap, initP, bnd_ap, ret_ap, lft_ap, nm_ap, frzv_ap, frzo_ap, dat_ap, val_ap, getv_ap, geto_ap, gets2_ap, op2_ap, op1_ap, tbool_ap, mAnd_ap, mOr_ap, mNot_ap, vAnd_ap, vOr_ap, vNot_ap, mIte_ap, aNil_ap, aCons_ap, datA_ap, getA_ap, opA_ap, mTup_ap, mLst_ap, foD_ap, mCall_ap, mChain_ap, mIsi_ap, mSeq_ap, mEnum_ap, mZip_ap, mRng_ap, mLc_ap, pNo_ap, pYes_ap, mListRng_ap, sNx_ap, sNever_ap, sSeq_ap, sRet_ap, sRetO_ap, sDrop_ap, sIf_ap, rvD_ap, rvO_ap, sSet_ap, sTgt_ap, sFor_ap, mMt_ap, chkL_ap, putM_ap, stN_ap, stRv_ap, stRf_ap, tgT_ap, tgC_ap, tg0_ap, sPar_ap, sPar3_ap, sPut_ap, mCut_ap, mMaxLen_ap, mSrtSet_ap, mSrtKey_ap, mKeys_ap, mDGet_ap, dicOf_ap, putMD_ap, sDPutM_ap, mLock_ap, mCallI_ap, mCallO_ap, mCallF_ap, runB_ap, runO_ap, agD, agG, agI, slD, Sl.isBr, seqD, fLe_ap, fLt_ap, fGt_ap, fGe_ap, fSub_ap, fAdd_ap, fNeg_ap, fLen_t, fLen_l, fAll_l, fAny_l, fTuple_l, fTuple_t, fList_l, fList_t, fInt_i, fEq_int, fNe_int, fIx_t, fIx_l, fIs_b, fNis_b, fIs_n, fNis_n, isNone_i, isNone_n, fApp_i, fApp_t, fExt_l, enum_is, L1]
def stM (cs : List Cl) (found : List Nat) (o3 o4 : Option PyData) : Ro := [.d (.tuple (cs.map enc)), .ol (found.map eN), .ol (found.map fun i => encP (pin cs i)), ofO o3, ofO o4, .no, .no]
theorem b_most_is {cs : List Cl} {found : List Nat} {y : Nat} (hy1 : y < cs.length) (hb : ∀ o ∈ found, o < cs.length) (hlen : found.length < 16777216) :
    b_most (stM cs found (some (.int (cl cs y).2.2.1)) (some (eN y))) = some (.nx, stM cs (gstep cs found y) (some (.int (cl cs y).2.2.1)) (some (eN y))) := by
  have L := lc_map (it := ⟨found.map eN, some 1⟩) (vs := [6]) (tgt := stN 6) (me := mCall 2 f_meet (aCons (val (op2 fIx (nm 0) (nm 4))) (aCons (val (op2 fIx (nm 0) (nm 6))) aNil))) (ρ := stM cs found (some (.int (cl cs y).2.2.1)) (some (eN y)))
    eN (fun o => .bool (MM cs y o)) rfl rfl found fun o ho => ⟨[.d (.tuple (cs.map enc)), .ol (found.map eN), .ol (found.map fun i => encP (pin cs i)), .d (.int (cl cs y).2.2.1), .d (eN y), .no, .d (eN o)], rfl, rfl, by simp [runP_ap, initP, bnd_ap, ret_ap, lft_ap, nm_ap, frzv_ap, frzo_ap, dat_ap, val_ap, getv_ap, geto_ap, gets2_ap, op2_ap, op1_ap, tbool_ap, mAnd_ap, mOr_ap, mNot_ap, vAnd_ap, vOr_ap, vNot_ap, mIte_ap, aNil_ap, aCons_ap, datA_ap, getA_ap, opA_ap, mTup_ap, mLst_ap, foD_ap, mCall_ap, mChain_ap, mIsi_ap, mSeq_ap, mEnum_ap, mZip_ap, mRng_ap, mLc_ap, pNo_ap, pYes_ap, mListRng_ap, sNx_ap, sNever_ap, sSeq_ap, sRet_ap, sRetO_ap, sDrop_ap, sIf_ap, rvD_ap, rvO_ap, sSet_ap, sTgt_ap, sFor_ap, mMt_ap, chkL_ap, putM_ap, stN_ap, stRv_ap, stRf_ap, tgT_ap, tgC_ap, tg0_ap, sPar_ap, sPar3_ap, sPut_ap, mCut_ap, mMaxLen_ap, mSrtSet_ap, mSrtKey_ap, mKeys_ap, mDGet_ap, dicOf_ap, putMD_ap, sDPutM_ap, mLock_ap, mCallI_ap, mCallO_ap, mCallF_ap, runB_ap, runO_ap, agD, agG, agI, slD, Sl.isBr, seqD, fLe_ap, fLt_ap, fGt_ap, fGe_ap, fSub_ap, fAdd_ap, fNeg_ap, fLen_t, fLen_l, fAll_l, fAny_l, fTuple_l, fTuple_t, fList_l, fList_t, fInt_i, fEq_int, fNe_int, fIx_t, fIx_l, fIs_b, fNis_b, fIs_n, fNis_n, isNone_i, isNone_n, fApp_i, fApp_t, fExt_l, fIx_tN, at_enc hy1, at_enc (hb o ho), meetE, MM]⟩
  unfold stM ofO at *
  unfold b_most
  cases hc : clash cs found y with
  | true =>
    have hany : found.any (MM cs y) = true := hc
    have hg : gstep cs found y = found := by unfold gstep; rw [if_pos hc]
    rw [hg]
    simp [runP_ap, initP, bnd_ap, ret_ap, lft_ap, nm_ap, frzv_ap, frzo_ap, dat_ap, val_ap, getv_ap, geto_ap, gets2_ap, op2_ap, op1_ap, tbool_ap, mAnd_ap, mOr_ap, mNot_ap, vAnd_ap, vOr_ap, vNot_ap, mIte_ap, aNil_ap, aCons_ap, datA_ap, getA_ap, opA_ap, mTup_ap, mLst_ap, foD_ap, mCall_ap, mChain_ap, mIsi_ap, mSeq_ap, mEnum_ap, mZip_ap, mRng_ap, mLc_ap, pNo_ap, pYes_ap, mListRng_ap, sNx_ap, sNever_ap, sSeq_ap, sRet_ap, sRetO_ap, sDrop_ap, sIf_ap, rvD_ap, rvO_ap, sSet_ap, sTgt_ap, sFor_ap, mMt_ap, chkL_ap, putM_ap, stN_ap, stRv_ap, stRf_ap, tgT_ap, tgC_ap, tg0_ap, sPar_ap, sPar3_ap, sPut_ap, mCut_ap, mMaxLen_ap, mSrtSet_ap, mSrtKey_ap, mKeys_ap, mDGet_ap, dicOf_ap, putMD_ap, sDPutM_ap, mLock_ap, mCallI_ap, mCallO_ap, mCallF_ap, runB_ap, runO_ap, agD, agG, agI, slD, Sl.isBr, seqD, fLe_ap, fLt_ap, fGt_ap, fGe_ap, fSub_ap, fAdd_ap, fNeg_ap, fLen_t, fLen_l, fAll_l, fAny_l, fTuple_l, fTuple_t, fList_l, fList_t, fInt_i, fEq_int, fNe_int, fIx_t, fIx_l, fIs_b, fNis_b, fIs_n, fNis_n, isNone_i, isNone_n, fApp_i, fApp_t, fExt_l, L, asBls_of, hany]
  | false =>
    have hany : found.any (MM cs y) = false := hc
    have hg : gstep cs found y = found ++ [y] := by unfold gstep; rw [if_neg (by rw [hc]; exact Bool.false_ne_true)]
    rw [hg]
    simp [runP_ap, initP, bnd_ap, ret_ap, lft_ap, nm_ap, frzv_ap, frzo_ap, dat_ap, val_ap, getv_ap, geto_ap, gets2_ap, op2_ap, op1_ap, tbool_ap, mAnd_ap, mOr_ap, mNot_ap, vAnd_ap, vOr_ap, vNot_ap, mIte_ap, aNil_ap, aCons_ap, datA_ap, getA_ap, opA_ap, mTup_ap, mLst_ap, foD_ap, mCall_ap, mChain_ap, mIsi_ap, mSeq_ap, mEnum_ap, mZip_ap, mRng_ap, mLc_ap, pNo_ap, pYes_ap, mListRng_ap, sNx_ap, sNever_ap, sSeq_ap, sRet_ap, sRetO_ap, sDrop_ap, sIf_ap, rvD_ap, rvO_ap, sSet_ap, sTgt_ap, sFor_ap, mMt_ap, chkL_ap, putM_ap, stN_ap, stRv_ap, stRf_ap, tgT_ap, tgC_ap, tg0_ap, sPar_ap, sPar3_ap, sPut_ap, mCut_ap, mMaxLen_ap, mSrtSet_ap, mSrtKey_ap, mKeys_ap, mDGet_ap, dicOf_ap, putMD_ap, sDPutM_ap, mLock_ap, mCallI_ap, mCallO_ap, mCallF_ap, runB_ap, runO_ap, agD, agG, agI, slD, Sl.isBr, seqD, fLe_ap, fLt_ap, fGt_ap, fGe_ap, fSub_ap, fAdd_ap, fNeg_ap, fLen_t, fLen_l, fAll_l, fAny_l, fTuple_l, fTuple_t, fList_l, fList_t, fInt_i, fEq_int, fNe_int, fIx_t, fIx_l, fIs_b, fNis_b, fIs_n, fNis_n, isNone_i, isNone_n, fApp_i, fApp_t, fExt_l, L, asBls_of, hany, fApp_N, fApp_P, hlen, fIx_tN, at_enc hy1, ixE0, pin_tup]
def lotOf (cs : List Cl) : List Nat := greedy cs (ordZ (lss cs))
def pinsOf (cs : List Cl) : List (Int × Int) := ((lotOf cs).map (pin cs)).mergeSort leP
theorem most_ofE {cs : List Cl} (hl : cs.length ≤ 8) : f_most_of [.tuple (cs.map enc)] = some (.tuple [.int (lotOf cs).length, .tuple ((srtN (lotOf cs)).map eN), .tuple ((pinsOf cs).map encP)]) := by
  have SP := sort_pk (lss cs)
  rw [lss_len] at SP
  obtain ⟨ρ', h1, o3, o4, rfl, h3, h4⟩ := for_at (it := ⟨(ordZ (lss cs)).map (pk (lss cs)), none⟩) (tgt := tgT (tgC (stN 3) (tgC (stN 4) tg0))) (b := b_most) (pk (lss cs))
    (fun k (found : List Nat) (ρ : Ro) => ∃ o3 o4, ρ = stM cs found o3 o4 ∧ found.length ≤ k ∧ ∀ o ∈ found, o < cs.length) (gstep cs) (ordZ (lss cs)) 0 [] [.d (.tuple (cs.map enc)), .ol [], .ol [], .no, .no, .no, .no] ⟨none, none, rfl, Nat.le_refl _, fun o h => (by cases h)⟩ (by
      rintro i y hy found ρ ⟨o3, o4, rfl, hk, hb⟩
      obtain ⟨hy1, hi⟩ := ord_at hy
      rw [lss_len] at hy1 hi
      refine ⟨stM cs found (some (.int (cl cs y).2.2.1)) (some (eN y)), stM cs (gstep cs found y) (some (.int (cl cs y).2.2.1)) (some (eN y)), ?_, b_most_is hy1 hb (by omega), _, _, rfl, Nat.le_trans (gstep_len cs found y) (by omega), fun o ho => ?_⟩
      · rw [pk_eq, lss_get]
        cases o3 <;> cases o4 <;> rfl
      · rcases gstep_mem ho with h | h
        · exact hb o h
        · rw [h]; exact hy1)
  have e : (ordZ (lss cs)).foldl (gstep cs) [] = lotOf cs := rfl
  rw [e] at h1
  have S1 := sort_N (lotOf cs)
  have S2 := sort_pairs ((lotOf cs).map (pin cs))
  rw [List.map_map] at S2
  have S2' : fSorted [.list ((lotOf cs).map fun i => encP (pin cs i))] = some (.ol ((pinsOf cs).map encP)) := S2
  unfold f_most_of
  rw [m_most_is]
  simp [runP_ap, initP, bnd_ap, ret_ap, lft_ap, nm_ap, frzv_ap, frzo_ap, dat_ap, val_ap, getv_ap, geto_ap, gets2_ap, op2_ap, op1_ap, tbool_ap, mAnd_ap, mOr_ap, mNot_ap, vAnd_ap, vOr_ap, vNot_ap, mIte_ap, aNil_ap, aCons_ap, datA_ap, getA_ap, opA_ap, mTup_ap, mLst_ap, foD_ap, mCall_ap, mChain_ap, mIsi_ap, mSeq_ap, mEnum_ap, mZip_ap, mRng_ap, mLc_ap, pNo_ap, pYes_ap, mListRng_ap, sNx_ap, sNever_ap, sSeq_ap, sRet_ap, sRetO_ap, sDrop_ap, sIf_ap, rvD_ap, rvO_ap, sSet_ap, sTgt_ap, sFor_ap, mMt_ap, chkL_ap, putM_ap, stN_ap, stRv_ap, stRf_ap, tgT_ap, tgC_ap, tg0_ap, sPar_ap, sPar3_ap, sPut_ap, mCut_ap, mMaxLen_ap, mSrtSet_ap, mSrtKey_ap, mKeys_ap, mDGet_ap, dicOf_ap, putMD_ap, sDPutM_ap, mLock_ap, mCallI_ap, mCallO_ap, mCallF_ap, runB_ap, runO_ap, agD, agG, agI, slD, Sl.isBr, seqD, fLe_ap, fLt_ap, fGt_ap, fGe_ap, fSub_ap, fAdd_ap, fNeg_ap, fLen_t, fLen_l, fAll_l, fAny_l, fTuple_l, fTuple_t, fList_l, fList_t, fInt_i, fEq_int, fNe_int, fIx_t, fIx_l, fIs_b, fNis_b, fIs_n, fNis_n, isNone_i, isNone_n, fApp_i, fApp_t, fExt_l, i_most_is, SP, h1]
  unfold stM
  simp [runP_ap, initP, bnd_ap, ret_ap, lft_ap, nm_ap, frzv_ap, frzo_ap, dat_ap, val_ap, getv_ap, geto_ap, gets2_ap, op2_ap, op1_ap, tbool_ap, mAnd_ap, mOr_ap, mNot_ap, vAnd_ap, vOr_ap, vNot_ap, mIte_ap, aNil_ap, aCons_ap, datA_ap, getA_ap, opA_ap, mTup_ap, mLst_ap, foD_ap, mCall_ap, mChain_ap, mIsi_ap, mSeq_ap, mEnum_ap, mZip_ap, mRng_ap, mLc_ap, pNo_ap, pYes_ap, mListRng_ap, sNx_ap, sNever_ap, sSeq_ap, sRet_ap, sRetO_ap, sDrop_ap, sIf_ap, rvD_ap, rvO_ap, sSet_ap, sTgt_ap, sFor_ap, mMt_ap, chkL_ap, putM_ap, stN_ap, stRv_ap, stRf_ap, tgT_ap, tgC_ap, tg0_ap, sPar_ap, sPar3_ap, sPut_ap, mCut_ap, mMaxLen_ap, mSrtSet_ap, mSrtKey_ap, mKeys_ap, mDGet_ap, dicOf_ap, putMD_ap, sDPutM_ap, mLock_ap, mCallI_ap, mCallO_ap, mCallF_ap, runB_ap, runO_ap, agD, agG, agI, slD, Sl.isBr, seqD, fLe_ap, fLt_ap, fGt_ap, fGe_ap, fSub_ap, fAdd_ap, fNeg_ap, fLen_t, fLen_l, fAll_l, fAny_l, fTuple_l, fTuple_t, fList_l, fList_t, fInt_i, fEq_int, fNe_int, fIx_t, fIx_l, fIs_b, fNis_b, fIs_n, fNis_n, isNone_i, isNone_n, fApp_i, fApp_t, fExt_l, S1, S2']
end K15
end
section
namespace K15
local instance : DL.Tbs := ⟨[]⟩
open PySem PySem.Spec PyProof.Rows L2 DL
theorem keys_last (cs : List Cl) : keyInts 2 (cs.map enc) = some (lss cs) := by
  induction cs with
  | nil => rfl
  | cons c cs ih => simp [keyInts, enc, lss] at ih ⊢; exact ih
theorem keys_first (cs : List Cl) : keyInts 1 (cs.map enc) = some (fss cs) := by
  induction cs with
  | nil => rfl
  | cons c cs ih => simp [keyInts, enc, fss] at ih ⊢; exact ih
noncomputable def b_ls : S := (sIf (mNot (tbool (opA fAny (aCons (val (foD (mLc (mSeq (nm 1)) [4] (stN 4) (DL.ret true) (mCall 2 f_law_do_meet (aCons (val (op2 fIx (nm 0) (nm 3))) (aCons (val (op2 fIx (nm 0) (nm 4))) aNil)))))) aNil)))) (sSeq (sDrop (mMt fAppend (nm 1) (aCons (val (opA fInt (aCons (nm 3) aNil))) aNil)))
    (sDrop (mMt fAppend (nm 2) (aCons (val (mTup (aCons (val (op2 fIx (val (op2 fIx (nm 0) (nm 3))) (val (DL.ret (.int 0))))) (aCons (val (op2 fIx (val (op2 fIx (nm 0) (nm 3))) (val (DL.ret (.int 2))))) aNil)))) aNil)))) sNx)
theorem m_ls_is : m_law_stands = sSeq (sPar 1 2 (rvO (mLst aNil)) (rvO (mLst aNil)))
    (sSeq (sFor (mSeq (val (foD (mSrtKey 0 2 (opA fLen (aCons (nm 0) aNil)))))) (stN 3) b_ls)
    (sRet (mTup (aCons (val (opA fTuple (aCons (val (foD (opA fSorted (aCons (nm 1) aNil)))) aNil))) (aCons (val (opA fTuple (aCons (val (foD (opA fSorted (aCons (nm 2) aNil)))) aNil))) aNil))))) := rfl
def stL (cs : List Cl) (found : List Nat) (o3 : Option PyData) : Ro := [.d (.tuple (cs.map enc)), .ol (found.map eN), .ol (found.map fun i => encP (pin cs i)), ofO o3, .no]
theorem b_ls_is {cs : List Cl} {found : List Nat} {y : Nat} (hy1 : y < cs.length) (hb : ∀ o ∈ found, o < cs.length) (hlen : found.length < 16777216) :
    b_ls (stL cs found (some (eN y))) = some (.nx, stL cs (gstep cs found y) (some (eN y))) := by
  have L := lc_map (it := ⟨found.map eN, some 1⟩) (vs := [4]) (tgt := stN 4) (me := mCall 2 f_law_do_meet (aCons (val (op2 fIx (nm 0) (nm 3))) (aCons (val (op2 fIx (nm 0) (nm 4))) aNil))) (ρ := stL cs found (some (eN y)))
    eN (fun o => .bool (MM cs y o)) rfl rfl found fun o ho => ⟨[.d (.tuple (cs.map enc)), .ol (found.map eN), .ol (found.map fun i => encP (pin cs i)), .d (eN y), .d (eN o)], rfl, rfl, by simp [runP_ap, initP, bnd_ap, ret_ap, lft_ap, nm_ap, frzv_ap, frzo_ap, dat_ap, val_ap, getv_ap, geto_ap, gets2_ap, op2_ap, op1_ap, tbool_ap, mAnd_ap, mOr_ap, mNot_ap, vAnd_ap, vOr_ap, vNot_ap, mIte_ap, aNil_ap, aCons_ap, datA_ap, getA_ap, opA_ap, mTup_ap, mLst_ap, foD_ap, mCall_ap, mChain_ap, mIsi_ap, mSeq_ap, mEnum_ap, mZip_ap, mRng_ap, mLc_ap, pNo_ap, pYes_ap, mListRng_ap, sNx_ap, sNever_ap, sSeq_ap, sRet_ap, sRetO_ap, sDrop_ap, sIf_ap, rvD_ap, rvO_ap, sSet_ap, sTgt_ap, sFor_ap, mMt_ap, chkL_ap, putM_ap, stN_ap, stRv_ap, stRf_ap, tgT_ap, tgC_ap, tg0_ap, sPar_ap, sPar3_ap, sPut_ap, mCut_ap, mMaxLen_ap, mSrtSet_ap, mSrtKey_ap, mKeys_ap, mDGet_ap, dicOf_ap, putMD_ap, sDPutM_ap, mLock_ap, mCallI_ap, mCallO_ap, mCallF_ap, runB_ap, runO_ap, agD, agG, agI, slD, Sl.isBr, seqD, fLe_ap, fLt_ap, fGt_ap, fGe_ap, fSub_ap, fAdd_ap, fNeg_ap, fLen_t, fLen_l, fAll_l, fAny_l, fTuple_l, fTuple_t, fList_l, fList_t, fInt_i, fEq_int, fNe_int, fIx_t, fIx_l, fIs_b, fNis_b, fIs_n, fNis_n, isNone_i, isNone_n, fApp_i, fApp_t, fExt_l, fIx_tN, at_enc hy1, at_enc (hb o ho), lmeetE, MM]⟩
  unfold stL ofO at *
  unfold b_ls
  cases hc : clash cs found y with
  | true =>
    have hany : found.any (MM cs y) = true := hc
    have hg : gstep cs found y = found := by unfold gstep; rw [if_pos hc]
    rw [hg]
    simp [runP_ap, initP, bnd_ap, ret_ap, lft_ap, nm_ap, frzv_ap, frzo_ap, dat_ap, val_ap, getv_ap, geto_ap, gets2_ap, op2_ap, op1_ap, tbool_ap, mAnd_ap, mOr_ap, mNot_ap, vAnd_ap, vOr_ap, vNot_ap, mIte_ap, aNil_ap, aCons_ap, datA_ap, getA_ap, opA_ap, mTup_ap, mLst_ap, foD_ap, mCall_ap, mChain_ap, mIsi_ap, mSeq_ap, mEnum_ap, mZip_ap, mRng_ap, mLc_ap, pNo_ap, pYes_ap, mListRng_ap, sNx_ap, sNever_ap, sSeq_ap, sRet_ap, sRetO_ap, sDrop_ap, sIf_ap, rvD_ap, rvO_ap, sSet_ap, sTgt_ap, sFor_ap, mMt_ap, chkL_ap, putM_ap, stN_ap, stRv_ap, stRf_ap, tgT_ap, tgC_ap, tg0_ap, sPar_ap, sPar3_ap, sPut_ap, mCut_ap, mMaxLen_ap, mSrtSet_ap, mSrtKey_ap, mKeys_ap, mDGet_ap, dicOf_ap, putMD_ap, sDPutM_ap, mLock_ap, mCallI_ap, mCallO_ap, mCallF_ap, runB_ap, runO_ap, agD, agG, agI, slD, Sl.isBr, seqD, fLe_ap, fLt_ap, fGt_ap, fGe_ap, fSub_ap, fAdd_ap, fNeg_ap, fLen_t, fLen_l, fAll_l, fAny_l, fTuple_l, fTuple_t, fList_l, fList_t, fInt_i, fEq_int, fNe_int, fIx_t, fIx_l, fIs_b, fNis_b, fIs_n, fNis_n, isNone_i, isNone_n, fApp_i, fApp_t, fExt_l, L, asBls_of, hany]
  | false =>
    have hany : found.any (MM cs y) = false := hc
    have hg : gstep cs found y = found ++ [y] := by unfold gstep; rw [if_neg (by rw [hc]; exact Bool.false_ne_true)]
    rw [hg]
    simp [runP_ap, initP, bnd_ap, ret_ap, lft_ap, nm_ap, frzv_ap, frzo_ap, dat_ap, val_ap, getv_ap, geto_ap, gets2_ap, op2_ap, op1_ap, tbool_ap, mAnd_ap, mOr_ap, mNot_ap, vAnd_ap, vOr_ap, vNot_ap, mIte_ap, aNil_ap, aCons_ap, datA_ap, getA_ap, opA_ap, mTup_ap, mLst_ap, foD_ap, mCall_ap, mChain_ap, mIsi_ap, mSeq_ap, mEnum_ap, mZip_ap, mRng_ap, mLc_ap, pNo_ap, pYes_ap, mListRng_ap, sNx_ap, sNever_ap, sSeq_ap, sRet_ap, sRetO_ap, sDrop_ap, sIf_ap, rvD_ap, rvO_ap, sSet_ap, sTgt_ap, sFor_ap, mMt_ap, chkL_ap, putM_ap, stN_ap, stRv_ap, stRf_ap, tgT_ap, tgC_ap, tg0_ap, sPar_ap, sPar3_ap, sPut_ap, mCut_ap, mMaxLen_ap, mSrtSet_ap, mSrtKey_ap, mKeys_ap, mDGet_ap, dicOf_ap, putMD_ap, sDPutM_ap, mLock_ap, mCallI_ap, mCallO_ap, mCallF_ap, runB_ap, runO_ap, agD, agG, agI, slD, Sl.isBr, seqD, fLe_ap, fLt_ap, fGt_ap, fGe_ap, fSub_ap, fAdd_ap, fNeg_ap, fLen_t, fLen_l, fAll_l, fAny_l, fTuple_l, fTuple_t, fList_l, fList_t, fInt_i, fEq_int, fNe_int, fIx_t, fIx_l, fIs_b, fNis_b, fIs_n, fNis_n, isNone_i, isNone_n, fApp_i, fApp_t, fExt_l, L, asBls_of, hany, fInt_N, fApp_N, fApp_P, hlen, fIx_tN, at_enc hy1, ixE0, ixE2, pin_tup]
theorem law_standsE {cs : List Cl} (hl : cs.length ≤ 8) : f_law_stands [.tuple (cs.map enc)] = some (.tuple [.tuple ((srtN (lotOf cs)).map eN), .tuple ((pinsOf cs).map encP)]) := by
  obtain ⟨ρ', h1, o3, rfl, h3, h4⟩ := for_at (it := ⟨(ordZ (lss cs)).map eN, none⟩) (tgt := stN 3) (b := b_ls) eN
    (fun k (found : List Nat) (ρ : Ro) => ∃ o3, ρ = stL cs found o3 ∧ found.length ≤ k ∧ ∀ o ∈ found, o < cs.length) (gstep cs) (ordZ (lss cs)) 0 [] [.d (.tuple (cs.map enc)), .ol [], .ol [], .no, .no] ⟨none, rfl, Nat.le_refl _, fun o h => (by cases h)⟩ (by
      rintro i y hy found ρ ⟨o3, rfl, hk, hb⟩
      obtain ⟨hy1, hi⟩ := ord_at hy
      rw [lss_len] at hy1 hi
      refine ⟨stL cs found (some (eN y)), stL cs (gstep cs found y) (some (eN y)), ?_, b_ls_is hy1 hb (by omega), _, rfl, Nat.le_trans (gstep_len cs found y) (by omega), fun o ho => ?_⟩
      · cases o3 <;> rfl
      · rcases gstep_mem ho with h | h
        · exact hb o h
        · rw [h]; exact hy1)
  have e : (ordZ (lss cs)).foldl (gstep cs) [] = lotOf cs := rfl
  rw [e] at h1
  have S1 := sort_N (lotOf cs)
  have S2 := sort_pairs ((lotOf cs).map (pin cs))
  rw [List.map_map] at S2
  have S2' : fSorted [.list ((lotOf cs).map fun i => encP (pin cs i))] = some (.ol ((pinsOf cs).map encP)) := S2
  have hz : cs.length = (lss cs).length ∧ (lss cs).length ≤ 1000 := by rw [lss_len]; exact ⟨rfl, by omega⟩
  have hk : (ordZ (lss cs)).map (fun (i : Nat) => PyData.int (i : Int)) = (ordZ (lss cs)).map eN := rfl
  have l1 : cs.length ≤ 1000 := by omega
  unfold f_law_stands
  rw [m_ls_is]
  simp [runP_ap, initP, bnd_ap, ret_ap, lft_ap, nm_ap, frzv_ap, frzo_ap, dat_ap, val_ap, getv_ap, geto_ap, gets2_ap, op2_ap, op1_ap, tbool_ap, mAnd_ap, mOr_ap, mNot_ap, vAnd_ap, vOr_ap, vNot_ap, mIte_ap, aNil_ap, aCons_ap, datA_ap, getA_ap, opA_ap, mTup_ap, mLst_ap, foD_ap, mCall_ap, mChain_ap, mIsi_ap, mSeq_ap, mEnum_ap, mZip_ap, mRng_ap, mLc_ap, pNo_ap, pYes_ap, mListRng_ap, sNx_ap, sNever_ap, sSeq_ap, sRet_ap, sRetO_ap, sDrop_ap, sIf_ap, rvD_ap, rvO_ap, sSet_ap, sTgt_ap, sFor_ap, mMt_ap, chkL_ap, putM_ap, stN_ap, stRv_ap, stRf_ap, tgT_ap, tgC_ap, tg0_ap, sPar_ap, sPar3_ap, sPut_ap, mCut_ap, mMaxLen_ap, mSrtSet_ap, mSrtKey_ap, mKeys_ap, mDGet_ap, dicOf_ap, putMD_ap, sDPutM_ap, mLock_ap, mCallI_ap, mCallO_ap, mCallF_ap, runB_ap, runO_ap, agD, agG, agI, slD, Sl.isBr, seqD, fLe_ap, fLt_ap, fGt_ap, fGe_ap, fSub_ap, fAdd_ap, fNeg_ap, fLen_t, fLen_l, fAll_l, fAny_l, fTuple_l, fTuple_t, fList_l, fList_t, fInt_i, fEq_int, fNe_int, fIx_t, fIx_l, fIs_b, fNis_b, fIs_n, fNis_n, isNone_i, isNone_n, fApp_i, fApp_t, fExt_l, keys_last, lss_len, l1, hk, h1]
  unfold stL
  simp [runP_ap, initP, bnd_ap, ret_ap, lft_ap, nm_ap, frzv_ap, frzo_ap, dat_ap, val_ap, getv_ap, geto_ap, gets2_ap, op2_ap, op1_ap, tbool_ap, mAnd_ap, mOr_ap, mNot_ap, vAnd_ap, vOr_ap, vNot_ap, mIte_ap, aNil_ap, aCons_ap, datA_ap, getA_ap, opA_ap, mTup_ap, mLst_ap, foD_ap, mCall_ap, mChain_ap, mIsi_ap, mSeq_ap, mEnum_ap, mZip_ap, mRng_ap, mLc_ap, pNo_ap, pYes_ap, mListRng_ap, sNx_ap, sNever_ap, sSeq_ap, sRet_ap, sRetO_ap, sDrop_ap, sIf_ap, rvD_ap, rvO_ap, sSet_ap, sTgt_ap, sFor_ap, mMt_ap, chkL_ap, putM_ap, stN_ap, stRv_ap, stRf_ap, tgT_ap, tgC_ap, tg0_ap, sPar_ap, sPar3_ap, sPut_ap, mCut_ap, mMaxLen_ap, mSrtSet_ap, mSrtKey_ap, mKeys_ap, mDGet_ap, dicOf_ap, putMD_ap, sDPutM_ap, mLock_ap, mCallI_ap, mCallO_ap, mCallF_ap, runB_ap, runO_ap, agD, agG, agI, slD, Sl.isBr, seqD, fLe_ap, fLt_ap, fGt_ap, fGe_ap, fSub_ap, fAdd_ap, fNeg_ap, fLen_t, fLen_l, fAll_l, fAny_l, fTuple_l, fTuple_t, fList_l, fList_t, fInt_i, fEq_int, fNe_int, fIx_t, fIx_l, fIs_b, fNis_b, fIs_n, fNis_n, isNone_i, isNone_n, fApp_i, fApp_t, fExt_l, S1, S2']
/-! ### ascending -/
theorem cut1 (ds : List PyData) : DL.cutD ds (some 1) none = ds.drop 1 := by
  unfold DL.cutD
  rw [HT.sIx_none, show (some (1 : Int)) = some ((1 : Nat) : Int) from rfl, HT.sIx_nat]
  cases ds with
  | nil => rfl
  | cons d ds =>
    have : min 1 (d :: ds).length = 1 := by simp
    rw [this, List.take_of_length_le (by rw [List.length_drop]; exact Nat.le_refl _)]
def ascN : List Nat → Bool
  | a :: b :: r => decide (a < b) && ascN (b :: r)
  | _ => true
def ltP (p q : Int × Int) : Bool := decide (p.1 < q.1 ∨ (p.1 = q.1 ∧ p.2 < q.2))
def ascQ : List (Int × Int) → Bool
  | a :: b :: r => ltP a b && ascQ (b :: r)
  | _ => true
theorem ltN (i j : Nat) : fLt (eN i) (eN j) = some (.bool (decide (i < j))) := by
  show some (PyData.bool (decide ((i : Int) < (j : Int)))) = _
  rw [decide_eq_decide.mpr (by omega : ((i : Int) < (j : Int)) ↔ i < j)]
theorem ltPE (p q : Int × Int) : fLt (encP p) (encP q) = some (.bool (ltP p q)) := by
  show some (PyData.bool (HT.lexLt [p.1, p.2] [q.1, q.2])) = _
  unfold ltP
  by_cases h : p.1 < q.1
  · simp [HT.lexLt, h]; omega
  · by_cases h2 : p.1 = q.1
    · simp [HT.lexLt, h2]; omega
    · simp [HT.lexLt, h, h2]
def zipT (xs : List PyData) : List PyData := zipD xs (xs.drop 1)
theorem ascE {γ : Type} (e : γ → PyData) (lt : γ → γ → Bool) (hlt : ∀ a b, fLt (e a) (e b) = some (.bool (lt a b))) (l : List γ) : f_is_ascending [.tuple (l.map e)] = some (.bool ((l.zip l.tail).all fun p => lt p.1 p.2)) := by
  have hz : zipD (l.map e) (l.map e).tail = (l.zip l.tail).map fun p => .tuple [e p.1, e p.2] := by
    unfold zipD
    rw [← List.map_tail, List.zip_map, List.map_map]
    rfl
  have L := lc_map (it := ⟨(l.zip l.tail).map fun p => .tuple [e p.1, e p.2], none⟩) (vs := [1, 2]) (tgt := tgT (tgC (stN 1) (tgC (stN 2) tg0))) (me := op2 fLt (nm 1) (nm 2)) (ρ := [.d (.tuple (l.map e)), .no, .no]) (fun p : γ × γ => .tuple [e p.1, e p.2]) (fun p => .bool (lt p.1 p.2)) (ok_none rfl _) rfl (l.zip l.tail) fun p _ =>
    ⟨[.d (.tuple (l.map e)), .d (e p.1), .d (e p.2)], rfl, rfl, by simp [runP_ap, initP, bnd_ap, ret_ap, lft_ap, nm_ap, frzv_ap, frzo_ap, dat_ap, val_ap, getv_ap, geto_ap, gets2_ap, op2_ap, op1_ap, tbool_ap, mAnd_ap, mOr_ap, mNot_ap, vAnd_ap, vOr_ap, vNot_ap, mIte_ap, aNil_ap, aCons_ap, datA_ap, getA_ap, opA_ap, mTup_ap, mLst_ap, foD_ap, mCall_ap, mChain_ap, mIsi_ap, mSeq_ap, mEnum_ap, mZip_ap, mRng_ap, mLc_ap, pNo_ap, pYes_ap, mListRng_ap, sNx_ap, sNever_ap, sSeq_ap, sRet_ap, sRetO_ap, sDrop_ap, sIf_ap, rvD_ap, rvO_ap, sSet_ap, sTgt_ap, sFor_ap, mMt_ap, chkL_ap, putM_ap, stN_ap, stRv_ap, stRf_ap, tgT_ap, tgC_ap, tg0_ap, sPar_ap, sPar3_ap, sPut_ap, mCut_ap, mMaxLen_ap, mSrtSet_ap, mSrtKey_ap, mKeys_ap, mDGet_ap, dicOf_ap, putMD_ap, sDPutM_ap, mLock_ap, mCallI_ap, mCallO_ap, mCallF_ap, runB_ap, runO_ap, agD, agG, agI, slD, Sl.isBr, seqD, fLe_ap, fLt_ap, fGt_ap, fGe_ap, fSub_ap, fAdd_ap, fNeg_ap, fLen_t, fLen_l, fAll_l, fAny_l, fTuple_l, fTuple_t, fList_l, fList_t, fInt_i, fEq_int, fNe_int, fIx_t, fIx_l, fIs_b, fNis_b, fIs_n, fNis_n, isNone_i, isNone_n, fApp_i, fApp_t, fExt_l, hlt]⟩
  rw [← hz] at L
  have hc : fCut (some 1) none (.tuple (l.map e)) = some (.tuple (l.map e).tail) := by
    show some (PyData.tuple (DL.cutD (l.map e) (some 1) none)) = _
    rw [cut1, List.drop_one]
  have Z : fZip [.v (.tuple (l.map e)), .v (.tuple (l.map e).tail)] = some ⟨zipD (l.map e) (l.map e).tail, none⟩ := rfl
  have A := asBls_of (fun p : γ × γ => lt p.1 p.2) (l.zip l.tail)
  unfold f_is_ascending m_is_ascending
  generalize hq : (l.map e).tail = q at *
  simp [runP_ap, initP, bnd_ap, ret_ap, lft_ap, nm_ap, frzv_ap, frzo_ap, dat_ap, val_ap, getv_ap, geto_ap, gets2_ap, op2_ap, op1_ap, tbool_ap, mAnd_ap, mOr_ap, mNot_ap, vAnd_ap, vOr_ap, vNot_ap, mIte_ap, aNil_ap, aCons_ap, datA_ap, getA_ap, opA_ap, mTup_ap, mLst_ap, foD_ap, mCall_ap, mChain_ap, mIsi_ap, mSeq_ap, mEnum_ap, mZip_ap, mRng_ap, mLc_ap, pNo_ap, pYes_ap, mListRng_ap, sNx_ap, sNever_ap, sSeq_ap, sRet_ap, sRetO_ap, sDrop_ap, sIf_ap, rvD_ap, rvO_ap, sSet_ap, sTgt_ap, sFor_ap, mMt_ap, chkL_ap, putM_ap, stN_ap, stRv_ap, stRf_ap, tgT_ap, tgC_ap, tg0_ap, sPar_ap, sPar3_ap, sPut_ap, mCut_ap, mMaxLen_ap, mSrtSet_ap, mSrtKey_ap, mKeys_ap, mDGet_ap, dicOf_ap, putMD_ap, sDPutM_ap, mLock_ap, mCallI_ap, mCallO_ap, mCallF_ap, runB_ap, runO_ap, agD, agG, agI, slD, Sl.isBr, seqD, fLe_ap, fLt_ap, fGt_ap, fGe_ap, fSub_ap, fAdd_ap, fNeg_ap, fLen_t, fLen_l, fAll_l, fAny_l, fTuple_l, fTuple_t, fList_l, fList_t, fInt_i, fEq_int, fNe_int, fIx_t, fIx_l, fIs_b, fNis_b, fIs_n, fNis_n, isNone_i, isNone_n, fApp_i, fApp_t, fExt_l, hc, Z, L, A]
end K15
end
section
namespace K15
local instance : DL.Tbs := ⟨[]⟩
open PySem PySem.Spec PyProof.Rows L2 DL
theorem eN_ints (l : List Nat) : l.map eN = (l.map fun (i : Nat) => (i : Int)).map PyData.int := by rw [List.map_map]; rfl
def ascL (l : List Nat) : Prop := l.Pairwise (· < ·)
theorem zip_tail_all {γ : Type} (lt : γ → γ → Bool) {l : List γ} (h : l.Pairwise fun a b => lt a b = true) : (l.zip l.tail).all (fun p => lt p.1 p.2) = true := by
  induction l with
  | nil => rfl
  | cons a l ih =>
    cases l with
    | nil => rfl
    | cons b l =>
      rw [List.pairwise_cons] at h
      have := ih h.2
      simp only [List.tail_cons, List.zip_cons_cons, List.all_cons, Bool.and_eq_true] at this ⊢
      exact ⟨h.1 b List.mem_cons_self, this⟩
theorem asc_N {l : List Nat} (h : ascL l) : f_is_ascending [.tuple (l.map eN)] = some (.bool true) := by
  rw [ascE eN (fun a b => decide (a < b)) ltN]
  congr 2
  exact zip_tail_all (fun a b => decide (a < b)) (h.imp fun {a b} h => decide_eq_true h)
theorem asc_P {l : List (Int × Int)} (h : l.Pairwise fun p q => ltP p q = true) : f_is_ascending [.tuple (l.map encP)] = some (.bool true) := by
  rw [ascE encP ltP ltPE]
  congr 2
  exact zip_tail_all ltP h
theorem all_tt {γ : Type} (l : List γ) : (l.all fun _ => true) = true := List.all_eq_true.mpr fun _ _ => rfl
structure Lot (cs : List Cl) (l : List Nat) : Prop where
  lt : ∀ i ∈ l, i < cs.length
  asc : ascL l
structure Pins (ps : List (Int × Int)) : Prop where
  rg : ∀ p ∈ ps, 0 ≤ p.1 ∧ p.1 < 7 ∧ 0 ≤ p.2 ∧ p.2 ≤ 12
  asc : ps.Pairwise fun p q => ltP p q = true
theorem betw_N {l : List Nat} {n : Nat} (h : ∀ i ∈ l, i < n) : f_are_between [.tuple (l.map eN), .int 0, .int ((n : Int) - 1)] = some (.bool true) := by
  rw [eN_ints, are_between_ints]
  congr 2
  rw [List.all_eq_true]
  intro v hv
  obtain ⟨i, hi, rfl⟩ := List.mem_map.mp hv
  have := h i hi
  exact decide_eq_true (by omega)
theorem is_lot_ofE {cs : List Cl} {l : List Nat} (h : Lot cs l) : f_is_lot_of [.tuple (cs.map enc), .tuple (l.map eN)] = some (.bool true) := by
  have B := betw_N h.lt
  simp [runP_ap, initP, bnd_ap, ret_ap, lft_ap, nm_ap, frzv_ap, frzo_ap, dat_ap, val_ap, getv_ap, geto_ap, gets2_ap, op2_ap, op1_ap, tbool_ap, mAnd_ap, mOr_ap, mNot_ap, vAnd_ap, vOr_ap, vNot_ap, mIte_ap, aNil_ap, aCons_ap, datA_ap, getA_ap, opA_ap, mTup_ap, mLst_ap, foD_ap, mCall_ap, mChain_ap, mIsi_ap, mSeq_ap, mEnum_ap, mZip_ap, mRng_ap, mLc_ap, pNo_ap, pYes_ap, mListRng_ap, sNx_ap, sNever_ap, sSeq_ap, sRet_ap, sRetO_ap, sDrop_ap, sIf_ap, rvD_ap, rvO_ap, sSet_ap, sTgt_ap, sFor_ap, mMt_ap, chkL_ap, putM_ap, stN_ap, stRv_ap, stRf_ap, tgT_ap, tgC_ap, tg0_ap, sPar_ap, sPar3_ap, sPut_ap, mCut_ap, mMaxLen_ap, mSrtSet_ap, mSrtKey_ap, mKeys_ap, mDGet_ap, dicOf_ap, putMD_ap, sDPutM_ap, mLock_ap, mCallI_ap, mCallO_ap, mCallF_ap, runB_ap, runO_ap, agD, agG, agI, slD, Sl.isBr, seqD, fLe_ap, fLt_ap, fGt_ap, fGe_ap, fSub_ap, fAdd_ap, fNeg_ap, fLen_t, fLen_l, fAll_l, fAny_l, fTuple_l, fTuple_t, fList_l, fList_t, fInt_i, fEq_int, fNe_int, fIx_t, fIx_l, fIs_b, fNis_b, fIs_n, fNis_n, isNone_i, isNone_n, fApp_i, fApp_t, fExt_l, f_is_lot_of, m_is_lot_of, B, asc_N h.asc]
theorem are_pinsE {ps : List (Int × Int)} (h : Pins ps) : f_are_pins [.tuple (ps.map encP)] = some (.bool true) := by
  have L1 := lc_map (it := ⟨ps.map encP, none⟩) (vs := [1]) (tgt := stN 1) (me := vAnd (mCall 3 f_are_between (aCons (val (dat (nm 1))) (aCons (val (DL.ret (.int 0))) (aCons (val (DL.ret (.int 12))) aNil)))) (op2 fEq (val (opA fLen (aCons (nm 1) aNil))) (val (DL.ret (.int 2))))) (ρ := [.d (.tuple (ps.map encP)), .no])
    encP (fun _ => .bool true) (ok_none rfl _) rfl ps fun p hp => ⟨[.d (.tuple (ps.map encP)), .d (encP p)], rfl, rfl, by
      obtain ⟨h1, h2, h3, h4⟩ := h.rg p hp
      have B := are_between_ints [p.1, p.2] 0 12
      have a1 : p.1 ≤ 12 := by omega
      simp only [List.map_cons, List.map_nil] at B
      simp [h1, a1, h3, h4] at B
      simp [runP_ap, initP, bnd_ap, ret_ap, lft_ap, nm_ap, frzv_ap, frzo_ap, dat_ap, val_ap, getv_ap, geto_ap, gets2_ap, op2_ap, op1_ap, tbool_ap, mAnd_ap, mOr_ap, mNot_ap, vAnd_ap, vOr_ap, vNot_ap, mIte_ap, aNil_ap, aCons_ap, datA_ap, getA_ap, opA_ap, mTup_ap, mLst_ap, foD_ap, mCall_ap, mChain_ap, mIsi_ap, mSeq_ap, mEnum_ap, mZip_ap, mRng_ap, mLc_ap, pNo_ap, pYes_ap, mListRng_ap, sNx_ap, sNever_ap, sSeq_ap, sRet_ap, sRetO_ap, sDrop_ap, sIf_ap, rvD_ap, rvO_ap, sSet_ap, sTgt_ap, sFor_ap, mMt_ap, chkL_ap, putM_ap, stN_ap, stRv_ap, stRf_ap, tgT_ap, tgC_ap, tg0_ap, sPar_ap, sPar3_ap, sPut_ap, mCut_ap, mMaxLen_ap, mSrtSet_ap, mSrtKey_ap, mKeys_ap, mDGet_ap, dicOf_ap, putMD_ap, sDPutM_ap, mLock_ap, mCallI_ap, mCallO_ap, mCallF_ap, runB_ap, runO_ap, agD, agG, agI, slD, Sl.isBr, seqD, fLe_ap, fLt_ap, fGt_ap, fGe_ap, fSub_ap, fAdd_ap, fNeg_ap, fLen_t, fLen_l, fAll_l, fAny_l, fTuple_l, fTuple_t, fList_l, fList_t, fInt_i, fEq_int, fNe_int, fIx_t, fIx_l, fIs_b, fNis_b, fIs_n, fNis_n, isNone_i, isNone_n, fApp_i, fApp_t, fExt_l, encP, B]⟩
  have L2 := lc_map (it := ⟨ps.map encP, none⟩) (vs := [1]) (tgt := stN 1) (me := op2 fLt (val (op2 fIx (nm 1) (val (DL.ret (.int 0))))) (val (DL.ret (.int 7)))) (ρ := [.d (.tuple (ps.map encP)), .no])
    encP (fun _ => .bool true) (ok_none rfl _) rfl ps fun p hp => ⟨[.d (.tuple (ps.map encP)), .d (encP p)], rfl, rfl, by
      obtain ⟨h1, h2, h3, h4⟩ := h.rg p hp
      simp [runP_ap, initP, bnd_ap, ret_ap, lft_ap, nm_ap, frzv_ap, frzo_ap, dat_ap, val_ap, getv_ap, geto_ap, gets2_ap, op2_ap, op1_ap, tbool_ap, mAnd_ap, mOr_ap, mNot_ap, vAnd_ap, vOr_ap, vNot_ap, mIte_ap, aNil_ap, aCons_ap, datA_ap, getA_ap, opA_ap, mTup_ap, mLst_ap, foD_ap, mCall_ap, mChain_ap, mIsi_ap, mSeq_ap, mEnum_ap, mZip_ap, mRng_ap, mLc_ap, pNo_ap, pYes_ap, mListRng_ap, sNx_ap, sNever_ap, sSeq_ap, sRet_ap, sRetO_ap, sDrop_ap, sIf_ap, rvD_ap, rvO_ap, sSet_ap, sTgt_ap, sFor_ap, mMt_ap, chkL_ap, putM_ap, stN_ap, stRv_ap, stRf_ap, tgT_ap, tgC_ap, tg0_ap, sPar_ap, sPar3_ap, sPut_ap, mCut_ap, mMaxLen_ap, mSrtSet_ap, mSrtKey_ap, mKeys_ap, mDGet_ap, dicOf_ap, putMD_ap, sDPutM_ap, mLock_ap, mCallI_ap, mCallO_ap, mCallF_ap, runB_ap, runO_ap, agD, agG, agI, slD, Sl.isBr, seqD, fLe_ap, fLt_ap, fGt_ap, fGe_ap, fSub_ap, fAdd_ap, fNeg_ap, fLen_t, fLen_l, fAll_l, fAny_l, fTuple_l, fTuple_t, fList_l, fList_t, fInt_i, fEq_int, fNe_int, fIx_t, fIx_l, fIs_b, fNis_b, fIs_n, fNis_n, isNone_i, isNone_n, fApp_i, fApp_t, fExt_l, ixP0, h2]⟩
  have A : asBls (ps.map fun _ => PyData.bool true) = some (ps.map fun _ => true) := asBls_of (fun _ => true) ps
  simp [runP_ap, initP, bnd_ap, ret_ap, lft_ap, nm_ap, frzv_ap, frzo_ap, dat_ap, val_ap, getv_ap, geto_ap, gets2_ap, op2_ap, op1_ap, tbool_ap, mAnd_ap, mOr_ap, mNot_ap, vAnd_ap, vOr_ap, vNot_ap, mIte_ap, aNil_ap, aCons_ap, datA_ap, getA_ap, opA_ap, mTup_ap, mLst_ap, foD_ap, mCall_ap, mChain_ap, mIsi_ap, mSeq_ap, mEnum_ap, mZip_ap, mRng_ap, mLc_ap, pNo_ap, pYes_ap, mListRng_ap, sNx_ap, sNever_ap, sSeq_ap, sRet_ap, sRetO_ap, sDrop_ap, sIf_ap, rvD_ap, rvO_ap, sSet_ap, sTgt_ap, sFor_ap, mMt_ap, chkL_ap, putM_ap, stN_ap, stRv_ap, stRf_ap, tgT_ap, tgC_ap, tg0_ap, sPar_ap, sPar3_ap, sPut_ap, mCut_ap, mMaxLen_ap, mSrtSet_ap, mSrtKey_ap, mKeys_ap, mDGet_ap, dicOf_ap, putMD_ap, sDPutM_ap, mLock_ap, mCallI_ap, mCallO_ap, mCallF_ap, runB_ap, runO_ap, agD, agG, agI, slD, Sl.isBr, seqD, fLe_ap, fLt_ap, fGt_ap, fGe_ap, fSub_ap, fAdd_ap, fNeg_ap, fLen_t, fLen_l, fAll_l, fAny_l, fTuple_l, fTuple_t, fList_l, fList_t, fInt_i, fEq_int, fNe_int, fIx_t, fIx_l, fIs_b, fNis_b, fIs_n, fNis_n, isNone_i, isNone_n, fApp_i, fApp_t, fExt_l, f_are_pins, m_are_pins, ty_tup_tup, L1, L2, A, asc_P h.asc, all_tt]
theorem cutK (ds : List PyData) (k : Nat) : DL.cutD ds (some ((k : Int) + 1)) none = ds.drop (k + 1) := by
  unfold DL.cutD
  rw [HT.sIx_none, show (some ((k : Int) + 1)) = some (((k + 1 : Nat)) : Int) from rfl, HT.sIx_nat]
  rw [List.take_of_length_le (by rw [List.length_drop]; exact Nat.le_refl _)]
  by_cases h : k + 1 ≤ ds.length
  · rw [Nat.min_eq_left h]
  · rw [Nat.min_eq_right (by omega), List.drop_eq_nil_of_le (Nat.le_refl _), List.drop_eq_nil_of_le (by omega)]
noncomputable def b_sm : S := sIf (tbool (opA fAny (aCons (val (foD (mLc (mSeq (val (mCut (nm 3) (pYes (op2 fAdd (nm 5) (val (DL.ret (.int 1))))) pNo))) [7] (stN 7) (DL.ret true) (mCall 2 f_meet (aCons (val (op2 fIx (nm 0) (nm 6))) (aCons (val (op2 fIx (nm 0) (nm 7))) aNil)))))) aNil))) (sRet (DL.ret (.bool false))) sNx
noncomputable def l_sm : M Sl := mLc (mSeq (nm 0)) [9] (stN 9) (DL.ret true) (opA fAny (aCons (val (foD (mLc (mSeq (nm 4)) [8] (stN 8) (DL.ret true) (mCall 2 f_holds (aCons (val (dat (nm 8))) (aCons (val (dat (nm 9))) aNil)))))) aNil))
def stS (cs : List Cl) (v : PyData) (l : List Nat) (ps : List (Int × Int)) (o5 o6 : Option PyData) : Ro := [.d (.tuple (cs.map enc)), .d v, .d (.int l.length), .d (.tuple (l.map eN)), .d (.tuple (ps.map encP)), ofO o5, ofO o6, .no, .no, .no]
theorem m_sm_is : m_shows_most_stands = sSeq (sDrop (mCall 1 f_check_claims (aCons (val (dat (nm 0))) aNil)))
    (sSeq (sIf (mOr (mNot (tbool (mIsi "tuple" (nm 1)))) (mOr (tbool (op2 fNe (val (opA fLen (aCons (nm 1) aNil))) (val (DL.ret (.int 3))))) (mOr (mNot (tbool (mCall 2 f_is_lot_of (aCons (val (dat (nm 0))) (aCons (val (op2 fIx (nm 1) (val (DL.ret (.int 1))))) aNil))))) (mNot (tbool (mCall 1 f_are_pins (aCons (val (op2 fIx (nm 1) (val (DL.ret (.int 2))))) aNil))))))) (sRet (DL.ret (.bool false))) sNx)
    (sSeq (sTgt (dat (nm 1)) (tgT (tgC (stN 2) (tgC (stN 3) (tgC (stN 4) tg0)))))
    (sSeq (sIf (mOr (mNot (tbool (mCall 3 f_is_between (aCons (val (dat (nm 2))) (aCons (val (opA fLen (aCons (nm 3) aNil))) (aCons (val (opA fLen (aCons (nm 3) aNil))) aNil)))))) (tbool (op2 fNe (val (opA fLen (aCons (nm 4) aNil))) (val (opA fLen (aCons (nm 3) aNil)))))) (sRet (DL.ret (.bool false))) sNx)
    (sSeq (sFor (mEnum (aCons (val (dat (nm 3))) aNil)) (tgT (tgC (stN 5) (tgC (stN 6) tg0))) b_sm)
    (sRet (opA fAll (aCons (val (foD l_sm)) aNil))))))) := rfl
theorem l_sm_is (cs : List Cl) (v : PyData) (l : List Nat) (ps : List (Int × Int)) (o5 o6 : Option PyData) : l_sm (stS cs v l ps o5 o6) = some (.ol (cs.map fun c => .bool (ps.any fun p => hd p c)), stS cs v l ps o5 o6) := by
  have L := lc_map (it := ⟨cs.map enc, none⟩) (vs := [9]) (tgt := stN 9) (me := opA fAny (aCons (val (foD (mLc (mSeq (nm 4)) [8] (stN 8) (DL.ret true) (mCall 2 f_holds (aCons (val (dat (nm 8))) (aCons (val (dat (nm 9))) aNil)))))) aNil)) (ρ := stS cs v l ps o5 o6)
    enc (fun c => .bool (ps.any fun p => hd p c)) (ok_none rfl _) rfl cs fun c _ => ⟨(stS cs v l ps o5 o6).set 9 (.d (enc c)), rfl, rfl, by
      have L2 := lc_map (it := ⟨ps.map encP, none⟩) (vs := [8]) (tgt := stN 8) (me := mCall 2 f_holds (aCons (val (dat (nm 8))) (aCons (val (dat (nm 9))) aNil))) (ρ := (stS cs v l ps o5 o6).set 9 (.d (enc c)))
        encP (fun p => .bool (hd p c)) (ok_none rfl _) rfl ps fun p _ => ⟨((stS cs v l ps o5 o6).set 9 (.d (enc c))).set 8 (.d (encP p)), rfl, rfl, by simp [runP_ap, initP, bnd_ap, ret_ap, lft_ap, nm_ap, frzv_ap, frzo_ap, dat_ap, val_ap, getv_ap, geto_ap, gets2_ap, op2_ap, op1_ap, tbool_ap, mAnd_ap, mOr_ap, mNot_ap, vAnd_ap, vOr_ap, vNot_ap, mIte_ap, aNil_ap, aCons_ap, datA_ap, getA_ap, opA_ap, mTup_ap, mLst_ap, foD_ap, mCall_ap, mChain_ap, mIsi_ap, mSeq_ap, mEnum_ap, mZip_ap, mRng_ap, mLc_ap, pNo_ap, pYes_ap, mListRng_ap, sNx_ap, sNever_ap, sSeq_ap, sRet_ap, sRetO_ap, sDrop_ap, sIf_ap, rvD_ap, rvO_ap, sSet_ap, sTgt_ap, sFor_ap, mMt_ap, chkL_ap, putM_ap, stN_ap, stRv_ap, stRf_ap, tgT_ap, tgC_ap, tg0_ap, sPar_ap, sPar3_ap, sPut_ap, mCut_ap, mMaxLen_ap, mSrtSet_ap, mSrtKey_ap, mKeys_ap, mDGet_ap, dicOf_ap, putMD_ap, sDPutM_ap, mLock_ap, mCallI_ap, mCallO_ap, mCallF_ap, runB_ap, runO_ap, agD, agG, agI, slD, Sl.isBr, seqD, fLe_ap, fLt_ap, fGt_ap, fGe_ap, fSub_ap, fAdd_ap, fNeg_ap, fLen_t, fLen_l, fAll_l, fAny_l, fTuple_l, fTuple_t, fList_l, fList_t, fInt_i, fEq_int, fNe_int, fIx_t, fIx_l, fIs_b, fNis_b, fIs_n, fNis_n, isNone_i, isNone_n, fApp_i, fApp_t, fExt_l, stS, holdsE]⟩
      have A := asBls_of (fun p => hd p c) ps
      simp only [stS, List.set_cons_succ, List.set_cons_zero] at L2 ⊢
      simp [runP_ap, initP, bnd_ap, ret_ap, lft_ap, nm_ap, frzv_ap, frzo_ap, dat_ap, val_ap, getv_ap, geto_ap, gets2_ap, op2_ap, op1_ap, tbool_ap, mAnd_ap, mOr_ap, mNot_ap, vAnd_ap, vOr_ap, vNot_ap, mIte_ap, aNil_ap, aCons_ap, datA_ap, getA_ap, opA_ap, mTup_ap, mLst_ap, foD_ap, mCall_ap, mChain_ap, mIsi_ap, mSeq_ap, mEnum_ap, mZip_ap, mRng_ap, mLc_ap, pNo_ap, pYes_ap, mListRng_ap, sNx_ap, sNever_ap, sSeq_ap, sRet_ap, sRetO_ap, sDrop_ap, sIf_ap, rvD_ap, rvO_ap, sSet_ap, sTgt_ap, sFor_ap, mMt_ap, chkL_ap, putM_ap, stN_ap, stRv_ap, stRf_ap, tgT_ap, tgC_ap, tg0_ap, sPar_ap, sPar3_ap, sPut_ap, mCut_ap, mMaxLen_ap, mSrtSet_ap, mSrtKey_ap, mKeys_ap, mDGet_ap, dicOf_ap, putMD_ap, sDPutM_ap, mLock_ap, mCallI_ap, mCallO_ap, mCallF_ap, runB_ap, runO_ap, agD, agG, agI, slD, Sl.isBr, seqD, fLe_ap, fLt_ap, fGt_ap, fGe_ap, fSub_ap, fAdd_ap, fNeg_ap, fLen_t, fLen_l, fAll_l, fAny_l, fTuple_l, fTuple_t, fList_l, fList_t, fInt_i, fEq_int, fNe_int, fIx_t, fIx_l, fIs_b, fNis_b, fIs_n, fNis_n, isNone_i, isNone_n, fApp_i, fApp_t, fExt_l, L2, A]⟩
  simp only [stS] at L ⊢
  unfold l_sm
  simp [runP_ap, initP, bnd_ap, ret_ap, lft_ap, nm_ap, frzv_ap, frzo_ap, dat_ap, val_ap, getv_ap, geto_ap, gets2_ap, op2_ap, op1_ap, tbool_ap, mAnd_ap, mOr_ap, mNot_ap, vAnd_ap, vOr_ap, vNot_ap, mIte_ap, aNil_ap, aCons_ap, datA_ap, getA_ap, opA_ap, mTup_ap, mLst_ap, foD_ap, mCall_ap, mChain_ap, mIsi_ap, mSeq_ap, mEnum_ap, mZip_ap, mRng_ap, mLc_ap, pNo_ap, pYes_ap, mListRng_ap, sNx_ap, sNever_ap, sSeq_ap, sRet_ap, sRetO_ap, sDrop_ap, sIf_ap, rvD_ap, rvO_ap, sSet_ap, sTgt_ap, sFor_ap, mMt_ap, chkL_ap, putM_ap, stN_ap, stRv_ap, stRf_ap, tgT_ap, tgC_ap, tg0_ap, sPar_ap, sPar3_ap, sPut_ap, mCut_ap, mMaxLen_ap, mSrtSet_ap, mSrtKey_ap, mKeys_ap, mDGet_ap, dicOf_ap, putMD_ap, sDPutM_ap, mLock_ap, mCallI_ap, mCallO_ap, mCallF_ap, runB_ap, runO_ap, agD, agG, agI, slD, Sl.isBr, seqD, fLe_ap, fLt_ap, fGt_ap, fGe_ap, fSub_ap, fAdd_ap, fNeg_ap, fLen_t, fLen_l, fAll_l, fAny_l, fTuple_l, fTuple_t, fList_l, fList_t, fInt_i, fEq_int, fNe_int, fIx_t, fIx_l, fIs_b, fNis_b, fIs_n, fNis_n, isNone_i, isNone_n, fApp_i, fApp_t, fExt_l, L]
def Free (cs : List Cl) (l : List Nat) : Prop := l.Pairwise fun i j => MM cs i j = false
def enL (l : List Nat) (i : Nat) : PyData := .tuple [.int (i : Int), eN (l.getD i 0)]
theorem shows_msE {cs : List Cl} (h : Okc cs) {l : List Nat} {ps : List (Int × Int)} (hl : Lot cs l) (hp : Pins ps) (hn : ps.length = l.length) (hf : Free cs l) :
    f_shows_most_stands [.tuple (cs.map enc), .tuple [.int l.length, .tuple (l.map eN), .tuple (ps.map encP)]] = some (.bool (cs.all fun c => ps.any fun p => hd p c)) := by
  have EN : enumD (l.map eN) = (List.range l.length).map (enL l) := by
    unfold enumD
    apply List.ext_getElem?
    intro i
    rw [List.getElem?_map, List.getElem?_zipIdx, List.getElem?_map, List.getElem?_map]
    by_cases h : i < l.length
    · rw [List.getElem?_eq_getElem h, List.getElem?_eq_getElem (by rw [List.length_range]; exact h)]
      simp [enL, List.getD_eq_getElem?_getD, h]
    · rw [List.getElem?_eq_none (by omega), List.getElem?_eq_none (by rw [List.length_range]; omega)]
      rfl
  obtain ⟨ρ', h1, o5, o6, rfl⟩ := for_rel (it := ⟨(List.range l.length).map (enL l), none⟩) (tgt := tgT (tgC (stN 5) (tgC (stN 6) tg0))) (b := b_sm) (enL l)
    (fun (_ : Unit) (ρ : Ro) => ∃ o5 o6, ρ = stS cs (.tuple [.int l.length, .tuple (l.map eN), .tuple (ps.map encP)]) l ps o5 o6) (fun a _ => a) (List.range l.length) () [.d (.tuple (cs.map enc)), .d (.tuple [.int l.length, .tuple (l.map eN), .tuple (ps.map encP)]), .d (.int l.length), .d (.tuple (l.map eN)), .d (.tuple (ps.map encP)), .no, .no, .no, .no, .no] ⟨none, none, rfl⟩ (by
      rintro i hi _ ρ ⟨o5, o6, rfl⟩
      have hi := List.mem_range.mp hi
      have hgi : l[i]? = some (l.getD i 0) := by rw [List.getD_eq_getElem?_getD, List.getElem?_eq_getElem hi]; rfl
      have hil := hl.lt _ (List.mem_of_getElem? hgi)
      refine ⟨stS cs (.tuple [.int l.length, .tuple (l.map eN), .tuple (ps.map encP)]) l ps (some (.int (i : Int))) (some (eN (l.getD i 0))), stS cs (.tuple [.int l.length, .tuple (l.map eN), .tuple (ps.map encP)]) l ps (some (.int (i : Int))) (some (eN (l.getD i 0))), ?_, ?_, _, _, rfl⟩
      · cases o5 <;> cases o6 <;> rfl
      · have hno : (l.drop (i + 1)).any (fun j => MM cs (l.getD i 0) j) = false := by
          rw [List.any_eq_false]
          intro j hj
          obtain ⟨k, hk⟩ := List.mem_iff_getElem?.mp hj
          rw [List.getElem?_drop] at hk
          have hlt := (List.getElem?_eq_some_iff.mp hk).1
          have := (List.pairwise_iff_getElem.mp hf) i (i + 1 + k) hi hlt (by omega)
          obtain ⟨_, e2⟩ := List.getElem?_eq_some_iff.mp hk
          obtain ⟨_, e1⟩ := List.getElem?_eq_some_iff.mp hgi
          rw [e1, e2] at this
          rw [this]; exact Bool.false_ne_true
        have L := lc_map (it := ⟨(l.drop (i + 1)).map eN, none⟩) (vs := [7]) (tgt := stN 7) (me := mCall 2 f_meet (aCons (val (op2 fIx (nm 0) (nm 6))) (aCons (val (op2 fIx (nm 0) (nm 7))) aNil))) (ρ := stS cs (.tuple [.int l.length, .tuple (l.map eN), .tuple (ps.map encP)]) l ps (some (.int (i : Int))) (some (eN (l.getD i 0))))
          eN (fun j => .bool (MM cs (l.getD i 0) j)) (ok_none rfl _) rfl (l.drop (i + 1)) fun j hj => ⟨(stS cs (.tuple [.int l.length, .tuple (l.map eN), .tuple (ps.map encP)]) l ps (some (.int (i : Int))) (some (eN (l.getD i 0)))).set 7 (.d (eN j)), rfl, rfl, by
            have hj' := hl.lt j (List.mem_of_mem_drop hj)
            generalize l.getD i 0 = y at *
            simp only [stS, ofO, List.set_cons_succ, List.set_cons_zero]
            simp [runP_ap, initP, bnd_ap, ret_ap, lft_ap, nm_ap, frzv_ap, frzo_ap, dat_ap, val_ap, getv_ap, geto_ap, gets2_ap, op2_ap, op1_ap, tbool_ap, mAnd_ap, mOr_ap, mNot_ap, vAnd_ap, vOr_ap, vNot_ap, mIte_ap, aNil_ap, aCons_ap, datA_ap, getA_ap, opA_ap, mTup_ap, mLst_ap, foD_ap, mCall_ap, mChain_ap, mIsi_ap, mSeq_ap, mEnum_ap, mZip_ap, mRng_ap, mLc_ap, pNo_ap, pYes_ap, mListRng_ap, sNx_ap, sNever_ap, sSeq_ap, sRet_ap, sRetO_ap, sDrop_ap, sIf_ap, rvD_ap, rvO_ap, sSet_ap, sTgt_ap, sFor_ap, mMt_ap, chkL_ap, putM_ap, stN_ap, stRv_ap, stRf_ap, tgT_ap, tgC_ap, tg0_ap, sPar_ap, sPar3_ap, sPut_ap, mCut_ap, mMaxLen_ap, mSrtSet_ap, mSrtKey_ap, mKeys_ap, mDGet_ap, dicOf_ap, putMD_ap, sDPutM_ap, mLock_ap, mCallI_ap, mCallO_ap, mCallF_ap, runB_ap, runO_ap, agD, agG, agI, slD, Sl.isBr, seqD, fLe_ap, fLt_ap, fGt_ap, fGe_ap, fSub_ap, fAdd_ap, fNeg_ap, fLen_t, fLen_l, fAll_l, fAny_l, fTuple_l, fTuple_t, fList_l, fList_t, fInt_i, fEq_int, fNe_int, fIx_t, fIx_l, fIs_b, fNis_b, fIs_n, fNis_n, isNone_i, isNone_n, fApp_i, fApp_t, fExt_l, fIx_tN, at_enc hil, at_enc hj', meetE, MM]⟩
        have A := asBls_of (fun j => MM cs (l.getD i 0) j) (l.drop (i + 1))
        have hc : fCut (some ((i : Int) + 1)) none (.tuple (l.map eN)) = some (.tuple ((l.drop (i + 1)).map eN)) := by
          show some (PyData.tuple (DL.cutD (l.map eN) (some ((i : Int) + 1)) none)) = _
          rw [cutK, List.map_drop]
        generalize l.getD i 0 = y at *
        generalize l.drop (i + 1) = q at *
        simp only [stS, ofO] at L ⊢
        unfold b_sm
        have hno' : q.any (MM cs y) = false := hno
        simp [runP_ap, initP, bnd_ap, ret_ap, lft_ap, nm_ap, frzv_ap, frzo_ap, dat_ap, val_ap, getv_ap, geto_ap, gets2_ap, op2_ap, op1_ap, tbool_ap, mAnd_ap, mOr_ap, mNot_ap, vAnd_ap, vOr_ap, vNot_ap, mIte_ap, aNil_ap, aCons_ap, datA_ap, getA_ap, opA_ap, mTup_ap, mLst_ap, foD_ap, mCall_ap, mChain_ap, mIsi_ap, mSeq_ap, mEnum_ap, mZip_ap, mRng_ap, mLc_ap, pNo_ap, pYes_ap, mListRng_ap, sNx_ap, sNever_ap, sSeq_ap, sRet_ap, sRetO_ap, sDrop_ap, sIf_ap, rvD_ap, rvO_ap, sSet_ap, sTgt_ap, sFor_ap, mMt_ap, chkL_ap, putM_ap, stN_ap, stRv_ap, stRf_ap, tgT_ap, tgC_ap, tg0_ap, sPar_ap, sPar3_ap, sPut_ap, mCut_ap, mMaxLen_ap, mSrtSet_ap, mSrtKey_ap, mKeys_ap, mDGet_ap, dicOf_ap, putMD_ap, sDPutM_ap, mLock_ap, mCallI_ap, mCallO_ap, mCallF_ap, runB_ap, runO_ap, agD, agG, agI, slD, Sl.isBr, seqD, fLe_ap, fLt_ap, fGt_ap, fGe_ap, fSub_ap, fAdd_ap, fNeg_ap, fLen_t, fLen_l, fAll_l, fAny_l, fTuple_l, fTuple_t, fList_l, fList_t, fInt_i, fEq_int, fNe_int, fIx_t, fIx_l, fIs_b, fNis_b, fIs_n, fNis_n, isNone_i, isNone_n, fApp_i, fApp_t, fExt_l, hc, L, A, hno'])
  unfold f_shows_most_stands
  rw [m_sm_is]
  have hl3 := l_sm_is cs (.tuple [.int l.length, .tuple (l.map eN), .tuple (ps.map encP)]) l ps o5 o6
  have A := asBls_of (fun c => ps.any fun p => hd p c) cs
  simp [runP_ap, initP, bnd_ap, ret_ap, lft_ap, nm_ap, frzv_ap, frzo_ap, dat_ap, val_ap, getv_ap, geto_ap, gets2_ap, op2_ap, op1_ap, tbool_ap, mAnd_ap, mOr_ap, mNot_ap, vAnd_ap, vOr_ap, vNot_ap, mIte_ap, aNil_ap, aCons_ap, datA_ap, getA_ap, opA_ap, mTup_ap, mLst_ap, foD_ap, mCall_ap, mChain_ap, mIsi_ap, mSeq_ap, mEnum_ap, mZip_ap, mRng_ap, mLc_ap, pNo_ap, pYes_ap, mListRng_ap, sNx_ap, sNever_ap, sSeq_ap, sRet_ap, sRetO_ap, sDrop_ap, sIf_ap, rvD_ap, rvO_ap, sSet_ap, sTgt_ap, sFor_ap, mMt_ap, chkL_ap, putM_ap, stN_ap, stRv_ap, stRf_ap, tgT_ap, tgC_ap, tg0_ap, sPar_ap, sPar3_ap, sPut_ap, mCut_ap, mMaxLen_ap, mSrtSet_ap, mSrtKey_ap, mKeys_ap, mDGet_ap, dicOf_ap, putMD_ap, sDPutM_ap, mLock_ap, mCallI_ap, mCallO_ap, mCallF_ap, runB_ap, runO_ap, agD, agG, agI, slD, Sl.isBr, seqD, fLe_ap, fLt_ap, fGt_ap, fGe_ap, fSub_ap, fAdd_ap, fNeg_ap, fLen_t, fLen_l, fAll_l, fAny_l, fTuple_l, fTuple_t, fList_l, fList_t, fInt_i, fEq_int, fNe_int, fIx_t, fIx_l, fIs_b, fNis_b, fIs_n, fNis_n, isNone_i, isNone_n, fApp_i, fApp_t, fExt_l, check_claimsE h, ty_tup_tup, at1, at2, is_lot_ofE hl, are_pinsE hp, is_between_int, hn, EN, h1, hl3, A]
end K15
end
section
namespace K15
local instance : DL.Tbs := ⟨[]⟩
open PySem PySem.Spec PyProof.Rows L2 DL
def tupN (l : List Nat) : PyData := .tuple (l.map eN)
def heldOf (cs : List Cl) (p : Int × Int) : List Nat := (List.range cs.length).filter fun i => hd p (cl cs i)
def hpin (cs : List Cl) (i : Nat) : Int × Int := ((cl cs i).1, (cl cs i).2.1)
theorem held_byE (cs : List Cl) (p : Int × Int) : f_held_by [.tuple (cs.map enc), encP p] = some (tupN (heldOf cs p)) := by
  have L := lc_filt (it := ⟨(List.range cs.length).map (enI cs), none⟩) (vs := [2, 3]) (tgt := tgT (tgC (stN 2) (tgC (stN 3) tg0))) (mc := tbool (mCall 2 f_holds (aCons (val (dat (nm 1))) (aCons (val (dat (nm 3))) aNil)))) (me := dat (nm 2)) (ρ := [.d (.tuple (cs.map enc)), .d (encP p), .no, .no])
    (enI cs) eN (fun i => hd p (cl cs i)) (ok_none rfl _) rfl (List.range cs.length) fun i _ => ⟨[.d (.tuple (cs.map enc)), .d (encP p), .d (eN i), .d (enc (cl cs i))], rfl, rfl, by simp [runP_ap, initP, bnd_ap, ret_ap, lft_ap, nm_ap, frzv_ap, frzo_ap, dat_ap, val_ap, getv_ap, geto_ap, gets2_ap, op2_ap, op1_ap, tbool_ap, mAnd_ap, mOr_ap, mNot_ap, vAnd_ap, vOr_ap, vNot_ap, mIte_ap, aNil_ap, aCons_ap, datA_ap, getA_ap, opA_ap, mTup_ap, mLst_ap, foD_ap, mCall_ap, mChain_ap, mIsi_ap, mSeq_ap, mEnum_ap, mZip_ap, mRng_ap, mLc_ap, pNo_ap, pYes_ap, mListRng_ap, sNx_ap, sNever_ap, sSeq_ap, sRet_ap, sRetO_ap, sDrop_ap, sIf_ap, rvD_ap, rvO_ap, sSet_ap, sTgt_ap, sFor_ap, mMt_ap, chkL_ap, putM_ap, stN_ap, stRv_ap, stRf_ap, tgT_ap, tgC_ap, tg0_ap, sPar_ap, sPar3_ap, sPut_ap, mCut_ap, mMaxLen_ap, mSrtSet_ap, mSrtKey_ap, mKeys_ap, mDGet_ap, dicOf_ap, putMD_ap, sDPutM_ap, mLock_ap, mCallI_ap, mCallO_ap, mCallF_ap, runB_ap, runO_ap, agD, agG, agI, slD, Sl.isBr, seqD, fLe_ap, fLt_ap, fGt_ap, fGe_ap, fSub_ap, fAdd_ap, fNeg_ap, fLen_t, fLen_l, fAll_l, fAny_l, fTuple_l, fTuple_t, fList_l, fList_t, fInt_i, fEq_int, fNe_int, fIx_t, fIx_l, fIs_b, fNis_b, fIs_n, fNis_n, isNone_i, isNone_n, fApp_i, fApp_t, fExt_l, holdsE], fun _ => by simp [runP_ap, initP, bnd_ap, ret_ap, lft_ap, nm_ap, frzv_ap, frzo_ap, dat_ap, val_ap, getv_ap, geto_ap, gets2_ap, op2_ap, op1_ap, tbool_ap, mAnd_ap, mOr_ap, mNot_ap, vAnd_ap, vOr_ap, vNot_ap, mIte_ap, aNil_ap, aCons_ap, datA_ap, getA_ap, opA_ap, mTup_ap, mLst_ap, foD_ap, mCall_ap, mChain_ap, mIsi_ap, mSeq_ap, mEnum_ap, mZip_ap, mRng_ap, mLc_ap, pNo_ap, pYes_ap, mListRng_ap, sNx_ap, sNever_ap, sSeq_ap, sRet_ap, sRetO_ap, sDrop_ap, sIf_ap, rvD_ap, rvO_ap, sSet_ap, sTgt_ap, sFor_ap, mMt_ap, chkL_ap, putM_ap, stN_ap, stRv_ap, stRf_ap, tgT_ap, tgC_ap, tg0_ap, sPar_ap, sPar3_ap, sPut_ap, mCut_ap, mMaxLen_ap, mSrtSet_ap, mSrtKey_ap, mKeys_ap, mDGet_ap, dicOf_ap, putMD_ap, sDPutM_ap, mLock_ap, mCallI_ap, mCallO_ap, mCallF_ap, runB_ap, runO_ap, agD, agG, agI, slD, Sl.isBr, seqD, fLe_ap, fLt_ap, fGt_ap, fGe_ap, fSub_ap, fAdd_ap, fNeg_ap, fLen_t, fLen_l, fAll_l, fAny_l, fTuple_l, fTuple_t, fList_l, fList_t, fInt_i, fEq_int, fNe_int, fIx_t, fIx_l, fIs_b, fNis_b, fIs_n, fNis_n, isNone_i, isNone_n, fApp_i, fApp_t, fExt_l]⟩
  simp [runP_ap, initP, bnd_ap, ret_ap, lft_ap, nm_ap, frzv_ap, frzo_ap, dat_ap, val_ap, getv_ap, geto_ap, gets2_ap, op2_ap, op1_ap, tbool_ap, mAnd_ap, mOr_ap, mNot_ap, vAnd_ap, vOr_ap, vNot_ap, mIte_ap, aNil_ap, aCons_ap, datA_ap, getA_ap, opA_ap, mTup_ap, mLst_ap, foD_ap, mCall_ap, mChain_ap, mIsi_ap, mSeq_ap, mEnum_ap, mZip_ap, mRng_ap, mLc_ap, pNo_ap, pYes_ap, mListRng_ap, sNx_ap, sNever_ap, sSeq_ap, sRet_ap, sRetO_ap, sDrop_ap, sIf_ap, rvD_ap, rvO_ap, sSet_ap, sTgt_ap, sFor_ap, mMt_ap, chkL_ap, putM_ap, stN_ap, stRv_ap, stRf_ap, tgT_ap, tgC_ap, tg0_ap, sPar_ap, sPar3_ap, sPut_ap, mCut_ap, mMaxLen_ap, mSrtSet_ap, mSrtKey_ap, mKeys_ap, mDGet_ap, dicOf_ap, putMD_ap, sDPutM_ap, mLock_ap, mCallI_ap, mCallO_ap, mCallF_ap, runB_ap, runO_ap, agD, agG, agI, slD, Sl.isBr, seqD, fLe_ap, fLt_ap, fGt_ap, fGe_ap, fSub_ap, fAdd_ap, fNeg_ap, fLen_t, fLen_l, fAll_l, fAny_l, fTuple_l, fTuple_t, fList_l, fList_t, fInt_i, fEq_int, fNe_int, fIx_t, fIx_l, fIs_b, fNis_b, fIs_n, fNis_n, isNone_i, isNone_n, fApp_i, fApp_t, fExt_l, f_held_by, m_held_by, enum_is, L]
  rfl
def lots (cs : List Cl) : List (List Nat) := (List.range cs.length).map fun i => heldOf cs (hpin cs i)
def better (best lot : List Nat) : List Nat := if best.length < lot.length then lot else best
def fullOf (cs : List Cl) : List Nat := (lots cs).foldl better []
theorem fold_tup (ls : List (List Nat)) (l0 : List Nat) : List.foldl (fun a y => if decide (lenD a < lenD y) = true then y else a) (tupN l0) (List.map tupN ls) = tupN (List.foldl better l0 ls) := by
  induction ls generalizing l0 with
  | nil => rfl
  | cons l ls ih =>
    rw [List.map_cons, List.foldl_cons, List.foldl_cons]
    have st : (if decide (lenD (tupN l0) < lenD (tupN l)) = true then tupN l else tupN l0) = tupN (better l0 l) := by
      unfold better
      have e1 : lenD (tupN l0) = l0.length := by simp [tupN, lenD]
      have e2 : lenD (tupN l) = l.length := by simp [tupN, lenD]
      rw [e1, e2]
      by_cases h : l0.length < l.length
      · rw [if_pos (decide_eq_true h), if_pos h]
      · rw [if_neg (by simpa using h), if_neg h]
    rw [st]
    exact ih _
theorem max_len (ls : List (List Nat)) (l0 : List Nat) : fMaxLen (.list ((l0 :: ls).map tupN)) = some (tupN (ls.foldl better l0)) := by
  unfold fMaxLen
  have h1 : (((l0 :: ls).map tupN).all isTupD && !((l0 :: ls).map tupN).isEmpty) = true := by
    rw [Bool.and_eq_true]
    exact ⟨List.all_eq_true.mpr fun d hd => by obtain ⟨l, _, rfl⟩ := List.mem_map.mp hd; rfl, rfl⟩
  simp only
  rw [if_pos h1]
  have hb := PySem.W.argBest_fold (fun a b => decide (lenD b < lenD a)) PyData.none (tupN l0) (ls.map tupN) (ls.map tupN).length (Nat.le_refl _)
  have e : bestLen ((l0 :: ls).map tupN) = argBest (fun i j => decide (lenD ((tupN l0 :: ls.map tupN).getD j PyData.none) < lenD ((tupN l0 :: ls.map tupN).getD i PyData.none))) (ls.map tupN).length := by
    unfold bestLen
    rw [List.map_cons, List.length_cons, Nat.add_sub_cancel]
  rw [e]
  obtain ⟨hb1, hb2⟩ := hb
  rw [List.take_length] at hb2
  generalize argBest (fun i j => decide (lenD ((tupN l0 :: ls.map tupN).getD j PyData.none) < lenD ((tupN l0 :: ls.map tupN).getD i PyData.none))) (ls.map tupN).length = k at *
  have hk : k < (tupN l0 :: ls.map tupN).length := by rw [List.length_cons]; omega
  rw [List.map_cons, List.getElem?_eq_getElem hk]
  rw [List.getD_eq_getElem?_getD, List.getElem?_eq_getElem hk] at hb2
  have hb2 : (tupN l0 :: ls.map tupN)[k] = _ := hb2
  rw [hb2]
  congr 1
  exact fold_tup ls l0
theorem lots_enc (cs : List Cl) : ∃ x, x = lots cs := ⟨_, rfl⟩
theorem range_enc (cs : List Cl) : cs.map enc = (List.range cs.length).map fun i => enc (cl cs i) := by
  apply List.ext_getElem?
  intro i
  rw [List.getElem?_map, List.getElem?_map]
  by_cases h : i < cs.length
  · rw [List.getElem?_eq_getElem h, List.getElem?_eq_getElem (by rw [List.length_range]; exact h)]
    simp [cl, List.getD_eq_getElem?_getD, h]
  · rw [List.getElem?_eq_none (by omega), List.getElem?_eq_none (by rw [List.length_range]; omega)]
    rfl
def encAt (cs : List Cl) (i : Nat) : PyData := enc (cl cs i)
theorem range_at (cs : List Cl) : cs.map enc = (List.range cs.length).map (encAt cs) := range_enc cs
theorem held_self {cs : List Cl} (h : Okc cs) {i : Nat} (hi : i < cs.length) : i ∈ heldOf cs (hpin cs i) := by
  unfold heldOf
  rw [List.mem_filter]
  refine ⟨List.mem_range.mpr hi, ?_⟩
  have hc : cl cs i ∈ cs := by
    unfold cl
    rw [List.getD_eq_getElem?_getD, List.getElem?_eq_getElem hi]
    exact List.getElem_mem hi
  obtain ⟨h1, h2, h3, h4, h5, h6, h7⟩ := h.ok _ hc
  exact decide_eq_true ⟨rfl, Int.le_refl _, h4⟩
theorem full_cons {cs : List Cl} (h : Okc cs) {l0 : List Nat} {ls : List (List Nat)} (e : lots cs = l0 :: ls) : fullOf cs = ls.foldl better l0 := by
  unfold fullOf
  rw [e, List.foldl_cons]
  congr 1
  unfold better
  have hn : 0 < cs.length := by
    have := congrArg List.length e
    unfold lots at this
    rw [List.length_map, List.length_range, List.length_cons] at this
    omega
  have h0 : l0 = heldOf cs (hpin cs 0) := by
    have : (lots cs)[0]? = some (heldOf cs (hpin cs 0)) := by
      unfold lots
      rw [List.getElem?_map, List.getElem?_range hn]; rfl
    rw [e] at this
    exact (Option.some.inj this)
  have : 0 < l0.length := by
    rw [h0]
    exact List.length_pos_of_mem (held_self h hn)
  exact if_pos this
/-! ### == of containers -/
theorem layAll {γ : Type} {e : γ → PyData} (h : ∀ x, (e x).canLay0 = true) (l : List γ) : PyData.canLayAll0 (l.map e) = true := by
  induction l with
  | nil => rfl
  | cons a l ih => rw [List.map_cons, PyData.canLayAll0, h a, ih]; rfl
theorem dpAll {γ : Type} {e : γ → PyData} {n : Nat} (h : ∀ x, (e x).depth ≤ n) (l : List γ) : PyData.depthAll (l.map e) ≤ n := by
  induction l with
  | nil => exact Nat.zero_le _
  | cons a l ih => rw [List.map_cons, PyData.depthAll]; exact Nat.max_le.mpr ⟨h a, ih⟩
theorem shp_l {γ : Type} {e : γ → PyData} {n : Nat} (h : ∀ x, (e x).canLay0 = true) (hd : ∀ x, (e x).depth ≤ n) (hn : n ≤ 60) (l : List γ) : SeqAt.shaped (.list (l.map e)) = true := by
  unfold SeqAt.shaped
  have := dpAll hd l
  rw [PyData.canLay0, layAll h, PyData.depth, decide_eq_true (by omega)]; rfl
theorem shp_t {γ : Type} {e : γ → PyData} {n : Nat} (h : ∀ x, (e x).canLay0 = true) (hd : ∀ x, (e x).depth ≤ n) (hn : n ≤ 60) (l : List γ) : SeqAt.shaped (.tuple (l.map e)) = true := by
  unfold SeqAt.shaped
  have := dpAll hd l
  rw [PyData.canLay0, layAll h, PyData.depth, decide_eq_true (by omega)]; rfl
theorem lay_N (i : Nat) : (eN i).canLay0 = true := by simp [eN, PyData.canLay0]
theorem dp_N (i : Nat) : (eN i).depth ≤ 0 := by simp [eN, PyData.depth]
theorem lay_P (p : Int × Int) : (encP p).canLay0 = true := by simp [encP, PyData.canLay0, PyData.canLayAll0]
theorem dp_P (p : Int × Int) : (encP p).depth ≤ 1 := by simp [encP, PyData.depth, PyData.depthAll]
theorem lay_T (l : List Nat) : (tupN l).canLay0 = true := by rw [tupN, PyData.canLay0, layAll lay_N]
theorem dp_T (l : List Nat) : (tupN l).depth ≤ 1 := by rw [tupN, PyData.depth]; have := dpAll dp_N l; omega
theorem shp_nil_l : SeqAt.shaped (.list []) = true := by simp [SeqAt.shaped, PyData.canLay0, PyData.canLayAll0, PyData.depth, PyData.depthAll]
theorem shp_nil_t : SeqAt.shaped (.tuple []) = true := by simp [SeqAt.shaped, PyData.canLay0, PyData.canLayAll0, PyData.depth, PyData.depthAll]
theorem fEqB_c {d e : PyData} (h1 : SeqAt.shaped d = true) (h2 : SeqAt.shaped e = true) (hn : (match d, e with | .list _, .list _ => true | .tuple _, .tuple _ => true | _, _ => false) = true) : fEqB d e = some (PyData.eqv d e) := by
  cases d <;> cases e <;> first | exact absurd hn Bool.false_ne_true | (unfold fEqB; simp only; rw [h1, h2]; rfl)
theorem ne_nil (ls : List (List Nat)) : fNe (.list (ls.map tupN)) (.list []) = some (.bool (!ls.isEmpty)) := by
  unfold fNe
  rw [fEqB_c (shp_l lay_T dp_T (by decide) ls) shp_nil_l rfl]
  cases ls <;> simp [PyData.eqv, PyData.eqvAll]
theorem eq_nil (l : List Nat) : fEq (tupN l) (.tuple []) = some (.bool l.isEmpty) := by
  unfold fEq tupN
  rw [fEqB_c (shp_t lay_N dp_N (by decide) l) shp_nil_t rfl]
  cases l <;> simp [PyData.eqv, PyData.eqvAll]
theorem fLen_T (l : List Nat) : fLen [tupN l] = some (.int l.length) := by
  show some (PyData.int ((l.map eN).length : Nat)) = _
  rw [List.length_map]
theorem fTuple_N (l : List Nat) : fTuple [.list (l.map eN)] = some (tupN l) := rfl
theorem fewest_ofE {cs : List Cl} (h : Okc cs) {rows : PyData} (hr : f_rows_of [.tuple (cs.map enc)] = some rows) : f_fewest_of [.tuple (cs.map enc)] = some (.tuple [.int (fullOf cs).length, rows, tupN (fullOf cs)]) := by
  have L := lc_map (it := ⟨(List.range cs.length).map (encAt cs), none⟩) (vs := [1]) (tgt := stN 1) (me := mCall 2 f_held_by (aCons (val (dat (nm 0))) (aCons (val (mTup (aCons (val (op2 fIx (nm 1) (val (DL.ret (.int 0))))) (aCons (val (op2 fIx (nm 1) (val (DL.ret (.int 1))))) aNil)))) aNil))) (ρ := [.d (.tuple (cs.map enc)), .no, .no, .no])
    (encAt cs) (fun i => tupN (heldOf cs (hpin cs i))) (ok_none rfl _) rfl (List.range cs.length) fun i _ => ⟨[.d (.tuple (cs.map enc)), .d (encAt cs i), .no, .no], rfl, rfl, by
      have e : PyData.tuple [.int (cl cs i).1, .int (cl cs i).2.1] = encP (hpin cs i) := rfl
      unfold encAt
      simp [runP_ap, initP, bnd_ap, ret_ap, lft_ap, nm_ap, frzv_ap, frzo_ap, dat_ap, val_ap, getv_ap, geto_ap, gets2_ap, op2_ap, op1_ap, tbool_ap, mAnd_ap, mOr_ap, mNot_ap, vAnd_ap, vOr_ap, vNot_ap, mIte_ap, aNil_ap, aCons_ap, datA_ap, getA_ap, opA_ap, mTup_ap, mLst_ap, foD_ap, mCall_ap, mChain_ap, mIsi_ap, mSeq_ap, mEnum_ap, mZip_ap, mRng_ap, mLc_ap, pNo_ap, pYes_ap, mListRng_ap, sNx_ap, sNever_ap, sSeq_ap, sRet_ap, sRetO_ap, sDrop_ap, sIf_ap, rvD_ap, rvO_ap, sSet_ap, sTgt_ap, sFor_ap, mMt_ap, chkL_ap, putM_ap, stN_ap, stRv_ap, stRf_ap, tgT_ap, tgC_ap, tg0_ap, sPar_ap, sPar3_ap, sPut_ap, mCut_ap, mMaxLen_ap, mSrtSet_ap, mSrtKey_ap, mKeys_ap, mDGet_ap, dicOf_ap, putMD_ap, sDPutM_ap, mLock_ap, mCallI_ap, mCallO_ap, mCallF_ap, runB_ap, runO_ap, agD, agG, agI, slD, Sl.isBr, seqD, fLe_ap, fLt_ap, fGt_ap, fGe_ap, fSub_ap, fAdd_ap, fNeg_ap, fLen_t, fLen_l, fAll_l, fAny_l, fTuple_l, fTuple_t, fList_l, fList_t, fInt_i, fEq_int, fNe_int, fIx_t, fIx_l, fIs_b, fNis_b, fIs_n, fNis_n, isNone_i, isNone_n, fApp_i, fApp_t, fExt_l, ixE0, ixE1, e, held_byE]⟩
  have e2 : (List.range cs.length).map (fun i => tupN (heldOf cs (hpin cs i))) = (lots cs).map tupN := by
    unfold lots; rw [List.map_map]; rfl
  rw [e2, ← range_at] at L
  cases hc : lots cs with
  | nil =>
    rw [hc] at L
    have hf : fullOf cs = [] := by unfold fullOf; rw [hc]; rfl
    have N := ne_nil []
    have hN : PyData.tuple [] = tupN [] := rfl
    rw [hf]
    simp only [List.map_nil] at L N
    unfold f_fewest_of m_fewest_of
    simp [runP_ap, initP, bnd_ap, ret_ap, lft_ap, nm_ap, frzv_ap, frzo_ap, dat_ap, val_ap, getv_ap, geto_ap, gets2_ap, op2_ap, op1_ap, tbool_ap, mAnd_ap, mOr_ap, mNot_ap, vAnd_ap, vOr_ap, vNot_ap, mIte_ap, aNil_ap, aCons_ap, datA_ap, getA_ap, opA_ap, mTup_ap, mLst_ap, foD_ap, mCall_ap, mChain_ap, mIsi_ap, mSeq_ap, mEnum_ap, mZip_ap, mRng_ap, mLc_ap, pNo_ap, pYes_ap, mListRng_ap, sNx_ap, sNever_ap, sSeq_ap, sRet_ap, sRetO_ap, sDrop_ap, sIf_ap, rvD_ap, rvO_ap, sSet_ap, sTgt_ap, sFor_ap, mMt_ap, chkL_ap, putM_ap, stN_ap, stRv_ap, stRf_ap, tgT_ap, tgC_ap, tg0_ap, sPar_ap, sPar3_ap, sPut_ap, mCut_ap, mMaxLen_ap, mSrtSet_ap, mSrtKey_ap, mKeys_ap, mDGet_ap, dicOf_ap, putMD_ap, sDPutM_ap, mLock_ap, mCallI_ap, mCallO_ap, mCallF_ap, runB_ap, runO_ap, agD, agG, agI, slD, Sl.isBr, seqD, fLe_ap, fLt_ap, fGt_ap, fGe_ap, fSub_ap, fAdd_ap, fNeg_ap, fLen_t, fLen_l, fAll_l, fAny_l, fTuple_l, fTuple_t, fList_l, fList_t, fInt_i, fEq_int, fNe_int, fIx_t, fIx_l, fIs_b, fNis_b, fIs_n, fNis_n, isNone_i, isNone_n, fApp_i, fApp_t, fExt_l, L, N, hr]
    rfl
  | cons l0 ls =>
    rw [hc] at L
    have N := ne_nil (l0 :: ls)
    have X := max_len ls l0
    rw [← full_cons h hc] at X
    generalize hq : (l0 :: ls).map tupN = q at *
    unfold f_fewest_of m_fewest_of
    simp [runP_ap, initP, bnd_ap, ret_ap, lft_ap, nm_ap, frzv_ap, frzo_ap, dat_ap, val_ap, getv_ap, geto_ap, gets2_ap, op2_ap, op1_ap, tbool_ap, mAnd_ap, mOr_ap, mNot_ap, vAnd_ap, vOr_ap, vNot_ap, mIte_ap, aNil_ap, aCons_ap, datA_ap, getA_ap, opA_ap, mTup_ap, mLst_ap, foD_ap, mCall_ap, mChain_ap, mIsi_ap, mSeq_ap, mEnum_ap, mZip_ap, mRng_ap, mLc_ap, pNo_ap, pYes_ap, mListRng_ap, sNx_ap, sNever_ap, sSeq_ap, sRet_ap, sRetO_ap, sDrop_ap, sIf_ap, rvD_ap, rvO_ap, sSet_ap, sTgt_ap, sFor_ap, mMt_ap, chkL_ap, putM_ap, stN_ap, stRv_ap, stRf_ap, tgT_ap, tgC_ap, tg0_ap, sPar_ap, sPar3_ap, sPut_ap, mCut_ap, mMaxLen_ap, mSrtSet_ap, mSrtKey_ap, mKeys_ap, mDGet_ap, dicOf_ap, putMD_ap, sDPutM_ap, mLock_ap, mCallI_ap, mCallO_ap, mCallF_ap, runB_ap, runO_ap, agD, agG, agI, slD, Sl.isBr, seqD, fLe_ap, fLt_ap, fGt_ap, fGe_ap, fSub_ap, fAdd_ap, fNeg_ap, fLen_t, fLen_l, fAll_l, fAny_l, fTuple_l, fTuple_t, fList_l, fList_t, fInt_i, fEq_int, fNe_int, fIx_t, fIx_l, fIs_b, fNis_b, fIs_n, fNis_n, isNone_i, isNone_n, fApp_i, fApp_t, fExt_l, L, N, X, fLen_T, hr]
noncomputable def b_lf : S := (sSeq (sSet 8 (rvD (opA fTuple (aCons (val (foD (mLc (mEnum (aCons (val (dat (nm 0))) aNil)) [6, 7] (tgT (tgC (stN 6) (tgC (stN 7) tg0))) (mAnd (tbool (op2 fEq (val (op2 fIx (nm 7) (val (DL.ret (.int 0))))) (nm 2))) (tbool (mChain fLe fLe (val (op2 fIx (nm 7) (val (DL.ret (.int 1))))) (nm 3) (val (op2 fIx (nm 7) (val (DL.ret (.int 2)))))))) (opA fInt (aCons (nm 6) aNil))))) aNil))))
    (sSet 1 (rvD (mIte (tbool (op2 fGt (val (opA fLen (aCons (nm 8) aNil))) (val (opA fLen (aCons (nm 1) aNil))))) (dat (nm 8)) (dat (nm 1))))))
theorem m_lf_is : m_law_fullest = sSeq (sSet 1 (rvD (mTup aNil)))
    (sSeq (sFor (mSeq (val (dat (nm 0)))) (tgT (tgC (stN 2) (tgC (stN 3) (tgC (stN 4) (tgC (stN 5) tg0))))) b_lf)
    (sRet (dat (nm 1)))) := rfl
theorem enc_c (cs : List Cl) (i : Nat) : encAt cs i = .tuple [.int (cl cs i).1, .int (cl cs i).2.1, .int (cl cs i).2.2.1, .int (cl cs i).2.2.2] := rfl
def stF (cs : List Cl) (best : List Nat) (o2 o3 o4 o5 o8 : Option PyData) : Ro := [.d (.tuple (cs.map enc)), .d (tupN best), ofO o2, ofO o3, ofO o4, ofO o5, .no, .no, ofO o8]
theorem b_lf_is (cs : List Cl) (best : List Nat) (i : Nat) (d4 d5 : PyData) (o8 : Option PyData) : b_lf (stF cs best (some (.int (cl cs i).1)) (some (.int (cl cs i).2.1)) (some d4) (some d5) o8) = some (.nx, stF cs (better best (heldOf cs (hpin cs i))) (some (.int (cl cs i).1)) (some (.int (cl cs i).2.1)) (some d4) (some d5) (some (tupN (heldOf cs (hpin cs i))))) := by
  have L := lc_filt (it := ⟨(List.range cs.length).map (enI cs), none⟩) (vs := [6, 7]) (tgt := tgT (tgC (stN 6) (tgC (stN 7) tg0))) (mc := mAnd (tbool (op2 fEq (val (op2 fIx (nm 7) (val (DL.ret (.int 0))))) (nm 2))) (tbool (mChain fLe fLe (val (op2 fIx (nm 7) (val (DL.ret (.int 1))))) (nm 3) (val (op2 fIx (nm 7) (val (DL.ret (.int 2)))))))) (me := opA fInt (aCons (nm 6) aNil)) (ρ := stF cs best (some (.int (cl cs i).1)) (some (.int (cl cs i).2.1)) (some d4) (some d5) o8)
    (enI cs) eN (fun j => hd (hpin cs i) (cl cs j)) (ok_none rfl _) rfl (List.range cs.length) fun j _ => ⟨((stF cs best (some (.int (cl cs i).1)) (some (.int (cl cs i).2.1)) (some d4) (some d5) o8).set 6 (.d (eN j))).set 7 (.d (enc (cl cs j))), rfl, rfl, by
      simp only [stF, ofO, List.set_cons_succ, List.set_cons_zero]
      unfold hd hpin
      by_cases h1 : (cl cs j).1 = (cl cs i).1
      · by_cases h2 : (cl cs j).2.1 ≤ (cl cs i).2.1
        · simp [runP_ap, initP, bnd_ap, ret_ap, lft_ap, nm_ap, frzv_ap, frzo_ap, dat_ap, val_ap, getv_ap, geto_ap, gets2_ap, op2_ap, op1_ap, tbool_ap, mAnd_ap, mOr_ap, mNot_ap, vAnd_ap, vOr_ap, vNot_ap, mIte_ap, aNil_ap, aCons_ap, datA_ap, getA_ap, opA_ap, mTup_ap, mLst_ap, foD_ap, mCall_ap, mChain_ap, mIsi_ap, mSeq_ap, mEnum_ap, mZip_ap, mRng_ap, mLc_ap, pNo_ap, pYes_ap, mListRng_ap, sNx_ap, sNever_ap, sSeq_ap, sRet_ap, sRetO_ap, sDrop_ap, sIf_ap, rvD_ap, rvO_ap, sSet_ap, sTgt_ap, sFor_ap, mMt_ap, chkL_ap, putM_ap, stN_ap, stRv_ap, stRf_ap, tgT_ap, tgC_ap, tg0_ap, sPar_ap, sPar3_ap, sPut_ap, mCut_ap, mMaxLen_ap, mSrtSet_ap, mSrtKey_ap, mKeys_ap, mDGet_ap, dicOf_ap, putMD_ap, sDPutM_ap, mLock_ap, mCallI_ap, mCallO_ap, mCallF_ap, runB_ap, runO_ap, agD, agG, agI, slD, Sl.isBr, seqD, fLe_ap, fLt_ap, fGt_ap, fGe_ap, fSub_ap, fAdd_ap, fNeg_ap, fLen_t, fLen_l, fAll_l, fAny_l, fTuple_l, fTuple_t, fList_l, fList_t, fInt_i, fEq_int, fNe_int, fIx_t, fIx_l, fIs_b, fNis_b, fIs_n, fNis_n, isNone_i, isNone_n, fApp_i, fApp_t, fExt_l, ixE0, ixE1, ixE2, h1, h2]
        · simp [runP_ap, initP, bnd_ap, ret_ap, lft_ap, nm_ap, frzv_ap, frzo_ap, dat_ap, val_ap, getv_ap, geto_ap, gets2_ap, op2_ap, op1_ap, tbool_ap, mAnd_ap, mOr_ap, mNot_ap, vAnd_ap, vOr_ap, vNot_ap, mIte_ap, aNil_ap, aCons_ap, datA_ap, getA_ap, opA_ap, mTup_ap, mLst_ap, foD_ap, mCall_ap, mChain_ap, mIsi_ap, mSeq_ap, mEnum_ap, mZip_ap, mRng_ap, mLc_ap, pNo_ap, pYes_ap, mListRng_ap, sNx_ap, sNever_ap, sSeq_ap, sRet_ap, sRetO_ap, sDrop_ap, sIf_ap, rvD_ap, rvO_ap, sSet_ap, sTgt_ap, sFor_ap, mMt_ap, chkL_ap, putM_ap, stN_ap, stRv_ap, stRf_ap, tgT_ap, tgC_ap, tg0_ap, sPar_ap, sPar3_ap, sPut_ap, mCut_ap, mMaxLen_ap, mSrtSet_ap, mSrtKey_ap, mKeys_ap, mDGet_ap, dicOf_ap, putMD_ap, sDPutM_ap, mLock_ap, mCallI_ap, mCallO_ap, mCallF_ap, runB_ap, runO_ap, agD, agG, agI, slD, Sl.isBr, seqD, fLe_ap, fLt_ap, fGt_ap, fGe_ap, fSub_ap, fAdd_ap, fNeg_ap, fLen_t, fLen_l, fAll_l, fAny_l, fTuple_l, fTuple_t, fList_l, fList_t, fInt_i, fEq_int, fNe_int, fIx_t, fIx_l, fIs_b, fNis_b, fIs_n, fNis_n, isNone_i, isNone_n, fApp_i, fApp_t, fExt_l, ixE0, ixE1, ixE2, h1, h2]
      · have h1' : ¬ (cl cs i).1 = (cl cs j).1 := fun e => h1 e.symm
        simp [runP_ap, initP, bnd_ap, ret_ap, lft_ap, nm_ap, frzv_ap, frzo_ap, dat_ap, val_ap, getv_ap, geto_ap, gets2_ap, op2_ap, op1_ap, tbool_ap, mAnd_ap, mOr_ap, mNot_ap, vAnd_ap, vOr_ap, vNot_ap, mIte_ap, aNil_ap, aCons_ap, datA_ap, getA_ap, opA_ap, mTup_ap, mLst_ap, foD_ap, mCall_ap, mChain_ap, mIsi_ap, mSeq_ap, mEnum_ap, mZip_ap, mRng_ap, mLc_ap, pNo_ap, pYes_ap, mListRng_ap, sNx_ap, sNever_ap, sSeq_ap, sRet_ap, sRetO_ap, sDrop_ap, sIf_ap, rvD_ap, rvO_ap, sSet_ap, sTgt_ap, sFor_ap, mMt_ap, chkL_ap, putM_ap, stN_ap, stRv_ap, stRf_ap, tgT_ap, tgC_ap, tg0_ap, sPar_ap, sPar3_ap, sPut_ap, mCut_ap, mMaxLen_ap, mSrtSet_ap, mSrtKey_ap, mKeys_ap, mDGet_ap, dicOf_ap, putMD_ap, sDPutM_ap, mLock_ap, mCallI_ap, mCallO_ap, mCallF_ap, runB_ap, runO_ap, agD, agG, agI, slD, Sl.isBr, seqD, fLe_ap, fLt_ap, fGt_ap, fGe_ap, fSub_ap, fAdd_ap, fNeg_ap, fLen_t, fLen_l, fAll_l, fAny_l, fTuple_l, fTuple_t, fList_l, fList_t, fInt_i, fEq_int, fNe_int, fIx_t, fIx_l, fIs_b, fNis_b, fIs_n, fNis_n, isNone_i, isNone_n, fApp_i, fApp_t, fExt_l, ixE0, ixE1, ixE2, h1, h1'], fun _ => by
      simp only [stF, ofO, List.set_cons_succ, List.set_cons_zero]
      simp [runP_ap, initP, bnd_ap, ret_ap, lft_ap, nm_ap, frzv_ap, frzo_ap, dat_ap, val_ap, getv_ap, geto_ap, gets2_ap, op2_ap, op1_ap, tbool_ap, mAnd_ap, mOr_ap, mNot_ap, vAnd_ap, vOr_ap, vNot_ap, mIte_ap, aNil_ap, aCons_ap, datA_ap, getA_ap, opA_ap, mTup_ap, mLst_ap, foD_ap, mCall_ap, mChain_ap, mIsi_ap, mSeq_ap, mEnum_ap, mZip_ap, mRng_ap, mLc_ap, pNo_ap, pYes_ap, mListRng_ap, sNx_ap, sNever_ap, sSeq_ap, sRet_ap, sRetO_ap, sDrop_ap, sIf_ap, rvD_ap, rvO_ap, sSet_ap, sTgt_ap, sFor_ap, mMt_ap, chkL_ap, putM_ap, stN_ap, stRv_ap, stRf_ap, tgT_ap, tgC_ap, tg0_ap, sPar_ap, sPar3_ap, sPut_ap, mCut_ap, mMaxLen_ap, mSrtSet_ap, mSrtKey_ap, mKeys_ap, mDGet_ap, dicOf_ap, putMD_ap, sDPutM_ap, mLock_ap, mCallI_ap, mCallO_ap, mCallF_ap, runB_ap, runO_ap, agD, agG, agI, slD, Sl.isBr, seqD, fLe_ap, fLt_ap, fGt_ap, fGe_ap, fSub_ap, fAdd_ap, fNeg_ap, fLen_t, fLen_l, fAll_l, fAny_l, fTuple_l, fTuple_t, fList_l, fList_t, fInt_i, fEq_int, fNe_int, fIx_t, fIx_l, fIs_b, fNis_b, fIs_n, fNis_n, isNone_i, isNone_n, fApp_i, fApp_t, fExt_l, fInt_N]⟩
  have hh : (List.range cs.length).filter (fun j => hd (hpin cs i) (cl cs j)) = heldOf cs (hpin cs i) := rfl
  rw [hh] at L
  generalize heldOf cs (hpin cs i) = lot at *
  simp only [stF, tupN] at L ⊢
  unfold b_lf
  by_cases hb : best.length < lot.length
  · have e : better best lot = lot := if_pos hb
    have hb' : (best.length : Int) < (lot.length : Int) := by omega
    rw [e]
    cases o8 <;> simp only [ofO] at L ⊢ <;> simp [runP_ap, initP, bnd_ap, ret_ap, lft_ap, nm_ap, frzv_ap, frzo_ap, dat_ap, val_ap, getv_ap, geto_ap, gets2_ap, op2_ap, op1_ap, tbool_ap, mAnd_ap, mOr_ap, mNot_ap, vAnd_ap, vOr_ap, vNot_ap, mIte_ap, aNil_ap, aCons_ap, datA_ap, getA_ap, opA_ap, mTup_ap, mLst_ap, foD_ap, mCall_ap, mChain_ap, mIsi_ap, mSeq_ap, mEnum_ap, mZip_ap, mRng_ap, mLc_ap, pNo_ap, pYes_ap, mListRng_ap, sNx_ap, sNever_ap, sSeq_ap, sRet_ap, sRetO_ap, sDrop_ap, sIf_ap, rvD_ap, rvO_ap, sSet_ap, sTgt_ap, sFor_ap, mMt_ap, chkL_ap, putM_ap, stN_ap, stRv_ap, stRf_ap, tgT_ap, tgC_ap, tg0_ap, sPar_ap, sPar3_ap, sPut_ap, mCut_ap, mMaxLen_ap, mSrtSet_ap, mSrtKey_ap, mKeys_ap, mDGet_ap, dicOf_ap, putMD_ap, sDPutM_ap, mLock_ap, mCallI_ap, mCallO_ap, mCallF_ap, runB_ap, runO_ap, agD, agG, agI, slD, Sl.isBr, seqD, fLe_ap, fLt_ap, fGt_ap, fGe_ap, fSub_ap, fAdd_ap, fNeg_ap, fLen_t, fLen_l, fAll_l, fAny_l, fTuple_l, fTuple_t, fList_l, fList_t, fInt_i, fEq_int, fNe_int, fIx_t, fIx_l, fIs_b, fNis_b, fIs_n, fNis_n, isNone_i, isNone_n, fApp_i, fApp_t, fExt_l, enum_is, L, hb, hb', tupN]
  · have e : better best lot = best := if_neg hb
    have hb' : ¬ (best.length : Int) < (lot.length : Int) := by omega
    rw [e]
    cases o8 <;> simp only [ofO] at L ⊢ <;> simp [runP_ap, initP, bnd_ap, ret_ap, lft_ap, nm_ap, frzv_ap, frzo_ap, dat_ap, val_ap, getv_ap, geto_ap, gets2_ap, op2_ap, op1_ap, tbool_ap, mAnd_ap, mOr_ap, mNot_ap, vAnd_ap, vOr_ap, vNot_ap, mIte_ap, aNil_ap, aCons_ap, datA_ap, getA_ap, opA_ap, mTup_ap, mLst_ap, foD_ap, mCall_ap, mChain_ap, mIsi_ap, mSeq_ap, mEnum_ap, mZip_ap, mRng_ap, mLc_ap, pNo_ap, pYes_ap, mListRng_ap, sNx_ap, sNever_ap, sSeq_ap, sRet_ap, sRetO_ap, sDrop_ap, sIf_ap, rvD_ap, rvO_ap, sSet_ap, sTgt_ap, sFor_ap, mMt_ap, chkL_ap, putM_ap, stN_ap, stRv_ap, stRf_ap, tgT_ap, tgC_ap, tg0_ap, sPar_ap, sPar3_ap, sPut_ap, mCut_ap, mMaxLen_ap, mSrtSet_ap, mSrtKey_ap, mKeys_ap, mDGet_ap, dicOf_ap, putMD_ap, sDPutM_ap, mLock_ap, mCallI_ap, mCallO_ap, mCallF_ap, runB_ap, runO_ap, agD, agG, agI, slD, Sl.isBr, seqD, fLe_ap, fLt_ap, fGt_ap, fGe_ap, fSub_ap, fAdd_ap, fNeg_ap, fLen_t, fLen_l, fAll_l, fAny_l, fTuple_l, fTuple_t, fList_l, fList_t, fInt_i, fEq_int, fNe_int, fIx_t, fIx_l, fIs_b, fNis_b, fIs_n, fNis_n, isNone_i, isNone_n, fApp_i, fApp_t, fExt_l, enum_is, L, hb, hb', tupN]
theorem law_fullestE (cs : List Cl) : f_law_fullest [.tuple (cs.map enc)] = some (tupN (fullOf cs)) := by
  obtain ⟨ρ', h1, o2, o3, o4, o5, o8, rfl⟩ := for_rel (it := ⟨(List.range cs.length).map (encAt cs), none⟩) (tgt := tgT (tgC (stN 2) (tgC (stN 3) (tgC (stN 4) (tgC (stN 5) tg0))))) (b := b_lf) (encAt cs)
    (fun (best : List Nat) (ρ : Ro) => ∃ o2 o3 o4 o5 o8, ρ = stF cs best o2 o3 o4 o5 o8) (fun best i => better best (heldOf cs (hpin cs i))) (List.range cs.length) [] [.d (.tuple (cs.map enc)), .d (.tuple []), .no, .no, .no, .no, .no, .no, .no] ⟨none, none, none, none, none, rfl⟩ (by
      rintro i _ best ρ ⟨o2, o3, o4, o5, o8, rfl⟩
      refine ⟨stF cs best (some (.int (cl cs i).1)) (some (.int (cl cs i).2.1)) (some (.int (cl cs i).2.2.1)) (some (.int (cl cs i).2.2.2)) o8, _, ?_, b_lf_is cs best i _ _ o8, _, _, _, _, _, rfl⟩
      rw [enc_c]
      cases o2 <;> cases o3 <;> cases o4 <;> cases o5 <;> rfl)
  rw [← range_at] at h1
  have e : (List.range cs.length).foldl (fun best i => better best (heldOf cs (hpin cs i))) [] = fullOf cs := by
    unfold fullOf lots
    rw [List.foldl_map]
  rw [e] at h1
  unfold f_law_fullest
  rw [m_lf_is]
  simp [runP_ap, initP, bnd_ap, ret_ap, lft_ap, nm_ap, frzv_ap, frzo_ap, dat_ap, val_ap, getv_ap, geto_ap, gets2_ap, op2_ap, op1_ap, tbool_ap, mAnd_ap, mOr_ap, mNot_ap, vAnd_ap, vOr_ap, vNot_ap, mIte_ap, aNil_ap, aCons_ap, datA_ap, getA_ap, opA_ap, mTup_ap, mLst_ap, foD_ap, mCall_ap, mChain_ap, mIsi_ap, mSeq_ap, mEnum_ap, mZip_ap, mRng_ap, mLc_ap, pNo_ap, pYes_ap, mListRng_ap, sNx_ap, sNever_ap, sSeq_ap, sRet_ap, sRetO_ap, sDrop_ap, sIf_ap, rvD_ap, rvO_ap, sSet_ap, sTgt_ap, sFor_ap, mMt_ap, chkL_ap, putM_ap, stN_ap, stRv_ap, stRf_ap, tgT_ap, tgC_ap, tg0_ap, sPar_ap, sPar3_ap, sPut_ap, mCut_ap, mMaxLen_ap, mSrtSet_ap, mSrtKey_ap, mKeys_ap, mDGet_ap, dicOf_ap, putMD_ap, sDPutM_ap, mLock_ap, mCallI_ap, mCallO_ap, mCallF_ap, runB_ap, runO_ap, agD, agG, agI, slD, Sl.isBr, seqD, fLe_ap, fLt_ap, fGt_ap, fGe_ap, fSub_ap, fAdd_ap, fNeg_ap, fLen_t, fLen_l, fAll_l, fAny_l, fTuple_l, fTuple_t, fList_l, fList_t, fInt_i, fEq_int, fNe_int, fIx_t, fIx_l, fIs_b, fNis_b, fIs_n, fNis_n, isNone_i, isNone_n, fApp_i, fApp_t, fExt_l, h1]
  unfold stF
  simp [runP_ap, initP, bnd_ap, ret_ap, lft_ap, nm_ap, frzv_ap, frzo_ap, dat_ap, val_ap, getv_ap, geto_ap, gets2_ap, op2_ap, op1_ap, tbool_ap, mAnd_ap, mOr_ap, mNot_ap, vAnd_ap, vOr_ap, vNot_ap, mIte_ap, aNil_ap, aCons_ap, datA_ap, getA_ap, opA_ap, mTup_ap, mLst_ap, foD_ap, mCall_ap, mChain_ap, mIsi_ap, mSeq_ap, mEnum_ap, mZip_ap, mRng_ap, mLc_ap, pNo_ap, pYes_ap, mListRng_ap, sNx_ap, sNever_ap, sSeq_ap, sRet_ap, sRetO_ap, sDrop_ap, sIf_ap, rvD_ap, rvO_ap, sSet_ap, sTgt_ap, sFor_ap, mMt_ap, chkL_ap, putM_ap, stN_ap, stRv_ap, stRf_ap, tgT_ap, tgC_ap, tg0_ap, sPar_ap, sPar3_ap, sPut_ap, mCut_ap, mMaxLen_ap, mSrtSet_ap, mSrtKey_ap, mKeys_ap, mDGet_ap, dicOf_ap, putMD_ap, sDPutM_ap, mLock_ap, mCallI_ap, mCallO_ap, mCallF_ap, runB_ap, runO_ap, agD, agG, agI, slD, Sl.isBr, seqD, fLe_ap, fLt_ap, fGt_ap, fGe_ap, fSub_ap, fAdd_ap, fNeg_ap, fLen_t, fLen_l, fAll_l, fAny_l, fTuple_l, fTuple_t, fList_l, fList_t, fInt_i, fEq_int, fNe_int, fIx_t, fIx_l, fIs_b, fNis_b, fIs_n, fNis_n, isNone_i, isNone_n, fApp_i, fApp_t, fExt_l]
end K15
end
section
namespace K15
local instance : DL.Tbs := ⟨[]⟩
open PySem PySem.Spec PyProof.Rows L2 DL
/-! ### rows -/
abbrev Asg := List (Nat × Nat)
def ent (a : Nat × Nat) : Key × PyData := (.inl (a.1 : Int), eN a.2)
def kvs (asg : Asg) : List (Key × PyData) := asg.map ent
theorem keys_is (asg : Asg) : keysOf (kvs asg) = asg.map fun a => eN a.1 := by
  unfold keysOf kvs
  rw [List.map_map]; rfl
theorem look_mem {asg : Asg} (nd : (asg.map (·.1)).Nodup) {a : Nat × Nat} (h : a ∈ asg) : lookK (kvs asg) (.inl (a.1 : Int)) = some (eN a.2) := by
  unfold lookK kvs
  induction asg with
  | nil => cases h
  | cons b asg ih =>
    rw [List.map_cons, List.nodup_cons] at nd
    rw [List.map_cons, List.find?_cons]
    rcases List.mem_cons.mp h with rfl | h
    · simp [ent]
    · have hne : b.1 ≠ a.1 := fun z => nd.1 (z ▸ List.mem_map_of_mem h)
      have : decide ((ent b).1 = Sum.inl (a.1 : Int)) = false := by
        apply decide_eq_false
        intro z
        have z : (Sum.inl (b.1 : Int) : Key) = Sum.inl (a.1 : Int) := z
        injection z with z
        exact hne (by omega)
      rw [this]
      exact ih nd.2 h
theorem put_new {asg : Asg} {p r : Nat} (h : p ∉ asg.map (·.1)) : putD (kvs asg) (.inl (p : Int)) (eN r) = kvs (asg ++ [(p, r)]) := by
  have : ((kvs asg).any fun kv => decide (kv.1 = (.inl (p : Int) : Key))) = false := by
    rw [List.any_eq_false]
    intro kv hkv
    obtain ⟨a, ha, rfl⟩ := List.mem_map.mp hkv
    intro z
    have z : (ent a).1 = Sum.inl (p : Int) := of_decide_eq_true z
    have z : (Sum.inl (a.1 : Int) : Key) = Sum.inl (p : Int) := z
    injection z with z
    exact h (by rw [show p = a.1 by omega]; exact List.mem_map_of_mem ha)
  unfold putD
  rw [if_neg (by rw [this]; exact Bool.false_ne_true)]
  unfold kvs
  rw [List.map_append]; rfl
def freeRows (n : Nat) (taken : List Nat) : List Nat := (List.range n).filter fun r => !taken.contains r
def rowFor (n : Nat) (taken : List Nat) : Nat := (freeRows n taken).headD 0
def takenBy (cs : List Cl) (asg : Asg) (p : Nat) : List Nat := (asg.filter fun a => MM cs p a.1).map (·.2)
def rstep (cs : List Cl) (asg : Asg) (p : Nat) : Asg := asg ++ [(p, rowFor cs.length (takenBy cs asg p))]
theorem foldl_min (h : Int) : ∀ l : List Int, (∀ x ∈ l, h ≤ x) → l.foldl (fun a b => if b < a then b else a) h = h
  | [], _ => rfl
  | x :: l, hl => by
    rw [List.foldl_cons, if_neg (by have := hl x List.mem_cons_self; omega)]
    exact foldl_min h l fun y hy => hl y (List.mem_cons_of_mem _ hy)
theorem fMin_asc {l : List Nat} (h : l.Pairwise (· < ·)) (hn : l ≠ []) : fMin [.list (l.map eN)] = some (eN (l.headD 0)) := by
  cases l with
  | nil => exact absurd rfl hn
  | cons a l =>
    rw [List.pairwise_cons] at h
    show fMin1 (.list ((a :: l).map eN)) = _
    have e : intsL (.list ((a :: l).map eN)) = some ((a :: l).map fun (i : Nat) => (i : Int)) := by
      rw [eN_ints]; exact asInts_map _
    unfold fMin1
    rw [e]
    show some (PyData.int (List.foldl (fun a b => if b < a then b else a) (a : Int) (l.map fun (i : Nat) => (i : Int)))) = _
    rw [foldl_min]
    · rfl
    · intro x hx
      obtain ⟨b, hb, rfl⟩ := List.mem_map.mp hx
      have := h.1 b hb
      omega
theorem pig : ∀ (n : Nat) (l : List Nat), (∀ r, r < n → r ∈ l) → n ≤ l.length
  | 0, _, _ => Nat.zero_le _
  | n + 1, l, h => by
    have hm := h n (Nat.lt_succ_self n)
    have := pig n (l.erase n) fun r hr => (List.mem_erase_of_ne (by omega)).mpr (h r (by omega))
    rw [List.length_erase_of_mem hm] at this
    have := List.length_pos_of_mem hm
    omega
theorem free_asc (n : Nat) (taken : List Nat) : (freeRows n taken).Pairwise (· < ·) := List.Pairwise.sublist List.filter_sublist List.pairwise_lt_range
theorem free_ne {n : Nat} {taken : List Nat} (h : taken.length < n) : freeRows n taken ≠ [] := fun e => by
  have : n ≤ taken.length := pig n taken fun r hr => by
    refine Classical.byContradiction fun hc => ?_
    have : r ∈ freeRows n taken := by
      unfold freeRows
      rw [List.mem_filter]
      refine ⟨List.mem_range.mpr hr, ?_⟩
      simp [hc]
    rw [e] at this
    cases this
  omega
theorem nin_N (i : Nat) (l : List Nat) : fNin (eN i) (.list (l.map eN)) = some (.bool (!l.contains i)) := by
  have := fIn_N i l
  unfold fIn at this
  unfold fNin
  split at this
  · rename_i b hb
    have e : b = l.contains i := by
      have := Option.some.inj this
      injection this
    rw [e]
  · cases this
/-- the loop's body, in common: what is taken -/
theorem taken_dn (cs : List Cl) (asg : Asg) (p : Nat) : (asg.filter fun a => MM cs p a.1).map (fun a => eN a.2) = (takenBy cs asg p).map eN := by
  unfold takenBy
  rw [List.map_map]; rfl
theorem noLk7 (a b c d e f g : Sl) : noLk [a, b, c, d, e, f, g] = (noLk [a] && noLk [b] && noLk [c] && noLk [d] && noLk [e] && noLk [f] && noLk [g]) := by simp [noLk, Bool.and_assoc]
noncomputable def b_lr : S := (sSeq (sSet 4 (rvO (mLock 1 (mLc (mKeys (nm 1)) [3] (stN 3) (tbool (mCall 2 f_law_do_meet (aCons (val (op2 fIx (nm 0) (nm 2))) (aCons (val (op2 fIx (nm 0) (nm 3))) aNil)))) (mDGet (nm 1) (dat (nm 3)))))))
    (sDPutM (opA fMin (aCons (val (foD (mLc (mRng (aCons (val (opA fLen (aCons (nm 0) aNil))) aNil)) [5] (stN 5) (tbool (op2 fNin (nm 5) (nm 4))) (dat (nm 5))))) aNil)) (nm 1) (dat (nm 2))))
theorem m_lr_is : m_law_rows_of = sSeq (sSet 1 (rvO (DL.ret (.od []))))
    (sSeq (sFor (mSeq (val (foD (mSrtKey 0 1 (opA fLen (aCons (nm 0) aNil)))))) (stN 2) b_lr)
    (sRet (opA fTuple (aCons (val (foD (mLc (mRng (aCons (val (opA fLen (aCons (nm 0) aNil))) aNil)) [2] (stN 2) (DL.ret true) (opA fInt (aCons (val (mDGet (nm 1) (dat (nm 2)))) aNil))))) aNil)))) := rfl
def stLR (cs : List Cl) (asg : Asg) (o2 : Option PyData) (s4 : Sl) : Ro := [.d (.tuple (cs.map enc)), .od (kvs asg), ofO o2, .no, s4, .no]
theorem rng_N (n : Nat) : rngD 0 n = (List.range n).map eN := by
  unfold rngD
  apply List.map_congr_left
  intro i _
  show PyData.int (0 + (i : Int)) = .int (i : Int)
  rw [Int.zero_add]
theorem b_lr_is {cs : List Cl} {asg : Asg} {p : Nat} {s4 : Sl} (hp : p < cs.length) (hk : ∀ a ∈ asg, a.1 < cs.length) (nd : (asg.map (·.1)).Nodup) (hnew : p ∉ asg.map (·.1)) (hl : asg.length < cs.length) (hn : cs.length ≤ 8) (h4 : s4 = .no ∨ ∃ l : List Nat, s4 = .ol (l.map eN)) :
    b_lr (stLR cs asg (some (eN p)) s4) = some (.nx, stLR cs (rstep cs asg p) (some (eN p)) (.ol ((takenBy cs asg p).map eN))) := by
  have L1 := lc_filt (it := ⟨asg.map fun a => eN a.1, none⟩) (vs := [3]) (tgt := stN 3) (mc := tbool (mCall 2 f_law_do_meet (aCons (val (op2 fIx (nm 0) (nm 2))) (aCons (val (op2 fIx (nm 0) (nm 3))) aNil)))) (me := mDGet (nm 1) (dat (nm 3))) (ρ := [.d (.tuple (cs.map enc)), .lk (kvs asg), .d (eN p), .no, s4, .no])
    (fun a => eN a.1) (fun a => eN a.2) (fun a => MM cs p a.1) (ok_none rfl _) rfl asg fun a ha => ⟨[.d (.tuple (cs.map enc)), .lk (kvs asg), .d (eN p), .d (eN a.1), s4, .no], rfl, rfl, by simp [runP_ap, initP, bnd_ap, ret_ap, lft_ap, nm_ap, frzv_ap, frzo_ap, dat_ap, val_ap, getv_ap, geto_ap, gets2_ap, op2_ap, op1_ap, tbool_ap, mAnd_ap, mOr_ap, mNot_ap, vAnd_ap, vOr_ap, vNot_ap, mIte_ap, aNil_ap, aCons_ap, datA_ap, getA_ap, opA_ap, mTup_ap, mLst_ap, foD_ap, mCall_ap, mChain_ap, mIsi_ap, mSeq_ap, mEnum_ap, mZip_ap, mRng_ap, mLc_ap, pNo_ap, pYes_ap, mListRng_ap, sNx_ap, sNever_ap, sSeq_ap, sRet_ap, sRetO_ap, sDrop_ap, sIf_ap, rvD_ap, rvO_ap, sSet_ap, sTgt_ap, sFor_ap, mMt_ap, chkL_ap, putM_ap, stN_ap, stRv_ap, stRf_ap, tgT_ap, tgC_ap, tg0_ap, sPar_ap, sPar3_ap, sPut_ap, mCut_ap, mMaxLen_ap, mSrtSet_ap, mSrtKey_ap, mKeys_ap, mDGet_ap, dicOf_ap, putMD_ap, sDPutM_ap, mLock_ap, mCallI_ap, mCallO_ap, mCallF_ap, runB_ap, runO_ap, agD, agG, agI, slD, Sl.isBr, seqD, fLe_ap, fLt_ap, fGt_ap, fGe_ap, fSub_ap, fAdd_ap, fNeg_ap, fLen_t, fLen_l, fAll_l, fAny_l, fTuple_l, fTuple_t, fList_l, fList_t, fInt_i, fEq_int, fNe_int, fIx_t, fIx_l, fIs_b, fNis_b, fIs_n, fNis_n, isNone_i, isNone_n, fApp_i, fApp_t, fExt_l, fIx_tN, at_enc hp, at_enc (hk a ha), lmeetE, MM], fun _ => by
      have := look_mem nd ha
      have e : keyD (eN a.1) = some (.inl (a.1 : Int)) := rfl
      simp [runP_ap, initP, bnd_ap, ret_ap, lft_ap, nm_ap, frzv_ap, frzo_ap, dat_ap, val_ap, getv_ap, geto_ap, gets2_ap, op2_ap, op1_ap, tbool_ap, mAnd_ap, mOr_ap, mNot_ap, vAnd_ap, vOr_ap, vNot_ap, mIte_ap, aNil_ap, aCons_ap, datA_ap, getA_ap, opA_ap, mTup_ap, mLst_ap, foD_ap, mCall_ap, mChain_ap, mIsi_ap, mSeq_ap, mEnum_ap, mZip_ap, mRng_ap, mLc_ap, pNo_ap, pYes_ap, mListRng_ap, sNx_ap, sNever_ap, sSeq_ap, sRet_ap, sRetO_ap, sDrop_ap, sIf_ap, rvD_ap, rvO_ap, sSet_ap, sTgt_ap, sFor_ap, mMt_ap, chkL_ap, putM_ap, stN_ap, stRv_ap, stRf_ap, tgT_ap, tgC_ap, tg0_ap, sPar_ap, sPar3_ap, sPut_ap, mCut_ap, mMaxLen_ap, mSrtSet_ap, mSrtKey_ap, mKeys_ap, mDGet_ap, dicOf_ap, putMD_ap, sDPutM_ap, mLock_ap, mCallI_ap, mCallO_ap, mCallF_ap, runB_ap, runO_ap, agD, agG, agI, slD, Sl.isBr, seqD, fLe_ap, fLt_ap, fGt_ap, fGe_ap, fSub_ap, fAdd_ap, fNeg_ap, fLen_t, fLen_l, fAll_l, fAny_l, fTuple_l, fTuple_t, fList_l, fList_t, fInt_i, fEq_int, fNe_int, fIx_t, fIx_l, fIs_b, fNis_b, fIs_n, fNis_n, isNone_i, isNone_n, fApp_i, fApp_t, fExt_l, e, this]⟩
  rw [taken_dn] at L1
  have htk : (takenBy cs asg p).length < cs.length := by
    unfold takenBy
    rw [List.length_map]
    exact Nat.lt_of_le_of_lt (List.length_filter_le _ _) hl
  have L2 := lc_filt (it := ⟨(List.range cs.length).map eN, none⟩) (vs := [5]) (tgt := stN 5) (mc := tbool (op2 fNin (nm 5) (nm 4))) (me := dat (nm 5)) (ρ := [.d (.tuple (cs.map enc)), .od (kvs asg), .d (eN p), .no, .ol ((takenBy cs asg p).map eN), .no])
    eN eN (fun r => !(takenBy cs asg p).contains r) (ok_none rfl _) rfl (List.range cs.length) fun r _ => ⟨[.d (.tuple (cs.map enc)), .od (kvs asg), .d (eN p), .no, .ol ((takenBy cs asg p).map eN), .d (eN r)], rfl, rfl, by simp [runP_ap, initP, bnd_ap, ret_ap, lft_ap, nm_ap, frzv_ap, frzo_ap, dat_ap, val_ap, getv_ap, geto_ap, gets2_ap, op2_ap, op1_ap, tbool_ap, mAnd_ap, mOr_ap, mNot_ap, vAnd_ap, vOr_ap, vNot_ap, mIte_ap, aNil_ap, aCons_ap, datA_ap, getA_ap, opA_ap, mTup_ap, mLst_ap, foD_ap, mCall_ap, mChain_ap, mIsi_ap, mSeq_ap, mEnum_ap, mZip_ap, mRng_ap, mLc_ap, pNo_ap, pYes_ap, mListRng_ap, sNx_ap, sNever_ap, sSeq_ap, sRet_ap, sRetO_ap, sDrop_ap, sIf_ap, rvD_ap, rvO_ap, sSet_ap, sTgt_ap, sFor_ap, mMt_ap, chkL_ap, putM_ap, stN_ap, stRv_ap, stRf_ap, tgT_ap, tgC_ap, tg0_ap, sPar_ap, sPar3_ap, sPut_ap, mCut_ap, mMaxLen_ap, mSrtSet_ap, mSrtKey_ap, mKeys_ap, mDGet_ap, dicOf_ap, putMD_ap, sDPutM_ap, mLock_ap, mCallI_ap, mCallO_ap, mCallF_ap, runB_ap, runO_ap, agD, agG, agI, slD, Sl.isBr, seqD, fLe_ap, fLt_ap, fGt_ap, fGe_ap, fSub_ap, fAdd_ap, fNeg_ap, fLen_t, fLen_l, fAll_l, fAny_l, fTuple_l, fTuple_t, fList_l, fList_t, fInt_i, fEq_int, fNe_int, fIx_t, fIx_l, fIs_b, fNis_b, fIs_n, fNis_n, isNone_i, isNone_n, fApp_i, fApp_t, fExt_l, nin_N], fun _ => by simp [runP_ap, initP, bnd_ap, ret_ap, lft_ap, nm_ap, frzv_ap, frzo_ap, dat_ap, val_ap, getv_ap, geto_ap, gets2_ap, op2_ap, op1_ap, tbool_ap, mAnd_ap, mOr_ap, mNot_ap, vAnd_ap, vOr_ap, vNot_ap, mIte_ap, aNil_ap, aCons_ap, datA_ap, getA_ap, opA_ap, mTup_ap, mLst_ap, foD_ap, mCall_ap, mChain_ap, mIsi_ap, mSeq_ap, mEnum_ap, mZip_ap, mRng_ap, mLc_ap, pNo_ap, pYes_ap, mListRng_ap, sNx_ap, sNever_ap, sSeq_ap, sRet_ap, sRetO_ap, sDrop_ap, sIf_ap, rvD_ap, rvO_ap, sSet_ap, sTgt_ap, sFor_ap, mMt_ap, chkL_ap, putM_ap, stN_ap, stRv_ap, stRf_ap, tgT_ap, tgC_ap, tg0_ap, sPar_ap, sPar3_ap, sPut_ap, mCut_ap, mMaxLen_ap, mSrtSet_ap, mSrtKey_ap, mKeys_ap, mDGet_ap, dicOf_ap, putMD_ap, sDPutM_ap, mLock_ap, mCallI_ap, mCallO_ap, mCallF_ap, runB_ap, runO_ap, agD, agG, agI, slD, Sl.isBr, seqD, fLe_ap, fLt_ap, fGt_ap, fGe_ap, fSub_ap, fAdd_ap, fNeg_ap, fLen_t, fLen_l, fAll_l, fAny_l, fTuple_l, fTuple_t, fList_l, fList_t, fInt_i, fEq_int, fNe_int, fIx_t, fIx_l, fIs_b, fNis_b, fIs_n, fNis_n, isNone_i, isNone_n, fApp_i, fApp_t, fExt_l]⟩
  have hfr : (List.range cs.length).filter (fun r => !(takenBy cs asg p).contains r) = freeRows cs.length (takenBy cs asg p) := rfl
  rw [hfr] at L2
  have hmin := fMin_asc (free_asc cs.length (takenBy cs asg p)) (free_ne htk)
  have hrow : (freeRows cs.length (takenBy cs asg p)).headD 0 = rowFor cs.length (takenBy cs asg p) := rfl
  rw [hrow] at hmin
  have hput := put_new (r := rowFor cs.length (takenBy cs asg p)) hnew
  have hst : asg ++ [(p, rowFor cs.length (takenBy cs asg p))] = rstep cs asg p := rfl
  rw [hst] at hput
  have hkl : (kvs asg).length < 16777216 := by unfold kvs; rw [List.length_map]; omega
  have hkl2 : (kvs asg).length ≤ 16777216 := by omega
  have hr1 : fRng [.int (cs.length : Int)] = some ⟨(List.range cs.length).map eN, none⟩ := by
    show (if (cs.length : Int) ≤ 16777216 ∧ -16777216 ≤ (cs.length : Int) then some (⟨rngD 0 (cs.length : Int).toNat, none⟩ : Itm) else none) = _
    rw [if_pos (by omega), show ((cs.length : Int)).toNat = cs.length by omega, rng_N]
  have e : keyD (eN p) = some (.inl (p : Int)) := rfl
  generalize takenBy cs asg p = tk at *
  generalize rowFor cs.length tk = rw0 at *
  generalize freeRows cs.length tk = fr at *
  unfold stLR b_lr
  rcases h4 with rfl | ⟨l4, rfl⟩
  · simp [runP_ap, initP, bnd_ap, ret_ap, lft_ap, nm_ap, frzv_ap, frzo_ap, dat_ap, val_ap, getv_ap, geto_ap, gets2_ap, op2_ap, op1_ap, tbool_ap, mAnd_ap, mOr_ap, mNot_ap, vAnd_ap, vOr_ap, vNot_ap, mIte_ap, aNil_ap, aCons_ap, datA_ap, getA_ap, opA_ap, mTup_ap, mLst_ap, foD_ap, mCall_ap, mChain_ap, mIsi_ap, mSeq_ap, mEnum_ap, mZip_ap, mRng_ap, mLc_ap, pNo_ap, pYes_ap, mListRng_ap, sNx_ap, sNever_ap, sSeq_ap, sRet_ap, sRetO_ap, sDrop_ap, sIf_ap, rvD_ap, rvO_ap, sSet_ap, sTgt_ap, sFor_ap, mMt_ap, chkL_ap, putM_ap, stN_ap, stRv_ap, stRf_ap, tgT_ap, tgC_ap, tg0_ap, sPar_ap, sPar3_ap, sPut_ap, mCut_ap, mMaxLen_ap, mSrtSet_ap, mSrtKey_ap, mKeys_ap, mDGet_ap, dicOf_ap, putMD_ap, sDPutM_ap, mLock_ap, mCallI_ap, mCallO_ap, mCallF_ap, runB_ap, runO_ap, agD, agG, agI, slD, Sl.isBr, seqD, fLe_ap, fLt_ap, fGt_ap, fGe_ap, fSub_ap, fAdd_ap, fNeg_ap, fLen_t, fLen_l, fAll_l, fAny_l, fTuple_l, fTuple_t, fList_l, fList_t, fInt_i, fEq_int, fNe_int, fIx_t, fIx_l, fIs_b, fNis_b, fIs_n, fNis_n, isNone_i, isNone_n, fApp_i, fApp_t, fExt_l, keys_is, hkl2, L1, ofO, noLk, hr1, L2, hmin, e, hkl, hput]
  · simp [runP_ap, initP, bnd_ap, ret_ap, lft_ap, nm_ap, frzv_ap, frzo_ap, dat_ap, val_ap, getv_ap, geto_ap, gets2_ap, op2_ap, op1_ap, tbool_ap, mAnd_ap, mOr_ap, mNot_ap, vAnd_ap, vOr_ap, vNot_ap, mIte_ap, aNil_ap, aCons_ap, datA_ap, getA_ap, opA_ap, mTup_ap, mLst_ap, foD_ap, mCall_ap, mChain_ap, mIsi_ap, mSeq_ap, mEnum_ap, mZip_ap, mRng_ap, mLc_ap, pNo_ap, pYes_ap, mListRng_ap, sNx_ap, sNever_ap, sSeq_ap, sRet_ap, sRetO_ap, sDrop_ap, sIf_ap, rvD_ap, rvO_ap, sSet_ap, sTgt_ap, sFor_ap, mMt_ap, chkL_ap, putM_ap, stN_ap, stRv_ap, stRf_ap, tgT_ap, tgC_ap, tg0_ap, sPar_ap, sPar3_ap, sPut_ap, mCut_ap, mMaxLen_ap, mSrtSet_ap, mSrtKey_ap, mKeys_ap, mDGet_ap, dicOf_ap, putMD_ap, sDPutM_ap, mLock_ap, mCallI_ap, mCallO_ap, mCallF_ap, runB_ap, runO_ap, agD, agG, agI, slD, Sl.isBr, seqD, fLe_ap, fLt_ap, fGt_ap, fGe_ap, fSub_ap, fAdd_ap, fNeg_ap, fLen_t, fLen_l, fAll_l, fAny_l, fTuple_l, fTuple_t, fList_l, fList_t, fInt_i, fEq_int, fNe_int, fIx_t, fIx_l, fIs_b, fNis_b, fIs_n, fNis_n, isNone_i, isNone_n, fApp_i, fApp_t, fExt_l, keys_is, hkl2, L1, ofO, noLk, hr1, L2, hmin, e, hkl, hput]
end K15
end
section
namespace K15
local instance : DL.Tbs := ⟨[]⟩
open PySem PySem.Spec PyProof.Rows L2 DL
def asgOf (cs : List Cl) : Asg := (ordZ (fss cs)).foldl (rstep cs) []
def rowOf (cs : List Cl) (p : Nat) : Nat := match (asgOf cs).find? fun a => a.1 == p with
  | some a => a.2
  | none => 0
def rowsT (cs : List Cl) : List Nat := (List.range cs.length).map (rowOf cs)
theorem rstep_keys (cs : List Cl) (asg : Asg) (p : Nat) : (rstep cs asg p).map (·.1) = asg.map (·.1) ++ [p] := by
  unfold rstep
  rw [List.map_append]; rfl
theorem foldl_keys (cs : List Cl) : ∀ (order : List Nat) (asg : Asg), (order.foldl (rstep cs) asg).map (·.1) = asg.map (·.1) ++ order
  | [], asg => by simp
  | p :: order, asg => by
    rw [List.foldl_cons, foldl_keys cs order, rstep_keys, List.append_assoc]; rfl
theorem asg_keys (cs : List Cl) : (asgOf cs).map (·.1) = ordZ (fss cs) := by
  unfold asgOf
  rw [foldl_keys]; rfl
theorem ord_nodup (zs : List Int) : (ordZ zs).Nodup := (ord_perm zs).nodup_iff.mpr List.nodup_range
theorem row_mem {cs : List Cl} {p : Nat} (hp : p < cs.length) : (p, rowOf cs p) ∈ asgOf cs := by
  have hm : p ∈ (asgOf cs).map (·.1) := by
    rw [asg_keys]
    exact (ord_perm _).mem_iff.mpr (List.mem_range.mpr (by rw [fss_len]; exact hp))
  obtain ⟨a, ha, rfl⟩ := List.mem_map.mp hm
  unfold rowOf
  cases hf : (asgOf cs).find? fun b => b.1 == a.1 with
  | none => exact absurd (List.find?_eq_none.mp hf a ha) (by simp)
  | some b =>
    have h1 := List.find?_some hf
    have h2 := List.mem_of_find?_eq_some hf
    have e : b.1 = a.1 := beq_iff_eq.mp h1
    show (a.1, b.2) ∈ _
    rw [← e]; exact h2
theorem look_row {cs : List Cl} {p : Nat} (hp : p < cs.length) : lookK (kvs (asgOf cs)) (.inl (p : Int)) = some (eN (rowOf cs p)) :=
  look_mem (by rw [asg_keys]; exact ord_nodup _) (row_mem hp)
theorem take_snoc {order : List Nat} {k y : Nat} (h : order[k]? = some y) : order.take (k + 1) = order.take k ++ [y] := by
  rw [List.take_add_one, h]; rfl
theorem nodup_take {order : List Nat} (nd : order.Nodup) {k y : Nat} (h : order[k]? = some y) : y ∉ order.take k := fun hm => by
  obtain ⟨j, hj⟩ := List.mem_iff_getElem?.mp hm
  rw [List.getElem?_take] at hj
  split at hj
  · rename_i hlt
    obtain ⟨h1, e1⟩ := List.getElem?_eq_some_iff.mp hj
    obtain ⟨h2, e2⟩ := List.getElem?_eq_some_iff.mp h
    have := (List.pairwise_iff_getElem.mp nd) j k h1 h2 hlt
    rw [e1, e2] at this
    exact this rfl
  · cases hj
theorem law_rows_ofE {cs : List Cl} (hl : cs.length ≤ 8) : f_law_rows_of [.tuple (cs.map enc)] = some (tupN (rowsT cs)) := by
  obtain ⟨ρ', h1, o2, s4, rfl, h3, h4⟩ := for_at (it := ⟨(ordZ (fss cs)).map eN, none⟩) (tgt := stN 2) (b := b_lr) eN
    (fun k (asg : Asg) (ρ : Ro) => ∃ o2 s4, ρ = stLR cs asg o2 s4 ∧ asg.map (·.1) = (ordZ (fss cs)).take k ∧ (s4 = .no ∨ ∃ l : List Nat, s4 = .ol (l.map eN))) (rstep cs) (ordZ (fss cs)) 0 [] [.d (.tuple (cs.map enc)), .od [], .no, .no, .no, .no] ⟨none, .no, rfl, rfl, .inl rfl⟩ (by
      rintro i y hy asg ρ ⟨o2, s4, rfl, hk, h4⟩
      obtain ⟨hy1, hi⟩ := ord_at hy
      rw [fss_len] at hy1 hi
      rw [Nat.zero_add] at hk
      have hlen : asg.length = i := by
        have := congrArg List.length hk
        rw [List.length_map, List.length_take, (ord_perm _).length_eq, List.length_range, fss_len] at this
        omega
      refine ⟨stLR cs asg (some (eN y)) s4, stLR cs (rstep cs asg y) (some (eN y)) (.ol ((takenBy cs asg y).map eN)), ?_, b_lr_is hy1 (fun a ha => ?_) ?_ ?_ (by omega) hl h4, _, _, rfl, ?_, .inr ⟨_, rfl⟩⟩
      · cases o2 <;> rfl
      · have : a.1 ∈ (ordZ (fss cs)).take i := hk ▸ List.mem_map_of_mem ha
        have := ord_mem (List.mem_of_mem_take this)
        rwa [fss_len] at this
      · rw [hk]; exact (ord_nodup _).sublist (List.take_sublist _ _)
      · rw [hk]; exact nodup_take (ord_nodup _) hy
      · rw [rstep_keys, hk, Nat.zero_add, take_snoc hy])
  have e : (ordZ (fss cs)).foldl (rstep cs) [] = asgOf cs := rfl
  rw [e] at h1
  have hk : (ordZ (fss cs)).map (fun (i : Nat) => PyData.int (i : Int)) = (ordZ (fss cs)).map eN := rfl
  have l1 : cs.length ≤ 1000 := by omega
  have hr1 : fRng [.int (cs.length : Int)] = some ⟨(List.range cs.length).map eN, none⟩ := by
    show (if (cs.length : Int) ≤ 16777216 ∧ -16777216 ≤ (cs.length : Int) then some (⟨rngD 0 (cs.length : Int).toNat, none⟩ : Itm) else none) = _
    rw [if_pos (by omega), show ((cs.length : Int)).toNat = cs.length by omega, rng_N]
  have L := lc_map (it := ⟨(List.range cs.length).map eN, none⟩) (vs := [2]) (tgt := stN 2) (me := opA fInt (aCons (val (mDGet (nm 1) (dat (nm 2)))) aNil)) (ρ := stLR cs (asgOf cs) o2 s4) (ρw := stLR cs (asgOf cs) none s4)
    eN (fun p => eN (rowOf cs p)) (ok_none rfl _) (by cases o2 <;> rfl) (List.range cs.length) fun p hp => ⟨stLR cs (asgOf cs) (some (eN p)) s4, rfl, (by cases o2 <;> rfl), by
      have := look_row (List.mem_range.mp hp)
      have e : keyD (eN p) = some (.inl (p : Int)) := rfl
      unfold stLR ofO
      simp [runP_ap, initP, bnd_ap, ret_ap, lft_ap, nm_ap, frzv_ap, frzo_ap, dat_ap, val_ap, getv_ap, geto_ap, gets2_ap, op2_ap, op1_ap, tbool_ap, mAnd_ap, mOr_ap, mNot_ap, vAnd_ap, vOr_ap, vNot_ap, mIte_ap, aNil_ap, aCons_ap, datA_ap, getA_ap, opA_ap, mTup_ap, mLst_ap, foD_ap, mCall_ap, mChain_ap, mIsi_ap, mSeq_ap, mEnum_ap, mZip_ap, mRng_ap, mLc_ap, pNo_ap, pYes_ap, mListRng_ap, sNx_ap, sNever_ap, sSeq_ap, sRet_ap, sRetO_ap, sDrop_ap, sIf_ap, rvD_ap, rvO_ap, sSet_ap, sTgt_ap, sFor_ap, mMt_ap, chkL_ap, putM_ap, stN_ap, stRv_ap, stRf_ap, tgT_ap, tgC_ap, tg0_ap, sPar_ap, sPar3_ap, sPut_ap, mCut_ap, mMaxLen_ap, mSrtSet_ap, mSrtKey_ap, mKeys_ap, mDGet_ap, dicOf_ap, putMD_ap, sDPutM_ap, mLock_ap, mCallI_ap, mCallO_ap, mCallF_ap, runB_ap, runO_ap, agD, agG, agI, slD, Sl.isBr, seqD, fLe_ap, fLt_ap, fGt_ap, fGe_ap, fSub_ap, fAdd_ap, fNeg_ap, fLen_t, fLen_l, fAll_l, fAny_l, fTuple_l, fTuple_t, fList_l, fList_t, fInt_i, fEq_int, fNe_int, fIx_t, fIx_l, fIs_b, fNis_b, fIs_n, fNis_n, isNone_i, isNone_n, fApp_i, fApp_t, fExt_l, e, this, fInt_N]⟩
  have hT : (List.range cs.length).map (fun p => eN (rowOf cs p)) = (rowsT cs).map eN := by unfold rowsT; rw [List.map_map]; rfl
  rw [hT] at L
  unfold f_law_rows_of
  rw [m_lr_is]
  simp [runP_ap, initP, bnd_ap, ret_ap, lft_ap, nm_ap, frzv_ap, frzo_ap, dat_ap, val_ap, getv_ap, geto_ap, gets2_ap, op2_ap, op1_ap, tbool_ap, mAnd_ap, mOr_ap, mNot_ap, vAnd_ap, vOr_ap, vNot_ap, mIte_ap, aNil_ap, aCons_ap, datA_ap, getA_ap, opA_ap, mTup_ap, mLst_ap, foD_ap, mCall_ap, mChain_ap, mIsi_ap, mSeq_ap, mEnum_ap, mZip_ap, mRng_ap, mLc_ap, pNo_ap, pYes_ap, mListRng_ap, sNx_ap, sNever_ap, sSeq_ap, sRet_ap, sRetO_ap, sDrop_ap, sIf_ap, rvD_ap, rvO_ap, sSet_ap, sTgt_ap, sFor_ap, mMt_ap, chkL_ap, putM_ap, stN_ap, stRv_ap, stRf_ap, tgT_ap, tgC_ap, tg0_ap, sPar_ap, sPar3_ap, sPut_ap, mCut_ap, mMaxLen_ap, mSrtSet_ap, mSrtKey_ap, mKeys_ap, mDGet_ap, dicOf_ap, putMD_ap, sDPutM_ap, mLock_ap, mCallI_ap, mCallO_ap, mCallF_ap, runB_ap, runO_ap, agD, agG, agI, slD, Sl.isBr, seqD, fLe_ap, fLt_ap, fGt_ap, fGe_ap, fSub_ap, fAdd_ap, fNeg_ap, fLen_t, fLen_l, fAll_l, fAny_l, fTuple_l, fTuple_t, fList_l, fList_t, fInt_i, fEq_int, fNe_int, fIx_t, fIx_l, fIs_b, fNis_b, fIs_n, fNis_n, isNone_i, isNone_n, fApp_i, fApp_t, fExt_l, keys_first, fss_len, l1, hk, h1]
  unfold stLR at L ⊢
  simp [runP_ap, initP, bnd_ap, ret_ap, lft_ap, nm_ap, frzv_ap, frzo_ap, dat_ap, val_ap, getv_ap, geto_ap, gets2_ap, op2_ap, op1_ap, tbool_ap, mAnd_ap, mOr_ap, mNot_ap, vAnd_ap, vOr_ap, vNot_ap, mIte_ap, aNil_ap, aCons_ap, datA_ap, getA_ap, opA_ap, mTup_ap, mLst_ap, foD_ap, mCall_ap, mChain_ap, mIsi_ap, mSeq_ap, mEnum_ap, mZip_ap, mRng_ap, mLc_ap, pNo_ap, pYes_ap, mListRng_ap, sNx_ap, sNever_ap, sSeq_ap, sRet_ap, sRetO_ap, sDrop_ap, sIf_ap, rvD_ap, rvO_ap, sSet_ap, sTgt_ap, sFor_ap, mMt_ap, chkL_ap, putM_ap, stN_ap, stRv_ap, stRf_ap, tgT_ap, tgC_ap, tg0_ap, sPar_ap, sPar3_ap, sPut_ap, mCut_ap, mMaxLen_ap, mSrtSet_ap, mSrtKey_ap, mKeys_ap, mDGet_ap, dicOf_ap, putMD_ap, sDPutM_ap, mLock_ap, mCallI_ap, mCallO_ap, mCallF_ap, runB_ap, runO_ap, agD, agG, agI, slD, Sl.isBr, seqD, fLe_ap, fLt_ap, fGt_ap, fGe_ap, fSub_ap, fAdd_ap, fNeg_ap, fLen_t, fLen_l, fAll_l, fAny_l, fTuple_l, fTuple_t, fList_l, fList_t, fInt_i, fEq_int, fNe_int, fIx_t, fIx_l, fIs_b, fNis_b, fIs_n, fNis_n, isNone_i, isNone_n, fApp_i, fApp_t, fExt_l, hr1, L, fTuple_N]
  rfl

noncomputable def b_r : S := (sSeq (sSet 6 (rvO (mLock 1 (mLc (mKeys (nm 1)) [5] (stN 5) (tbool (mCall 2 f_meet (aCons (val (op2 fIx (nm 0) (nm 3))) (aCons (val (op2 fIx (nm 0) (nm 5))) aNil)))) (mDGet (nm 1) (dat (nm 5)))))))
    (sDPutM (opA fMin (aCons (val (foD (mLc (mRng (aCons (val (opA fLen (aCons (nm 0) aNil))) aNil)) [7] (stN 7) (tbool (op2 fNin (nm 7) (nm 6))) (dat (nm 7))))) aNil)) (nm 1) (dat (nm 3))))
noncomputable def i_r : DL.M Sl := (mLc (mEnum (aCons (val (dat (nm 0))) aNil)) [3, 4] (tgT (tgC (stN 3) (tgC (stN 4) tg0))) (DL.ret true) (mTup (aCons (val (op2 fIx (nm 4) (val (DL.ret (.int 1))))) (aCons (val (dat (nm 3))) aNil))))
theorem m_r_is : m_rows_of = sSeq (sSet 1 (rvO (DL.ret (.od []))))
    (sSeq (sFor (mSeq (val (foD (opA fSorted (aCons (val (foD i_r)) aNil))))) (tgT (tgC (stN 2) (tgC (stN 3) tg0))) b_r)
    (sRet (opA fTuple (aCons (val (foD (mLc (mRng (aCons (val (opA fLen (aCons (nm 0) aNil))) aNil)) [3] (stN 3) (DL.ret true) (mDGet (nm 1) (dat (nm 3)))))) aNil)))) := rfl
theorem i_r_is (cs : List Cl) : i_r [.d (.tuple (cs.map enc)), .od [], .no, .no, .no, .no, .no, .no] = some (.ol ((List.range cs.length).map (pk (fss cs))), [.d (.tuple (cs.map enc)), .od [], .no, .no, .no, .no, .no, .no]) := by
  have L1 := lc_map (it := ⟨(List.range cs.length).map (enI cs), none⟩) (vs := [3, 4]) (tgt := tgT (tgC (stN 3) (tgC (stN 4) tg0))) (me := mTup (aCons (val (op2 fIx (nm 4) (val (DL.ret (.int 1))))) (aCons (val (dat (nm 3))) aNil))) (ρ := [.d (.tuple (cs.map enc)), .od [], .no, .no, .no, .no, .no, .no])
    (enI cs) (pk (fss cs)) (ok_none rfl _) rfl (List.range cs.length) fun i _ =>
    ⟨[.d (.tuple (cs.map enc)), .od [], .no, .d (.int (i : Int)), .d (enc (cl cs i)), .no, .no, .no], rfl, rfl, by rw [pk_eq, fss_get]; simp [runP_ap, initP, bnd_ap, ret_ap, lft_ap, nm_ap, frzv_ap, frzo_ap, dat_ap, val_ap, getv_ap, geto_ap, gets2_ap, op2_ap, op1_ap, tbool_ap, mAnd_ap, mOr_ap, mNot_ap, vAnd_ap, vOr_ap, vNot_ap, mIte_ap, aNil_ap, aCons_ap, datA_ap, getA_ap, opA_ap, mTup_ap, mLst_ap, foD_ap, mCall_ap, mChain_ap, mIsi_ap, mSeq_ap, mEnum_ap, mZip_ap, mRng_ap, mLc_ap, pNo_ap, pYes_ap, mListRng_ap, sNx_ap, sNever_ap, sSeq_ap, sRet_ap, sRetO_ap, sDrop_ap, sIf_ap, rvD_ap, rvO_ap, sSet_ap, sTgt_ap, sFor_ap, mMt_ap, chkL_ap, putM_ap, stN_ap, stRv_ap, stRf_ap, tgT_ap, tgC_ap, tg0_ap, sPar_ap, sPar3_ap, sPut_ap, mCut_ap, mMaxLen_ap, mSrtSet_ap, mSrtKey_ap, mKeys_ap, mDGet_ap, dicOf_ap, putMD_ap, sDPutM_ap, mLock_ap, mCallI_ap, mCallO_ap, mCallF_ap, runB_ap, runO_ap, agD, agG, agI, slD, Sl.isBr, seqD, fLe_ap, fLt_ap, fGt_ap, fGe_ap, fSub_ap, fAdd_ap, fNeg_ap, fLen_t, fLen_l, fAll_l, fAny_l, fTuple_l, fTuple_t, fList_l, fList_t, fInt_i, fEq_int, fNe_int, fIx_t, fIx_l, fIs_b, fNis_b, fIs_n, fNis_n, isNone_i, isNone_n, fApp_i, fApp_t, fExt_l, ixE1]⟩
  unfold i_r
  simp [runP_ap, initP, bnd_ap, ret_ap, lft_ap, nm_ap, frzv_ap, frzo_ap, dat_ap, val_ap, getv_ap, geto_ap, gets2_ap, op2_ap, op1_ap, tbool_ap, mAnd_ap, mOr_ap, mNot_ap, vAnd_ap, vOr_ap, vNot_ap, mIte_ap, aNil_ap, aCons_ap, datA_ap, getA_ap, opA_ap, mTup_ap, mLst_ap, foD_ap, mCall_ap, mChain_ap, mIsi_ap, mSeq_ap, mEnum_ap, mZip_ap, mRng_ap, mLc_ap, pNo_ap, pYes_ap, mListRng_ap, sNx_ap, sNever_ap, sSeq_ap, sRet_ap, sRetO_ap, sDrop_ap, sIf_ap, rvD_ap, rvO_ap, sSet_ap, sTgt_ap, sFor_ap, mMt_ap, chkL_ap, putM_ap, stN_ap, stRv_ap, stRf_ap, tgT_ap, tgC_ap, tg0_ap, sPar_ap, sPar3_ap, sPut_ap, mCut_ap, mMaxLen_ap, mSrtSet_ap, mSrtKey_ap, mKeys_ap, mDGet_ap, dicOf_ap, putMD_ap, sDPutM_ap, mLock_ap, mCallI_ap, mCallO_ap, mCallF_ap, runB_ap, runO_ap, agD, agG, agI, slD, Sl.isBr, seqD, fLe_ap, fLt_ap, fGt_ap, fGe_ap, fSub_ap, fAdd_ap, fNeg_ap, fLen_t, fLen_l, fAll_l, fAny_l, fTuple_l, fTuple_t, fList_l, fList_t, fInt_i, fEq_int, fNe_int, fIx_t, fIx_l, fIs_b, fNis_b, fIs_n, fNis_n, isNone_i, isNone_n, fApp_i, fApp_t, fExt_l, enum_is, L1]
def stRR (cs : List Cl) (asg : Asg) (o2 o3 : Option PyData) (s6 : Sl) : Ro := [.d (.tuple (cs.map enc)), .od (kvs asg), ofO o2, ofO o3, .no, .no, s6, .no]
theorem b_r_is {cs : List Cl} {asg : Asg} {p : Nat} {d2 : PyData} {s4 : Sl} (hp : p < cs.length) (hk : ∀ a ∈ asg, a.1 < cs.length) (nd : (asg.map (·.1)).Nodup) (hnew : p ∉ asg.map (·.1)) (hl : asg.length < cs.length) (hn : cs.length ≤ 8) (h4 : s4 = .no ∨ ∃ l : List Nat, s4 = .ol (l.map eN)) :
    b_r (stRR cs asg (some d2) (some (eN p)) s4) = some (.nx, stRR cs (rstep cs asg p) (some d2) (some (eN p)) (.ol ((takenBy cs asg p).map eN))) := by
  have L1 := lc_filt (it := ⟨asg.map fun a => eN a.1, none⟩) (vs := [5]) (tgt := stN 5) (mc := tbool (mCall 2 f_meet (aCons (val (op2 fIx (nm 0) (nm 3))) (aCons (val (op2 fIx (nm 0) (nm 5))) aNil)))) (me := mDGet (nm 1) (dat (nm 5))) (ρ := [.d (.tuple (cs.map enc)), .lk (kvs asg), .d d2, .d (eN p), .no, .no, s4, .no])
    (fun a => eN a.1) (fun a => eN a.2) (fun a => MM cs p a.1) (ok_none rfl _) rfl asg fun a ha => ⟨[.d (.tuple (cs.map enc)), .lk (kvs asg), .d d2, .d (eN p), .no, .d (eN a.1), s4, .no], rfl, rfl, by simp [runP_ap, initP, bnd_ap, ret_ap, lft_ap, nm_ap, frzv_ap, frzo_ap, dat_ap, val_ap, getv_ap, geto_ap, gets2_ap, op2_ap, op1_ap, tbool_ap, mAnd_ap, mOr_ap, mNot_ap, vAnd_ap, vOr_ap, vNot_ap, mIte_ap, aNil_ap, aCons_ap, datA_ap, getA_ap, opA_ap, mTup_ap, mLst_ap, foD_ap, mCall_ap, mChain_ap, mIsi_ap, mSeq_ap, mEnum_ap, mZip_ap, mRng_ap, mLc_ap, pNo_ap, pYes_ap, mListRng_ap, sNx_ap, sNever_ap, sSeq_ap, sRet_ap, sRetO_ap, sDrop_ap, sIf_ap, rvD_ap, rvO_ap, sSet_ap, sTgt_ap, sFor_ap, mMt_ap, chkL_ap, putM_ap, stN_ap, stRv_ap, stRf_ap, tgT_ap, tgC_ap, tg0_ap, sPar_ap, sPar3_ap, sPut_ap, mCut_ap, mMaxLen_ap, mSrtSet_ap, mSrtKey_ap, mKeys_ap, mDGet_ap, dicOf_ap, putMD_ap, sDPutM_ap, mLock_ap, mCallI_ap, mCallO_ap, mCallF_ap, runB_ap, runO_ap, agD, agG, agI, slD, Sl.isBr, seqD, fLe_ap, fLt_ap, fGt_ap, fGe_ap, fSub_ap, fAdd_ap, fNeg_ap, fLen_t, fLen_l, fAll_l, fAny_l, fTuple_l, fTuple_t, fList_l, fList_t, fInt_i, fEq_int, fNe_int, fIx_t, fIx_l, fIs_b, fNis_b, fIs_n, fNis_n, isNone_i, isNone_n, fApp_i, fApp_t, fExt_l, fIx_tN, at_enc hp, at_enc (hk a ha), meetE, MM], fun _ => by
      have := look_mem nd ha
      have e : keyD (eN a.1) = some (.inl (a.1 : Int)) := rfl
      simp [runP_ap, initP, bnd_ap, ret_ap, lft_ap, nm_ap, frzv_ap, frzo_ap, dat_ap, val_ap, getv_ap, geto_ap, gets2_ap, op2_ap, op1_ap, tbool_ap, mAnd_ap, mOr_ap, mNot_ap, vAnd_ap, vOr_ap, vNot_ap, mIte_ap, aNil_ap, aCons_ap, datA_ap, getA_ap, opA_ap, mTup_ap, mLst_ap, foD_ap, mCall_ap, mChain_ap, mIsi_ap, mSeq_ap, mEnum_ap, mZip_ap, mRng_ap, mLc_ap, pNo_ap, pYes_ap, mListRng_ap, sNx_ap, sNever_ap, sSeq_ap, sRet_ap, sRetO_ap, sDrop_ap, sIf_ap, rvD_ap, rvO_ap, sSet_ap, sTgt_ap, sFor_ap, mMt_ap, chkL_ap, putM_ap, stN_ap, stRv_ap, stRf_ap, tgT_ap, tgC_ap, tg0_ap, sPar_ap, sPar3_ap, sPut_ap, mCut_ap, mMaxLen_ap, mSrtSet_ap, mSrtKey_ap, mKeys_ap, mDGet_ap, dicOf_ap, putMD_ap, sDPutM_ap, mLock_ap, mCallI_ap, mCallO_ap, mCallF_ap, runB_ap, runO_ap, agD, agG, agI, slD, Sl.isBr, seqD, fLe_ap, fLt_ap, fGt_ap, fGe_ap, fSub_ap, fAdd_ap, fNeg_ap, fLen_t, fLen_l, fAll_l, fAny_l, fTuple_l, fTuple_t, fList_l, fList_t, fInt_i, fEq_int, fNe_int, fIx_t, fIx_l, fIs_b, fNis_b, fIs_n, fNis_n, isNone_i, isNone_n, fApp_i, fApp_t, fExt_l, e, this]⟩
  rw [taken_dn] at L1
  have htk : (takenBy cs asg p).length < cs.length := by
    unfold takenBy
    rw [List.length_map]
    exact Nat.lt_of_le_of_lt (List.length_filter_le _ _) hl
  have L2 := lc_filt (it := ⟨(List.range cs.length).map eN, none⟩) (vs := [7]) (tgt := stN 7) (mc := tbool (op2 fNin (nm 7) (nm 6))) (me := dat (nm 7)) (ρ := [.d (.tuple (cs.map enc)), .od (kvs asg), .d d2, .d (eN p), .no, .no, .ol ((takenBy cs asg p).map eN), .no])
    eN eN (fun r => !(takenBy cs asg p).contains r) (ok_none rfl _) rfl (List.range cs.length) fun r _ => ⟨[.d (.tuple (cs.map enc)), .od (kvs asg), .d d2, .d (eN p), .no, .no, .ol ((takenBy cs asg p).map eN), .d (eN r)], rfl, rfl, by simp [runP_ap, initP, bnd_ap, ret_ap, lft_ap, nm_ap, frzv_ap, frzo_ap, dat_ap, val_ap, getv_ap, geto_ap, gets2_ap, op2_ap, op1_ap, tbool_ap, mAnd_ap, mOr_ap, mNot_ap, vAnd_ap, vOr_ap, vNot_ap, mIte_ap, aNil_ap, aCons_ap, datA_ap, getA_ap, opA_ap, mTup_ap, mLst_ap, foD_ap, mCall_ap, mChain_ap, mIsi_ap, mSeq_ap, mEnum_ap, mZip_ap, mRng_ap, mLc_ap, pNo_ap, pYes_ap, mListRng_ap, sNx_ap, sNever_ap, sSeq_ap, sRet_ap, sRetO_ap, sDrop_ap, sIf_ap, rvD_ap, rvO_ap, sSet_ap, sTgt_ap, sFor_ap, mMt_ap, chkL_ap, putM_ap, stN_ap, stRv_ap, stRf_ap, tgT_ap, tgC_ap, tg0_ap, sPar_ap, sPar3_ap, sPut_ap, mCut_ap, mMaxLen_ap, mSrtSet_ap, mSrtKey_ap, mKeys_ap, mDGet_ap, dicOf_ap, putMD_ap, sDPutM_ap, mLock_ap, mCallI_ap, mCallO_ap, mCallF_ap, runB_ap, runO_ap, agD, agG, agI, slD, Sl.isBr, seqD, fLe_ap, fLt_ap, fGt_ap, fGe_ap, fSub_ap, fAdd_ap, fNeg_ap, fLen_t, fLen_l, fAll_l, fAny_l, fTuple_l, fTuple_t, fList_l, fList_t, fInt_i, fEq_int, fNe_int, fIx_t, fIx_l, fIs_b, fNis_b, fIs_n, fNis_n, isNone_i, isNone_n, fApp_i, fApp_t, fExt_l, nin_N], fun _ => by simp [runP_ap, initP, bnd_ap, ret_ap, lft_ap, nm_ap, frzv_ap, frzo_ap, dat_ap, val_ap, getv_ap, geto_ap, gets2_ap, op2_ap, op1_ap, tbool_ap, mAnd_ap, mOr_ap, mNot_ap, vAnd_ap, vOr_ap, vNot_ap, mIte_ap, aNil_ap, aCons_ap, datA_ap, getA_ap, opA_ap, mTup_ap, mLst_ap, foD_ap, mCall_ap, mChain_ap, mIsi_ap, mSeq_ap, mEnum_ap, mZip_ap, mRng_ap, mLc_ap, pNo_ap, pYes_ap, mListRng_ap, sNx_ap, sNever_ap, sSeq_ap, sRet_ap, sRetO_ap, sDrop_ap, sIf_ap, rvD_ap, rvO_ap, sSet_ap, sTgt_ap, sFor_ap, mMt_ap, chkL_ap, putM_ap, stN_ap, stRv_ap, stRf_ap, tgT_ap, tgC_ap, tg0_ap, sPar_ap, sPar3_ap, sPut_ap, mCut_ap, mMaxLen_ap, mSrtSet_ap, mSrtKey_ap, mKeys_ap, mDGet_ap, dicOf_ap, putMD_ap, sDPutM_ap, mLock_ap, mCallI_ap, mCallO_ap, mCallF_ap, runB_ap, runO_ap, agD, agG, agI, slD, Sl.isBr, seqD, fLe_ap, fLt_ap, fGt_ap, fGe_ap, fSub_ap, fAdd_ap, fNeg_ap, fLen_t, fLen_l, fAll_l, fAny_l, fTuple_l, fTuple_t, fList_l, fList_t, fInt_i, fEq_int, fNe_int, fIx_t, fIx_l, fIs_b, fNis_b, fIs_n, fNis_n, isNone_i, isNone_n, fApp_i, fApp_t, fExt_l]⟩
  have hfr : (List.range cs.length).filter (fun r => !(takenBy cs asg p).contains r) = freeRows cs.length (takenBy cs asg p) := rfl
  rw [hfr] at L2
  have hmin := fMin_asc (free_asc cs.length (takenBy cs asg p)) (free_ne htk)
  have hrow : (freeRows cs.length (takenBy cs asg p)).headD 0 = rowFor cs.length (takenBy cs asg p) := rfl
  rw [hrow] at hmin
  have hput := put_new (r := rowFor cs.length (takenBy cs asg p)) hnew
  have hst : asg ++ [(p, rowFor cs.length (takenBy cs asg p))] = rstep cs asg p := rfl
  rw [hst] at hput
  have hkl : (kvs asg).length < 16777216 := by unfold kvs; rw [List.length_map]; omega
  have hkl2 : (kvs asg).length ≤ 16777216 := by omega
  have hr1 : fRng [.int (cs.length : Int)] = some ⟨(List.range cs.length).map eN, none⟩ := by
    show (if (cs.length : Int) ≤ 16777216 ∧ -16777216 ≤ (cs.length : Int) then some (⟨rngD 0 (cs.length : Int).toNat, none⟩ : Itm) else none) = _
    rw [if_pos (by omega), show ((cs.length : Int)).toNat = cs.length by omega, rng_N]
  have e : keyD (eN p) = some (.inl (p : Int)) := rfl
  generalize takenBy cs asg p = tk at *
  generalize rowFor cs.length tk = rw0 at *
  generalize freeRows cs.length tk = fr at *
  unfold stRR b_r
  rcases h4 with rfl | ⟨l4, rfl⟩
  · simp [runP_ap, initP, bnd_ap, ret_ap, lft_ap, nm_ap, frzv_ap, frzo_ap, dat_ap, val_ap, getv_ap, geto_ap, gets2_ap, op2_ap, op1_ap, tbool_ap, mAnd_ap, mOr_ap, mNot_ap, vAnd_ap, vOr_ap, vNot_ap, mIte_ap, aNil_ap, aCons_ap, datA_ap, getA_ap, opA_ap, mTup_ap, mLst_ap, foD_ap, mCall_ap, mChain_ap, mIsi_ap, mSeq_ap, mEnum_ap, mZip_ap, mRng_ap, mLc_ap, pNo_ap, pYes_ap, mListRng_ap, sNx_ap, sNever_ap, sSeq_ap, sRet_ap, sRetO_ap, sDrop_ap, sIf_ap, rvD_ap, rvO_ap, sSet_ap, sTgt_ap, sFor_ap, mMt_ap, chkL_ap, putM_ap, stN_ap, stRv_ap, stRf_ap, tgT_ap, tgC_ap, tg0_ap, sPar_ap, sPar3_ap, sPut_ap, mCut_ap, mMaxLen_ap, mSrtSet_ap, mSrtKey_ap, mKeys_ap, mDGet_ap, dicOf_ap, putMD_ap, sDPutM_ap, mLock_ap, mCallI_ap, mCallO_ap, mCallF_ap, runB_ap, runO_ap, agD, agG, agI, slD, Sl.isBr, seqD, fLe_ap, fLt_ap, fGt_ap, fGe_ap, fSub_ap, fAdd_ap, fNeg_ap, fLen_t, fLen_l, fAll_l, fAny_l, fTuple_l, fTuple_t, fList_l, fList_t, fInt_i, fEq_int, fNe_int, fIx_t, fIx_l, fIs_b, fNis_b, fIs_n, fNis_n, isNone_i, isNone_n, fApp_i, fApp_t, fExt_l, keys_is, hkl2, L1, ofO, noLk, hr1, L2, hmin, e, hkl, hput]
  · simp [runP_ap, initP, bnd_ap, ret_ap, lft_ap, nm_ap, frzv_ap, frzo_ap, dat_ap, val_ap, getv_ap, geto_ap, gets2_ap, op2_ap, op1_ap, tbool_ap, mAnd_ap, mOr_ap, mNot_ap, vAnd_ap, vOr_ap, vNot_ap, mIte_ap, aNil_ap, aCons_ap, datA_ap, getA_ap, opA_ap, mTup_ap, mLst_ap, foD_ap, mCall_ap, mChain_ap, mIsi_ap, mSeq_ap, mEnum_ap, mZip_ap, mRng_ap, mLc_ap, pNo_ap, pYes_ap, mListRng_ap, sNx_ap, sNever_ap, sSeq_ap, sRet_ap, sRetO_ap, sDrop_ap, sIf_ap, rvD_ap, rvO_ap, sSet_ap, sTgt_ap, sFor_ap, mMt_ap, chkL_ap, putM_ap, stN_ap, stRv_ap, stRf_ap, tgT_ap, tgC_ap, tg0_ap, sPar_ap, sPar3_ap, sPut_ap, mCut_ap, mMaxLen_ap, mSrtSet_ap, mSrtKey_ap, mKeys_ap, mDGet_ap, dicOf_ap, putMD_ap, sDPutM_ap, mLock_ap, mCallI_ap, mCallO_ap, mCallF_ap, runB_ap, runO_ap, agD, agG, agI, slD, Sl.isBr, seqD, fLe_ap, fLt_ap, fGt_ap, fGe_ap, fSub_ap, fAdd_ap, fNeg_ap, fLen_t, fLen_l, fAll_l, fAny_l, fTuple_l, fTuple_t, fList_l, fList_t, fInt_i, fEq_int, fNe_int, fIx_t, fIx_l, fIs_b, fNis_b, fIs_n, fNis_n, isNone_i, isNone_n, fApp_i, fApp_t, fExt_l, keys_is, hkl2, L1, ofO, noLk, hr1, L2, hmin, e, hkl, hput]
theorem rows_ofE {cs : List Cl} (hl : cs.length ≤ 8) : f_rows_of [.tuple (cs.map enc)] = some (tupN (rowsT cs)) := by
  have SP := sort_pk (fss cs)
  rw [fss_len] at SP
  obtain ⟨ρ', h1, o2, o3, s4, rfl, h3, h4⟩ := for_at (it := ⟨(ordZ (fss cs)).map (pk (fss cs)), none⟩) (tgt := tgT (tgC (stN 2) (tgC (stN 3) tg0))) (b := b_r) (pk (fss cs))
    (fun k (asg : Asg) (ρ : Ro) => ∃ o2 o3 s4, ρ = stRR cs asg o2 o3 s4 ∧ asg.map (·.1) = (ordZ (fss cs)).take k ∧ (s4 = .no ∨ ∃ l : List Nat, s4 = .ol (l.map eN))) (rstep cs) (ordZ (fss cs)) 0 [] [.d (.tuple (cs.map enc)), .od [], .no, .no, .no, .no, .no, .no] ⟨none, none, .no, rfl, rfl, .inl rfl⟩ (by
      rintro i y hy asg ρ ⟨o2, o3, s4, rfl, hk, h4⟩
      obtain ⟨hy1, hi⟩ := ord_at hy
      rw [fss_len] at hy1 hi
      rw [Nat.zero_add] at hk
      have hlen : asg.length = i := by
        have := congrArg List.length hk
        rw [List.length_map, List.length_take, (ord_perm _).length_eq, List.length_range, fss_len] at this
        omega
      refine ⟨stRR cs asg (some (.int ((fss cs).getD y 0))) (some (eN y)) s4, stRR cs (rstep cs asg y) (some (.int ((fss cs).getD y 0))) (some (eN y)) (.ol ((takenBy cs asg y).map eN)), ?_, b_r_is hy1 (fun a ha => ?_) ?_ ?_ (by omega) hl h4, _, _, _, rfl, ?_, .inr ⟨_, rfl⟩⟩
      · rw [pk_eq]
        cases o2 <;> cases o3 <;> rfl
      · have : a.1 ∈ (ordZ (fss cs)).take i := hk ▸ List.mem_map_of_mem ha
        have := ord_mem (List.mem_of_mem_take this)
        rwa [fss_len] at this
      · rw [hk]; exact (ord_nodup _).sublist (List.take_sublist _ _)
      · rw [hk]; exact nodup_take (ord_nodup _) hy
      · rw [rstep_keys, hk, Nat.zero_add, take_snoc hy])
  have e : (ordZ (fss cs)).foldl (rstep cs) [] = asgOf cs := rfl
  rw [e] at h1
  have hr1 : fRng [.int (cs.length : Int)] = some ⟨(List.range cs.length).map eN, none⟩ := by
    show (if (cs.length : Int) ≤ 16777216 ∧ -16777216 ≤ (cs.length : Int) then some (⟨rngD 0 (cs.length : Int).toNat, none⟩ : Itm) else none) = _
    rw [if_pos (by omega), show ((cs.length : Int)).toNat = cs.length by omega, rng_N]
  have L := lc_map (it := ⟨(List.range cs.length).map eN, none⟩) (vs := [3]) (tgt := stN 3) (me := mDGet (nm 1) (dat (nm 3))) (ρ := stRR cs (asgOf cs) o2 o3 s4) (ρw := stRR cs (asgOf cs) o2 none s4)
    eN (fun p => eN (rowOf cs p)) (ok_none rfl _) (by cases o3 <;> rfl) (List.range cs.length) fun p hp => ⟨stRR cs (asgOf cs) o2 (some (eN p)) s4, rfl, (by cases o3 <;> rfl), by
      have := look_row (List.mem_range.mp hp)
      have e : keyD (eN p) = some (.inl (p : Int)) := rfl
      unfold stRR ofO
      simp [runP_ap, initP, bnd_ap, ret_ap, lft_ap, nm_ap, frzv_ap, frzo_ap, dat_ap, val_ap, getv_ap, geto_ap, gets2_ap, op2_ap, op1_ap, tbool_ap, mAnd_ap, mOr_ap, mNot_ap, vAnd_ap, vOr_ap, vNot_ap, mIte_ap, aNil_ap, aCons_ap, datA_ap, getA_ap, opA_ap, mTup_ap, mLst_ap, foD_ap, mCall_ap, mChain_ap, mIsi_ap, mSeq_ap, mEnum_ap, mZip_ap, mRng_ap, mLc_ap, pNo_ap, pYes_ap, mListRng_ap, sNx_ap, sNever_ap, sSeq_ap, sRet_ap, sRetO_ap, sDrop_ap, sIf_ap, rvD_ap, rvO_ap, sSet_ap, sTgt_ap, sFor_ap, mMt_ap, chkL_ap, putM_ap, stN_ap, stRv_ap, stRf_ap, tgT_ap, tgC_ap, tg0_ap, sPar_ap, sPar3_ap, sPut_ap, mCut_ap, mMaxLen_ap, mSrtSet_ap, mSrtKey_ap, mKeys_ap, mDGet_ap, dicOf_ap, putMD_ap, sDPutM_ap, mLock_ap, mCallI_ap, mCallO_ap, mCallF_ap, runB_ap, runO_ap, agD, agG, agI, slD, Sl.isBr, seqD, fLe_ap, fLt_ap, fGt_ap, fGe_ap, fSub_ap, fAdd_ap, fNeg_ap, fLen_t, fLen_l, fAll_l, fAny_l, fTuple_l, fTuple_t, fList_l, fList_t, fInt_i, fEq_int, fNe_int, fIx_t, fIx_l, fIs_b, fNis_b, fIs_n, fNis_n, isNone_i, isNone_n, fApp_i, fApp_t, fExt_l, e, this]⟩
  have hT : (List.range cs.length).map (fun p => eN (rowOf cs p)) = (rowsT cs).map eN := by unfold rowsT; rw [List.map_map]; rfl
  rw [hT] at L
  unfold f_rows_of
  rw [m_r_is]
  simp [runP_ap, initP, bnd_ap, ret_ap, lft_ap, nm_ap, frzv_ap, frzo_ap, dat_ap, val_ap, getv_ap, geto_ap, gets2_ap, op2_ap, op1_ap, tbool_ap, mAnd_ap, mOr_ap, mNot_ap, vAnd_ap, vOr_ap, vNot_ap, mIte_ap, aNil_ap, aCons_ap, datA_ap, getA_ap, opA_ap, mTup_ap, mLst_ap, foD_ap, mCall_ap, mChain_ap, mIsi_ap, mSeq_ap, mEnum_ap, mZip_ap, mRng_ap, mLc_ap, pNo_ap, pYes_ap, mListRng_ap, sNx_ap, sNever_ap, sSeq_ap, sRet_ap, sRetO_ap, sDrop_ap, sIf_ap, rvD_ap, rvO_ap, sSet_ap, sTgt_ap, sFor_ap, mMt_ap, chkL_ap, putM_ap, stN_ap, stRv_ap, stRf_ap, tgT_ap, tgC_ap, tg0_ap, sPar_ap, sPar3_ap, sPut_ap, mCut_ap, mMaxLen_ap, mSrtSet_ap, mSrtKey_ap, mKeys_ap, mDGet_ap, dicOf_ap, putMD_ap, sDPutM_ap, mLock_ap, mCallI_ap, mCallO_ap, mCallF_ap, runB_ap, runO_ap, agD, agG, agI, slD, Sl.isBr, seqD, fLe_ap, fLt_ap, fGt_ap, fGe_ap, fSub_ap, fAdd_ap, fNeg_ap, fLen_t, fLen_l, fAll_l, fAny_l, fTuple_l, fTuple_t, fList_l, fList_t, fInt_i, fEq_int, fNe_int, fIx_t, fIx_l, fIs_b, fNis_b, fIs_n, fNis_n, isNone_i, isNone_n, fApp_i, fApp_t, fExt_l, i_r_is, SP, h1]
  unfold stRR at L ⊢
  simp [runP_ap, initP, bnd_ap, ret_ap, lft_ap, nm_ap, frzv_ap, frzo_ap, dat_ap, val_ap, getv_ap, geto_ap, gets2_ap, op2_ap, op1_ap, tbool_ap, mAnd_ap, mOr_ap, mNot_ap, vAnd_ap, vOr_ap, vNot_ap, mIte_ap, aNil_ap, aCons_ap, datA_ap, getA_ap, opA_ap, mTup_ap, mLst_ap, foD_ap, mCall_ap, mChain_ap, mIsi_ap, mSeq_ap, mEnum_ap, mZip_ap, mRng_ap, mLc_ap, pNo_ap, pYes_ap, mListRng_ap, sNx_ap, sNever_ap, sSeq_ap, sRet_ap, sRetO_ap, sDrop_ap, sIf_ap, rvD_ap, rvO_ap, sSet_ap, sTgt_ap, sFor_ap, mMt_ap, chkL_ap, putM_ap, stN_ap, stRv_ap, stRf_ap, tgT_ap, tgC_ap, tg0_ap, sPar_ap, sPar3_ap, sPut_ap, mCut_ap, mMaxLen_ap, mSrtSet_ap, mSrtKey_ap, mKeys_ap, mDGet_ap, dicOf_ap, putMD_ap, sDPutM_ap, mLock_ap, mCallI_ap, mCallO_ap, mCallF_ap, runB_ap, runO_ap, agD, agG, agI, slD, Sl.isBr, seqD, fLe_ap, fLt_ap, fGt_ap, fGe_ap, fSub_ap, fAdd_ap, fNeg_ap, fLen_t, fLen_l, fAll_l, fAny_l, fTuple_l, fTuple_t, fList_l, fList_t, fInt_i, fEq_int, fNe_int, fIx_t, fIx_l, fIs_b, fNis_b, fIs_n, fNis_n, isNone_i, isNone_n, fApp_i, fApp_t, fExt_l, hr1, L, fTuple_N]
  rfl
theorem fewest_rowsE {cs : List Cl} (h : Okc cs) : f_fewest_rows [.tuple (cs.map enc)] = some (.tuple [.int (fullOf cs).length, tupN (rowsT cs), tupN (fullOf cs)]) := by
  simp [runP_ap, initP, bnd_ap, ret_ap, lft_ap, nm_ap, frzv_ap, frzo_ap, dat_ap, val_ap, getv_ap, geto_ap, gets2_ap, op2_ap, op1_ap, tbool_ap, mAnd_ap, mOr_ap, mNot_ap, vAnd_ap, vOr_ap, vNot_ap, mIte_ap, aNil_ap, aCons_ap, datA_ap, getA_ap, opA_ap, mTup_ap, mLst_ap, foD_ap, mCall_ap, mChain_ap, mIsi_ap, mSeq_ap, mEnum_ap, mZip_ap, mRng_ap, mLc_ap, pNo_ap, pYes_ap, mListRng_ap, sNx_ap, sNever_ap, sSeq_ap, sRet_ap, sRetO_ap, sDrop_ap, sIf_ap, rvD_ap, rvO_ap, sSet_ap, sTgt_ap, sFor_ap, mMt_ap, chkL_ap, putM_ap, stN_ap, stRv_ap, stRf_ap, tgT_ap, tgC_ap, tg0_ap, sPar_ap, sPar3_ap, sPut_ap, mCut_ap, mMaxLen_ap, mSrtSet_ap, mSrtKey_ap, mKeys_ap, mDGet_ap, dicOf_ap, putMD_ap, sDPutM_ap, mLock_ap, mCallI_ap, mCallO_ap, mCallF_ap, runB_ap, runO_ap, agD, agG, agI, slD, Sl.isBr, seqD, fLe_ap, fLt_ap, fGt_ap, fGe_ap, fSub_ap, fAdd_ap, fNeg_ap, fLen_t, fLen_l, fAll_l, fAny_l, fTuple_l, fTuple_t, fList_l, fList_t, fInt_i, fEq_int, fNe_int, fIx_t, fIx_l, fIs_b, fNis_b, fIs_n, fNis_n, isNone_i, isNone_n, fApp_i, fApp_t, fExt_l, f_fewest_rows, m_fewest_rows, check_claimsE h, fewest_ofE h (rows_ofE h.few)]
theorem most_standsE {cs : List Cl} (h : Okc cs) : f_most_stands [.tuple (cs.map enc)] = some (.tuple [.int (lotOf cs).length, .tuple ((srtN (lotOf cs)).map eN), .tuple ((pinsOf cs).map encP)]) := by
  simp [runP_ap, initP, bnd_ap, ret_ap, lft_ap, nm_ap, frzv_ap, frzo_ap, dat_ap, val_ap, getv_ap, geto_ap, gets2_ap, op2_ap, op1_ap, tbool_ap, mAnd_ap, mOr_ap, mNot_ap, vAnd_ap, vOr_ap, vNot_ap, mIte_ap, aNil_ap, aCons_ap, datA_ap, getA_ap, opA_ap, mTup_ap, mLst_ap, foD_ap, mCall_ap, mChain_ap, mIsi_ap, mSeq_ap, mEnum_ap, mZip_ap, mRng_ap, mLc_ap, pNo_ap, pYes_ap, mListRng_ap, sNx_ap, sNever_ap, sSeq_ap, sRet_ap, sRetO_ap, sDrop_ap, sIf_ap, rvD_ap, rvO_ap, sSet_ap, sTgt_ap, sFor_ap, mMt_ap, chkL_ap, putM_ap, stN_ap, stRv_ap, stRf_ap, tgT_ap, tgC_ap, tg0_ap, sPar_ap, sPar3_ap, sPut_ap, mCut_ap, mMaxLen_ap, mSrtSet_ap, mSrtKey_ap, mKeys_ap, mDGet_ap, dicOf_ap, putMD_ap, sDPutM_ap, mLock_ap, mCallI_ap, mCallO_ap, mCallF_ap, runB_ap, runO_ap, agD, agG, agI, slD, Sl.isBr, seqD, fLe_ap, fLt_ap, fGt_ap, fGe_ap, fSub_ap, fAdd_ap, fNeg_ap, fLen_t, fLen_l, fAll_l, fAny_l, fTuple_l, fTuple_t, fList_l, fList_t, fInt_i, fEq_int, fNe_int, fIx_t, fIx_l, fIs_b, fNis_b, fIs_n, fNis_n, isNone_i, isNone_n, fApp_i, fApp_t, fExt_l, f_most_stands, m_most_stands, check_claimsE h, most_ofE h.few]
end K15
end
section
namespace K15
local instance : DL.Tbs := ⟨[]⟩
open PySem PySem.Spec PyProof.Rows L2 DL
theorem fRng_N {n : Nat} (h : n ≤ 1000) : fRng [.int (n : Int)] = some ⟨(List.range n).map eN, none⟩ := by
  show (if (n : Int) ≤ 16777216 ∧ -16777216 ≤ (n : Int) then some (⟨rngD 0 (n : Int).toNat, none⟩ : Itm) else none) = _
  rw [if_pos (by omega), show ((n : Int)).toNat = n by omega, rng_N]
theorem fRng_eN {n : Nat} (h : n ≤ 1000) : fRng [eN n] = some ⟨(List.range n).map eN, none⟩ := fRng_N h
theorem fEq_N (i j : Nat) : fEq (eN i) (eN j) = some (.bool (decide (i = j))) := by
  show some (PyData.bool (decide ((i : Int) = (j : Int)))) = _
  rw [decide_eq_decide.mpr (by omega : ((i : Int) = (j : Int)) ↔ i = j)]
theorem at_N {l : List Nat} {i : Nat} (h : i < l.length) : atI (l.map eN) (i : Int) = some (eN (l.getD i 0)) := by
  refine atI_nat ?_
  rw [List.getElem?_map, List.getElem?_eq_getElem h, List.getD_eq_getElem?_getD, List.getElem?_eq_getElem h]; rfl
theorem fIx_TN (l : List Nat) (i : Nat) : fIx (tupN l) (eN i) = atI (l.map eN) (i : Int) := rfl
noncomputable def bi_ar : S := (sIf (mAnd (tbool (op2 fEq (val (op2 fIx (nm 2) (nm 3))) (val (op2 fIx (nm 2) (nm 4))))) (tbool (mCall 2 f_meet (aCons (val (op2 fIx (nm 0) (nm 3))) (aCons (val (op2 fIx (nm 0) (nm 4))) aNil))))) (sRet (DL.ret (.bool false))) sNx)
noncomputable def bo_ar : S := sFor (mRng (aCons (val (dat (nm 3))) aNil)) (stN 4) bi_ar
theorem m_ar_is : m_are_rows = sSeq (sIf (mOr (mNot (tbool (mCall 3 f_are_between (aCons (val (dat (nm 2))) (aCons (val (DL.ret (.int 0))) (aCons (val (op2 fSub (nm 1) (val (DL.ret (.int 1))))) aNil)))))) (tbool (op2 fNe (val (opA fLen (aCons (nm 2) aNil))) (val (opA fLen (aCons (nm 0) aNil)))))) (sRet (DL.ret (.bool false))) sNx)
    (sSeq (sFor (mRng (aCons (val (opA fLen (aCons (nm 0) aNil))) aNil)) (stN 3) bo_ar)
    (sRet (DL.ret (.bool true)))) := rfl
def Rows (cs : List Cl) (rows : List Nat) : Prop := ∀ i j, i < cs.length → j < i → rows.getD i 0 = rows.getD j 0 → MM cs i j = false
def stA (cs : List Cl) (m : Nat) (rows : List Nat) (o3 o4 : Option PyData) : Ro := [.d (.tuple (cs.map enc)), .d (eN m), .d (tupN rows), ofO o3, ofO o4]
theorem are_rowsE {cs : List Cl} {m : Nat} {rows : List Nat} (hl : cs.length ≤ 8) (hlen : rows.length = cs.length) (hm : ∀ r ∈ rows, r < m) (hr : Rows cs rows) : f_are_rows [.tuple (cs.map enc), eN m, tupN rows] = some (.bool true) := by
  obtain ⟨ρ', h1, o3, o4, rfl⟩ := for_rel (it := ⟨(List.range cs.length).map eN, none⟩) (tgt := stN 3) (b := bo_ar) eN
    (fun (_ : Unit) (ρ : Ro) => ∃ o3 o4, ρ = stA cs m rows o3 o4) (fun a _ => a) (List.range cs.length) () [.d (.tuple (cs.map enc)), .d (eN m), .d (tupN rows), .no, .no] ⟨none, none, rfl⟩ (by
      rintro i hi _ ρ ⟨o3, o4, rfl⟩
      have hi := List.mem_range.mp hi
      obtain ⟨ρ2, h2, o5, rfl⟩ := for_rel (it := ⟨(List.range i).map eN, none⟩) (tgt := stN 4) (b := bi_ar) eN
        (fun (_ : Unit) (ρ : Ro) => ∃ o4, ρ = stA cs m rows (some (eN i)) o4) (fun a _ => a) (List.range i) () (stA cs m rows (some (eN i)) o4) ⟨o4, rfl⟩ (by
          rintro j hj _ ρ ⟨o4, rfl⟩
          have hj := List.mem_range.mp hj
          have hjn : j < cs.length := by omega
          refine ⟨stA cs m rows (some (eN i)) (some (eN j)), stA cs m rows (some (eN i)) (some (eN j)), by cases o4 <;> rfl, ?_, _, rfl⟩
          have a1 := at_N (l := rows) (i := i) (by omega)
          have a2 := at_N (l := rows) (i := j) (by omega)
          have hne := hr i j hi hj
          generalize rows.getD i 0 = x at *
          generalize rows.getD j 0 = y at *
          unfold bi_ar
          unfold stA ofO
          by_cases hxy : x = y
          · have hM := hne hxy
            unfold MM at hM
            simp [runP_ap, initP, bnd_ap, ret_ap, lft_ap, nm_ap, frzv_ap, frzo_ap, dat_ap, val_ap, getv_ap, geto_ap, gets2_ap, op2_ap, op1_ap, tbool_ap, mAnd_ap, mOr_ap, mNot_ap, vAnd_ap, vOr_ap, vNot_ap, mIte_ap, aNil_ap, aCons_ap, datA_ap, getA_ap, opA_ap, mTup_ap, mLst_ap, foD_ap, mCall_ap, mChain_ap, mIsi_ap, mSeq_ap, mEnum_ap, mZip_ap, mRng_ap, mLc_ap, pNo_ap, pYes_ap, mListRng_ap, sNx_ap, sNever_ap, sSeq_ap, sRet_ap, sRetO_ap, sDrop_ap, sIf_ap, rvD_ap, rvO_ap, sSet_ap, sTgt_ap, sFor_ap, mMt_ap, chkL_ap, putM_ap, stN_ap, stRv_ap, stRf_ap, tgT_ap, tgC_ap, tg0_ap, sPar_ap, sPar3_ap, sPut_ap, mCut_ap, mMaxLen_ap, mSrtSet_ap, mSrtKey_ap, mKeys_ap, mDGet_ap, dicOf_ap, putMD_ap, sDPutM_ap, mLock_ap, mCallI_ap, mCallO_ap, mCallF_ap, runB_ap, runO_ap, agD, agG, agI, slD, Sl.isBr, seqD, fLe_ap, fLt_ap, fGt_ap, fGe_ap, fSub_ap, fAdd_ap, fNeg_ap, fLen_t, fLen_l, fAll_l, fAny_l, fTuple_l, fTuple_t, fList_l, fList_t, fInt_i, fEq_int, fNe_int, fIx_t, fIx_l, fIs_b, fNis_b, fIs_n, fNis_n, isNone_i, isNone_n, fApp_i, fApp_t, fExt_l, fIx_TN, fIx_tN, a1, a2, fEq_N, hxy, at_enc hi, at_enc hjn, meetE, hM]
          · simp [runP_ap, initP, bnd_ap, ret_ap, lft_ap, nm_ap, frzv_ap, frzo_ap, dat_ap, val_ap, getv_ap, geto_ap, gets2_ap, op2_ap, op1_ap, tbool_ap, mAnd_ap, mOr_ap, mNot_ap, vAnd_ap, vOr_ap, vNot_ap, mIte_ap, aNil_ap, aCons_ap, datA_ap, getA_ap, opA_ap, mTup_ap, mLst_ap, foD_ap, mCall_ap, mChain_ap, mIsi_ap, mSeq_ap, mEnum_ap, mZip_ap, mRng_ap, mLc_ap, pNo_ap, pYes_ap, mListRng_ap, sNx_ap, sNever_ap, sSeq_ap, sRet_ap, sRetO_ap, sDrop_ap, sIf_ap, rvD_ap, rvO_ap, sSet_ap, sTgt_ap, sFor_ap, mMt_ap, chkL_ap, putM_ap, stN_ap, stRv_ap, stRf_ap, tgT_ap, tgC_ap, tg0_ap, sPar_ap, sPar3_ap, sPut_ap, mCut_ap, mMaxLen_ap, mSrtSet_ap, mSrtKey_ap, mKeys_ap, mDGet_ap, dicOf_ap, putMD_ap, sDPutM_ap, mLock_ap, mCallI_ap, mCallO_ap, mCallF_ap, runB_ap, runO_ap, agD, agG, agI, slD, Sl.isBr, seqD, fLe_ap, fLt_ap, fGt_ap, fGe_ap, fSub_ap, fAdd_ap, fNeg_ap, fLen_t, fLen_l, fAll_l, fAny_l, fTuple_l, fTuple_t, fList_l, fList_t, fInt_i, fEq_int, fNe_int, fIx_t, fIx_l, fIs_b, fNis_b, fIs_n, fNis_n, isNone_i, isNone_n, fApp_i, fApp_t, fExt_l, fIx_TN, a1, a2, fEq_N, hxy])
      refine ⟨stA cs m rows (some (eN i)) o4, stA cs m rows (some (eN i)) o5, by cases o3 <;> rfl, ?_, _, _, rfl⟩
      have hr1 := fRng_eN (n := i) (by omega)
      unfold bo_ar
      unfold stA ofO at *
      simp [runP_ap, initP, bnd_ap, ret_ap, lft_ap, nm_ap, frzv_ap, frzo_ap, dat_ap, val_ap, getv_ap, geto_ap, gets2_ap, op2_ap, op1_ap, tbool_ap, mAnd_ap, mOr_ap, mNot_ap, vAnd_ap, vOr_ap, vNot_ap, mIte_ap, aNil_ap, aCons_ap, datA_ap, getA_ap, opA_ap, mTup_ap, mLst_ap, foD_ap, mCall_ap, mChain_ap, mIsi_ap, mSeq_ap, mEnum_ap, mZip_ap, mRng_ap, mLc_ap, pNo_ap, pYes_ap, mListRng_ap, sNx_ap, sNever_ap, sSeq_ap, sRet_ap, sRetO_ap, sDrop_ap, sIf_ap, rvD_ap, rvO_ap, sSet_ap, sTgt_ap, sFor_ap, mMt_ap, chkL_ap, putM_ap, stN_ap, stRv_ap, stRf_ap, tgT_ap, tgC_ap, tg0_ap, sPar_ap, sPar3_ap, sPut_ap, mCut_ap, mMaxLen_ap, mSrtSet_ap, mSrtKey_ap, mKeys_ap, mDGet_ap, dicOf_ap, putMD_ap, sDPutM_ap, mLock_ap, mCallI_ap, mCallO_ap, mCallF_ap, runB_ap, runO_ap, agD, agG, agI, slD, Sl.isBr, seqD, fLe_ap, fLt_ap, fGt_ap, fGe_ap, fSub_ap, fAdd_ap, fNeg_ap, fLen_t, fLen_l, fAll_l, fAny_l, fTuple_l, fTuple_t, fList_l, fList_t, fInt_i, fEq_int, fNe_int, fIx_t, fIx_l, fIs_b, fNis_b, fIs_n, fNis_n, isNone_i, isNone_n, fApp_i, fApp_t, fExt_l, hr1]
      exact h2)
  have B := betw_N hm
  have hr1 := fRng_N (n := cs.length) (by omega)
  have hsub : fSub (eN m) (.int 1) = some (.int ((m : Int) - 1)) := rfl
  unfold f_are_rows
  rw [m_ar_is]
  unfold tupN at *
  simp [runP_ap, initP, bnd_ap, ret_ap, lft_ap, nm_ap, frzv_ap, frzo_ap, dat_ap, val_ap, getv_ap, geto_ap, gets2_ap, op2_ap, op1_ap, tbool_ap, mAnd_ap, mOr_ap, mNot_ap, vAnd_ap, vOr_ap, vNot_ap, mIte_ap, aNil_ap, aCons_ap, datA_ap, getA_ap, opA_ap, mTup_ap, mLst_ap, foD_ap, mCall_ap, mChain_ap, mIsi_ap, mSeq_ap, mEnum_ap, mZip_ap, mRng_ap, mLc_ap, pNo_ap, pYes_ap, mListRng_ap, sNx_ap, sNever_ap, sSeq_ap, sRet_ap, sRetO_ap, sDrop_ap, sIf_ap, rvD_ap, rvO_ap, sSet_ap, sTgt_ap, sFor_ap, mMt_ap, chkL_ap, putM_ap, stN_ap, stRv_ap, stRf_ap, tgT_ap, tgC_ap, tg0_ap, sPar_ap, sPar3_ap, sPut_ap, mCut_ap, mMaxLen_ap, mSrtSet_ap, mSrtKey_ap, mKeys_ap, mDGet_ap, dicOf_ap, putMD_ap, sDPutM_ap, mLock_ap, mCallI_ap, mCallO_ap, mCallF_ap, runB_ap, runO_ap, agD, agG, agI, slD, Sl.isBr, seqD, fLe_ap, fLt_ap, fGt_ap, fGe_ap, fSub_ap, fAdd_ap, fNeg_ap, fLen_t, fLen_l, fAll_l, fAny_l, fTuple_l, fTuple_t, fList_l, fList_t, fInt_i, fEq_int, fNe_int, fIx_t, fIx_l, fIs_b, fNis_b, fIs_n, fNis_n, isNone_i, isNone_n, fApp_i, fApp_t, fExt_l, hsub, B, hlen, hr1, h1]
end K15
end
section
namespace K15
local instance : DL.Tbs := ⟨[]⟩
open PySem PySem.Spec PyProof.Rows L2 DL
theorem asInts_map {γ : Type} (f : γ → Int) (l : List γ) : intsL (.list (l.map fun i => PyData.int (f i))) = some (l.map f) := by
  show asInts (l.map fun i => PyData.int (f i)) = _
  induction l with
  | nil => rfl
  | cons a l ih => simp [asInts, ih]
theorem fMax_map {γ : Type} (f : γ → Int) (x : γ) (l : List γ) : ∃ m, fMax [.list ((x :: l).map fun i => PyData.int (f i))] = some (.int m) ∧ (∃ y ∈ x :: l, m = f y) ∧ ∀ y ∈ x :: l, f y ≤ m := by
  refine ⟨(l.map f).foldl (fun a b => if a < b then b else a) (f x), ?_, ?_, ?_⟩
  · show fMax1 _ = _
    unfold fMax1
    rw [asInts_map]
    rfl
  · have := (foldmax_mem (l.map f) (f x)).1
    rw [← List.map_cons] at this
    obtain ⟨y, hy, e⟩ := List.mem_map.mp this
    exact ⟨y, hy, e.symm⟩
  · intro y hy
    exact (foldmax_mem (l.map f) (f x)).2 _ (by rw [← List.map_cons]; exact List.mem_map_of_mem hy)
noncomputable def m1_ah : M PyData := op2 fIx (val (op2 fIx (nm 0) (nm 2))) (val (DL.ret (.int 1)))
noncomputable def m2_ah : M PyData := mCall 2 f_holds (aCons (val (dat (nm 4))) (aCons (val (op2 fIx (nm 0) (nm 2))) aNil))
theorem m_ah_is : m_are_held = (sSeq (sIf (tbool (op2 fEq (nm 1) (val (mTup aNil)))) (sRet (DL.ret (.bool true))) sNx)
    (sSeq (sSet 3 (rvO (mLc (mSeq (nm 1)) [2] (stN 2) (DL.ret true) m1_ah)))
    (sSeq (sSet 4 (rvD (mTup (aCons (val (op2 fIx (val (op2 fIx (nm 0) (val (op2 fIx (nm 1) (val (DL.ret (.int 0))))))) (val (DL.ret (.int 0))))) (aCons (val (opA fMax (aCons (nm 3) aNil))) aNil)))))
    (sRet (opA fAll (aCons (val (foD (mLc (mSeq (nm 1)) [2] (stN 2) (DL.ret true) m2_ah))) aNil)))))) := rfl
theorem are_heldE {cs : List Cl} {l : List Nat} (hl : ∀ i ∈ l, i < cs.length) (hh : ∀ i ∈ l, ∀ j ∈ l, (cl cs i).1 = (cl cs j).1 ∧ (cl cs j).2.1 ≤ (cl cs i).2.2.1) :
    f_are_held [.tuple (cs.map enc), tupN l] = some (.bool true) := by
  unfold f_are_held
  rw [m_ah_is]
  cases l with
  | nil =>
    have E0 : fEq (tupN []) (.tuple []) = some (.bool true) := eq_nil []
    simp [runP_ap, initP, bnd_ap, ret_ap, lft_ap, nm_ap, frzv_ap, frzo_ap, dat_ap, val_ap, getv_ap, geto_ap, gets2_ap, op2_ap, op1_ap, tbool_ap, mAnd_ap, mOr_ap, mNot_ap, vAnd_ap, vOr_ap, vNot_ap, mIte_ap, aNil_ap, aCons_ap, datA_ap, getA_ap, opA_ap, mTup_ap, mLst_ap, foD_ap, mCall_ap, mChain_ap, mIsi_ap, mSeq_ap, mEnum_ap, mZip_ap, mRng_ap, mLc_ap, pNo_ap, pYes_ap, mListRng_ap, sNx_ap, sNever_ap, sSeq_ap, sRet_ap, sRetO_ap, sDrop_ap, sIf_ap, rvD_ap, rvO_ap, sSet_ap, sTgt_ap, sFor_ap, mMt_ap, chkL_ap, putM_ap, stN_ap, stRv_ap, stRf_ap, tgT_ap, tgC_ap, tg0_ap, sPar_ap, sPar3_ap, sPut_ap, mCut_ap, mMaxLen_ap, mSrtSet_ap, mSrtKey_ap, mKeys_ap, mDGet_ap, dicOf_ap, putMD_ap, sDPutM_ap, mLock_ap, mCallI_ap, mCallO_ap, mCallF_ap, runB_ap, runO_ap, agD, agG, agI, slD, Sl.isBr, seqD, fLe_ap, fLt_ap, fGt_ap, fGe_ap, fSub_ap, fAdd_ap, fNeg_ap, fLen_t, fLen_l, fAll_l, fAny_l, fTuple_l, fTuple_t, fList_l, fList_t, fInt_i, fEq_int, fNe_int, fIx_t, fIx_l, fIs_b, fNis_b, fIs_n, fNis_n, isNone_i, isNone_n, fApp_i, fApp_t, fExt_l, E0]
  | cons i0 ls =>
    have L1 := lc_map (it := ⟨(i0 :: ls).map eN, none⟩) (vs := [2]) (tgt := stN 2) (me := m1_ah) (ρ := [.d (.tuple (cs.map enc)), .d (tupN (i0 :: ls)), .no, .no, .no])
      eN (fun i => PyData.int (cl cs i).2.1) (ok_none rfl _) rfl (i0 :: ls) fun i hi => ⟨[.d (.tuple (cs.map enc)), .d (tupN (i0 :: ls)), .d (eN i), .no, .no], rfl, rfl, by
        have hi' := hl i hi
        unfold m1_ah
        simp [runP_ap, initP, bnd_ap, ret_ap, lft_ap, nm_ap, frzv_ap, frzo_ap, dat_ap, val_ap, getv_ap, geto_ap, gets2_ap, op2_ap, op1_ap, tbool_ap, mAnd_ap, mOr_ap, mNot_ap, vAnd_ap, vOr_ap, vNot_ap, mIte_ap, aNil_ap, aCons_ap, datA_ap, getA_ap, opA_ap, mTup_ap, mLst_ap, foD_ap, mCall_ap, mChain_ap, mIsi_ap, mSeq_ap, mEnum_ap, mZip_ap, mRng_ap, mLc_ap, pNo_ap, pYes_ap, mListRng_ap, sNx_ap, sNever_ap, sSeq_ap, sRet_ap, sRetO_ap, sDrop_ap, sIf_ap, rvD_ap, rvO_ap, sSet_ap, sTgt_ap, sFor_ap, mMt_ap, chkL_ap, putM_ap, stN_ap, stRv_ap, stRf_ap, tgT_ap, tgC_ap, tg0_ap, sPar_ap, sPar3_ap, sPut_ap, mCut_ap, mMaxLen_ap, mSrtSet_ap, mSrtKey_ap, mKeys_ap, mDGet_ap, dicOf_ap, putMD_ap, sDPutM_ap, mLock_ap, mCallI_ap, mCallO_ap, mCallF_ap, runB_ap, runO_ap, agD, agG, agI, slD, Sl.isBr, seqD, fLe_ap, fLt_ap, fGt_ap, fGe_ap, fSub_ap, fAdd_ap, fNeg_ap, fLen_t, fLen_l, fAll_l, fAny_l, fTuple_l, fTuple_t, fList_l, fList_t, fInt_i, fEq_int, fNe_int, fIx_t, fIx_l, fIs_b, fNis_b, fIs_n, fNis_n, isNone_i, isNone_n, fApp_i, fApp_t, fExt_l, fIx_tN, at_enc hi', ixE1]⟩
    obtain ⟨m, hm, ⟨y, hy, rfl⟩, hge⟩ := fMax_map (fun i => (cl cs i).2.1) i0 ls
    have hp : ∀ i ∈ i0 :: ls, hd ((cl cs i0).1, (cl cs y).2.1) (cl cs i) = true := by
      intro i hi
      have h1 := hh i0 List.mem_cons_self i hi
      have h2 := hh i hi y hy
      have h3 := hge i hi
      simp only [hd, decide_eq_true_eq]
      exact ⟨h1.1, h3, h2.2⟩
    have L2 := lc_map (it := ⟨(i0 :: ls).map eN, none⟩) (vs := [2]) (tgt := stN 2) (me := m2_ah) (ρ := [.d (.tuple (cs.map enc)), .d (tupN (i0 :: ls)), .no, .ol ((i0 :: ls).map fun i => PyData.int (cl cs i).2.1), .d (encP ((cl cs i0).1, (cl cs y).2.1))])
      eN (fun i => PyData.bool (hd ((cl cs i0).1, (cl cs y).2.1) (cl cs i))) (ok_none rfl _) rfl (i0 :: ls) fun i hi => ⟨[.d (.tuple (cs.map enc)), .d (tupN (i0 :: ls)), .d (eN i), .ol ((i0 :: ls).map fun i => PyData.int (cl cs i).2.1), .d (encP ((cl cs i0).1, (cl cs y).2.1))], rfl, rfl, by
        have hi' := hl i hi
        unfold m2_ah
        simp [runP_ap, initP, bnd_ap, ret_ap, lft_ap, nm_ap, frzv_ap, frzo_ap, dat_ap, val_ap, getv_ap, geto_ap, gets2_ap, op2_ap, op1_ap, tbool_ap, mAnd_ap, mOr_ap, mNot_ap, vAnd_ap, vOr_ap, vNot_ap, mIte_ap, aNil_ap, aCons_ap, datA_ap, getA_ap, opA_ap, mTup_ap, mLst_ap, foD_ap, mCall_ap, mChain_ap, mIsi_ap, mSeq_ap, mEnum_ap, mZip_ap, mRng_ap, mLc_ap, pNo_ap, pYes_ap, mListRng_ap, sNx_ap, sNever_ap, sSeq_ap, sRet_ap, sRetO_ap, sDrop_ap, sIf_ap, rvD_ap, rvO_ap, sSet_ap, sTgt_ap, sFor_ap, mMt_ap, chkL_ap, putM_ap, stN_ap, stRv_ap, stRf_ap, tgT_ap, tgC_ap, tg0_ap, sPar_ap, sPar3_ap, sPut_ap, mCut_ap, mMaxLen_ap, mSrtSet_ap, mSrtKey_ap, mKeys_ap, mDGet_ap, dicOf_ap, putMD_ap, sDPutM_ap, mLock_ap, mCallI_ap, mCallO_ap, mCallF_ap, runB_ap, runO_ap, agD, agG, agI, slD, Sl.isBr, seqD, fLe_ap, fLt_ap, fGt_ap, fGe_ap, fSub_ap, fAdd_ap, fNeg_ap, fLen_t, fLen_l, fAll_l, fAny_l, fTuple_l, fTuple_t, fList_l, fList_t, fInt_i, fEq_int, fNe_int, fIx_t, fIx_l, fIs_b, fNis_b, fIs_n, fNis_n, isNone_i, isNone_n, fApp_i, fApp_t, fExt_l, fIx_tN, at_enc hi', holdsE]⟩
    have A := asBls_of (fun i => hd ((cl cs i0).1, (cl cs y).2.1) (cl cs i)) (i0 :: ls)
    have h0 := hl i0 List.mem_cons_self
    have hall : ((i0 :: ls).map fun i => hd ((cl cs i0).1, (cl cs y).2.1) (cl cs i)).all id = true := by
      rw [List.all_eq_true]
      intro b hb
      obtain ⟨i, hi, rfl⟩ := List.mem_map.mp hb
      exact hp i hi
    have hx0 : fIx (tupN (i0 :: ls)) (.int 0) = some (eN i0) := at_N (l := i0 :: ls) (i := 0) (by simp)
    have hne : fEq (tupN (i0 :: ls)) (.tuple []) = some (.bool false) := eq_nil (i0 :: ls)
    have hseq : ∀ {A B C : Sl}, mSeq (nm 1) [.d (.tuple (cs.map enc)), .d (tupN (i0 :: ls)), A, B, C] = some (⟨(i0 :: ls).map eN, none⟩, [.d (.tuple (cs.map enc)), .d (tupN (i0 :: ls)), A, B, C]) := by
      intro A B C
      unfold tupN
      simp [runP_ap, initP, bnd_ap, ret_ap, lft_ap, nm_ap, frzv_ap, frzo_ap, dat_ap, val_ap, getv_ap, geto_ap, gets2_ap, op2_ap, op1_ap, tbool_ap, mAnd_ap, mOr_ap, mNot_ap, vAnd_ap, vOr_ap, vNot_ap, mIte_ap, aNil_ap, aCons_ap, datA_ap, getA_ap, opA_ap, mTup_ap, mLst_ap, foD_ap, mCall_ap, mChain_ap, mIsi_ap, mSeq_ap, mEnum_ap, mZip_ap, mRng_ap, mLc_ap, pNo_ap, pYes_ap, mListRng_ap, sNx_ap, sNever_ap, sSeq_ap, sRet_ap, sRetO_ap, sDrop_ap, sIf_ap, rvD_ap, rvO_ap, sSet_ap, sTgt_ap, sFor_ap, mMt_ap, chkL_ap, putM_ap, stN_ap, stRv_ap, stRf_ap, tgT_ap, tgC_ap, tg0_ap, sPar_ap, sPar3_ap, sPut_ap, mCut_ap, mMaxLen_ap, mSrtSet_ap, mSrtKey_ap, mKeys_ap, mDGet_ap, dicOf_ap, putMD_ap, sDPutM_ap, mLock_ap, mCallI_ap, mCallO_ap, mCallF_ap, runB_ap, runO_ap, agD, agG, agI, slD, Sl.isBr, seqD, fLe_ap, fLt_ap, fGt_ap, fGe_ap, fSub_ap, fAdd_ap, fNeg_ap, fLen_t, fLen_l, fAll_l, fAny_l, fTuple_l, fTuple_t, fList_l, fList_t, fInt_i, fEq_int, fNe_int, fIx_t, fIx_l, fIs_b, fNis_b, fIs_n, fNis_n, isNone_i, isNone_n, fApp_i, fApp_t, fExt_l]
    have hP : PyData.tuple [.int (cl cs i0).1, .int (cl cs y).2.1] = encP ((cl cs i0).1, (cl cs y).2.1) := rfl
    have hm' : fMax [.list (List.map (fun i => PyData.int (cl cs i).2.1) (i0 :: ls))] = some (.int (cl cs y).2.1) := hm
    have hA : fAll [.list (List.map (fun i => PyData.bool (hd ((cl cs i0).1, (cl cs y).2.1) (cl cs i))) (i0 :: ls))] = some (.bool true) := by
      rw [fAll_l, A]
      exact congrArg (fun b => some (PyData.bool b)) hall
    clear A hall hm hp hge hh hl hseq
    unfold tupN at *
    generalize (i0 :: ls).map eN = L at *
    generalize (i0 :: ls).map (fun i => PyData.int (cl cs i).2.1) = M1 at *
    generalize (i0 :: ls).map (fun i => PyData.bool (hd ((cl cs i0).1, (cl cs y).2.1) (cl cs i))) = M2 at *
    generalize m1_ah = m1 at *
    generalize m2_ah = m2 at *
    generalize hQ : encP ((cl cs i0).1, (cl cs y).2.1) = Q at *
    simp [runP_ap, initP, bnd_ap, ret_ap, lft_ap, nm_ap, frzv_ap, frzo_ap, dat_ap, val_ap, getv_ap, geto_ap, gets2_ap, op2_ap, op1_ap, tbool_ap, mAnd_ap, mOr_ap, mNot_ap, vAnd_ap, vOr_ap, vNot_ap, mIte_ap, aNil_ap, aCons_ap, datA_ap, getA_ap, opA_ap, mTup_ap, mLst_ap, foD_ap, mCall_ap, mChain_ap, mIsi_ap, mSeq_ap, mEnum_ap, mZip_ap, mRng_ap, mLc_ap, pNo_ap, pYes_ap, mListRng_ap, sNx_ap, sNever_ap, sSeq_ap, sRet_ap, sRetO_ap, sDrop_ap, sIf_ap, rvD_ap, rvO_ap, sSet_ap, sTgt_ap, sFor_ap, mMt_ap, chkL_ap, putM_ap, stN_ap, stRv_ap, stRf_ap, tgT_ap, tgC_ap, tg0_ap, sPar_ap, sPar3_ap, sPut_ap, mCut_ap, mMaxLen_ap, mSrtSet_ap, mSrtKey_ap, mKeys_ap, mDGet_ap, dicOf_ap, putMD_ap, sDPutM_ap, mLock_ap, mCallI_ap, mCallO_ap, mCallF_ap, runB_ap, runO_ap, agD, agG, agI, slD, Sl.isBr, seqD, fLe_ap, fLt_ap, fGt_ap, fGe_ap, fSub_ap, fAdd_ap, fNeg_ap, fLen_t, fLen_l, fAll_l, fAny_l, fTuple_l, fTuple_t, fList_l, fList_t, fInt_i, fEq_int, fNe_int, fIx_t, fIx_l, fIs_b, fNis_b, fIs_n, fNis_n, isNone_i, isNone_n, fApp_i, fApp_t, fExt_l, hne, L1, hx0, fIx_tN, at_enc h0, ixE0, hm', hP, hQ, L2, hA]
end K15
end
section
namespace K15
local instance : DL.Tbs := ⟨[]⟩
open PySem PySem.Spec PyProof.Rows L2 DL
theorem shows_frE {cs : List Cl} (h : Okc cs) {l rows : List Nat} (hl : Lot cs l) (hlen : rows.length = cs.length) (hm : ∀ r ∈ rows, r < l.length) (hr : Rows cs rows)
    (hh : ∀ i ∈ l, ∀ j ∈ l, (cl cs i).1 = (cl cs j).1 ∧ (cl cs j).2.1 ≤ (cl cs i).2.2.1) :
    f_shows_fewest_rows [.tuple (cs.map enc), .tuple [.int l.length, tupN rows, tupN l]] = some (.bool true) := by
  have R := are_rowsE h.few hlen hm hr
  have H := are_heldE hl.lt hh
  have IL : f_is_lot_of [.tuple (cs.map enc), tupN l] = some (.bool true) := is_lot_ofE hl
  have LEN : fLen [tupN l] = some (.int l.length) := by unfold tupN; simp [runP_ap, initP, bnd_ap, ret_ap, lft_ap, nm_ap, frzv_ap, frzo_ap, dat_ap, val_ap, getv_ap, geto_ap, gets2_ap, op2_ap, op1_ap, tbool_ap, mAnd_ap, mOr_ap, mNot_ap, vAnd_ap, vOr_ap, vNot_ap, mIte_ap, aNil_ap, aCons_ap, datA_ap, getA_ap, opA_ap, mTup_ap, mLst_ap, foD_ap, mCall_ap, mChain_ap, mIsi_ap, mSeq_ap, mEnum_ap, mZip_ap, mRng_ap, mLc_ap, pNo_ap, pYes_ap, mListRng_ap, sNx_ap, sNever_ap, sSeq_ap, sRet_ap, sRetO_ap, sDrop_ap, sIf_ap, rvD_ap, rvO_ap, sSet_ap, sTgt_ap, sFor_ap, mMt_ap, chkL_ap, putM_ap, stN_ap, stRv_ap, stRf_ap, tgT_ap, tgC_ap, tg0_ap, sPar_ap, sPar3_ap, sPut_ap, mCut_ap, mMaxLen_ap, mSrtSet_ap, mSrtKey_ap, mKeys_ap, mDGet_ap, dicOf_ap, putMD_ap, sDPutM_ap, mLock_ap, mCallI_ap, mCallO_ap, mCallF_ap, runB_ap, runO_ap, agD, agG, agI, slD, Sl.isBr, seqD, fLe_ap, fLt_ap, fGt_ap, fGe_ap, fSub_ap, fAdd_ap, fNeg_ap, fLen_t, fLen_l, fAll_l, fAny_l, fTuple_l, fTuple_t, fList_l, fList_t, fInt_i, fEq_int, fNe_int, fIx_t, fIx_l, fIs_b, fNis_b, fIs_n, fNis_n, isNone_i, isNone_n, fApp_i, fApp_t, fExt_l]
  have B : f_is_between [.int l.length, .int l.length, .int l.length] = some (.bool true) := by rw [is_between_int]; simp
  unfold f_shows_fewest_rows m_shows_fewest_rows
  unfold eN at R
  generalize tupN rows = RW at *
  generalize tupN l = LT at *
  simp [runP_ap, initP, bnd_ap, ret_ap, lft_ap, nm_ap, frzv_ap, frzo_ap, dat_ap, val_ap, getv_ap, geto_ap, gets2_ap, op2_ap, op1_ap, tbool_ap, mAnd_ap, mOr_ap, mNot_ap, vAnd_ap, vOr_ap, vNot_ap, mIte_ap, aNil_ap, aCons_ap, datA_ap, getA_ap, opA_ap, mTup_ap, mLst_ap, foD_ap, mCall_ap, mChain_ap, mIsi_ap, mSeq_ap, mEnum_ap, mZip_ap, mRng_ap, mLc_ap, pNo_ap, pYes_ap, mListRng_ap, sNx_ap, sNever_ap, sSeq_ap, sRet_ap, sRetO_ap, sDrop_ap, sIf_ap, rvD_ap, rvO_ap, sSet_ap, sTgt_ap, sFor_ap, mMt_ap, chkL_ap, putM_ap, stN_ap, stRv_ap, stRf_ap, tgT_ap, tgC_ap, tg0_ap, sPar_ap, sPar3_ap, sPut_ap, mCut_ap, mMaxLen_ap, mSrtSet_ap, mSrtKey_ap, mKeys_ap, mDGet_ap, dicOf_ap, putMD_ap, sDPutM_ap, mLock_ap, mCallI_ap, mCallO_ap, mCallF_ap, runB_ap, runO_ap, agD, agG, agI, slD, Sl.isBr, seqD, fLe_ap, fLt_ap, fGt_ap, fGe_ap, fSub_ap, fAdd_ap, fNeg_ap, fLen_t, fLen_l, fAll_l, fAny_l, fTuple_l, fTuple_t, fList_l, fList_t, fInt_i, fEq_int, fNe_int, fIx_t, fIx_l, fIs_b, fNis_b, fIs_n, fNis_n, isNone_i, isNone_n, fApp_i, fApp_t, fExt_l, check_claimsE h, ty_tup_tup, at0, at1, at2, IL, LEN, B, R, H]
theorem shows_fr_no {cs : List Cl} (h : Okc cs) {l : List Nat} {n : Int} {rows : PyData} (hl : Lot cs l) (hn : n ≠ l.length) :
    f_shows_fewest_rows [.tuple (cs.map enc), .tuple [.int n, rows, tupN l]] = some (.bool false) := by
  have IL : f_is_lot_of [.tuple (cs.map enc), tupN l] = some (.bool true) := is_lot_ofE hl
  have LEN : fLen [tupN l] = some (.int l.length) := by unfold tupN; simp [runP_ap, initP, bnd_ap, ret_ap, lft_ap, nm_ap, frzv_ap, frzo_ap, dat_ap, val_ap, getv_ap, geto_ap, gets2_ap, op2_ap, op1_ap, tbool_ap, mAnd_ap, mOr_ap, mNot_ap, vAnd_ap, vOr_ap, vNot_ap, mIte_ap, aNil_ap, aCons_ap, datA_ap, getA_ap, opA_ap, mTup_ap, mLst_ap, foD_ap, mCall_ap, mChain_ap, mIsi_ap, mSeq_ap, mEnum_ap, mZip_ap, mRng_ap, mLc_ap, pNo_ap, pYes_ap, mListRng_ap, sNx_ap, sNever_ap, sSeq_ap, sRet_ap, sRetO_ap, sDrop_ap, sIf_ap, rvD_ap, rvO_ap, sSet_ap, sTgt_ap, sFor_ap, mMt_ap, chkL_ap, putM_ap, stN_ap, stRv_ap, stRf_ap, tgT_ap, tgC_ap, tg0_ap, sPar_ap, sPar3_ap, sPut_ap, mCut_ap, mMaxLen_ap, mSrtSet_ap, mSrtKey_ap, mKeys_ap, mDGet_ap, dicOf_ap, putMD_ap, sDPutM_ap, mLock_ap, mCallI_ap, mCallO_ap, mCallF_ap, runB_ap, runO_ap, agD, agG, agI, slD, Sl.isBr, seqD, fLe_ap, fLt_ap, fGt_ap, fGe_ap, fSub_ap, fAdd_ap, fNeg_ap, fLen_t, fLen_l, fAll_l, fAny_l, fTuple_l, fTuple_t, fList_l, fList_t, fInt_i, fEq_int, fNe_int, fIx_t, fIx_l, fIs_b, fNis_b, fIs_n, fNis_n, isNone_i, isNone_n, fApp_i, fApp_t, fExt_l]
  have B : f_is_between [.int n, .int l.length, .int l.length] = some (.bool false) := by
    rw [is_between_int]
    congr 2
    exact decide_eq_false (by omega)
  unfold f_shows_fewest_rows m_shows_fewest_rows
  generalize tupN l = LT at *
  simp [runP_ap, initP, bnd_ap, ret_ap, lft_ap, nm_ap, frzv_ap, frzo_ap, dat_ap, val_ap, getv_ap, geto_ap, gets2_ap, op2_ap, op1_ap, tbool_ap, mAnd_ap, mOr_ap, mNot_ap, vAnd_ap, vOr_ap, vNot_ap, mIte_ap, aNil_ap, aCons_ap, datA_ap, getA_ap, opA_ap, mTup_ap, mLst_ap, foD_ap, mCall_ap, mChain_ap, mIsi_ap, mSeq_ap, mEnum_ap, mZip_ap, mRng_ap, mLc_ap, pNo_ap, pYes_ap, mListRng_ap, sNx_ap, sNever_ap, sSeq_ap, sRet_ap, sRetO_ap, sDrop_ap, sIf_ap, rvD_ap, rvO_ap, sSet_ap, sTgt_ap, sFor_ap, mMt_ap, chkL_ap, putM_ap, stN_ap, stRv_ap, stRf_ap, tgT_ap, tgC_ap, tg0_ap, sPar_ap, sPar3_ap, sPut_ap, mCut_ap, mMaxLen_ap, mSrtSet_ap, mSrtKey_ap, mKeys_ap, mDGet_ap, dicOf_ap, putMD_ap, sDPutM_ap, mLock_ap, mCallI_ap, mCallO_ap, mCallF_ap, runB_ap, runO_ap, agD, agG, agI, slD, Sl.isBr, seqD, fLe_ap, fLt_ap, fGt_ap, fGe_ap, fSub_ap, fAdd_ap, fNeg_ap, fLen_t, fLen_l, fAll_l, fAny_l, fTuple_l, fTuple_t, fList_l, fList_t, fInt_i, fEq_int, fNe_int, fIx_t, fIx_l, fIs_b, fNis_b, fIs_n, fNis_n, isNone_i, isNone_n, fApp_i, fApp_t, fExt_l, check_claimsE h, ty_tup_tup, at0, at1, at2, IL, LEN, B]
end K15
end
section
namespace K15
local instance : DL.Tbs := ⟨[]⟩
open PySem PySem.Spec PyProof.Rows L2 DL
noncomputable def b_lp : S := sDrop (mMt fExtend (nm 1) (aCons (val (foD (mLc (mSeq (nm 0)) [3] (stN 3) (DL.ret true) (mTup (aCons (val (dat (nm 2))) (aCons (val (dat (nm 3))) aNil)))))) aNil))
theorem m_lp_is : m_law_pairs = (sSeq (sSet 1 (rvO (mLst aNil)))
    (sSeq (sFor (mSeq (val (dat (nm 0)))) (stN 2) b_lp)
    (sRet (dat (nm 1))))) := rfl
def encQ (p : Nat × Nat) : PyData := .tuple [eN p.1, eN p.2]
def prs (l : List Nat) : List (Nat × Nat) := l.flatMap fun a => l.map fun b => (a, b)
def stP (l : PyData) (o : List PyData) (o2 o3 : Option PyData) : Ro := [.d l, .ol o, ofO o2, ofO o3]
theorem law_pairsE {D : PyData} {l : List Nat} (hl : l.length ≤ 8) (hD : D = .tuple (l.map eN) ∨ D = .list (l.map eN)) : f_law_pairs [D] = some (.list ((prs l).map encQ)) := by
  obtain ⟨ρ', h1, hln, o2, o3, rfl⟩ := for_at (it := ⟨l.map eN, none⟩) (tgt := stN 2) (b := b_lp) eN
    (fun k (acc : List (Nat × Nat)) (ρ : Ro) => acc.length = k * l.length ∧ ∃ o2 o3, ρ = stP D (acc.map encQ) o2 o3) (fun acc a => acc ++ l.map fun b => (a, b)) l 0 [] [.d D, .ol [], .no, .no] ⟨by simp, none, none, rfl⟩ (by
      rintro i a ha acc ρ ⟨hln, o2, o3, rfl⟩
      have hi : i < l.length := (List.getElem?_eq_some_iff.mp ha).1
      have hb1 : (0 + i) * l.length ≤ 8 * 8 := Nat.mul_le_mul (by omega) hl
      have L := lc_map (it := ⟨l.map eN, none⟩) (vs := [3]) (tgt := stN 3) (me := mTup (aCons (val (dat (nm 2))) (aCons (val (dat (nm 3))) aNil))) (ρ := stP D (acc.map encQ) (some (eN a)) o3) (ρw := stP D (acc.map encQ) (some (eN a)) none)
        eN (fun b => encQ (a, b)) (ok_none rfl _) (by cases o3 <;> rfl) l fun b hb => ⟨stP D (acc.map encQ) (some (eN a)) (some (eN b)), rfl, by cases o3 <;> rfl, by
          unfold stP ofO
          simp [runP_ap, initP, bnd_ap, ret_ap, lft_ap, nm_ap, frzv_ap, frzo_ap, dat_ap, val_ap, getv_ap, geto_ap, gets2_ap, op2_ap, op1_ap, tbool_ap, mAnd_ap, mOr_ap, mNot_ap, vAnd_ap, vOr_ap, vNot_ap, mIte_ap, aNil_ap, aCons_ap, datA_ap, getA_ap, opA_ap, mTup_ap, mLst_ap, foD_ap, mCall_ap, mChain_ap, mIsi_ap, mSeq_ap, mEnum_ap, mZip_ap, mRng_ap, mLc_ap, pNo_ap, pYes_ap, mListRng_ap, sNx_ap, sNever_ap, sSeq_ap, sRet_ap, sRetO_ap, sDrop_ap, sIf_ap, rvD_ap, rvO_ap, sSet_ap, sTgt_ap, sFor_ap, mMt_ap, chkL_ap, putM_ap, stN_ap, stRv_ap, stRf_ap, tgT_ap, tgC_ap, tg0_ap, sPar_ap, sPar3_ap, sPut_ap, mCut_ap, mMaxLen_ap, mSrtSet_ap, mSrtKey_ap, mKeys_ap, mDGet_ap, dicOf_ap, putMD_ap, sDPutM_ap, mLock_ap, mCallI_ap, mCallO_ap, mCallF_ap, runB_ap, runO_ap, agD, agG, agI, slD, Sl.isBr, seqD, fLe_ap, fLt_ap, fGt_ap, fGe_ap, fSub_ap, fAdd_ap, fNeg_ap, fLen_t, fLen_l, fAll_l, fAny_l, fTuple_l, fTuple_t, fList_l, fList_t, fInt_i, fEq_int, fNe_int, fIx_t, fIx_l, fIs_b, fNis_b, fIs_n, fNis_n, isNone_i, isNone_n, fApp_i, fApp_t, fExt_l, encQ]⟩
      refine ⟨stP D (acc.map encQ) (some (eN a)) o3, stP D ((acc ++ l.map fun b => (a, b)).map encQ) (some (eN a)) o3, by cases o2 <;> rfl, ?_, ?_, _, _, rfl⟩
      · have hx : (acc ++ l.map fun b => (a, b)).map encQ = acc.map encQ ++ l.map fun b => encQ (a, b) := by simp
        rw [hx]
        have hcap : (acc.map encQ).length + (l.map fun b => encQ (a, b)).length ≤ 16777216 := by simp only [List.length_map]; omega
        generalize acc.map encQ = AC at *
        generalize (l.map fun b => encQ (a, b)) = BC at *
        generalize l.map eN = LL at *
        unfold b_lp
        unfold stP at *
        simp only [ofO] at L ⊢
        generalize ofO o3 = s3 at *
        rcases hD with rfl | rfl <;> simp [runP_ap, initP, bnd_ap, ret_ap, lft_ap, nm_ap, frzv_ap, frzo_ap, dat_ap, val_ap, getv_ap, geto_ap, gets2_ap, op2_ap, op1_ap, tbool_ap, mAnd_ap, mOr_ap, mNot_ap, vAnd_ap, vOr_ap, vNot_ap, mIte_ap, aNil_ap, aCons_ap, datA_ap, getA_ap, opA_ap, mTup_ap, mLst_ap, foD_ap, mCall_ap, mChain_ap, mIsi_ap, mSeq_ap, mEnum_ap, mZip_ap, mRng_ap, mLc_ap, pNo_ap, pYes_ap, mListRng_ap, sNx_ap, sNever_ap, sSeq_ap, sRet_ap, sRetO_ap, sDrop_ap, sIf_ap, rvD_ap, rvO_ap, sSet_ap, sTgt_ap, sFor_ap, mMt_ap, chkL_ap, putM_ap, stN_ap, stRv_ap, stRf_ap, tgT_ap, tgC_ap, tg0_ap, sPar_ap, sPar3_ap, sPut_ap, mCut_ap, mMaxLen_ap, mSrtSet_ap, mSrtKey_ap, mKeys_ap, mDGet_ap, dicOf_ap, putMD_ap, sDPutM_ap, mLock_ap, mCallI_ap, mCallO_ap, mCallF_ap, runB_ap, runO_ap, agD, agG, agI, slD, Sl.isBr, seqD, fLe_ap, fLt_ap, fGt_ap, fGe_ap, fSub_ap, fAdd_ap, fNeg_ap, fLen_t, fLen_l, fAll_l, fAny_l, fTuple_l, fTuple_t, fList_l, fList_t, fInt_i, fEq_int, fNe_int, fIx_t, fIx_l, fIs_b, fNis_b, fIs_n, fNis_n, isNone_i, isNone_n, fApp_i, fApp_t, fExt_l, L, hcap]
      · simp only [List.length_append, List.length_map, hln]
        rw [Nat.add_mul _ 1, Nat.one_mul])
  unfold f_law_pairs
  rw [m_lp_is]
  have hfl : l.foldl (fun acc a => acc ++ l.map fun b => (a, b)) [] = prs l := by
    unfold prs
    have : ∀ (ys : List Nat) (acc : List (Nat × Nat)), ys.foldl (fun acc a => acc ++ l.map fun b => (a, b)) acc = acc ++ ys.flatMap fun a => l.map fun b => (a, b) := by
      intro ys
      induction ys with
      | nil => intro acc; simp
      | cons y ys ih => intro acc; simp [ih]
    exact this l []
  rw [hfl] at h1
  unfold stP at h1
  generalize (prs l).map encQ = PQ at *
  generalize l.map eN = LL at *
  rcases hD with rfl | rfl <;> simp [runP_ap, initP, bnd_ap, ret_ap, lft_ap, nm_ap, frzv_ap, frzo_ap, dat_ap, val_ap, getv_ap, geto_ap, gets2_ap, op2_ap, op1_ap, tbool_ap, mAnd_ap, mOr_ap, mNot_ap, vAnd_ap, vOr_ap, vNot_ap, mIte_ap, aNil_ap, aCons_ap, datA_ap, getA_ap, opA_ap, mTup_ap, mLst_ap, foD_ap, mCall_ap, mChain_ap, mIsi_ap, mSeq_ap, mEnum_ap, mZip_ap, mRng_ap, mLc_ap, pNo_ap, pYes_ap, mListRng_ap, sNx_ap, sNever_ap, sSeq_ap, sRet_ap, sRetO_ap, sDrop_ap, sIf_ap, rvD_ap, rvO_ap, sSet_ap, sTgt_ap, sFor_ap, mMt_ap, chkL_ap, putM_ap, stN_ap, stRv_ap, stRf_ap, tgT_ap, tgC_ap, tg0_ap, sPar_ap, sPar3_ap, sPut_ap, mCut_ap, mMaxLen_ap, mSrtSet_ap, mSrtKey_ap, mKeys_ap, mDGet_ap, dicOf_ap, putMD_ap, sDPutM_ap, mLock_ap, mCallI_ap, mCallO_ap, mCallF_ap, runB_ap, runO_ap, agD, agG, agI, slD, Sl.isBr, seqD, fLe_ap, fLt_ap, fGt_ap, fGe_ap, fSub_ap, fAdd_ap, fNeg_ap, fLen_t, fLen_l, fAll_l, fAny_l, fTuple_l, fTuple_t, fList_l, fList_t, fInt_i, fEq_int, fNe_int, fIx_t, fIx_l, fIs_b, fNis_b, fIs_n, fNis_n, isNone_i, isNone_n, fApp_i, fApp_t, fExt_l, h1]
end K15
end
section
namespace K15
local instance : DL.Tbs := ⟨[]⟩
open PySem PySem.Spec PyProof.Rows L2 DL
theorem mem_prs {l : List Nat} {p : Nat × Nat} : p ∈ prs l ↔ p.1 ∈ l ∧ p.2 ∈ l := by
  unfold prs
  rw [List.mem_flatMap]
  constructor
  · rintro ⟨a, ha, h⟩
    obtain ⟨b, hb, rfl⟩ := List.mem_map.mp h
    exact ⟨ha, hb⟩
  · rintro ⟨h1, h2⟩
    exact ⟨p.1, h1, List.mem_map.mpr ⟨p.2, h2, rfl⟩⟩
theorem fLt_N (i j : Nat) : fLt (eN i) (eN j) = some (.bool (decide (i < j))) := by
  show some (PyData.bool (decide ((i : Int) < (j : Int)))) = _
  rw [decide_eq_decide.mpr (by omega : ((i : Int) < (j : Int)) ↔ i < j)]
noncomputable def me_lfree : M PyData := vAnd (mCall 2 f_law_do_meet (aCons (val (op2 fIx (nm 0) (nm 2))) (aCons (val (op2 fIx (nm 0) (nm 3))) aNil))) (op2 fLt (nm 2) (nm 3))
theorem m_lfree_is : m_law_is_free = (sRet (vNot (opA fAny (aCons (val (foD (mLc (mSeq (val (mCall 1 f_law_pairs (aCons (val (dat (nm 1))) aNil)))) [2, 3] (tgT (tgC (stN 2) (tgC (stN 3) tg0))) (DL.ret true) me_lfree))) aNil)))) := rfl
theorem law_is_freeE {cs : List Cl} {l : List Nat} (hl : l.length ≤ 8) (hlt : ∀ i ∈ l, i < cs.length) (hf : ∀ i ∈ l, ∀ j ∈ l, i < j → MM cs i j = false) : f_law_is_free [.tuple (cs.map enc), tupN l] = some (.bool true) := by
  have P : f_law_pairs [tupN l] = some (.list ((prs l).map encQ)) := law_pairsE hl (Or.inl rfl)
  have L := lc_map (it := ⟨(prs l).map encQ, none⟩) (vs := [2, 3]) (tgt := tgT (tgC (stN 2) (tgC (stN 3) tg0))) (me := me_lfree) (ρ := [.d (.tuple (cs.map enc)), .d (tupN l), .no, .no])
    encQ (fun p => .bool (MM cs p.1 p.2 && decide (p.1 < p.2))) (ok_none rfl _) rfl (prs l) fun p hp => ⟨[.d (.tuple (cs.map enc)), .d (tupN l), .d (eN p.1), .d (eN p.2)], rfl, rfl, by
      obtain ⟨h1, h2⟩ := mem_prs.mp hp
      have k1 := hlt _ h1
      have k2 := hlt _ h2
      generalize p.1 = x at *
      generalize p.2 = y at *
      unfold me_lfree
      have T := lmeetE (cl cs x) (cl cs y)
      cases hM : MM cs x y with
      | true =>
        unfold MM at hM
        rw [hM] at T
        simp [runP_ap, initP, bnd_ap, ret_ap, lft_ap, nm_ap, frzv_ap, frzo_ap, dat_ap, val_ap, getv_ap, geto_ap, gets2_ap, op2_ap, op1_ap, tbool_ap, mAnd_ap, mOr_ap, mNot_ap, vAnd_ap, vOr_ap, vNot_ap, mIte_ap, aNil_ap, aCons_ap, datA_ap, getA_ap, opA_ap, mTup_ap, mLst_ap, foD_ap, mCall_ap, mChain_ap, mIsi_ap, mSeq_ap, mEnum_ap, mZip_ap, mRng_ap, mLc_ap, pNo_ap, pYes_ap, mListRng_ap, sNx_ap, sNever_ap, sSeq_ap, sRet_ap, sRetO_ap, sDrop_ap, sIf_ap, rvD_ap, rvO_ap, sSet_ap, sTgt_ap, sFor_ap, mMt_ap, chkL_ap, putM_ap, stN_ap, stRv_ap, stRf_ap, tgT_ap, tgC_ap, tg0_ap, sPar_ap, sPar3_ap, sPut_ap, mCut_ap, mMaxLen_ap, mSrtSet_ap, mSrtKey_ap, mKeys_ap, mDGet_ap, dicOf_ap, putMD_ap, sDPutM_ap, mLock_ap, mCallI_ap, mCallO_ap, mCallF_ap, runB_ap, runO_ap, agD, agG, agI, slD, Sl.isBr, seqD, fLe_ap, fLt_ap, fGt_ap, fGe_ap, fSub_ap, fAdd_ap, fNeg_ap, fLen_t, fLen_l, fAll_l, fAny_l, fTuple_l, fTuple_t, fList_l, fList_t, fInt_i, fEq_int, fNe_int, fIx_t, fIx_l, fIs_b, fNis_b, fIs_n, fNis_n, isNone_i, isNone_n, fApp_i, fApp_t, fExt_l, fIx_tN, at_enc k1, at_enc k2, T, fLt_N]
      | false =>
        unfold MM at hM
        rw [hM] at T
        simp [runP_ap, initP, bnd_ap, ret_ap, lft_ap, nm_ap, frzv_ap, frzo_ap, dat_ap, val_ap, getv_ap, geto_ap, gets2_ap, op2_ap, op1_ap, tbool_ap, mAnd_ap, mOr_ap, mNot_ap, vAnd_ap, vOr_ap, vNot_ap, mIte_ap, aNil_ap, aCons_ap, datA_ap, getA_ap, opA_ap, mTup_ap, mLst_ap, foD_ap, mCall_ap, mChain_ap, mIsi_ap, mSeq_ap, mEnum_ap, mZip_ap, mRng_ap, mLc_ap, pNo_ap, pYes_ap, mListRng_ap, sNx_ap, sNever_ap, sSeq_ap, sRet_ap, sRetO_ap, sDrop_ap, sIf_ap, rvD_ap, rvO_ap, sSet_ap, sTgt_ap, sFor_ap, mMt_ap, chkL_ap, putM_ap, stN_ap, stRv_ap, stRf_ap, tgT_ap, tgC_ap, tg0_ap, sPar_ap, sPar3_ap, sPut_ap, mCut_ap, mMaxLen_ap, mSrtSet_ap, mSrtKey_ap, mKeys_ap, mDGet_ap, dicOf_ap, putMD_ap, sDPutM_ap, mLock_ap, mCallI_ap, mCallO_ap, mCallF_ap, runB_ap, runO_ap, agD, agG, agI, slD, Sl.isBr, seqD, fLe_ap, fLt_ap, fGt_ap, fGe_ap, fSub_ap, fAdd_ap, fNeg_ap, fLen_t, fLen_l, fAll_l, fAny_l, fTuple_l, fTuple_t, fList_l, fList_t, fInt_i, fEq_int, fNe_int, fIx_t, fIx_l, fIs_b, fNis_b, fIs_n, fNis_n, isNone_i, isNone_n, fApp_i, fApp_t, fExt_l, fIx_tN, at_enc k1, at_enc k2, T]⟩
  have A : fAny [.list ((prs l).map fun p => PyData.bool (MM cs p.1 p.2 && decide (p.1 < p.2)))] = some (.bool false) := by
    rw [fAny_l, asBls_of (fun p : Nat × Nat => MM cs p.1 p.2 && decide (p.1 < p.2)) (prs l)]
    refine congrArg (fun b => some (PyData.bool b)) ?_
    rw [List.any_eq_false]
    intro b hb
    obtain ⟨p, hp, rfl⟩ := List.mem_map.mp hb
    obtain ⟨h1, h2⟩ := mem_prs.mp hp
    by_cases h : p.1 < p.2
    · rw [hf _ h1 _ h2 h]; simp
    · simp [h]
  unfold f_law_is_free
  rw [m_lfree_is]
  generalize tupN l = LT at *
  generalize (prs l).map encQ = PQ at *
  generalize ((prs l).map fun p => PyData.bool (MM cs p.1 p.2 && decide (p.1 < p.2))) = QQ at *
  simp [runP_ap, initP, bnd_ap, ret_ap, lft_ap, nm_ap, frzv_ap, frzo_ap, dat_ap, val_ap, getv_ap, geto_ap, gets2_ap, op2_ap, op1_ap, tbool_ap, mAnd_ap, mOr_ap, mNot_ap, vAnd_ap, vOr_ap, vNot_ap, mIte_ap, aNil_ap, aCons_ap, datA_ap, getA_ap, opA_ap, mTup_ap, mLst_ap, foD_ap, mCall_ap, mChain_ap, mIsi_ap, mSeq_ap, mEnum_ap, mZip_ap, mRng_ap, mLc_ap, pNo_ap, pYes_ap, mListRng_ap, sNx_ap, sNever_ap, sSeq_ap, sRet_ap, sRetO_ap, sDrop_ap, sIf_ap, rvD_ap, rvO_ap, sSet_ap, sTgt_ap, sFor_ap, mMt_ap, chkL_ap, putM_ap, stN_ap, stRv_ap, stRf_ap, tgT_ap, tgC_ap, tg0_ap, sPar_ap, sPar3_ap, sPut_ap, mCut_ap, mMaxLen_ap, mSrtSet_ap, mSrtKey_ap, mKeys_ap, mDGet_ap, dicOf_ap, putMD_ap, sDPutM_ap, mLock_ap, mCallI_ap, mCallO_ap, mCallF_ap, runB_ap, runO_ap, agD, agG, agI, slD, Sl.isBr, seqD, fLe_ap, fLt_ap, fGt_ap, fGe_ap, fSub_ap, fAdd_ap, fNeg_ap, fLen_t, fLen_l, fAll_l, fAny_l, fTuple_l, fTuple_t, fList_l, fList_t, fInt_i, fEq_int, fNe_int, fIx_t, fIx_l, fIs_b, fNis_b, fIs_n, fNis_n, isNone_i, isNone_n, fApp_i, fApp_t, fExt_l, P, L, A]
end K15
end
section
namespace K15
local instance : DL.Tbs := ⟨[]⟩
open PySem PySem.Spec PyProof.Rows L2 DL
noncomputable def mi_lh : M PyData := vAnd (op2 fEq (val (op2 fIx (nm 2) (val (DL.ret (.int 0))))) (val (op2 fIx (nm 3) (val (DL.ret (.int 0)))))) (mChain fLe fLe (val (op2 fIx (nm 3) (val (DL.ret (.int 1))))) (val (op2 fIx (nm 2) (val (DL.ret (.int 1))))) (val (op2 fIx (nm 3) (val (DL.ret (.int 2))))))
noncomputable def mo_lh : M PyData := opA fAny (aCons (val (foD (mLc (mSeq (nm 1)) [2] (stN 2) (DL.ret true) mi_lh))) aNil)
theorem m_lholds_is : m_law_holds = (sRet (opA fAll (aCons (val (foD (mLc (mSeq (nm 0)) [3] (stN 3) (DL.ret true) mo_lh))) aNil))) := rfl
theorem mi_lhE (ρ : Ro) (p : Int × Int) (c : Cl) (h2 : ρ[2]? = some (.d (encP p))) (h3 : ρ[3]? = some (.d (enc c))) : mi_lh ρ = some (.bool (hd p c), ρ) := by
  have X0 : fIx (encP p) (.int 0) = some (.int p.1) := rfl
  have X1 : fIx (encP p) (.int 1) = some (.int p.2) := rfl
  have Y0 : fIx (enc c) (.int 0) = some (.int c.1) := rfl
  have Y1 : fIx (enc c) (.int 1) = some (.int c.2.1) := rfl
  have Y2 : fIx (enc c) (.int 2) = some (.int c.2.2.1) := rfl
  unfold mi_lh hd
  generalize encP p = EP at *
  generalize enc c = EC at *
  by_cases g1 : p.1 = c.1 <;> by_cases g2 : c.2.1 ≤ p.2 <;> simp [runP_ap, initP, bnd_ap, ret_ap, lft_ap, nm_ap, frzv_ap, frzo_ap, dat_ap, val_ap, getv_ap, geto_ap, gets2_ap, op2_ap, op1_ap, tbool_ap, mAnd_ap, mOr_ap, mNot_ap, vAnd_ap, vOr_ap, vNot_ap, mIte_ap, aNil_ap, aCons_ap, datA_ap, getA_ap, opA_ap, mTup_ap, mLst_ap, foD_ap, mCall_ap, mChain_ap, mIsi_ap, mSeq_ap, mEnum_ap, mZip_ap, mRng_ap, mLc_ap, pNo_ap, pYes_ap, mListRng_ap, sNx_ap, sNever_ap, sSeq_ap, sRet_ap, sRetO_ap, sDrop_ap, sIf_ap, rvD_ap, rvO_ap, sSet_ap, sTgt_ap, sFor_ap, mMt_ap, chkL_ap, putM_ap, stN_ap, stRv_ap, stRf_ap, tgT_ap, tgC_ap, tg0_ap, sPar_ap, sPar3_ap, sPut_ap, mCut_ap, mMaxLen_ap, mSrtSet_ap, mSrtKey_ap, mKeys_ap, mDGet_ap, dicOf_ap, putMD_ap, sDPutM_ap, mLock_ap, mCallI_ap, mCallO_ap, mCallF_ap, runB_ap, runO_ap, agD, agG, agI, slD, Sl.isBr, seqD, fLe_ap, fLt_ap, fGt_ap, fGe_ap, fSub_ap, fAdd_ap, fNeg_ap, fLen_t, fLen_l, fAll_l, fAny_l, fTuple_l, fTuple_t, fList_l, fList_t, fInt_i, fEq_int, fNe_int, fIx_t, fIx_l, fIs_b, fNis_b, fIs_n, fNis_n, isNone_i, isNone_n, fApp_i, fApp_t, fExt_l, h2, h3, X0, X1, Y0, Y1, Y2, g1, g2]
theorem law_holdsE (cs : List Cl) (ps : List (Int × Int)) : f_law_holds [.tuple (cs.map enc), .tuple (ps.map encP)] = some (.bool (cs.all fun c => ps.any fun p => hd p c)) := by
  have L := lc_map (it := ⟨cs.map enc, none⟩) (vs := [3]) (tgt := stN 3) (me := mo_lh) (ρ := [.d (.tuple (cs.map enc)), .d (.tuple (ps.map encP)), .no, .no])
    enc (fun c => .bool (ps.any fun p => hd p c)) (ok_none rfl _) rfl cs fun c hc => ⟨[.d (.tuple (cs.map enc)), .d (.tuple (ps.map encP)), .no, .d (enc c)], rfl, rfl, by
      have L2 := lc_map (it := ⟨ps.map encP, none⟩) (vs := [2]) (tgt := stN 2) (me := mi_lh) (ρ := [.d (.tuple (cs.map enc)), .d (.tuple (ps.map encP)), .no, .d (enc c)])
        encP (fun p => .bool (hd p c)) (ok_none rfl _) rfl ps fun p hp => ⟨[.d (.tuple (cs.map enc)), .d (.tuple (ps.map encP)), .d (encP p), .d (enc c)], rfl, rfl, mi_lhE _ p c rfl rfl⟩
      have A : fAny [.list (ps.map fun p => PyData.bool (hd p c))] = some (.bool (ps.any fun p => hd p c)) := by
        rw [fAny_l, asBls_of (fun p => hd p c) ps]
        simp [List.any_map]
      unfold mo_lh
      generalize mi_lh = mi at *
      generalize ps.map encP = PS at *
      generalize (ps.map fun p => PyData.bool (hd p c)) = QQ at *
      generalize enc c = EC at *
      simp [runP_ap, initP, bnd_ap, ret_ap, lft_ap, nm_ap, frzv_ap, frzo_ap, dat_ap, val_ap, getv_ap, geto_ap, gets2_ap, op2_ap, op1_ap, tbool_ap, mAnd_ap, mOr_ap, mNot_ap, vAnd_ap, vOr_ap, vNot_ap, mIte_ap, aNil_ap, aCons_ap, datA_ap, getA_ap, opA_ap, mTup_ap, mLst_ap, foD_ap, mCall_ap, mChain_ap, mIsi_ap, mSeq_ap, mEnum_ap, mZip_ap, mRng_ap, mLc_ap, pNo_ap, pYes_ap, mListRng_ap, sNx_ap, sNever_ap, sSeq_ap, sRet_ap, sRetO_ap, sDrop_ap, sIf_ap, rvD_ap, rvO_ap, sSet_ap, sTgt_ap, sFor_ap, mMt_ap, chkL_ap, putM_ap, stN_ap, stRv_ap, stRf_ap, tgT_ap, tgC_ap, tg0_ap, sPar_ap, sPar3_ap, sPut_ap, mCut_ap, mMaxLen_ap, mSrtSet_ap, mSrtKey_ap, mKeys_ap, mDGet_ap, dicOf_ap, putMD_ap, sDPutM_ap, mLock_ap, mCallI_ap, mCallO_ap, mCallF_ap, runB_ap, runO_ap, agD, agG, agI, slD, Sl.isBr, seqD, fLe_ap, fLt_ap, fGt_ap, fGe_ap, fSub_ap, fAdd_ap, fNeg_ap, fLen_t, fLen_l, fAll_l, fAny_l, fTuple_l, fTuple_t, fList_l, fList_t, fInt_i, fEq_int, fNe_int, fIx_t, fIx_l, fIs_b, fNis_b, fIs_n, fNis_n, isNone_i, isNone_n, fApp_i, fApp_t, fExt_l, L2, A]⟩
  have A : fAll [.list (cs.map fun c => PyData.bool (ps.any fun p => hd p c))] = some (.bool (cs.all fun c => ps.any fun p => hd p c)) := by
    rw [fAll_l, asBls_of (fun c => ps.any fun p => hd p c) cs]
    simp [List.all_map]
  unfold f_law_holds
  rw [m_lholds_is]
  generalize mo_lh = mo at *
  generalize ps.map encP = PS at *
  generalize cs.map enc = CS at *
  generalize (cs.map fun c => PyData.bool (ps.any fun p => hd p c)) = QQ at *
  simp [runP_ap, initP, bnd_ap, ret_ap, lft_ap, nm_ap, frzv_ap, frzo_ap, dat_ap, val_ap, getv_ap, geto_ap, gets2_ap, op2_ap, op1_ap, tbool_ap, mAnd_ap, mOr_ap, mNot_ap, vAnd_ap, vOr_ap, vNot_ap, mIte_ap, aNil_ap, aCons_ap, datA_ap, getA_ap, opA_ap, mTup_ap, mLst_ap, foD_ap, mCall_ap, mChain_ap, mIsi_ap, mSeq_ap, mEnum_ap, mZip_ap, mRng_ap, mLc_ap, pNo_ap, pYes_ap, mListRng_ap, sNx_ap, sNever_ap, sSeq_ap, sRet_ap, sRetO_ap, sDrop_ap, sIf_ap, rvD_ap, rvO_ap, sSet_ap, sTgt_ap, sFor_ap, mMt_ap, chkL_ap, putM_ap, stN_ap, stRv_ap, stRf_ap, tgT_ap, tgC_ap, tg0_ap, sPar_ap, sPar3_ap, sPut_ap, mCut_ap, mMaxLen_ap, mSrtSet_ap, mSrtKey_ap, mKeys_ap, mDGet_ap, dicOf_ap, putMD_ap, sDPutM_ap, mLock_ap, mCallI_ap, mCallO_ap, mCallF_ap, runB_ap, runO_ap, agD, agG, agI, slD, Sl.isBr, seqD, fLe_ap, fLt_ap, fGt_ap, fGe_ap, fSub_ap, fAdd_ap, fNeg_ap, fLen_t, fLen_l, fAll_l, fAny_l, fTuple_l, fTuple_t, fList_l, fList_t, fInt_i, fEq_int, fNe_int, fIx_t, fIx_l, fIs_b, fNis_b, fIs_n, fNis_n, isNone_i, isNone_n, fApp_i, fApp_t, fExt_l, L, A]
end K15
end
section
namespace K15
open PySem PySem.Spec PyProof.Rows L2 DL
theorem MM_comm (cs : List Cl) (i j : Nat) : MM cs i j = MM cs j i := by
  unfold MM mt
  apply decide_eq_decide.mpr
  constructor <;> rintro ⟨a, b, c⟩ <;> exact ⟨a.symm, c, b⟩
/-- what the greedy lot keeps -/
theorem gfold_free {cs : List Cl} : ∀ (o f : List Nat), Free cs f → Free cs (o.foldl (gstep cs) f)
  | [], f, h => h
  | p :: o, f, h => by
    rw [List.foldl_cons]
    refine gfold_free o _ ?_
    unfold gstep
    split
    · exact h
    · next hn =>
      refine List.pairwise_append.mpr ⟨h, List.pairwise_singleton .., ?_⟩
      intro a ha b hb
      rw [List.mem_singleton.mp hb, MM_comm]
      cases hm : MM cs p a with
      | false => rfl
      | true => exact absurd (List.any_eq_true.mpr ⟨a, ha, hm⟩) hn
theorem gfold_mem {cs : List Cl} : ∀ (o f : List Nat) (x : Nat), x ∈ o.foldl (gstep cs) f → x ∈ f ∨ x ∈ o
  | [], f, x, h => .inl h
  | p :: o, f, x, h => by
    rw [List.foldl_cons] at h
    rcases gfold_mem o _ x h with h | h
    · rcases gstep_mem h with h | h
      · exact .inl h
      · exact .inr (h ▸ List.mem_cons_self)
    · exact .inr (List.mem_cons_of_mem _ h)
theorem gfold_sub {cs : List Cl} : ∀ (o f : List Nat) (x : Nat), x ∈ f → x ∈ o.foldl (gstep cs) f
  | [], f, x, h => h
  | p :: o, f, x, h => by
    rw [List.foldl_cons]
    refine gfold_sub o _ x ?_
    unfold gstep
    split
    · exact h
    · exact List.mem_append_left _ h
theorem gfold_nodup {cs : List Cl} : ∀ (o f : List Nat), (f ++ o).Nodup → (o.foldl (gstep cs) f).Nodup
  | [], f, h => by simpa using h
  | p :: o, f, h => by
    rw [List.foldl_cons]
    refine gfold_nodup o _ ?_
    unfold gstep
    split
    · exact h.sublist (List.Sublist.append_left (List.sublist_cons_self ..) _)
    · rw [List.append_assoc]; exact h
/-- each one of the order is taken or meets one that came before it in the order -/
theorem gfold_cover {cs : List Cl} : ∀ (o f : List Nat) (x : Nat), x ∈ o → x ∈ o.foldl (gstep cs) f ∨ ∃ y, y ∈ o.foldl (gstep cs) f ∧ MM cs x y = true ∧ (y ∈ f ∨ ∃ a b c, o = a ++ y :: b ++ x :: c)
  | [], f, x, h => nomatch h
  | p :: o, f, x, h => by
    rw [List.foldl_cons]
    by_cases hx : x = p
    · subst hx
      unfold gstep
      split
      · next hn =>
        obtain ⟨y, hy, hm⟩ := List.any_eq_true.mp hn
        exact .inr ⟨y, gfold_sub _ _ _ hy, hm, .inl hy⟩
      · exact .inl (gfold_sub _ _ _ (List.mem_append_right _ (List.mem_singleton.mpr rfl)))
    · have hxo : x ∈ o := (List.mem_cons.mp h).resolve_left hx
      rcases gfold_cover o (gstep cs f p) x hxo with h1 | ⟨y, h1, h2, h3⟩
      · exact .inl h1
      · refine .inr ⟨y, h1, h2, ?_⟩
        rcases h3 with h3 | ⟨a, b, c, rfl⟩
        · rcases gstep_mem h3 with h3 | rfl
          · exact .inl h3
          · obtain ⟨b, c, rfl⟩ := List.append_of_mem hxo
            exact .inr ⟨[], b, c, by simp⟩
        · exact .inr ⟨p :: a, b, c, by simp⟩
/-- the sorted lot -/
theorem srtN_perm (l : List Nat) : (srtN l).Perm l := List.mergeSort_perm ..
theorem srtN_asc {l : List Nat} (h : l.Nodup) : ascL (srtN l) := by
  have hs : (srtN l).Pairwise fun a b => decide (a ≤ b) = true := List.pairwise_mergeSort (fun a b c h1 h2 => by
    have h1 := of_decide_eq_true h1
    have h2 := of_decide_eq_true h2
    exact decide_eq_true (by omega)) (fun a b => by
    by_cases h : a ≤ b
    · simp [h]
    · have : b ≤ a := by omega
      simp [this]) l
  have hn : (srtN l).Nodup := (srtN_perm l).nodup_iff.mpr h
  unfold ascL
  refine (hs.and hn).imp ?_
  rintro a b ⟨h1, h2⟩
  have h1 := of_decide_eq_true h1
  omega
theorem greedy_nodup (cs : List Cl) (zs : List Int) : (greedy cs (ordZ zs)).Nodup := gfold_nodup _ [] (by rw [List.nil_append]; exact ord_nodup zs)
theorem greedy_below {cs : List Cl} {zs : List Int} (hz : zs.length = cs.length) {x : Nat} (h : x ∈ greedy cs (ordZ zs)) : x < cs.length := by
  rcases gfold_mem _ _ _ h with h | h
  · nomatch h
  · rw [← hz]; exact ord_mem h
theorem greedy_free (cs : List Cl) (o : List Nat) : Free cs (greedy cs o) := gfold_free o [] List.Pairwise.nil
theorem Free_perm {cs : List Cl} {l m : List Nat} (h : l.Perm m) (hf : Free cs l) : Free cs m := by
  unfold Free
  exact (h.pairwise_iff (fun {a b} h => by rw [MM_comm]; exact h)).mp hf
theorem lot_Lot (cs : List Cl) : Lot cs (srtN (lotOf cs)) := ⟨fun i hi => greedy_below (lss_len cs) ((srtN_perm _).mem_iff.mp hi), srtN_asc (greedy_nodup cs (lss cs))⟩
theorem lot_Free (cs : List Cl) : Free cs (srtN (lotOf cs)) := Free_perm (srtN_perm _).symm (greedy_free cs _)
end K15
end
section
namespace K15
local instance : DL.Tbs := ⟨[]⟩
open PySem PySem.Spec PyProof.Rows L2 DL
theorem ord_pw (zs : List Int) : (ordZ zs).Pairwise fun i j => zs.getD i 0 ≤ zs.getD j 0 := by
  have h : (ordZ zs).Pairwise fun i j => decide (zs.getD i 0 < zs.getD j 0 ∨ (zs.getD i 0 = zs.getD j 0 ∧ (i : Int) ≤ (j : Int))) = true := by
    rw [ordZ_is]
    refine List.pairwise_mergeSort (fun a b c h1 h2 => ?_) (fun a b => ?_) _
    · have h1 := of_decide_eq_true h1
      have h2 := of_decide_eq_true h2
      exact decide_eq_true (by omega)
    · rw [Bool.or_eq_true]
      by_cases h : zs.getD a 0 < zs.getD b 0 ∨ (zs.getD a 0 = zs.getD b 0 ∧ (a : Int) ≤ (b : Int))
      · exact .inl (decide_eq_true h)
      · exact .inr (decide_eq_true (by omega))
  refine h.imp fun {a b} h => ?_
  have h := of_decide_eq_true h
  omega
theorem okc_at {cs : List Cl} (h : Okc cs) {i : Nat} (hi : i < cs.length) : okC (cl cs i) := by
  unfold cl
  rw [List.getD_eq_getElem?_getD, List.getElem?_eq_getElem hi]
  exact h.ok _ (List.getElem_mem hi)
theorem pins_hit {cs : List Cl} (h : Okc cs) {c : Cl} (hc : c ∈ cs) : ∃ p ∈ pinsOf cs, hd p c = true := by
  obtain ⟨i, hi⟩ := List.mem_iff_getElem?.mp hc
  have hil := (List.getElem?_eq_some_iff.mp hi).1
  have ec : cl cs i = c := by unfold cl; rw [List.getD_eq_getElem?_getD, hi]; rfl
  have him : i ∈ ordZ (lss cs) := (ord_perm _).mem_iff.mpr (List.mem_range.mpr (by rw [lss_len]; exact hil))
  have hp : ∀ y, y ∈ lotOf cs → pin cs y ∈ pinsOf cs := fun y hy => (List.mergeSort_perm ..).mem_iff.mpr (List.mem_map_of_mem hy)
  have ok := okc_at h hil
  rcases gfold_cover (cs := cs) (ordZ (lss cs)) [] i him with h1 | ⟨y, h1, h2, h3⟩
  · refine ⟨pin cs i, hp i h1, ?_⟩
    unfold hd pin
    rw [← ec]
    unfold okC at ok
    exact decide_eq_true ⟨rfl, ok.2.2.2.1, Int.le_refl _⟩
  · rcases h3 with h3 | ⟨a, b, d, e⟩
    · nomatch h3
    have hpw := ord_pw (lss cs)
    rw [e, List.append_assoc] at hpw
    have hyx : (lss cs).getD y 0 ≤ (lss cs).getD i 0 := by
      have := (List.pairwise_append.mp hpw).2.1
      rw [List.cons_append] at this
      exact (List.pairwise_cons.mp this).1 i (List.mem_append_right _ List.mem_cons_self)
    rw [lss_get, lss_get] at hyx
    refine ⟨pin cs y, hp y h1, ?_⟩
    unfold MM mt at h2
    have h2 := of_decide_eq_true h2
    unfold hd pin
    rw [← ec]
    exact decide_eq_true ⟨h2.1.symm, h2.2.1, hyx⟩
theorem pins_Pins {cs : List Cl} (h : Okc cs) : Pins (pinsOf cs) := by
  have pm : (pinsOf cs).Perm ((lotOf cs).map (pin cs)) := List.mergeSort_perm ..
  refine ⟨fun p hp => ?_, ?_⟩
  · obtain ⟨y, hy, rfl⟩ := List.mem_map.mp (pm.mem_iff.mp hp)
    have ok := okc_at h (greedy_below (lss_len cs) hy)
    unfold okC at ok
    unfold pin
    exact ⟨ok.1, ok.2.1, by show (0 : Int) ≤ (cl cs y).2.2.1; omega, ok.2.2.2.2.1⟩
  · have hs : (pinsOf cs).Pairwise fun a b => leP a b = true := by
      unfold pinsOf
      refine List.pairwise_mergeSort (fun a b c h1 h2 => ?_) (fun a b => ?_) _
      · unfold leP at *
        have h1 := of_decide_eq_true h1
        have h2 := of_decide_eq_true h2
        exact decide_eq_true (by omega)
      · unfold leP
        rw [Bool.or_eq_true]
        by_cases h : a.1 < b.1 ∨ (a.1 = b.1 ∧ a.2 ≤ b.2)
        · exact .inl (decide_eq_true h)
        · exact .inr (decide_eq_true (by omega))
    have hn : (pinsOf cs).Nodup := by
      refine pm.nodup_iff.mpr ?_
      have hf : Free cs (lotOf cs) := greedy_free cs _
      have hl : ∀ y ∈ lotOf cs, y < cs.length := fun y hy => greedy_below (lss_len cs) hy
      unfold List.Nodup
      rw [List.pairwise_map]
      refine List.Pairwise.imp_of_mem (fun {a b} ha hb hm => ?_) hf
      intro e
      have oa := okc_at h (hl a ha)
      have ob := okc_at h (hl b hb)
      unfold okC at oa ob
      unfold pin at e
      have e1 := congrArg Prod.fst e
      have e2 := congrArg Prod.snd e
      simp only at e1 e2
      unfold MM mt at hm
      have hm := of_decide_eq_false hm
      exact hm ⟨e1, by omega, by omega⟩
    refine (hs.and hn).imp ?_
    rintro a b ⟨h1, h2⟩
    unfold leP at h1
    have h1 := of_decide_eq_true h1
    unfold ltP
    refine decide_eq_true ?_
    rcases h1 with h1 | ⟨h1, h3⟩
    · exact .inl h1
    · refine .inr ⟨h1, ?_⟩
      have : a.2 ≠ b.2 := fun e => h2 (Prod.ext h1 e)
      omega
theorem pins_len (cs : List Cl) : (pinsOf cs).length = (lotOf cs).length := by
  unfold pinsOf
  rw [(List.mergeSort_perm ..).length_eq, List.length_map]
theorem srtN_len (l : List Nat) : (srtN l).length = l.length := (srtN_perm l).length_eq
end K15
end
section
namespace K15
local instance : DL.Tbs := ⟨[]⟩
open PySem PySem.Spec PyProof.Rows L2 DL
theorem shows_lot {cs : List Cl} (h : Okc cs) : f_shows_most_stands [.tuple (cs.map enc), .tuple [.int (lotOf cs).length, .tuple ((srtN (lotOf cs)).map eN), .tuple ((pinsOf cs).map encP)]] = some (.bool true) := by
  have := shows_msE h (lot_Lot cs) (pins_Pins h) (by rw [pins_len, srtN_len]) (lot_Free cs)
  rw [srtN_len] at this
  rw [this]
  refine congrArg (fun b => some (PyData.bool b)) ?_
  rw [List.all_eq_true]
  intro c hc
  rw [List.any_eq_true]
  exact pins_hit h hc
theorem lot_drop {cs : List Cl} {l : List Nat} (h : Lot cs l) (k : Nat) : Lot cs (l.drop k) :=
  ⟨fun i hi => h.lt i (List.mem_of_mem_drop hi), List.Pairwise.sublist (List.drop_sublist ..) h.asc⟩
theorem pins_drop {ps : List (Int × Int)} (h : Pins ps) (k : Nat) : Pins (ps.drop k) :=
  ⟨fun p hp => h.rg p (List.mem_of_mem_drop hp), List.Pairwise.sublist (List.drop_sublist ..) h.asc⟩
theorem free_drop {cs : List Cl} {l : List Nat} (h : Free cs l) (k : Nat) : Free cs (l.drop k) := List.Pairwise.sublist (List.drop_sublist ..) h
theorem ltP_irr {p q : Int × Int} (h : ltP p q = true) : p ≠ q := by
  rintro rfl
  unfold ltP at h
  have h := of_decide_eq_true h
  omega
theorem free_at {cs : List Cl} {l : List Nat} (hf : Free cs l) {a b : Nat} (ha : a ∈ l) (hb : b ∈ l) (hne : a ≠ b) : MM cs a b = false := by
  induction l with
  | nil => nomatch ha
  | cons x l ih =>
    obtain ⟨h1, h2⟩ := List.pairwise_cons.mp hf
    rcases List.mem_cons.mp ha with rfl | ha' <;> rcases List.mem_cons.mp hb with rfl | hb'
    · exact absurd rfl hne
    · exact h1 _ hb'
    · rw [MM_comm]; exact h1 _ ha'
    · exact ih h2 ha' hb'
theorem shows_less {cs : List Cl} (h : Okc cs) (hpos : 0 < (lotOf cs).length) : f_shows_most_stands [.tuple (cs.map enc), .tuple [.int (((lotOf cs).length : Int) - 1), .tuple (((srtN (lotOf cs)).drop 1).map eN), .tuple (((pinsOf cs).drop 1).map encP)]] = some (.bool false) := by
  have hp := pins_Pins h
  have := shows_msE h (lot_drop (lot_Lot cs) 1) (pins_drop hp 1) (by rw [List.length_drop, List.length_drop, pins_len, srtN_len]) (free_drop (lot_Free cs) 1)
  rw [List.length_drop, srtN_len, show (((lotOf cs).length - 1 : Nat) : Int) = ((lotOf cs).length : Int) - 1 by omega] at this
  rw [this]
  refine congrArg (fun b => some (PyData.bool b)) ?_
  have pm : (pinsOf cs).Perm ((lotOf cs).map (pin cs)) := List.mergeSort_perm ..
  have hf := greedy_free cs (ordZ (lss cs))
  have hlen : 0 < (pinsOf cs).length := by rw [pins_len]; exact hpos
  generalize hP : pinsOf cs = P at *
  cases P with
  | nil => exact absurd hlen (by simp)
  | cons p0 P =>
    obtain ⟨y0, hy0, e0⟩ := List.mem_map.mp (pm.mem_iff.mp List.mem_cons_self)
    have k0 : y0 < cs.length := greedy_below (lss_len cs) hy0
    have o0 := okc_at h k0
    unfold okC at o0
    rw [List.all_eq_false]
    refine ⟨cl cs y0, ?_, ?_⟩
    · unfold cl
      rw [List.getD_eq_getElem?_getD, List.getElem?_eq_getElem k0]
      exact List.getElem_mem k0
    · intro hany
      rw [List.drop_succ_cons, List.drop_zero] at hany
      obtain ⟨p, hpm, hh⟩ := List.any_eq_true.mp hany
      have hne : p0 ≠ p := ltP_irr ((List.pairwise_cons.mp hp.asc).1 p hpm)
      obtain ⟨y, hy, e1⟩ := List.mem_map.mp (pm.mem_iff.mp (List.mem_cons_of_mem _ hpm))
      have hyy : y0 ≠ y := by
        rintro rfl
        exact hne (e0.symm.trans e1)
      have hm := free_at hf hy0 hy hyy
      have k1 : y < cs.length := greedy_below (lss_len cs) hy
      have o1 := okc_at h k1
      unfold okC at o1
      subst e1
      unfold hd pin at hh
      have hh := of_decide_eq_true hh
      unfold MM mt at hm
      have hm := of_decide_eq_false hm
      simp only at hh
      exact hm ⟨hh.1.symm, by omega, by omega⟩
end K15
end
section
namespace K15
local instance : DL.Tbs := ⟨[]⟩
open PySem PySem.Spec PyProof.Rows L2 DL
theorem better_or (a b : List Nat) : better a b = a ∨ better a b = b := by
  unfold better
  split
  · exact .inr rfl
  · exact .inl rfl
theorem better_len (a b : List Nat) : a.length ≤ (better a b).length ∧ b.length ≤ (better a b).length := by
  unfold better
  split <;> omega
theorem full_fold : ∀ (ls : List (List Nat)) (a : List Nat), ls.foldl better a = a ∨ ls.foldl better a ∈ ls
  | [], a => .inl rfl
  | l :: ls, a => by
    rw [List.foldl_cons]
    rcases full_fold ls (better a l) with h | h
    · rcases better_or a l with h2 | h2
      · exact .inl (h.trans h2)
      · exact .inr (by rw [h, h2]; exact List.mem_cons_self)
    · exact .inr (List.mem_cons_of_mem _ h)
theorem full_ge : ∀ (ls : List (List Nat)) (a : List Nat), a.length ≤ (ls.foldl better a).length ∧ ∀ l ∈ ls, l.length ≤ (ls.foldl better a).length
  | [], a => ⟨Nat.le_refl _, fun l h => nomatch h⟩
  | l :: ls, a => by
    rw [List.foldl_cons]
    obtain ⟨h1, h2⟩ := full_ge ls (better a l)
    obtain ⟨b1, b2⟩ := better_len a l
    refine ⟨Nat.le_trans b1 h1, fun m hm => ?_⟩
    rcases List.mem_cons.mp hm with rfl | hm
    · exact Nat.le_trans b2 h1
    · exact h2 m hm
theorem full_is (cs : List Cl) : fullOf cs = [] ∨ ∃ i, i < cs.length ∧ fullOf cs = heldOf cs (hpin cs i) := by
  rcases full_fold (lots cs) [] with h | h
  · exact .inl h
  · unfold lots at h
    obtain ⟨i, hi, e⟩ := List.mem_map.mp h
    exact .inr ⟨i, List.mem_range.mp hi, e.symm⟩
theorem held_Lot (cs : List Cl) (p : Int × Int) : Lot cs (heldOf cs p) :=
  ⟨fun i hi => List.mem_range.mp (List.mem_filter.mp hi).1, List.Pairwise.sublist (List.filter_sublist ..) List.pairwise_lt_range⟩
theorem full_Lot (cs : List Cl) : Lot cs (fullOf cs) := by
  rcases full_is cs with e | ⟨i, hi, e⟩ <;> rw [e]
  · exact ⟨fun i hi => (nomatch hi), List.Pairwise.nil⟩
  · exact held_Lot cs _
theorem full_held (cs : List Cl) : ∀ i ∈ fullOf cs, ∀ j ∈ fullOf cs, (cl cs i).1 = (cl cs j).1 ∧ (cl cs j).2.1 ≤ (cl cs i).2.2.1 := by
  rcases full_is cs with e | ⟨k, hk, e⟩ <;> rw [e]
  · exact fun i hi => nomatch hi
  · intro i hi j hj
    have h1 := of_decide_eq_true (List.mem_filter.mp hi).2
    have h2 := of_decide_eq_true (List.mem_filter.mp hj).2
    exact ⟨h1.1.symm.trans h2.1, Int.le_trans h2.2.1 h1.2.2⟩
theorem held_le {cs : List Cl} {i : Nat} (hi : i < cs.length) : (heldOf cs (hpin cs i)).length ≤ (fullOf cs).length :=
  (full_ge (lots cs) []).2 _ (List.mem_map.mpr ⟨i, List.mem_range.mpr hi, rfl⟩)
end K15
end
section
namespace K15
local instance : DL.Tbs := ⟨[]⟩
open PySem PySem.Spec PyProof.Rows L2 DL
theorem sub_len : ∀ {l m : List Nat}, l.Nodup → (∀ x ∈ l, x ∈ m) → l.length ≤ m.length
  | [], m, _, _ => Nat.zero_le _
  | a :: l, m, hn, hs => by
    obtain ⟨h1, h2⟩ := List.nodup_cons.mp hn
    have ha := hs a List.mem_cons_self
    have := sub_len (m := m.erase a) h2 fun x hx => (List.mem_erase_of_ne (by rintro rfl; exact h1 hx)).mpr (hs x (List.mem_cons_of_mem _ hx))
    rw [List.length_erase_of_mem ha] at this
    have := List.length_pos_of_mem ha
    rw [List.length_cons]
    omega
theorem free_row {n : Nat} {t : List Nat} (h : t.length < n) : rowFor n t ∉ t ∧ rowFor n t ≤ t.length := by
  have hex : ∃ r, r ≤ t.length ∧ r ∉ t := by
    refine Classical.byContradiction fun hno => ?_
    have := sub_len (l := List.range (t.length + 1)) (m := t) List.nodup_range fun x hx => Classical.byContradiction fun hx2 => hno ⟨x, Nat.lt_succ_iff.mp (List.mem_range.mp hx), hx2⟩
    rw [List.length_range] at this
    omega
  obtain ⟨r, hr, hm⟩ := hex
  unfold rowFor freeRows
  have hpw : ((List.range n).filter fun r => !t.contains r).Pairwise (· < ·) := List.Pairwise.sublist (List.filter_sublist ..) List.pairwise_lt_range
  have hin : r ∈ (List.range n).filter fun r => !t.contains r := List.mem_filter.mpr ⟨List.mem_range.mpr (by omega), by simp [hm]⟩
  have hall : ∀ x ∈ (List.range n).filter fun r => !t.contains r, x ∉ t := fun x hx => by
    have := (List.mem_filter.mp hx).2
    simpa using this
  generalize (List.range n).filter (fun r => !t.contains r) = L at *
  cases L with
  | nil => nomatch hin
  | cons x L =>
    refine ⟨hall x List.mem_cons_self, ?_⟩
    show x ≤ t.length
    rcases List.mem_cons.mp hin with rfl | h2
    · exact hr
    · have := (List.pairwise_cons.mp hpw).1 r h2
      omega
/-- what the placing keeps: keys plain, rows of meeting ones apart, each row below the fullest lot -/
structure AsgOk (cs : List Cl) (asg : Asg) : Prop where
  nd : (asg.map (·.1)).Nodup
  lt : ∀ a ∈ asg, a.1 < cs.length
  apart : asg.Pairwise fun a b => MM cs b.1 a.1 = true → a.2 ≠ b.2
  low : ∀ a ∈ asg, a.2 < (fullOf cs).length
theorem taken_len {cs : List Cl} (h : Okc cs) {asg : Asg} (ha : AsgOk cs asg) {p : Nat} (hp : p < cs.length) (hnew : p ∉ asg.map (·.1)) (hord : ∀ a ∈ asg, (cl cs a.1).2.1 ≤ (cl cs p).2.1) :
    (takenBy cs asg p).length + 1 ≤ (heldOf cs (hpin cs p)).length := by
  have hs : ((asg.filter fun a => MM cs p a.1).map (·.1)).Sublist (asg.map (·.1)) := List.Sublist.map _ (List.filter_sublist ..)
  have := sub_len (l := p :: (asg.filter fun a => MM cs p a.1).map (·.1)) (m := heldOf cs (hpin cs p))
    (List.nodup_cons.mpr ⟨fun hm => hnew (hs.subset hm), ha.nd.sublist hs⟩) fun x hx => by
      unfold heldOf
      rcases List.mem_cons.mp hx with rfl | hx
      · have ok := okc_at h hp
        unfold okC at ok
        refine List.mem_filter.mpr ⟨List.mem_range.mpr hp, ?_⟩
        unfold hd hpin
        exact decide_eq_true ⟨rfl, Int.le_refl _, ok.2.2.2.1⟩
      · obtain ⟨a, haf, rfl⟩ := List.mem_map.mp hx
        obtain ⟨h1, h2⟩ := List.mem_filter.mp haf
        refine List.mem_filter.mpr ⟨List.mem_range.mpr (ha.lt a h1), ?_⟩
        unfold MM mt at h2
        have h2 := of_decide_eq_true h2
        unfold hd hpin
        exact decide_eq_true ⟨h2.1, hord a h1, h2.2.1⟩
  rw [List.length_cons, List.length_map] at this
  unfold takenBy
  rw [List.length_map]
  omega
theorem rstep_ok {cs : List Cl} (h : Okc cs) {asg : Asg} (ha : AsgOk cs asg) {p : Nat} (hp : p < cs.length) (hnew : p ∉ asg.map (·.1)) (hord : ∀ a ∈ asg, (cl cs a.1).2.1 ≤ (cl cs p).2.1) : AsgOk cs (rstep cs asg p) := by
  have tl := taken_len h ha hp hnew hord
  have hl : (heldOf cs (hpin cs p)).length ≤ cs.length := by
    have : (heldOf cs (hpin cs p)).length ≤ (List.range cs.length).length := List.length_filter_le ..
    rwa [List.length_range] at this
  obtain ⟨f1, f2⟩ := free_row (n := cs.length) (t := takenBy cs asg p) (by omega)
  have hfull := held_le hp
  refine ⟨?_, ?_, ?_, ?_⟩
  · rw [rstep_keys]
    refine List.nodup_append.mpr ⟨ha.nd, by simp, ?_⟩
    intro a h1 b h2 e
    rw [List.mem_singleton.mp h2] at e
    exact hnew (e ▸ h1)
  · intro a h1
    unfold rstep at h1
    rcases List.mem_append.mp h1 with h1 | h1
    · exact ha.lt a h1
    · rw [List.mem_singleton.mp h1]; exact hp
  · unfold rstep
    refine List.pairwise_append.mpr ⟨ha.apart, List.pairwise_singleton .., ?_⟩
    intro a h1 b h2 hm e
    rw [List.mem_singleton.mp h2] at hm e
    refine f1 ?_
    have e' : a.2 = rowFor cs.length (takenBy cs asg p) := e
    rw [← e']
    unfold takenBy
    exact List.mem_map.mpr ⟨a, List.mem_filter.mpr ⟨h1, hm⟩, rfl⟩
  · intro a h1
    unfold rstep at h1
    rcases List.mem_append.mp h1 with h1 | h1
    · exact ha.low a h1
    · rw [List.mem_singleton.mp h1]
      show rowFor cs.length (takenBy cs asg p) < _
      omega
end K15
end
section
namespace K15
local instance : DL.Tbs := ⟨[]⟩
open PySem PySem.Spec PyProof.Rows L2 DL
theorem fold_ok {cs : List Cl} (h : Okc cs) : ∀ (o : List Nat) (asg : Asg), AsgOk cs asg → o.Nodup → (∀ p ∈ o, p < cs.length) → (∀ p ∈ o, p ∉ asg.map (·.1)) →
    o.Pairwise (fun i j => (cl cs i).2.1 ≤ (cl cs j).2.1) → (∀ a ∈ asg, ∀ p ∈ o, (cl cs a.1).2.1 ≤ (cl cs p).2.1) → AsgOk cs (o.foldl (rstep cs) asg)
  | [], asg, ha, _, _, _, _, _ => ha
  | p :: o, asg, ha, hn, hlt, hnew, hpw, hord => by
    obtain ⟨n1, n2⟩ := List.nodup_cons.mp hn
    obtain ⟨w1, w2⟩ := List.pairwise_cons.mp hpw
    rw [List.foldl_cons]
    refine fold_ok h o _ (rstep_ok h ha (hlt p List.mem_cons_self) (hnew p List.mem_cons_self) fun a h1 => hord a h1 p List.mem_cons_self) n2 (fun q hq => hlt q (List.mem_cons_of_mem _ hq)) ?_ w2 ?_
    · intro q hq hm
      rw [rstep_keys] at hm
      rcases List.mem_append.mp hm with hm | hm
      · exact hnew q (List.mem_cons_of_mem _ hq) hm
      · rw [List.mem_singleton.mp hm] at hq
        exact n1 hq
    · intro a h1 q hq
      unfold rstep at h1
      rcases List.mem_append.mp h1 with h1 | h1
      · exact hord a h1 q (List.mem_cons_of_mem _ hq)
      · rw [List.mem_singleton.mp h1]
        exact w1 q hq
theorem asg_ok {cs : List Cl} (h : Okc cs) : AsgOk cs (asgOf cs) := by
  refine fold_ok h _ [] ⟨List.nodup_nil, fun a h => (nomatch h), List.Pairwise.nil, fun a h => (nomatch h)⟩ (ord_nodup _) (fun p hp => ?_) (fun p _ hm => (nomatch hm)) ?_ (fun a h => (nomatch h))
  · have := ord_mem hp
    rwa [fss_len] at this
  · refine (ord_pw (fss cs)).imp fun {a b} h => ?_
    rwa [fss_get, fss_get] at h
theorem apart_at {cs : List Cl} : ∀ {asg : Asg}, (asg.Pairwise fun a b => MM cs b.1 a.1 = true → a.2 ≠ b.2) → ∀ {a b : Nat × Nat}, a ∈ asg → b ∈ asg → a ≠ b → MM cs a.1 b.1 = true → a.2 ≠ b.2
  | [], _, a, b, ha, _, _, _ => nomatch ha
  | x :: asg, hp, a, b, ha, hb, hne, hm => by
    obtain ⟨h1, h2⟩ := List.pairwise_cons.mp hp
    rcases List.mem_cons.mp ha with ea | ha'
    · rcases List.mem_cons.mp hb with eb | hb'
      · exact absurd (ea.trans eb.symm) hne
      · rw [MM_comm] at hm
        rw [ea] at hm ⊢
        exact h1 _ hb' hm
    · rcases List.mem_cons.mp hb with eb | hb'
      · rw [eb] at hm ⊢
        exact fun e => h1 _ ha' hm e.symm
      · exact apart_at h2 ha' hb' hne hm
theorem rows_len (cs : List Cl) : (rowsT cs).length = cs.length := by unfold rowsT; rw [List.length_map, List.length_range]
theorem rows_at {cs : List Cl} {i : Nat} (hi : i < cs.length) : (rowsT cs).getD i 0 = rowOf cs i := by
  unfold rowsT
  rw [List.getD_eq_getElem?_getD, List.getElem?_map, List.getElem?_range hi]; rfl
theorem rows_low {cs : List Cl} (h : Okc cs) : ∀ r ∈ rowsT cs, r < (fullOf cs).length := by
  intro r hr
  unfold rowsT at hr
  obtain ⟨p, hp, rfl⟩ := List.mem_map.mp hr
  exact (asg_ok h).low _ (row_mem (List.mem_range.mp hp))
theorem rows_Rows {cs : List Cl} (h : Okc cs) : Rows cs (rowsT cs) := by
  intro i j hi hj e
  have hj' : j < cs.length := by omega
  rw [rows_at hi, rows_at hj'] at e
  cases hm : MM cs i j with
  | false => rfl
  | true => exact absurd e (apart_at (asg_ok h).apart (row_mem hi) (row_mem hj') (fun e => by have := congrArg Prod.fst e; simp only at this; omega) hm)
theorem shows_rows {cs : List Cl} (h : Okc cs) : f_shows_fewest_rows [.tuple (cs.map enc), .tuple [.int (fullOf cs).length, tupN (rowsT cs), tupN (fullOf cs)]] = some (.bool true) :=
  shows_frE h (full_Lot cs) (rows_len cs) (rows_low h) (rows_Rows h) (full_held cs)
theorem shows_rows_more {cs : List Cl} (h : Okc cs) : f_shows_fewest_rows [.tuple (cs.map enc), .tuple [.int ((fullOf cs).length + 1), tupN (rowsT cs), tupN (fullOf cs)]] = some (.bool false) :=
  shows_fr_no h (full_Lot cs) (by omega)
end K15
end
section
namespace K15
local instance : DL.Tbs := ⟨[]⟩
open PySem PySem.Spec PyProof.Rows L2 DL
theorem lot_len {cs : List Cl} (h : Okc cs) : (lotOf cs).length ≤ 8 := by
  have := sub_len (m := List.range cs.length) (greedy_nodup cs (lss cs)) fun x hx => List.mem_range.mpr (greedy_below (lss_len cs) hx)
  rw [List.length_range] at this
  exact Nat.le_trans this h.few
theorem law_free_lot {cs : List Cl} (h : Okc cs) : f_law_is_free [.tuple (cs.map enc), tupN (srtN (lotOf cs))] = some (.bool true) :=
  law_is_freeE (by rw [srtN_len]; exact lot_len h) (lot_Lot cs).lt fun i hi j hj hij => free_at (lot_Free cs) hi hj (by omega)
theorem law_holds_lot {cs : List Cl} (h : Okc cs) : f_law_holds [.tuple (cs.map enc), .tuple ((pinsOf cs).map encP)] = some (.bool true) := by
  rw [law_holdsE]
  refine congrArg (fun b => some (PyData.bool b)) ?_
  rw [List.all_eq_true]
  intro c hc
  rw [List.any_eq_true]
  exact pins_hit h hc
/-- the greedy choice, seen at one class of claims: the others never stand in its way -/
theorem gfold_filter {cs : List Cl} (P : Nat → Bool) (hP : ∀ a b, MM cs a b = true → P a = P b) : ∀ (o f : List Nat), (o.foldl (gstep cs) f).filter P = (o.filter P).foldl (gstep cs) (f.filter P)
  | [], f => rfl
  | p :: o, f => by
    rw [List.foldl_cons, gfold_filter P hP o, List.filter_cons]
    cases hp : P p with
    | true =>
      rw [if_pos rfl, List.foldl_cons]
      congr 1
      have hc : clash cs (f.filter P) p = clash cs f p := by
        unfold clash
        rw [List.any_filter]
        congr 1
        funext a
        cases hm : MM cs p a with
        | false => rw [Bool.and_false]
        | true => rw [← hP p a hm, hp]; rfl
      unfold gstep
      rw [hc]
      split
      · rfl
      · rw [List.filter_append]; simp [hp]
    | false =>
      rw [if_neg Bool.false_ne_true]
      congr 1
      unfold gstep
      split
      · rfl
      · rw [List.filter_append]; simp [hp]
end K15
end
section
namespace K15
local instance : DL.Tbs := ⟨[]⟩
open PySem PySem.Spec PyProof.Rows L2 DL
/-- the greedy choice among claims told by other numbers -/
theorem gfold_map {cs cs' : List Cl} (g : Nat → Nat) : ∀ (o f : List Nat), (∀ a b, a ∈ f ++ o → b ∈ f ++ o → MM cs' a b = MM cs (g a) (g b)) →
    (o.foldl (gstep cs') f).map g = (o.map g).foldl (gstep cs) (f.map g)
  | [], f, _ => rfl
  | p :: o, f, h => by
    have hp : p ∈ f ++ p :: o := List.mem_append_right _ List.mem_cons_self
    have hc : clash cs (f.map g) (g p) = clash cs' f p := by
      unfold clash
      rw [List.any_map]
      have hh : ∀ a ∈ f, MM cs' p a = MM cs (g p) (g a) := fun a ha => h p a hp (List.mem_append_left _ ha)
      clear h hp
      induction f with
      | nil => rfl
      | cons x f ih =>
        rw [List.any_cons, List.any_cons, ih fun a ha => hh a (List.mem_cons_of_mem _ ha), hh x List.mem_cons_self]
        rfl
    have hstep : (gstep cs' f p).map g = gstep cs (f.map g) (g p) := by
      unfold gstep
      rw [hc]
      split
      · rfl
      · rw [List.map_append]; rfl
    have hsub : ∀ x, x ∈ gstep cs' f p ++ o → x ∈ f ++ p :: o := fun x hx => by
      rcases List.mem_append.mp hx with hx | hx
      · rcases gstep_mem hx with hx | rfl
        · exact List.mem_append_left _ hx
        · exact hp
      · exact List.mem_append_right _ (List.mem_cons_of_mem _ hx)
    rw [List.foldl_cons, List.map_cons, List.foldl_cons, gfold_map g o _ fun a b ha hb => h a b (hsub a ha) (hsub b hb), hstep]
end K15
end
section
namespace K15
local instance : DL.Tbs := ⟨[]⟩
open PySem PySem.Spec PyProof.Rows L2 DL
def oLt (zs : List Int) (i j : Nat) : Prop := zs.getD i 0 < zs.getD j 0 ∨ (zs.getD i 0 = zs.getD j 0 ∧ i < j)
theorem ord_strict (zs : List Int) : (ordZ zs).Pairwise (oLt zs) := by
  have h : (ordZ zs).Pairwise fun i j => decide (zs.getD i 0 < zs.getD j 0 ∨ (zs.getD i 0 = zs.getD j 0 ∧ (i : Int) ≤ (j : Int))) = true := by
    rw [ordZ_is]
    refine List.pairwise_mergeSort (fun a b c h1 h2 => ?_) (fun a b => ?_) _
    · have h1 := of_decide_eq_true h1
      have h2 := of_decide_eq_true h2
      exact decide_eq_true (by omega)
    · rw [Bool.or_eq_true]
      by_cases h : zs.getD a 0 < zs.getD b 0 ∨ (zs.getD a 0 = zs.getD b 0 ∧ (a : Int) ≤ (b : Int))
      · exact .inl (decide_eq_true h)
      · exact .inr (decide_eq_true (by omega))
  have hn : (ordZ zs).Nodup := ord_nodup zs
  refine (h.and hn).imp ?_
  rintro a b ⟨h1, h2⟩
  have h1 := of_decide_eq_true h1
  unfold oLt
  omega
theorem ord_filter (zs zs' : List Int) (P : Nat → Bool) (here : List Nat) (hh : here = (List.range zs.length).filter P) (hl : zs'.length = here.length)
    (hz : ∀ i, i < here.length → zs'.getD i 0 = zs.getD (here.getD i 0) 0) : (ordZ zs).filter P = (ordZ zs').map fun i => here.getD i 0 := by
  have hasc : here.Pairwise (· < ·) := by rw [hh]; exact List.Pairwise.sublist (List.filter_sublist ..) List.pairwise_lt_range
  have hget : ∀ i (h : i < here.length), here.getD i 0 = here[i] := fun i h => by rw [List.getD_eq_getElem?_getD, List.getElem?_eq_getElem h]; rfl
  refine asc_unique (oLt zs) (fun a h => by unfold oLt at h; omega) (fun a b c h1 h2 => by unfold oLt at *; omega) (List.Pairwise.sublist (List.filter_sublist ..) (ord_strict zs)) ?_ ?_
  · rw [List.pairwise_map]
    refine List.Pairwise.imp_of_mem (fun {a b} ha hb h => ?_) (ord_strict zs')
    have ka := ord_mem ha
    have kb := ord_mem hb
    rw [hl] at ka kb
    unfold oLt at h ⊢
    rw [hz a ka, hz b kb] at h
    rcases h with h | ⟨h1, h2⟩
    · exact .inl h
    · refine .inr ⟨h1, ?_⟩
      rw [hget a ka, hget b kb]
      exact (List.pairwise_iff_getElem.mp hasc) a b ka kb h2
  · intro k
    rw [List.mem_filter, List.mem_map]
    have hk : k ∈ here ↔ k < zs.length ∧ P k = true := by rw [hh, List.mem_filter, List.mem_range]
    constructor
    · rintro ⟨h1, h2⟩
      obtain ⟨i, hi, e⟩ := List.mem_iff_getElem.mp (hk.mpr ⟨ord_mem h1, h2⟩)
      exact ⟨i, (ord_perm zs').mem_iff.mpr (List.mem_range.mpr (by omega)), by rw [hget i hi, e]⟩
    · rintro ⟨i, hi, e⟩
      have ki := ord_mem hi
      rw [hl] at ki
      have : k ∈ here := by rw [← e, hget i ki]; exact List.getElem_mem ki
      obtain ⟨h1, h2⟩ := hk.mp this
      exact ⟨(ord_perm zs).mem_iff.mpr (List.mem_range.mpr h1), h2⟩
end K15
end
section
namespace K15
local instance : DL.Tbs := ⟨[]⟩
open PySem PySem.Spec PyProof.Rows L2 DL
/-- the claims of some numbers -/
def pick (cs : List Cl) (here : List Nat) : List Cl := here.map (cl cs)
theorem cl_pick {cs : List Cl} {here : List Nat} {i : Nat} (hi : i < here.length) : cl (pick cs here) i = cl cs (here.getD i 0) := by
  unfold pick
  show ((here.map (cl cs)).getD i c0) = _
  rw [List.getD_eq_getElem?_getD, List.getElem?_map, List.getD_eq_getElem?_getD, List.getElem?_eq_getElem hi]; rfl
/-- the greedy choice of one class of claims, told by their own numbers, is what the choice among all keeps of the class -/
theorem greedy_class {cs : List Cl} {here : List Nat} {P : Nat → Bool} {zs zs' : List Int} (hP : ∀ a b, MM cs a b = true → P a = P b)
    (hn : zs.length = cs.length) (hh : here = (List.range cs.length).filter P) (hl : zs'.length = here.length) (hz : ∀ i, i < here.length → zs'.getD i 0 = zs.getD (here.getD i 0) 0) :
    (greedy cs (ordZ zs)).filter P = (greedy (pick cs here) (ordZ zs')).map fun i => here.getD i 0 := by
  unfold greedy
  rw [gfold_filter P hP, List.filter_nil, ord_filter zs zs' P here (by rw [hn]; exact hh) hl hz]
  refine (gfold_map (fun i => here.getD i 0) (ordZ zs') [] fun a b ha hb => ?_).symm
  rw [List.nil_append] at ha hb
  have ka := ord_mem ha
  have kb := ord_mem hb
  rw [hl] at ka kb
  unfold MM
  rw [cl_pick ka, cl_pick kb]
end K15
end
section
namespace K15
local instance : DL.Tbs := ⟨[]⟩
open PySem PySem.Spec PyProof.Rows L2 DL
theorem fMin_ii (i j : Int) : fMin [.int i, .int j] = some (.int (if j < i then j else i)) := rfl
theorem fMax_ii (i j : Int) : fMax [.int i, .int j] = some (.int (if j > i then j else i)) := rfl
/-- how many turns a law's numbers give -/
def cellsN (n : Nat) : Nat := if n ≤ 1 then 1 else if n = 2 then 2 else 3
theorem cells_le (n : Nat) : cellsN n ≤ 3 ∧ 1 ≤ cellsN n := by unfold cellsN; split <;> (try split) <;> omega
theorem cells_mm (n : Nat) : (if (if (n : Int) < 3 then (n : Int) else 3) > 1 then (if (n : Int) < 3 then (n : Int) else 3) else 1) = ((cellsN n : Nat) : Int) := by
  unfold cellsN
  by_cases h1 : n ≤ 1
  · rw [if_pos h1, if_pos (by omega : (n : Int) < 3), if_neg (by omega)]; rfl
  · rw [if_neg h1]
    by_cases h2 : n = 2
    · subst h2; rfl
    · rw [if_neg h2, if_neg (by omega : ¬ (n : Int) < 3)]; rfl
theorem law_cellsE (ns : List Int) (h : ns.length ≤ 1000000) : f_law_cells [.list (ns.map PyData.int), .int 3] = some (.list ((List.range (cellsN ns.length)).map eN)) := by
  have hl : fLen [.list (ns.map PyData.int)] = some (.int ns.length) := by simp [runP_ap, initP, bnd_ap, ret_ap, lft_ap, nm_ap, frzv_ap, frzo_ap, dat_ap, val_ap, getv_ap, geto_ap, gets2_ap, op2_ap, op1_ap, tbool_ap, mAnd_ap, mOr_ap, mNot_ap, vAnd_ap, vOr_ap, vNot_ap, mIte_ap, aNil_ap, aCons_ap, datA_ap, getA_ap, opA_ap, mTup_ap, mLst_ap, foD_ap, mCall_ap, mChain_ap, mIsi_ap, mSeq_ap, mEnum_ap, mZip_ap, mRng_ap, mLc_ap, pNo_ap, pYes_ap, mListRng_ap, sNx_ap, sNever_ap, sSeq_ap, sRet_ap, sRetO_ap, sDrop_ap, sIf_ap, rvD_ap, rvO_ap, sSet_ap, sTgt_ap, sFor_ap, mMt_ap, chkL_ap, putM_ap, stN_ap, stRv_ap, stRf_ap, tgT_ap, tgC_ap, tg0_ap, sPar_ap, sPar3_ap, sPut_ap, mCut_ap, mMaxLen_ap, mSrtSet_ap, mSrtKey_ap, mKeys_ap, mDGet_ap, dicOf_ap, putMD_ap, sDPutM_ap, mLock_ap, mCallI_ap, mCallO_ap, mCallF_ap, runB_ap, runO_ap, agD, agG, agI, slD, Sl.isBr, seqD, fLe_ap, fLt_ap, fGt_ap, fGe_ap, fSub_ap, fAdd_ap, fNeg_ap, fLen_t, fLen_l, fAll_l, fAny_l, fTuple_l, fTuple_t, fList_l, fList_t, fInt_i, fEq_int, fNe_int, fIx_t, fIx_l, fIs_b, fNis_b, fIs_n, fNis_n, isNone_i, isNone_n, fApp_i, fApp_t, fExt_l]
  have hr : fLRng (.int ((cellsN ns.length : Nat) : Int)) = some (.ol ((List.range (cellsN ns.length)).map eN)) := by
    have := (cells_le ns.length).1
    show (if (0 : Int) ≤ ((cellsN ns.length : Nat) : Int) ∧ ((cellsN ns.length : Nat) : Int) ≤ 16777216 then some (Sl.ol (rngD 0 (((cellsN ns.length : Nat) : Int)).toNat)) else none) = _
    rw [if_pos (by omega), show (((cellsN ns.length : Nat) : Int)).toNat = cellsN ns.length by omega, rng_N]
  have hm := cells_mm ns.length
  have hM : fMax [.int 1, .int (if (ns.length : Int) < 3 then (ns.length : Int) else 3)] = some (.int ((cellsN ns.length : Nat) : Int)) := by rw [fMax_ii, hm]
  unfold f_law_cells m_law_cells
  generalize ns.map PyData.int = D at *
  simp [runP_ap, initP, bnd_ap, ret_ap, lft_ap, nm_ap, frzv_ap, frzo_ap, dat_ap, val_ap, getv_ap, geto_ap, gets2_ap, op2_ap, op1_ap, tbool_ap, mAnd_ap, mOr_ap, mNot_ap, vAnd_ap, vOr_ap, vNot_ap, mIte_ap, aNil_ap, aCons_ap, datA_ap, getA_ap, opA_ap, mTup_ap, mLst_ap, foD_ap, mCall_ap, mChain_ap, mIsi_ap, mSeq_ap, mEnum_ap, mZip_ap, mRng_ap, mLc_ap, pNo_ap, pYes_ap, mListRng_ap, sNx_ap, sNever_ap, sSeq_ap, sRet_ap, sRetO_ap, sDrop_ap, sIf_ap, rvD_ap, rvO_ap, sSet_ap, sTgt_ap, sFor_ap, mMt_ap, chkL_ap, putM_ap, stN_ap, stRv_ap, stRf_ap, tgT_ap, tgC_ap, tg0_ap, sPar_ap, sPar3_ap, sPut_ap, mCut_ap, mMaxLen_ap, mSrtSet_ap, mSrtKey_ap, mKeys_ap, mDGet_ap, dicOf_ap, putMD_ap, sDPutM_ap, mLock_ap, mCallI_ap, mCallO_ap, mCallF_ap, runB_ap, runO_ap, agD, agG, agI, slD, Sl.isBr, seqD, fLe_ap, fLt_ap, fGt_ap, fGe_ap, fSub_ap, fAdd_ap, fNeg_ap, fLen_t, fLen_l, fAll_l, fAny_l, fTuple_l, fTuple_t, fList_l, fList_t, fInt_i, fEq_int, fNe_int, fIx_t, fIx_l, fIs_b, fNis_b, fIs_n, fNis_n, isNone_i, isNone_n, fApp_i, fApp_t, fExt_l, hl, fMin_ii, hM, hr]
end K15
end
section
namespace K15
local instance : DL.Tbs := ⟨[]⟩
open PySem PySem.Spec PyProof.Rows L2 DL
/-! corner by corner -/
def Pk (cs : List Cl) (k : Nat) (i : Nat) : Bool := decide ((cl cs i).1 = (k : Int))
def hereOf (cs : List Cl) (k : Nat) : List Nat := (List.range cs.length).filter (Pk cs k)
def someOf (cs : List Cl) (k : Nat) : List Cl := pick cs (hereOf cs k)
theorem some_len (cs : List Cl) (k : Nat) : (someOf cs k).length = (hereOf cs k).length := List.length_map ..
theorem here_lt {cs : List Cl} {k i : Nat} (h : i ∈ hereOf cs k) : i < cs.length := List.mem_range.mp (List.mem_filter.mp h).1
theorem here_P {cs : List Cl} {k i : Nat} (h : i ∈ hereOf cs k) : (cl cs i).1 = (k : Int) := of_decide_eq_true (List.mem_filter.mp h).2
theorem here_get {cs : List Cl} {k j : Nat} (hj : j < (hereOf cs k).length) : (hereOf cs k).getD j 0 ∈ hereOf cs k := by
  rw [List.getD_eq_getElem?_getD, List.getElem?_eq_getElem hj]
  exact List.getElem_mem hj
theorem here_inj {cs : List Cl} {k i j : Nat} (hi : i < (hereOf cs k).length) (hj : j < (hereOf cs k).length) (e : (hereOf cs k).getD i 0 = (hereOf cs k).getD j 0) : i = j := by
  have nd : (hereOf cs k).Pairwise (· < ·) := List.Pairwise.sublist (List.filter_sublist ..) List.pairwise_lt_range
  rw [List.getD_eq_getElem?_getD, List.getElem?_eq_getElem hi, List.getD_eq_getElem?_getD, List.getElem?_eq_getElem hj] at e
  have e : (hereOf cs k)[i] = (hereOf cs k)[j] := e
  have f := List.pairwise_iff_getElem.mp nd
  rcases Nat.lt_trichotomy i j with h | h | h
  · have := f i j hi hj h; omega
  · exact h
  · have := f j i hj hi h; omega
theorem some_okc {cs : List Cl} (h : Okc cs) (k : Nat) : Okc (someOf cs k) := by
  refine ⟨fun c hc => ?_, ?_⟩
  · obtain ⟨i, hi, rfl⟩ := List.mem_map.mp hc
    exact okc_at h (here_lt hi)
  · rw [some_len]
    refine Nat.le_trans ?_ h.few
    have := List.length_filter_le (Pk cs k) (List.range cs.length)
    rwa [List.length_range] at this
theorem Pk_MM {cs : List Cl} {k : Nat} (a b : Nat) (h : MM cs a b = true) : Pk cs k a = Pk cs k b := by
  unfold Pk
  have := (of_decide_eq_true h).1
  rw [this]
theorem some_z {cs : List Cl} {f : Cl → Int} (h0 : f c0 = 0) {k i : Nat} (hi : i < (hereOf cs k).length) : ((someOf cs k).map f).getD i 0 = (cs.map f).getD ((hereOf cs k).getD i 0) 0 := by
  rw [get_map h0, get_map h0]
  unfold someOf
  rw [cl_pick hi]
theorem lot_class (cs : List Cl) (k : Nat) : (lotOf cs).filter (Pk cs k) = (lotOf (someOf cs k)).map fun i => (hereOf cs k).getD i 0 :=
  greedy_class Pk_MM (lss_len cs) rfl ((lss_len _).trans (some_len cs k)) fun i hi => some_z (f := (·.2.2.1)) rfl hi
def gr (cs : List Cl) : List Nat := greedy cs (ordZ (rks cs))
theorem gr_class (cs : List Cl) (k : Nat) : (gr cs).filter (Pk cs k) = (gr (someOf cs k)).map fun i => (hereOf cs k).getD i 0 :=
  greedy_class Pk_MM (rks_len cs) rfl ((rks_len _).trans (some_len cs k)) fun i hi => some_z (f := (·.2.2.2)) rfl hi
/-- a list by classes -/
theorem by_class (c : Nat → Int) : ∀ (m : Nat) (l : List Nat), (∀ i ∈ l, 0 ≤ c i ∧ c i < (m : Int)) → ((List.range m).flatMap fun (k : Nat) => l.filter fun i => decide (c i = (k : Int))).Perm l := by
  intro m
  induction m with
  | zero =>
    intro l h
    cases l with
    | nil => exact List.Perm.refl _
    | cons a l => have := h a List.mem_cons_self; omega
  | succ m ih =>
    intro l h
    rw [List.range_succ, List.flatMap_append]
    have e : ((List.range m).flatMap fun (k : Nat) => l.filter fun i => decide (c i = (k : Int))) = (List.range m).flatMap fun (k : Nat) => (l.filter fun i => !decide (c i = (m : Int))).filter fun i => decide (c i = (k : Int)) := by
      rw [List.flatMap_def, List.flatMap_def]
      congr 1
      refine List.map_congr_left fun k hk => ?_
      rw [List.filter_filter]
      refine List.filter_congr fun i hi => ?_
      have := List.mem_range.mp hk
      by_cases h1 : c i = (k : Int)
      · have h2 : ¬ c i = (m : Int) := by omega
        simp [h1]; omega
      · simp [h1]
    rw [e]
    have i1 := ih (l.filter fun i => !decide (c i = (m : Int))) fun i hi => by
      obtain ⟨h1, h2⟩ := List.mem_filter.mp hi
      have := h i h1
      have h3 : ¬ c i = (m : Int) := by simpa using h2
      omega
    refine (i1.append_right _).trans ?_
    rw [List.flatMap_cons, List.flatMap_nil, List.append_nil]
    refine List.perm_append_comm.trans ?_
    exact List.filter_append_perm (fun i => decide (c i = (m : Int))) l
theorem cls {cs : List Cl} (h : Okc cs) {l : List Nat} (hl : ∀ i ∈ l, i < cs.length) : ((List.range 7).flatMap fun k => l.filter (Pk cs k)).Perm l :=
  by_class (fun i => (cl cs i).1) 7 l fun i hi => by
    have := okc_at h (hl i hi)
    exact ⟨this.1, this.2.1⟩
def standsTo (cs : List Cl) (k : Nat) : Nat := ((List.range k).flatMap fun j => lotOf (someOf cs j)).length
def fineTo (cs : List Cl) (k : Nat) : List Nat := (List.range k).flatMap fun j => (srtN (gr (someOf cs j))).map fun i => (hereOf cs j).getD i 0
def mostTo (cs : List Cl) (k : Nat) : Nat := (List.range k).foldl (fun m j => if (fullOf (someOf cs j)).length > m then (fullOf (someOf cs j)).length else m) 0
theorem stands_succ (cs : List Cl) (k : Nat) : standsTo cs (k + 1) = standsTo cs k + (lotOf (someOf cs k)).length := by
  unfold standsTo
  rw [List.range_succ, List.flatMap_append, List.length_append, List.flatMap_cons, List.flatMap_nil, List.append_nil]
theorem fine_succ (cs : List Cl) (k : Nat) : fineTo cs (k + 1) = fineTo cs k ++ (srtN (gr (someOf cs k))).map fun i => (hereOf cs k).getD i 0 := by
  unfold fineTo
  rw [List.range_succ, List.flatMap_append, List.flatMap_cons, List.flatMap_nil, List.append_nil]
theorem most_succ (cs : List Cl) (k : Nat) : mostTo cs (k + 1) = if (fullOf (someOf cs k)).length > mostTo cs k then (fullOf (someOf cs k)).length else mostTo cs k := by
  unfold mostTo
  rw [List.range_succ, List.foldl_append, List.foldl_cons, List.foldl_nil]
theorem stands_all {cs : List Cl} (h : Okc cs) : standsTo cs 7 = (lotOf cs).length := by
  have p := cls h (l := lotOf cs) fun i hi => greedy_below (lss_len cs) hi
  rw [← p.length_eq]
  unfold standsTo
  rw [List.length_flatMap, List.length_flatMap]
  congr 1
  refine List.map_congr_left fun k _ => ?_
  rw [lot_class, List.length_map]
theorem flat_perm {α : Type} (f g : Nat → List α) : ∀ l : List Nat, (∀ k ∈ l, (f k).Perm (g k)) → (l.flatMap f).Perm (l.flatMap g)
  | [], _ => List.Perm.refl _
  | a :: l, h => by
    rw [List.flatMap_cons, List.flatMap_cons]
    exact (h a List.mem_cons_self).append (flat_perm f g l fun k hk => h k (List.mem_cons_of_mem _ hk))
theorem fine_perm {cs : List Cl} (h : Okc cs) : (fineTo cs 7).Perm (gr cs) := by
  have p := cls h (l := gr cs) fun i hi => greedy_below (rks_len cs) hi
  refine List.Perm.trans ?_ p
  unfold fineTo
  refine flat_perm _ _ _ fun k _ => ?_
  rw [gr_class]
  exact (srtN_perm _).map _
theorem gr_nodup (cs : List Cl) : (gr cs).Nodup := greedy_nodup cs _
theorem fine_srt {cs : List Cl} (h : Okc cs) : srtN (fineTo cs 7) = srtN (gr cs) := by
  have p := fine_perm h
  refine asc_unique (· < ·) (fun a => Nat.lt_irrefl a) (fun a b c => Nat.lt_trans) (srtN_asc (p.nodup_iff.mpr (gr_nodup cs))) (srtN_asc (gr_nodup cs)) fun k => ?_
  exact (((srtN_perm _).trans p).trans (srtN_perm _).symm).mem_iff
theorem hpin_some {cs : List Cl} {k j : Nat} (hj : j < (hereOf cs k).length) : hpin (someOf cs k) j = hpin cs ((hereOf cs k).getD j 0) := by
  unfold hpin someOf
  rw [cl_pick hj]
/-- what a pin of a corner holds -/
theorem held_some {cs : List Cl} {k : Nat} {p : Int × Int} (hp : p.1 = (k : Int)) : (heldOf (someOf cs k) p).length = (heldOf cs p).length := by
  have e : heldOf cs p = (hereOf cs k).filter fun i => hd p (cl cs i) := by
    unfold heldOf hereOf
    rw [List.filter_filter]
    refine List.filter_congr fun i _ => ?_
    by_cases h1 : hd p (cl cs i) = true
    · have h2 := (of_decide_eq_true h1).1
      have : Pk cs k i = true := decide_eq_true (by omega)
      rw [h1, this]; rfl
    · rw [Bool.not_eq_true] at h1
      rw [h1]; rfl
  rw [e]
  unfold heldOf
  rw [some_len, ← List.countP_eq_length_filter, ← List.countP_eq_length_filter]
  have e2 : (hereOf cs k) = (List.range (hereOf cs k).length).map fun j => (hereOf cs k).getD j 0 := by
    apply List.ext_getElem?
    intro i
    rw [List.getElem?_map]
    by_cases hi : i < (hereOf cs k).length
    · rw [List.getElem?_eq_getElem hi, List.getElem?_eq_getElem (by rw [List.length_range]; exact hi), Option.map_some, List.getElem_range, List.getD_eq_getElem?_getD, List.getElem?_eq_getElem hi]
      rfl
    · rw [List.getElem?_eq_none (by omega), List.getElem?_eq_none (by rw [List.length_range]; omega)]
      rfl
  rw [show List.countP (fun i => hd p (cl cs i)) (hereOf cs k) = List.countP (fun i => hd p (cl cs i)) ((List.range (hereOf cs k).length).map fun j => (hereOf cs k).getD j 0) from congrArg _ e2, List.countP_map]
  refine List.countP_congr fun j hj => ?_
  unfold someOf
  rw [cl_pick (List.mem_range.mp hj)]
  rfl
theorem full_some_le {cs : List Cl} (k : Nat) : (fullOf (someOf cs k)).length ≤ (fullOf cs).length := by
  rcases full_is (someOf cs k) with e | ⟨j, hj, e⟩ <;> rw [e]
  · exact Nat.zero_le _
  · rw [some_len] at hj
    have hm := here_get hj
    rw [hpin_some hj, held_some (here_P hm)]
    exact held_le (here_lt hm)
theorem full_some_ge {cs : List Cl} (h : Okc cs) : (fullOf cs).length = 0 ∨ ∃ k, k < 7 ∧ (fullOf cs).length ≤ (fullOf (someOf cs k)).length := by
  rcases full_is cs with e | ⟨i, hi, e⟩
  · exact .inl (by rw [e]; rfl)
  · have o := okc_at h hi
    obtain ⟨k, hk⟩ : ∃ k : Nat, (cl cs i).1 = (k : Int) := ⟨(cl cs i).1.toNat, by have := o.1; omega⟩
    refine .inr ⟨k, by have := o.2.1; omega, ?_⟩
    have hm : i ∈ hereOf cs k := List.mem_filter.mpr ⟨List.mem_range.mpr hi, decide_eq_true hk⟩
    obtain ⟨j, hj, ej⟩ := List.mem_iff_getElem.mp hm
    have ej2 : (hereOf cs k).getD j 0 = i := by rw [List.getD_eq_getElem?_getD, List.getElem?_eq_getElem hj, ej]; rfl
    have := held_le (cs := someOf cs k) (i := j) (by rw [some_len]; exact hj)
    rw [hpin_some hj, ej2, held_some hk, ← e] at this
    exact this
theorem most_ge (cs : List Cl) : ∀ m k, k < m → (fullOf (someOf cs k)).length ≤ mostTo cs m
  | 0, k, h => by omega
  | m + 1, k, h => by
    rw [most_succ]
    by_cases e : k = m
    · subst e; split <;> omega
    · have := most_ge cs m k (by omega)
      split <;> omega
theorem most_le (cs : List Cl) : ∀ m, mostTo cs m ≤ (fullOf cs).length
  | 0 => Nat.zero_le _
  | m + 1 => by
    rw [most_succ]
    have := most_le cs m
    have := full_some_le (cs := cs) m
    split <;> omega
theorem most_all {cs : List Cl} (h : Okc cs) : mostTo cs 7 = (fullOf cs).length := by
  have h1 := most_le cs 7
  rcases full_some_ge h with e | ⟨k, hk, e⟩
  · omega
  · have := most_ge cs 7 k hk
    omega
/-- who bars a claim -/
theorem gr_in {cs : List Cl} {k j : Nat} (hj : j < (hereOf cs k).length) : (hereOf cs k).getD j 0 ∈ gr cs ↔ j ∈ gr (someOf cs k) := by
  have hm := here_get hj
  have e : (hereOf cs k).getD j 0 ∈ gr cs ↔ (hereOf cs k).getD j 0 ∈ (gr cs).filter (Pk cs k) := by
    rw [List.mem_filter]
    exact ⟨fun h => ⟨h, decide_eq_true (here_P hm)⟩, fun h => h.1⟩
  rw [e, gr_class, List.mem_map]
  constructor
  · rintro ⟨i, hi, ei⟩
    have hi2 : i < (hereOf cs k).length := by rw [← some_len]; exact greedy_below (rks_len _) hi
    rw [← here_inj hi2 hj ei]; exact hi
  · exact fun h => ⟨j, h, rfl⟩
theorem bars_some {cs : List Cl} {k j : Nat} (hj : j < (hereOf cs k).length) : bars cs ((hereOf cs k).getD j 0) = (bars (someOf cs k) j).map fun i => (hereOf cs k).getD i 0 := by
  have hm := here_get hj
  unfold bars
  have e : (gr cs).filter (fun p => MM cs p ((hereOf cs k).getD j 0)) = ((gr cs).filter (Pk cs k)).filter fun p => MM cs p ((hereOf cs k).getD j 0) := by
    rw [List.filter_filter]
    refine List.filter_congr fun i _ => ?_
    by_cases h1 : MM cs i ((hereOf cs k).getD j 0) = true
    · have h2 := Pk_MM (k := k) _ _ h1
      have h3 : Pk cs k ((hereOf cs k).getD j 0) = true := decide_eq_true (here_P hm)
      rw [h2, h3, h1]; rfl
    · rw [Bool.not_eq_true] at h1
      rw [h1]; rfl
  show (gr cs).filter _ = _
  rw [e, gr_class, List.filter_map]
  congr 1
  refine List.filter_congr fun i hi => ?_
  have hi2 : i < (hereOf cs k).length := by rw [← some_len]; exact greedy_below (rks_len _) hi
  unfold MM someOf
  rw [cl_pick hi2, cl_pick hj]
  rfl
theorem bars_ne {cs : List Cl} {i : Nat} (hi : i < cs.length) (hn : i ∉ gr cs) : ∃ p, (bars cs i)[0]? = some p := by
  have hm : i ∈ ordZ (rks cs) := (ord_perm _).mem_iff.mpr (List.mem_range.mpr (by rw [rks_len]; exact hi))
  rcases gfold_cover (ordZ (rks cs)) [] i hm with h | ⟨y, h1, h2, _⟩
  · exact absurd h hn
  · have : y ∈ bars cs i := List.mem_filter.mpr ⟨h1, by rw [MM_comm]; exact h2⟩
    cases e : bars cs i with
    | nil => rw [e] at this; nomatch this
    | cons a l => exact ⟨a, rfl⟩
theorem bars_below {cs : List Cl} {i p : Nat} (h : (bars cs i)[0]? = some p) : p < cs.length := by
  have : p ∈ bars cs i := List.mem_of_getElem? h
  exact greedy_below (rks_len cs) (List.mem_filter.mp this).1
end K15
end
section
namespace K15
local instance : DL.Tbs := ⟨[]⟩
open PySem PySem.Spec PyProof.Rows L2 DL
/-! the draws -/
theorem sm {i : Int} (h1 : -18446744073709551616 < i) (h2 : i < 18446744073709551616) : smallB i = true := by
  refine decide_eq_true (Nat.lt_of_lt_of_le (m := 18446744073709551616) (by omega) ?_)
  decide +kernel
theorem fMul_s {i j : Int} (h1 : smallB i = true) (h2 : smallB j = true) : fMul (.int i) (.int j) = some (.int (i * j)) := by
  show (if cMul i j = true then some (PyData.int (i * j)) else none) = _
  rw [if_pos]
  unfold cMul
  rw [h1, h2]; rfl
theorem fDiv_s {i j : Int} (h1 : 0 < j) (h2 : smallB j = true) : fDiv (.int i) (.int j) = some (.int (i / j)) := by
  show (if cDiv i j = true then some (PyData.int (i / j)) else none) = _
  rw [if_pos]
  unfold cDiv
  rw [h2, decide_eq_true h1]; rfl
theorem fMod_s {i j : Int} (h1 : 0 < j) : fMod (.int i) (.int j) = some (.int (i % j)) := by
  show (if cMod i j = true then some (PyData.int (i % j)) else none) = _
  rw [if_pos]
  exact decide_eq_true h1
theorem fPow_s {i j : Int} (h0 : 0 ≤ j) (h1 : j ≤ 1000) (h2 : smallB i = true) : fPow (.int i) (.int j) = some (.int (i ^ j.toNat)) := by
  show (if cPow i j = true then some (PyData.int (i ^ j.toNat)) else none) = _
  rw [if_pos]
  unfold cPow
  rw [h2, decide_eq_true h0, decide_eq_true h1]; rfl
def Pot (n : Nat) (P : List PyData) : Prop := ∃ a b c : Int, P = [.int a, .int b, .int c] ∧ 0 ≤ b ∧ b < 2305843009213693952 ∧ 0 ≤ c ∧ c ≤ n
theorem put0 (a b c d : PyData) : fPut 0 d [a, b, c] = some (.none, [d, b, c]) := rfl
theorem put2 (a b c d : PyData) : fPut 2 d [a, b, c] = some (.none, [a, b, d]) := rfl
theorem take_pos {a b c u : Int} (ha : 0 < a) (hu : 0 < u) (hs : smallB u = true) : f_law_take [.int a, .int b, .int c] [.int u] = some (.int (a % u), [.int (a / u), .int b, .int c]) := by
  have h1 : fMod (.int a) (.int u) = some (.int (a % u)) := fMod_s hu
  have h2 : fDiv (.int a) (.int u) = some (.int (a / u)) := fDiv_s hu hs
  generalize a % u = r at *
  generalize a / u = q at *
  unfold f_law_take m_law_take
  simp [runP_ap, initP, bnd_ap, ret_ap, lft_ap, nm_ap, frzv_ap, frzo_ap, dat_ap, val_ap, getv_ap, geto_ap, gets2_ap, op2_ap, op1_ap, tbool_ap, mAnd_ap, mOr_ap, mNot_ap, vAnd_ap, vOr_ap, vNot_ap, mIte_ap, aNil_ap, aCons_ap, datA_ap, getA_ap, opA_ap, mTup_ap, mLst_ap, foD_ap, mCall_ap, mChain_ap, mIsi_ap, mSeq_ap, mEnum_ap, mZip_ap, mRng_ap, mLc_ap, pNo_ap, pYes_ap, mListRng_ap, sNx_ap, sNever_ap, sSeq_ap, sRet_ap, sRetO_ap, sDrop_ap, sIf_ap, rvD_ap, rvO_ap, sSet_ap, sTgt_ap, sFor_ap, mMt_ap, chkL_ap, putM_ap, stN_ap, stRv_ap, stRf_ap, tgT_ap, tgC_ap, tg0_ap, sPar_ap, sPar3_ap, sPut_ap, mCut_ap, mMaxLen_ap, mSrtSet_ap, mSrtKey_ap, mKeys_ap, mDGet_ap, dicOf_ap, putMD_ap, sDPutM_ap, mLock_ap, mCallI_ap, mCallO_ap, mCallF_ap, runB_ap, runO_ap, agD, agG, agI, slD, Sl.isBr, seqD, fLe_ap, fLt_ap, fGt_ap, fGe_ap, fSub_ap, fAdd_ap, fNeg_ap, fLen_t, fLen_l, fAll_l, fAny_l, fTuple_l, fTuple_t, fList_l, fList_t, fInt_i, fEq_int, fNe_int, fIx_t, fIx_l, fIs_b, fNis_b, fIs_n, fNis_n, isNone_i, isNone_n, fApp_i, fApp_t, fExt_l, at0, ha, h1, h2, put0]
theorem prime_at {k : Int} (h0 : 0 ≤ k) (h1 : k < 5) : ∃ p : Int, atI [PyData.int 2147483647, .int 2147483629, .int 2147483587, .int 2147483579, .int 2147483563] k = some (.int p) ∧ 0 < p ∧ p ≤ 2147483647 := by
  have : k = 0 ∨ k = 1 ∨ k = 2 ∨ k = 3 ∨ k = 4 := by omega
  rcases this with rfl | rfl | rfl | rfl | rfl
  · exact ⟨_, rfl, by omega, by omega⟩
  · exact ⟨_, rfl, by omega, by omega⟩
  · exact ⟨_, rfl, by omega, by omega⟩
  · exact ⟨_, rfl, by omega, by omega⟩
  · exact ⟨_, rfl, by omega, by omega⟩
theorem take_mix {a b c u : Int} (ha : ¬ 0 < a) (hb : 0 ≤ b) (hb2 : b < 2305843009213693952) (hc : 0 ≤ c) (hc2 : c ≤ 1000) (hu : 0 < u) : ∃ r, f_law_take [.int a, .int b, .int c] [.int u] = some (.int r, [.int a, .int b, .int (c + 1)]) ∧ 0 ≤ r ∧ r < u := by
  have hk : fMod (.int (c + 1)) (.int 5) = some (.int ((c + 1) % 5)) := fMod_s (by omega)
  obtain ⟨p, hp, p0, p1⟩ := prime_at (k := (c + 1) % 5) (by omega) (by omega)
  generalize (c + 1) % 5 = k at *
  have h1 : fMul (.int 51917) (.int (c + 1)) = some (.int (51917 * (c + 1))) := fMul_s (sm (by omega) (by omega)) (sm (by omega) (by omega))
  have b1 : 0 ≤ 51917 * (c + 1) ∧ 51917 * (c + 1) ≤ 51917 * 1001 := by omega
  generalize 51917 * (c + 1) = m1 at *
  have h2 : fMul (.int m1) (.int (c + 1)) = some (.int (m1 * (c + 1))) := fMul_s (sm (by omega) (by omega)) (sm (by omega) (by omega))
  have b2 : 0 ≤ m1 * (c + 1) ∧ m1 * (c + 1) ≤ 51917 * 1001 * 1001 := ⟨Int.mul_nonneg b1.1 (by omega), Int.mul_le_mul b1.2 (by omega) (by omega) (by omega)⟩
  generalize m1 * (c + 1) = m2 at *
  have h3 : fPow (.int (b + m2 + 3176)) (.int 3) = some (.int ((b + m2 + 3176) ^ (3 : Int).toNat)) := fPow_s (by omega) (by omega) (sm (by omega) (by omega))
  generalize (b + m2 + 3176) ^ (3 : Int).toNat = m3 at *
  have h4 : fMod (.int m3) (.int p) = some (.int (m3 % p)) := fMod_s p0
  have b4 : 0 ≤ m3 % p ∧ m3 % p < p := ⟨Int.emod_nonneg _ (by omega), Int.emod_lt_of_pos _ p0⟩
  generalize m3 % p = m4 at *
  have h5 : fMod (.int m4) (.int 8191) = some (.int (m4 % 8191)) := fMod_s (by omega)
  have b5 : 0 ≤ m4 % 8191 ∧ m4 % 8191 < 8191 := by omega
  generalize m4 % 8191 = m5 at *
  have h6 : fMul (.int 716) (.int (c + 1)) = some (.int (716 * (c + 1))) := fMul_s (sm (by omega) (by omega)) (sm (by omega) (by omega))
  have b6 : 0 ≤ 716 * (c + 1) ∧ 716 * (c + 1) ≤ 716 * 1001 := by omega
  generalize 716 * (c + 1) = m6 at *
  have h7 : fMul (.int m4) (.int (m5 + m6)) = some (.int (m4 * (m5 + m6))) := fMul_s (sm (by omega) (by omega)) (sm (by omega) (by omega))
  generalize m4 * (m5 + m6) = m7 at *
  have h8 : fMod (.int m7) (.int 2305843009213693907) = some (.int (m7 % 2305843009213693907)) := fMod_s (by omega)
  generalize m7 % 2305843009213693907 = m8 at *
  have h9 : fDiv (.int m8) (.int 229) = some (.int (m8 / 229)) := fDiv_s (by omega) (sm (by omega) (by omega))
  generalize m8 / 229 = m9 at *
  have h10 : fMod (.int m9) (.int u) = some (.int (m9 % u)) := fMod_s hu
  have b10 : 0 ≤ m9 % u ∧ m9 % u < u := ⟨Int.emod_nonneg _ (by omega), Int.emod_lt_of_pos _ hu⟩
  generalize m9 % u = m10 at *
  refine ⟨m10, ?_, b10.1, b10.2⟩
  unfold f_law_take m_law_take
  simp [runP_ap, initP, bnd_ap, ret_ap, lft_ap, nm_ap, frzv_ap, frzo_ap, dat_ap, val_ap, getv_ap, geto_ap, gets2_ap, op2_ap, op1_ap, tbool_ap, mAnd_ap, mOr_ap, mNot_ap, vAnd_ap, vOr_ap, vNot_ap, mIte_ap, aNil_ap, aCons_ap, datA_ap, getA_ap, opA_ap, mTup_ap, mLst_ap, foD_ap, mCall_ap, mChain_ap, mIsi_ap, mSeq_ap, mEnum_ap, mZip_ap, mRng_ap, mLc_ap, pNo_ap, pYes_ap, mListRng_ap, sNx_ap, sNever_ap, sSeq_ap, sRet_ap, sRetO_ap, sDrop_ap, sIf_ap, rvD_ap, rvO_ap, sSet_ap, sTgt_ap, sFor_ap, mMt_ap, chkL_ap, putM_ap, stN_ap, stRv_ap, stRf_ap, tgT_ap, tgC_ap, tg0_ap, sPar_ap, sPar3_ap, sPut_ap, mCut_ap, mMaxLen_ap, mSrtSet_ap, mSrtKey_ap, mKeys_ap, mDGet_ap, dicOf_ap, putMD_ap, sDPutM_ap, mLock_ap, mCallI_ap, mCallO_ap, mCallF_ap, runB_ap, runO_ap, agD, agG, agI, slD, Sl.isBr, seqD, fLe_ap, fLt_ap, fGt_ap, fGe_ap, fSub_ap, fAdd_ap, fNeg_ap, fLen_t, fLen_l, fAll_l, fAny_l, fTuple_l, fTuple_t, fList_l, fList_t, fInt_i, fEq_int, fNe_int, fIx_t, fIx_l, fIs_b, fNis_b, fIs_n, fNis_n, isNone_i, isNone_n, fApp_i, fApp_t, fExt_l, at0, at1, at2, ha, hk, hp, h1, h2, h3, h4, h5, h6, h7, h8, h9, h10, put2]
theorem takeE {n : Nat} {P : List PyData} (h : Pot n P) (hn : n ≤ 1000) {u : Nat} (hu : 0 < u) (hu2 : u ≤ 1000) : ∃ (r : Nat) (P' : List PyData), f_law_take P [.int (u : Int)] = some (eN r, P') ∧ r < u ∧ Pot (n + 1) P' := by
  obtain ⟨a, b, c, rfl, hb, hb2, hc, hc2⟩ := h
  by_cases ha : 0 < a
  · have b1 : 0 ≤ a % (u : Int) ∧ a % (u : Int) < u := ⟨Int.emod_nonneg _ (by omega), Int.emod_lt_of_pos _ (by omega)⟩
    refine ⟨(a % (u : Int)).toNat, _, ?_, by omega, a / u, b, c, rfl, hb, hb2, hc, by omega⟩
    rw [take_pos ha (by omega) (sm (by omega) (by omega))]
    show some (PyData.int _, _) = some (PyData.int _, _)
    rw [show (((a % (u : Int)).toNat : Nat) : Int) = a % u by omega]
  · obtain ⟨r, h1, h2, h3⟩ := take_mix (a := a) (u := u) ha hb hb2 hc (by omega) (by omega)
    refine ⟨r.toNat, _, ?_, by omega, a, b, c + 1, rfl, hb, hb2, by omega, by omega⟩
    rw [h1]
    show some (PyData.int _, _) = some (PyData.int _, _)
    rw [show ((r.toNat : Nat) : Int) = r by omega]
theorem law_ofE {n : Nat} {P : List PyData} (h : Pot n P) (hn : n ≤ 1000) {xs : List Int} (h0 : 0 < xs.length) (h1 : xs.length ≤ 1000) : ∃ x ∈ xs, ∃ P', f_law_of P [.list (xs.map PyData.int)] = some (.int x, P') ∧ Pot (n + 1) P' := by
  obtain ⟨r, P', e, hr, hP⟩ := takeE h hn h0 h1
  have hat : atI (xs.map PyData.int) (r : Int) = some (.int xs[r]) := atI_nat (by rw [List.getElem?_map, List.getElem?_eq_getElem hr]; rfl)
  refine ⟨xs[r], List.getElem_mem hr, P', ?_, hP⟩
  have hlen : fLen [.list (xs.map PyData.int)] = some (.int xs.length) := by simp [runP_ap, initP, bnd_ap, ret_ap, lft_ap, nm_ap, frzv_ap, frzo_ap, dat_ap, val_ap, getv_ap, geto_ap, gets2_ap, op2_ap, op1_ap, tbool_ap, mAnd_ap, mOr_ap, mNot_ap, vAnd_ap, vOr_ap, vNot_ap, mIte_ap, aNil_ap, aCons_ap, datA_ap, getA_ap, opA_ap, mTup_ap, mLst_ap, foD_ap, mCall_ap, mChain_ap, mIsi_ap, mSeq_ap, mEnum_ap, mZip_ap, mRng_ap, mLc_ap, pNo_ap, pYes_ap, mListRng_ap, sNx_ap, sNever_ap, sSeq_ap, sRet_ap, sRetO_ap, sDrop_ap, sIf_ap, rvD_ap, rvO_ap, sSet_ap, sTgt_ap, sFor_ap, mMt_ap, chkL_ap, putM_ap, stN_ap, stRv_ap, stRf_ap, tgT_ap, tgC_ap, tg0_ap, sPar_ap, sPar3_ap, sPut_ap, mCut_ap, mMaxLen_ap, mSrtSet_ap, mSrtKey_ap, mKeys_ap, mDGet_ap, dicOf_ap, putMD_ap, sDPutM_ap, mLock_ap, mCallI_ap, mCallO_ap, mCallF_ap, runB_ap, runO_ap, agD, agG, agI, slD, Sl.isBr, seqD, fLe_ap, fLt_ap, fGt_ap, fGe_ap, fSub_ap, fAdd_ap, fNeg_ap, fLen_t, fLen_l, fAll_l, fAny_l, fTuple_l, fTuple_t, fList_l, fList_t, fInt_i, fEq_int, fNe_int, fIx_t, fIx_l, fIs_b, fNis_b, fIs_n, fNis_n, isNone_i, isNone_n, fApp_i, fApp_t, fExt_l]
  have hix : fIx (.list (xs.map PyData.int)) (eN r) = some (.int xs[r]) := hat
  generalize xs.map PyData.int = D at *
  generalize xs[r] = x at *
  unfold f_law_of m_law_of
  generalize eN r = ER at *
  simp [runP_ap, initP, bnd_ap, ret_ap, lft_ap, nm_ap, frzv_ap, frzo_ap, dat_ap, val_ap, getv_ap, geto_ap, gets2_ap, op2_ap, op1_ap, tbool_ap, mAnd_ap, mOr_ap, mNot_ap, vAnd_ap, vOr_ap, vNot_ap, mIte_ap, aNil_ap, aCons_ap, datA_ap, getA_ap, opA_ap, mTup_ap, mLst_ap, foD_ap, mCall_ap, mChain_ap, mIsi_ap, mSeq_ap, mEnum_ap, mZip_ap, mRng_ap, mLc_ap, pNo_ap, pYes_ap, mListRng_ap, sNx_ap, sNever_ap, sSeq_ap, sRet_ap, sRetO_ap, sDrop_ap, sIf_ap, rvD_ap, rvO_ap, sSet_ap, sTgt_ap, sFor_ap, mMt_ap, chkL_ap, putM_ap, stN_ap, stRv_ap, stRf_ap, tgT_ap, tgC_ap, tg0_ap, sPar_ap, sPar3_ap, sPut_ap, mCut_ap, mMaxLen_ap, mSrtSet_ap, mSrtKey_ap, mKeys_ap, mDGet_ap, dicOf_ap, putMD_ap, sDPutM_ap, mLock_ap, mCallI_ap, mCallO_ap, mCallF_ap, runB_ap, runO_ap, agD, agG, agI, slD, Sl.isBr, seqD, fLe_ap, fLt_ap, fGt_ap, fGe_ap, fSub_ap, fAdd_ap, fNeg_ap, fLen_t, fLen_l, fAll_l, fAny_l, fTuple_l, fTuple_t, fList_l, fList_t, fInt_i, fEq_int, fNe_int, fIx_t, fIx_l, fIs_b, fNis_b, fIs_n, fNis_n, isNone_i, isNone_n, fApp_i, fApp_t, fExt_l, hlen, e, hix]
end K15
end
section
namespace K15
local instance : DL.Tbs := ⟨[]⟩
open PySem PySem.Spec PyProof.Rows L2 DL
/-! the pot of a cell -/
noncomputable def c_pot : M PyData := (mIte (tbool (op2 fLt (nm 1) (val (opA fLen (aCons (nm 0) aNil))))) (op2 fIx (nm 0) (nm 1)) (op2 fAdd (val (op2 fAdd (val (op2 fMod (val (opA fInt (aCons (val (opA fSum (aCons (val (mCut (nm 0) pNo (pYes (DL.ret (.int 1))))) aNil))) aNil))) (val (DL.ret (.int 1000751))))) (val (op2 fMul (val (DL.ret (.int 3856))) (nm 1))))) (val (DL.ret (.int 1106)))))
noncomputable def o_pot : M PyData := (op2 fMul (val (op2 fMod (val (opA fInt (aCons (val (opA fAbs (aCons (nm 2) aNil))) aNil))) (val (op2 fPow (val (op2 fPow (val (DL.ret (.int 10))) (val (DL.ret (.int 60))))) (val (DL.ret (.int 5))))))) (val (opA fInt (aCons (val (op2 fGe (val (opA fAbs (aCons (nm 2) aNil))) (val (op2 fPow (val (DL.ret (.int 10))) (val (DL.ret (.int 18))))))) aNil))))
theorem m_pot_is : m_law_pot = (sSeq (sSet 2 (rvD c_pot))
    (sSeq (sSet 3 (rvD o_pot))
    (sSeq (sSet 4 (rvD (op2 fMod (val (opA fInt (aCons (nm 2) aNil))) (val (DL.ret (.int 2305843009213693951))))))
    (sRetO (mLst (aCons (val (dat (nm 3))) (aCons (val (op2 fMod (val (opA fInt (aCons (val (op2 fAdd (val (op2 fAdd (val (op2 fMul (nm 4) (val (DL.ret (.int 48961))))) (val (op2 fMul (val (op2 fMul (val (DL.ret (.int 8501))) (nm 1))) (nm 1))))) (val (DL.ret (.int 2308))))) aNil))) (val (DL.ret (.int 2305843009213693921))))) (aCons (val (DL.ret (.int 0))) aNil)))))))) := rfl
theorem sum_ints (ns : List Int) : ∃ s, fSum [.list (ns.map PyData.int)] = some (.int s) := by
  have e : intsL (.list (ns.map PyData.int)) = some ns := DL.asInts_map ns
  unfold fSum f1
  dsimp only
  rw [e]
  exact ⟨_, rfl⟩
theorem c_potE (ns : List Int) (p : Nat) (hp : p < 3) (s3 s4 : Sl) : ∃ c, c_pot [.d (.list (ns.map PyData.int)), .d (eN p), .no, .no, .no] = some (.int c, [.d (.list (ns.map PyData.int)), .d (eN p), .no, .no, .no]) := by
  have hlen : fLen [.list (ns.map PyData.int)] = some (.int ns.length) := by simp [runP_ap, initP, bnd_ap, ret_ap, lft_ap, nm_ap, frzv_ap, frzo_ap, dat_ap, val_ap, getv_ap, geto_ap, gets2_ap, op2_ap, op1_ap, tbool_ap, mAnd_ap, mOr_ap, mNot_ap, vAnd_ap, vOr_ap, vNot_ap, mIte_ap, aNil_ap, aCons_ap, datA_ap, getA_ap, opA_ap, mTup_ap, mLst_ap, foD_ap, mCall_ap, mChain_ap, mIsi_ap, mSeq_ap, mEnum_ap, mZip_ap, mRng_ap, mLc_ap, pNo_ap, pYes_ap, mListRng_ap, sNx_ap, sNever_ap, sSeq_ap, sRet_ap, sRetO_ap, sDrop_ap, sIf_ap, rvD_ap, rvO_ap, sSet_ap, sTgt_ap, sFor_ap, mMt_ap, chkL_ap, putM_ap, stN_ap, stRv_ap, stRf_ap, tgT_ap, tgC_ap, tg0_ap, sPar_ap, sPar3_ap, sPut_ap, mCut_ap, mMaxLen_ap, mSrtSet_ap, mSrtKey_ap, mKeys_ap, mDGet_ap, dicOf_ap, putMD_ap, sDPutM_ap, mLock_ap, mCallI_ap, mCallO_ap, mCallF_ap, runB_ap, runO_ap, agD, agG, agI, slD, Sl.isBr, seqD, fLe_ap, fLt_ap, fGt_ap, fGe_ap, fSub_ap, fAdd_ap, fNeg_ap, fLen_t, fLen_l, fAll_l, fAny_l, fTuple_l, fTuple_t, fList_l, fList_t, fInt_i, fEq_int, fNe_int, fIx_t, fIx_l, fIs_b, fNis_b, fIs_n, fNis_n, isNone_i, isNone_n, fApp_i, fApp_t, fExt_l]
  have hlt : fLt (eN p) (.int ns.length) = some (.bool (decide (p < ns.length))) := fLt_N p ns.length
  unfold c_pot
  by_cases h : p < ns.length
  · have hix : fIx (.list (ns.map PyData.int)) (eN p) = some (.int ns[p]) := atI_nat (by rw [List.getElem?_map, List.getElem?_eq_getElem h]; rfl)
    refine ⟨ns[p], ?_⟩
    generalize ns[p] = x at *
    rw [decide_eq_true h] at hlt
    generalize ns.map PyData.int = D at *
    generalize eN p = EP at *
    simp [runP_ap, initP, bnd_ap, ret_ap, lft_ap, nm_ap, frzv_ap, frzo_ap, dat_ap, val_ap, getv_ap, geto_ap, gets2_ap, op2_ap, op1_ap, tbool_ap, mAnd_ap, mOr_ap, mNot_ap, vAnd_ap, vOr_ap, vNot_ap, mIte_ap, aNil_ap, aCons_ap, datA_ap, getA_ap, opA_ap, mTup_ap, mLst_ap, foD_ap, mCall_ap, mChain_ap, mIsi_ap, mSeq_ap, mEnum_ap, mZip_ap, mRng_ap, mLc_ap, pNo_ap, pYes_ap, mListRng_ap, sNx_ap, sNever_ap, sSeq_ap, sRet_ap, sRetO_ap, sDrop_ap, sIf_ap, rvD_ap, rvO_ap, sSet_ap, sTgt_ap, sFor_ap, mMt_ap, chkL_ap, putM_ap, stN_ap, stRv_ap, stRf_ap, tgT_ap, tgC_ap, tg0_ap, sPar_ap, sPar3_ap, sPut_ap, mCut_ap, mMaxLen_ap, mSrtSet_ap, mSrtKey_ap, mKeys_ap, mDGet_ap, dicOf_ap, putMD_ap, sDPutM_ap, mLock_ap, mCallI_ap, mCallO_ap, mCallF_ap, runB_ap, runO_ap, agD, agG, agI, slD, Sl.isBr, seqD, fLe_ap, fLt_ap, fGt_ap, fGe_ap, fSub_ap, fAdd_ap, fNeg_ap, fLen_t, fLen_l, fAll_l, fAny_l, fTuple_l, fTuple_t, fList_l, fList_t, fInt_i, fEq_int, fNe_int, fIx_t, fIx_l, fIs_b, fNis_b, fIs_n, fNis_n, isNone_i, isNone_n, fApp_i, fApp_t, fExt_l, hlen, hlt, hix]
  · rw [decide_eq_false h] at hlt
    have hcut : DL.cutD (ns.map PyData.int) none (some 1) = (DL.cutD ns none (some 1)).map PyData.int := by
      unfold DL.cutD
      rw [List.length_map, List.map_take, List.map_drop]
    obtain ⟨s, hs⟩ := sum_ints (DL.cutD ns none (some 1))
    rw [← hcut] at hs
    have hC : fCut none (some 1) (.list (ns.map PyData.int)) = some (.list (DL.cutD (ns.map PyData.int) none (some 1))) := rfl
    generalize DL.cutD (ns.map PyData.int) none (some 1) = CD at *
    have h1 : fMod (.int s) (.int 1000751) = some (.int (s % 1000751)) := fMod_s (by omega)
    generalize s % 1000751 = s1 at *
    have h2 : fMul (.int 3856) (eN p) = some (.int (3856 * p)) := fMul_s (sm (by omega) (by omega)) (sm (by omega) (by omega))
    generalize (3856 * p : Int) = s2 at *
    refine ⟨s1 + s2 + 1106, ?_⟩
    generalize ns.map PyData.int = D at *
    generalize eN p = EP at *
    simp [runP_ap, initP, bnd_ap, ret_ap, lft_ap, nm_ap, frzv_ap, frzo_ap, dat_ap, val_ap, getv_ap, geto_ap, gets2_ap, op2_ap, op1_ap, tbool_ap, mAnd_ap, mOr_ap, mNot_ap, vAnd_ap, vOr_ap, vNot_ap, mIte_ap, aNil_ap, aCons_ap, datA_ap, getA_ap, opA_ap, mTup_ap, mLst_ap, foD_ap, mCall_ap, mChain_ap, mIsi_ap, mSeq_ap, mEnum_ap, mZip_ap, mRng_ap, mLc_ap, pNo_ap, pYes_ap, mListRng_ap, sNx_ap, sNever_ap, sSeq_ap, sRet_ap, sRetO_ap, sDrop_ap, sIf_ap, rvD_ap, rvO_ap, sSet_ap, sTgt_ap, sFor_ap, mMt_ap, chkL_ap, putM_ap, stN_ap, stRv_ap, stRf_ap, tgT_ap, tgC_ap, tg0_ap, sPar_ap, sPar3_ap, sPut_ap, mCut_ap, mMaxLen_ap, mSrtSet_ap, mSrtKey_ap, mKeys_ap, mDGet_ap, dicOf_ap, putMD_ap, sDPutM_ap, mLock_ap, mCallI_ap, mCallO_ap, mCallF_ap, runB_ap, runO_ap, agD, agG, agI, slD, Sl.isBr, seqD, fLe_ap, fLt_ap, fGt_ap, fGe_ap, fSub_ap, fAdd_ap, fNeg_ap, fLen_t, fLen_l, fAll_l, fAny_l, fTuple_l, fTuple_t, fList_l, fList_t, fInt_i, fEq_int, fNe_int, fIx_t, fIx_l, fIs_b, fNis_b, fIs_n, fNis_n, isNone_i, isNone_n, fApp_i, fApp_t, fExt_l, hlen, hlt, hC, hs, h1, h2]
theorem big300 : smallB (10 ^ (60 : Int).toNat) = true := by decide +kernel
theorem o_potE (D EP : PyData) (c : Int) : ∃ a, o_pot [.d D, .d EP, .d (.int c), .no, .no] = some (.int a, [.d D, .d EP, .d (.int c), .no, .no]) := by
  have ha : fAbs [.int c] = some (.int (if c < 0 then -c else c)) := rfl
  generalize (if c < 0 then -c else c) = x at *
  have h1 : fPow (.int 10) (.int 60) = some (.int (10 ^ (60 : Int).toNat)) := fPow_s (by omega) (by omega) (sm (by omega) (by omega))
  have h2 : fPow (.int (10 ^ (60 : Int).toNat)) (.int 5) = some (.int ((10 ^ (60 : Int).toNat) ^ (5 : Int).toNat)) := fPow_s (by omega) (by omega) big300
  have h3 : fPow (.int 10) (.int 18) = some (.int (10 ^ (18 : Int).toNat)) := fPow_s (by omega) (by omega) (sm (by omega) (by omega))
  have p5 : (0 : Int) < (10 ^ (60 : Int).toNat) ^ (5 : Int).toNat := by decide +kernel
  have s5 : smallB ((10 ^ (60 : Int).toNat) ^ (5 : Int).toNat) = true := by decide +kernel
  generalize (10 ^ (60 : Int).toNat : Int) = t1 at *
  generalize (t1 ^ (5 : Int).toNat : Int) = t2 at *
  generalize (10 ^ (18 : Int).toNat : Int) = t3 at *
  have h4 : fMod (.int x) (.int t2) = some (.int (x % t2)) := fMod_s p5
  have b4 : 0 ≤ x % t2 ∧ x % t2 < t2 := ⟨Int.emod_nonneg _ (by omega), Int.emod_lt_of_pos _ p5⟩
  have s4 : smallB (x % t2) = true := by
    have := of_decide_eq_true s5
    refine decide_eq_true (Nat.lt_of_le_of_lt ?_ this)
    omega
  generalize x % t2 = y at *
  have h5 : fGe (.int x) (.int t3) = some (.bool (decide (t3 ≤ x))) := rfl
  have h6 : fInt [.bool (decide (t3 ≤ x))] = some (.int (if decide (t3 ≤ x) = true then 1 else 0)) := rfl
  have h7 : fMul (.int y) (.int (if decide (t3 ≤ x) = true then 1 else 0)) = some (.int (y * (if decide (t3 ≤ x) = true then 1 else 0))) := fMul_s s4 (by split <;> exact sm (by omega) (by omega))
  generalize decide (t3 ≤ x) = b at *
  generalize (if b = true then (1 : Int) else 0) = z at *
  refine ⟨y * z, ?_⟩
  generalize y * z = r at *
  have hI : fInt [.int x] = some (.int x) := rfl
  unfold o_pot
  have hge : fGe = fGe := rfl
  simp only [val_ap, op2_ap, opA_ap, bnd_ap, ret_ap, aCons_ap, aNil_ap, getA_ap, nm_ap, gets2_ap, getv_ap, lft_ap, agG, List.getElem?_cons_zero, List.getElem?_cons_succ, ha, h1, h2, h3, h4, h5, h6, h7, hI]
theorem potE (ns : List Int) (p : Nat) (hp : p < 3) : ∃ P, f_law_pot [.list (ns.map PyData.int), eN p] = some (.ol P) ∧ Pot 0 P := by
  obtain ⟨c, hc⟩ := c_potE ns p hp .no .no
  obtain ⟨a, ha⟩ := o_potE (.list (ns.map PyData.int)) (eN p) c
  have h1 : fMod (.int c) (.int 2305843009213693951) = some (.int (c % 2305843009213693951)) := fMod_s (by omega)
  have b1 : 0 ≤ c % 2305843009213693951 ∧ c % 2305843009213693951 < 2305843009213693951 := by omega
  generalize c % 2305843009213693951 = s at *
  have h2 : fMul (.int s) (.int 48961) = some (.int (s * 48961)) := fMul_s (sm (by omega) (by omega)) (sm (by omega) (by omega))
  generalize s * 48961 = s2 at *
  have h3 : fMul (.int 8501) (eN p) = some (.int (8501 * p)) := fMul_s (sm (by omega) (by omega)) (sm (by omega) (by omega))
  have b3 : 0 ≤ 8501 * (p : Int) ∧ 8501 * (p : Int) ≤ 17002 := by omega
  generalize (8501 * (p : Int)) = s3 at *
  have h4 : fMul (.int s3) (eN p) = some (.int (s3 * p)) := fMul_s (sm (by omega) (by omega)) (sm (by omega) (by omega))
  generalize (s3 * (p : Int)) = s4 at *
  have h5 : fMod (.int (s2 + s4 + 2308)) (.int 2305843009213693921) = some (.int ((s2 + s4 + 2308) % 2305843009213693921)) := fMod_s (by omega)
  refine ⟨[.int a, .int ((s2 + s4 + 2308) % 2305843009213693921), .int 0], ?_, a, _, 0, rfl, by omega, by omega, by omega, by omega⟩
  generalize (s2 + s4 + 2308) % 2305843009213693921 = s5 at *
  unfold f_law_pot
  rw [m_pot_is]
  generalize ns.map PyData.int = D at *
  generalize eN p = EP at *
  generalize c_pot = mc at *
  generalize o_pot = mo at *
  simp [runP_ap, initP, bnd_ap, ret_ap, lft_ap, nm_ap, frzv_ap, frzo_ap, dat_ap, val_ap, getv_ap, geto_ap, gets2_ap, op2_ap, op1_ap, tbool_ap, mAnd_ap, mOr_ap, mNot_ap, vAnd_ap, vOr_ap, vNot_ap, mIte_ap, aNil_ap, aCons_ap, datA_ap, getA_ap, opA_ap, mTup_ap, mLst_ap, foD_ap, mCall_ap, mChain_ap, mIsi_ap, mSeq_ap, mEnum_ap, mZip_ap, mRng_ap, mLc_ap, pNo_ap, pYes_ap, mListRng_ap, sNx_ap, sNever_ap, sSeq_ap, sRet_ap, sRetO_ap, sDrop_ap, sIf_ap, rvD_ap, rvO_ap, sSet_ap, sTgt_ap, sFor_ap, mMt_ap, chkL_ap, putM_ap, stN_ap, stRv_ap, stRf_ap, tgT_ap, tgC_ap, tg0_ap, sPar_ap, sPar3_ap, sPut_ap, mCut_ap, mMaxLen_ap, mSrtSet_ap, mSrtKey_ap, mKeys_ap, mDGet_ap, dicOf_ap, putMD_ap, sDPutM_ap, mLock_ap, mCallI_ap, mCallO_ap, mCallF_ap, runB_ap, runO_ap, agD, agG, agI, slD, Sl.isBr, seqD, fLe_ap, fLt_ap, fGt_ap, fGe_ap, fSub_ap, fAdd_ap, fNeg_ap, fLen_t, fLen_l, fAll_l, fAny_l, fTuple_l, fTuple_t, fList_l, fList_t, fInt_i, fEq_int, fNe_int, fIx_t, fIx_l, fIs_b, fNis_b, fIs_n, fNis_n, isNone_i, isNone_n, fApp_i, fApp_t, fExt_l, hc, ha, h1, h2, h3, h4, h5]
end K15
end
section
namespace K15
local instance : DL.Tbs := ⟨[]⟩
open PySem PySem.Spec PyProof.Rows L2 DL
/-! the drawn claims -/
noncomputable def b_lc : S := (sSeq (sSet 5 (rvD (opA fInt (aCons (val (mCallI 1 f_law_take (aCons (nm 0) (aCons (val (DL.ret (.int 13))) aNil)))) aNil))))
    (sDrop (mMt fAppend (nm 3) (aCons (val (mTup (aCons (val (opA fInt (aCons (val (mCallI 1 f_law_take (aCons (nm 0) (aCons (val (dat (nm 2))) aNil)))) aNil))) (aCons (val (dat (nm 5))) (aCons (val (opA fInt (aCons (val (opA fMin (aCons (val (DL.ret (.int 12))) (aCons (val (op2 fAdd (nm 5) (val (mCallI 1 f_law_of (aCons (nm 0) (aCons (val (foD (mLst (aCons (val (DL.ret (.int 0))) (aCons (val (DL.ret (.int 1))) (aCons (val (DL.ret (.int 2))) (aCons (val (DL.ret (.int 2))) (aCons (val (DL.ret (.int 3))) (aCons (val (DL.ret (.int 5))) (aCons (val (DL.ret (.int 12))) aNil)))))))))) aNil)))))) aNil)))) aNil))) (aCons (val (opA fInt (aCons (val (mCallI 1 f_law_of (aCons (nm 0) (aCons (val (foD (mLst (aCons (val (DL.ret (.int 0))) (aCons (val (DL.ret (.int 1))) (aCons (val (DL.ret (.int 1))) (aCons (val (DL.ret (.int 2))) (aCons (val (DL.ret (.int 9))) aNil)))))))) aNil)))) aNil))) aNil)))))) aNil))))
noncomputable def i_lc : S := (sIf (mAnd (tbool (mChain fLt fLt (val (DL.ret (.int 0))) (val (opA fLen (aCons (nm 3) aNil))) (nm 1))) (tbool (op2 fEq (val (mCallI 1 f_law_take (aCons (nm 0) (aCons (val (DL.ret (.int 2))) aNil)))) (val (DL.ret (.int 0)))))) (sDrop (mMt fInsert (nm 3) (aCons (val (mCallI 1 f_law_take (aCons (nm 0) (aCons (val (op2 fAdd (val (opA fLen (aCons (nm 3) aNil))) (val (DL.ret (.int 1))))) aNil)))) (aCons (val (op2 fIx (nm 3) (val (DL.ret (.int 0))))) aNil)))) sNx)
theorem m_lc_is : m_law_claims = (sSeq (sSet 3 (rvO (mLst aNil)))
    (sSeq (sFor (mRng (aCons (val (mCallI 1 f_law_take (aCons (nm 0) (aCons (val (op2 fAdd (nm 1) (val (DL.ret (.int 1))))) aNil)))) aNil)) (stN 4) b_lc)
    (sSeq i_lc
    (sRet (opA fTuple (aCons (nm 3) aNil)))))) := rfl
theorem b_lcE {n : Nat} {P : List PyData} (h : Pot n P) (hn : n ≤ 900) {cs : List Cl} (hl : cs.length < 16777216) (d4 : PyData) (o5 : Option PyData) :
    ∃ P' c d5, b_lc [.br P, .d (.int 8), .d (.int 7), .ol (cs.map enc), .d d4, ofO o5] = some (.nx, [.br P', .d (.int 8), .d (.int 7), .ol ((cs ++ [c]).map enc), .d d4, .d d5]) ∧ okC c ∧ Pot (n + 4) P' := by
  obtain ⟨r1, P1, e1, l1, h1⟩ := takeE h (by omega) (u := 13) (by omega) (by omega)
  obtain ⟨r2, P2, e2, l2, h2⟩ := takeE h1 (by omega) (u := 7) (by omega) (by omega)
  obtain ⟨x, hx, P3, e3, h3⟩ := law_ofE h2 (by omega) (xs := [0, 1, 2, 2, 3, 5, 12]) (by decide) (by decide)
  obtain ⟨y, hy, P4, e4, h4⟩ := law_ofE h3 (by omega) (xs := [0, 1, 1, 2, 9]) (by decide) (by decide)
  have e1 : f_law_take P [.int 13] = some (eN r1, P1) := e1
  have e2 : f_law_take P1 [.int 7] = some (eN r2, P2) := e2
  have e3 : f_law_of P2 [.list [.int 0, .int 1, .int 2, .int 2, .int 3, .int 5, .int 12]] = some (.int x, P3) := e3
  have e4 : f_law_of P3 [.list [.int 0, .int 1, .int 1, .int 2, .int 9]] = some (.int y, P4) := e4
  have hx : 0 ≤ x := by simp at hx; omega
  have hy : 0 ≤ y ∧ y ≤ 9 := by simp at hy; omega
  refine ⟨P4, ((r2 : Int), (r1 : Int), (if (r1 : Int) + x < 12 then (r1 : Int) + x else 12), y), eN r1, ?_, ⟨by show (0 : Int) ≤ (r2 : Int); omega, by show (r2 : Int) < 7; omega, by show (0 : Int) ≤ (r1 : Int); omega, by show (r1 : Int) ≤ (if (r1 : Int) + x < 12 then (r1 : Int) + x else 12); split <;> omega, by show (if (r1 : Int) + x < 12 then (r1 : Int) + x else 12) ≤ 12; split <;> omega, hy.1, hy.2⟩, h4⟩
  have hadd : fAdd (eN r1) (.int x) = some (.int ((r1 : Int) + x)) := rfl
  have hmin : fMin [.int 12, .int ((r1 : Int) + x)] = some (.int (if (r1 : Int) + x < 12 then (r1 : Int) + x else 12)) := rfl
  have henc : enc ((r2 : Int), (r1 : Int), (if (r1 : Int) + x < 12 then (r1 : Int) + x else 12), y) = .tuple [eN r2, eN r1, .int (if (r1 : Int) + x < 12 then (r1 : Int) + x else 12), .int y] := rfl
  have hi1 : fInt [eN r1] = some (eN r1) := rfl
  have hi2 : fInt [eN r2] = some (eN r2) := rfl
  rw [List.map_append, List.map_cons, List.map_nil, henc]
  generalize (if (r1 : Int) + x < 12 then (r1 : Int) + x else 12) = z at *
  generalize (r1 : Int) + x = z1 at *
  have hlen : (cs.map enc).length < 16777216 := by rw [List.length_map]; exact hl
  generalize cs.map enc = C at *
  generalize eN r1 = E1 at *
  generalize eN r2 = E2 at *
  unfold b_lc
  cases o5 with
  | none =>
    unfold ofO
    simp [runP_ap, initP, bnd_ap, ret_ap, lft_ap, nm_ap, frzv_ap, frzo_ap, dat_ap, val_ap, getv_ap, geto_ap, gets2_ap, op2_ap, op1_ap, tbool_ap, mAnd_ap, mOr_ap, mNot_ap, vAnd_ap, vOr_ap, vNot_ap, mIte_ap, aNil_ap, aCons_ap, datA_ap, getA_ap, opA_ap, mTup_ap, mLst_ap, foD_ap, mCall_ap, mChain_ap, mIsi_ap, mSeq_ap, mEnum_ap, mZip_ap, mRng_ap, mLc_ap, pNo_ap, pYes_ap, mListRng_ap, sNx_ap, sNever_ap, sSeq_ap, sRet_ap, sRetO_ap, sDrop_ap, sIf_ap, rvD_ap, rvO_ap, sSet_ap, sTgt_ap, sFor_ap, mMt_ap, chkL_ap, putM_ap, stN_ap, stRv_ap, stRf_ap, tgT_ap, tgC_ap, tg0_ap, sPar_ap, sPar3_ap, sPut_ap, mCut_ap, mMaxLen_ap, mSrtSet_ap, mSrtKey_ap, mKeys_ap, mDGet_ap, dicOf_ap, putMD_ap, sDPutM_ap, mLock_ap, mCallI_ap, mCallO_ap, mCallF_ap, runB_ap, runO_ap, agD, agG, agI, slD, Sl.isBr, seqD, fLe_ap, fLt_ap, fGt_ap, fGe_ap, fSub_ap, fAdd_ap, fNeg_ap, fLen_t, fLen_l, fAll_l, fAny_l, fTuple_l, fTuple_t, fList_l, fList_t, fInt_i, fEq_int, fNe_int, fIx_t, fIx_l, fIs_b, fNis_b, fIs_n, fNis_n, isNone_i, isNone_n, fApp_i, fApp_t, fExt_l, e1, e2, e3, e4, hadd, hmin, hi1, hi2, hlen]
  | some d =>
    unfold ofO
    simp [runP_ap, initP, bnd_ap, ret_ap, lft_ap, nm_ap, frzv_ap, frzo_ap, dat_ap, val_ap, getv_ap, geto_ap, gets2_ap, op2_ap, op1_ap, tbool_ap, mAnd_ap, mOr_ap, mNot_ap, vAnd_ap, vOr_ap, vNot_ap, mIte_ap, aNil_ap, aCons_ap, datA_ap, getA_ap, opA_ap, mTup_ap, mLst_ap, foD_ap, mCall_ap, mChain_ap, mIsi_ap, mSeq_ap, mEnum_ap, mZip_ap, mRng_ap, mLc_ap, pNo_ap, pYes_ap, mListRng_ap, sNx_ap, sNever_ap, sSeq_ap, sRet_ap, sRetO_ap, sDrop_ap, sIf_ap, rvD_ap, rvO_ap, sSet_ap, sTgt_ap, sFor_ap, mMt_ap, chkL_ap, putM_ap, stN_ap, stRv_ap, stRf_ap, tgT_ap, tgC_ap, tg0_ap, sPar_ap, sPar3_ap, sPut_ap, mCut_ap, mMaxLen_ap, mSrtSet_ap, mSrtKey_ap, mKeys_ap, mDGet_ap, dicOf_ap, putMD_ap, sDPutM_ap, mLock_ap, mCallI_ap, mCallO_ap, mCallF_ap, runB_ap, runO_ap, agD, agG, agI, slD, Sl.isBr, seqD, fLe_ap, fLt_ap, fGt_ap, fGe_ap, fSub_ap, fAdd_ap, fNeg_ap, fLen_t, fLen_l, fAll_l, fAny_l, fTuple_l, fTuple_t, fList_l, fList_t, fInt_i, fEq_int, fNe_int, fIx_t, fIx_l, fIs_b, fNis_b, fIs_n, fNis_n, isNone_i, isNone_n, fApp_i, fApp_t, fExt_l, e1, e2, e3, e4, hadd, hmin, hi1, hi2, hlen]
theorem fIns_e (j : Nat) (c : Cl) (ds : List PyData) : fInsert [eN j, enc c] ds = if ds.length < 16777216 ∧ (0 : Int) ≤ (j : Int) ∧ (j : Int) < 16777216 then some (.none, ds.take ((j : Int)).toNat ++ [enc c] ++ ds.drop ((j : Int)).toNat) else none := rfl
theorem i_lcE {n : Nat} {P : List PyData} (h : Pot n P) (hn : n ≤ 900) {cs : List Cl} (hl : cs.length ≤ 8) (hok : ∀ c ∈ cs, okC c) (s4 s5 : Sl) :
    ∃ P' cs', i_lc [.br P, .d (.int 8), .d (.int 7), .ol (cs.map enc), s4, s5] = some (.nx, [.br P', .d (.int 8), .d (.int 7), .ol (cs'.map enc), s4, s5]) ∧ Okc cs' := by
  have hlen : fLen [.list (cs.map enc)] = some (.int cs.length) := by simp [runP_ap, initP, bnd_ap, ret_ap, lft_ap, nm_ap, frzv_ap, frzo_ap, dat_ap, val_ap, getv_ap, geto_ap, gets2_ap, op2_ap, op1_ap, tbool_ap, mAnd_ap, mOr_ap, mNot_ap, vAnd_ap, vOr_ap, vNot_ap, mIte_ap, aNil_ap, aCons_ap, datA_ap, getA_ap, opA_ap, mTup_ap, mLst_ap, foD_ap, mCall_ap, mChain_ap, mIsi_ap, mSeq_ap, mEnum_ap, mZip_ap, mRng_ap, mLc_ap, pNo_ap, pYes_ap, mListRng_ap, sNx_ap, sNever_ap, sSeq_ap, sRet_ap, sRetO_ap, sDrop_ap, sIf_ap, rvD_ap, rvO_ap, sSet_ap, sTgt_ap, sFor_ap, mMt_ap, chkL_ap, putM_ap, stN_ap, stRv_ap, stRf_ap, tgT_ap, tgC_ap, tg0_ap, sPar_ap, sPar3_ap, sPut_ap, mCut_ap, mMaxLen_ap, mSrtSet_ap, mSrtKey_ap, mKeys_ap, mDGet_ap, dicOf_ap, putMD_ap, sDPutM_ap, mLock_ap, mCallI_ap, mCallO_ap, mCallF_ap, runB_ap, runO_ap, agD, agG, agI, slD, Sl.isBr, seqD, fLe_ap, fLt_ap, fGt_ap, fGe_ap, fSub_ap, fAdd_ap, fNeg_ap, fLen_t, fLen_l, fAll_l, fAny_l, fTuple_l, fTuple_t, fList_l, fList_t, fInt_i, fEq_int, fNe_int, fIx_t, fIx_l, fIs_b, fNis_b, fIs_n, fNis_n, isNone_i, isNone_n, fApp_i, fApp_t, fExt_l]
  by_cases h0 : 0 < cs.length
  · by_cases h8 : cs.length < 8
    · have c0' : fLt (.int 0) (.int cs.length) = some (.bool true) := by rw [fLt_ap, decide_eq_true (by omega)]
      have c8' : fLt (.int cs.length) (.int 8) = some (.bool true) := by rw [fLt_ap, decide_eq_true (by omega)]
      obtain ⟨r, P1, e1, l1, h1⟩ := takeE h (by omega) (u := 2) (by omega) (by omega)
      have e1 : f_law_take P [.int 2] = some (eN r, P1) := e1
      by_cases hr : r = 0
      · subst hr
        have hq : fEq (eN 0) (.int 0) = some (.bool true) := rfl
        obtain ⟨j, P2, e2, l2, h2⟩ := takeE h1 (by omega) (u := cs.length + 1) (by omega) (by omega)
        have e2 : f_law_take P1 [.int ((cs.length : Int) + 1)] = some (eN j, P2) := e2
        have hix : fIx (.list (cs.map enc)) (.int 0) = some (enc (cl cs 0)) := at_enc h0
        have hfi : fInsert [eN j, enc (cl cs 0)] (cs.map enc) = some (.none, (cs.take j ++ [cl cs 0] ++ cs.drop j).map enc) := by
          rw [fIns_e, if_pos ⟨by rw [List.length_map]; omega, by omega, by omega⟩, Int.toNat_natCast, List.map_append, List.map_append, List.map_take, List.map_drop]
          rfl
        refine ⟨P2, cs.take j ++ [cl cs 0] ++ cs.drop j, ?_, fun c hc => ?_, ?_⟩
        · generalize (cs.take j ++ [cl cs 0] ++ cs.drop j).map enc = C2 at *
          generalize cs.map enc = C at *
          generalize (cs.length : Int) = L at *
          generalize eN j = EJ at *
          generalize enc (cl cs 0) = EC at *
          generalize eN 0 = E0 at *
          unfold i_lc
          simp [runP_ap, initP, bnd_ap, ret_ap, lft_ap, nm_ap, frzv_ap, frzo_ap, dat_ap, val_ap, getv_ap, geto_ap, gets2_ap, op2_ap, op1_ap, tbool_ap, mAnd_ap, mOr_ap, mNot_ap, vAnd_ap, vOr_ap, vNot_ap, mIte_ap, aNil_ap, aCons_ap, datA_ap, getA_ap, opA_ap, mTup_ap, mLst_ap, foD_ap, mCall_ap, mChain_ap, mIsi_ap, mSeq_ap, mEnum_ap, mZip_ap, mRng_ap, mLc_ap, pNo_ap, pYes_ap, mListRng_ap, sNx_ap, sNever_ap, sSeq_ap, sRet_ap, sRetO_ap, sDrop_ap, sIf_ap, rvD_ap, rvO_ap, sSet_ap, sTgt_ap, sFor_ap, mMt_ap, chkL_ap, putM_ap, stN_ap, stRv_ap, stRf_ap, tgT_ap, tgC_ap, tg0_ap, sPar_ap, sPar3_ap, sPut_ap, mCut_ap, mMaxLen_ap, mSrtSet_ap, mSrtKey_ap, mKeys_ap, mDGet_ap, dicOf_ap, putMD_ap, sDPutM_ap, mLock_ap, mCallI_ap, mCallO_ap, mCallF_ap, runB_ap, runO_ap, agD, agG, agI, slD, Sl.isBr, seqD, fLe_ap, fLt_ap, fGt_ap, fGe_ap, fSub_ap, fAdd_ap, fNeg_ap, fLen_t, fLen_l, fAll_l, fAny_l, fTuple_l, fTuple_t, fList_l, fList_t, fInt_i, fEq_int, fNe_int, fIx_t, fIx_l, fIs_b, fNis_b, fIs_n, fNis_n, isNone_i, isNone_n, fApp_i, fApp_t, fExt_l, hlen, c0', c8', e1, hq, e2, hix, hfi]
        · rcases List.mem_append.mp hc with hc | hc
          · rcases List.mem_append.mp hc with hc | hc
            · exact hok c (List.mem_of_mem_take hc)
            · rw [List.mem_singleton.mp hc]
              refine hok _ ?_
              unfold cl
              rw [List.getD_eq_getElem?_getD, List.getElem?_eq_getElem h0]
              exact List.getElem_mem h0
          · exact hok c (List.mem_of_mem_drop hc)
        · rw [List.length_append, List.length_append, List.length_take, List.length_drop]
          simp only [List.length_singleton]
          omega
      · have hq : fEq (eN r) (.int 0) = some (.bool false) := by
          show fEq (.int (r : Int)) (.int 0) = _
          rw [fEq_int, decide_eq_false (by omega)]
        refine ⟨P1, cs, ?_, hok, hl⟩
        generalize cs.map enc = C at *
        generalize (cs.length : Int) = L at *
        generalize eN r = ER at *
        unfold i_lc
        simp [runP_ap, initP, bnd_ap, ret_ap, lft_ap, nm_ap, frzv_ap, frzo_ap, dat_ap, val_ap, getv_ap, geto_ap, gets2_ap, op2_ap, op1_ap, tbool_ap, mAnd_ap, mOr_ap, mNot_ap, vAnd_ap, vOr_ap, vNot_ap, mIte_ap, aNil_ap, aCons_ap, datA_ap, getA_ap, opA_ap, mTup_ap, mLst_ap, foD_ap, mCall_ap, mChain_ap, mIsi_ap, mSeq_ap, mEnum_ap, mZip_ap, mRng_ap, mLc_ap, pNo_ap, pYes_ap, mListRng_ap, sNx_ap, sNever_ap, sSeq_ap, sRet_ap, sRetO_ap, sDrop_ap, sIf_ap, rvD_ap, rvO_ap, sSet_ap, sTgt_ap, sFor_ap, mMt_ap, chkL_ap, putM_ap, stN_ap, stRv_ap, stRf_ap, tgT_ap, tgC_ap, tg0_ap, sPar_ap, sPar3_ap, sPut_ap, mCut_ap, mMaxLen_ap, mSrtSet_ap, mSrtKey_ap, mKeys_ap, mDGet_ap, dicOf_ap, putMD_ap, sDPutM_ap, mLock_ap, mCallI_ap, mCallO_ap, mCallF_ap, runB_ap, runO_ap, agD, agG, agI, slD, Sl.isBr, seqD, fLe_ap, fLt_ap, fGt_ap, fGe_ap, fSub_ap, fAdd_ap, fNeg_ap, fLen_t, fLen_l, fAll_l, fAny_l, fTuple_l, fTuple_t, fList_l, fList_t, fInt_i, fEq_int, fNe_int, fIx_t, fIx_l, fIs_b, fNis_b, fIs_n, fNis_n, isNone_i, isNone_n, fApp_i, fApp_t, fExt_l, hlen, c0', c8', e1, hq]
    · have c0' : fLt (.int 0) (.int cs.length) = some (.bool true) := by rw [fLt_ap, decide_eq_true (by omega)]
      have c8' : fLt (.int cs.length) (.int 8) = some (.bool false) := by rw [fLt_ap, decide_eq_false (by omega)]
      refine ⟨P, cs, ?_, hok, hl⟩
      generalize cs.map enc = C at *
      generalize (cs.length : Int) = L at *
      unfold i_lc
      simp [runP_ap, initP, bnd_ap, ret_ap, lft_ap, nm_ap, frzv_ap, frzo_ap, dat_ap, val_ap, getv_ap, geto_ap, gets2_ap, op2_ap, op1_ap, tbool_ap, mAnd_ap, mOr_ap, mNot_ap, vAnd_ap, vOr_ap, vNot_ap, mIte_ap, aNil_ap, aCons_ap, datA_ap, getA_ap, opA_ap, mTup_ap, mLst_ap, foD_ap, mCall_ap, mChain_ap, mIsi_ap, mSeq_ap, mEnum_ap, mZip_ap, mRng_ap, mLc_ap, pNo_ap, pYes_ap, mListRng_ap, sNx_ap, sNever_ap, sSeq_ap, sRet_ap, sRetO_ap, sDrop_ap, sIf_ap, rvD_ap, rvO_ap, sSet_ap, sTgt_ap, sFor_ap, mMt_ap, chkL_ap, putM_ap, stN_ap, stRv_ap, stRf_ap, tgT_ap, tgC_ap, tg0_ap, sPar_ap, sPar3_ap, sPut_ap, mCut_ap, mMaxLen_ap, mSrtSet_ap, mSrtKey_ap, mKeys_ap, mDGet_ap, dicOf_ap, putMD_ap, sDPutM_ap, mLock_ap, mCallI_ap, mCallO_ap, mCallF_ap, runB_ap, runO_ap, agD, agG, agI, slD, Sl.isBr, seqD, fLe_ap, fLt_ap, fGt_ap, fGe_ap, fSub_ap, fAdd_ap, fNeg_ap, fLen_t, fLen_l, fAll_l, fAny_l, fTuple_l, fTuple_t, fList_l, fList_t, fInt_i, fEq_int, fNe_int, fIx_t, fIx_l, fIs_b, fNis_b, fIs_n, fNis_n, isNone_i, isNone_n, fApp_i, fApp_t, fExt_l, hlen, c0', c8']
  · have c0' : fLt (.int 0) (.int cs.length) = some (.bool false) := by rw [fLt_ap, decide_eq_false (by omega)]
    refine ⟨P, cs, ?_, hok, hl⟩
    generalize cs.map enc = C at *
    generalize (cs.length : Int) = L at *
    unfold i_lc
    simp [runP_ap, initP, bnd_ap, ret_ap, lft_ap, nm_ap, frzv_ap, frzo_ap, dat_ap, val_ap, getv_ap, geto_ap, gets2_ap, op2_ap, op1_ap, tbool_ap, mAnd_ap, mOr_ap, mNot_ap, vAnd_ap, vOr_ap, vNot_ap, mIte_ap, aNil_ap, aCons_ap, datA_ap, getA_ap, opA_ap, mTup_ap, mLst_ap, foD_ap, mCall_ap, mChain_ap, mIsi_ap, mSeq_ap, mEnum_ap, mZip_ap, mRng_ap, mLc_ap, pNo_ap, pYes_ap, mListRng_ap, sNx_ap, sNever_ap, sSeq_ap, sRet_ap, sRetO_ap, sDrop_ap, sIf_ap, rvD_ap, rvO_ap, sSet_ap, sTgt_ap, sFor_ap, mMt_ap, chkL_ap, putM_ap, stN_ap, stRv_ap, stRf_ap, tgT_ap, tgC_ap, tg0_ap, sPar_ap, sPar3_ap, sPut_ap, mCut_ap, mMaxLen_ap, mSrtSet_ap, mSrtKey_ap, mKeys_ap, mDGet_ap, dicOf_ap, putMD_ap, sDPutM_ap, mLock_ap, mCallI_ap, mCallO_ap, mCallF_ap, runB_ap, runO_ap, agD, agG, agI, slD, Sl.isBr, seqD, fLe_ap, fLt_ap, fGt_ap, fGe_ap, fSub_ap, fAdd_ap, fNeg_ap, fLen_t, fLen_l, fAll_l, fAny_l, fTuple_l, fTuple_t, fList_l, fList_t, fInt_i, fEq_int, fNe_int, fIx_t, fIx_l, fIs_b, fNis_b, fIs_n, fNis_n, isNone_i, isNone_n, fApp_i, fApp_t, fExt_l, hlen, c0']
theorem claimsE {P : List PyData} (h : Pot 0 P) : ∃ cs P', f_law_claims P [.int 8, .int 7] = some (.tuple (cs.map enc), P') ∧ Okc cs := by
  obtain ⟨r, P1, e1, l1, h1⟩ := takeE h (by omega) (u := 9) (by omega) (by omega)
  have e1 : f_law_take P [.int 9] = some (eN r, P1) := e1
  have hadd : fAdd (.int 8) (.int 1) = some (.int 9) := rfl
  have hrng : fRng [eN r] = some ⟨(List.range r).map eN, none⟩ := fRng_eN (by omega)
  obtain ⟨ρ', f1, P2, cs, o4, o5, rfl, f2, f3, f4⟩ := for_at (it := ⟨(List.range r).map eN, none⟩) (tgt := stN 4) (b := b_lc) eN
    (fun k (_ : Unit) (ρ : Ro) => ∃ P cs o4 o5, ρ = [.br P, .d (.int 8), .d (.int 7), .ol (cs.map enc), ofO o4, ofO o5] ∧ Pot (1 + 4 * k) P ∧ cs.length = k ∧ ∀ c ∈ cs, okC c) (fun _ _ => ()) (List.range r) 0 ()
    [.br P1, .d (.int 8), .d (.int 7), .ol [], .no, .no] ⟨P1, [], none, none, rfl, h1, rfl, fun c hc => (nomatch hc)⟩ (by
      rintro i y hy _ ρ ⟨P, cs, o4, o5, rfl, hP, hl, hok⟩
      have hi : i < r := by
        have := (List.getElem?_eq_some_iff.mp hy).1
        rwa [List.length_range] at this
      obtain ⟨P', c, d5, g1, g2, g3⟩ := b_lcE hP (by omega) (cs := cs) (by omega) (eN y) o5
      refine ⟨[.br P, .d (.int 8), .d (.int 7), .ol (cs.map enc), .d (eN y), ofO o5], _, ?_, g1, P', cs ++ [c], some (eN y), some d5, rfl, ?_, ?_, ?_⟩
      · cases o4 <;> rfl
      · rw [show 1 + 4 * (0 + i + 1) = 1 + 4 * (0 + i) + 4 by omega]; exact g3
      · rw [List.length_append, hl]; rfl
      · intro c' hc
        rcases List.mem_append.mp hc with hc | hc
        · exact hok c' hc
        · rw [List.mem_singleton.mp hc]; exact g2)
  rw [List.length_range] at f2 f3
  obtain ⟨P3, cs', g1, g2⟩ := i_lcE f2 (by omega) (cs := cs) (by omega) f4 (ofO o4) (ofO o5)
  refine ⟨cs', P3, ?_, g2⟩
  unfold f_law_claims
  rw [m_lc_is]
  generalize (List.range r).map eN = RR at *
  generalize cs.map enc = C at *
  generalize cs'.map enc = C2 at *
  generalize eN r = ER at *
  generalize b_lc = mb at *
  generalize i_lc = mi at *
  generalize ofO o4 = s4 at *
  generalize ofO o5 = s5 at *
  simp [runP_ap, initP, bnd_ap, ret_ap, lft_ap, nm_ap, frzv_ap, frzo_ap, dat_ap, val_ap, getv_ap, geto_ap, gets2_ap, op2_ap, op1_ap, tbool_ap, mAnd_ap, mOr_ap, mNot_ap, vAnd_ap, vOr_ap, vNot_ap, mIte_ap, aNil_ap, aCons_ap, datA_ap, getA_ap, opA_ap, mTup_ap, mLst_ap, foD_ap, mCall_ap, mChain_ap, mIsi_ap, mSeq_ap, mEnum_ap, mZip_ap, mRng_ap, mLc_ap, pNo_ap, pYes_ap, mListRng_ap, sNx_ap, sNever_ap, sSeq_ap, sRet_ap, sRetO_ap, sDrop_ap, sIf_ap, rvD_ap, rvO_ap, sSet_ap, sTgt_ap, sFor_ap, mMt_ap, chkL_ap, putM_ap, stN_ap, stRv_ap, stRf_ap, tgT_ap, tgC_ap, tg0_ap, sPar_ap, sPar3_ap, sPut_ap, mCut_ap, mMaxLen_ap, mSrtSet_ap, mSrtKey_ap, mKeys_ap, mDGet_ap, dicOf_ap, putMD_ap, sDPutM_ap, mLock_ap, mCallI_ap, mCallO_ap, mCallF_ap, runB_ap, runO_ap, agD, agG, agI, slD, Sl.isBr, seqD, fLe_ap, fLt_ap, fGt_ap, fGe_ap, fSub_ap, fAdd_ap, fNeg_ap, fLen_t, fLen_l, fAll_l, fAny_l, fTuple_l, fTuple_t, fList_l, fList_t, fInt_i, fEq_int, fNe_int, fIx_t, fIx_l, fIs_b, fNis_b, fIs_n, fNis_n, isNone_i, isNone_n, fApp_i, fApp_t, fExt_l, hadd, e1, hrng, f1, g1]
end K15
end
section
namespace K15
local instance : DL.Tbs := ⟨[]⟩
open PySem PySem.Spec PyProof.Rows L2 DL
/-! repr, sets, equality of what is told -/
def subsOf : Nat → List (List Nat)
  | 0 => [[]]
  | n + 1 => subsOf n ++ (subsOf n).map (· ++ [n])
theorem sub_mem : ∀ (n : Nat) (l : List Nat), ascL l → (∀ x ∈ l, x < n) → l ∈ subsOf n
  | 0, l, _, h => by
    cases l with
    | nil => exact List.mem_cons_self
    | cons a l => have := h a List.mem_cons_self; omega
  | n + 1, l, ha, h => by
    rcases List.eq_nil_or_concat l with rfl | ⟨l', a, e⟩
    · exact List.mem_append_left _ (sub_mem n [] List.Pairwise.nil fun x hx => nomatch hx)
    · rw [List.concat_eq_append] at e
      subst e
      obtain ⟨h1, _, h3⟩ := List.pairwise_append.mp ha
      have hlt : ∀ x ∈ l', x < a := fun x hx => h3 x hx a List.mem_cons_self
      have han := h a (List.mem_append_right _ List.mem_cons_self)
      by_cases e : a = n
      · subst e
        exact List.mem_append_right _ (List.mem_map.mpr ⟨l', sub_mem a l' h1 hlt, rfl⟩)
      · refine List.mem_append_left _ (sub_mem n _ ha fun x hx => ?_)
        rcases List.mem_append.mp hx with hx | hx
        · have := hlt x hx; omega
        · rw [List.mem_singleton.mp hx]; omega
theorem okR1 : (List.range 9).all (fun n => okRepr (.int (n : Int)) && PyData.strOk (PyData.int (n : Int)).shown) = true := by decide +kernel
theorem okR : (subsOf 8).all (fun l => okRepr (tupN l) && PyData.strOk (tupN l).shown) = true := by decide +kernel
theorem repr_n {n : Nat} (h : n ≤ 8) : ∃ s, fRepr [.int (n : Int)] = some (.str s) ∧ PyData.strOk s = true := by
  have := List.all_eq_true.mp okR1 n (List.mem_range.mpr (by omega))
  rw [Bool.and_eq_true] at this
  unfold fRepr f1
  dsimp only
  rw [if_pos this.1]
  exact ⟨_, rfl, this.2⟩
theorem repr_l {l : List Nat} (ha : ascL l) (h : ∀ x ∈ l, x < 8) : ∃ s, fRepr [tupN l] = some (.str s) ∧ PyData.strOk s = true := by
  have := List.all_eq_true.mp okR l (sub_mem 8 l ha h)
  rw [Bool.and_eq_true] at this
  unfold fRepr f1
  dsimp only
  rw [if_pos this.1]
  exact ⟨_, rfl, this.2⟩
theorem ne_str {s : Str} (hs : PyData.strOk s = true) : fNe (.str s) (.str s) = some (.bool false) := by
  have h : SeqAt.shaped (.str s) = true := by simp [SeqAt.shaped, PyData.canLay0, PyData.depth, hs]
  unfold fNe fEqB
  dsimp only
  rw [h]
  simp [PyData.eqv]
theorem ne_list {γ : Type} {e : γ → PyData} {n : Nat} (h : ∀ x, (e x).canLay0 = true) (hd : ∀ x, (e x).depth ≤ n) (hn : n ≤ 60) (l : List γ) : fNe (.list (l.map e)) (.list (l.map e)) = some (.bool false) := by
  have sh := shp_l h hd hn l
  have hr : PyData.eqv (.list (l.map e)) (.list (l.map e)) = true := SeqAt.eqv_refl _ (SeqAt.canLay_of_shaped sh)
  unfold fNe
  rw [fEqB_c sh sh rfl, hr]; rfl
theorem intsT_N : ∀ l : List Nat, intsT (l.map eN) = some (l.map fun (i : Nat) => (i : Int))
  | [] => rfl
  | a :: l => by
    show (intsT (l.map eN)).map (((a : Int)) :: ·) = _
    rw [intsT_N l]; rfl
theorem ascI_of : ∀ {l : List Nat}, ascL l → ascI (l.map fun (i : Nat) => (i : Int)) = true
  | [], _ => rfl
  | [a], _ => rfl
  | a :: b :: r, h => by
    have h2 := List.pairwise_cons.mp h
    have := h2.1 b List.mem_cons_self
    show (decide ((a : Int) < (b : Int)) && ascI ((b :: r).map fun (i : Nat) => (i : Int))) = true
    rw [decide_eq_true (by omega), ascI_of h2.2]; rfl
theorem srtset_N {l : List Nat} (h : ascL l) (hl : l.length < 64) : fSrtSet (tupN l) = some (.ol (l.map eN)) := by
  unfold fSrtSet tupN
  dsimp only
  rw [intsT_N]
  dsimp only
  rw [if_pos ⟨by rw [List.length_map]; exact hl, ascI_of h⟩]
theorem pairsT_P : ∀ ps : List (Int × Int), pairsT (ps.map encP) = some ps
  | [] => rfl
  | a :: l => by
    show (pairsT (l.map encP)).map ((a.1, a.2) :: ·) = _
    rw [pairsT_P l]; rfl
theorem ascP_of : ∀ {ps : List (Int × Int)}, (∀ p ∈ ps, 0 ≤ p.1 ∧ p.1 < 7 ∧ 0 ≤ p.2 ∧ p.2 ≤ 12) → (ps.Pairwise fun p q => ltP p q = true) → ascP ps = true
  | [], _, _ => rfl
  | [a], _, _ => rfl
  | a :: b :: r, hr, h => by
    have h2 := List.pairwise_cons.mp h
    have h3 := of_decide_eq_true (h2.1 b List.mem_cons_self)
    have ra := hr a List.mem_cons_self
    have rb := hr b (List.mem_cons_of_mem _ List.mem_cons_self)
    show (decide (a.1 * 64 + a.2 < b.1 * 64 + b.2) && ascP (b :: r)) = true
    rw [decide_eq_true (by omega), ascP_of (fun p hp => hr p (List.mem_cons_of_mem _ hp)) h2.2]; rfl
theorem srtset_P {ps : List (Int × Int)} (h : Pins ps) (hl : ps.length < 64) : fSrtSet (.tuple (ps.map encP)) = some (.ol (ps.map encP)) := by
  cases ps with
  | nil => unfold fSrtSet; rfl
  | cons p ps =>
    have h0 : intsT ((p :: ps).map encP) = none := rfl
    unfold fSrtSet
    dsimp only
    rw [h0, pairsT_P]
    dsimp only
    rw [if_pos ⟨hl, ascP_of h.rg h.asc, fun q hq => by have := h.rg q hq; omega⟩]
end K15
end
section
namespace K15
local instance : DL.Tbs := ⟨[]⟩
open PySem PySem.Spec PyProof.Rows L2 DL
/-! the parts of the check -/
noncomputable def pr_a : S := (sSet 1 (rvD (mCallI 2 f_law_claims (aCons (nm 0) (aCons (val (DL.ret (.int 8))) (aCons (val (DL.ret (.int 7))) aNil))))))
noncomputable def pr_b : S := (sIf (tbool (op2 fNis (val (mCall 1 f_are_claims (aCons (val (dat (nm 1))) aNil))) (val (DL.ret (.bool true))))) (sRet (DL.ret (.bool false))) sNx)
noncomputable def pr_c : S := (sTgt (mCall 1 f_law_stands (aCons (val (dat (nm 1))) aNil)) (tgT (tgC (stN 2) (tgC (stN 3) tg0))))
noncomputable def pr_d : S := (sPar 4 5 (rvD (mCall 1 f_law_rows_of (aCons (val (dat (nm 1))) aNil))) (rvD (mCall 1 f_law_fullest (aCons (val (dat (nm 1))) aNil))))
noncomputable def pr_e : S := (sTgt (mCall 1 f_most_stands (aCons (val (dat (nm 1))) aNil)) (tgT (tgC (stN 6) (tgC (stN 7) (tgC (stN 8) tg0)))))
noncomputable def pr_f : S := (sIf (mOr (tbool (op2 fNe (val (opA fRepr (aCons (nm 6) aNil))) (val (opA fRepr (aCons (val (opA fLen (aCons (nm 2) aNil))) aNil))))) (mOr (tbool (op2 fNe (val (opA fLen (aCons (nm 7) aNil))) (nm 6))) (mOr (tbool (op2 fNe (val (opA fLen (aCons (nm 8) aNil))) (nm 6))) (mOr (tbool (op2 fNe (val (foD (opA fList (aCons (nm 7) aNil)))) (val (foD (mSrtSet (nm 7)))))) (tbool (op2 fNe (val (foD (opA fList (aCons (nm 8) aNil)))) (val (foD (mSrtSet (nm 8)))))))))) (sRet (DL.ret (.bool false))) sNx)
noncomputable def pr_g : S := (sIf (mOr (mNot (tbool (mCall 2 f_law_is_free (aCons (val (dat (nm 1))) (aCons (val (dat (nm 7))) aNil))))) (mOr (mNot (tbool (mCall 2 f_law_holds (aCons (val (dat (nm 1))) (aCons (val (dat (nm 8))) aNil))))) (tbool (op2 fNis (val (mCall 2 f_shows_most_stands (aCons (val (dat (nm 1))) (aCons (val (mTup (aCons (val (dat (nm 6))) (aCons (val (dat (nm 7))) (aCons (val (dat (nm 8))) aNil))))) aNil)))) (val (DL.ret (.bool true))))))) (sRet (DL.ret (.bool false))) sNx)
noncomputable def pr_h : S := (sIf (mOr (tbool (op2 fNis (val (mCall 2 f_shows_most_stands (aCons (val (dat (nm 1))) (aCons (val (mTup (aCons (val (dat (nm 6))) (aCons (val (dat (nm 2))) (aCons (val (dat (nm 3))) aNil))))) aNil)))) (val (DL.ret (.bool true))))) (mAnd (tbool (op2 fGt (nm 6) (val (DL.ret (.int 0))))) (tbool (op2 fNis (val (mCall 2 f_shows_most_stands (aCons (val (dat (nm 1))) (aCons (val (mTup (aCons (val (op2 fSub (nm 6) (val (DL.ret (.int 1))))) (aCons (val (mCut (nm 2) (pYes (DL.ret (.int 1))) pNo)) (aCons (val (mCut (nm 3) (pYes (DL.ret (.int 1))) pNo)) aNil))))) aNil)))) (val (DL.ret (.bool false))))))) (sRet (DL.ret (.bool false))) sNx)
noncomputable def pr_i : S := (sTgt (mCall 1 f_fewest_rows (aCons (val (dat (nm 1))) aNil)) (tgT (tgC (stN 9) (tgC (stN 10) (tgC (stN 11) tg0)))))
noncomputable def pj_all : M PyData := (opA fAll (aCons (val (foD (mLc (mSeq (nm 10)) [12] (stN 12) (DL.ret true) (mCall 3 f_law_is_int (aCons (val (dat (nm 12))) (aCons (val (DL.ret (.int 0))) (aCons (val (op2 fSub (nm 9) (val (DL.ret (.int 1))))) aNil))))))) aNil))
noncomputable def pr_j : S := (sIf (mOr (tbool (op2 fNe (val (opA fRepr (aCons (nm 9) aNil))) (val (opA fRepr (aCons (val (opA fLen (aCons (nm 5) aNil))) aNil))))) (mOr (tbool (op2 fNe (val (opA fLen (aCons (nm 10) aNil))) (val (opA fLen (aCons (nm 1) aNil))))) (mNot (tbool pj_all)))) (sRet (DL.ret (.bool false))) sNx)
noncomputable def pk_any : M PyData := (opA fAny (aCons (val (foD (mLc (mSeq (val (mCall 1 f_law_pairs (aCons (val (foD (mListRng (opA fLen (aCons (nm 1) aNil))))) aNil)))) [13, 14] (tgT (tgC (stN 13) (tgC (stN 14) tg0))) (DL.ret true) (vAnd (op2 fEq (val (op2 fIx (nm 10) (nm 13))) (val (op2 fIx (nm 10) (nm 14)))) (vAnd (op2 fLt (nm 13) (nm 14)) (mCall 2 f_law_do_meet (aCons (val (op2 fIx (nm 1) (nm 13))) (aCons (val (op2 fIx (nm 1) (nm 14))) aNil)))))))) aNil))
noncomputable def pr_k : S := (sIf (tbool pk_any) (sRet (DL.ret (.bool false))) sNx)
noncomputable def pr_l : S := (sIf (mOr (tbool (op2 fNis (val (mCall 2 f_shows_fewest_rows (aCons (val (dat (nm 1))) (aCons (val (mTup (aCons (val (dat (nm 9))) (aCons (val (dat (nm 4))) (aCons (val (dat (nm 5))) aNil))))) aNil)))) (val (DL.ret (.bool true))))) (tbool (op2 fNis (val (mCall 2 f_shows_fewest_rows (aCons (val (dat (nm 1))) (aCons (val (mTup (aCons (val (dat (nm 9))) (aCons (val (dat (nm 10))) (aCons (val (dat (nm 11))) aNil))))) aNil)))) (val (DL.ret (.bool true)))))) (sRet (DL.ret (.bool false))) sNx)
noncomputable def pr_m : S := (sIf (mAnd (tbool (op2 fGt (nm 9) (val (DL.ret (.int 0))))) (tbool (op2 fNis (val (mCall 2 f_shows_fewest_rows (aCons (val (dat (nm 1))) (aCons (val (mTup (aCons (val (op2 fAdd (nm 9) (val (DL.ret (.int 1))))) (aCons (val (dat (nm 4))) (aCons (val (dat (nm 5))) aNil))))) aNil)))) (val (DL.ret (.bool false)))))) (sRet (DL.ret (.bool false))) sNx)
noncomputable def pr_n : S := (sPar3 15 16 17 (rvD (DL.ret (.int 0))) (rvD (DL.ret (.int 0))) (rvO (mLst aNil)))
noncomputable def po_1 : S := (sSet 20 (rvO (mLc (mRng (aCons (val (opA fLen (aCons (nm 1) aNil))) aNil)) [19] (stN 19) (tbool (op2 fEq (val (op2 fIx (val (op2 fIx (nm 1) (nm 19))) (val (DL.ret (.int 0))))) (nm 18))) (dat (nm 19)))))
noncomputable def po_2 : S := (sSet 21 (rvD (opA fTuple (aCons (val (foD (mLc (mSeq (nm 20)) [19] (stN 19) (DL.ret true) (op2 fIx (nm 1) (nm 19))))) aNil))))
noncomputable def po_3 : S := (sPar 15 16 (rvD (op2 fAdd (nm 15) (val (op2 fIx (val (mCall 1 f_most_stands (aCons (val (dat (nm 21))) aNil))) (val (DL.ret (.int 0))))))) (rvD (opA fMax (aCons (nm 16) (aCons (val (op2 fIx (val (mCall 1 f_fewest_rows (aCons (val (dat (nm 21))) aNil))) (val (DL.ret (.int 0))))) aNil)))))
noncomputable def po_4 : S := (sDrop (mMt fExtend (nm 17) (aCons (val (foD (mLc (mSeq (val (mCall 1 f_granted (aCons (val (dat (nm 21))) aNil)))) [19] (stN 19) (DL.ret true) (op2 fIx (nm 20) (nm 19))))) aNil)))
noncomputable def po_i : S := (sSeq (sPar 22 23 (rvD (mCall 2 f_barred_by (aCons (val (dat (nm 21))) (aCons (val (dat (nm 19))) aNil)))) (rvD (mCall 2 f_barred_by (aCons (val (dat (nm 1))) (aCons (val (op2 fIx (nm 20) (nm 19))) aNil)))))
    (sIf (mOr (tbool (op2 fNe (val (op2 fIs (nm 22) (val (DL.ret .none)))) (val (op2 fIs (nm 23) (val (DL.ret .none)))))) (mAnd (tbool (op2 fNis (nm 22) (val (DL.ret .none)))) (tbool (op2 fNe (val (op2 fIx (nm 20) (nm 22))) (nm 23))))) (sRet (DL.ret (.bool false))) sNx))
noncomputable def po_5 : S := sFor (mRng (aCons (val (opA fLen (aCons (nm 21) aNil))) aNil)) (stN 19) po_i
noncomputable def po_b : S := (sSeq po_1 (sSeq po_2 (sSeq po_3 (sSeq po_4 po_5))))
noncomputable def pr_o : S := sFor (mRng (aCons (val (DL.ret (.int 7))) aNil)) (stN 18) po_b
noncomputable def pr_p : S := (sIf (mOr (tbool (op2 fNe (nm 15) (nm 6))) (mOr (tbool (op2 fNe (nm 16) (nm 9))) (tbool (op2 fNe (val (opA fRepr (aCons (val (mCall 1 f_granted (aCons (val (dat (nm 1))) aNil))) aNil))) (val (opA fRepr (aCons (val (opA fTuple (aCons (val (foD (opA fSorted (aCons (nm 17) aNil)))) aNil))) aNil))))))) (sRet (DL.ret (.bool false))) sNx)
noncomputable def pq_all : M PyData := (opA fAll (aCons (val (foD (mLc (mSeq (val (mCall 1 f_law_pairs (aCons (val (foD (mListRng (opA fLen (aCons (nm 1) aNil))))) aNil)))) [13, 14] (tgT (tgC (stN 13) (tgC (stN 14) tg0))) (DL.ret true) (op2 fEq (val (mCall 3 f_do_meet (aCons (val (dat (nm 1))) (aCons (val (dat (nm 13))) (aCons (val (dat (nm 14))) aNil))))) (val (mCall 2 f_law_do_meet (aCons (val (op2 fIx (nm 1) (nm 13))) (aCons (val (op2 fIx (nm 1) (nm 14))) aNil)))))))) aNil))
noncomputable def pr_q : S := sRet pq_all
theorem m_right_is : m_law_right = (sSeq pr_a (sSeq pr_b (sSeq pr_c (sSeq pr_d (sSeq pr_e (sSeq pr_f (sSeq pr_g (sSeq pr_h (sSeq pr_i (sSeq pr_j (sSeq pr_k (sSeq pr_l (sSeq pr_m (sSeq pr_n (sSeq pr_o (sSeq pr_p pr_q)))))))))))))))) := rfl
section
variable (P P' : List PyData) (C L T R F : PyData) (n m : Int)
theorem pr_aE (h : f_law_claims P [.int 8, .int 7] = some (C, P')) : pr_a [.br P, .no, .no, .no, .no, .no, .no, .no, .no, .no, .no, .no, .no, .no, .no, .no, .no, .no, .no, .no, .no, .no, .no, .no] = some (.nx, [.br P', .d C, .no, .no, .no, .no, .no, .no, .no, .no, .no, .no, .no, .no, .no, .no, .no, .no, .no, .no, .no, .no, .no, .no]) := by
  unfold pr_a
  simp [runP_ap, initP, bnd_ap, ret_ap, lft_ap, nm_ap, frzv_ap, frzo_ap, dat_ap, val_ap, getv_ap, geto_ap, gets2_ap, op2_ap, op1_ap, tbool_ap, mAnd_ap, mOr_ap, mNot_ap, vAnd_ap, vOr_ap, vNot_ap, mIte_ap, aNil_ap, aCons_ap, datA_ap, getA_ap, opA_ap, mTup_ap, mLst_ap, foD_ap, mCall_ap, mChain_ap, mIsi_ap, mSeq_ap, mEnum_ap, mZip_ap, mRng_ap, mLc_ap, pNo_ap, pYes_ap, mListRng_ap, sNx_ap, sNever_ap, sSeq_ap, sRet_ap, sRetO_ap, sDrop_ap, sIf_ap, rvD_ap, rvO_ap, sSet_ap, sTgt_ap, sFor_ap, mMt_ap, chkL_ap, putM_ap, stN_ap, stRv_ap, stRf_ap, tgT_ap, tgC_ap, tg0_ap, sPar_ap, sPar3_ap, sPut_ap, mCut_ap, mMaxLen_ap, mSrtSet_ap, mSrtKey_ap, mKeys_ap, mDGet_ap, dicOf_ap, putMD_ap, sDPutM_ap, mLock_ap, mCallI_ap, mCallO_ap, mCallF_ap, runB_ap, runO_ap, agD, agG, agI, slD, Sl.isBr, seqD, fLe_ap, fLt_ap, fGt_ap, fGe_ap, fSub_ap, fAdd_ap, fNeg_ap, fLen_t, fLen_l, fAll_l, fAny_l, fTuple_l, fTuple_t, fList_l, fList_t, fInt_i, fEq_int, fNe_int, fIx_t, fIx_l, fIs_b, fNis_b, fIs_n, fNis_n, isNone_i, isNone_n, fApp_i, fApp_t, fExt_l, h]
theorem pr_bE (h : f_are_claims [C] = some (.bool true)) : pr_b [.br P, .d C, .no, .no, .no, .no, .no, .no, .no, .no, .no, .no, .no, .no, .no, .no, .no, .no, .no, .no, .no, .no, .no, .no] = some (.nx, [.br P, .d C, .no, .no, .no, .no, .no, .no, .no, .no, .no, .no, .no, .no, .no, .no, .no, .no, .no, .no, .no, .no, .no, .no]) := by
  unfold pr_b
  simp [runP_ap, initP, bnd_ap, ret_ap, lft_ap, nm_ap, frzv_ap, frzo_ap, dat_ap, val_ap, getv_ap, geto_ap, gets2_ap, op2_ap, op1_ap, tbool_ap, mAnd_ap, mOr_ap, mNot_ap, vAnd_ap, vOr_ap, vNot_ap, mIte_ap, aNil_ap, aCons_ap, datA_ap, getA_ap, opA_ap, mTup_ap, mLst_ap, foD_ap, mCall_ap, mChain_ap, mIsi_ap, mSeq_ap, mEnum_ap, mZip_ap, mRng_ap, mLc_ap, pNo_ap, pYes_ap, mListRng_ap, sNx_ap, sNever_ap, sSeq_ap, sRet_ap, sRetO_ap, sDrop_ap, sIf_ap, rvD_ap, rvO_ap, sSet_ap, sTgt_ap, sFor_ap, mMt_ap, chkL_ap, putM_ap, stN_ap, stRv_ap, stRf_ap, tgT_ap, tgC_ap, tg0_ap, sPar_ap, sPar3_ap, sPut_ap, mCut_ap, mMaxLen_ap, mSrtSet_ap, mSrtKey_ap, mKeys_ap, mDGet_ap, dicOf_ap, putMD_ap, sDPutM_ap, mLock_ap, mCallI_ap, mCallO_ap, mCallF_ap, runB_ap, runO_ap, agD, agG, agI, slD, Sl.isBr, seqD, fLe_ap, fLt_ap, fGt_ap, fGe_ap, fSub_ap, fAdd_ap, fNeg_ap, fLen_t, fLen_l, fAll_l, fAny_l, fTuple_l, fTuple_t, fList_l, fList_t, fInt_i, fEq_int, fNe_int, fIx_t, fIx_l, fIs_b, fNis_b, fIs_n, fNis_n, isNone_i, isNone_n, fApp_i, fApp_t, fExt_l, h]
theorem pr_cE (h : f_law_stands [C] = some (.tuple [L, T])) : pr_c [.br P, .d C, .no, .no, .no, .no, .no, .no, .no, .no, .no, .no, .no, .no, .no, .no, .no, .no, .no, .no, .no, .no, .no, .no] = some (.nx, [.br P, .d C, .d L, .d T, .no, .no, .no, .no, .no, .no, .no, .no, .no, .no, .no, .no, .no, .no, .no, .no, .no, .no, .no, .no]) := by
  unfold pr_c
  simp [runP_ap, initP, bnd_ap, ret_ap, lft_ap, nm_ap, frzv_ap, frzo_ap, dat_ap, val_ap, getv_ap, geto_ap, gets2_ap, op2_ap, op1_ap, tbool_ap, mAnd_ap, mOr_ap, mNot_ap, vAnd_ap, vOr_ap, vNot_ap, mIte_ap, aNil_ap, aCons_ap, datA_ap, getA_ap, opA_ap, mTup_ap, mLst_ap, foD_ap, mCall_ap, mChain_ap, mIsi_ap, mSeq_ap, mEnum_ap, mZip_ap, mRng_ap, mLc_ap, pNo_ap, pYes_ap, mListRng_ap, sNx_ap, sNever_ap, sSeq_ap, sRet_ap, sRetO_ap, sDrop_ap, sIf_ap, rvD_ap, rvO_ap, sSet_ap, sTgt_ap, sFor_ap, mMt_ap, chkL_ap, putM_ap, stN_ap, stRv_ap, stRf_ap, tgT_ap, tgC_ap, tg0_ap, sPar_ap, sPar3_ap, sPut_ap, mCut_ap, mMaxLen_ap, mSrtSet_ap, mSrtKey_ap, mKeys_ap, mDGet_ap, dicOf_ap, putMD_ap, sDPutM_ap, mLock_ap, mCallI_ap, mCallO_ap, mCallF_ap, runB_ap, runO_ap, agD, agG, agI, slD, Sl.isBr, seqD, fLe_ap, fLt_ap, fGt_ap, fGe_ap, fSub_ap, fAdd_ap, fNeg_ap, fLen_t, fLen_l, fAll_l, fAny_l, fTuple_l, fTuple_t, fList_l, fList_t, fInt_i, fEq_int, fNe_int, fIx_t, fIx_l, fIs_b, fNis_b, fIs_n, fNis_n, isNone_i, isNone_n, fApp_i, fApp_t, fExt_l, h]
theorem pr_dE (h1 : f_law_rows_of [C] = some R) (h2 : f_law_fullest [C] = some F) : pr_d [.br P, .d C, .d L, .d T, .no, .no, .no, .no, .no, .no, .no, .no, .no, .no, .no, .no, .no, .no, .no, .no, .no, .no, .no, .no] = some (.nx, [.br P, .d C, .d L, .d T, .d R, .d F, .no, .no, .no, .no, .no, .no, .no, .no, .no, .no, .no, .no, .no, .no, .no, .no, .no, .no]) := by
  unfold pr_d
  simp [runP_ap, initP, bnd_ap, ret_ap, lft_ap, nm_ap, frzv_ap, frzo_ap, dat_ap, val_ap, getv_ap, geto_ap, gets2_ap, op2_ap, op1_ap, tbool_ap, mAnd_ap, mOr_ap, mNot_ap, vAnd_ap, vOr_ap, vNot_ap, mIte_ap, aNil_ap, aCons_ap, datA_ap, getA_ap, opA_ap, mTup_ap, mLst_ap, foD_ap, mCall_ap, mChain_ap, mIsi_ap, mSeq_ap, mEnum_ap, mZip_ap, mRng_ap, mLc_ap, pNo_ap, pYes_ap, mListRng_ap, sNx_ap, sNever_ap, sSeq_ap, sRet_ap, sRetO_ap, sDrop_ap, sIf_ap, rvD_ap, rvO_ap, sSet_ap, sTgt_ap, sFor_ap, mMt_ap, chkL_ap, putM_ap, stN_ap, stRv_ap, stRf_ap, tgT_ap, tgC_ap, tg0_ap, sPar_ap, sPar3_ap, sPut_ap, mCut_ap, mMaxLen_ap, mSrtSet_ap, mSrtKey_ap, mKeys_ap, mDGet_ap, dicOf_ap, putMD_ap, sDPutM_ap, mLock_ap, mCallI_ap, mCallO_ap, mCallF_ap, runB_ap, runO_ap, agD, agG, agI, slD, Sl.isBr, seqD, fLe_ap, fLt_ap, fGt_ap, fGe_ap, fSub_ap, fAdd_ap, fNeg_ap, fLen_t, fLen_l, fAll_l, fAny_l, fTuple_l, fTuple_t, fList_l, fList_t, fInt_i, fEq_int, fNe_int, fIx_t, fIx_l, fIs_b, fNis_b, fIs_n, fNis_n, isNone_i, isNone_n, fApp_i, fApp_t, fExt_l, h1, h2]
theorem pr_eE (h : f_most_stands [C] = some (.tuple [.int n, L, T])) : pr_e [.br P, .d C, .d L, .d T, .d R, .d F, .no, .no, .no, .no, .no, .no, .no, .no, .no, .no, .no, .no, .no, .no, .no, .no, .no, .no] = some (.nx, [.br P, .d C, .d L, .d T, .d R, .d F, .d (.int n), .d L, .d T, .no, .no, .no, .no, .no, .no, .no, .no, .no, .no, .no, .no, .no, .no, .no]) := by
  unfold pr_e
  simp [runP_ap, initP, bnd_ap, ret_ap, lft_ap, nm_ap, frzv_ap, frzo_ap, dat_ap, val_ap, getv_ap, geto_ap, gets2_ap, op2_ap, op1_ap, tbool_ap, mAnd_ap, mOr_ap, mNot_ap, vAnd_ap, vOr_ap, vNot_ap, mIte_ap, aNil_ap, aCons_ap, datA_ap, getA_ap, opA_ap, mTup_ap, mLst_ap, foD_ap, mCall_ap, mChain_ap, mIsi_ap, mSeq_ap, mEnum_ap, mZip_ap, mRng_ap, mLc_ap, pNo_ap, pYes_ap, mListRng_ap, sNx_ap, sNever_ap, sSeq_ap, sRet_ap, sRetO_ap, sDrop_ap, sIf_ap, rvD_ap, rvO_ap, sSet_ap, sTgt_ap, sFor_ap, mMt_ap, chkL_ap, putM_ap, stN_ap, stRv_ap, stRf_ap, tgT_ap, tgC_ap, tg0_ap, sPar_ap, sPar3_ap, sPut_ap, mCut_ap, mMaxLen_ap, mSrtSet_ap, mSrtKey_ap, mKeys_ap, mDGet_ap, dicOf_ap, putMD_ap, sDPutM_ap, mLock_ap, mCallI_ap, mCallO_ap, mCallF_ap, runB_ap, runO_ap, agD, agG, agI, slD, Sl.isBr, seqD, fLe_ap, fLt_ap, fGt_ap, fGe_ap, fSub_ap, fAdd_ap, fNeg_ap, fLen_t, fLen_l, fAll_l, fAny_l, fTuple_l, fTuple_t, fList_l, fList_t, fInt_i, fEq_int, fNe_int, fIx_t, fIx_l, fIs_b, fNis_b, fIs_n, fNis_n, isNone_i, isNone_n, fApp_i, fApp_t, fExt_l, h]
theorem pr_fE {S : Str} {LL TT : List PyData} (h1 : fRepr [.int n] = some (.str S)) (h2 : fLen [L] = some (.int n)) (h3 : fLen [T] = some (.int n)) (h4 : fNe (.str S) (.str S) = some (.bool false))
    (h5 : fList [L] = some (.ol LL)) (h6 : fSrtSet L = some (.ol LL)) (h7 : fNe (.list LL) (.list LL) = some (.bool false)) (h8 : fList [T] = some (.ol TT)) (h9 : fSrtSet T = some (.ol TT)) (h10 : fNe (.list TT) (.list TT) = some (.bool false)) :
    pr_f [.br P, .d C, .d L, .d T, .d R, .d F, .d (.int n), .d L, .d T, .no, .no, .no, .no, .no, .no, .no, .no, .no, .no, .no, .no, .no, .no, .no] = some (.nx, [.br P, .d C, .d L, .d T, .d R, .d F, .d (.int n), .d L, .d T, .no, .no, .no, .no, .no, .no, .no, .no, .no, .no, .no, .no, .no, .no, .no]) := by
  unfold pr_f
  simp [runP_ap, initP, bnd_ap, ret_ap, lft_ap, nm_ap, frzv_ap, frzo_ap, dat_ap, val_ap, getv_ap, geto_ap, gets2_ap, op2_ap, op1_ap, tbool_ap, mAnd_ap, mOr_ap, mNot_ap, vAnd_ap, vOr_ap, vNot_ap, mIte_ap, aNil_ap, aCons_ap, datA_ap, getA_ap, opA_ap, mTup_ap, mLst_ap, foD_ap, mCall_ap, mChain_ap, mIsi_ap, mSeq_ap, mEnum_ap, mZip_ap, mRng_ap, mLc_ap, pNo_ap, pYes_ap, mListRng_ap, sNx_ap, sNever_ap, sSeq_ap, sRet_ap, sRetO_ap, sDrop_ap, sIf_ap, rvD_ap, rvO_ap, sSet_ap, sTgt_ap, sFor_ap, mMt_ap, chkL_ap, putM_ap, stN_ap, stRv_ap, stRf_ap, tgT_ap, tgC_ap, tg0_ap, sPar_ap, sPar3_ap, sPut_ap, mCut_ap, mMaxLen_ap, mSrtSet_ap, mSrtKey_ap, mKeys_ap, mDGet_ap, dicOf_ap, putMD_ap, sDPutM_ap, mLock_ap, mCallI_ap, mCallO_ap, mCallF_ap, runB_ap, runO_ap, agD, agG, agI, slD, Sl.isBr, seqD, fLe_ap, fLt_ap, fGt_ap, fGe_ap, fSub_ap, fAdd_ap, fNeg_ap, fLen_t, fLen_l, fAll_l, fAny_l, fTuple_l, fTuple_t, fList_l, fList_t, fInt_i, fEq_int, fNe_int, fIx_t, fIx_l, fIs_b, fNis_b, fIs_n, fNis_n, isNone_i, isNone_n, fApp_i, fApp_t, fExt_l, h1, h2, h3, h4, h5, h6, h7, h8, h9, h10]
theorem pr_gE (h1 : f_law_is_free [C, L] = some (.bool true)) (h2 : f_law_holds [C, T] = some (.bool true)) (h3 : f_shows_most_stands [C, .tuple [.int n, L, T]] = some (.bool true)) :
    pr_g [.br P, .d C, .d L, .d T, .d R, .d F, .d (.int n), .d L, .d T, .no, .no, .no, .no, .no, .no, .no, .no, .no, .no, .no, .no, .no, .no, .no] = some (.nx, [.br P, .d C, .d L, .d T, .d R, .d F, .d (.int n), .d L, .d T, .no, .no, .no, .no, .no, .no, .no, .no, .no, .no, .no, .no, .no, .no, .no]) := by
  unfold pr_g
  simp [runP_ap, initP, bnd_ap, ret_ap, lft_ap, nm_ap, frzv_ap, frzo_ap, dat_ap, val_ap, getv_ap, geto_ap, gets2_ap, op2_ap, op1_ap, tbool_ap, mAnd_ap, mOr_ap, mNot_ap, vAnd_ap, vOr_ap, vNot_ap, mIte_ap, aNil_ap, aCons_ap, datA_ap, getA_ap, opA_ap, mTup_ap, mLst_ap, foD_ap, mCall_ap, mChain_ap, mIsi_ap, mSeq_ap, mEnum_ap, mZip_ap, mRng_ap, mLc_ap, pNo_ap, pYes_ap, mListRng_ap, sNx_ap, sNever_ap, sSeq_ap, sRet_ap, sRetO_ap, sDrop_ap, sIf_ap, rvD_ap, rvO_ap, sSet_ap, sTgt_ap, sFor_ap, mMt_ap, chkL_ap, putM_ap, stN_ap, stRv_ap, stRf_ap, tgT_ap, tgC_ap, tg0_ap, sPar_ap, sPar3_ap, sPut_ap, mCut_ap, mMaxLen_ap, mSrtSet_ap, mSrtKey_ap, mKeys_ap, mDGet_ap, dicOf_ap, putMD_ap, sDPutM_ap, mLock_ap, mCallI_ap, mCallO_ap, mCallF_ap, runB_ap, runO_ap, agD, agG, agI, slD, Sl.isBr, seqD, fLe_ap, fLt_ap, fGt_ap, fGe_ap, fSub_ap, fAdd_ap, fNeg_ap, fLen_t, fLen_l, fAll_l, fAny_l, fTuple_l, fTuple_t, fList_l, fList_t, fInt_i, fEq_int, fNe_int, fIx_t, fIx_l, fIs_b, fNis_b, fIs_n, fNis_n, isNone_i, isNone_n, fApp_i, fApp_t, fExt_l, h1, h2, h3]
theorem pr_hE {L1 T1 : PyData} (h1 : f_shows_most_stands [C, .tuple [.int n, L, T]] = some (.bool true)) (h2 : fCut (some 1) none L = some L1) (h3 : fCut (some 1) none T = some T1) (h4 : 0 < n → f_shows_most_stands [C, .tuple [.int (n - 1), L1, T1]] = some (.bool false)) :
    pr_h [.br P, .d C, .d L, .d T, .d R, .d F, .d (.int n), .d L, .d T, .no, .no, .no, .no, .no, .no, .no, .no, .no, .no, .no, .no, .no, .no, .no] = some (.nx, [.br P, .d C, .d L, .d T, .d R, .d F, .d (.int n), .d L, .d T, .no, .no, .no, .no, .no, .no, .no, .no, .no, .no, .no, .no, .no, .no, .no]) := by
  unfold pr_h
  by_cases hn : 0 < n
  · have h4 := h4 hn
    simp [runP_ap, initP, bnd_ap, ret_ap, lft_ap, nm_ap, frzv_ap, frzo_ap, dat_ap, val_ap, getv_ap, geto_ap, gets2_ap, op2_ap, op1_ap, tbool_ap, mAnd_ap, mOr_ap, mNot_ap, vAnd_ap, vOr_ap, vNot_ap, mIte_ap, aNil_ap, aCons_ap, datA_ap, getA_ap, opA_ap, mTup_ap, mLst_ap, foD_ap, mCall_ap, mChain_ap, mIsi_ap, mSeq_ap, mEnum_ap, mZip_ap, mRng_ap, mLc_ap, pNo_ap, pYes_ap, mListRng_ap, sNx_ap, sNever_ap, sSeq_ap, sRet_ap, sRetO_ap, sDrop_ap, sIf_ap, rvD_ap, rvO_ap, sSet_ap, sTgt_ap, sFor_ap, mMt_ap, chkL_ap, putM_ap, stN_ap, stRv_ap, stRf_ap, tgT_ap, tgC_ap, tg0_ap, sPar_ap, sPar3_ap, sPut_ap, mCut_ap, mMaxLen_ap, mSrtSet_ap, mSrtKey_ap, mKeys_ap, mDGet_ap, dicOf_ap, putMD_ap, sDPutM_ap, mLock_ap, mCallI_ap, mCallO_ap, mCallF_ap, runB_ap, runO_ap, agD, agG, agI, slD, Sl.isBr, seqD, fLe_ap, fLt_ap, fGt_ap, fGe_ap, fSub_ap, fAdd_ap, fNeg_ap, fLen_t, fLen_l, fAll_l, fAny_l, fTuple_l, fTuple_t, fList_l, fList_t, fInt_i, fEq_int, fNe_int, fIx_t, fIx_l, fIs_b, fNis_b, fIs_n, fNis_n, isNone_i, isNone_n, fApp_i, fApp_t, fExt_l, h1, h2, h3, h4, hn]
  · simp [runP_ap, initP, bnd_ap, ret_ap, lft_ap, nm_ap, frzv_ap, frzo_ap, dat_ap, val_ap, getv_ap, geto_ap, gets2_ap, op2_ap, op1_ap, tbool_ap, mAnd_ap, mOr_ap, mNot_ap, vAnd_ap, vOr_ap, vNot_ap, mIte_ap, aNil_ap, aCons_ap, datA_ap, getA_ap, opA_ap, mTup_ap, mLst_ap, foD_ap, mCall_ap, mChain_ap, mIsi_ap, mSeq_ap, mEnum_ap, mZip_ap, mRng_ap, mLc_ap, pNo_ap, pYes_ap, mListRng_ap, sNx_ap, sNever_ap, sSeq_ap, sRet_ap, sRetO_ap, sDrop_ap, sIf_ap, rvD_ap, rvO_ap, sSet_ap, sTgt_ap, sFor_ap, mMt_ap, chkL_ap, putM_ap, stN_ap, stRv_ap, stRf_ap, tgT_ap, tgC_ap, tg0_ap, sPar_ap, sPar3_ap, sPut_ap, mCut_ap, mMaxLen_ap, mSrtSet_ap, mSrtKey_ap, mKeys_ap, mDGet_ap, dicOf_ap, putMD_ap, sDPutM_ap, mLock_ap, mCallI_ap, mCallO_ap, mCallF_ap, runB_ap, runO_ap, agD, agG, agI, slD, Sl.isBr, seqD, fLe_ap, fLt_ap, fGt_ap, fGe_ap, fSub_ap, fAdd_ap, fNeg_ap, fLen_t, fLen_l, fAll_l, fAny_l, fTuple_l, fTuple_t, fList_l, fList_t, fInt_i, fEq_int, fNe_int, fIx_t, fIx_l, fIs_b, fNis_b, fIs_n, fNis_n, isNone_i, isNone_n, fApp_i, fApp_t, fExt_l, h1, hn]
theorem pr_iE (h : f_fewest_rows [C] = some (.tuple [.int m, R, F])) : pr_i [.br P, .d C, .d L, .d T, .d R, .d F, .d (.int n), .d L, .d T, .no, .no, .no, .no, .no, .no, .no, .no, .no, .no, .no, .no, .no, .no, .no] = some (.nx, [.br P, .d C, .d L, .d T, .d R, .d F, .d (.int n), .d L, .d T, .d (.int m), .d R, .d F, .no, .no, .no, .no, .no, .no, .no, .no, .no, .no, .no, .no]) := by
  unfold pr_i
  simp [runP_ap, initP, bnd_ap, ret_ap, lft_ap, nm_ap, frzv_ap, frzo_ap, dat_ap, val_ap, getv_ap, geto_ap, gets2_ap, op2_ap, op1_ap, tbool_ap, mAnd_ap, mOr_ap, mNot_ap, vAnd_ap, vOr_ap, vNot_ap, mIte_ap, aNil_ap, aCons_ap, datA_ap, getA_ap, opA_ap, mTup_ap, mLst_ap, foD_ap, mCall_ap, mChain_ap, mIsi_ap, mSeq_ap, mEnum_ap, mZip_ap, mRng_ap, mLc_ap, pNo_ap, pYes_ap, mListRng_ap, sNx_ap, sNever_ap, sSeq_ap, sRet_ap, sRetO_ap, sDrop_ap, sIf_ap, rvD_ap, rvO_ap, sSet_ap, sTgt_ap, sFor_ap, mMt_ap, chkL_ap, putM_ap, stN_ap, stRv_ap, stRf_ap, tgT_ap, tgC_ap, tg0_ap, sPar_ap, sPar3_ap, sPut_ap, mCut_ap, mMaxLen_ap, mSrtSet_ap, mSrtKey_ap, mKeys_ap, mDGet_ap, dicOf_ap, putMD_ap, sDPutM_ap, mLock_ap, mCallI_ap, mCallO_ap, mCallF_ap, runB_ap, runO_ap, agD, agG, agI, slD, Sl.isBr, seqD, fLe_ap, fLt_ap, fGt_ap, fGe_ap, fSub_ap, fAdd_ap, fNeg_ap, fLen_t, fLen_l, fAll_l, fAny_l, fTuple_l, fTuple_t, fList_l, fList_t, fInt_i, fEq_int, fNe_int, fIx_t, fIx_l, fIs_b, fNis_b, fIs_n, fNis_n, isNone_i, isNone_n, fApp_i, fApp_t, fExt_l, h]
def stG (s15 s16 s17 s18 s19 s20 s21 s22 s23 : Sl) : Ro := [.br P, .d C, .d L, .d T, .d R, .d F, .d (.int n), .d L, .d T, .d (.int m), .d R, .d F, .no, .no, .no, s15, s16, s17, s18, s19, s20, s21, s22, s23]
theorem pr_jE {S : Str} {k : PyData} (h1 : fRepr [.int m] = some (.str S)) (h2 : fLen [F] = some (.int m)) (h3 : fLen [R] = some k) (h4 : fNe (.str S) (.str S) = some (.bool false)) (h5 : fLen [C] = some k) (h6 : fNe k k = some (.bool false))
    (h7 : pj_all (stG P C L T R F n m .no .no .no .no .no .no .no .no .no) = some (.bool true, stG P C L T R F n m .no .no .no .no .no .no .no .no .no)) : pr_j (stG P C L T R F n m .no .no .no .no .no .no .no .no .no) = some (.nx, stG P C L T R F n m .no .no .no .no .no .no .no .no .no) := by
  unfold pr_j
  generalize pj_all = mj at *
  unfold stG at *
  simp [runP_ap, initP, bnd_ap, ret_ap, lft_ap, nm_ap, frzv_ap, frzo_ap, dat_ap, val_ap, getv_ap, geto_ap, gets2_ap, op2_ap, op1_ap, tbool_ap, mAnd_ap, mOr_ap, mNot_ap, vAnd_ap, vOr_ap, vNot_ap, mIte_ap, aNil_ap, aCons_ap, datA_ap, getA_ap, opA_ap, mTup_ap, mLst_ap, foD_ap, mCall_ap, mChain_ap, mIsi_ap, mSeq_ap, mEnum_ap, mZip_ap, mRng_ap, mLc_ap, pNo_ap, pYes_ap, mListRng_ap, sNx_ap, sNever_ap, sSeq_ap, sRet_ap, sRetO_ap, sDrop_ap, sIf_ap, rvD_ap, rvO_ap, sSet_ap, sTgt_ap, sFor_ap, mMt_ap, chkL_ap, putM_ap, stN_ap, stRv_ap, stRf_ap, tgT_ap, tgC_ap, tg0_ap, sPar_ap, sPar3_ap, sPut_ap, mCut_ap, mMaxLen_ap, mSrtSet_ap, mSrtKey_ap, mKeys_ap, mDGet_ap, dicOf_ap, putMD_ap, sDPutM_ap, mLock_ap, mCallI_ap, mCallO_ap, mCallF_ap, runB_ap, runO_ap, agD, agG, agI, slD, Sl.isBr, seqD, fLe_ap, fLt_ap, fGt_ap, fGe_ap, fSub_ap, fAdd_ap, fNeg_ap, fLen_t, fLen_l, fAll_l, fAny_l, fTuple_l, fTuple_t, fList_l, fList_t, fInt_i, fEq_int, fNe_int, fIx_t, fIx_l, fIs_b, fNis_b, fIs_n, fNis_n, isNone_i, isNone_n, fApp_i, fApp_t, fExt_l, h1, h2, h3, h4, h5, h6, h7]
theorem pr_kE (h : pk_any (stG P C L T R F n m .no .no .no .no .no .no .no .no .no) = some (.bool false, stG P C L T R F n m .no .no .no .no .no .no .no .no .no)) : pr_k (stG P C L T R F n m .no .no .no .no .no .no .no .no .no) = some (.nx, stG P C L T R F n m .no .no .no .no .no .no .no .no .no) := by
  unfold pr_k
  generalize pk_any = mk at *
  generalize stG P C L T R F n m .no .no .no .no .no .no .no .no .no = X at *
  simp [runP_ap, initP, bnd_ap, ret_ap, lft_ap, nm_ap, frzv_ap, frzo_ap, dat_ap, val_ap, getv_ap, geto_ap, gets2_ap, op2_ap, op1_ap, tbool_ap, mAnd_ap, mOr_ap, mNot_ap, vAnd_ap, vOr_ap, vNot_ap, mIte_ap, aNil_ap, aCons_ap, datA_ap, getA_ap, opA_ap, mTup_ap, mLst_ap, foD_ap, mCall_ap, mChain_ap, mIsi_ap, mSeq_ap, mEnum_ap, mZip_ap, mRng_ap, mLc_ap, pNo_ap, pYes_ap, mListRng_ap, sNx_ap, sNever_ap, sSeq_ap, sRet_ap, sRetO_ap, sDrop_ap, sIf_ap, rvD_ap, rvO_ap, sSet_ap, sTgt_ap, sFor_ap, mMt_ap, chkL_ap, putM_ap, stN_ap, stRv_ap, stRf_ap, tgT_ap, tgC_ap, tg0_ap, sPar_ap, sPar3_ap, sPut_ap, mCut_ap, mMaxLen_ap, mSrtSet_ap, mSrtKey_ap, mKeys_ap, mDGet_ap, dicOf_ap, putMD_ap, sDPutM_ap, mLock_ap, mCallI_ap, mCallO_ap, mCallF_ap, runB_ap, runO_ap, agD, agG, agI, slD, Sl.isBr, seqD, fLe_ap, fLt_ap, fGt_ap, fGe_ap, fSub_ap, fAdd_ap, fNeg_ap, fLen_t, fLen_l, fAll_l, fAny_l, fTuple_l, fTuple_t, fList_l, fList_t, fInt_i, fEq_int, fNe_int, fIx_t, fIx_l, fIs_b, fNis_b, fIs_n, fNis_n, isNone_i, isNone_n, fApp_i, fApp_t, fExt_l, h]
theorem pr_lE (h : f_shows_fewest_rows [C, .tuple [.int m, R, F]] = some (.bool true)) : pr_l (stG P C L T R F n m .no .no .no .no .no .no .no .no .no) = some (.nx, stG P C L T R F n m .no .no .no .no .no .no .no .no .no) := by
  unfold pr_l stG
  simp [runP_ap, initP, bnd_ap, ret_ap, lft_ap, nm_ap, frzv_ap, frzo_ap, dat_ap, val_ap, getv_ap, geto_ap, gets2_ap, op2_ap, op1_ap, tbool_ap, mAnd_ap, mOr_ap, mNot_ap, vAnd_ap, vOr_ap, vNot_ap, mIte_ap, aNil_ap, aCons_ap, datA_ap, getA_ap, opA_ap, mTup_ap, mLst_ap, foD_ap, mCall_ap, mChain_ap, mIsi_ap, mSeq_ap, mEnum_ap, mZip_ap, mRng_ap, mLc_ap, pNo_ap, pYes_ap, mListRng_ap, sNx_ap, sNever_ap, sSeq_ap, sRet_ap, sRetO_ap, sDrop_ap, sIf_ap, rvD_ap, rvO_ap, sSet_ap, sTgt_ap, sFor_ap, mMt_ap, chkL_ap, putM_ap, stN_ap, stRv_ap, stRf_ap, tgT_ap, tgC_ap, tg0_ap, sPar_ap, sPar3_ap, sPut_ap, mCut_ap, mMaxLen_ap, mSrtSet_ap, mSrtKey_ap, mKeys_ap, mDGet_ap, dicOf_ap, putMD_ap, sDPutM_ap, mLock_ap, mCallI_ap, mCallO_ap, mCallF_ap, runB_ap, runO_ap, agD, agG, agI, slD, Sl.isBr, seqD, fLe_ap, fLt_ap, fGt_ap, fGe_ap, fSub_ap, fAdd_ap, fNeg_ap, fLen_t, fLen_l, fAll_l, fAny_l, fTuple_l, fTuple_t, fList_l, fList_t, fInt_i, fEq_int, fNe_int, fIx_t, fIx_l, fIs_b, fNis_b, fIs_n, fNis_n, isNone_i, isNone_n, fApp_i, fApp_t, fExt_l, h]
theorem pr_mE (h : f_shows_fewest_rows [C, .tuple [.int (m + 1), R, F]] = some (.bool false)) : pr_m (stG P C L T R F n m .no .no .no .no .no .no .no .no .no) = some (.nx, stG P C L T R F n m .no .no .no .no .no .no .no .no .no) := by
  unfold pr_m stG
  by_cases hm : 0 < m
  · simp [runP_ap, initP, bnd_ap, ret_ap, lft_ap, nm_ap, frzv_ap, frzo_ap, dat_ap, val_ap, getv_ap, geto_ap, gets2_ap, op2_ap, op1_ap, tbool_ap, mAnd_ap, mOr_ap, mNot_ap, vAnd_ap, vOr_ap, vNot_ap, mIte_ap, aNil_ap, aCons_ap, datA_ap, getA_ap, opA_ap, mTup_ap, mLst_ap, foD_ap, mCall_ap, mChain_ap, mIsi_ap, mSeq_ap, mEnum_ap, mZip_ap, mRng_ap, mLc_ap, pNo_ap, pYes_ap, mListRng_ap, sNx_ap, sNever_ap, sSeq_ap, sRet_ap, sRetO_ap, sDrop_ap, sIf_ap, rvD_ap, rvO_ap, sSet_ap, sTgt_ap, sFor_ap, mMt_ap, chkL_ap, putM_ap, stN_ap, stRv_ap, stRf_ap, tgT_ap, tgC_ap, tg0_ap, sPar_ap, sPar3_ap, sPut_ap, mCut_ap, mMaxLen_ap, mSrtSet_ap, mSrtKey_ap, mKeys_ap, mDGet_ap, dicOf_ap, putMD_ap, sDPutM_ap, mLock_ap, mCallI_ap, mCallO_ap, mCallF_ap, runB_ap, runO_ap, agD, agG, agI, slD, Sl.isBr, seqD, fLe_ap, fLt_ap, fGt_ap, fGe_ap, fSub_ap, fAdd_ap, fNeg_ap, fLen_t, fLen_l, fAll_l, fAny_l, fTuple_l, fTuple_t, fList_l, fList_t, fInt_i, fEq_int, fNe_int, fIx_t, fIx_l, fIs_b, fNis_b, fIs_n, fNis_n, isNone_i, isNone_n, fApp_i, fApp_t, fExt_l, h, hm]
  · simp [runP_ap, initP, bnd_ap, ret_ap, lft_ap, nm_ap, frzv_ap, frzo_ap, dat_ap, val_ap, getv_ap, geto_ap, gets2_ap, op2_ap, op1_ap, tbool_ap, mAnd_ap, mOr_ap, mNot_ap, vAnd_ap, vOr_ap, vNot_ap, mIte_ap, aNil_ap, aCons_ap, datA_ap, getA_ap, opA_ap, mTup_ap, mLst_ap, foD_ap, mCall_ap, mChain_ap, mIsi_ap, mSeq_ap, mEnum_ap, mZip_ap, mRng_ap, mLc_ap, pNo_ap, pYes_ap, mListRng_ap, sNx_ap, sNever_ap, sSeq_ap, sRet_ap, sRetO_ap, sDrop_ap, sIf_ap, rvD_ap, rvO_ap, sSet_ap, sTgt_ap, sFor_ap, mMt_ap, chkL_ap, putM_ap, stN_ap, stRv_ap, stRf_ap, tgT_ap, tgC_ap, tg0_ap, sPar_ap, sPar3_ap, sPut_ap, mCut_ap, mMaxLen_ap, mSrtSet_ap, mSrtKey_ap, mKeys_ap, mDGet_ap, dicOf_ap, putMD_ap, sDPutM_ap, mLock_ap, mCallI_ap, mCallO_ap, mCallF_ap, runB_ap, runO_ap, agD, agG, agI, slD, Sl.isBr, seqD, fLe_ap, fLt_ap, fGt_ap, fGe_ap, fSub_ap, fAdd_ap, fNeg_ap, fLen_t, fLen_l, fAll_l, fAny_l, fTuple_l, fTuple_t, fList_l, fList_t, fInt_i, fEq_int, fNe_int, fIx_t, fIx_l, fIs_b, fNis_b, fIs_n, fNis_n, isNone_i, isNone_n, fApp_i, fApp_t, fExt_l, hm]
theorem pr_nE : pr_n (stG P C L T R F n m .no .no .no .no .no .no .no .no .no) = some (.nx, stG P C L T R F n m (.d (.int 0)) (.d (.int 0)) (.ol []) .no .no .no .no .no .no) := by
  unfold pr_n stG
  simp [runP_ap, initP, bnd_ap, ret_ap, lft_ap, nm_ap, frzv_ap, frzo_ap, dat_ap, val_ap, getv_ap, geto_ap, gets2_ap, op2_ap, op1_ap, tbool_ap, mAnd_ap, mOr_ap, mNot_ap, vAnd_ap, vOr_ap, vNot_ap, mIte_ap, aNil_ap, aCons_ap, datA_ap, getA_ap, opA_ap, mTup_ap, mLst_ap, foD_ap, mCall_ap, mChain_ap, mIsi_ap, mSeq_ap, mEnum_ap, mZip_ap, mRng_ap, mLc_ap, pNo_ap, pYes_ap, mListRng_ap, sNx_ap, sNever_ap, sSeq_ap, sRet_ap, sRetO_ap, sDrop_ap, sIf_ap, rvD_ap, rvO_ap, sSet_ap, sTgt_ap, sFor_ap, mMt_ap, chkL_ap, putM_ap, stN_ap, stRv_ap, stRf_ap, tgT_ap, tgC_ap, tg0_ap, sPar_ap, sPar3_ap, sPut_ap, mCut_ap, mMaxLen_ap, mSrtSet_ap, mSrtKey_ap, mKeys_ap, mDGet_ap, dicOf_ap, putMD_ap, sDPutM_ap, mLock_ap, mCallI_ap, mCallO_ap, mCallF_ap, runB_ap, runO_ap, agD, agG, agI, slD, Sl.isBr, seqD, fLe_ap, fLt_ap, fGt_ap, fGe_ap, fSub_ap, fAdd_ap, fNeg_ap, fLen_t, fLen_l, fAll_l, fAny_l, fTuple_l, fTuple_t, fList_l, fList_t, fInt_i, fEq_int, fNe_int, fIx_t, fIx_l, fIs_b, fNis_b, fIs_n, fNis_n, isNone_i, isNone_n, fApp_i, fApp_t, fExt_l]
theorem pr_pE {G : PyData} {S : Str} {fine srt : List PyData} (s18 s19 s20 s21 s22 s23 : Sl) (h1 : f_granted [C] = some G) (h2 : fRepr [G] = some (.str S)) (h3 : fSorted [.list fine] = some (.ol srt)) (h4 : G = .tuple srt) (h5 : fNe (.str S) (.str S) = some (.bool false)) :
    pr_p (stG P C L T R F n m (.d (.int n)) (.d (.int m)) (.ol fine) s18 s19 s20 s21 s22 s23) = some (.nx, stG P C L T R F n m (.d (.int n)) (.d (.int m)) (.ol fine) s18 s19 s20 s21 s22 s23) := by
  subst h4
  unfold pr_p stG
  simp [runP_ap, initP, bnd_ap, ret_ap, lft_ap, nm_ap, frzv_ap, frzo_ap, dat_ap, val_ap, getv_ap, geto_ap, gets2_ap, op2_ap, op1_ap, tbool_ap, mAnd_ap, mOr_ap, mNot_ap, vAnd_ap, vOr_ap, vNot_ap, mIte_ap, aNil_ap, aCons_ap, datA_ap, getA_ap, opA_ap, mTup_ap, mLst_ap, foD_ap, mCall_ap, mChain_ap, mIsi_ap, mSeq_ap, mEnum_ap, mZip_ap, mRng_ap, mLc_ap, pNo_ap, pYes_ap, mListRng_ap, sNx_ap, sNever_ap, sSeq_ap, sRet_ap, sRetO_ap, sDrop_ap, sIf_ap, rvD_ap, rvO_ap, sSet_ap, sTgt_ap, sFor_ap, mMt_ap, chkL_ap, putM_ap, stN_ap, stRv_ap, stRf_ap, tgT_ap, tgC_ap, tg0_ap, sPar_ap, sPar3_ap, sPut_ap, mCut_ap, mMaxLen_ap, mSrtSet_ap, mSrtKey_ap, mKeys_ap, mDGet_ap, dicOf_ap, putMD_ap, sDPutM_ap, mLock_ap, mCallI_ap, mCallO_ap, mCallF_ap, runB_ap, runO_ap, agD, agG, agI, slD, Sl.isBr, seqD, fLe_ap, fLt_ap, fGt_ap, fGe_ap, fSub_ap, fAdd_ap, fNeg_ap, fLen_t, fLen_l, fAll_l, fAny_l, fTuple_l, fTuple_t, fList_l, fList_t, fInt_i, fEq_int, fNe_int, fIx_t, fIx_l, fIs_b, fNis_b, fIs_n, fNis_n, isNone_i, isNone_n, fApp_i, fApp_t, fExt_l, h1, h2, h3, h5]
theorem pr_qE (X : Ro) (h : pq_all X = some (.bool true, X)) : pr_q X = some (.rt (.bool true), X) := by
  unfold pr_q
  generalize pq_all = mq at *
  simp [runP_ap, initP, bnd_ap, ret_ap, lft_ap, nm_ap, frzv_ap, frzo_ap, dat_ap, val_ap, getv_ap, geto_ap, gets2_ap, op2_ap, op1_ap, tbool_ap, mAnd_ap, mOr_ap, mNot_ap, vAnd_ap, vOr_ap, vNot_ap, mIte_ap, aNil_ap, aCons_ap, datA_ap, getA_ap, opA_ap, mTup_ap, mLst_ap, foD_ap, mCall_ap, mChain_ap, mIsi_ap, mSeq_ap, mEnum_ap, mZip_ap, mRng_ap, mLc_ap, pNo_ap, pYes_ap, mListRng_ap, sNx_ap, sNever_ap, sSeq_ap, sRet_ap, sRetO_ap, sDrop_ap, sIf_ap, rvD_ap, rvO_ap, sSet_ap, sTgt_ap, sFor_ap, mMt_ap, chkL_ap, putM_ap, stN_ap, stRv_ap, stRf_ap, tgT_ap, tgC_ap, tg0_ap, sPar_ap, sPar3_ap, sPut_ap, mCut_ap, mMaxLen_ap, mSrtSet_ap, mSrtKey_ap, mKeys_ap, mDGet_ap, dicOf_ap, putMD_ap, sDPutM_ap, mLock_ap, mCallI_ap, mCallO_ap, mCallF_ap, runB_ap, runO_ap, agD, agG, agI, slD, Sl.isBr, seqD, fLe_ap, fLt_ap, fGt_ap, fGe_ap, fSub_ap, fAdd_ap, fNeg_ap, fLen_t, fLen_l, fAll_l, fAny_l, fTuple_l, fTuple_t, fList_l, fList_t, fInt_i, fEq_int, fNe_int, fIx_t, fIx_l, fIs_b, fNis_b, fIs_n, fNis_n, isNone_i, isNone_n, fApp_i, fApp_t, fExt_l, h]
end
end K15
end
section
namespace K15
local instance : DL.Tbs := ⟨[]⟩
open PySem PySem.Spec PyProof.Rows L2 DL
/-! the lists that the check makes -/
theorem fLRng_N {n : Nat} (h : n ≤ 1000) : fLRng (.int (n : Int)) = some (.ol ((List.range n).map eN)) := by
  show (if (0 : Int) ≤ (n : Int) ∧ (n : Int) ≤ 16777216 then some (Sl.ol (rngD 0 ((n : Int)).toNat)) else none) = _
  rw [if_pos (by omega), Int.toNat_natCast, rng_N]
noncomputable def pj_e : M PyData := (mCall 3 f_law_is_int (aCons (val (dat (nm 12))) (aCons (val (DL.ret (.int 0))) (aCons (val (op2 fSub (nm 9) (val (DL.ret (.int 1))))) aNil))))
theorem pj_is : pj_all = (opA fAll (aCons (val (foD (mLc (mSeq (nm 10)) [12] (stN 12) (DL.ret true) pj_e))) aNil)) := rfl
theorem pj_allE (P : List PyData) (C L T F : PyData) (n : Int) (m : Nat) (rows : List Nat) (hm : ∀ r ∈ rows, r < m) :
    pj_all (stG P C L T (tupN rows) F n m .no .no .no .no .no .no .no .no .no) = some (.bool true, stG P C L T (tupN rows) F n m .no .no .no .no .no .no .no .no .no) := by
  have L1 := lc_map (it := ⟨rows.map eN, none⟩) (vs := [12]) (tgt := stN 12) (me := pj_e) (ρ := stG P C L T (tupN rows) F n m .no .no .no .no .no .no .no .no .no) (ρw := stG P C L T (tupN rows) F n m .no .no .no .no .no .no .no .no .no)
    eN (fun _ => .bool true) (ok_none rfl _) rfl rows fun r hr => ⟨(stG P C L T (tupN rows) F n m .no .no .no .no .no .no .no .no .no).set 12 (.d (eN r)), rfl, rfl, by
      have hr := hm r hr
      have I := law_is_int_int (r : Int) 0 ((m : Int) - 1)
      rw [decide_eq_true (by omega)] at I
      have I : f_law_is_int [eN r, .int 0, .int ((m : Int) - 1)] = some (.bool true) := I
      generalize eN r = ER at *
      generalize tupN rows = TR at *
      unfold pj_e stG
      simp [runP_ap, initP, bnd_ap, ret_ap, lft_ap, nm_ap, frzv_ap, frzo_ap, dat_ap, val_ap, getv_ap, geto_ap, gets2_ap, op2_ap, op1_ap, tbool_ap, mAnd_ap, mOr_ap, mNot_ap, vAnd_ap, vOr_ap, vNot_ap, mIte_ap, aNil_ap, aCons_ap, datA_ap, getA_ap, opA_ap, mTup_ap, mLst_ap, foD_ap, mCall_ap, mChain_ap, mIsi_ap, mSeq_ap, mEnum_ap, mZip_ap, mRng_ap, mLc_ap, pNo_ap, pYes_ap, mListRng_ap, sNx_ap, sNever_ap, sSeq_ap, sRet_ap, sRetO_ap, sDrop_ap, sIf_ap, rvD_ap, rvO_ap, sSet_ap, sTgt_ap, sFor_ap, mMt_ap, chkL_ap, putM_ap, stN_ap, stRv_ap, stRf_ap, tgT_ap, tgC_ap, tg0_ap, sPar_ap, sPar3_ap, sPut_ap, mCut_ap, mMaxLen_ap, mSrtSet_ap, mSrtKey_ap, mKeys_ap, mDGet_ap, dicOf_ap, putMD_ap, sDPutM_ap, mLock_ap, mCallI_ap, mCallO_ap, mCallF_ap, runB_ap, runO_ap, agD, agG, agI, slD, Sl.isBr, seqD, fLe_ap, fLt_ap, fGt_ap, fGe_ap, fSub_ap, fAdd_ap, fNeg_ap, fLen_t, fLen_l, fAll_l, fAny_l, fTuple_l, fTuple_t, fList_l, fList_t, fInt_i, fEq_int, fNe_int, fIx_t, fIx_l, fIs_b, fNis_b, fIs_n, fNis_n, isNone_i, isNone_n, fApp_i, fApp_t, fExt_l, I]⟩
  have A : fAll [.list (rows.map fun _ => PyData.bool true)] = some (.bool true) := by
    rw [fAll_l, asBls_of (fun _ => true) rows]
    simp
  rw [pj_is]
  unfold stG tupN at *
  generalize pj_e = me at *
  generalize rows.map eN = RR at *
  generalize (rows.map fun _ => PyData.bool true) = QQ at *
  simp [runP_ap, initP, bnd_ap, ret_ap, lft_ap, nm_ap, frzv_ap, frzo_ap, dat_ap, val_ap, getv_ap, geto_ap, gets2_ap, op2_ap, op1_ap, tbool_ap, mAnd_ap, mOr_ap, mNot_ap, vAnd_ap, vOr_ap, vNot_ap, mIte_ap, aNil_ap, aCons_ap, datA_ap, getA_ap, opA_ap, mTup_ap, mLst_ap, foD_ap, mCall_ap, mChain_ap, mIsi_ap, mSeq_ap, mEnum_ap, mZip_ap, mRng_ap, mLc_ap, pNo_ap, pYes_ap, mListRng_ap, sNx_ap, sNever_ap, sSeq_ap, sRet_ap, sRetO_ap, sDrop_ap, sIf_ap, rvD_ap, rvO_ap, sSet_ap, sTgt_ap, sFor_ap, mMt_ap, chkL_ap, putM_ap, stN_ap, stRv_ap, stRf_ap, tgT_ap, tgC_ap, tg0_ap, sPar_ap, sPar3_ap, sPut_ap, mCut_ap, mMaxLen_ap, mSrtSet_ap, mSrtKey_ap, mKeys_ap, mDGet_ap, dicOf_ap, putMD_ap, sDPutM_ap, mLock_ap, mCallI_ap, mCallO_ap, mCallF_ap, runB_ap, runO_ap, agD, agG, agI, slD, Sl.isBr, seqD, fLe_ap, fLt_ap, fGt_ap, fGe_ap, fSub_ap, fAdd_ap, fNeg_ap, fLen_t, fLen_l, fAll_l, fAny_l, fTuple_l, fTuple_t, fList_l, fList_t, fInt_i, fEq_int, fNe_int, fIx_t, fIx_l, fIs_b, fNis_b, fIs_n, fNis_n, isNone_i, isNone_n, fApp_i, fApp_t, fExt_l, L1, A]
noncomputable def pk_e : M PyData := (vAnd (op2 fEq (val (op2 fIx (nm 10) (nm 13))) (val (op2 fIx (nm 10) (nm 14)))) (vAnd (op2 fLt (nm 13) (nm 14)) (mCall 2 f_law_do_meet (aCons (val (op2 fIx (nm 1) (nm 13))) (aCons (val (op2 fIx (nm 1) (nm 14))) aNil)))))
theorem pk_is : pk_any = (opA fAny (aCons (val (foD (mLc (mSeq (val (mCall 1 f_law_pairs (aCons (val (foD (mListRng (opA fLen (aCons (nm 1) aNil))))) aNil)))) [13, 14] (tgT (tgC (stN 13) (tgC (stN 14) tg0))) (DL.ret true) pk_e))) aNil)) := rfl
theorem pk_anyE (P : List PyData) {cs : List Cl} (h : Okc cs) (L T F : PyData) (n m : Int) (rows : List Nat) (hlen : rows.length = cs.length) (hr : Rows cs rows) :
    pk_any (stG P (.tuple (cs.map enc)) L T (tupN rows) F n m .no .no .no .no .no .no .no .no .no) = some (.bool false, stG P (.tuple (cs.map enc)) L T (tupN rows) F n m .no .no .no .no .no .no .no .no .no) := by
  have hp : f_law_pairs [.list ((List.range cs.length).map eN)] = some (.list ((prs (List.range cs.length)).map encQ)) := law_pairsE (by rw [List.length_range]; exact h.few) (Or.inr rfl)
  have hl : fLen [.tuple (cs.map enc)] = some (.int (cs.length : Int)) := by simp [runP_ap, initP, bnd_ap, ret_ap, lft_ap, nm_ap, frzv_ap, frzo_ap, dat_ap, val_ap, getv_ap, geto_ap, gets2_ap, op2_ap, op1_ap, tbool_ap, mAnd_ap, mOr_ap, mNot_ap, vAnd_ap, vOr_ap, vNot_ap, mIte_ap, aNil_ap, aCons_ap, datA_ap, getA_ap, opA_ap, mTup_ap, mLst_ap, foD_ap, mCall_ap, mChain_ap, mIsi_ap, mSeq_ap, mEnum_ap, mZip_ap, mRng_ap, mLc_ap, pNo_ap, pYes_ap, mListRng_ap, sNx_ap, sNever_ap, sSeq_ap, sRet_ap, sRetO_ap, sDrop_ap, sIf_ap, rvD_ap, rvO_ap, sSet_ap, sTgt_ap, sFor_ap, mMt_ap, chkL_ap, putM_ap, stN_ap, stRv_ap, stRf_ap, tgT_ap, tgC_ap, tg0_ap, sPar_ap, sPar3_ap, sPut_ap, mCut_ap, mMaxLen_ap, mSrtSet_ap, mSrtKey_ap, mKeys_ap, mDGet_ap, dicOf_ap, putMD_ap, sDPutM_ap, mLock_ap, mCallI_ap, mCallO_ap, mCallF_ap, runB_ap, runO_ap, agD, agG, agI, slD, Sl.isBr, seqD, fLe_ap, fLt_ap, fGt_ap, fGe_ap, fSub_ap, fAdd_ap, fNeg_ap, fLen_t, fLen_l, fAll_l, fAny_l, fTuple_l, fTuple_t, fList_l, fList_t, fInt_i, fEq_int, fNe_int, fIx_t, fIx_l, fIs_b, fNis_b, fIs_n, fNis_n, isNone_i, isNone_n, fApp_i, fApp_t, fExt_l]
  have hn : fLRng (.int (cs.length : Int)) = some (.ol ((List.range cs.length).map eN)) := fLRng_N (by have := h.few; omega)
  have L1 := lc_map (it := ⟨(prs (List.range cs.length)).map encQ, none⟩) (vs := [13, 14]) (tgt := tgT (tgC (stN 13) (tgC (stN 14) tg0))) (me := pk_e) (ρ := stG P (.tuple (cs.map enc)) L T (tupN rows) F n m .no .no .no .no .no .no .no .no .no) (ρw := stG P (.tuple (cs.map enc)) L T (tupN rows) F n m .no .no .no .no .no .no .no .no .no)
    encQ (fun _ => .bool false) (ok_none rfl _) rfl (prs (List.range cs.length)) fun p hp => ⟨((stG P (.tuple (cs.map enc)) L T (tupN rows) F n m .no .no .no .no .no .no .no .no .no).set 13 (.d (eN p.1))).set 14 (.d (eN p.2)), rfl, rfl, by
      obtain ⟨h1, h2⟩ := mem_prs.mp hp
      have k1 := List.mem_range.mp h1
      have k2 := List.mem_range.mp h2
      generalize p.1 = x at *
      generalize p.2 = y at *
      have i1 : fIx (tupN rows) (eN x) = some (eN (rows.getD x 0)) := at_N (by omega)
      have i2 : fIx (tupN rows) (eN y) = some (eN (rows.getD y 0)) := at_N (by omega)
      have e1 : fEq (eN (rows.getD x 0)) (eN (rows.getD y 0)) = some (.bool (decide (rows.getD x 0 = rows.getD y 0))) := fEq_N _ _
      have c1 : fIx (.tuple (cs.map enc)) (eN x) = some (enc (cl cs x)) := at_enc k1
      have c2 : fIx (.tuple (cs.map enc)) (eN y) = some (enc (cl cs y)) := at_enc k2
      have M1 : f_law_do_meet [enc (cl cs x), enc (cl cs y)] = some (.bool (MM cs x y)) := lmeetE (cl cs x) (cl cs y)
      have lt1 := fLt_N x y
      have hM : rows.getD x 0 = rows.getD y 0 → x < y → MM cs x y = false := fun g1 g2 => by rw [MM_comm]; exact hr y x k2 g2 g1.symm
      generalize MM cs x y = mm at *
      generalize enc (cl cs x) = EX at *
      generalize enc (cl cs y) = EY at *
      generalize tupN rows = TR at *
      by_cases g1 : rows.getD x 0 = rows.getD y 0
      · rw [decide_eq_true g1] at e1
        by_cases g2 : x < y
        · rw [decide_eq_true g2] at lt1
          rw [hM g1 g2] at M1
          generalize eN (rows.getD x 0) = Ex at *
          generalize eN (rows.getD y 0) = Ey at *
          generalize eN x = X at *
          generalize eN y = Y at *
          generalize cs.map enc = CS at *
          unfold pk_e stG
          simp [runP_ap, initP, bnd_ap, ret_ap, lft_ap, nm_ap, frzv_ap, frzo_ap, dat_ap, val_ap, getv_ap, geto_ap, gets2_ap, op2_ap, op1_ap, tbool_ap, mAnd_ap, mOr_ap, mNot_ap, vAnd_ap, vOr_ap, vNot_ap, mIte_ap, aNil_ap, aCons_ap, datA_ap, getA_ap, opA_ap, mTup_ap, mLst_ap, foD_ap, mCall_ap, mChain_ap, mIsi_ap, mSeq_ap, mEnum_ap, mZip_ap, mRng_ap, mLc_ap, pNo_ap, pYes_ap, mListRng_ap, sNx_ap, sNever_ap, sSeq_ap, sRet_ap, sRetO_ap, sDrop_ap, sIf_ap, rvD_ap, rvO_ap, sSet_ap, sTgt_ap, sFor_ap, mMt_ap, chkL_ap, putM_ap, stN_ap, stRv_ap, stRf_ap, tgT_ap, tgC_ap, tg0_ap, sPar_ap, sPar3_ap, sPut_ap, mCut_ap, mMaxLen_ap, mSrtSet_ap, mSrtKey_ap, mKeys_ap, mDGet_ap, dicOf_ap, putMD_ap, sDPutM_ap, mLock_ap, mCallI_ap, mCallO_ap, mCallF_ap, runB_ap, runO_ap, agD, agG, agI, slD, Sl.isBr, seqD, fLe_ap, fLt_ap, fGt_ap, fGe_ap, fSub_ap, fAdd_ap, fNeg_ap, fLen_t, fLen_l, fAll_l, fAny_l, fTuple_l, fTuple_t, fList_l, fList_t, fInt_i, fEq_int, fNe_int, fIx_t, fIx_l, fIs_b, fNis_b, fIs_n, fNis_n, isNone_i, isNone_n, fApp_i, fApp_t, fExt_l, i1, i2, e1, c1, c2, M1, lt1]
        · rw [decide_eq_false g2] at lt1
          generalize eN (rows.getD x 0) = Ex at *
          generalize eN (rows.getD y 0) = Ey at *
          generalize eN x = X at *
          generalize eN y = Y at *
          generalize cs.map enc = CS at *
          unfold pk_e stG
          simp [runP_ap, initP, bnd_ap, ret_ap, lft_ap, nm_ap, frzv_ap, frzo_ap, dat_ap, val_ap, getv_ap, geto_ap, gets2_ap, op2_ap, op1_ap, tbool_ap, mAnd_ap, mOr_ap, mNot_ap, vAnd_ap, vOr_ap, vNot_ap, mIte_ap, aNil_ap, aCons_ap, datA_ap, getA_ap, opA_ap, mTup_ap, mLst_ap, foD_ap, mCall_ap, mChain_ap, mIsi_ap, mSeq_ap, mEnum_ap, mZip_ap, mRng_ap, mLc_ap, pNo_ap, pYes_ap, mListRng_ap, sNx_ap, sNever_ap, sSeq_ap, sRet_ap, sRetO_ap, sDrop_ap, sIf_ap, rvD_ap, rvO_ap, sSet_ap, sTgt_ap, sFor_ap, mMt_ap, chkL_ap, putM_ap, stN_ap, stRv_ap, stRf_ap, tgT_ap, tgC_ap, tg0_ap, sPar_ap, sPar3_ap, sPut_ap, mCut_ap, mMaxLen_ap, mSrtSet_ap, mSrtKey_ap, mKeys_ap, mDGet_ap, dicOf_ap, putMD_ap, sDPutM_ap, mLock_ap, mCallI_ap, mCallO_ap, mCallF_ap, runB_ap, runO_ap, agD, agG, agI, slD, Sl.isBr, seqD, fLe_ap, fLt_ap, fGt_ap, fGe_ap, fSub_ap, fAdd_ap, fNeg_ap, fLen_t, fLen_l, fAll_l, fAny_l, fTuple_l, fTuple_t, fList_l, fList_t, fInt_i, fEq_int, fNe_int, fIx_t, fIx_l, fIs_b, fNis_b, fIs_n, fNis_n, isNone_i, isNone_n, fApp_i, fApp_t, fExt_l, i1, i2, e1, lt1]
      · rw [decide_eq_false g1] at e1
        generalize eN (rows.getD x 0) = Ex at *
        generalize eN (rows.getD y 0) = Ey at *
        generalize eN x = X at *
        generalize eN y = Y at *
        generalize cs.map enc = CS at *
        unfold pk_e stG
        simp [runP_ap, initP, bnd_ap, ret_ap, lft_ap, nm_ap, frzv_ap, frzo_ap, dat_ap, val_ap, getv_ap, geto_ap, gets2_ap, op2_ap, op1_ap, tbool_ap, mAnd_ap, mOr_ap, mNot_ap, vAnd_ap, vOr_ap, vNot_ap, mIte_ap, aNil_ap, aCons_ap, datA_ap, getA_ap, opA_ap, mTup_ap, mLst_ap, foD_ap, mCall_ap, mChain_ap, mIsi_ap, mSeq_ap, mEnum_ap, mZip_ap, mRng_ap, mLc_ap, pNo_ap, pYes_ap, mListRng_ap, sNx_ap, sNever_ap, sSeq_ap, sRet_ap, sRetO_ap, sDrop_ap, sIf_ap, rvD_ap, rvO_ap, sSet_ap, sTgt_ap, sFor_ap, mMt_ap, chkL_ap, putM_ap, stN_ap, stRv_ap, stRf_ap, tgT_ap, tgC_ap, tg0_ap, sPar_ap, sPar3_ap, sPut_ap, mCut_ap, mMaxLen_ap, mSrtSet_ap, mSrtKey_ap, mKeys_ap, mDGet_ap, dicOf_ap, putMD_ap, sDPutM_ap, mLock_ap, mCallI_ap, mCallO_ap, mCallF_ap, runB_ap, runO_ap, agD, agG, agI, slD, Sl.isBr, seqD, fLe_ap, fLt_ap, fGt_ap, fGe_ap, fSub_ap, fAdd_ap, fNeg_ap, fLen_t, fLen_l, fAll_l, fAny_l, fTuple_l, fTuple_t, fList_l, fList_t, fInt_i, fEq_int, fNe_int, fIx_t, fIx_l, fIs_b, fNis_b, fIs_n, fNis_n, isNone_i, isNone_n, fApp_i, fApp_t, fExt_l, i1, i2, e1]⟩
  have A : fAny [.list ((prs (List.range cs.length)).map fun _ => PyData.bool false)] = some (.bool false) := by
    rw [fAny_l, asBls_of (fun _ => false) (prs (List.range cs.length))]
    simp
  rw [pk_is]
  unfold stG at *
  generalize pk_e = me at *
  generalize tupN rows = TR at *
  generalize (prs (List.range cs.length)).map encQ = QP at *
  generalize ((prs (List.range cs.length)).map fun _ => PyData.bool false) = QQ at *
  generalize (List.range cs.length).map eN = RR at *
  generalize cs.map enc = CS at *
  generalize (cs.length : Int) = LL at *
  simp [runP_ap, initP, bnd_ap, ret_ap, lft_ap, nm_ap, frzv_ap, frzo_ap, dat_ap, val_ap, getv_ap, geto_ap, gets2_ap, op2_ap, op1_ap, tbool_ap, mAnd_ap, mOr_ap, mNot_ap, vAnd_ap, vOr_ap, vNot_ap, mIte_ap, aNil_ap, aCons_ap, datA_ap, getA_ap, opA_ap, mTup_ap, mLst_ap, foD_ap, mCall_ap, mChain_ap, mIsi_ap, mSeq_ap, mEnum_ap, mZip_ap, mRng_ap, mLc_ap, pNo_ap, pYes_ap, mListRng_ap, sNx_ap, sNever_ap, sSeq_ap, sRet_ap, sRetO_ap, sDrop_ap, sIf_ap, rvD_ap, rvO_ap, sSet_ap, sTgt_ap, sFor_ap, mMt_ap, chkL_ap, putM_ap, stN_ap, stRv_ap, stRf_ap, tgT_ap, tgC_ap, tg0_ap, sPar_ap, sPar3_ap, sPut_ap, mCut_ap, mMaxLen_ap, mSrtSet_ap, mSrtKey_ap, mKeys_ap, mDGet_ap, dicOf_ap, putMD_ap, sDPutM_ap, mLock_ap, mCallI_ap, mCallO_ap, mCallF_ap, runB_ap, runO_ap, agD, agG, agI, slD, Sl.isBr, seqD, fLe_ap, fLt_ap, fGt_ap, fGe_ap, fSub_ap, fAdd_ap, fNeg_ap, fLen_t, fLen_l, fAll_l, fAny_l, fTuple_l, fTuple_t, fList_l, fList_t, fInt_i, fEq_int, fNe_int, fIx_t, fIx_l, fIs_b, fNis_b, fIs_n, fNis_n, isNone_i, isNone_n, fApp_i, fApp_t, fExt_l, hl, hn, hp, L1, A]
noncomputable def pq_e : M PyData := (op2 fEq (val (mCall 3 f_do_meet (aCons (val (dat (nm 1))) (aCons (val (dat (nm 13))) (aCons (val (dat (nm 14))) aNil))))) (val (mCall 2 f_law_do_meet (aCons (val (op2 fIx (nm 1) (nm 13))) (aCons (val (op2 fIx (nm 1) (nm 14))) aNil)))))
theorem pq_is : pq_all = (opA fAll (aCons (val (foD (mLc (mSeq (val (mCall 1 f_law_pairs (aCons (val (foD (mListRng (opA fLen (aCons (nm 1) aNil))))) aNil)))) [13, 14] (tgT (tgC (stN 13) (tgC (stN 14) tg0))) (DL.ret true) pq_e))) aNil)) := rfl
theorem pq_allE (P : List PyData) {cs : List Cl} (h : Okc cs) (L T R F : PyData) (n m : Int) (s15 s16 s17 s18 s19 s20 s21 s22 s23 : Sl) :
    pq_all (stG P (.tuple (cs.map enc)) L T R F n m s15 s16 s17 s18 s19 s20 s21 s22 s23) = some (.bool true, stG P (.tuple (cs.map enc)) L T R F n m s15 s16 s17 s18 s19 s20 s21 s22 s23) := by
  have hp : f_law_pairs [.list ((List.range cs.length).map eN)] = some (.list ((prs (List.range cs.length)).map encQ)) := law_pairsE (by rw [List.length_range]; exact h.few) (Or.inr rfl)
  have hl : fLen [.tuple (cs.map enc)] = some (.int (cs.length : Int)) := by simp [runP_ap, initP, bnd_ap, ret_ap, lft_ap, nm_ap, frzv_ap, frzo_ap, dat_ap, val_ap, getv_ap, geto_ap, gets2_ap, op2_ap, op1_ap, tbool_ap, mAnd_ap, mOr_ap, mNot_ap, vAnd_ap, vOr_ap, vNot_ap, mIte_ap, aNil_ap, aCons_ap, datA_ap, getA_ap, opA_ap, mTup_ap, mLst_ap, foD_ap, mCall_ap, mChain_ap, mIsi_ap, mSeq_ap, mEnum_ap, mZip_ap, mRng_ap, mLc_ap, pNo_ap, pYes_ap, mListRng_ap, sNx_ap, sNever_ap, sSeq_ap, sRet_ap, sRetO_ap, sDrop_ap, sIf_ap, rvD_ap, rvO_ap, sSet_ap, sTgt_ap, sFor_ap, mMt_ap, chkL_ap, putM_ap, stN_ap, stRv_ap, stRf_ap, tgT_ap, tgC_ap, tg0_ap, sPar_ap, sPar3_ap, sPut_ap, mCut_ap, mMaxLen_ap, mSrtSet_ap, mSrtKey_ap, mKeys_ap, mDGet_ap, dicOf_ap, putMD_ap, sDPutM_ap, mLock_ap, mCallI_ap, mCallO_ap, mCallF_ap, runB_ap, runO_ap, agD, agG, agI, slD, Sl.isBr, seqD, fLe_ap, fLt_ap, fGt_ap, fGe_ap, fSub_ap, fAdd_ap, fNeg_ap, fLen_t, fLen_l, fAll_l, fAny_l, fTuple_l, fTuple_t, fList_l, fList_t, fInt_i, fEq_int, fNe_int, fIx_t, fIx_l, fIs_b, fNis_b, fIs_n, fNis_n, isNone_i, isNone_n, fApp_i, fApp_t, fExt_l]
  have hn : fLRng (.int (cs.length : Int)) = some (.ol ((List.range cs.length).map eN)) := fLRng_N (by have := h.few; omega)
  have L1 := lc_map (it := ⟨(prs (List.range cs.length)).map encQ, none⟩) (vs := [13, 14]) (tgt := tgT (tgC (stN 13) (tgC (stN 14) tg0))) (me := pq_e) (ρ := stG P (.tuple (cs.map enc)) L T R F n m s15 s16 s17 s18 s19 s20 s21 s22 s23) (ρw := stG P (.tuple (cs.map enc)) L T R F n m s15 s16 s17 s18 s19 s20 s21 s22 s23)
    encQ (fun _ => .bool true) (ok_none rfl _) rfl (prs (List.range cs.length)) fun p hp => ⟨((stG P (.tuple (cs.map enc)) L T R F n m s15 s16 s17 s18 s19 s20 s21 s22 s23).set 13 (.d (eN p.1))).set 14 (.d (eN p.2)), rfl, rfl, by
      obtain ⟨h1, h2⟩ := mem_prs.mp hp
      have k1 := List.mem_range.mp h1
      have k2 := List.mem_range.mp h2
      generalize p.1 = x at *
      generalize p.2 = y at *
      have D1 : f_do_meet [.tuple (cs.map enc), eN x, eN y] = some (.bool (MM cs x y)) := do_meetE h k1 k2
      have c1 : fIx (.tuple (cs.map enc)) (eN x) = some (enc (cl cs x)) := at_enc k1
      have c2 : fIx (.tuple (cs.map enc)) (eN y) = some (enc (cl cs y)) := at_enc k2
      have M1 : f_law_do_meet [enc (cl cs x), enc (cl cs y)] = some (.bool (MM cs x y)) := lmeetE (cl cs x) (cl cs y)
      have E1 : fEq (.bool (MM cs x y)) (.bool (MM cs x y)) = some (.bool true) := by cases MM cs x y <;> rfl
      generalize MM cs x y = mm at *
      generalize enc (cl cs x) = EX at *
      generalize enc (cl cs y) = EY at *
      generalize eN x = X at *
      generalize eN y = Y at *
      generalize cs.map enc = CS at *
      unfold pq_e stG
      simp [runP_ap, initP, bnd_ap, ret_ap, lft_ap, nm_ap, frzv_ap, frzo_ap, dat_ap, val_ap, getv_ap, geto_ap, gets2_ap, op2_ap, op1_ap, tbool_ap, mAnd_ap, mOr_ap, mNot_ap, vAnd_ap, vOr_ap, vNot_ap, mIte_ap, aNil_ap, aCons_ap, datA_ap, getA_ap, opA_ap, mTup_ap, mLst_ap, foD_ap, mCall_ap, mChain_ap, mIsi_ap, mSeq_ap, mEnum_ap, mZip_ap, mRng_ap, mLc_ap, pNo_ap, pYes_ap, mListRng_ap, sNx_ap, sNever_ap, sSeq_ap, sRet_ap, sRetO_ap, sDrop_ap, sIf_ap, rvD_ap, rvO_ap, sSet_ap, sTgt_ap, sFor_ap, mMt_ap, chkL_ap, putM_ap, stN_ap, stRv_ap, stRf_ap, tgT_ap, tgC_ap, tg0_ap, sPar_ap, sPar3_ap, sPut_ap, mCut_ap, mMaxLen_ap, mSrtSet_ap, mSrtKey_ap, mKeys_ap, mDGet_ap, dicOf_ap, putMD_ap, sDPutM_ap, mLock_ap, mCallI_ap, mCallO_ap, mCallF_ap, runB_ap, runO_ap, agD, agG, agI, slD, Sl.isBr, seqD, fLe_ap, fLt_ap, fGt_ap, fGe_ap, fSub_ap, fAdd_ap, fNeg_ap, fLen_t, fLen_l, fAll_l, fAny_l, fTuple_l, fTuple_t, fList_l, fList_t, fInt_i, fEq_int, fNe_int, fIx_t, fIx_l, fIs_b, fNis_b, fIs_n, fNis_n, isNone_i, isNone_n, fApp_i, fApp_t, fExt_l, D1, c1, c2, M1, E1]⟩
  have A : fAll [.list ((prs (List.range cs.length)).map fun _ => PyData.bool true)] = some (.bool true) := by
    rw [fAll_l, asBls_of (fun _ => true) (prs (List.range cs.length))]
    simp
  rw [pq_is]
  unfold stG at *
  generalize pq_e = me at *
  generalize (prs (List.range cs.length)).map encQ = QP at *
  generalize ((prs (List.range cs.length)).map fun _ => PyData.bool true) = QQ at *
  generalize (List.range cs.length).map eN = RR at *
  generalize cs.map enc = CS at *
  generalize (cs.length : Int) = LL at *
  simp [runP_ap, initP, bnd_ap, ret_ap, lft_ap, nm_ap, frzv_ap, frzo_ap, dat_ap, val_ap, getv_ap, geto_ap, gets2_ap, op2_ap, op1_ap, tbool_ap, mAnd_ap, mOr_ap, mNot_ap, vAnd_ap, vOr_ap, vNot_ap, mIte_ap, aNil_ap, aCons_ap, datA_ap, getA_ap, opA_ap, mTup_ap, mLst_ap, foD_ap, mCall_ap, mChain_ap, mIsi_ap, mSeq_ap, mEnum_ap, mZip_ap, mRng_ap, mLc_ap, pNo_ap, pYes_ap, mListRng_ap, sNx_ap, sNever_ap, sSeq_ap, sRet_ap, sRetO_ap, sDrop_ap, sIf_ap, rvD_ap, rvO_ap, sSet_ap, sTgt_ap, sFor_ap, mMt_ap, chkL_ap, putM_ap, stN_ap, stRv_ap, stRf_ap, tgT_ap, tgC_ap, tg0_ap, sPar_ap, sPar3_ap, sPut_ap, mCut_ap, mMaxLen_ap, mSrtSet_ap, mSrtKey_ap, mKeys_ap, mDGet_ap, dicOf_ap, putMD_ap, sDPutM_ap, mLock_ap, mCallI_ap, mCallO_ap, mCallF_ap, runB_ap, runO_ap, agD, agG, agI, slD, Sl.isBr, seqD, fLe_ap, fLt_ap, fGt_ap, fGe_ap, fSub_ap, fAdd_ap, fNeg_ap, fLen_t, fLen_l, fAll_l, fAny_l, fTuple_l, fTuple_t, fList_l, fList_t, fInt_i, fEq_int, fNe_int, fIx_t, fIx_l, fIs_b, fNis_b, fIs_n, fNis_n, isNone_i, isNone_n, fApp_i, fApp_t, fExt_l, hl, hn, hp, L1, A]
end K15
end
section
namespace K15
local instance : DL.Tbs := ⟨[]⟩
open PySem PySem.Spec PyProof.Rows L2 DL
/-! the loop over corners -/
noncomputable def o1_c : M Bool := (tbool (op2 fEq (val (op2 fIx (val (op2 fIx (nm 1) (nm 19))) (val (DL.ret (.int 0))))) (nm 18)))
theorem po_1_is : po_1 = (sSet 20 (rvO (mLc (mRng (aCons (val (opA fLen (aCons (nm 1) aNil))) aNil)) [19] (stN 19) o1_c (dat (nm 19))))) := rfl
theorem nb_ofO (o : Option PyData) : (ofO o).isBr = false := by cases o <;> rfl
theorem po_1E (P : List PyData) {cs : List Cl} (h : Okc cs) (L T R F : PyData) (n m : Int) (k : Nat) (s15 s16 s17 : Sl) (o19 : Option PyData) (s20 s21 s22 s23 : Sl) (hb : s20.isBr = false) :
    po_1 (stG P (.tuple (cs.map enc)) L T R F n m s15 s16 s17 (.d (eN k)) (ofO o19) s20 s21 s22 s23) = some (.nx, stG P (.tuple (cs.map enc)) L T R F n m s15 s16 s17 (.d (eN k)) (ofO o19) (.ol ((hereOf cs k).map eN)) s21 s22 s23) := by
  have L1 := lc_filt (it := ⟨(List.range cs.length).map eN, none⟩) (vs := [19]) (tgt := stN 19) (mc := o1_c) (me := dat (nm 19)) (ρ := stG P (.tuple (cs.map enc)) L T R F n m s15 s16 s17 (.d (eN k)) (ofO o19) s20 s21 s22 s23)
    (ρw := stG P (.tuple (cs.map enc)) L T R F n m s15 s16 s17 (.d (eN k)) .no s20 s21 s22 s23)
    eN eN (Pk cs k) (ok_none rfl _) (by cases o19 <;> rfl) (List.range cs.length) fun i hi => ⟨stG P (.tuple (cs.map enc)) L T R F n m s15 s16 s17 (.d (eN k)) (.d (eN i)) s20 s21 s22 s23, rfl, rfl, by
      have c1 : fIx (.tuple (cs.map enc)) (eN i) = some (enc (cl cs i)) := at_enc (List.mem_range.mp hi)
      have c2 := ixE0 (cl cs i)
      have e1 : fEq (.int (cl cs i).1) (eN k) = some (.bool (Pk cs k i)) := fEq_int _ _
      generalize Pk cs k i = b at *
      generalize enc (cl cs i) = EC at *
      generalize (cl cs i).1 = z at *
      generalize eN i = EI at *
      generalize eN k = EK at *
      generalize cs.map enc = CS at *
      unfold o1_c stG
      simp [runP_ap, initP, bnd_ap, ret_ap, lft_ap, nm_ap, frzv_ap, frzo_ap, dat_ap, val_ap, getv_ap, geto_ap, gets2_ap, op2_ap, op1_ap, tbool_ap, mAnd_ap, mOr_ap, mNot_ap, vAnd_ap, vOr_ap, vNot_ap, mIte_ap, aNil_ap, aCons_ap, datA_ap, getA_ap, opA_ap, mTup_ap, mLst_ap, foD_ap, mCall_ap, mChain_ap, mIsi_ap, mSeq_ap, mEnum_ap, mZip_ap, mRng_ap, mLc_ap, pNo_ap, pYes_ap, mListRng_ap, sNx_ap, sNever_ap, sSeq_ap, sRet_ap, sRetO_ap, sDrop_ap, sIf_ap, rvD_ap, rvO_ap, sSet_ap, sTgt_ap, sFor_ap, mMt_ap, chkL_ap, putM_ap, stN_ap, stRv_ap, stRf_ap, tgT_ap, tgC_ap, tg0_ap, sPar_ap, sPar3_ap, sPut_ap, mCut_ap, mMaxLen_ap, mSrtSet_ap, mSrtKey_ap, mKeys_ap, mDGet_ap, dicOf_ap, putMD_ap, sDPutM_ap, mLock_ap, mCallI_ap, mCallO_ap, mCallF_ap, runB_ap, runO_ap, agD, agG, agI, slD, Sl.isBr, seqD, fLe_ap, fLt_ap, fGt_ap, fGe_ap, fSub_ap, fAdd_ap, fNeg_ap, fLen_t, fLen_l, fAll_l, fAny_l, fTuple_l, fTuple_t, fList_l, fList_t, fInt_i, fEq_int, fNe_int, fIx_t, fIx_l, fIs_b, fNis_b, fIs_n, fNis_n, isNone_i, isNone_n, fApp_i, fApp_t, fExt_l, c1, c2, e1], fun _ => by unfold stG; simp [runP_ap, initP, bnd_ap, ret_ap, lft_ap, nm_ap, frzv_ap, frzo_ap, dat_ap, val_ap, getv_ap, geto_ap, gets2_ap, op2_ap, op1_ap, tbool_ap, mAnd_ap, mOr_ap, mNot_ap, vAnd_ap, vOr_ap, vNot_ap, mIte_ap, aNil_ap, aCons_ap, datA_ap, getA_ap, opA_ap, mTup_ap, mLst_ap, foD_ap, mCall_ap, mChain_ap, mIsi_ap, mSeq_ap, mEnum_ap, mZip_ap, mRng_ap, mLc_ap, pNo_ap, pYes_ap, mListRng_ap, sNx_ap, sNever_ap, sSeq_ap, sRet_ap, sRetO_ap, sDrop_ap, sIf_ap, rvD_ap, rvO_ap, sSet_ap, sTgt_ap, sFor_ap, mMt_ap, chkL_ap, putM_ap, stN_ap, stRv_ap, stRf_ap, tgT_ap, tgC_ap, tg0_ap, sPar_ap, sPar3_ap, sPut_ap, mCut_ap, mMaxLen_ap, mSrtSet_ap, mSrtKey_ap, mKeys_ap, mDGet_ap, dicOf_ap, putMD_ap, sDPutM_ap, mLock_ap, mCallI_ap, mCallO_ap, mCallF_ap, runB_ap, runO_ap, agD, agG, agI, slD, Sl.isBr, seqD, fLe_ap, fLt_ap, fGt_ap, fGe_ap, fSub_ap, fAdd_ap, fNeg_ap, fLen_t, fLen_l, fAll_l, fAny_l, fTuple_l, fTuple_t, fList_l, fList_t, fInt_i, fEq_int, fNe_int, fIx_t, fIx_l, fIs_b, fNis_b, fIs_n, fNis_n, isNone_i, isNone_n, fApp_i, fApp_t, fExt_l]⟩
  have hl : fLen [.tuple (cs.map enc)] = some (.int (cs.length : Int)) := by simp [runP_ap, initP, bnd_ap, ret_ap, lft_ap, nm_ap, frzv_ap, frzo_ap, dat_ap, val_ap, getv_ap, geto_ap, gets2_ap, op2_ap, op1_ap, tbool_ap, mAnd_ap, mOr_ap, mNot_ap, vAnd_ap, vOr_ap, vNot_ap, mIte_ap, aNil_ap, aCons_ap, datA_ap, getA_ap, opA_ap, mTup_ap, mLst_ap, foD_ap, mCall_ap, mChain_ap, mIsi_ap, mSeq_ap, mEnum_ap, mZip_ap, mRng_ap, mLc_ap, pNo_ap, pYes_ap, mListRng_ap, sNx_ap, sNever_ap, sSeq_ap, sRet_ap, sRetO_ap, sDrop_ap, sIf_ap, rvD_ap, rvO_ap, sSet_ap, sTgt_ap, sFor_ap, mMt_ap, chkL_ap, putM_ap, stN_ap, stRv_ap, stRf_ap, tgT_ap, tgC_ap, tg0_ap, sPar_ap, sPar3_ap, sPut_ap, mCut_ap, mMaxLen_ap, mSrtSet_ap, mSrtKey_ap, mKeys_ap, mDGet_ap, dicOf_ap, putMD_ap, sDPutM_ap, mLock_ap, mCallI_ap, mCallO_ap, mCallF_ap, runB_ap, runO_ap, agD, agG, agI, slD, Sl.isBr, seqD, fLe_ap, fLt_ap, fGt_ap, fGe_ap, fSub_ap, fAdd_ap, fNeg_ap, fLen_t, fLen_l, fAll_l, fAny_l, fTuple_l, fTuple_t, fList_l, fList_t, fInt_i, fEq_int, fNe_int, fIx_t, fIx_l, fIs_b, fNis_b, fIs_n, fNis_n, isNone_i, isNone_n, fApp_i, fApp_t, fExt_l]
  have hn : fRng [.int (cs.length : Int)] = some ⟨(List.range cs.length).map eN, none⟩ := fRng_N (by have := h.few; omega)
  rw [po_1_is]
  unfold hereOf
  unfold stG at *
  generalize o1_c = mc at *
  generalize (List.range cs.length).map eN = RR at *
  generalize ((List.range cs.length).filter (Pk cs k)).map eN = HH at *
  generalize ofO o19 = s19 at *
  generalize eN k = EK at *
  generalize cs.map enc = CS at *
  generalize (cs.length : Int) = LL at *
  have hb : Sl.isBr s20 = true → False := fun z => by rw [hb] at z; cases z
  cases s20 <;> first | exact absurd rfl hb | simp [runP_ap, initP, bnd_ap, ret_ap, lft_ap, nm_ap, frzv_ap, frzo_ap, dat_ap, val_ap, getv_ap, geto_ap, gets2_ap, op2_ap, op1_ap, tbool_ap, mAnd_ap, mOr_ap, mNot_ap, vAnd_ap, vOr_ap, vNot_ap, mIte_ap, aNil_ap, aCons_ap, datA_ap, getA_ap, opA_ap, mTup_ap, mLst_ap, foD_ap, mCall_ap, mChain_ap, mIsi_ap, mSeq_ap, mEnum_ap, mZip_ap, mRng_ap, mLc_ap, pNo_ap, pYes_ap, mListRng_ap, sNx_ap, sNever_ap, sSeq_ap, sRet_ap, sRetO_ap, sDrop_ap, sIf_ap, rvD_ap, rvO_ap, sSet_ap, sTgt_ap, sFor_ap, mMt_ap, chkL_ap, putM_ap, stN_ap, stRv_ap, stRf_ap, tgT_ap, tgC_ap, tg0_ap, sPar_ap, sPar3_ap, sPut_ap, mCut_ap, mMaxLen_ap, mSrtSet_ap, mSrtKey_ap, mKeys_ap, mDGet_ap, dicOf_ap, putMD_ap, sDPutM_ap, mLock_ap, mCallI_ap, mCallO_ap, mCallF_ap, runB_ap, runO_ap, agD, agG, agI, slD, Sl.isBr, seqD, fLe_ap, fLt_ap, fGt_ap, fGe_ap, fSub_ap, fAdd_ap, fNeg_ap, fLen_t, fLen_l, fAll_l, fAny_l, fTuple_l, fTuple_t, fList_l, fList_t, fInt_i, fEq_int, fNe_int, fIx_t, fIx_l, fIs_b, fNis_b, fIs_n, fNis_n, isNone_i, isNone_n, fApp_i, fApp_t, fExt_l, hl, hn, L1]
theorem po_2E (P : List PyData) (cs : List Cl) (L T R F : PyData) (n m : Int) (k : Nat) (s15 s16 s17 s18 : Sl) (o19 o21 : Option PyData) (s22 s23 : Sl) :
    po_2 (stG P (.tuple (cs.map enc)) L T R F n m s15 s16 s17 s18 (ofO o19) (.ol ((hereOf cs k).map eN)) (ofO o21) s22 s23) = some (.nx, stG P (.tuple (cs.map enc)) L T R F n m s15 s16 s17 s18 (ofO o19) (.ol ((hereOf cs k).map eN)) (.d (.tuple ((someOf cs k).map enc))) s22 s23) := by
  have L1 := lc_map (it := ⟨(hereOf cs k).map eN, some 20⟩) (vs := [19]) (tgt := stN 19) (me := op2 fIx (nm 1) (nm 19)) (ρ := stG P (.tuple (cs.map enc)) L T R F n m s15 s16 s17 s18 (ofO o19) (.ol ((hereOf cs k).map eN)) (ofO o21) s22 s23)
    (ρw := stG P (.tuple (cs.map enc)) L T R F n m s15 s16 s17 s18 .no (.ol ((hereOf cs k).map eN)) (ofO o21) s22 s23)
    eN (fun i => enc (cl cs i)) rfl (by cases o19 <;> rfl) (hereOf cs k) fun i hi => ⟨stG P (.tuple (cs.map enc)) L T R F n m s15 s16 s17 s18 (.d (eN i)) (.ol ((hereOf cs k).map eN)) (ofO o21) s22 s23, rfl, rfl, by
      have c1 : fIx (.tuple (cs.map enc)) (eN i) = some (enc (cl cs i)) := at_enc (here_lt hi)
      generalize enc (cl cs i) = EC at *
      generalize eN i = EI at *
      generalize cs.map enc = CS at *
      unfold stG
      simp [runP_ap, initP, bnd_ap, ret_ap, lft_ap, nm_ap, frzv_ap, frzo_ap, dat_ap, val_ap, getv_ap, geto_ap, gets2_ap, op2_ap, op1_ap, tbool_ap, mAnd_ap, mOr_ap, mNot_ap, vAnd_ap, vOr_ap, vNot_ap, mIte_ap, aNil_ap, aCons_ap, datA_ap, getA_ap, opA_ap, mTup_ap, mLst_ap, foD_ap, mCall_ap, mChain_ap, mIsi_ap, mSeq_ap, mEnum_ap, mZip_ap, mRng_ap, mLc_ap, pNo_ap, pYes_ap, mListRng_ap, sNx_ap, sNever_ap, sSeq_ap, sRet_ap, sRetO_ap, sDrop_ap, sIf_ap, rvD_ap, rvO_ap, sSet_ap, sTgt_ap, sFor_ap, mMt_ap, chkL_ap, putM_ap, stN_ap, stRv_ap, stRf_ap, tgT_ap, tgC_ap, tg0_ap, sPar_ap, sPar3_ap, sPut_ap, mCut_ap, mMaxLen_ap, mSrtSet_ap, mSrtKey_ap, mKeys_ap, mDGet_ap, dicOf_ap, putMD_ap, sDPutM_ap, mLock_ap, mCallI_ap, mCallO_ap, mCallF_ap, runB_ap, runO_ap, agD, agG, agI, slD, Sl.isBr, seqD, fLe_ap, fLt_ap, fGt_ap, fGe_ap, fSub_ap, fAdd_ap, fNeg_ap, fLen_t, fLen_l, fAll_l, fAny_l, fTuple_l, fTuple_t, fList_l, fList_t, fInt_i, fEq_int, fNe_int, fIx_t, fIx_l, fIs_b, fNis_b, fIs_n, fNis_n, isNone_i, isNone_n, fApp_i, fApp_t, fExt_l, c1]⟩
  have e : (someOf cs k).map enc = (hereOf cs k).map fun i => enc (cl cs i) := by unfold someOf pick; rw [List.map_map]; rfl
  rw [e]
  unfold po_2
  unfold stG at *
  generalize (hereOf cs k).map eN = HH at *
  generalize ((hereOf cs k).map fun i => enc (cl cs i)) = SS at *
  generalize ofO o19 = s19 at *
  generalize cs.map enc = CS at *
  cases o21 with
  | none => unfold ofO at *; simp [runP_ap, initP, bnd_ap, ret_ap, lft_ap, nm_ap, frzv_ap, frzo_ap, dat_ap, val_ap, getv_ap, geto_ap, gets2_ap, op2_ap, op1_ap, tbool_ap, mAnd_ap, mOr_ap, mNot_ap, vAnd_ap, vOr_ap, vNot_ap, mIte_ap, aNil_ap, aCons_ap, datA_ap, getA_ap, opA_ap, mTup_ap, mLst_ap, foD_ap, mCall_ap, mChain_ap, mIsi_ap, mSeq_ap, mEnum_ap, mZip_ap, mRng_ap, mLc_ap, pNo_ap, pYes_ap, mListRng_ap, sNx_ap, sNever_ap, sSeq_ap, sRet_ap, sRetO_ap, sDrop_ap, sIf_ap, rvD_ap, rvO_ap, sSet_ap, sTgt_ap, sFor_ap, mMt_ap, chkL_ap, putM_ap, stN_ap, stRv_ap, stRf_ap, tgT_ap, tgC_ap, tg0_ap, sPar_ap, sPar3_ap, sPut_ap, mCut_ap, mMaxLen_ap, mSrtSet_ap, mSrtKey_ap, mKeys_ap, mDGet_ap, dicOf_ap, putMD_ap, sDPutM_ap, mLock_ap, mCallI_ap, mCallO_ap, mCallF_ap, runB_ap, runO_ap, agD, agG, agI, slD, Sl.isBr, seqD, fLe_ap, fLt_ap, fGt_ap, fGe_ap, fSub_ap, fAdd_ap, fNeg_ap, fLen_t, fLen_l, fAll_l, fAny_l, fTuple_l, fTuple_t, fList_l, fList_t, fInt_i, fEq_int, fNe_int, fIx_t, fIx_l, fIs_b, fNis_b, fIs_n, fNis_n, isNone_i, isNone_n, fApp_i, fApp_t, fExt_l, L1]
  | some d => unfold ofO at *; simp [runP_ap, initP, bnd_ap, ret_ap, lft_ap, nm_ap, frzv_ap, frzo_ap, dat_ap, val_ap, getv_ap, geto_ap, gets2_ap, op2_ap, op1_ap, tbool_ap, mAnd_ap, mOr_ap, mNot_ap, vAnd_ap, vOr_ap, vNot_ap, mIte_ap, aNil_ap, aCons_ap, datA_ap, getA_ap, opA_ap, mTup_ap, mLst_ap, foD_ap, mCall_ap, mChain_ap, mIsi_ap, mSeq_ap, mEnum_ap, mZip_ap, mRng_ap, mLc_ap, pNo_ap, pYes_ap, mListRng_ap, sNx_ap, sNever_ap, sSeq_ap, sRet_ap, sRetO_ap, sDrop_ap, sIf_ap, rvD_ap, rvO_ap, sSet_ap, sTgt_ap, sFor_ap, mMt_ap, chkL_ap, putM_ap, stN_ap, stRv_ap, stRf_ap, tgT_ap, tgC_ap, tg0_ap, sPar_ap, sPar3_ap, sPut_ap, mCut_ap, mMaxLen_ap, mSrtSet_ap, mSrtKey_ap, mKeys_ap, mDGet_ap, dicOf_ap, putMD_ap, sDPutM_ap, mLock_ap, mCallI_ap, mCallO_ap, mCallF_ap, runB_ap, runO_ap, agD, agG, agI, slD, Sl.isBr, seqD, fLe_ap, fLt_ap, fGt_ap, fGe_ap, fSub_ap, fAdd_ap, fNeg_ap, fLen_t, fLen_l, fAll_l, fAny_l, fTuple_l, fTuple_t, fList_l, fList_t, fInt_i, fEq_int, fNe_int, fIx_t, fIx_l, fIs_b, fNis_b, fIs_n, fNis_n, isNone_i, isNone_n, fApp_i, fApp_t, fExt_l, L1]
theorem po_3E (P : List PyData) (C L T R F : PyData) (n m a b a' b' : Int) (x y x' y' D : PyData) (s17 s18 s19 s20 s22 s23 : Sl)
    (h1 : f_most_stands [D] = some (.tuple [.int a', x, y])) (h2 : f_fewest_rows [D] = some (.tuple [.int b', x', y'])) :
    po_3 (stG P C L T R F n m (.d (.int a)) (.d (.int b)) s17 s18 s19 s20 (.d D) s22 s23) = some (.nx, stG P C L T R F n m (.d (.int (a + a'))) (.d (.int (if b' > b then b' else b))) s17 s18 s19 s20 (.d D) s22 s23) := by
  have hm : fMax [.int b, .int b'] = some (.int (if b' > b then b' else b)) := rfl
  generalize (if b' > b then b' else b) = z at *
  unfold po_3 stG
  simp [runP_ap, initP, bnd_ap, ret_ap, lft_ap, nm_ap, frzv_ap, frzo_ap, dat_ap, val_ap, getv_ap, geto_ap, gets2_ap, op2_ap, op1_ap, tbool_ap, mAnd_ap, mOr_ap, mNot_ap, vAnd_ap, vOr_ap, vNot_ap, mIte_ap, aNil_ap, aCons_ap, datA_ap, getA_ap, opA_ap, mTup_ap, mLst_ap, foD_ap, mCall_ap, mChain_ap, mIsi_ap, mSeq_ap, mEnum_ap, mZip_ap, mRng_ap, mLc_ap, pNo_ap, pYes_ap, mListRng_ap, sNx_ap, sNever_ap, sSeq_ap, sRet_ap, sRetO_ap, sDrop_ap, sIf_ap, rvD_ap, rvO_ap, sSet_ap, sTgt_ap, sFor_ap, mMt_ap, chkL_ap, putM_ap, stN_ap, stRv_ap, stRf_ap, tgT_ap, tgC_ap, tg0_ap, sPar_ap, sPar3_ap, sPut_ap, mCut_ap, mMaxLen_ap, mSrtSet_ap, mSrtKey_ap, mKeys_ap, mDGet_ap, dicOf_ap, putMD_ap, sDPutM_ap, mLock_ap, mCallI_ap, mCallO_ap, mCallF_ap, runB_ap, runO_ap, agD, agG, agI, slD, Sl.isBr, seqD, fLe_ap, fLt_ap, fGt_ap, fGe_ap, fSub_ap, fAdd_ap, fNeg_ap, fLen_t, fLen_l, fAll_l, fAny_l, fTuple_l, fTuple_t, fList_l, fList_t, fInt_i, fEq_int, fNe_int, fIx_t, fIx_l, fIs_b, fNis_b, fIs_n, fNis_n, isNone_i, isNone_n, fApp_i, fApp_t, fExt_l, h1, h2, at0, hm]
theorem po_4E (P : List PyData) (C L T R F : PyData) (n m : Int) (cs : List Cl) (k : Nat) (fine : List Nat) (D : PyData) (g : List Nat) (s15 s16 s18 : Sl) (o19 : Option PyData) (s22 s23 : Sl)
    (h1 : f_granted [D] = some (tupN g)) (hg : ∀ i ∈ g, i < (hereOf cs k).length) (hlen : fine.length + g.length ≤ 16777216) :
    po_4 (stG P C L T R F n m s15 s16 (.ol (fine.map eN)) s18 (ofO o19) (.ol ((hereOf cs k).map eN)) (.d D) s22 s23) = some (.nx, stG P C L T R F n m s15 s16 (.ol ((fine ++ g.map fun i => (hereOf cs k).getD i 0).map eN)) s18 (ofO o19) (.ol ((hereOf cs k).map eN)) (.d D) s22 s23) := by
  have L1 := lc_map (it := ⟨g.map eN, none⟩) (vs := [19]) (tgt := stN 19) (me := op2 fIx (nm 20) (nm 19)) (ρ := stG P C L T R F n m s15 s16 (.ol (fine.map eN)) s18 (ofO o19) (.ol ((hereOf cs k).map eN)) (.d D) s22 s23)
    (ρw := stG P C L T R F n m s15 s16 (.ol (fine.map eN)) s18 .no (.ol ((hereOf cs k).map eN)) (.d D) s22 s23)
    eN (fun i => eN ((hereOf cs k).getD i 0)) (ok_none rfl _) (by cases o19 <;> rfl) g fun i hi => ⟨stG P C L T R F n m s15 s16 (.ol (fine.map eN)) s18 (.d (eN i)) (.ol ((hereOf cs k).map eN)) (.d D) s22 s23, rfl, rfl, by
      have c1 : fIx (.list ((hereOf cs k).map eN)) (eN i) = some (eN ((hereOf cs k).getD i 0)) := at_N (hg i hi)
      generalize eN ((hereOf cs k).getD i 0) = EC at *
      generalize eN i = EI at *
      generalize (hereOf cs k).map eN = HH at *
      unfold stG
      simp [runP_ap, initP, bnd_ap, ret_ap, lft_ap, nm_ap, frzv_ap, frzo_ap, dat_ap, val_ap, getv_ap, geto_ap, gets2_ap, op2_ap, op1_ap, tbool_ap, mAnd_ap, mOr_ap, mNot_ap, vAnd_ap, vOr_ap, vNot_ap, mIte_ap, aNil_ap, aCons_ap, datA_ap, getA_ap, opA_ap, mTup_ap, mLst_ap, foD_ap, mCall_ap, mChain_ap, mIsi_ap, mSeq_ap, mEnum_ap, mZip_ap, mRng_ap, mLc_ap, pNo_ap, pYes_ap, mListRng_ap, sNx_ap, sNever_ap, sSeq_ap, sRet_ap, sRetO_ap, sDrop_ap, sIf_ap, rvD_ap, rvO_ap, sSet_ap, sTgt_ap, sFor_ap, mMt_ap, chkL_ap, putM_ap, stN_ap, stRv_ap, stRf_ap, tgT_ap, tgC_ap, tg0_ap, sPar_ap, sPar3_ap, sPut_ap, mCut_ap, mMaxLen_ap, mSrtSet_ap, mSrtKey_ap, mKeys_ap, mDGet_ap, dicOf_ap, putMD_ap, sDPutM_ap, mLock_ap, mCallI_ap, mCallO_ap, mCallF_ap, runB_ap, runO_ap, agD, agG, agI, slD, Sl.isBr, seqD, fLe_ap, fLt_ap, fGt_ap, fGe_ap, fSub_ap, fAdd_ap, fNeg_ap, fLen_t, fLen_l, fAll_l, fAny_l, fTuple_l, fTuple_t, fList_l, fList_t, fInt_i, fEq_int, fNe_int, fIx_t, fIx_l, fIs_b, fNis_b, fIs_n, fNis_n, isNone_i, isNone_n, fApp_i, fApp_t, fExt_l, c1]⟩
  have e : (g.map fun i => (hereOf cs k).getD i 0).map eN = g.map fun i => eN ((hereOf cs k).getD i 0) := by rw [List.map_map]; rfl
  rw [List.map_append, e]
  have hx : fExtend [.list (g.map fun i => eN ((hereOf cs k).getD i 0))] (fine.map eN) = some (.none, fine.map eN ++ g.map fun i => eN ((hereOf cs k).getD i 0)) := by
    rw [fExt_l, if_pos (by rw [List.length_map, List.length_map]; exact hlen)]
  unfold po_4
  unfold tupN at *
  unfold stG at *
  generalize (fine.map eN ++ g.map fun i => eN ((hereOf cs k).getD i 0)) = XX at *
  generalize (g.map fun i => eN ((hereOf cs k).getD i 0)) = SS at *
  generalize (hereOf cs k).map eN = HH at *
  generalize g.map eN = GG at *
  generalize fine.map eN = FF at *
  generalize ofO o19 = s19 at *
  simp [runP_ap, initP, bnd_ap, ret_ap, lft_ap, nm_ap, frzv_ap, frzo_ap, dat_ap, val_ap, getv_ap, geto_ap, gets2_ap, op2_ap, op1_ap, tbool_ap, mAnd_ap, mOr_ap, mNot_ap, vAnd_ap, vOr_ap, vNot_ap, mIte_ap, aNil_ap, aCons_ap, datA_ap, getA_ap, opA_ap, mTup_ap, mLst_ap, foD_ap, mCall_ap, mChain_ap, mIsi_ap, mSeq_ap, mEnum_ap, mZip_ap, mRng_ap, mLc_ap, pNo_ap, pYes_ap, mListRng_ap, sNx_ap, sNever_ap, sSeq_ap, sRet_ap, sRetO_ap, sDrop_ap, sIf_ap, rvD_ap, rvO_ap, sSet_ap, sTgt_ap, sFor_ap, mMt_ap, chkL_ap, putM_ap, stN_ap, stRv_ap, stRf_ap, tgT_ap, tgC_ap, tg0_ap, sPar_ap, sPar3_ap, sPut_ap, mCut_ap, mMaxLen_ap, mSrtSet_ap, mSrtKey_ap, mKeys_ap, mDGet_ap, dicOf_ap, putMD_ap, sDPutM_ap, mLock_ap, mCallI_ap, mCallO_ap, mCallF_ap, runB_ap, runO_ap, agD, agG, agI, slD, Sl.isBr, seqD, fLe_ap, fLt_ap, fGt_ap, fGe_ap, fSub_ap, fAdd_ap, fNeg_ap, fLen_t, fLen_l, fAll_l, fAny_l, fTuple_l, fTuple_t, fList_l, fList_t, fInt_i, fEq_int, fNe_int, fIx_t, fIx_l, fIs_b, fNis_b, fIs_n, fNis_n, isNone_i, isNone_n, fApp_i, fApp_t, fExt_l, h1, L1, hx]
theorem fNe_bb : fNe (.bool true) (.bool true) = some (.bool false) ∧ fNe (.bool false) (.bool false) = some (.bool false) := ⟨rfl, rfl⟩
theorem po_iE (P : List PyData) {cs : List Cl} (h : Okc cs) (L T R F : PyData) (n m : Int) {k j : Nat} (hj : j < (hereOf cs k).length) (s15 s16 s17 s18 : Sl) (o22 o23 : Option PyData) :
    ∃ d22 d23, po_i (stG P (.tuple (cs.map enc)) L T R F n m s15 s16 s17 s18 (.d (eN j)) (.ol ((hereOf cs k).map eN)) (.d (.tuple ((someOf cs k).map enc))) (ofO o22) (ofO o23)) = some (.nx, stG P (.tuple (cs.map enc)) L T R F n m s15 s16 s17 s18 (.d (eN j)) (.ol ((hereOf cs k).map eN)) (.d (.tuple ((someOf cs k).map enc))) (.d d22) (.d d23)) := by
  have hm := here_get hj
  have hi := here_lt hm
  have hjs : j < (someOf cs k).length := by rw [some_len]; exact hj
  have hs := some_okc h k
  have c1 : fIx (.list ((hereOf cs k).map eN)) (eN j) = some (eN ((hereOf cs k).getD j 0)) := at_N hj
  by_cases g : j ∈ gr (someOf cs k)
  · have b1 := barred_in hs hjs g
    have b2 := barred_in h hi ((gr_in hj).mpr g)
    refine ⟨.none, .none, ?_⟩
    generalize eN ((hereOf cs k).getD j 0) = EH at *
    generalize eN j = EJ at *
    generalize (hereOf cs k).map eN = HH at *
    generalize (someOf cs k).map enc = SS at *
    generalize cs.map enc = CS at *
    unfold po_i stG
    cases o22 <;> cases o23 <;> unfold ofO <;> simp [runP_ap, initP, bnd_ap, ret_ap, lft_ap, nm_ap, frzv_ap, frzo_ap, dat_ap, val_ap, getv_ap, geto_ap, gets2_ap, op2_ap, op1_ap, tbool_ap, mAnd_ap, mOr_ap, mNot_ap, vAnd_ap, vOr_ap, vNot_ap, mIte_ap, aNil_ap, aCons_ap, datA_ap, getA_ap, opA_ap, mTup_ap, mLst_ap, foD_ap, mCall_ap, mChain_ap, mIsi_ap, mSeq_ap, mEnum_ap, mZip_ap, mRng_ap, mLc_ap, pNo_ap, pYes_ap, mListRng_ap, sNx_ap, sNever_ap, sSeq_ap, sRet_ap, sRetO_ap, sDrop_ap, sIf_ap, rvD_ap, rvO_ap, sSet_ap, sTgt_ap, sFor_ap, mMt_ap, chkL_ap, putM_ap, stN_ap, stRv_ap, stRf_ap, tgT_ap, tgC_ap, tg0_ap, sPar_ap, sPar3_ap, sPut_ap, mCut_ap, mMaxLen_ap, mSrtSet_ap, mSrtKey_ap, mKeys_ap, mDGet_ap, dicOf_ap, putMD_ap, sDPutM_ap, mLock_ap, mCallI_ap, mCallO_ap, mCallF_ap, runB_ap, runO_ap, agD, agG, agI, slD, Sl.isBr, seqD, fLe_ap, fLt_ap, fGt_ap, fGe_ap, fSub_ap, fAdd_ap, fNeg_ap, fLen_t, fLen_l, fAll_l, fAny_l, fTuple_l, fTuple_t, fList_l, fList_t, fInt_i, fEq_int, fNe_int, fIx_t, fIx_l, fIs_b, fNis_b, fIs_n, fNis_n, isNone_i, isNone_n, fApp_i, fApp_t, fExt_l, c1, b1, b2, fNe_bb.1]
  · obtain ⟨p, hp⟩ := bars_ne hjs g
    have b1 := barred_out hs hjs g hp
    have hp2 : (bars cs ((hereOf cs k).getD j 0))[0]? = some ((hereOf cs k).getD p 0) := by rw [bars_some hj, List.getElem?_map, hp]; rfl
    have b2 := barred_out h hi (fun z => g ((gr_in hj).mp z)) hp2
    have hpl : p < (hereOf cs k).length := by rw [← some_len]; exact bars_below hp
    have c2 : fIx (.list ((hereOf cs k).map eN)) (eN p) = some (eN ((hereOf cs k).getD p 0)) := at_N hpl
    have ne : fNe (eN ((hereOf cs k).getD p 0)) (eN ((hereOf cs k).getD p 0)) = some (.bool false) := by
      unfold eN
      rw [fNe_int, decide_eq_true rfl]; rfl
    have n1p : isNone (eN p) = false := rfl
    have n1w : isNone (eN ((hereOf cs k).getD p 0)) = false := rfl
    refine ⟨eN p, eN ((hereOf cs k).getD p 0), ?_⟩
    clear hp2 hp
    generalize eN ((hereOf cs k).getD j 0) = EH at *
    generalize eN ((hereOf cs k).getD p 0) = EW at *
    generalize eN j = EJ at *
    generalize eN p = EP at *
    generalize (hereOf cs k).map eN = HH at *
    generalize (someOf cs k).map enc = SS at *
    generalize cs.map enc = CS at *
    unfold po_i stG
    cases o22 <;> cases o23 <;> unfold ofO <;> simp [runP_ap, initP, bnd_ap, ret_ap, lft_ap, nm_ap, frzv_ap, frzo_ap, dat_ap, val_ap, getv_ap, geto_ap, gets2_ap, op2_ap, op1_ap, tbool_ap, mAnd_ap, mOr_ap, mNot_ap, vAnd_ap, vOr_ap, vNot_ap, mIte_ap, aNil_ap, aCons_ap, datA_ap, getA_ap, opA_ap, mTup_ap, mLst_ap, foD_ap, mCall_ap, mChain_ap, mIsi_ap, mSeq_ap, mEnum_ap, mZip_ap, mRng_ap, mLc_ap, pNo_ap, pYes_ap, mListRng_ap, sNx_ap, sNever_ap, sSeq_ap, sRet_ap, sRetO_ap, sDrop_ap, sIf_ap, rvD_ap, rvO_ap, sSet_ap, sTgt_ap, sFor_ap, mMt_ap, chkL_ap, putM_ap, stN_ap, stRv_ap, stRf_ap, tgT_ap, tgC_ap, tg0_ap, sPar_ap, sPar3_ap, sPut_ap, mCut_ap, mMaxLen_ap, mSrtSet_ap, mSrtKey_ap, mKeys_ap, mDGet_ap, dicOf_ap, putMD_ap, sDPutM_ap, mLock_ap, mCallI_ap, mCallO_ap, mCallF_ap, runB_ap, runO_ap, agD, agG, agI, slD, Sl.isBr, seqD, fLe_ap, fLt_ap, fGt_ap, fGe_ap, fSub_ap, fAdd_ap, fNeg_ap, fLen_t, fLen_l, fAll_l, fAny_l, fTuple_l, fTuple_t, fList_l, fList_t, fInt_i, fEq_int, fNe_int, fIx_t, fIx_l, fIs_b, fNis_b, fIs_n, fNis_n, isNone_i, isNone_n, fApp_i, fApp_t, fExt_l, c1, c2, b1, b2, n1p, n1w, ne, fNe_bb.2]
end K15
end
section
namespace K15
local instance : DL.Tbs := ⟨[]⟩
open PySem PySem.Spec PyProof.Rows L2 DL
theorem po_5E (P : List PyData) {cs : List Cl} (h : Okc cs) (L T R F : PyData) (n m : Int) (k : Nat) (s15 s16 s17 s18 : Sl) (o19 o22 o23 : Option PyData) :
    ∃ o19' o22' o23', po_5 (stG P (.tuple (cs.map enc)) L T R F n m s15 s16 s17 s18 (ofO o19) (.ol ((hereOf cs k).map eN)) (.d (.tuple ((someOf cs k).map enc))) (ofO o22) (ofO o23)) = some (.nx, stG P (.tuple (cs.map enc)) L T R F n m s15 s16 s17 s18 (ofO o19') (.ol ((hereOf cs k).map eN)) (.d (.tuple ((someOf cs k).map enc))) (ofO o22') (ofO o23')) := by
  have hfew : (hereOf cs k).length ≤ 8 := by rw [← some_len]; exact (some_okc h k).few
  obtain ⟨ρ', f1, o19', o22', o23', rfl⟩ := for_at (it := ⟨(List.range (hereOf cs k).length).map eN, none⟩) (tgt := stN 19) (b := po_i) eN
    (fun _ (_ : Unit) (ρ : Ro) => ∃ o19 o22 o23, ρ = stG P (.tuple (cs.map enc)) L T R F n m s15 s16 s17 s18 (ofO o19) (.ol ((hereOf cs k).map eN)) (.d (.tuple ((someOf cs k).map enc))) (ofO o22) (ofO o23)) (fun _ _ => ()) (List.range (hereOf cs k).length) 0 ()
    (stG P (.tuple (cs.map enc)) L T R F n m s15 s16 s17 s18 (ofO o19) (.ol ((hereOf cs k).map eN)) (.d (.tuple ((someOf cs k).map enc))) (ofO o22) (ofO o23)) ⟨o19, o22, o23, rfl⟩ (by
      rintro i y hy _ ρ ⟨o19, o22, o23, rfl⟩
      have hyl : y < (hereOf cs k).length := List.mem_range.mp (List.mem_of_getElem? hy)
      obtain ⟨d22, d23, g⟩ := po_iE P h L T R F n m hyl s15 s16 s17 s18 o22 o23
      refine ⟨stG P (.tuple (cs.map enc)) L T R F n m s15 s16 s17 s18 (.d (eN y)) (.ol ((hereOf cs k).map eN)) (.d (.tuple ((someOf cs k).map enc))) (ofO o22) (ofO o23), _, ?_, g, some (eN y), some d22, some d23, rfl⟩
      cases o19 <;> rfl)
  refine ⟨o19', o22', o23', ?_⟩
  have hl : fLen [.tuple ((someOf cs k).map enc)] = some (.int ((hereOf cs k).length : Int)) := by
    rw [fLen_t, List.length_map, some_len]
  have hn : fRng [.int ((hereOf cs k).length : Int)] = some ⟨(List.range (hereOf cs k).length).map eN, none⟩ := fRng_N (by omega)
  unfold po_5
  unfold stG at *
  generalize po_i = mb at *
  generalize (List.range (hereOf cs k).length).map eN = RR at *
  generalize (hereOf cs k).map eN = HH at *
  generalize (someOf cs k).map enc = SS at *
  generalize cs.map enc = CS at *
  generalize ((hereOf cs k).length : Int) = LL at *
  generalize ofO o19 = s19 at *
  generalize ofO o22 = s22 at *
  generalize ofO o23 = s23 at *
  generalize ofO o19' = s19' at *
  generalize ofO o22' = s22' at *
  generalize ofO o23' = s23' at *
  simp [runP_ap, initP, bnd_ap, ret_ap, lft_ap, nm_ap, frzv_ap, frzo_ap, dat_ap, val_ap, getv_ap, geto_ap, gets2_ap, op2_ap, op1_ap, tbool_ap, mAnd_ap, mOr_ap, mNot_ap, vAnd_ap, vOr_ap, vNot_ap, mIte_ap, aNil_ap, aCons_ap, datA_ap, getA_ap, opA_ap, mTup_ap, mLst_ap, foD_ap, mCall_ap, mChain_ap, mIsi_ap, mSeq_ap, mEnum_ap, mZip_ap, mRng_ap, mLc_ap, pNo_ap, pYes_ap, mListRng_ap, sNx_ap, sNever_ap, sSeq_ap, sRet_ap, sRetO_ap, sDrop_ap, sIf_ap, rvD_ap, rvO_ap, sSet_ap, sTgt_ap, sFor_ap, mMt_ap, chkL_ap, putM_ap, stN_ap, stRv_ap, stRf_ap, tgT_ap, tgC_ap, tg0_ap, sPar_ap, sPar3_ap, sPut_ap, mCut_ap, mMaxLen_ap, mSrtSet_ap, mSrtKey_ap, mKeys_ap, mDGet_ap, dicOf_ap, putMD_ap, sDPutM_ap, mLock_ap, mCallI_ap, mCallO_ap, mCallF_ap, runB_ap, runO_ap, agD, agG, agI, slD, Sl.isBr, seqD, fLe_ap, fLt_ap, fGt_ap, fGe_ap, fSub_ap, fAdd_ap, fNeg_ap, fLen_t, fLen_l, fAll_l, fAny_l, fTuple_l, fTuple_t, fList_l, fList_t, fInt_i, fEq_int, fNe_int, fIx_t, fIx_l, fIs_b, fNis_b, fIs_n, fNis_n, isNone_i, isNone_n, fApp_i, fApp_t, fExt_l, hl, hn, f1]
theorem gr_len {cs : List Cl} (h : Okc cs) : (gr cs).length ≤ 8 := by
  have := sub_len (gr_nodup cs) (m := List.range cs.length) fun x hx => List.mem_range.mpr (greedy_below (rks_len cs) hx)
  rw [List.length_range] at this
  have := h.few
  omega
theorem fine_len {cs : List Cl} (h : Okc cs) : ∀ k, (fineTo cs k).length ≤ 8 * k
  | 0 => Nat.zero_le _
  | k + 1 => by
    rw [fine_succ, List.length_append, List.length_map, srtN_len]
    have := fine_len h k
    have := gr_len (some_okc h k)
    omega
/-- where the loop stands -/
def atK (cs : List Cl) (P : List PyData) (L T R F : PyData) (n m : Int) (k : Nat) (o18 o19 : Option PyData) (s20 : Sl) (o21 o22 o23 : Option PyData) : Ro :=
  stG P (.tuple (cs.map enc)) L T R F n m (.d (.int (standsTo cs k))) (.d (.int (mostTo cs k))) (.ol ((fineTo cs k).map eN)) (ofO o18) (ofO o19) s20 (ofO o21) (ofO o22) (ofO o23)
theorem po_bE (P : List PyData) {cs : List Cl} (h : Okc cs) (L T R F : PyData) (n m : Int) {k : Nat} (hk : k < 7) (o19 : Option PyData) (s20 : Sl) (hb : s20.isBr = false) (o21 o22 o23 : Option PyData) :
    ∃ o18' o19' s20' o21' o22' o23', s20'.isBr = false ∧ po_b (atK cs P L T R F n m k (some (eN k)) o19 s20 o21 o22 o23) = some (.nx, atK cs P L T R F n m (k + 1) o18' o19' s20' o21' o22' o23') := by
  have hs := some_okc h k
  have e1 := po_1E P h L T R F n m k (.d (.int (standsTo cs k))) (.d (.int (mostTo cs k))) (.ol ((fineTo cs k).map eN)) o19 s20 (ofO o21) (ofO o22) (ofO o23) hb
  have e2 := po_2E P cs L T R F n m k (.d (.int (standsTo cs k))) (.d (.int (mostTo cs k))) (.ol ((fineTo cs k).map eN)) (.d (eN k)) o19 o21 (ofO o22) (ofO o23)
  have e3 := po_3E P (.tuple (cs.map enc)) L T R F n m (standsTo cs k) (mostTo cs k) _ _ _ _ _ _ _ (.ol ((fineTo cs k).map eN)) (.d (eN k)) (ofO o19) (.ol ((hereOf cs k).map eN)) (ofO o22) (ofO o23) (most_standsE hs) (fewest_rowsE hs)
  have g : f_granted [.tuple ((someOf cs k).map enc)] = some (tupN (srtN (gr (someOf cs k)))) := grantedE hs
  have hfl := fine_len h k
  have hgl := gr_len hs
  have hsl := srtN_len (gr (someOf cs k))
  have e4 := po_4E P (.tuple (cs.map enc)) L T R F n m cs k (fineTo cs k) _ (srtN (gr (someOf cs k))) (.d (.int ((standsTo cs k : Int) + (lotOf (someOf cs k)).length))) (.d (.int (if ((fullOf (someOf cs k)).length : Int) > (mostTo cs k : Int) then ((fullOf (someOf cs k)).length : Int) else (mostTo cs k : Int)))) (.d (eN k)) o19 (ofO o22) (ofO o23) g
    (fun i hi => by rw [← some_len]; exact greedy_below (rks_len _) ((srtN_perm _).mem_iff.mp hi)) (by omega)
  obtain ⟨o19', o22', o23', e5⟩ := po_5E P h L T R F n m k (.d (.int ((standsTo cs k : Int) + (lotOf (someOf cs k)).length))) (.d (.int (if ((fullOf (someOf cs k)).length : Int) > (mostTo cs k : Int) then ((fullOf (someOf cs k)).length : Int) else (mostTo cs k : Int))))
    (.ol ((fineTo cs k ++ (srtN (gr (someOf cs k))).map fun i => (hereOf cs k).getD i 0).map eN)) (.d (eN k)) o19 o22 o23
  refine ⟨some (eN k), o19', .ol ((hereOf cs k).map eN), some (.tuple ((someOf cs k).map enc)), o22', o23', rfl, ?_⟩
  have z1 : ((standsTo cs (k + 1) : Nat) : Int) = (standsTo cs k : Int) + (lotOf (someOf cs k)).length := by rw [stands_succ]; omega
  have z2 : ((mostTo cs (k + 1) : Nat) : Int) = if ((fullOf (someOf cs k)).length : Int) > (mostTo cs k : Int) then ((fullOf (someOf cs k)).length : Int) else (mostTo cs k : Int) := by
    rw [most_succ]
    split <;> split <;> omega
  unfold po_b atK
  rw [z1, z2, fine_succ]
  have q : ofO (some (eN k)) = Sl.d (eN k) := rfl
  have q2 : ofO (some (.tuple ((someOf cs k).map enc))) = Sl.d (.tuple ((someOf cs k).map enc)) := rfl
  rw [q, q2]
  simp only [sSeq_ap, e1, e2, e3, e4, e5]
theorem pr_oE (P : List PyData) {cs : List Cl} (h : Okc cs) (L T R F : PyData) (n m : Int) :
    ∃ o18' o19' s20' o21' o22' o23', pr_o (atK cs P L T R F n m 0 none none .no none none none) = some (.nx, atK cs P L T R F n m 7 o18' o19' s20' o21' o22' o23') := by
  obtain ⟨ρ', f1, o18', o19', s20', o21', o22', o23', hb, rfl⟩ := for_at (it := ⟨(List.range 7).map eN, none⟩) (tgt := stN 18) (b := po_b) eN
    (fun k (_ : Unit) (ρ : Ro) => ∃ o18 o19 s20 o21 o22 o23, s20.isBr = false ∧ ρ = atK cs P L T R F n m k o18 o19 s20 o21 o22 o23) (fun _ _ => ()) (List.range 7) 0 ()
    (atK cs P L T R F n m 0 none none .no none none none) ⟨none, none, .no, none, none, none, rfl, rfl⟩ (by
      rintro i y hy _ ρ ⟨o18, o19, s20, o21, o22, o23, hb, rfl⟩
      have hyl : y < 7 := List.mem_range.mp (List.mem_of_getElem? hy)
      have hyi : y = i := by
        obtain ⟨h1, h2⟩ := List.getElem?_eq_some_iff.mp hy
        rw [List.getElem_range] at h2
        exact h2.symm
      subst hyi
      rw [Nat.zero_add]
      obtain ⟨o18', o19', s20', o21', o22', o23', hb', g⟩ := po_bE P h L T R F n m hyl o19 s20 hb o21 o22 o23
      refine ⟨atK cs P L T R F n m y (some (eN y)) o19 s20 o21 o22 o23, _, ?_, g, o18', o19', s20', o21', o22', o23', hb', rfl⟩
      cases o18 <;> rfl)
  refine ⟨o18', o19', s20', o21', o22', o23', ?_⟩
  have hn : fRng [.int 7] = some ⟨(List.range 7).map eN, none⟩ := fRng_N (n := 7) (by omega)
  have f1 : forM ⟨(List.range 7).map eN, none⟩ (stN 18) po_b ((List.range 7).map eN) (atK cs P L T R F n m 0 none none .no none none none) = some (.nx, atK cs P L T R F n m 7 o18' o19' s20' o21' o22' o23') := f1
  unfold pr_o
  generalize po_b = mb at *
  generalize (List.range 7).map eN = RR at *
  generalize atK cs P L T R F n m 0 none none .no none none none = X at *
  generalize atK cs P L T R F n m 7 o18' o19' s20' o21' o22' o23' = Y at *
  simp [runP_ap, initP, bnd_ap, ret_ap, lft_ap, nm_ap, frzv_ap, frzo_ap, dat_ap, val_ap, getv_ap, geto_ap, gets2_ap, op2_ap, op1_ap, tbool_ap, mAnd_ap, mOr_ap, mNot_ap, vAnd_ap, vOr_ap, vNot_ap, mIte_ap, aNil_ap, aCons_ap, datA_ap, getA_ap, opA_ap, mTup_ap, mLst_ap, foD_ap, mCall_ap, mChain_ap, mIsi_ap, mSeq_ap, mEnum_ap, mZip_ap, mRng_ap, mLc_ap, pNo_ap, pYes_ap, mListRng_ap, sNx_ap, sNever_ap, sSeq_ap, sRet_ap, sRetO_ap, sDrop_ap, sIf_ap, rvD_ap, rvO_ap, sSet_ap, sTgt_ap, sFor_ap, mMt_ap, chkL_ap, putM_ap, stN_ap, stRv_ap, stRf_ap, tgT_ap, tgC_ap, tg0_ap, sPar_ap, sPar3_ap, sPut_ap, mCut_ap, mMaxLen_ap, mSrtSet_ap, mSrtKey_ap, mKeys_ap, mDGet_ap, dicOf_ap, putMD_ap, sDPutM_ap, mLock_ap, mCallI_ap, mCallO_ap, mCallF_ap, runB_ap, runO_ap, agD, agG, agI, slD, Sl.isBr, seqD, fLe_ap, fLt_ap, fGt_ap, fGe_ap, fSub_ap, fAdd_ap, fNeg_ap, fLen_t, fLen_l, fAll_l, fAny_l, fTuple_l, fTuple_t, fList_l, fList_t, fInt_i, fEq_int, fNe_int, fIx_t, fIx_l, fIs_b, fNis_b, fIs_n, fNis_n, isNone_i, isNone_n, fApp_i, fApp_t, fExt_l, hn, f1]
end K15
end
section
namespace K15
local instance : DL.Tbs := ⟨[]⟩
open PySem PySem.Spec PyProof.Rows L2 DL
theorem full_len {cs : List Cl} (h : Okc cs) : (fullOf cs).length ≤ 8 := by
  have l := full_Lot cs
  have nd : (fullOf cs).Nodup := l.asc.imp fun z => Nat.ne_of_lt z
  have := sub_len nd (m := List.range cs.length) fun x hx => List.mem_range.mpr (l.lt x hx)
  rw [List.length_range] at this
  have := h.few
  omega
theorem rightE {P : List PyData} (hP : Pot 0 P) : ∃ P', f_law_right P [] = some (.bool true, P') := by
  obtain ⟨cs, P', hc, h⟩ := claimsE hP
  have ll := lot_len h
  have fl := full_len h
  have sl := srtN_len (lotOf cs)
  have la := lot_Lot cs
  have pl := pins_len cs
  have pp := pins_Pins h
  obtain ⟨S1, r1, k1⟩ := repr_n ll
  obtain ⟨S2, r2, k2⟩ := repr_n fl
  obtain ⟨S3, r3, k3⟩ := repr_l (l := srtN (gr cs)) (srtN_asc (gr_nodup cs)) fun x hx => by
    have := greedy_below (rks_len cs) ((srtN_perm _).mem_iff.mp hx)
    have := h.few
    omega
  have a := pr_aE P P' _ hc
  have b := pr_bE P' _ (are_claimsE h.ok h.few)
  have c := pr_cE P' _ _ _ (law_standsE h.few)
  have d := pr_dE P' (.tuple (cs.map enc)) (.tuple ((srtN (lotOf cs)).map eN)) (.tuple ((pinsOf cs).map encP)) _ _ (law_rows_ofE h.few) (law_fullestE cs)
  have e := pr_eE P' (.tuple (cs.map enc)) (.tuple ((srtN (lotOf cs)).map eN)) (.tuple ((pinsOf cs).map encP)) (tupN (rowsT cs)) (tupN (fullOf cs)) _ (most_standsE h)
  have lenL : fLen [.tuple ((srtN (lotOf cs)).map eN)] = some (.int ((lotOf cs).length : Int)) := by rw [fLen_t, List.length_map, sl]
  have lenT : fLen [.tuple ((pinsOf cs).map encP)] = some (.int ((lotOf cs).length : Int)) := by rw [fLen_t, List.length_map, pl]
  have f := pr_fE P' (.tuple (cs.map enc)) (.tuple ((srtN (lotOf cs)).map eN)) (.tuple ((pinsOf cs).map encP)) (tupN (rowsT cs)) (tupN (fullOf cs)) ((lotOf cs).length : Int) r1 lenL lenT (ne_str k1)
    (fList_t _) (srtset_N la.asc (by omega)) (ne_list lay_N dp_N (by decide) _) (fList_t _) (srtset_P pp (by omega)) (ne_list lay_P dp_P (by decide) _)
  have g := pr_gE P' (.tuple (cs.map enc)) (.tuple ((srtN (lotOf cs)).map eN)) (.tuple ((pinsOf cs).map encP)) (tupN (rowsT cs)) (tupN (fullOf cs)) ((lotOf cs).length : Int) (law_free_lot h) (law_holds_lot h) (shows_lot h)
  have hh := pr_hE P' (.tuple (cs.map enc)) (.tuple ((srtN (lotOf cs)).map eN)) (.tuple ((pinsOf cs).map encP)) (tupN (rowsT cs)) (tupN (fullOf cs)) ((lotOf cs).length : Int) (L1 := .tuple (((srtN (lotOf cs)).drop 1).map eN)) (T1 := .tuple (((pinsOf cs).drop 1).map encP)) (shows_lot h)
    (by show some (PyData.tuple (DL.cutD _ (some 1) none)) = _; rw [cut1, List.map_drop]) (by show some (PyData.tuple (DL.cutD _ (some 1) none)) = _; rw [cut1, List.map_drop]) fun z => shows_less h (by omega)
  have i := pr_iE P' (.tuple (cs.map enc)) (.tuple ((srtN (lotOf cs)).map eN)) (.tuple ((pinsOf cs).map encP)) (tupN (rowsT cs)) (tupN (fullOf cs)) ((lotOf cs).length : Int) _ (fewest_rowsE h)
  have lenC : fLen [.tuple (cs.map enc)] = some (.int (cs.length : Int)) := by rw [fLen_t, List.length_map]
  have lenR : fLen [tupN (rowsT cs)] = some (.int (cs.length : Int)) := by rw [fLen_T, rows_len]
  have j := pr_jE P' (.tuple (cs.map enc)) (.tuple ((srtN (lotOf cs)).map eN)) (.tuple ((pinsOf cs).map encP)) (tupN (rowsT cs)) (tupN (fullOf cs)) ((lotOf cs).length : Int) ((fullOf cs).length : Int) r2 (fLen_T _) lenR (ne_str k2) lenC
    (by rw [fNe_int, decide_eq_true rfl]; rfl) (pj_allE P' _ _ _ _ _ _ _ (rows_low h))
  have k := pr_kE P' (.tuple (cs.map enc)) (.tuple ((srtN (lotOf cs)).map eN)) (.tuple ((pinsOf cs).map encP)) (tupN (rowsT cs)) (tupN (fullOf cs)) ((lotOf cs).length : Int) ((fullOf cs).length : Int) (pk_anyE P' h _ _ _ _ _ _ (rows_len cs) (rows_Rows h))
  have l := pr_lE P' (.tuple (cs.map enc)) (.tuple ((srtN (lotOf cs)).map eN)) (.tuple ((pinsOf cs).map encP)) (tupN (rowsT cs)) (tupN (fullOf cs)) ((lotOf cs).length : Int) ((fullOf cs).length : Int) (shows_rows h)
  have m := pr_mE P' (.tuple (cs.map enc)) (.tuple ((srtN (lotOf cs)).map eN)) (.tuple ((pinsOf cs).map encP)) (tupN (rowsT cs)) (tupN (fullOf cs)) ((lotOf cs).length : Int) ((fullOf cs).length : Int) (shows_rows_more h)
  have n := pr_nE P' (.tuple (cs.map enc)) (.tuple ((srtN (lotOf cs)).map eN)) (.tuple ((pinsOf cs).map encP)) (tupN (rowsT cs)) (tupN (fullOf cs)) ((lotOf cs).length : Int) ((fullOf cs).length : Int)
  obtain ⟨o18, o19, s20, o21, o22, o23, o⟩ := pr_oE P' h (.tuple ((srtN (lotOf cs)).map eN)) (.tuple ((pinsOf cs).map encP)) (tupN (rowsT cs)) (tupN (fullOf cs)) ((lotOf cs).length : Int) ((fullOf cs).length : Int)
  have z0 : atK cs P' (.tuple ((srtN (lotOf cs)).map eN)) (.tuple ((pinsOf cs).map encP)) (tupN (rowsT cs)) (tupN (fullOf cs)) ((lotOf cs).length : Int) ((fullOf cs).length : Int) 0 none none .no none none none = stG P' (.tuple (cs.map enc)) (.tuple ((srtN (lotOf cs)).map eN)) (.tuple ((pinsOf cs).map encP)) (tupN (rowsT cs)) (tupN (fullOf cs)) ((lotOf cs).length : Int) ((fullOf cs).length : Int) (.d (.int 0)) (.d (.int 0)) (.ol []) .no .no .no .no .no .no := rfl
  rw [z0] at o
  unfold atK at o
  rw [stands_all h, most_all h] at o
  have p := pr_pE P' (.tuple (cs.map enc)) (.tuple ((srtN (lotOf cs)).map eN)) (.tuple ((pinsOf cs).map encP)) (tupN (rowsT cs)) (tupN (fullOf cs)) ((lotOf cs).length : Int) ((fullOf cs).length : Int) (ofO o18) (ofO o19) s20 (ofO o21) (ofO o22) (ofO o23)
    (G := tupN (srtN (gr cs))) (fine := (fineTo cs 7).map eN) (srt := (srtN (fineTo cs 7)).map eN) (grantedE h) r3 (sort_N _) (by rw [fine_srt h]; rfl) (ne_str k3)
  have q := pr_qE _ (pq_allE P' h (.tuple ((srtN (lotOf cs)).map eN)) (.tuple ((pinsOf cs).map encP)) (tupN (rowsT cs)) (tupN (fullOf cs)) ((lotOf cs).length : Int) ((fullOf cs).length : Int) (.d (.int ((lotOf cs).length : Int))) (.d (.int ((fullOf cs).length : Int))) (.ol ((fineTo cs 7).map eN)) (ofO o18) (ofO o19) s20 (ofO o21) (ofO o22) (ofO o23))
  refine ⟨P', ?_⟩
  have run : m_law_right [.br P, .no, .no, .no, .no, .no, .no, .no, .no, .no, .no, .no, .no, .no, .no, .no, .no, .no, .no, .no, .no, .no, .no, .no] = some (.rt (.bool true), stG P' (.tuple (cs.map enc)) (.tuple ((srtN (lotOf cs)).map eN)) (.tuple ((pinsOf cs).map encP)) (tupN (rowsT cs)) (tupN (fullOf cs)) ((lotOf cs).length : Int) ((fullOf cs).length : Int) (.d (.int ((lotOf cs).length : Int))) (.d (.int ((fullOf cs).length : Int))) (.ol ((fineTo cs 7).map eN)) (ofO o18) (ofO o19) s20 (ofO o21) (ofO o22) (ofO o23)) := by
    rw [m_right_is]
    rw [sSeq_ap, a]; dsimp only
    rw [sSeq_ap, b]; dsimp only
    rw [sSeq_ap, c]; dsimp only
    rw [sSeq_ap, d]; dsimp only
    rw [sSeq_ap, e]; dsimp only
    rw [sSeq_ap, f]; dsimp only
    rw [sSeq_ap, g]; dsimp only
    rw [sSeq_ap, hh]; dsimp only
    rw [sSeq_ap, i]; dsimp only
    refine Eq.trans ?_ q
    show sSeq pr_j _ (stG P' (.tuple (cs.map enc)) (.tuple ((srtN (lotOf cs)).map eN)) (.tuple ((pinsOf cs).map encP)) (tupN (rowsT cs)) (tupN (fullOf cs)) ((lotOf cs).length : Int) ((fullOf cs).length : Int) .no .no .no .no .no .no .no .no .no) = _
    rw [sSeq_ap, j]; dsimp only
    rw [sSeq_ap, k]; dsimp only
    rw [sSeq_ap, l]; dsimp only
    rw [sSeq_ap, m]; dsimp only
    rw [sSeq_ap, n]; dsimp only
    rw [sSeq_ap, o]; dsimp only
    rw [sSeq_ap, p]
  unfold f_law_right
  rw [runB_ap]
  have st : Sl.br P :: initP (24 - 1) [] = [.br P, .no, .no, .no, .no, .no, .no, .no, .no, .no, .no, .no, .no, .no, .no, .no, .no, .no, .no, .no, .no, .no, .no, .no] := rfl
  rw [st, run]
  rfl
noncomputable def ml_e : M PyData := (mCallF f_law_right (mCallO 2 f_law_pot (aCons (val (dat (nm 0))) (aCons (val (dat (nm 1))) aNil))))
theorem m_law_is : m_law = sRet (opA fAll (aCons (val (foD (mLc (mSeq (val (mCall 2 f_law_cells (aCons (val (dat (nm 0))) (aCons (val (DL.ret (.int 3))) aNil))))) [1] (stN 1) (DL.ret true) ml_e))) aNil)) := rfl
/-- the law holds at every list of numbers -/
theorem lawE (ns : List Int) (hn : ns.length ≤ 1000000) : f_law [.list (ns.map PyData.int)] = some (.bool true) := by
  have hc := law_cellsE ns hn
  have L1 := lc_map (it := ⟨(List.range (cellsN ns.length)).map eN, none⟩) (vs := [1]) (tgt := stN 1) (me := ml_e) (ρ := [.d (.list (ns.map PyData.int)), .no]) (ρw := [.d (.list (ns.map PyData.int)), .no])
    eN (fun _ => .bool true) (ok_none rfl _) rfl (List.range (cellsN ns.length)) fun i hi => ⟨[.d (.list (ns.map PyData.int)), .d (eN i)], rfl, rfl, by
      have hi : i < 3 := by have := List.mem_range.mp hi; have := (cells_le ns.length).1; omega
      obtain ⟨P, h1, h2⟩ := potE ns i hi
      obtain ⟨P', h3⟩ := rightE h2
      generalize eN i = EI at *
      generalize ns.map PyData.int = D at *
      unfold ml_e
      simp [runP_ap, initP, bnd_ap, ret_ap, lft_ap, nm_ap, frzv_ap, frzo_ap, dat_ap, val_ap, getv_ap, geto_ap, gets2_ap, op2_ap, op1_ap, tbool_ap, mAnd_ap, mOr_ap, mNot_ap, vAnd_ap, vOr_ap, vNot_ap, mIte_ap, aNil_ap, aCons_ap, datA_ap, getA_ap, opA_ap, mTup_ap, mLst_ap, foD_ap, mCall_ap, mChain_ap, mIsi_ap, mSeq_ap, mEnum_ap, mZip_ap, mRng_ap, mLc_ap, pNo_ap, pYes_ap, mListRng_ap, sNx_ap, sNever_ap, sSeq_ap, sRet_ap, sRetO_ap, sDrop_ap, sIf_ap, rvD_ap, rvO_ap, sSet_ap, sTgt_ap, sFor_ap, mMt_ap, chkL_ap, putM_ap, stN_ap, stRv_ap, stRf_ap, tgT_ap, tgC_ap, tg0_ap, sPar_ap, sPar3_ap, sPut_ap, mCut_ap, mMaxLen_ap, mSrtSet_ap, mSrtKey_ap, mKeys_ap, mDGet_ap, dicOf_ap, putMD_ap, sDPutM_ap, mLock_ap, mCallI_ap, mCallO_ap, mCallF_ap, runB_ap, runO_ap, agD, agG, agI, slD, Sl.isBr, seqD, fLe_ap, fLt_ap, fGt_ap, fGe_ap, fSub_ap, fAdd_ap, fNeg_ap, fLen_t, fLen_l, fAll_l, fAny_l, fTuple_l, fTuple_t, fList_l, fList_t, fInt_i, fEq_int, fNe_int, fIx_t, fIx_l, fIs_b, fNis_b, fIs_n, fNis_n, isNone_i, isNone_n, fApp_i, fApp_t, fExt_l, h1, h3]⟩
  have A : fAll [.list ((List.range (cellsN ns.length)).map fun _ => PyData.bool true)] = some (.bool true) := by
    rw [fAll_l, asBls_of (fun _ => true) (List.range (cellsN ns.length))]
    simp
  unfold f_law
  rw [m_law_is]
  generalize ml_e = me at *
  generalize ns.map PyData.int = D at *
  generalize ((List.range (cellsN ns.length)).map fun _ => PyData.bool true) = QQ at *
  generalize (List.range (cellsN ns.length)).map eN = RR at *
  simp [runP_ap, initP, bnd_ap, ret_ap, lft_ap, nm_ap, frzv_ap, frzo_ap, dat_ap, val_ap, getv_ap, geto_ap, gets2_ap, op2_ap, op1_ap, tbool_ap, mAnd_ap, mOr_ap, mNot_ap, vAnd_ap, vOr_ap, vNot_ap, mIte_ap, aNil_ap, aCons_ap, datA_ap, getA_ap, opA_ap, mTup_ap, mLst_ap, foD_ap, mCall_ap, mChain_ap, mIsi_ap, mSeq_ap, mEnum_ap, mZip_ap, mRng_ap, mLc_ap, pNo_ap, pYes_ap, mListRng_ap, sNx_ap, sNever_ap, sSeq_ap, sRet_ap, sRetO_ap, sDrop_ap, sIf_ap, rvD_ap, rvO_ap, sSet_ap, sTgt_ap, sFor_ap, mMt_ap, chkL_ap, putM_ap, stN_ap, stRv_ap, stRf_ap, tgT_ap, tgC_ap, tg0_ap, sPar_ap, sPar3_ap, sPut_ap, mCut_ap, mMaxLen_ap, mSrtSet_ap, mSrtKey_ap, mKeys_ap, mDGet_ap, dicOf_ap, putMD_ap, sDPutM_ap, mLock_ap, mCallI_ap, mCallO_ap, mCallF_ap, runB_ap, runO_ap, agD, agG, agI, slD, Sl.isBr, seqD, fLe_ap, fLt_ap, fGt_ap, fGe_ap, fSub_ap, fAdd_ap, fNeg_ap, fLen_t, fLen_l, fAll_l, fAny_l, fTuple_l, fTuple_t, fList_l, fList_t, fInt_i, fEq_int, fNe_int, fIx_t, fIx_l, fIs_b, fNis_b, fIs_n, fNis_n, isNone_i, isNone_n, fApp_i, fApp_t, fExt_l, hc, L1, A]
end K15
end
section
namespace K15
open PySem PySem.Spec PyProof.Rows L2 DL
/-! the program's top -/
/-- a def of the top, as the frame keeps it -/
structure OneF (K : PySem.W.Frag) (x : String) (st : Stmt) (f : Addr) (fd : FuncData) : Prop where
  a : PySem.W.nsIn K mainGlobals (Str.ofString x) = some (some (.ref f))
  F : Fun K (Str.ofString x) (Str.ofString x) st f fd
theorem OneF.of {K : PySem.W.Frag} {x : String} {st : Stmt} {f : Addr} {oc : Value} {od an : Option Addr} {osl : Array (Option Value)} {kV doc pm cdv ct : Value}
    (a : PySem.W.nsIn K mainGlobals (Str.ofString x) = some (some (.ref f))) (l : K.lookup f = some { cls := oc, dict := od, data := .func (PySem.W.fnOf (Str.ofString x) (Str.ofString x) (defArgs st) (defBody st) (defScope st) .none kV doc pm an cdv ct), slots := osl })
    (c : PySem.W.codeIn K cdv (Str.ofString x) = true) (k : PySem.W.keepIn K (.ref f) = true) : OneF K x st f (PySem.W.fnOf (Str.ofString x) (Str.ofString x) (defArgs st) (defBody st) (defScope st) .none kV doc pm an cdv ct) := ⟨a, fun_mk l c k⟩
/-- a table that a def's lambda is written in -/
def tabB (K : PySem.W.Frag) (ts : List Addr) (c P : Addr) : Bool := PySem.W.codeHdIn K c P && ((K.lookup P).isNone && decide (P ∈ ts))
theorem tabB_ok {K : PySem.W.Frag} {ts : List Addr} {c P : Addr} (h : tabB K ts c P = true) : PySem.W.codeHdIn K c P = true ∧ K.lookup P = none ∧ P ∈ ts := by
  unfold tabB at h
  rw [Bool.and_eq_true, Bool.and_eq_true] at h
  exact ⟨h.1, Option.isNone_iff_eq_none.mp h.2.1, of_decide_eq_true h.2.2⟩
def tabs2 (K : PySem.W.Frag) (ts : List Addr) (x y : String) : Bool := match PySem.W.tabIn K (Str.ofString x), PySem.W.tabIn K (Str.ofString y) with
  | some (c, P), some (d, Q) => tabB K ts c P && (tabB K ts d Q && decide (P ≠ Q))
  | _, _ => false
theorem tabs2_ok {K : PySem.W.Frag} {ts : List Addr} {x y : String} (h : tabs2 K ts x y = true) : ∃ c P d Q, PySem.W.tabIn K (Str.ofString x) = some (c, P) ∧ PySem.W.tabIn K (Str.ofString y) = some (d, Q) ∧ tabB K ts c P = true ∧ tabB K ts d Q = true ∧ P ≠ Q := by
  unfold tabs2 at h
  split at h
  · rename_i c P d Q e1 e2
    rw [Bool.and_eq_true, Bool.and_eq_true] at h
    exact ⟨c, P, d, Q, e1, e2, h.1, h.2.1, of_decide_eq_true h.2.2⟩
  · cases h
def noListB (K : PySem.W.Frag) : Bool := K.all fun p => match p.2.cls with
  | .type t => !decide (t = "list")
  | _ => true
theorem noListB_ok {K : PySem.W.Frag} (h : noListB K = true) : ∀ b o, K.lookup b = some o → o.cls ≠ .type "list" := fun b o e z => by
  have h2 := List.all_eq_true.mp h (b, o) (PySem.W.mem_of_lookupK e)
  dsimp only at h2
  rw [z] at h2
  simp at h2
theorem lawOf {fd : FuncData} {K : PySem.W.Frag} {h : Heap} {mg : Str → Option Value} {x : String} {st : Stmt} {f c P : Addr} (X : K.In h) (G : h.Ns mainGlobals mg) (O : OneF K x st f fd) (t : PySem.W.tabIn K (Str.ofString x) = some (c, P)) : fd.code = .ref c := by
  obtain ⟨oc, od, kV, doc, pm, an, cdv, ct, osl, e, l, _⟩ := O.F.ex
  exact PySem.W.law_code X G t (PySem.W.mg_of X G O.a) (X _ _ l) rfl
set_option maxHeartbeats 4000000 in
theorem all_mk {l : PySem.W.OpenLaw} {w : World} {K : PySem.W.Frag} {h : Heap} {mg : Str → Option Value} {fa : Addr} {ts : List Addr} (X : K.In h) (G : h.Ns mainGlobals mg) (TS : ∀ P ∈ ts, h.get? P = some (PySem.W.tabObj #[])) (hfa : mg (Str.ofString "law") = some (.ref fa))
    {a_is_integer a_is_between a_are_between a_is_ascending a_is_claim a_are_claims a_check_claims a_check_claim a_meet a_do_meet a_by_rank a_granted_of a_granted a_barred_by a_holds a_are_pins a_is_lot_of a_most_of a_most_stands a_shows_most_stands a_held_by a_rows_of a_fewest_of a_fewest_rows a_are_rows a_are_held a_shows_fewest_rows a_law_pot a_law_take a_law_cells a_law_of a_law_is_int a_law_claims a_law_do_meet a_law_stands a_law_rows_of a_law_fullest a_law_holds a_law_is_free a_law_pairs a_law_right a_law : Addr} {fd_is_integer fd_is_between fd_are_between fd_is_ascending fd_is_claim fd_are_claims fd_check_claims fd_check_claim fd_meet fd_do_meet fd_by_rank fd_granted_of fd_granted fd_barred_by fd_holds fd_are_pins fd_is_lot_of fd_most_of fd_most_stands fd_shows_most_stands fd_held_by fd_rows_of fd_fewest_of fd_fewest_rows fd_are_rows fd_are_held fd_shows_fewest_rows fd_law_pot fd_law_take fd_law_cells fd_law_of fd_law_is_int fd_law_claims fd_law_do_meet fd_law_stands fd_law_rows_of fd_law_fullest fd_law_holds fd_law_is_free fd_law_pairs fd_law_right fd_law : FuncData}
    (o_is_integer : OneF K "is_integer" (topS 5) a_is_integer fd_is_integer)
    (o_is_between : OneF K "is_between" (topS 6) a_is_between fd_is_between)
    (o_are_between : OneF K "are_between" (topS 7) a_are_between fd_are_between)
    (o_is_ascending : OneF K "is_ascending" (topS 8) a_is_ascending fd_is_ascending)
    (o_is_claim : OneF K "is_claim" (topS 15) a_is_claim fd_is_claim)
    (o_are_claims : OneF K "are_claims" (topS 16) a_are_claims fd_are_claims)
    (o_check_claims : OneF K "check_claims" (topS 17) a_check_claims fd_check_claims)
    (o_check_claim : OneF K "check_claim" (topS 18) a_check_claim fd_check_claim)
    (o_meet : OneF K "meet" (topS 19) a_meet fd_meet)
    (o_do_meet : OneF K "do_meet" (topS 20) a_do_meet fd_do_meet)
    (o_by_rank : OneF K "by_rank" (topS 21) a_by_rank fd_by_rank)
    (o_granted_of : OneF K "granted_of" (topS 22) a_granted_of fd_granted_of)
    (o_granted : OneF K "granted" (topS 23) a_granted fd_granted)
    (o_barred_by : OneF K "barred_by" (topS 24) a_barred_by fd_barred_by)
    (o_holds : OneF K "holds" (topS 27) a_holds fd_holds)
    (o_are_pins : OneF K "are_pins" (topS 28) a_are_pins fd_are_pins)
    (o_is_lot_of : OneF K "is_lot_of" (topS 29) a_is_lot_of fd_is_lot_of)
    (o_most_of : OneF K "most_of" (topS 30) a_most_of fd_most_of)
    (o_most_stands : OneF K "most_stands" (topS 31) a_most_stands fd_most_stands)
    (o_shows_most_stands : OneF K "shows_most_stands" (topS 32) a_shows_most_stands fd_shows_most_stands)
    (o_held_by : OneF K "held_by" (topS 33) a_held_by fd_held_by)
    (o_rows_of : OneF K "rows_of" (topS 34) a_rows_of fd_rows_of)
    (o_fewest_of : OneF K "fewest_of" (topS 35) a_fewest_of fd_fewest_of)
    (o_fewest_rows : OneF K "fewest_rows" (topS 36) a_fewest_rows fd_fewest_rows)
    (o_are_rows : OneF K "are_rows" (topS 37) a_are_rows fd_are_rows)
    (o_are_held : OneF K "are_held" (topS 38) a_are_held fd_are_held)
    (o_shows_fewest_rows : OneF K "shows_fewest_rows" (topS 39) a_shows_fewest_rows fd_shows_fewest_rows)
    (o_law_pot : OneF K "_law_pot" (topS 41) a_law_pot fd_law_pot)
    (o_law_take : OneF K "_law_take" (topS 42) a_law_take fd_law_take)
    (o_law_cells : OneF K "_law_cells" (topS 43) a_law_cells fd_law_cells)
    (o_law_of : OneF K "_law_of" (topS 44) a_law_of fd_law_of)
    (o_law_is_int : OneF K "_law_is_int" (topS 45) a_law_is_int fd_law_is_int)
    (o_law_claims : OneF K "_law_claims" (topS 46) a_law_claims fd_law_claims)
    (o_law_do_meet : OneF K "_law_do_meet" (topS 47) a_law_do_meet fd_law_do_meet)
    (o_law_stands : OneF K "_law_stands" (topS 48) a_law_stands fd_law_stands)
    (o_law_rows_of : OneF K "_law_rows_of" (topS 49) a_law_rows_of fd_law_rows_of)
    (o_law_fullest : OneF K "_law_fullest" (topS 50) a_law_fullest fd_law_fullest)
    (o_law_holds : OneF K "_law_holds" (topS 51) a_law_holds fd_law_holds)
    (o_law_is_free : OneF K "_law_is_free" (topS 52) a_law_is_free fd_law_is_free)
    (o_law_pairs : OneF K "_law_pairs" (topS 53) a_law_pairs fd_law_pairs)
    (o_law_right : OneF K "_law_right" (topS 54) a_law_right fd_law_right)
    (o_law : OneF K "law" (topS 55) a_law fd_law)
    (c_MOST_CORNERS : (He.Fa.int (Str.ofString "MOST_CORNERS") 7).ok K = true)
    (c_MOST_TICKS : (He.Fa.int (Str.ofString "MOST_TICKS") 12).ok K = true)
    (c_MOST_CLAIMS : (He.Fa.int (Str.ofString "MOST_CLAIMS") 8).ok K = true)
    (c_MOST_RANK : (He.Fa.int (Str.ofString "MOST_RANK") 9).ok K = true)
    (c_FOUR : (He.Fa.int (Str.ofString "FOUR") 4).ok K = true)
    (c_THREE : (He.Fa.int (Str.ofString "THREE") 3).ok K = true)
    (z_abs : PySem.W.nsIn K mainGlobals (Str.ofString "abs") = some none)
    (z_all : PySem.W.nsIn K mainGlobals (Str.ofString "all") = some none)
    (z_any : PySem.W.nsIn K mainGlobals (Str.ofString "any") = some none)
    (z_bool : PySem.W.nsIn K mainGlobals (Str.ofString "bool") = some none)
    (z_enumerate : PySem.W.nsIn K mainGlobals (Str.ofString "enumerate") = some none)
    (z_int : PySem.W.nsIn K mainGlobals (Str.ofString "int") = some none)
    (z_isinstance : PySem.W.nsIn K mainGlobals (Str.ofString "isinstance") = some none)
    (z_len : PySem.W.nsIn K mainGlobals (Str.ofString "len") = some none)
    (z_list : PySem.W.nsIn K mainGlobals (Str.ofString "list") = some none)
    (z_max : PySem.W.nsIn K mainGlobals (Str.ofString "max") = some none)
    (z_min : PySem.W.nsIn K mainGlobals (Str.ofString "min") = some none)
    (z_range : PySem.W.nsIn K mainGlobals (Str.ofString "range") = some none)
    (z_repr : PySem.W.nsIn K mainGlobals (Str.ofString "repr") = some none)
    (z_set : PySem.W.nsIn K mainGlobals (Str.ofString "set") = some none)
    (z_sorted : PySem.W.nsIn K mainGlobals (Str.ofString "sorted") = some none)
    (z_sum : PySem.W.nsIn K mainGlobals (Str.ofString "sum") = some none)
    (z_tuple : PySem.W.nsIn K mainGlobals (Str.ofString "tuple") = some none)
    (z_zip : PySem.W.nsIn K mainGlobals (Str.ofString "zip") = some none)
    (tt : tabs2 K ts "_law_stands" "_law_rows_of" = true)  :
    ∃ (fd : FuncData) (cs : List (Addr × Addr × Str)), (∀ p ∈ cs, h.get? p.2.1 = some { cls := .none, data := .fields #[] }) ∧ (∀ p ∈ cs, K.lookup p.2.1 = none) ∧ (∀ p ∈ cs, PySem.W.CodeHd h p.1 p.2.1) ∧ (∀ (s : Shared) (u : Value), BindsTo s fd ⟨[u], []⟩ [(Str.ofString "script", u)]) ∧
      ∀ base : Heap, K.In base → base.Ns mainGlobals mg → (∀ p ∈ cs, LamX.TabB base mg p.1 p.2.1) → FnG l.prog w K mg base 9 fa fd [Str.ofString "script"] (@spP ⟨cs.map (·.2)⟩ 1 f_law) := by
  have e := hfa.symm.trans (PySem.W.mg_of X G o_law.a)
  cases e
  obtain ⟨cc_law_stands, pp_law_stands, cc_law_rows_of, pp_law_rows_of, t_law_stands, t_law_rows_of, g_law_stands, g_law_rows_of, hne⟩ := tabs2_ok tt
  obtain ⟨h_law_stands, n_law_stands, m_law_stands⟩ := tabB_ok g_law_stands
  obtain ⟨h_law_rows_of, n_law_rows_of, m_law_rows_of⟩ := tabB_ok g_law_rows_of
  let T : Tx K mg := {
      a_is_integer := a_is_integer
      fd_is_integer := fd_is_integer
      F_is_integer := o_is_integer.F
      g_is_integer := PySem.W.mg_of X G o_is_integer.a
      b_is_integer := o_is_integer.F.binds (ps := ["value"]) fun _ _ _ _ _ _ us hl => match us, hl with | [_], _ => rfl
      a_is_between := a_is_between
      fd_is_between := fd_is_between
      F_is_between := o_is_between.F
      g_is_between := PySem.W.mg_of X G o_is_between.a
      b_is_between := o_is_between.F.binds (ps := ["value", "low", "high"]) fun _ _ _ _ _ _ us hl => match us, hl with | [_, _, _], _ => rfl
      a_are_between := a_are_between
      fd_are_between := fd_are_between
      F_are_between := o_are_between.F
      g_are_between := PySem.W.mg_of X G o_are_between.a
      b_are_between := o_are_between.F.binds (ps := ["value", "low", "high"]) fun _ _ _ _ _ _ us hl => match us, hl with | [_, _, _], _ => rfl
      a_is_ascending := a_is_ascending
      fd_is_ascending := fd_is_ascending
      F_is_ascending := o_is_ascending.F
      g_is_ascending := PySem.W.mg_of X G o_is_ascending.a
      b_is_ascending := o_is_ascending.F.binds (ps := ["items"]) fun _ _ _ _ _ _ us hl => match us, hl with | [_], _ => rfl
      a_is_claim := a_is_claim
      fd_is_claim := fd_is_claim
      F_is_claim := o_is_claim.F
      g_is_claim := PySem.W.mg_of X G o_is_claim.a
      b_is_claim := o_is_claim.F.binds (ps := ["value"]) fun _ _ _ _ _ _ us hl => match us, hl with | [_], _ => rfl
      a_are_claims := a_are_claims
      fd_are_claims := fd_are_claims
      F_are_claims := o_are_claims.F
      g_are_claims := PySem.W.mg_of X G o_are_claims.a
      b_are_claims := o_are_claims.F.binds (ps := ["value"]) fun _ _ _ _ _ _ us hl => match us, hl with | [_], _ => rfl
      a_check_claims := a_check_claims
      fd_check_claims := fd_check_claims
      F_check_claims := o_check_claims.F
      g_check_claims := PySem.W.mg_of X G o_check_claims.a
      b_check_claims := o_check_claims.F.binds (ps := ["value"]) fun _ _ _ _ _ _ us hl => match us, hl with | [_], _ => rfl
      a_check_claim := a_check_claim
      fd_check_claim := fd_check_claim
      F_check_claim := o_check_claim.F
      g_check_claim := PySem.W.mg_of X G o_check_claim.a
      b_check_claim := o_check_claim.F.binds (ps := ["claims", "claim"]) fun _ _ _ _ _ _ us hl => match us, hl with | [_, _], _ => rfl
      a_meet := a_meet
      fd_meet := fd_meet
      F_meet := o_meet.F
      g_meet := PySem.W.mg_of X G o_meet.a
      b_meet := o_meet.F.binds (ps := ["one", "other"]) fun _ _ _ _ _ _ us hl => match us, hl with | [_, _], _ => rfl
      a_do_meet := a_do_meet
      fd_do_meet := fd_do_meet
      F_do_meet := o_do_meet.F
      g_do_meet := PySem.W.mg_of X G o_do_meet.a
      b_do_meet := o_do_meet.F.binds (ps := ["claims", "one", "other"]) fun _ _ _ _ _ _ us hl => match us, hl with | [_, _, _], _ => rfl
      a_by_rank := a_by_rank
      fd_by_rank := fd_by_rank
      F_by_rank := o_by_rank.F
      g_by_rank := PySem.W.mg_of X G o_by_rank.a
      b_by_rank := o_by_rank.F.binds (ps := ["claims"]) fun _ _ _ _ _ _ us hl => match us, hl with | [_], _ => rfl
      a_granted_of := a_granted_of
      fd_granted_of := fd_granted_of
      F_granted_of := o_granted_of.F
      g_granted_of := PySem.W.mg_of X G o_granted_of.a
      b_granted_of := o_granted_of.F.binds (ps := ["claims"]) fun _ _ _ _ _ _ us hl => match us, hl with | [_], _ => rfl
      a_granted := a_granted
      fd_granted := fd_granted
      F_granted := o_granted.F
      g_granted := PySem.W.mg_of X G o_granted.a
      b_granted := o_granted.F.binds (ps := ["claims"]) fun _ _ _ _ _ _ us hl => match us, hl with | [_], _ => rfl
      a_barred_by := a_barred_by
      fd_barred_by := fd_barred_by
      F_barred_by := o_barred_by.F
      g_barred_by := PySem.W.mg_of X G o_barred_by.a
      b_barred_by := o_barred_by.F.binds (ps := ["claims", "claim"]) fun _ _ _ _ _ _ us hl => match us, hl with | [_, _], _ => rfl
      a_holds := a_holds
      fd_holds := fd_holds
      F_holds := o_holds.F
      g_holds := PySem.W.mg_of X G o_holds.a
      b_holds := o_holds.F.binds (ps := ["pin", "claim"]) fun _ _ _ _ _ _ us hl => match us, hl with | [_, _], _ => rfl
      a_are_pins := a_are_pins
      fd_are_pins := fd_are_pins
      F_are_pins := o_are_pins.F
      g_are_pins := PySem.W.mg_of X G o_are_pins.a
      b_are_pins := o_are_pins.F.binds (ps := ["value"]) fun _ _ _ _ _ _ us hl => match us, hl with | [_], _ => rfl
      a_is_lot_of := a_is_lot_of
      fd_is_lot_of := fd_is_lot_of
      F_is_lot_of := o_is_lot_of.F
      g_is_lot_of := PySem.W.mg_of X G o_is_lot_of.a
      b_is_lot_of := o_is_lot_of.F.binds (ps := ["claims", "value"]) fun _ _ _ _ _ _ us hl => match us, hl with | [_, _], _ => rfl
      a_most_of := a_most_of
      fd_most_of := fd_most_of
      F_most_of := o_most_of.F
      g_most_of := PySem.W.mg_of X G o_most_of.a
      b_most_of := o_most_of.F.binds (ps := ["claims"]) fun _ _ _ _ _ _ us hl => match us, hl with | [_], _ => rfl
      a_most_stands := a_most_stands
      fd_most_stands := fd_most_stands
      F_most_stands := o_most_stands.F
      g_most_stands := PySem.W.mg_of X G o_most_stands.a
      b_most_stands := o_most_stands.F.binds (ps := ["claims"]) fun _ _ _ _ _ _ us hl => match us, hl with | [_], _ => rfl
      a_shows_most_stands := a_shows_most_stands
      fd_shows_most_stands := fd_shows_most_stands
      F_shows_most_stands := o_shows_most_stands.F
      g_shows_most_stands := PySem.W.mg_of X G o_shows_most_stands.a
      b_shows_most_stands := o_shows_most_stands.F.binds (ps := ["claims", "value"]) fun _ _ _ _ _ _ us hl => match us, hl with | [_, _], _ => rfl
      a_held_by := a_held_by
      fd_held_by := fd_held_by
      F_held_by := o_held_by.F
      g_held_by := PySem.W.mg_of X G o_held_by.a
      b_held_by := o_held_by.F.binds (ps := ["claims", "pin"]) fun _ _ _ _ _ _ us hl => match us, hl with | [_, _], _ => rfl
      a_rows_of := a_rows_of
      fd_rows_of := fd_rows_of
      F_rows_of := o_rows_of.F
      g_rows_of := PySem.W.mg_of X G o_rows_of.a
      b_rows_of := o_rows_of.F.binds (ps := ["claims"]) fun _ _ _ _ _ _ us hl => match us, hl with | [_], _ => rfl
      a_fewest_of := a_fewest_of
      fd_fewest_of := fd_fewest_of
      F_fewest_of := o_fewest_of.F
      g_fewest_of := PySem.W.mg_of X G o_fewest_of.a
      b_fewest_of := o_fewest_of.F.binds (ps := ["claims"]) fun _ _ _ _ _ _ us hl => match us, hl with | [_], _ => rfl
      a_fewest_rows := a_fewest_rows
      fd_fewest_rows := fd_fewest_rows
      F_fewest_rows := o_fewest_rows.F
      g_fewest_rows := PySem.W.mg_of X G o_fewest_rows.a
      b_fewest_rows := o_fewest_rows.F.binds (ps := ["claims"]) fun _ _ _ _ _ _ us hl => match us, hl with | [_], _ => rfl
      a_are_rows := a_are_rows
      fd_are_rows := fd_are_rows
      F_are_rows := o_are_rows.F
      g_are_rows := PySem.W.mg_of X G o_are_rows.a
      b_are_rows := o_are_rows.F.binds (ps := ["claims", "number", "value"]) fun _ _ _ _ _ _ us hl => match us, hl with | [_, _, _], _ => rfl
      a_are_held := a_are_held
      fd_are_held := fd_are_held
      F_are_held := o_are_held.F
      g_are_held := PySem.W.mg_of X G o_are_held.a
      b_are_held := o_are_held.F.binds (ps := ["claims", "lot"]) fun _ _ _ _ _ _ us hl => match us, hl with | [_, _], _ => rfl
      a_shows_fewest_rows := a_shows_fewest_rows
      fd_shows_fewest_rows := fd_shows_fewest_rows
      F_shows_fewest_rows := o_shows_fewest_rows.F
      g_shows_fewest_rows := PySem.W.mg_of X G o_shows_fewest_rows.a
      b_shows_fewest_rows := o_shows_fewest_rows.F.binds (ps := ["claims", "value"]) fun _ _ _ _ _ _ us hl => match us, hl with | [_, _], _ => rfl
      a_law_pot := a_law_pot
      fd_law_pot := fd_law_pot
      F_law_pot := o_law_pot.F
      g_law_pot := PySem.W.mg_of X G o_law_pot.a
      b_law_pot := o_law_pot.F.binds (ps := ["script", "place"]) fun _ _ _ _ _ _ us hl => match us, hl with | [_, _], _ => rfl
      a_law_take := a_law_take
      fd_law_take := fd_law_take
      F_law_take := o_law_take.F
      g_law_take := PySem.W.mg_of X G o_law_take.a
      b_law_take := o_law_take.F.binds (ps := ["pot", "upto"]) fun _ _ _ _ _ _ us hl => match us, hl with | [_, _], _ => rfl
      a_law_cells := a_law_cells
      fd_law_cells := fd_law_cells
      F_law_cells := o_law_cells.F
      g_law_cells := PySem.W.mg_of X G o_law_cells.a
      b_law_cells := o_law_cells.F.binds (ps := ["script", "most"]) fun _ _ _ _ _ _ us hl => match us, hl with | [_, _], _ => rfl
      a_law_of := a_law_of
      fd_law_of := fd_law_of
      F_law_of := o_law_of.F
      g_law_of := PySem.W.mg_of X G o_law_of.a
      b_law_of := o_law_of.F.binds (ps := ["pot", "some"]) fun _ _ _ _ _ _ us hl => match us, hl with | [_, _], _ => rfl
      a_law_is_int := a_law_is_int
      fd_law_is_int := fd_law_is_int
      F_law_is_int := o_law_is_int.F
      g_law_is_int := PySem.W.mg_of X G o_law_is_int.a
      b_law_is_int := o_law_is_int.F.binds (ps := ["value", "low", "high"]) fun _ _ _ _ _ _ us hl => match us, hl with | [_, _, _], _ => rfl
      a_law_claims := a_law_claims
      fd_law_claims := fd_law_claims
      F_law_claims := o_law_claims.F
      g_law_claims := PySem.W.mg_of X G o_law_claims.a
      b_law_claims := o_law_claims.F.binds (ps := ["pot", "many", "corners"]) fun _ _ _ _ _ _ us hl => match us, hl with | [_, _, _], _ => rfl
      a_law_do_meet := a_law_do_meet
      fd_law_do_meet := fd_law_do_meet
      F_law_do_meet := o_law_do_meet.F
      g_law_do_meet := PySem.W.mg_of X G o_law_do_meet.a
      b_law_do_meet := o_law_do_meet.F.binds (ps := ["one", "other"]) fun _ _ _ _ _ _ us hl => match us, hl with | [_, _], _ => rfl
      a_law_stands := a_law_stands
      fd_law_stands := fd_law_stands
      F_law_stands := o_law_stands.F
      g_law_stands := PySem.W.mg_of X G o_law_stands.a
      b_law_stands := o_law_stands.F.binds (ps := ["claims"]) fun _ _ _ _ _ _ us hl => match us, hl with | [_], _ => rfl
      a_law_rows_of := a_law_rows_of
      fd_law_rows_of := fd_law_rows_of
      F_law_rows_of := o_law_rows_of.F
      g_law_rows_of := PySem.W.mg_of X G o_law_rows_of.a
      b_law_rows_of := o_law_rows_of.F.binds (ps := ["claims"]) fun _ _ _ _ _ _ us hl => match us, hl with | [_], _ => rfl
      a_law_fullest := a_law_fullest
      fd_law_fullest := fd_law_fullest
      F_law_fullest := o_law_fullest.F
      g_law_fullest := PySem.W.mg_of X G o_law_fullest.a
      b_law_fullest := o_law_fullest.F.binds (ps := ["claims"]) fun _ _ _ _ _ _ us hl => match us, hl with | [_], _ => rfl
      a_law_holds := a_law_holds
      fd_law_holds := fd_law_holds
      F_law_holds := o_law_holds.F
      g_law_holds := PySem.W.mg_of X G o_law_holds.a
      b_law_holds := o_law_holds.F.binds (ps := ["claims", "pins"]) fun _ _ _ _ _ _ us hl => match us, hl with | [_, _], _ => rfl
      a_law_is_free := a_law_is_free
      fd_law_is_free := fd_law_is_free
      F_law_is_free := o_law_is_free.F
      g_law_is_free := PySem.W.mg_of X G o_law_is_free.a
      b_law_is_free := o_law_is_free.F.binds (ps := ["claims", "lot"]) fun _ _ _ _ _ _ us hl => match us, hl with | [_, _], _ => rfl
      a_law_pairs := a_law_pairs
      fd_law_pairs := fd_law_pairs
      F_law_pairs := o_law_pairs.F
      g_law_pairs := PySem.W.mg_of X G o_law_pairs.a
      b_law_pairs := o_law_pairs.F.binds (ps := ["lot"]) fun _ _ _ _ _ _ us hl => match us, hl with | [_], _ => rfl
      a_law_right := a_law_right
      fd_law_right := fd_law_right
      F_law_right := o_law_right.F
      g_law_right := PySem.W.mg_of X G o_law_right.a
      b_law_right := o_law_right.F.binds (ps := ["pot"]) fun _ _ _ _ _ _ us hl => match us, hl with | [_], _ => rfl
      a_law := fa
      fd_law := fd_law
      F_law := o_law.F
      g_law := PySem.W.mg_of X G o_law.a
      b_law := o_law.F.binds (ps := ["script"]) fun _ _ _ _ _ _ us hl => match us, hl with | [_], _ => rfl
      cc_law_stands := cc_law_stands
      pp_law_stands := pp_law_stands
      k_law_stands := lawOf X G o_law_stands t_law_stands
      cc_law_rows_of := cc_law_rows_of
      pp_law_rows_of := pp_law_rows_of
      k_law_rows_of := lawOf X G o_law_rows_of t_law_rows_of
      c_MOST_CORNERS := He.int_ok X G c_MOST_CORNERS
      c_MOST_TICKS := He.int_ok X G c_MOST_TICKS
      c_MOST_CLAIMS := He.int_ok X G c_MOST_CLAIMS
      c_MOST_RANK := He.int_ok X G c_MOST_RANK
      c_FOUR := He.int_ok X G c_FOUR
      c_THREE := He.int_ok X G c_THREE
      n_abs := PySem.W.mg_none_of X G z_abs
      n_all := PySem.W.mg_none_of X G z_all
      n_any := PySem.W.mg_none_of X G z_any
      n_bool := PySem.W.mg_none_of X G z_bool
      n_enumerate := PySem.W.mg_none_of X G z_enumerate
      n_int := PySem.W.mg_none_of X G z_int
      n_isinstance := PySem.W.mg_none_of X G z_isinstance
      n_len := PySem.W.mg_none_of X G z_len
      n_list := PySem.W.mg_none_of X G z_list
      n_max := PySem.W.mg_none_of X G z_max
      n_min := PySem.W.mg_none_of X G z_min
      n_range := PySem.W.mg_none_of X G z_range
      n_repr := PySem.W.mg_none_of X G z_repr
      n_set := PySem.W.mg_none_of X G z_set
      n_sorted := PySem.W.mg_none_of X G z_sorted
      n_sum := PySem.W.mg_none_of X G z_sum
      n_tuple := PySem.W.mg_none_of X G z_tuple
      n_zip := PySem.W.mg_none_of X G z_zip }
  refine ⟨fd_law, [(cc_law_stands, pp_law_stands, q_law_stands), (cc_law_rows_of, pp_law_rows_of, q_law_rows_of)], ?_, ?_, ?_, ?_, ?_⟩
  · exact List.forall_mem_cons.mpr ⟨TS _ m_law_stands, List.forall_mem_cons.mpr ⟨TS _ m_law_rows_of, fun _ h => nomatch h⟩⟩
  · exact List.forall_mem_cons.mpr ⟨n_law_stands, List.forall_mem_cons.mpr ⟨n_law_rows_of, fun _ h => nomatch h⟩⟩
  · exact List.forall_mem_cons.mpr ⟨PySem.W.codeHd_of_K X h_law_stands, List.forall_mem_cons.mpr ⟨PySem.W.codeHd_of_K X h_law_rows_of, fun _ h => nomatch h⟩⟩
  · obtain ⟨oc, od, kV, doc, pm, an, cdv, ct, osl, e, _⟩ := o_law.F.ex
    rw [e]
    exact fun s v => .of_eq rfl
  · intro base _ _ tb
    obtain ⟨tb1, tb2⟩ := List.forall_mem_cons.mp tb
    obtain ⟨tb2, _⟩ := List.forall_mem_cons.mp tb2
    letI : Tbs := ⟨[(pp_law_stands, q_law_stands), (pp_law_rows_of, q_law_rows_of)]⟩
    have L : Lm T base := {
      t_law_stands := tb1
      p_law_stands := List.mem_cons_self
      u_law_stands := fun p hp e => by
        rcases List.mem_cons.mp hp with rfl | hp
        · rfl
        · rw [List.mem_singleton.mp hp] at e
          exact absurd e.symm hne
      t_law_rows_of := tb2
      p_law_rows_of := List.mem_cons_of_mem _ List.mem_cons_self
      u_law_rows_of := fun p hp e => by
        rcases List.mem_cons.mp hp with rfl | hp
        · exact absurd e hne
        · rw [List.mem_singleton.mp hp] }
    exact ok_law T L
end K15
end
open PySem PySem.W PyProof.Rows
set_option maxRecDepth 100000 in
set_option maxHeartbeats 0 in
theorem PySem.Challenge.cw_nevermelted_k15_whole_claims_corner_by_c_holds : PySem.Challenge.rw_nevermelted_k15_whole_claims_corner_by_c.Holds := by
  w_on; o_law; k_head; (case hw => w_witness2)
  k_fill
  refine DL.walk_ofG (l := PySem.Challenge.rw_nevermelted_k15_whole_claims_corner_by_c) (n := 63) (k := 9) (x := PySem.Str.ofString "script") (m := K15.f_law) rfl (by decide) rfl ⟨rfl, by decide, by decide⟩ (fun w h Y => PySem.W.km_in_of Y) (fun w => K15.noListB_ok (by kernel_rfl)) ?F (fun ns h _ => K15.lawE ns (by omega))
  case F =>
    intro w mg fa h Y KX G hmg
    have TS := PySem.W.km_tabs_of Y
    refine' K15.all_mk KX G TS hmg ?o_is_integer ?o_is_between ?o_are_between ?o_is_ascending ?o_is_claim ?o_are_claims ?o_check_claims ?o_check_claim ?o_meet ?o_do_meet ?o_by_rank ?o_granted_of ?o_granted ?o_barred_by ?o_holds ?o_are_pins ?o_is_lot_of ?o_most_of ?o_most_stands ?o_shows_most_stands ?o_held_by ?o_rows_of ?o_fewest_of ?o_fewest_rows ?o_are_rows ?o_are_held ?o_shows_fewest_rows ?o_law_pot ?o_law_take ?o_law_cells ?o_law_of ?o_law_is_int ?o_law_claims ?o_law_do_meet ?o_law_stands ?o_law_rows_of ?o_law_fullest ?o_law_holds ?o_law_is_free ?o_law_pairs ?o_law_right ?o_law ?c_MOST_CORNERS ?c_MOST_TICKS ?c_MOST_CLAIMS ?c_MOST_RANK ?c_FOUR ?c_THREE ?z_abs ?z_all ?z_any ?z_bool ?z_enumerate ?z_int ?z_isinstance ?z_len ?z_list ?z_max ?z_min ?z_range ?z_repr ?z_set ?z_sorted ?z_sum ?z_tuple ?z_zip ?tt
    (case o_is_integer => refine' K15.OneF.of ?a ?l ?c ?k; (case a => k_is); (case l => k_is); (case c => k_is); (case k => k_is))
    (case o_is_between => refine' K15.OneF.of ?a ?l ?c ?k; (case a => k_is); (case l => k_is); (case c => k_is); (case k => k_is))
    (case o_are_between => refine' K15.OneF.of ?a ?l ?c ?k; (case a => k_is); (case l => k_is); (case c => k_is); (case k => k_is))
    (case o_is_ascending => refine' K15.OneF.of ?a ?l ?c ?k; (case a => k_is); (case l => k_is); (case c => k_is); (case k => k_is))
    (case o_is_claim => refine' K15.OneF.of ?a ?l ?c ?k; (case a => k_is); (case l => k_is); (case c => k_is); (case k => k_is))
    (case o_are_claims => refine' K15.OneF.of ?a ?l ?c ?k; (case a => k_is); (case l => k_is); (case c => k_is); (case k => k_is))
    (case o_check_claims => refine' K15.OneF.of ?a ?l ?c ?k; (case a => k_is); (case l => k_is); (case c => k_is); (case k => k_is))
    (case o_check_claim => refine' K15.OneF.of ?a ?l ?c ?k; (case a => k_is); (case l => k_is); (case c => k_is); (case k => k_is))
    (case o_meet => refine' K15.OneF.of ?a ?l ?c ?k; (case a => k_is); (case l => k_is); (case c => k_is); (case k => k_is))
    (case o_do_meet => refine' K15.OneF.of ?a ?l ?c ?k; (case a => k_is); (case l => k_is); (case c => k_is); (case k => k_is))
    (case o_by_rank => refine' K15.OneF.of ?a ?l ?c ?k; (case a => k_is); (case l => k_is); (case c => k_is); (case k => k_is))
    (case o_granted_of => refine' K15.OneF.of ?a ?l ?c ?k; (case a => k_is); (case l => k_is); (case c => k_is); (case k => k_is))
    (case o_granted => refine' K15.OneF.of ?a ?l ?c ?k; (case a => k_is); (case l => k_is); (case c => k_is); (case k => k_is))
    (case o_barred_by => refine' K15.OneF.of ?a ?l ?c ?k; (case a => k_is); (case l => k_is); (case c => k_is); (case k => k_is))
    (case o_holds => refine' K15.OneF.of ?a ?l ?c ?k; (case a => k_is); (case l => k_is); (case c => k_is); (case k => k_is))
    (case o_are_pins => refine' K15.OneF.of ?a ?l ?c ?k; (case a => k_is); (case l => k_is); (case c => k_is); (case k => k_is))
    (case o_is_lot_of => refine' K15.OneF.of ?a ?l ?c ?k; (case a => k_is); (case l => k_is); (case c => k_is); (case k => k_is))
    (case o_most_of => refine' K15.OneF.of ?a ?l ?c ?k; (case a => k_is); (case l => k_is); (case c => k_is); (case k => k_is))
    (case o_most_stands => refine' K15.OneF.of ?a ?l ?c ?k; (case a => k_is); (case l => k_is); (case c => k_is); (case k => k_is))
    (case o_shows_most_stands => refine' K15.OneF.of ?a ?l ?c ?k; (case a => k_is); (case l => k_is); (case c => k_is); (case k => k_is))
    (case o_held_by => refine' K15.OneF.of ?a ?l ?c ?k; (case a => k_is); (case l => k_is); (case c => k_is); (case k => k_is))
    (case o_rows_of => refine' K15.OneF.of ?a ?l ?c ?k; (case a => k_is); (case l => k_is); (case c => k_is); (case k => k_is))
    (case o_fewest_of => refine' K15.OneF.of ?a ?l ?c ?k; (case a => k_is); (case l => k_is); (case c => k_is); (case k => k_is))
    (case o_fewest_rows => refine' K15.OneF.of ?a ?l ?c ?k; (case a => k_is); (case l => k_is); (case c => k_is); (case k => k_is))
    (case o_are_rows => refine' K15.OneF.of ?a ?l ?c ?k; (case a => k_is); (case l => k_is); (case c => k_is); (case k => k_is))
    (case o_are_held => refine' K15.OneF.of ?a ?l ?c ?k; (case a => k_is); (case l => k_is); (case c => k_is); (case k => k_is))
    (case o_shows_fewest_rows => refine' K15.OneF.of ?a ?l ?c ?k; (case a => k_is); (case l => k_is); (case c => k_is); (case k => k_is))
    (case o_law_pot => refine' K15.OneF.of ?a ?l ?c ?k; (case a => k_is); (case l => k_is); (case c => k_is); (case k => k_is))
    (case o_law_take => refine' K15.OneF.of ?a ?l ?c ?k; (case a => k_is); (case l => k_is); (case c => k_is); (case k => k_is))
    (case o_law_cells => refine' K15.OneF.of ?a ?l ?c ?k; (case a => k_is); (case l => k_is); (case c => k_is); (case k => k_is))
    (case o_law_of => refine' K15.OneF.of ?a ?l ?c ?k; (case a => k_is); (case l => k_is); (case c => k_is); (case k => k_is))
    (case o_law_is_int => refine' K15.OneF.of ?a ?l ?c ?k; (case a => k_is); (case l => k_is); (case c => k_is); (case k => k_is))
    (case o_law_claims => refine' K15.OneF.of ?a ?l ?c ?k; (case a => k_is); (case l => k_is); (case c => k_is); (case k => k_is))
    (case o_law_do_meet => refine' K15.OneF.of ?a ?l ?c ?k; (case a => k_is); (case l => k_is); (case c => k_is); (case k => k_is))
    (case o_law_stands => refine' K15.OneF.of ?a ?l ?c ?k; (case a => k_is); (case l => k_is); (case c => k_is); (case k => k_is))
    (case o_law_rows_of => refine' K15.OneF.of ?a ?l ?c ?k; (case a => k_is); (case l => k_is); (case c => k_is); (case k => k_is))
    (case o_law_fullest => refine' K15.OneF.of ?a ?l ?c ?k; (case a => k_is); (case l => k_is); (case c => k_is); (case k => k_is))
    (case o_law_holds => refine' K15.OneF.of ?a ?l ?c ?k; (case a => k_is); (case l => k_is); (case c => k_is); (case k => k_is))
    (case o_law_is_free => refine' K15.OneF.of ?a ?l ?c ?k; (case a => k_is); (case l => k_is); (case c => k_is); (case k => k_is))
    (case o_law_pairs => refine' K15.OneF.of ?a ?l ?c ?k; (case a => k_is); (case l => k_is); (case c => k_is); (case k => k_is))
    (case o_law_right => refine' K15.OneF.of ?a ?l ?c ?k; (case a => k_is); (case l => k_is); (case c => k_is); (case k => k_is))
    (case o_law => refine' K15.OneF.of ?a ?l ?c ?k; (case a => k_is); (case l => k_is); (case c => k_is); (case k => k_is))
    (case c_MOST_CORNERS => kernel_rfl)
    (case c_MOST_TICKS => kernel_rfl)
    (case c_MOST_CLAIMS => kernel_rfl)
    (case c_MOST_RANK => kernel_rfl)
    (case c_FOUR => kernel_rfl)
    (case c_THREE => kernel_rfl)
    (case z_abs => k_is)
    (case z_all => k_is)
    (case z_any => k_is)
    (case z_bool => k_is)
    (case z_enumerate => k_is)
    (case z_int => k_is)
    (case z_isinstance => k_is)
    (case z_len => k_is)
    (case z_list => k_is)
    (case z_max => k_is)
    (case z_min => k_is)
    (case z_range => k_is)
    (case z_repr => k_is)
    (case z_set => k_is)
    (case z_sorted => k_is)
    (case z_sum => k_is)
    (case z_tuple => k_is)
    (case z_zip => k_is)
    (case tt => kernel_rfl)
