import PyProof.Rows.All
import Wide.All
import OpenK.AllK
import Wide.FinOn
import HandS.ForMost
import HandS.Evl
import HandS.Flow
import HandS.IsInst
import HandS.TupAny
import HandS.Wide
import HandS.Lambda
import HandS.NoneIn
import HandS.Walk
import HandS.Defaults
import HandS.TupMul
import HandS.Star
import HandS.Iter
import PyProof.RulesMatch
import KE.GoesNew
import KE.GoesMore
import HandS.Style
import HandS.SetFor
import HandS.SortInts
import HandS.Strs
import PySem.Challenge.RW_tablemerge_k40_whole_possible_cells_ther
import KE.KStateDown
import HandS.Head0
import HandS.Head1
import HandS.Head2
import HandS.HeadEnd
import HandS.HeadHook1
import HandS.HeadHook2
import HandS.HeadHook4
import HandS.HeadWalk
set_option Elab.async false
set_option linter.all false
set_option maxRecDepth 100000
set_option maxHeartbeats 4000000
/-! DLa: data as trees over the hand layer; a store of mutable cells; readings over both. -/
namespace DL
open PySem PySem.Spec PyProof.Rows L2 Evl

/-- data: immutable values and frozen lists as trees, all else by its address -/
inductive D where
  | non | bl (b : Bool) | int (i : Int) | str (s : Str) | ty (n : String)
  | tup (xs : List D) | lst (xs : List D) | dic (kvs : List (Key × D)) | scr (xs : List D) | ref (a : Addr)
  | dno (kvs : List (Option Key × D))
  | clo (f c : Addr) (q : Str) (σ : List (Option V)) (ρ : List (Option D))

inductive Cell where
  | lst (xs : List D) | ins (C : Addr) (fs : List (Str × D)) | dic (kvs : List (Key × D)) | tab (q : Str) | dno (kvs : List (Option Key × D))

abbrev Mem := Addr → Option Cell
def put (M : Mem) (a : Addr) (c : Cell) : Mem := fun b => if b = a then some c else M b
def drp (M : Mem) (a : Addr) : Mem := fun b => if b = a then none else M b
theorem put_same {M : Mem} {a : Addr} {c : Cell} : put M a c a = some c := by unfold put; rw [if_pos rfl]
theorem put_ne {M : Mem} {a b : Addr} {c : Cell} (h : b ≠ a) : put M a c b = M b := by unfold put; rw [if_neg h]
theorem drp_same {M : Mem} {a : Addr} : drp M a a = none := by unfold drp; rw [if_pos rfl]
theorem drp_ne {M : Mem} {a b : Addr} (h : b ≠ a) : drp M a b = M b := by unfold drp; rw [if_neg h]
theorem put_put {M : Mem} {a : Addr} {c c' : Cell} : put (put M a c) a c' = put M a c' := by
  funext b; unfold put; split <;> rfl

/-- the very object that stands at a -/
def ExO (a : Addr) (o : Obj) : HO := .ext fun h => h.get? a = some o
/-- keys without texts -/
def okK : Option Key → Bool
  | some (.inr _) => false
  | _ => true
/-- o, at a, is a dict of keys None and ints -/
def DNf (a : Addr) (o : Obj) (kvs : List (Option Key × V)) : Prop := (a == sysModules) = false ∧ kvs.length ≤ sizeLine ∧ (∀ p ∈ kvs, okK p.1 = true) ∧ ∃ vs : List (Option Key × Value), KV kvs vs ∧ ∀ (P : Program) (w : World) (h : Heap), h.get? a = some o → h.DictOf (noneKind P w) a vs

mutual
inductive Dat (K : PySem.W.Frag) (F : Hp) : V → D → Prop
  | non : Dat K F .non .non
  | bl (b : Bool) : Dat K F (.bl b) (.bl b)
  | int (i : Int) : Dat K F (.int i) (.int i)
  | str (s : Str) : Dat K F (.str s) (.str s)
  | ty (n : String) : Dat K F (.ty n) (.ty n)
  | ref (a : Addr) : Dat K F (.ref a) (.ref a)
  | tup {a : Addr} {vs : List V} {ds : List D} (h : SqT K F a vs) (r : DatAll K F vs ds) : Dat K F (.ref a) (.tup ds)
  | lst {a : Addr} {vs : List V} {ds : List D} (h : F a = some (.lst vs)) (r : DatAll K F vs ds) : Dat K F (.ref a) (.lst ds)
  | dic {a : Addr} {vs : List (Key × V)} {ds : List (Key × D)} (h : F a = some (.dK vs)) (r : KvsOk K F vs ds) : Dat K F (.ref a) (.dic ds)
  | scr {a : Addr} {vs : List V} {ds : List D} (h : SqL K F a vs) (r : DatAll K F vs ds) : Dat K F (.ref a) (.scr ds)
  | clo {f c : Addr} {q : Str} {σ : List (Option V)} {ρ : List (Option D)} (h : F c = some (LamX.CodeO c q)) (r : EnvOk K F σ ρ) : Dat K F (.ref f) (.clo f c q σ ρ)
  | dno {a : Addr} {o : Obj} {vs : List (Option Key × V)} {ds : List (Option Key × D)} (h : F a = some (ExO a o)) (f : DNf a o vs) (r : NvsOk K F vs ds) : Dat K F (.ref a) (.dno ds)
inductive NvsOk (K : PySem.W.Frag) (F : Hp) : List (Option Key × V) → List (Option Key × D) → Prop
  | nil : NvsOk K F [] []
  | cons {f : Option Key} {v : V} {d : D} {vs : List (Option Key × V)} {ds : List (Option Key × D)} (h : Dat K F v d) (r : NvsOk K F vs ds) : NvsOk K F ((f, v) :: vs) ((f, d) :: ds)
inductive EnvOk (K : PySem.W.Frag) (F : Hp) : List (Option V) → List (Option D) → Prop
  | nil : EnvOk K F [] []
  | non {o : Option V} {vs : List (Option V)} {ds : List (Option D)} (r : EnvOk K F vs ds) : EnvOk K F (o :: vs) (none :: ds)
  | cons {v : V} {d : D} {vs : List (Option V)} {ds : List (Option D)} (h : Dat K F v d) (r : EnvOk K F vs ds) : EnvOk K F (some v :: vs) (some d :: ds)
inductive KvsOk (K : PySem.W.Frag) (F : Hp) : List (Key × V) → List (Key × D) → Prop
  | nil : KvsOk K F [] []
  | cons {f : Key} {v : V} {d : D} {vs : List (Key × V)} {ds : List (Key × D)} (h : Dat K F v d) (r : KvsOk K F vs ds) : KvsOk K F ((f, v) :: vs) ((f, d) :: ds)
inductive DatAll (K : PySem.W.Frag) (F : Hp) : List V → List D → Prop
  | nil : DatAll K F [] []
  | cons {v : V} {vs : List V} {d : D} {ds : List D} (h : Dat K F v d) (r : DatAll K F vs ds) : DatAll K F (v :: vs) (d :: ds)
end

section
variable {K : PySem.W.Frag} {F F' H : Hp}
mutual
theorem Dat.ex (e : Ex F F') : ∀ {v : V} {d : D}, Dat K F v d → Dat K F' v d
  | _, _, .non => .non
  | _, _, .bl b => .bl b
  | _, _, .int i => .int i
  | _, _, .str s => .str s
  | _, _, .ty n => .ty n
  | _, _, .ref a => .ref a
  | _, _, .tup h r => .tup (ex_t e h) (DatAll.ex e r)
  | _, _, .lst h r => .lst (e _ _ h) (DatAll.ex e r)
  | _, _, .dic h r => .dic (e _ _ h) (KvsOk.ex e r)
  | _, _, .scr h r => .scr (ex_l e h) (DatAll.ex e r)
  | _, _, .clo h r => .clo (e _ _ h) (EnvOk.ex e r)
  | _, _, .dno h f r => .dno (e _ _ h) f (NvsOk.ex e r)
theorem NvsOk.ex (e : Ex F F') : ∀ {vs : List (Option Key × V)} {ds : List (Option Key × D)}, NvsOk K F vs ds → NvsOk K F' vs ds
  | _, _, .nil => .nil
  | _, _, .cons h r => .cons (Dat.ex e h) (NvsOk.ex e r)
theorem EnvOk.ex (e : Ex F F') : ∀ {vs : List (Option V)} {ds : List (Option D)}, EnvOk K F vs ds → EnvOk K F' vs ds
  | _, _, .nil => .nil
  | _, _, .non r => .non (EnvOk.ex e r)
  | _, _, .cons h r => .cons (Dat.ex e h) (EnvOk.ex e r)
theorem KvsOk.ex (e : Ex F F') : ∀ {vs : List (Key × V)} {ds : List (Key × D)}, KvsOk K F vs ds → KvsOk K F' vs ds
  | _, _, .nil => .nil
  | _, _, .cons h r => .cons (Dat.ex e h) (KvsOk.ex e r)
theorem DatAll.ex (e : Ex F F') : ∀ {vs : List V} {ds : List D}, DatAll K F vs ds → DatAll K F' vs ds
  | _, _, .nil => .nil
  | _, _, .cons h r => .cons (Dat.ex e h) (DatAll.ex e r)
end
theorem DatAll.len : ∀ {vs : List V} {ds : List D}, DatAll K F vs ds → vs.length = ds.length
  | _, _, .nil => rfl
  | _, _, .cons _ r => by simp [DatAll.len r]
theorem DatAll.at : ∀ {vs : List V} {ds : List D} {i : Nat} {d : D}, DatAll K F vs ds → ds[i]? = some d → ∃ v, vs[i]? = some v ∧ Dat K F v d
  | _, _, _, _, .nil, e => by simp at e
  | _, _, 0, _, .cons h _, e => by simp at e; subst e; exact ⟨_, rfl, h⟩
  | _, _, i + 1, d, .cons _ r, e => by
    obtain ⟨v, h1, h2⟩ := DatAll.at (i := i) (d := d) r (by simpa using e)
    exact ⟨v, by simpa using h1, h2⟩
theorem DatAll.vat : ∀ {vs : List V} {ds : List D} {i : Nat} {v : V}, DatAll K F vs ds → vs[i]? = some v → ∃ d, ds[i]? = some d ∧ Dat K F v d
  | _, _, _, _, .nil, e => by simp at e
  | _, _, 0, _, .cons h _, e => by simp at e; subst e; exact ⟨_, rfl, h⟩
  | _, _, i + 1, v, .cons _ r, e => by
    obtain ⟨d, h1, h2⟩ := DatAll.vat (i := i) (v := v) r (by simpa using e)
    exact ⟨d, by simpa using h1, h2⟩
theorem DatAll.app : ∀ {vs ws : List V} {ds es : List D}, DatAll K F vs ds → DatAll K F ws es → DatAll K F (vs ++ ws) (ds ++ es)
  | _, _, _, _, .nil, s => s
  | _, _, _, _, .cons h r, s => .cons h (DatAll.app r s)
theorem DatAll.take : ∀ {vs : List V} {ds : List D} (n : Nat), DatAll K F vs ds → DatAll K F (vs.take n) (ds.take n)
  | _, _, 0, _ => .nil
  | _, _, _ + 1, .nil => .nil
  | _, _, n + 1, .cons h r => .cons h (DatAll.take n r)
theorem DatAll.drop : ∀ {vs : List V} {ds : List D} (n : Nat), DatAll K F vs ds → DatAll K F (vs.drop n) (ds.drop n)
  | _, _, 0, r => r
  | _, _, _ + 1, .nil => .nil
  | _, _, n + 1, .cons _ r => DatAll.drop n r
theorem DatAll.set {v : V} {d : D} (h : Dat K F v d) : ∀ {vs : List V} {ds : List D} (i : Nat), DatAll K F vs ds → DatAll K F (vs.set i v) (ds.set i d)
  | _, _, _, .nil => .nil
  | _, _, 0, .cons _ r => .cons h r
  | _, _, i + 1, .cons q r => .cons q (DatAll.set h i r)
theorem DatAll.erase : ∀ {vs : List V} {ds : List D} (i : Nat), DatAll K F vs ds → DatAll K F (vs.eraseIdx i) (ds.eraseIdx i)
  | _, _, _, .nil => .nil
  | _, _, 0, .cons _ r => r
  | _, _, i + 1, .cons q r => .cons q (DatAll.erase i r)
theorem DatAll.nil_of {vs : List V} (r : DatAll K F vs []) : vs = [] := by cases r; rfl

/-- the fields of an instance -/
inductive FldsOk (K : PySem.W.Frag) (F : Hp) : List (Str × V) → List (Str × D) → Prop
  | nil : FldsOk K F [] []
  | cons {f : Str} {v : V} {d : D} {vs : List (Str × V)} {ds : List (Str × D)} (h : Dat K F v d) (r : FldsOk K F vs ds) : FldsOk K F ((f, v) :: vs) ((f, d) :: ds)
theorem FldsOk.ex (e : Ex F F') : ∀ {vs : List (Str × V)} {ds : List (Str × D)}, FldsOk K F vs ds → FldsOk K F' vs ds
  | _, _, .nil => .nil
  | _, _, .cons h r => .cons (h.ex e) (FldsOk.ex e r)
end

def CellOk (K : PySem.W.Frag) (F H : Hp) (a : Addr) : Cell → Prop
  | .lst ds => ∃ vs, H a = some (.lst vs) ∧ DatAll K F vs ds
  | .ins C fs => ∃ dx vs, H a = some (.ins C dx vs) ∧ FldsOk K F vs fs
  | .dic kvs => ∃ vs, H a = some (.dK vs) ∧ KvsOk K F vs kvs
  | .dno kvs => ∃ o vs, H a = some (ExO a o) ∧ DNf a o vs ∧ NvsOk K F vs kvs
  | .tab q => ∃ ps : Array Value, H a = some (.tbl ps) ∧ TriplesOk ps.toList ∧ ∀ (pos : Pos) (cv : Value), codeAmong pos ps.toList = some cv → ∃ c, cv = .ref c ∧ F c = some (LamX.CodeO c q)

structure Good (K : PySem.W.Frag) (F : Hp) (M : Mem) (H : Hp) : Prop where
  sub : Ex F H
  mem : ∀ a c, M a = some c → F a = none ∧ CellOk K F H a c

theorem CellOk.some {K : PySem.W.Frag} {F H : Hp} {a : Addr} {c : Cell} (h : CellOk K F H a c) : ∃ o, H a = some o := by
  cases c with
  | lst ds => obtain ⟨_, e, _⟩ := h; exact ⟨_, e⟩
  | ins C fs => obtain ⟨_, _, e, _⟩ := h; exact ⟨_, e⟩
  | dic kvs => obtain ⟨_, e, _⟩ := h; exact ⟨_, e⟩
  | tab q => obtain ⟨_, e, _⟩ := h; exact ⟨_, e⟩
  | dno kvs => obtain ⟨o, _, e, _⟩ := h; exact ⟨_, e⟩
theorem CellOk.ex {K : PySem.W.Frag} {F F' H H' : Hp} {a : Addr} {c : Cell} (h : CellOk K F H a c) (e : Ex F F') (k : H' a = H a) : CellOk K F' H' a c := by
  cases c with
  | lst ds => obtain ⟨vs, q, r⟩ := h; exact ⟨vs, by rw [k]; exact q, r.ex e⟩
  | ins C fs => obtain ⟨dx, vs, q, r⟩ := h; exact ⟨dx, vs, by rw [k]; exact q, r.ex e⟩
  | dic kvs => obtain ⟨vs, q, r⟩ := h; exact ⟨vs, by rw [k]; exact q, r.ex e⟩
  | dno kvs => obtain ⟨o, vs, q, f, r⟩ := h; exact ⟨o, vs, by rw [k]; exact q, f, r.ex e⟩
  | tab q =>
    obtain ⟨ps, q, t, r⟩ := h
    refine ⟨ps, by rw [k]; exact q, t, fun pos cv hc => ?_⟩
    obtain ⟨c, h1, h2⟩ := r pos cv hc
    exact ⟨c, h1, e _ _ h2⟩
end DL

set_option maxHeartbeats 4000000
/-! DLb: the store's laws; environments; readings over data lifted to the hand layer's readings. -/
namespace DL
open PySem PySem.Spec PyProof.Rows L2 Evl
section
variable {K : PySem.W.Frag} {F F' H H' : Hp} {M M' : Mem}

theorem Good.ne (g : Good K F M H) {p a : Addr} {c : Cell} (hp : H p = none) (e : M a = some c) : a ≠ p := fun q => by
  obtain ⟨o, eo⟩ := (g.mem a c e).2.some
  rw [q, hp] at eo; cases eo
theorem Good.fnone (g : Good K F M H) {p : Addr} (hp : H p = none) : F p = none := by
  cases e : F p with
  | none => rfl
  | some o => rw [g.sub p o e] at hp; cases hp
theorem Good.mnone (g : Good K F M H) {p : Addr} (hp : H p = none) : M p = none := by
  cases e : M p with
  | none => rfl
  | some c => exact absurd rfl (g.ne hp e)
/-- a new object that never changes -/
theorem Good.fix (g : Good K F M H) {p : Addr} {o : HO} (hp : H p = none) : Good K (upd F p o) M (upd H p o) := by
  refine ⟨fun a u e => ?_, fun a c e => ?_⟩
  · by_cases q : a = p
    · subst q; rw [upd_same] at e ⊢; exact e
    · rw [upd_ne q] at e ⊢; exact g.sub a u e
  · have q := g.ne hp e
    obtain ⟨h1, h2⟩ := g.mem a c e
    exact ⟨by rw [upd_ne q]; exact h1, h2.ex (Ex.new (g.fnone hp)) (upd_ne q)⟩
/-- a new object that nobody needs to know -/
theorem Good.junk (g : Good K F M H) {p : Addr} {o : HO} (hp : H p = none) : Good K F M (upd H p o) := by
  refine ⟨fun a u e => ?_, fun a c e => ?_⟩
  · have q : a ≠ p := fun z => by rw [z, g.fnone hp] at e; cases e
    rw [upd_ne q]; exact g.sub a u e
  · have q := g.ne hp e
    obtain ⟨h1, h2⟩ := g.mem a c e
    exact ⟨h1, h2.ex (Ex.refl F) (upd_ne q)⟩
/-- an object that no one tracks in F may change; its cell is told anew -/
theorem Good.chg (g : Good K F M H) {p : Addr} {o : HO} {c : Cell} (hf : F p = none) (hc : CellOk K F (upd H p o) p c) : Good K F (put M p c) (upd H p o) := by
  refine ⟨fun a u e => ?_, fun a c' e => ?_⟩
  · have q : a ≠ p := fun z => by rw [z, hf] at e; cases e
    rw [upd_ne q]; exact g.sub a u e
  · by_cases q : a = p
    · subst q; rw [put_same] at e; cases e; exact ⟨hf, hc⟩
    · rw [put_ne q] at e
      obtain ⟨h1, h2⟩ := g.mem a c' e
      exact ⟨h1, h2.ex (Ex.refl F) (upd_ne q)⟩
theorem Good.newL (g : Good K F M H) {p : Addr} {vs : List V} {ds : List D} (hp : H p = none) (r : DatAll K F vs ds) : Good K F (put M p (.lst ds)) (upd H p (.lst vs)) :=
  g.chg (g.fnone hp) ⟨vs, upd_same, r⟩
theorem Good.setL (g : Good K F M H) {p : Addr} {vs : List V} {ds es : List D} (e : M p = some (.lst es)) (r : DatAll K F vs ds) : Good K F (put M p (.lst ds)) (upd H p (.lst vs)) :=
  g.chg (g.mem p _ e).1 ⟨vs, upd_same, r⟩
/-- a list is not to change any more -/
theorem Good.freeze (g : Good K F M H) {p : Addr} {ds : List D} (e : M p = some (.lst ds)) : ∃ vs, Good K (upd F p (.lst vs)) (drp M p) H ∧ Ex F (upd F p (.lst vs)) ∧ Dat K (upd F p (.lst vs)) (.ref p) (.lst ds) := by
  obtain ⟨hf, vs, hv, r⟩ := g.mem p _ e
  have ex : Ex F (upd F p (.lst vs)) := Ex.new hf
  refine ⟨vs, ⟨fun a u h => ?_, fun a c h => ?_⟩, ex, .lst upd_same (r.ex ex)⟩
  · by_cases q : a = p
    · subst q; rw [upd_same] at h; cases h; exact hv
    · rw [upd_ne q] at h; exact g.sub a u h
  · have q : a ≠ p := fun z => by rw [z, drp_same] at h; cases h
    rw [drp_ne q] at h
    obtain ⟨h1, h2⟩ := g.mem a c h
    exact ⟨by rw [upd_ne q]; exact h1, h2.ex ex rfl⟩
/-- a cell is forgotten -/
theorem Good.drop (g : Good K F M H) (p : Addr) : Good K F (drp M p) H := ⟨g.sub, fun a c e => by
  have q : a ≠ p := fun z => by rw [z, drp_same] at e; cases e
  rw [drp_ne q] at e; exact g.mem a c e⟩
theorem Good.less (g : Good K F M H) (h : ∀ a c, M' a = some c → M a = some c) : Good K F M' H := ⟨g.sub, fun a c e => g.mem a c (h a c e)⟩
end

abbrev Env' := List (Option D)
structure EnvD (K : PySem.W.Frag) (F : Hp) (σ : L2.St) (ρ : Env') : Prop where
  len : σ.length = ρ.length
  at_ : ∀ (i : Nat) (d : D), ρ[i]? = some (some d) → ∃ v, σ[i]? = some (some v) ∧ Dat K F v d
section
variable {K : PySem.W.Frag} {F F' H H' : Hp} {M M' : Mem} {σ : L2.St} {ρ : Env'}
theorem EnvD.ex (e : Ex F F') (h : EnvD K F σ ρ) : EnvD K F' σ ρ := ⟨h.len, fun i d q => by
  obtain ⟨v, a, b⟩ := h.at_ i d q; exact ⟨v, a, b.ex e⟩⟩
theorem EnvD.set (h : EnvD K F σ ρ) (i : Nat) {v : V} {d : D} (r : Dat K F v d) : EnvD K F (σ.set i (some v)) (ρ.set i (some d)) := by
  refine ⟨by simp [h.len], fun j e q => ?_⟩
  rw [List.getElem?_set] at q ⊢
  by_cases z : i = j
  · subst z
    rw [if_pos rfl] at q ⊢
    by_cases l : i < ρ.length
    · rw [if_pos l] at q
      have l2 : i < σ.length := by rw [h.len]; exact l
      rw [if_pos l2]
      cases q
      exact ⟨v, rfl, r⟩
    · rw [if_neg l] at q; cases q
  · rw [if_neg z] at q ⊢
    exact h.at_ j e q
theorem EnvD.unset (h : EnvD K F σ ρ) (i : Nat) (x : Option V) : EnvD K F (σ.set i x) (ρ.set i none) := by
  refine ⟨by simp [h.len], fun j e q => ?_⟩
  rw [List.getElem?_set] at q ⊢
  by_cases z : i = j
  · subst z
    rw [if_pos rfl] at q
    by_cases l : i < ρ.length
    · rw [if_pos l] at q; cases q
    · rw [if_neg l] at q; cases q
  · rw [if_neg z] at q ⊢
    exact h.at_ j e q
theorem EnvD.forget (h : EnvD K F σ ρ) (i : Nat) : EnvD K F σ (ρ.set i none) := by
  refine ⟨by simp [h.len], fun j e q => ?_⟩
  rw [List.getElem?_set] at q
  by_cases z : i = j
  · subst z
    rw [if_pos rfl] at q
    by_cases l : i < ρ.length
    · rw [if_pos l] at q; cases q
    · rw [if_neg l] at q; cases q
  · rw [if_neg z] at q
    exact h.at_ j e q
end

abbrev DK := D → Mem → Prop
abbrev DE := Env' → Mem → DK → Prop
abbrev DT := Env' → Mem → (Bool → Mem → Prop) → Prop
abbrev DA := Env' → Mem → (List D → Mem → Prop) → Prop
structure DEnds where
  nx : Env' → Mem → Prop
  rt : DK
  bk : Env' → Mem → Prop := fun _ _ => False
  ct : Env' → Mem → Prop := fun _ _ => False
abbrev DS := DEnds → Env' → Mem → Prop

/-- what is wanted of values follows from what is wanted of data -/
def KO (K : PySem.W.Frag) (F : Hp) (Q' : DK) (Q : VK) : Prop := ∀ v H' F' M' d, Ex F F' → Good K F' M' H' → Dat K F' v d → Q' d M' → Q v H'
def KOT (K : PySem.W.Frag) (F : Hp) (Q' : Bool → Mem → Prop) (Q : Bool → Hp → Prop) : Prop := ∀ b H' F' M', Ex F F' → Good K F' M' H' → Q' b M' → Q b H'
def KOA (K : PySem.W.Frag) (F : Hp) (Q' : List D → Mem → Prop) (Q : List V → Hp → Prop) : Prop := ∀ vs H' F' M' ds, Ex F F' → Good K F' M' H' → DatAll K F' vs ds → Q' ds M' → Q vs H'
def KOS (K : PySem.W.Frag) (F : Hp) (q : Env' → Mem → Prop) (Q : L2.St → Hp → Prop) : Prop := ∀ σ' H' F' ρ' M', Ex F F' → Good K F' M' H' → EnvD K F' σ' ρ' → q ρ' M' → Q σ' H'
structure KOD (K : PySem.W.Frag) (F : Hp) (DD : DEnds) (D : Ends) : Prop where
  nx : KOS K F DD.nx D.nx
  rt : KO K F DD.rt D.rt
  bk : KOS K F DD.bk D.bk
  ct : KOS K F DD.ct D.ct
section
variable {K : PySem.W.Frag} {F F' : Hp}
theorem KO.ex {Q' : DK} {Q : VK} (e : Ex F F') (k : KO K F Q' Q) : KO K F' Q' Q := fun v H F2 M d e2 => k v H F2 M d (e.trans e2)
theorem KOT.ex {Q' : Bool → Mem → Prop} {Q : Bool → Hp → Prop} (e : Ex F F') (k : KOT K F Q' Q) : KOT K F' Q' Q := fun v H F2 M e2 => k v H F2 M (e.trans e2)
theorem KOA.ex {Q' : List D → Mem → Prop} {Q : List V → Hp → Prop} (e : Ex F F') (k : KOA K F Q' Q) : KOA K F' Q' Q := fun v H F2 M d e2 => k v H F2 M d (e.trans e2)
theorem KOS.ex {q : Env' → Mem → Prop} {Q : L2.St → Hp → Prop} (e : Ex F F') (k : KOS K F q Q) : KOS K F' q Q := fun σ H F2 ρ M e2 => k σ H F2 ρ M (e.trans e2)
theorem KOD.ex {DD : DEnds} {D : Ends} (e : Ex F F') (k : KOD K F DD D) : KOD K F' DD D := ⟨k.nx.ex e, k.rt.ex e, k.bk.ex e, k.ct.ex e⟩
end
def LE (K : PySem.W.Frag) (t : DE) : TE := fun σ H Q => ∃ F ρ M Q', Good K F M H ∧ EnvD K F σ ρ ∧ t ρ M Q' ∧ KO K F Q' Q
def LT (K : PySem.W.Frag) (t : DT) : TT := fun σ H Q => ∃ F ρ M Q', Good K F M H ∧ EnvD K F σ ρ ∧ t ρ M Q' ∧ KOT K F Q' Q
def LA (K : PySem.W.Frag) (t : DA) : TA := fun σ H Q => ∃ F ρ M Q', Good K F M H ∧ EnvD K F σ ρ ∧ t ρ M Q' ∧ KOA K F Q' Q
def LS (K : PySem.W.Frag) (t : DS) : TS := fun D σ H => ∃ F ρ M DD, Good K F M H ∧ EnvD K F σ ρ ∧ t DD ρ M ∧ KOD K F DD D

/-- the judgements over data -/
abbrev QE (X : Cx) (e : Expr) (t : DE) : Prop := PE X e (LE X.K t)
abbrev QT (X : Cx) (e : Expr) (t : DT) : Prop := PT X e (LT X.K t)
abbrev QW (X : Cx) (e : Expr) (t : DT) : Prop := PW X e (LT X.K t)
abbrev QA (X : Cx) (es : List Expr) (t : DA) : Prop := PA X es (LA X.K t)
abbrev QS (X : Cx) (st : Stmt) (t : DS) : Prop := PS X st (LS X.K t)
abbrev QSs (X : Cx) (st : List Stmt) (t : DS) : Prop := PSs X st (LS X.K t)

theorem wkE {X : Cx} {e : Expr} {t t' : TE} (h : PE X e t) (w : ∀ σ H Q, t' σ H Q → t σ H Q) : PE X e t' := ⟨fun pins s σ H Q I q => h.run pins s σ H Q I (w σ H Q q)⟩
theorem wkT {X : Cx} {e : Expr} {t t' : TT} (h : PT X e t) (w : ∀ σ H Q, t' σ H Q → t σ H Q) : PT X e t' := ⟨fun pins s σ H Q I q => h.run pins s σ H Q I (w σ H Q q)⟩
theorem wkW {X : Cx} {e : Expr} {t t' : TT} (h : PW X e t) (w : ∀ σ H Q, t' σ H Q → t σ H Q) : PW X e t' := ⟨fun wh pins s σ H Q I q => h.run wh pins s σ H Q I (w σ H Q q)⟩
theorem wkA {X : Cx} {e : List Expr} {t t' : TA} (h : PA X e t) (w : ∀ σ H Q, t' σ H Q → t σ H Q) : PA X e t' := ⟨fun pos pins s σ H Q I q => h.run pos pins s σ H Q I (w σ H Q q)⟩
theorem wkS {X : Cx} {e : Stmt} {t t' : TS} (h : PS X e t) (w : ∀ D σ H, t' D σ H → t D σ H) : PS X e t' := ⟨fun pins s σ H D I q => h.run pins s σ H D I (w D σ H q)⟩
theorem wkSs {X : Cx} {e : List Stmt} {t t' : TS} (h : PSs X e t) (w : ∀ D σ H, t' D σ H → t D σ H) : PSs X e t' := ⟨fun pins s σ H D I q => h.run pins s σ H D I (w D σ H q)⟩

/-! ### names, constants, operators -/
def slotD : Option (Option D) → (D → Prop) → Prop
  | some (some d), p => p d
  | _, _ => False
@[simp] theorem slotD_e1 {d p} : slotD (some (some d)) p = (p d) := rfl
theorem slotD.ok {o : Option (Option D)} {p : D → Prop} (h : slotD o p) : ∃ d, o = some (some d) ∧ p d := by
  cases o with
  | none => exact h.elim
  | some o => cases o with
    | none => exact h.elim
    | some d => exact ⟨d, rfl, h⟩
def opD {α : Type} : Option α → (α → Prop) → Prop
  | some d, p => p d
  | none, _ => False
@[simp] theorem opD_e1 {α : Type} {d : α} {p : α → Prop} : opD (some d) p = (p d) := rfl
theorem opD.ok {α : Type} {o : Option α} {p : α → Prop} (h : opD o p) : ∃ d, o = some d ∧ p d := by
  cases o with
  | none => exact h.elim
  | some d => exact ⟨d, rfl, h⟩
def celL : Option Cell → (List D → Prop) → Prop
  | some (.lst xs), p => p xs
  | _, _ => False
@[simp] theorem celL_e1 {xs p} : celL (some (.lst xs)) p = (p xs) := rfl
theorem celL.ok {o : Option Cell} {p : List D → Prop} (h : celL o p) : ∃ d, o = some (.lst d) ∧ p d := by
  cases o with
  | none => exact h.elim
  | some c => cases c with
    | lst d => exact ⟨d, rfl, h⟩
    | _ => exact h.elim
@[simp] def dVar (i : Nat) : DE := fun ρ M Q => slotD (ρ[i]?) fun d => Q d M
@[simp] def dC (d : D) : DE := fun _ M Q => Q d M
@[simp] def dOp (f : D → D → Mem → DK → Prop) (ta tb : DE) : DE := fun ρ M Q => ta ρ M fun x M1 => tb ρ M1 fun y M2 => f x y M2 Q
@[simp] def dUn (f : D → Mem → DK → Prop) (ta : DE) : DE := fun ρ M Q => ta ρ M fun x M1 => f x M1 Q
@[simp] def dNil : DA := fun _ M Q => Q [] M
@[simp] def dCons (ta : DE) (tr : DA) : DA := fun ρ M Q => ta ρ M fun x M1 => tr ρ M1 fun xs M2 => Q (x :: xs) M2
/-- an operator by values, an operator over data -/
def Op2 (K : PySem.W.Frag) (r : R2) (f : D → D → Mem → DK → Prop) : Prop := ∀ (F : Hp) (M : Mem) (H : Hp) (x y : V) (dx dy : D) (Q' : DK) (Q : VK), Good K F M H → Dat K F x dx → Dat K F y dy → f dx dy M Q' → KO K F Q' Q → r x y H Q
def Op1 (K : PySem.W.Frag) (r : V → Hp → VK → Prop) (f : D → Mem → DK → Prop) : Prop := ∀ (F : Hp) (M : Mem) (H : Hp) (x : V) (dx : D) (Q' : DK) (Q : VK), Good K F M H → Dat K F x dx → f dx M Q' → KO K F Q' Q → r x H Q
def OpA (K : PySem.W.Frag) (r : List V → Hp → VK → Prop) (f : List D → Mem → DK → Prop) : Prop := ∀ (F : Hp) (M : Mem) (H : Hp) (x : List V) (dx : List D) (Q' : DK) (Q : VK), Good K F M H → DatAll K F x dx → f dx M Q' → KO K F Q' Q → r x H Q
section
variable {X : Cx} {a b e : Expr} {es : List Expr} {ta tb te : DE} {tr : DA} {pos : Pos} {op : Operator}
theorem lop {K : PySem.W.Frag} {r : R2} {f : D → D → Mem → DK → Prop} (hf : Op2 K r f) {σ : L2.St} {H : Hp} {Q : VK} (h : LE K (dOp f ta tb) σ H Q) : tOp r (LE K ta) (LE K tb) σ H Q := by
  obtain ⟨F, ρ, M, Q', g, en, h, k⟩ := h
  refine ⟨F, ρ, M, _, g, en, h, fun x H1 F1 M1 dx e1 g1 rx h1 => ?_⟩
  refine ⟨F1, ρ, M1, _, g1, en.ex e1, h1, fun y H2 F2 M2 dy e2 g2 ry h2 => ?_⟩
  exact hf F2 M2 H2 x y dx dy Q' Q g2 (rx.ex e2) ry h2 (k.ex (e1.trans e2))
theorem lun {K : PySem.W.Frag} {r : V → Hp → VK → Prop} {f : D → Mem → DK → Prop} (hf : Op1 K r f) {σ : L2.St} {H : Hp} {Q : VK} (h : LE K (dUn f ta) σ H Q) : tUn r (LE K ta) σ H Q := by
  obtain ⟨F, ρ, M, Q', g, en, h, k⟩ := h
  refine ⟨F, ρ, M, _, g, en, h, fun x H1 F1 M1 dx e1 g1 rx h1 => ?_⟩
  exact hf F1 M1 H1 x dx Q' Q g1 rx h1 (k.ex e1)
theorem lcb {K : PySem.W.Frag} {r : List V → Hp → VK → Prop} {f : List D → Mem → DK → Prop} (hf : OpA K r f) {σ : L2.St} {H : Hp} {Q : VK} (h : LE K (fun ρ M Q => tr ρ M fun xs M1 => f xs M1 Q) σ H Q) : tCB r (LA K tr) σ H Q := by
  obtain ⟨F, ρ, M, Q', g, en, h, k⟩ := h
  refine ⟨F, ρ, M, _, g, en, h, fun x H1 F1 M1 dx e1 g1 rx h1 => ?_⟩
  exact hf F1 M1 H1 x dx Q' Q g1 rx h1 (k.ex e1)
theorem qv {x : Str} (i : Nat) (hN : X.N[i]? = some x := by rfl) (hv : Vis X.env.scope x := by first | exact Or.inl rfl | exact Or.inr (Or.inl rfl) | exact Or.inr (Or.inr rfl)) (hd : (x == ("__debug__" : Str)) = false := by decide) (hcd : (x == ("__classdict__" : Str)) = false := by decide) : QE X (.Name x pos) (dVar i) := by
  refine wkE (pe_var (i := i) hN hv hd hcd) fun σ H Q h => ?_
  obtain ⟨F, ρ, M, Q', g, en, q, k⟩ := h
  obtain ⟨d, hd, q'⟩ := slotD.ok (show slotD (ρ[i]?) fun d => Q' d M from q)
  obtain ⟨v, hv, r⟩ := en.at_ i d hd
  exact ⟨v, hv, k v H F M d (Ex.refl F) g r q'⟩
theorem lc {K : PySem.W.Frag} {v : V} {d : D} (hd : ∀ F, Dat K F v d) {σ : L2.St} {H : Hp} {Q : VK} (h : LE K (dC d) σ H Q) : tC v σ H Q := by
  obtain ⟨F, ρ, M, Q', g, en, q, k⟩ := h
  exact k v H F M d (Ex.refl F) g (hd F) q
theorem q_int {i j pos} : QE X (.Constant (.int i) j pos) (dC (.int i)) := wkE pe_int fun _ _ _ h => lc (fun _ => .int i) h
theorem q_bl {b j pos} : QE X (.Constant (.bool b) j pos) (dC (.bl b)) := wkE pe_bl fun _ _ _ h => lc (fun _ => .bl b) h
theorem q_non {j pos} : QE X (.Constant .none j pos) (dC .non) := wkE pe_non fun _ _ _ h => lc (fun _ => .non) h
theorem q_str {x j pos} : QE X (.Constant (.str x) j pos) (dC (.str x)) := wkE pe_str fun _ _ _ h => lc (fun _ => .str x) h
/-- a module's constant -/
theorem q_glob {x : Str} {v : V} {d : D} {u : Value} (hd : ∀ F, Dat X.K F v d) (hm : X.mg x = some u) (r : RelV v u) (hg : Gl X x := by rfl) (hdb : (x == ("__debug__" : Str)) = false := by decide) : QE X (.Name x pos) (dC d) := wkE (pe_glob hg hm r hdb) fun _ _ _ h => lc hd h
theorem q_op {r : R2} {f : D → D → Mem → DK → Prop} (ho : OpR X (binaryOp op) r) (hf : Op2 X.K r f) (ha : QE X a ta) (hb : QE X b tb) : QE X (.BinOp a op b pos) (dOp f ta tb) := wkE (pe_op ho ha hb) fun _ _ _ h => lop hf h
theorem q_cmp {op : CmpOp} {r : R2} {f : D → D → Mem → DK → Prop} (ho : OpR X (compareOp op) r) (hf : Op2 X.K r f) (ha : QE X a ta) (hb : QE X b tb) (hm : behindInMarks op b = false := by rfl) : QE X (.Compare a [op] [b] pos) (dOp f ta tb) := wkE (pe_cmpR ho ha hb hm) fun _ _ _ h => lop hf h
theorem q_un {op : UnaryOp} {r : V → Hp → VK → Prop} {f : D → Mem → DK → Prop} (ho : UnR X (unaryOp op) r) (hf : Op1 X.K r f) (ha : QE X a ta) : QE X (.UnaryOp op a pos) (dUn f ta) := wkE (pe_un ho ha) fun _ _ _ h => lun hf h
theorem qa_nil : QA X [] dNil := wkA pa_nil fun σ H Q h => by
  obtain ⟨F, ρ, M, Q', g, en, q, k⟩ := h
  exact k [] H F M [] (Ex.refl F) g .nil q
end
end DL

set_option maxHeartbeats 4000000
/-! DLc: expressions over data. -/
namespace DL
open PySem PySem.Spec PyProof.Rows L2 Evl
section
variable {K : PySem.W.Frag}
/-! ### operators over data -/
def dII (g : Int → Int → D) : D → D → Mem → DK → Prop := fun x y M Q => ∃ i j, x = .int i ∧ y = .int j ∧ Q (g i j) M
def dIC (C : Int → Int → Prop) (g : Int → Int → D) : D → D → Mem → DK → Prop := fun x y M Q => ∃ i j, x = .int i ∧ y = .int j ∧ C i j ∧ Q (g i j) M
theorem Dat.int_of {F : Hp} {v : V} {i : Int} (h : Dat K F v (.int i)) : v = .int i := by cases h; rfl
theorem Dat.bl_of {F : Hp} {v : V} {b : Bool} (h : Dat K F v (.bl b)) : v = .bl b := by cases h; rfl
theorem Dat.str_of {F : Hp} {v : V} {b : Str} (h : Dat K F v (.str b)) : v = .str b := by cases h; rfl
theorem Dat.non_of {F : Hp} {v : V} (h : Dat K F v .non) : v = .non := by cases h; rfl
theorem Dat.ty_of {F : Hp} {v : V} {b : String} (h : Dat K F v (.ty b)) : v = .ty b := by cases h; rfl
theorem Dat.ref_of {F : Hp} {v : V} {b : Addr} (h : Dat K F v (.ref b)) : v = .ref b := by cases h; rfl
theorem o2_ii {g : Int → Int → V} {g' : Int → Int → D} (hg : ∀ F i j, Dat K F (g i j) (g' i j)) : Op2 K (rI0 g) (dII g') := by
  intro F M H x y dx dy Q' Q gd rx ry h k
  obtain ⟨i, j, rfl, rfl, q⟩ := h
  exact ⟨i, j, rx.int_of, ry.int_of, k _ H F M _ (Ex.refl F) gd (hg F i j) q⟩
theorem o2_ic {C : Int → Int → Prop} {g : Int → Int → V} {g' : Int → Int → D} (hg : ∀ F i j, Dat K F (g i j) (g' i j)) : Op2 K (rI C g) (dIC C g') := by
  intro F M H x y dx dy Q' Q gd rx ry h k
  obtain ⟨i, j, rfl, rfl, c, q⟩ := h
  exact ⟨i, j, rx.int_of, ry.int_of, c, k _ H F M _ (Ex.refl F) gd (hg F i j) q⟩
/-- == of plain things -/
@[simp] def eqS : D → D → Option Bool
  | .non, .non => some true | .non, .int _ => some false | .int _, .non => some false | .non, .bl _ => some false | .bl _, .non => some false | .non, .str _ => some false | .str _, .non => some false
  | .int i, .int j => some (decide (i = j)) | .bl a, .bl b => some (decide (a = b)) | .str a, .str b => some (decide (a = b))
  | .int _, .str _ => some false | .str _, .int _ => some false | .bl _, .str _ => some false | .str _, .bl _ => some false
  | _, _ => none
theorem eqS_ok {F : Hp} {x y : V} {dx dy : D} {b : Bool} (rx : Dat K F x dx) (ry : Dat K F y dy) (h : eqS dx dy = some b) : scal x y = true ∧ decide (x = y) = b := by
  cases rx <;> cases ry <;> simp only [eqS, Option.some.injEq, reduceCtorEq] at h <;> subst h <;> simp [scal]
def dEq : D → D → Mem → DK → Prop := fun x y M Q => ∃ b, eqS x y = some b ∧ Q (.bl b) M
def dNe : D → D → Mem → DK → Prop := fun x y M Q => ∃ b, eqS x y = some b ∧ Q (.bl (!b)) M
theorem o2_eq : Op2 K rEq dEq := by
  intro F M H x y dx dy Q' Q gd rx ry h k
  obtain ⟨b, e, q⟩ := h
  obtain ⟨h1, h2⟩ := eqS_ok rx ry e
  exact ⟨h1, k _ H F M _ (Ex.refl F) gd (by rw [h2]; exact .bl b) q⟩
theorem o2_ne : Op2 K rNe dNe := by
  intro F M H x y dx dy Q' Q gd rx ry h k
  obtain ⟨b, e, q⟩ := h
  obtain ⟨h1, h2⟩ := eqS_ok rx ry e
  exact ⟨h1, k _ H F M _ (Ex.refl F) gd (by rw [h2]; exact .bl _) q⟩
@[simp] def isN : D → Bool
  | .non => true
  | _ => false
theorem isN_ok {F : Hp} {x : V} {dx : D} (rx : Dat K F x dx) : decide (x = .non) = isN dx := by cases rx <;> simp [isN]
@[simp] def dIsN : D → D → Mem → DK → Prop := fun x y M Q => y = .non ∧ Q (.bl (isN x)) M
@[simp] def dNotN : D → D → Mem → DK → Prop := fun x y M Q => y = .non ∧ Q (.bl (!isN x)) M
theorem o2_isN : Op2 K (fun x y H Q => y = .non ∧ Q (.bl (decide (x = .non))) H) dIsN := by
  intro F M H x y dx dy Q' Q gd rx ry h k
  obtain ⟨rfl, q⟩ := h
  exact ⟨ry.non_of, k _ H F M _ (Ex.refl F) gd (by rw [isN_ok rx]; exact .bl _) q⟩
theorem o2_notN : Op2 K (fun x y H Q => y = .non ∧ Q (.bl (!decide (x = .non))) H) dNotN := by
  intro F M H x y dx dy Q' Q gd rx ry h k
  obtain ⟨rfl, q⟩ := h
  exact ⟨ry.non_of, k _ H F M _ (Ex.refl F) gd (by rw [isN_ok rx]; exact .bl _) q⟩
/-! ### sequences -/
/-- a list, frozen or a cell -/
def lstD (M : Mem) : D → List D → Prop
  | .lst ys, xs => ys = xs
  | .ref p, xs => M p = some (.lst xs)
  | _, _ => False
@[simp] theorem lstD_e1 {M} {ys xs} : lstD M (.lst ys) xs = (ys = xs) := rfl
@[simp] theorem lstD_e2 {M} {p xs} : lstD M (.ref p) xs = (M p = some (.lst xs)) := rfl
def lsD (M : Mem) : D → (List D → Prop) → Prop
  | .lst xs, p => p xs
  | .ref a, p => celL (M a) p
  | _, _ => False
@[simp] theorem lsD_e1 {M} {xs p} : lsD M (.lst xs) p = (p xs) := rfl
@[simp] theorem lsD_e2 {M} {a p} : lsD M (.ref a) p = (celL (M a) p) := rfl
theorem lsD.ok {M : Mem} {d : D} {p : List D → Prop} (h : lsD M d p) : ∃ xs, lstD M d xs ∧ p xs := by
  cases d with
  | lst xs => exact ⟨xs, rfl, h⟩
  | ref a => obtain ⟨xs, e, h⟩ := celL.ok h; exact ⟨xs, e, h⟩
  | _ => exact h.elim
def sqD (M : Mem) : D → (List D → Prop) → Prop
  | .tup xs, p => p xs
  | d, p => lsD M d p
@[simp] theorem sqD_e1 {M} {xs p} : sqD M (.tup xs) p = (p xs) := rfl
@[simp] theorem sqD_e2 {M} {d_ p} : sqD M (.lst d_) p = (lsD M (.lst d_) p) := rfl
@[simp] theorem sqD_e3 {M} {d_ p} : sqD M (.ref d_) p = (lsD M (.ref d_) p) := rfl
theorem lstD.exact {F H : Hp} {M : Mem} {v : V} {d : D} {xs : List D} (g : Good K F M H) (r : Dat K F v d) (h : lstD M d xs) : ∃ a vs, v = .ref a ∧ H a = some (.lst vs) ∧ DatAll K F vs xs := by
  cases r with
  | lst q r => obtain rfl : _ = xs := h; exact ⟨_, _, rfl, g.sub _ _ q, r⟩
  | ref p =>
    obtain ⟨_, vs, hv, r2⟩ := g.mem p _ h
    exact ⟨p, vs, rfl, hv, r2⟩
  | _ => exact h.elim
theorem lstD.ok {F H : Hp} {M : Mem} {v : V} {d : D} {xs : List D} (g : Good K F M H) (r : Dat K F v d) (h : lstD M d xs) : ∃ a vs, v = .ref a ∧ SqL K H a vs ∧ DatAll K F vs xs := by
  obtain ⟨a, vs, e, hv, r2⟩ := lstD.exact g r h
  exact ⟨a, vs, e, sq_of hv, r2⟩
theorem Dat.tup_of {F H : Hp} {M : Mem} {v : V} {xs : List D} (g : Good K F M H) (r : Dat K F v (.tup xs)) : ∃ a vs, v = .ref a ∧ SqT K H a vs ∧ DatAll K F vs xs := by
  cases r with
  | tup q r => exact ⟨_, _, rfl, ex_t g.sub q, r⟩
theorem atI_dat {F : Hp} {vs : List V} {xs : List D} {i : Int} {d : D} (r : DatAll K F vs xs) (h : atI xs i = some d) : ∃ v, atI vs i = some v ∧ Dat K F v d := by
  unfold atI at h ⊢
  rw [r.len]
  cases e : ixN xs.length i with
  | none => rw [e] at h; cases h
  | some j =>
    rw [e] at h
    obtain ⟨v, h1, h2⟩ := r.at h
    exact ⟨v, h1, h2⟩
def dIxT : D → D → Mem → DK → Prop := fun x y M Q => ∃ xs i v, x = .tup xs ∧ y = .int i ∧ atI xs i = some v ∧ Q v M
def dIxL : D → D → Mem → DK → Prop := fun x y M Q => ∃ xs i v, lstD M x xs ∧ y = .int i ∧ atI xs i = some v ∧ Q v M
theorem o2_ixT : Op2 K (rIxT K) dIxT := by
  intro F M H x y dx dy Q' Q gd rx ry h k
  obtain ⟨xs, i, d, rfl, rfl, e, q⟩ := h
  obtain ⟨a, vs, rfl, hs, r⟩ := rx.tup_of gd
  obtain ⟨v, h1, h2⟩ := atI_dat r e
  exact ⟨a, vs, i, v, rfl, ry.int_of, hs, h1, k _ H F M _ (Ex.refl F) gd h2 q⟩
theorem o2_ixL : Op2 K (rIxL K) dIxL := by
  intro F M H x y dx dy Q' Q gd rx ry h k
  obtain ⟨xs, i, d, hl, rfl, e, q⟩ := h
  obtain ⟨a, vs, rfl, hs, r⟩ := hl.ok gd rx
  obtain ⟨v, h1, h2⟩ := atI_dat r e
  exact ⟨a, vs, i, v, rfl, ry.int_of, hs, h1, k _ H F M _ (Ex.refl F) gd h2 q⟩
/-- t + u -/
def dCatT : D → D → Mem → DK → Prop := fun x y M Q => ∃ xs ys, x = .tup xs ∧ y = .tup ys ∧ xs.length + ys.length ≤ sizeLine ∧ Q (.tup (xs ++ ys)) M
theorem o2_catT : Op2 K (rCatA K) dCatT := by
  intro F M H x y dx dy Q' Q gd rx ry h k
  obtain ⟨xs, ys, rfl, rfl, hz, q⟩ := h
  obtain ⟨a, vs, rfl, hs, r⟩ := rx.tup_of gd
  obtain ⟨b, ws, rfl, ht, u⟩ := ry.tup_of gd
  have l1 := r.len
  have l2 := u.len
  refine ⟨a, b, vs, ws, rfl, rfl, hs, ht, by omega, fun e => ?_, fun _ e => ?_, fun _ _ p hp => ?_⟩
  · subst e; cases r; exact k _ H F M _ (Ex.refl F) gd ry q
  · subst e; cases u; rw [List.append_nil] at q; exact k _ H F M _ (Ex.refl F) gd rx q
  · have ex := Ex.new (o := .tup (vs ++ ws)) (gd.fnone hp)
    exact k _ _ _ M _ ex (gd.fix hp) (.tup (st_of upd_same) ((r.app u).ex ex)) q
/-- xs + ys, a new list that will not change -/
def cut {α : Type} (xs : List α) (lo hi : Option Int) : List α := (xs.drop (HT.sIx xs.length 0 lo)).take (HT.sIx xs.length xs.length hi - HT.sIx xs.length 0 lo)
theorem cut_dat {F : Hp} {vs : List V} {xs : List D} (r : DatAll K F vs xs) (lo hi : Option Int) : DatAll K F (cutV vs lo hi) (cut xs lo hi) := by
  unfold cutV cut
  rw [r.len]
  exact (r.drop _).take _
/-- the store and the values behind a new list: frozen, or a cell -/
theorem newF {F H : Hp} {M : Mem} {Q' : DK} {Q : VK} {vs : List V} {ds : List D} (gd : Good K F M H) (k : KO K F Q' Q) (r : DatAll K F vs ds) (q : Q' (.lst ds) M) (p : Addr) (hp : H p = none) : Q (.ref p) (upd H p (.lst vs)) := by
  have ex := Ex.new (o := .lst vs) (gd.fnone hp)
  exact k _ _ _ M _ ex (gd.fix hp) (.lst upd_same (r.ex ex)) q
theorem newM {F H : Hp} {M : Mem} {Q' : DK} {Q : VK} {vs : List V} {ds : List D} (gd : Good K F M H) (k : KO K F Q' Q) (r : DatAll K F vs ds) (q : ∀ p, M p = none → Q' (.ref p) (put M p (.lst ds))) (p : Addr) (hp : H p = none) : Q (.ref p) (upd H p (.lst vs)) :=
  k _ _ F _ _ (Ex.refl F) (gd.newL hp r) (.ref p) (q p (gd.mnone hp))
theorem newT {F H : Hp} {M : Mem} {Q' : DK} {Q : VK} {vs : List V} {ds : List D} (gd : Good K F M H) (k : KO K F Q' Q) (r : DatAll K F vs ds) (q : Q' (.tup ds) M) (p : Addr) (hp : H p = none) : Q (.ref p) (upd H p (.tup vs)) := by
  have ex := Ex.new (o := .tup vs) (gd.fnone hp)
  exact k _ _ _ M _ ex (gd.fix hp) (.tup (st_of upd_same) (r.ex ex)) q
end

/-! ### displays -/
@[simp] def dTup (t : DA) : DE := fun ρ M Q => t ρ M fun xs M1 => xs.length ≤ sizeLine ∧ Q (.tup xs) M1
@[simp] def dLst (t : DA) : DE := fun ρ M Q => t ρ M fun xs M1 => xs.length ≤ sizeLine ∧ Q (.lst xs) M1
@[simp] def dLstM (t : DA) : DE := fun ρ M Q => t ρ M fun xs M1 => xs.length ≤ sizeLine ∧ ∀ p, M1 p = none → Q (.ref p) (put M1 p (.lst xs))
@[simp] def dIf (c : DT) (ta tb : DE) : DE := fun ρ M Q => c ρ M fun b M1 => if b = true then ta ρ M1 Q else tb ρ M1 Q
def blD : D → (Bool → Prop) → Prop
  | .bl c, p => p c
  | _, _ => False
@[simp] theorem blD_e1 {c p} : blD (.bl c) p = (p c) := rfl
theorem blD.ok {x : D} {p : Bool → Prop} (h : blD x p) : ∃ c, x = .bl c ∧ p c := by
  cases x with
  | bl c => exact ⟨c, rfl, h⟩
  | _ => exact h.elim
def inD : D → (Int → Prop) → Prop
  | .int c, p => p c
  | _, _ => False
@[simp] theorem inD_e1 {c p} : inD (.int c) p = (p c) := rfl
theorem inD.ok {x : D} {p : Int → Prop} (h : inD x p) : ∃ c, x = .int c ∧ p c := by
  cases x with
  | int c => exact ⟨c, rfl, h⟩
  | _ => exact h.elim
@[simp] def dAndV (ta tb : DE) : DE := fun ρ M Q => ta ρ M fun x M1 => blD x fun c => if c = true then tb ρ M1 Q else Q (.bl false) M1
@[simp] def dOrV (ta tb : DE) : DE := fun ρ M Q => ta ρ M fun x M1 => blD x fun c => if c = true then Q (.bl true) M1 else tb ρ M1 Q
@[simp] def dNotV (ta : DE) : DE := fun ρ M Q => ta ρ M fun x M1 => blD x fun c => Q (.bl (!c)) M1
@[simp] def dTest (ta : DE) : DT := fun ρ M Q => ta ρ M fun x M1 => blD x fun c => Q c M1
@[simp] def dAnd (t u : DT) : DT := fun ρ M Q => t ρ M fun c M1 => if c = true then u ρ M1 Q else Q false M1
@[simp] def dOr (t u : DT) : DT := fun ρ M Q => t ρ M fun c M1 => if c = true then Q true M1 else u ρ M1 Q
@[simp] def dNot (t : DT) : DT := fun ρ M Q => t ρ M fun c M1 => Q (!c) M1
@[simp] def dChain (f f' : D → D → Mem → DK → Prop) (ta tb tc : DE) : DE := fun ρ M Q => ta ρ M fun x M1 => tb ρ M1 fun y M2 => f x y M2 fun z M3 => blD z fun k => (if k = true then tc ρ M3 fun w M4 => f' y w M4 Q else Q (.bl false) M3)
section
variable {X : Cx} {a b c e : Expr} {es rest : List Expr} {ta tb tc te : DE} {tr : DA} {t u : DT} {pos : Pos}
theorem qa_cons (he : QE X e te) (hr : QA X es tr) (hs : starEach (e :: es) X.env = (false, eval e X.env) :: starEach es X.env := by rfl) : QA X (e :: es) (dCons te tr) := by
  refine wkA (pa_cons he hr hs) fun σ H Q h => ?_
  obtain ⟨F, ρ, M, Q', g, en, h, k⟩ := h
  refine ⟨F, ρ, M, _, g, en, h, fun x H1 F1 M1 dx e1 g1 rx h1 => ?_⟩
  refine ⟨F1, ρ, M1, _, g1, en.ex e1, h1, fun xs H2 F2 M2 ds e2 g2 rs h2 => ?_⟩
  exact k (x :: xs) H2 F2 M2 _ (e1.trans e2) g2 (.cons (rx.ex e2) rs) h2
theorem q_tup {x1} (h : QA X es tr) : QE X (.Tuple es x1 pos) (dTup tr) := by
  refine wkE (pe_tup h) fun σ H Q h => ?_
  obtain ⟨F, ρ, M, Q', g, en, h, k⟩ := h
  refine ⟨F, ρ, M, _, g, en, h, fun xs H1 F1 M1 ds e1 g1 r ⟨hz, h1⟩ => ?_⟩
  exact ⟨by rw [r.len]; exact hz, fun p hp => newT g1 (k.ex e1) r h1 p hp⟩
theorem q_lst (h : QA X es tr) : QE X (.List es pos) (dLst tr) := by
  refine wkE (pe_lst h) fun σ H Q h => ?_
  obtain ⟨F, ρ, M, Q', g, en, h, k⟩ := h
  refine ⟨F, ρ, M, _, g, en, h, fun xs H1 F1 M1 ds e1 g1 r ⟨hz, h1⟩ => ?_⟩
  exact ⟨by rw [r.len]; exact hz, fun p hp => newF g1 (k.ex e1) r h1 p hp⟩
theorem q_lstM (h : QA X es tr) : QE X (.List es pos) (dLstM tr) := by
  refine wkE (pe_lst h) fun σ H Q h => ?_
  obtain ⟨F, ρ, M, Q', g, en, h, k⟩ := h
  refine ⟨F, ρ, M, _, g, en, h, fun xs H1 F1 M1 ds e1 g1 r ⟨hz, h1⟩ => ?_⟩
  exact ⟨by rw [r.len]; exact hz, fun p hp => newM g1 (k.ex e1) r h1 p hp⟩
theorem q_if (hc : QT X c t) (ha : QE X a ta) (hb : QE X b tb) : QE X (.IfExp c a b pos) (dIf t ta tb) := by
  refine wkE (pe_ifExp hc ha hb) fun σ H Q h => ?_
  obtain ⟨F, ρ, M, Q', g, en, h, k⟩ := h
  refine ⟨F, ρ, M, _, g, en, h, fun b H1 F1 M1 e1 g1 h1 => ?_⟩
  cases b with
  | true => exact ⟨F1, ρ, M1, Q', g1, en.ex e1, h1, k.ex e1⟩
  | false => exact ⟨F1, ρ, M1, Q', g1, en.ex e1, h1, k.ex e1⟩
theorem q_one {op} {te : DE} (h : QE X a te) : QE X (.BoolOp op [a] pos) te := pe_one h
theorem q_and (ha : QE X a ta) (hb : QE X (.BoolOp .And (b :: rest) pos) tb) : QE X (.BoolOp .And (a :: b :: rest) pos) (dAndV ta tb) := by
  refine wkE (pe_and ha hb) fun σ H Q h => ?_
  obtain ⟨F, ρ, M, Q', g, en, h, k⟩ := h
  refine ⟨F, ρ, M, _, g, en, h, fun x H1 F1 M1 dx e1 g1 rx h1 => ?_⟩
  obtain ⟨c, ec, h1⟩ := blD.ok h1
  subst ec
  refine ⟨c, rx.bl_of, ?_⟩
  cases c with
  | true => exact ⟨F1, ρ, M1, Q', g1, en.ex e1, h1, k.ex e1⟩
  | false => exact k _ H1 F1 M1 _ e1 g1 (.bl false) h1
theorem q_or (ha : QE X a ta) (hb : QE X (.BoolOp .Or (b :: rest) pos) tb) : QE X (.BoolOp .Or (a :: b :: rest) pos) (dOrV ta tb) := by
  refine wkE (pe_or ha hb) fun σ H Q h => ?_
  obtain ⟨F, ρ, M, Q', g, en, h, k⟩ := h
  refine ⟨F, ρ, M, _, g, en, h, fun x H1 F1 M1 dx e1 g1 rx h1 => ?_⟩
  obtain ⟨c, ec, h1⟩ := blD.ok h1
  subst ec
  refine ⟨c, rx.bl_of, ?_⟩
  cases c with
  | false => exact ⟨F1, ρ, M1, Q', g1, en.ex e1, h1, k.ex e1⟩
  | true => exact k _ H1 F1 M1 _ e1 g1 (.bl true) h1
theorem q_not (ha : QE X a ta) : QE X (.UnaryOp .Not a pos) (dNotV ta) := by
  refine wkE (pe_not ha) fun σ H Q h => ?_
  obtain ⟨F, ρ, M, Q', g, en, h, k⟩ := h
  refine ⟨F, ρ, M, _, g, en, h, fun x H1 F1 M1 dx e1 g1 rx h1 => ?_⟩
  obtain ⟨c, ec, h1⟩ := blD.ok h1
  subst ec
  exact ⟨c, rx.bl_of, k _ H1 F1 M1 _ e1 g1 (.bl _) h1⟩
/-- a bool as a test -/
theorem qt_val (ha : QE X a ta) (he : ∀ whole, isTrue a X.env whole = (do let v ← whole; standAt a.pos; holding [v] (truthy v)) := by intro _; rfl) : QT X a (dTest ta) := by
  refine wkT (pt_val ha he) fun σ H Q h => ?_
  obtain ⟨F, ρ, M, Q', g, en, h, k⟩ := h
  refine ⟨F, ρ, M, _, g, en, h, fun x H1 F1 M1 dx e1 g1 rx h1 => ?_⟩
  obtain ⟨c, ec, h1⟩ := blD.ok h1
  subst ec
  exact ⟨c, rx.bl_of, k c H1 F1 M1 e1 g1 h1⟩
theorem qt_cmp {op : CmpOp} {r : R2} {f : D → D → Mem → DK → Prop} (ho : OpR X (compareOp op) r) (hf : Op2 X.K r f) (ha : QE X a ta) (hb : QE X b tb) (hm : behindInMarks op b = false := by rfl) : QT X (.Compare a [op] [b] pos) (dTest (dOp f ta tb)) := by
  refine wkT (pt_cmpR ho ha hb hm) fun σ H Q h => ?_
  obtain ⟨F, ρ, M, Q', g, en, h, k⟩ := h
  refine lop hf ⟨F, ρ, M, _, g, en, h, fun x H1 F1 M1 dx e1 g1 rx h1 => ?_⟩
  obtain ⟨c, ec, h1⟩ := blD.ok h1
  subst ec
  exact ⟨c, rx.bl_of, k c H1 F1 M1 e1 g1 h1⟩
theorem lchain {K : PySem.W.Frag} {r r' : R2} {f f' : D → D → Mem → DK → Prop} (hf : Op2 K r f) (hf' : Op2 K r' f') {σ : L2.St} {H : Hp} {Q : VK} (h : LE K (dChain f f' ta tb tc) σ H Q) : tChain r r' (LE K ta) (LE K tb) (LE K tc) σ H Q := by
  obtain ⟨F, ρ, M, Q', g, en, h, k⟩ := h
  refine ⟨F, ρ, M, _, g, en, h, fun x H1 F1 M1 dx e1 g1 rx h1 => ?_⟩
  refine ⟨F1, ρ, M1, _, g1, en.ex e1, h1, fun y H2 F2 M2 dy e2 g2 ry h2 => ?_⟩
  refine hf F2 M2 H2 x y dx dy _ _ g2 (rx.ex e2) ry h2 fun z H3 F3 M3 dz e3 g3 rz h3 => ?_
  obtain ⟨c, ec, h3⟩ := blD.ok h3
  subst ec
  refine ⟨c, rz.bl_of, ?_⟩
  cases c with
  | true =>
    refine ⟨F3, ρ, M3, _, g3, (en.ex e1).ex (e2.trans e3), h3, fun w H4 F4 M4 dw e4 g4 rw h4 => ?_⟩
    exact hf' F4 M4 H4 y w dy dw Q' Q g4 (ry.ex (e3.trans e4)) rw h4 (k.ex (((e1.trans e2).trans e3).trans e4))
  | false => exact k _ H3 F3 M3 _ ((e1.trans e2).trans e3) g3 (.bl false) h3
theorem q_chain {op op' : CmpOp} {r r' : R2} {f f' : D → D → Mem → DK → Prop} (ho : OpR X (compareOp op) r) (hf : Op2 X.K r f) (ho' : OpR X (compareOp op') r') (hf' : Op2 X.K r' f') (ha : QE X a ta) (hb : QE X b tb) (hc : QE X c tc)
    (hm : lastMarks [op, op'] [b, c] = false := by with_unfolding_all rfl) : QE X (.Compare a [op, op'] [b, c] pos) (dChain f f' ta tb tc) := wkE (pe_chain ho ho' ha hb hc hm) fun _ _ _ h => lchain hf hf' h
theorem qt_chain {op op' : CmpOp} {r r' : R2} {f f' : D → D → Mem → DK → Prop} (ho : OpR X (compareOp op) r) (hf : Op2 X.K r f) (ho' : OpR X (compareOp op') r') (hf' : Op2 X.K r' f') (ha : QE X a ta) (hb : QE X b tb) (hc : QE X c tc)
    (hm : lastMarks [op, op'] [b, c] = false := by with_unfolding_all rfl) : QT X (.Compare a [op, op'] [b, c] pos) (dTest (dChain f f' ta tb tc)) := by
  refine wkT (pt_chain ho ho' ha hb hc hm) fun σ H Q h => ?_
  obtain ⟨F, ρ, M, Q', g, en, h, k⟩ := h
  refine lchain hf hf' ⟨F, ρ, M, _, g, en, h, fun x H1 F1 M1 dx e1 g1 rx h1 => ?_⟩
  obtain ⟨c, ec, h1⟩ := blD.ok h1
  subst ec
  exact ⟨c, rx.bl_of, k c H1 F1 M1 e1 g1 h1⟩
theorem qw_and1 (ha : QT X a t) : QW X (.BoolOp .And [a] pos) t := pw_and1 ha
theorem qw_or1 (ha : QT X a t) : QW X (.BoolOp .Or [a] pos) t := pw_or1 ha
theorem qw_and (ha : QT X a t) (hb : QW X (.BoolOp .And (b :: rest) pos) u) : QW X (.BoolOp .And (a :: b :: rest) pos) (dAnd t u) := by
  refine wkW (pw_and ha hb) fun σ H Q h => ?_
  obtain ⟨F, ρ, M, Q', g, en, h, k⟩ := h
  refine ⟨F, ρ, M, _, g, en, h, fun b H1 F1 M1 e1 g1 h1 => ?_⟩
  cases b with
  | true => exact ⟨F1, ρ, M1, Q', g1, en.ex e1, h1, k.ex e1⟩
  | false => exact k false H1 F1 M1 e1 g1 h1
theorem qw_or (ha : QT X a t) (hb : QW X (.BoolOp .Or (b :: rest) pos) u) : QW X (.BoolOp .Or (a :: b :: rest) pos) (dOr t u) := by
  refine wkW (pw_or ha hb) fun σ H Q h => ?_
  obtain ⟨F, ρ, M, Q', g, en, h, k⟩ := h
  refine ⟨F, ρ, M, _, g, en, h, fun b H1 F1 M1 e1 g1 h1 => ?_⟩
  cases b with
  | false => exact ⟨F1, ρ, M1, Q', g1, en.ex e1, h1, k.ex e1⟩
  | true => exact k true H1 F1 M1 e1 g1 h1
theorem qt_w {e : Expr} (h : QW X e t) : QT X e t := PW.pt h
theorem qt_not (ha : QT X a t) : QT X (.UnaryOp .Not a pos) (dNot t) := by
  refine wkT (pt_not ha) fun σ H Q h => ?_
  obtain ⟨F, ρ, M, Q', g, en, h, k⟩ := h
  exact ⟨F, ρ, M, _, g, en, h, fun b H1 F1 M1 e1 g1 h1 => k (!b) H1 F1 M1 e1 g1 h1⟩
/-! ### places, slices, built-in calls -/
theorem q_ix {r : R2} {f : D → D → Mem → DK → Prop} (hr : IxR X r) (hf : Op2 X.K r f) (ha : QE X a ta) (hb : QE X b tb) (hs : PlainIx b := by exact fun _ _ => rfl) : QE X (.Subscript a b pos) (dOp f ta tb) := wkE (pe_ix hr ha hb hs) fun _ _ _ h => lop hf h
/-- a bound of a slice -/
abbrev DO := Env' → Mem → (Option Int → Mem → Prop) → Prop
def KOO (K : PySem.W.Frag) (F : Hp) (Q' : Option Int → Mem → Prop) (Q : Option Int → Hp → Prop) : Prop := ∀ b H' F' M', Ex F F' → Good K F' M' H' → Q' b M' → Q b H'
def LO (K : PySem.W.Frag) (t : DO) : TO := fun σ H Q => ∃ F ρ M Q', Good K F M H ∧ EnvD K F σ ρ ∧ t ρ M Q' ∧ KOO K F Q' Q
abbrev QO (X : Cx) (e : Option Expr) (t : DO) : Prop := PO X e (LO X.K t)
@[simp] def dNoP : DO := fun _ M Q => Q none M
@[simp] def dPart (t : DE) : DO := fun ρ M Q => t ρ M fun x M1 => inD x fun i => Q (some i) M1
theorem qo_none : QO X none dNoP := ⟨fun pins s σ H Q I h => po_none.run pins s σ H Q I (by
  obtain ⟨F, ρ, M, Q', g, en, h, k⟩ := h
  exact k none H F M (Ex.refl F) g h)⟩
theorem qo_some (he : QE X e te) : QO X (some e) (dPart te) := ⟨fun pins s σ H Q I h => (po_some he).run pins s σ H Q I (by
  obtain ⟨F, ρ, M, Q', g, en, h, k⟩ := h
  refine ⟨F, ρ, M, _, g, en, h, fun x H1 F1 M1 dx e1 g1 rx h1 => ?_⟩
  obtain ⟨i, ei, h1⟩ := inD.ok h1
  subst ei
  exact ⟨i, rx.int_of, k _ H1 F1 M1 e1 g1 h1⟩)⟩
@[simp] def dSl (f : D → Option Int → Option Int → Mem → DK → Prop) (te : DE) (tl th : DO) : DE := fun ρ M Q => te ρ M fun x M1 => tl ρ M1 fun l M2 => th ρ M2 fun u M3 => f x l u M3 Q
def OpS (K : PySem.W.Frag) (r : V → Option Int → Option Int → Hp → VK → Prop) (f : D → Option Int → Option Int → Mem → DK → Prop) : Prop := ∀ (F : Hp) (M : Mem) (H : Hp) (x : V) (lo hi : Option Int) (dx : D) (Q' : DK) (Q : VK), Good K F M H → Dat K F x dx → f dx lo hi M Q' → KO K F Q' Q → r x lo hi H Q
theorem q_slice {r : V → Option Int → Option Int → Hp → VK → Prop} {f : D → Option Int → Option Int → Mem → DK → Prop} {lo hi : Option Expr} {tl th : DO} {p2 : Pos} (hr : SlR X r) (hf : OpS X.K r f) (he : QE X e te) (hl : QO X lo tl) (hu : QO X hi th) :
    QE X (.Subscript e (.Slice lo hi none p2) pos) (dSl f te tl th) := by
  refine wkE (pe_slice hr he hl hu) fun σ H Q h => ?_
  obtain ⟨F, ρ, M, Q', g, en, h, k⟩ := h
  refine ⟨F, ρ, M, _, g, en, h, fun x H1 F1 M1 dx e1 g1 rx h1 => ?_⟩
  refine ⟨F1, ρ, M1, _, g1, en.ex e1, h1, fun l H2 F2 M2 e2 g2 h2 => ?_⟩
  refine ⟨F2, ρ, M2, _, g2, en.ex (e1.trans e2), h2, fun u H3 F3 M3 e3 g3 h3 => ?_⟩
  exact hf F3 M3 H3 x l u dx Q' Q g3 (rx.ex (e2.trans e3)) h3 (k.ex ((e1.trans e2).trans e3))
def dSlT : D → Option Int → Option Int → Mem → DK → Prop := fun x lo hi M Q => ∃ xs, x = .tup xs ∧ Q (.tup (cut xs lo hi)) M
def dSlL : D → Option Int → Option Int → Mem → DK → Prop := fun x lo hi M Q => lsD M x fun xs => Q (.lst (cut xs lo hi)) M
@[simp] def dSlLM : D → Option Int → Option Int → Mem → DK → Prop := fun x lo hi M Q => lsD M x fun xs => ∀ p, M p = none → Q (.ref p) (put M p (.lst (cut xs lo hi)))
theorem os_slT {K : PySem.W.Frag} : OpS K (rSlA K) dSlT := by
  intro F M H x lo hi dx Q' Q gd rx h k
  obtain ⟨xs, rfl, q⟩ := h
  obtain ⟨a, vs, rfl, hs, r⟩ := rx.tup_of gd
  refine ⟨a, vs, rfl, hs, fun ⟨e1, e2⟩ => ?_, fun _ p hp => newT gd k (cut_dat r lo hi) q p hp⟩
  have e : cut xs lo hi = xs := by
    unfold cut
    rw [r.len] at e1 e2
    rw [e1, e2, List.drop_zero, Nat.sub_zero, List.take_length]
  rw [e] at q
  exact k _ H F M _ (Ex.refl F) gd rx q
theorem os_slL {K : PySem.W.Frag} : OpS K (rSlL K) dSlL := by
  intro F M H x lo hi dx Q' Q gd rx h k
  obtain ⟨xs, hl, q⟩ := lsD.ok h
  obtain ⟨a, vs, rfl, hs, r⟩ := lstD.ok gd rx hl
  exact ⟨a, vs, rfl, hs, fun p hp => newF gd k (cut_dat r lo hi) q p hp⟩
theorem os_slLM {K : PySem.W.Frag} : OpS K (rSlL K) dSlLM := by
  intro F M H x lo hi dx Q' Q gd rx h k
  obtain ⟨xs, hl, q⟩ := lsD.ok h
  obtain ⟨a, vs, rfl, hs, r⟩ := lstD.ok gd rx hl
  exact ⟨a, vs, rfl, hs, fun p hp => newM gd k (cut_dat r lo hi) q p hp⟩
@[simp] def dCB (f : List D → Mem → DK → Prop) (t : DA) : DE := fun ρ M Q => t ρ M fun xs M1 => f xs M1 Q
theorem q_callB {id : String} {x : Str} {p : Pos} {r : List V → Hp → VK → Prop} {f : List D → Mem → DK → Prop} (hc : CallR X (.builtin id) r) (hf : OpA X.K r f) (hm : X.mg x = none) (hv : bootBuiltins x = some (.builtin id)) (ha : QA X (e :: es) tr) (hg : Gl X x := by rfl) (hn : x ≠ "__name__" := by decide) (hdb : (x == ("__debug__" : Str)) = false := by decide)
    (he : starEach (e :: es) X.env = (false, eval e X.env) :: starEach es X.env := by rfl) (hpl : (backTo pos (starEach es X.env)).any (·.1) = false := by rfl) : QE X (.Call (.Name x p) (e :: es) [] pos) (dCB f tr) :=
  wkE (pe_callB hc hg hm hv ha hn hdb he hpl) fun _ _ _ h => lcb hf h
theorem q_callTy {T : String} {x : Str} {p : Pos} {r : List V → Hp → VK → Prop} {f : List D → Mem → DK → Prop} (hc : CallR X (.type T) r) (hf : OpA X.K r f) (hm : X.mg x = none) (hv : bootBuiltins x = some (.type T)) (ha : QA X (e :: es) tr) (hg : Gl X x := by rfl) (hn : x ≠ "__name__" := by decide) (hdb : (x == ("__debug__" : Str)) = false := by decide)
    (he : starEach (e :: es) X.env = (false, eval e X.env) :: starEach es X.env := by rfl) (hpl : (backTo pos (starEach es X.env)).any (·.1) = false := by rfl) : QE X (.Call (.Name x p) (e :: es) [] pos) (dCB f tr) :=
  wkE (pe_callTy hc hg hm hv ha hn hdb he hpl) fun _ _ _ h => lcb hf h
end
end DL

set_option maxHeartbeats 4000000
/-! DLd: statements over data. -/
namespace DL
open PySem PySem.Spec PyProof.Rows L2 Evl
/-! ### targets -/
abbrev DG := D → Env' → Mem → (Env' → Mem → Prop) → Prop
abbrev DGs := List D → Env' → Mem → (Env' → Mem → Prop) → Prop
def LG (K : PySem.W.Frag) (t : DG) : TG := fun v σ H Q => ∃ F ρ M d Q', Good K F M H ∧ EnvD K F σ ρ ∧ Dat K F v d ∧ t d ρ M Q' ∧ KOS K F Q' Q
def LGs (K : PySem.W.Frag) (t : DGs) : TGs := fun vs σ H Q => ∃ F ρ M ds Q', Good K F M H ∧ EnvD K F σ ρ ∧ DatAll K F vs ds ∧ t ds ρ M Q' ∧ KOS K F Q' Q
abbrev QG (X : Cx) (e : Expr) (t : DG) : Prop := PG X e (LG X.K t)
abbrev QGs (X : Cx) (es : List Expr) (t : DGs) : Prop := PGs X es (LGs X.K t)
theorem wkG {X : Cx} {e : Expr} {t t' : TG} (h : PG X e t) (w : ∀ v σ H Q, t' v σ H Q → t v σ H Q) : PG X e t' := ⟨fun pins s σ H v u Q I r q => h.run pins s σ H v u Q I r (w v σ H Q q)⟩
theorem wkGs {X : Cx} {e : List Expr} {t t' : TGs} (h : PGs X e t) (w : ∀ v σ H Q, t' v σ H Q → t v σ H Q) : PGs X e t' := ⟨fun pins s σ H v u Q I r q => h.run pins s σ H v u Q I r (w v σ H Q q)⟩
@[simp] def dgName (i : Nat) : DG := fun d ρ M Q => Q (ρ.set i (some d)) M
@[simp] def dgNil : DGs := fun ds ρ M Q => ds = [] ∧ Q ρ M
def dgCons (t : DG) (u : DGs) : DGs
  | d :: r, ρ, M, Q => t d ρ M fun ρ' M' => u r ρ' M' Q
  | [], _, _, _ => False
@[simp] theorem dgCons_e1 {t} {u} {d r ρ} : dgCons t u (d :: r) ρ M Q = (t d ρ M fun ρ' M' => u r ρ' M' Q) := rfl
def tpD : D → (List D → Prop) → Prop
  | .tup c, p => p c
  | _, _ => False
@[simp] theorem tpD_e1 {c p} : tpD (.tup c) p = (p c) := rfl
theorem tpD.ok {x : D} {p : List D → Prop} (h : tpD x p) : ∃ c, x = .tup c ∧ p c := by
  cases x with
  | tup c => exact ⟨c, rfl, h⟩
  | _ => exact h.elim
@[simp] def dgTup (n : Nat) (t : DGs) : DG := fun d ρ M Q => tpD d fun xs => xs.length = n ∧ t xs ρ M Q
@[simp] def dgSub (to ti : DE) (t : D → D → D → Mem → (Mem → Prop) → Prop) : DG := fun d ρ M Q => to ρ M fun o M1 => ti ρ M1 fun i M2 => t o i d M2 fun M3 => Q ρ M3
/-- a store by values, over data -/
def OpP (K : PySem.W.Frag) (r : TSet) (f : D → D → D → Mem → (Mem → Prop) → Prop) : Prop := ∀ (F : Hp) (M : Mem) (H : Hp) (o i v : V) (do_ di dv : D) (Q' : Mem → Prop) (Q : Hp → Prop), Good K F M H → Dat K F o do_ → Dat K F i di → Dat K F v dv → f do_ di dv M Q' →
  (∀ H' F' M', Ex F F' → Good K F' M' H' → Q' M' → Q H') → r o i v H Q
section
variable {X : Cx} {a b c e tg : Expr} {es rest : List Expr} {ta tb tc te : DE} {tr : DA} {t u : DT} {pos : Pos} {g : DG} {gs : DGs}
theorem qg_name {x : Str} (i : Nat) (hN : X.N.Nodup) (hi : X.N[i]? = some x := by rfl) (hx : Loc X.env.scope x := by first | exact Or.inl rfl | exact Or.inr rfl) (hf : X.fn x = true ∨ X.env.scope.names.lookup x = some .local := by first | exact .inl rfl | exact .inr rfl | assumption) : QG X (.Name x pos) (dgName i) := by
  refine wkG (pg_name (i := i) hN hi hx hf) fun v σ H Q h => ?_
  obtain ⟨F, ρ, M, d, Q', g, en, r, h, k⟩ := h
  exact k _ H F _ M (Ex.refl F) g (en.set i r) h
theorem qgs_nil : QGs X [] dgNil := wkGs pgs_nil fun vs σ H Q h => by
  obtain ⟨F, ρ, M, ds, Q', g, en, r, ⟨e, h⟩, k⟩ := h
  subst e
  exact ⟨r.nil_of, k σ H F ρ M (Ex.refl F) g en h⟩
theorem qgs_cons (h1 : QG X e g) (h2 : QGs X es gs) (hs : (assignEach (e :: es) X.env).map (·.2) = assign e X.env :: (assignEach es X.env).map (·.2) := by rfl) : QGs X (e :: es) (dgCons g gs) := by
  refine wkGs (pgs_cons h1 h2 hs) fun vs σ H Q h => ?_
  obtain ⟨F, ρ, M, ds, Q', g, en, r, h, k⟩ := h
  cases r with
  | nil => exact h.elim
  | @cons _ _ d rs rv rr =>
    refine ⟨_, _, rfl, F, ρ, M, d, _, g, en, rv, h, fun σ1 H1 F1 ρ1 M1 e1 g1 en1 h1 => ?_⟩
    exact ⟨F1, ρ1, M1, rs, Q', g1, en1, rr.ex e1, h1, k.ex e1⟩
theorem qg_tup {kk n : Nat} (hc : X.calm = true) (h : QGs X es gs) (hn : (assignEach es X.env).length = n := by rfl) (hst : (assignEach es X.env).findIdx? (·.1) = none := by rfl) : QG X (.Tuple es kk pos) (dgTup n gs) := by
  refine wkG (pg_tup hc h hn hst) fun v σ H Q h => ?_
  obtain ⟨F, ρ, M, d, Q', g, en, r, h, k⟩ := h
  have h' : tpD d fun xs => xs.length = n ∧ gs xs ρ M Q' := h
  clear h
  obtain ⟨xs, e, hl, h⟩ := tpD.ok h'
  clear h'
  subst e
  obtain ⟨a, vs, rfl, hs, rs⟩ := r.tup_of g
  exact ⟨a, vs, rfl, hs, by rw [rs.len]; exact hl, F, ρ, M, xs, Q', g, en, rs, h, k⟩
theorem qg_sub {o i : Expr} {to ti : DE} {t : TSet} {f : D → D → D → Mem → (Mem → Prop) → Prop} (ho : QE X o to) (hi : QE X i ti) (hs : PSet X t) (hf : OpP X.K t f)
    (ha : ∀ v, assign (.Subscript o i pos) X.env v = (do
      let ov ← holding [v] (eval o X.env)
      let iv ← holding [v, ov] (eval i X.env)
      standAt pos
      holding [v, ov, iv] (setItem ov iv v)
      release [v, ov, iv] []) := by intro _; rfl) : QG X (.Subscript o i pos) (dgSub to ti f) := by
  refine wkG (pg_sub ho hi hs ha) fun v σ H Q h => ?_
  obtain ⟨F, ρ, M, d, Q', g, en, r, h, k⟩ := h
  refine ⟨F, ρ, M, _, g, en, h, fun x H1 F1 M1 dx e1 g1 rx h1 => ?_⟩
  refine ⟨F1, ρ, M1, _, g1, en.ex e1, h1, fun y H2 F2 M2 dy e2 g2 ry h2 => ?_⟩
  exact hf F2 M2 H2 x y v dx dy d _ _ g2 (rx.ex e2) ry (r.ex (e1.trans e2)) h2 fun H3 F3 M3 e3 g3 h3 => k σ H3 F3 ρ M3 ((e1.trans e2).trans e3) g3 (en.ex ((e1.trans e2).trans e3)) h3
/-- xs[i] = v -/
def dSetL : D → D → D → Mem → (Mem → Prop) → Prop
  | .ref p, .int k, v, M, Q => celL (M p) fun xs => opD (ixN xs.length k) fun j => Q (put M p (.lst (xs.set j v)))
  | _, _, _, _, _ => False
@[simp] theorem dSetL_e1 {p k v} : dSetL (.ref p) (.int k) v M Q = (celL (M p) fun xs => opD (ixN xs.length k) fun j => Q (put M p (.lst (xs.set j v)))) := rfl
theorem op_setL {K : PySem.W.Frag} : OpP K rSetL dSetL := by
  intro F M H o i v do_ di dv Q' Q g ro ri rv h k
  obtain ⟨p, xs, n, j, rfl, rfl, e, hj, h⟩ : ∃ p xs k j, do_ = .ref p ∧ di = .int k ∧ M p = some (.lst xs) ∧ ixN xs.length k = some j ∧ Q' (put M p (.lst (xs.set j dv))) := by
    unfold dSetL at h
    split at h
    · obtain ⟨xs, e, h⟩ := celL.ok h
      obtain ⟨j, e2, h⟩ := opD.ok h
      exact ⟨_, xs, _, j, rfl, rfl, e, e2, h⟩
    · exact h.elim
  obtain ⟨hf, vs, hv, r⟩ := g.mem p _ e
  refine ⟨p, vs, n, j, ro.ref_of, ri.int_of, hv, by rw [r.len]; exact hj, ?_⟩
  exact k _ F _ (Ex.refl F) (g.setL e (r.set rv j)) h
end
/-! ### statements -/
@[simp] def dSeq (t u : DS) : DS := fun D ρ M => t { D with nx := u D } ρ M
@[simp] def dNext : DS := fun D ρ M => D.nx ρ M
@[simp] def dBreak : DS := fun D ρ M => D.bk ρ M
@[simp] def dCont : DS := fun D ρ M => D.ct ρ M
@[simp] def dRet (te : DE) : DS := fun D ρ M => te ρ M D.rt
@[simp] def dRetN : DS := fun D _ M => D.rt .non M
@[simp] def dDrop (te : DE) : DS := fun D ρ M => te ρ M fun _ M1 => D.nx ρ M1
@[simp] def dIfS (c : DT) (t u : DS) : DS := fun D ρ M => c ρ M fun b M1 => if b = true then t D ρ M1 else u D ρ M1
@[simp] def dAsg (te : DE) (g : DG) : DS := fun D ρ M => te ρ M fun x M1 => g x ρ M1 D.nx
def dNever : DS := fun _ _ _ => False
section
variable {X : Cx} {st : Stmt} {sts rest : List Stmt} {a b c e tg : Expr} {es : List Expr} {ta tb tc te : DE} {tr : DA} {c' : DT} {t u : DS} {pos : Pos} {g : DG} {gs : DGs}
theorem qs_nil : QSs X [] dNext := wkSs pss_nil fun D σ H h => by
  obtain ⟨F, ρ, M, DD, g, en, h, k⟩ := h
  exact k.nx σ H F ρ M (Ex.refl F) g en h
theorem qs_cons (h1 : QS X st t) (h2 : QSs X rest u) : QSs X (st :: rest) (dSeq t u) := wkSs (pss_cons h1 h2) fun D σ H h => by
  obtain ⟨F, ρ, M, DD, g, en, h, k⟩ := h
  refine ⟨F, ρ, M, _, g, en, h, ⟨fun σ1 H1 F1 ρ1 M1 e1 g1 en1 h1 => ⟨F1, ρ1, M1, DD, g1, en1, h1, k.ex e1⟩, k.rt, k.bk, k.ct⟩⟩
theorem qs_one (h1 : QS X st t) : QSs X [st] t := pss_one h1
theorem qs_pass : QS X (.Pass pos) dNext := wkS ps_pass fun D σ H h => by
  obtain ⟨F, ρ, M, DD, g, en, h, k⟩ := h
  exact k.nx σ H F ρ M (Ex.refl F) g en h
theorem qs_break : QS X (.Break pos) dBreak := wkS ps_break fun D σ H h => by
  obtain ⟨F, ρ, M, DD, g, en, h, k⟩ := h
  exact k.bk σ H F ρ M (Ex.refl F) g en h
theorem qs_continue : QS X (.Continue pos) dCont := wkS ps_continue fun D σ H h => by
  obtain ⟨F, ρ, M, DD, g, en, h, k⟩ := h
  exact k.ct σ H F ρ M (Ex.refl F) g en h
theorem qs_ret (he : QE X e te) : QS X (.Return (some e) pos) (dRet te) := wkS (ps_ret he) fun D σ H h => by
  obtain ⟨F, ρ, M, DD, g, en, h, k⟩ := h
  exact ⟨F, ρ, M, DD.rt, g, en, h, k.rt⟩
theorem qs_retN : QS X (.Return none pos) dRetN := wkS ps_retN fun D σ H h => by
  obtain ⟨F, ρ, M, DD, g, en, h, k⟩ := h
  exact k.rt _ H F M _ (Ex.refl F) g .non h
theorem qs_expr (he : QE X e te) (hs : swapsWith e none pos.line X.env = pure false := by rfl) : QS X (.Expr e pos) (dDrop te) := wkS (ps_expr he hs) fun D σ H h => by
  obtain ⟨F, ρ, M, DD, g, en, h, k⟩ := h
  exact ⟨F, ρ, M, _, g, en, h, fun x H1 F1 M1 dx e1 g1 rx h1 => k.nx σ H1 F1 ρ M1 e1 g1 (en.ex e1) h1⟩
theorem qs_if {x y : List Stmt} (hc : QT X c c') (ha : QSs X x t) (hb : QSs X y u) : QS X (.If c x y pos) (dIfS c' t u) := wkS (ps_if hc ha hb) fun D σ H h => by
  obtain ⟨F, ρ, M, DD, g, en, h, k⟩ := h
  refine ⟨F, ρ, M, _, g, en, h, fun b H1 F1 M1 e1 g1 h1 => ?_⟩
  cases b with
  | true => exact ⟨F1, ρ, M1, DD, g1, en.ex e1, h1, k.ex e1⟩
  | false => exact ⟨F1, ρ, M1, DD, g1, en.ex e1, h1, k.ex e1⟩
theorem qs_asg (he : QE X e te) (hg : QG X tg g) (hs : swapsWithSole [tg] e pos.line X.env = pure false := by rfl) (hw : swappedStores [tg] e X.env = pure none := by rfl)
    (h1 : (assignEach [tg] X.env).map (·.2) = [assign tg X.env] := by rfl) : QS X (.Assign [tg] e pos) (dAsg te g) := wkS (ps_asg he hg hs hw h1) fun D σ H h => by
  obtain ⟨F, ρ, M, DD, g, en, h, k⟩ := h
  exact ⟨F, ρ, M, _, g, en, h, fun x H1 F1 M1 dx e1 g1 rx h1 => ⟨F1, ρ, M1, dx, DD.nx, g1, en.ex e1, rx, h1, k.nx.ex e1⟩⟩
theorem qs_set {i : Nat} {x : Str} {pos' : Pos} (hN : X.N.Nodup) (he : QE X e te) (hi : X.N[i]? = some x := by rfl) (hx : Loc X.env.scope x := by first | exact Or.inl rfl | exact Or.inr rfl) (hs : swapsWith e (some (.Name x pos')) pos.line X.env = pure false := by rfl) (hf : X.fn x = true ∨ X.env.scope.names.lookup x = some .local := by first | exact .inl rfl | exact .inr rfl | assumption) :
    QS X (.Assign [.Name x pos'] e pos) (dAsg te (dgName i)) := wkS (ps_set (i := i) hN hi hx he hs hf) fun D σ H h => by
  obtain ⟨F, ρ, M, DD, g, en, h, k⟩ := h
  exact ⟨F, ρ, M, _, g, en, h, fun x H1 F1 M1 dx e1 g1 rx h1 => k.nx _ H1 F1 _ M1 e1 g1 ((en.ex e1).set i rx) h1⟩
/-- a, b = x, y of plain local names -/
def twoD : List D → (D → D → Prop) → Prop
  | [v, w], p => p v w
  | _, _ => False
@[simp] theorem twoD_e1 {v w p} : twoD [v, w] p = (p v w) := rfl
@[simp] def dPar (i j : Nat) (ta : DA) : DS := fun D ρ M => ta ρ M fun ds M1 => twoD ds fun v w => D.nx ((ρ.set i (some v)).set j (some w)) M1
theorem DatAll.two {K : PySem.W.Frag} {F : Hp} {vs : List V} {x y : D} (r : DatAll K F vs [x, y]) : ∃ v w, vs = [v, w] ∧ Dat K F v x ∧ Dat K F w y := by
  cases r with
  | cons h1 r => cases r with
    | cons h2 r => cases r; exact ⟨_, _, rfl, h1, h2⟩
theorem qs_par {i j : Nat} {x y : Str} {px py pt : Pos} {kt k2 pt2} (hc : X.calm = true) (hN : X.N.Nodup) (ha : QA X [a, b] tr) (hi : X.N[i]? = some x := by rfl) (hj : X.N[j]? = some y := by rfl) (hij : i ≠ j := by decide)
    (hx : X.env.scope.names.lookup x = some .local := by rfl) (hy : X.env.scope.names.lookup y = some .local := by rfl)
    (hw : swappedStores [.Tuple [.Name x px, .Name y py] kt pt] (.Tuple [a, b] k2 pt2) X.env = pure (some [x, y]) := by rfl)
    (hs : swapsWithSole [.Tuple [.Name x px, .Name y py] kt pt] (.Tuple [a, b] k2 pt2) pos.line X.env = pure false := by rfl) :
    QS X (.Assign [.Tuple [.Name x px, .Name y py] kt pt] (.Tuple [a, b] k2 pt2) pos) (dPar i j tr) := wkS (ps_par hc hN hi hj hij hx hy ha hw hs) fun D σ H h => by
  obtain ⟨F, ρ, M, DD, g, en, h, k⟩ := h
  refine ⟨F, ρ, M, _, g, en, h, fun vs H1 F1 M1 ds e1 g1 r h1 => ?_⟩
  obtain ⟨v, w, e⟩ : ∃ v w, ds = [v, w] := by
    unfold twoD at h1
    split at h1
    · exact ⟨_, _, rfl⟩
    · exact h1.elim
  subst e
  obtain ⟨v', w', rfl, r1, r2⟩ := r.two
  exact ⟨v', w', rfl, k.nx _ H1 F1 _ M1 e1 g1 (((en.ex e1).set i r1).set j r2) h1⟩
theorem qs_never : QS X st dNever := wkS ps_never fun D σ H h => by
  obtain ⟨F, ρ, M, DD, g, en, h, k⟩ := h
  exact h
theorem qss_never : QSs X sts dNever := wkSs pss_never fun D σ H h => by
  obtain ⟨F, ρ, M, DD, g, en, h, k⟩ := h
  exact h
/-- a local list is not to change any more (a step of the proof alone) -/
def refD : D → (Addr → Prop) → Prop
  | .ref c, p => p c
  | _, _ => False
@[simp] theorem refD_e1 {c p} : refD (.ref c) p = (p c) := rfl
theorem refD.ok {x : D} {p : Addr → Prop} (h : refD x p) : ∃ c, x = .ref c ∧ p c := by
  cases x with
  | ref c => exact ⟨c, rfl, h⟩
  | _ => exact h.elim
@[simp] def dFrz (i : Nat) (t : DS) : DS := fun D ρ M => slotD (ρ[i]?) fun d => refD d fun p => celL (M p) fun xs => t D (ρ.set i (some (.lst xs))) (drp M p)
theorem qs_frz (i : Nat) (h : QSs X sts t) : QSs X sts (dFrz i t) := wkSs h fun D σ H h => by
  obtain ⟨F, ρ, M, DD, g, en, hh, k⟩ := h
  obtain ⟨p, xs, hi, hp, h⟩ : ∃ p xs, ρ[i]? = some (some (.ref p)) ∧ M p = some (.lst xs) ∧ t DD (ρ.set i (some (.lst xs))) (drp M p) := by
    unfold dFrz at hh
    obtain ⟨d, e1, h2⟩ := slotD.ok hh
    obtain ⟨p, e2, h3⟩ := refD.ok h2
    obtain ⟨xs, e3, h4⟩ := celL.ok h3
    rw [e2] at e1
    exact ⟨p, xs, e1, e3, h4⟩
  obtain ⟨vs, g1, ex, r⟩ := g.freeze hp
  obtain ⟨v, hv, rv⟩ := en.at_ i _ hi
  obtain rfl := rv.ref_of
  have en1 := (en.ex ex).set i r
  have e2 : σ.set i (some (V.ref p)) = σ := by
    refine List.ext_getElem? fun j => ?_
    rw [List.getElem?_set]
    by_cases q : i = j
    · subst q
      rw [if_pos rfl, hv]
      by_cases l : i < σ.length
      · rw [if_pos l]
      · rw [List.getElem?_eq_none (by omega)] at hv; cases hv
    · rw [if_neg q]
  rw [e2] at en1
  exact ⟨_, _, _, DD, g1, en1, h, k.ex ex⟩
/-! ### loops -/
def DW (K : PySem.W.Frag) (J : It) (F : Hp) (N : Mem → Prop) (xs : List D) : Prop := ∃ (G : Hp → Prop) (Y : Nat → Hp → V → Hp → Prop), Walk J xs.length G Y ∧ (∀ F' M' H', Ex F F' → Good K F' M' H' → N M' → G H') ∧
  ∀ i x H H' F' M', Ex F F' → Good K F' M' H → N M' → i < xs.length → Y i H x H' → ∃ F'' d, Ex F' F'' ∧ Good K F'' M' H' ∧ xs[i]? = some d ∧ Dat K F'' x d ∧ ∀ a, H a ≠ none → H' a = H a
abbrev DI := Env' → Mem → ((Mem → Prop) → List D → Mem → Prop) → Prop
def LI (K : PySem.W.Frag) (t : DI) : TI := fun σ H R => ∃ F ρ M Q', Good K F M H ∧ EnvD K F σ ρ ∧ t ρ M Q' ∧ ∀ J H' F' M' N xs, Ex F F' → Good K F' M' H' → DW K J F' N xs → Q' N xs M' → R J H'
abbrev QI (X : Cx) (tg e : Expr) (t : DI) : Prop := PI X tg e (LI X.K t)
theorem wkI {t t' : TI} (h : PI X tg e t) (w : ∀ σ H Q, t' σ H Q → t σ H Q) : PI X tg e t' := ⟨fun pins s σ H Q I q => h.run pins s σ H Q I (w σ H Q q)⟩
def dLoop (N : Mem → Prop) (g : DG) (b : DS) (D : DEnds) : List DL.D → Env' → Mem → Prop
  | [], ρ, M => D.nx ρ M
  | x :: xs, ρ, M => g x ρ M fun ρ1 M1 => b { D with nx := fun ρ' M' => N M' ∧ dLoop N g b D xs ρ' M', ct := fun ρ' M' => N M' ∧ dLoop N g b D xs ρ' M', bk := D.nx } ρ1 M1
@[simp] def dFor (di : DI) (g : DG) (b : DS) : DS := fun D ρ M => di ρ M fun N xs M1 => N M1 ∧ dLoop N g b D xs ρ M1
theorem qs_for {iter : Expr} {body : List Stmt} {di : DI} (hp : PassesOwn (model X.prog X.w) X.A X.env X.xe) (hc : X.calm = true) (hi : QI X tg iter di) (hg : QG X tg g) (hb : QSs X body t)
    (hs : ∀ x, foldedSetIterable iter X.env x = pure x := by intro _; rfl) : QS X (.For tg iter body [] pos) (dFor di g t) := wkS (ps_for hp hc hi hg hb hs) fun DE σ H h => by
  obtain ⟨F, ρ, M, DD, gd, en, h, k⟩ := h
  refine ⟨F, ρ, M, _, gd, en, h, fun J H1 F1 M1 N xs e1 g1 dw ⟨hN, h1⟩ => ?_⟩
  obtain ⟨G, Y, w, hG, hY⟩ := dw
  refine for_it w (fun i σ' H' => i ≤ xs.length ∧ ∃ F' ρ' M', Ex F1 F' ∧ Good X.K F' M' H' ∧ EnvD X.K F' σ' ρ' ∧ N M' ∧ dLoop N g t DD (xs.drop i) ρ' M') ⟨Nat.zero_le _, F1, ρ, M1, Ex.refl _, g1, en.ex e1, hN, by simpa using h1⟩ ?_ ?_ ?_
  · rintro i σ' H' _ ⟨_, F', ρ', M', ex, g', _, hn, _⟩
    exact hG F' M' H' ex g' hn
  · rintro i x σ' H' H2 hi ⟨_, F', ρ', M', ex, g', en', hn, hl⟩ y
    obtain ⟨F2, d, e2, g2, hd, rd, _⟩ := hY i x H' H2 F' M' ex g' hn hi y
    have hdr : xs.drop i = d :: xs.drop (i + 1) := by
      obtain ⟨h1, h2⟩ := List.getElem?_eq_some_iff.mp hd
      rw [← h2]; exact List.drop_eq_getElem_cons h1
    rw [hdr] at hl
    refine ⟨F2, ρ', M', d, _, g2, en'.ex e2, rd, hl, fun σ3 H3 F3 ρ3 M3 e3 g3 en3 h3 => ?_⟩
    have all : Ex F1 F3 := (ex.trans e2).trans e3
    refine ⟨F3, ρ3, M3, _, g3, en3, h3, ⟨?_, k.rt.ex (e1.trans all), k.nx.ex (e1.trans all), ?_⟩⟩
    · exact fun σ4 H4 F4 ρ4 M4 e4 g4 en4 ⟨n4, h4⟩ => ⟨hi, F4, ρ4, M4, all.trans e4, g4, en4, n4, h4⟩
    · exact fun σ4 H4 F4 ρ4 M4 e4 g4 en4 ⟨n4, h4⟩ => ⟨hi, F4, ρ4, M4, all.trans e4, g4, en4, n4, h4⟩
  · rintro σ' H' ⟨_, F', ρ', M', ex, g', en', hn, hl⟩
    rw [List.drop_length] at hl
    exact k.nx σ' H' F' ρ' M' (e1.trans ex) g' en' hl
/-- while, by a word W over a number that falls -/
def dWhile (c : DT) (b : DS) : DS := fun D ρ M => ∃ W : Nat → Env' → Mem → Prop, (∃ m, W m ρ M) ∧ ∀ m ρ M, W m ρ M →
  c ρ M fun k M1 => if k = true then b { D with nx := fun ρ' M' => ∃ m', m' < m ∧ W m' ρ' M', ct := fun ρ' M' => ∃ m', m' < m ∧ W m' ρ' M', bk := D.nx } ρ M1 else D.nx ρ M1
theorem qs_while {body : List Stmt} (hp : PassesOwn (model X.prog X.w) X.A X.env X.xe) (hc : QT X c c') (hb : QSs X body t) : QS X (.While c body [] pos) (dWhile c' t) := wkS (ps_while hp hc hb) fun DE σ H h => by
  obtain ⟨F, ρ, M, DD, gd, en, ⟨W, ⟨m0, w0⟩, h⟩, k⟩ := h
  refine ⟨fun m σ' H' => ∃ F' ρ' M', Ex F F' ∧ Good X.K F' M' H' ∧ EnvD X.K F' σ' ρ' ∧ W m ρ' M', ⟨m0, F, ρ, M, Ex.refl F, gd, en, w0⟩, ?_⟩
  rintro m σ' H' ⟨F', ρ', M', ex, g', en', w⟩
  refine ⟨F', ρ', M', _, g', en', h m ρ' M' w, fun b H1 F1 M1 e1 g1 h1 => ?_⟩
  cases b with
  | false => exact k.nx σ' H1 F1 ρ' M1 (ex.trans e1) g1 (en'.ex e1) h1
  | true =>
    refine ⟨fun σ2 H2 => ∃ m', m' < m ∧ ∃ F' ρ' M', Ex F F' ∧ Good X.K F' M' H2 ∧ EnvD X.K F' σ2 ρ' ∧ W m' ρ' M', fun σ2 H2 ⟨m', l, q⟩ => ⟨m', l, q⟩, ?_⟩
    have all := ex.trans e1
    refine ⟨F1, ρ', M1, _, g1, en'.ex e1, h1, ⟨?_, k.rt.ex all, k.nx.ex all, ?_⟩⟩
    · exact fun σ4 H4 F4 ρ4 M4 e4 g4 en4 ⟨m', l, q⟩ => ⟨m', l, F4, ρ4, M4, all.trans e4, g4, en4, q⟩
    · exact fun σ4 H4 F4 ρ4 M4 e4 g4 en4 ⟨m', l, q⟩ => ⟨m', l, F4, ρ4, M4, all.trans e4, g4, en4, q⟩
/-! ### what is walked -/
@[simp] def diT (te : DE) : DI := fun ρ M R => te ρ M fun d M1 => tpD d fun xs => R (fun _ => True) xs M1
def itD : D → Mem → ((Mem → Prop) → List D → Mem → Prop) → Prop
  | .lst xs, M, R => R (fun _ => True) xs M
  | .scr xs, M, R => R (fun _ => True) xs M
  | .ref p, M, R => celL (M p) fun xs => R (fun M' => M' p = some (.lst xs)) xs M
  | _, _, _ => False
@[simp] theorem itD_e1 {xs} : itD (.lst xs) M R = (R (fun _ => True) xs M) := rfl
@[simp] theorem itD_e2 {xs} : itD (.scr xs) M R = (R (fun _ => True) xs M) := rfl
@[simp] theorem itD_e3 {p} : itD (.ref p) M R = (celL (M p) fun xs => R (fun M' => M' p = some (.lst xs)) xs M) := rfl
@[simp] def diL (te : DE) : DI := fun ρ M R => te ρ M fun d M1 => itD d M1 R
theorem dw_list {K : PySem.W.Frag} {F : Hp} {a : Addr} {vs : List V} {ds : List D} (h : SqL K F a vs) (r : DatAll K F vs ds) : DW K (Itl K a) F (fun _ => True) ds := by
  refine ⟨fun H => SqL K H a vs, YAt vs, by rw [← r.len]; exact walk_list, fun F' M' H' ex g _ => ex_l g.sub (ex_l ex h), ?_⟩
  rintro i x H H' F' M' ex g _ hi ⟨rfl, hx⟩
  obtain ⟨d, h1, h2⟩ := r.vat hx
  exact ⟨F', d, Ex.refl _, g, h1, h2.ex ex, fun _ _ => rfl⟩
theorem dw_tup {K : PySem.W.Frag} {F : Hp} {a : Addr} {vs : List V} {ds : List D} (h : SqT K F a vs) (r : DatAll K F vs ds) : DW K (Itt K a) F (fun _ => True) ds := by
  refine ⟨fun H => SqT K H a vs, YAt vs, by rw [← r.len]; exact walk_tup, fun F' M' H' ex g _ => ex_t g.sub (ex_t ex h), ?_⟩
  rintro i x H H' F' M' ex g _ hi ⟨rfl, hx⟩
  obtain ⟨d, h1, h2⟩ := r.vat hx
  exact ⟨F', d, Ex.refl _, g, h1, h2.ex ex, fun _ _ => rfl⟩
theorem qi_tup (he : QE X e te) : QI X tg e (diT te) := wkI (pi_tup he) fun σ H R h => by
  obtain ⟨F, ρ, M, Q', gd, en, h, k⟩ := h
  refine ⟨F, ρ, M, _, gd, en, h, fun x H1 F1 M1 dx e1 g1 rx h1 => ?_⟩
  obtain ⟨xs, e, h1⟩ := tpD.ok h1
  subst e
  cases rx with
  | tup hq r => exact ⟨_, rfl, ⟨_, ex_t g1.sub hq⟩, k _ H1 F1 M1 _ xs e1 g1 (dw_tup hq r) h1⟩
theorem qi_list (he : QE X e te) : QI X tg e (diL te) := wkI (pi_list he) fun σ H R h => by
  obtain ⟨F, ρ, M, Q', gd, en, h, k⟩ := h
  refine ⟨F, ρ, M, _, gd, en, h, fun x H1 F1 M1 dx e1 g1 rx h1 => ?_⟩
  cases rx with
  | lst hq r => exact ⟨_, rfl, ⟨_, sq_of (g1.sub _ _ hq)⟩, k _ H1 F1 M1 _ _ e1 g1 (dw_list (sq_of hq) r) h1⟩
  | scr hq r => exact ⟨_, rfl, ⟨_, ex_l g1.sub hq⟩, k _ H1 F1 M1 _ _ e1 g1 (dw_list hq r) h1⟩
  | ref p =>
    obtain ⟨xs, hp, h1⟩ := celL.ok h1
    obtain ⟨hf, vs, hv, r⟩ := g1.mem p _ hp
    refine ⟨p, rfl, ⟨_, sq_of hv⟩, k _ H1 F1 M1 _ xs e1 g1 ?_ h1⟩
    refine ⟨fun H => ∃ vs, SqL X.K H p vs ∧ vs.length = xs.length, fun i H x H' => H' = H ∧ ∀ vs, SqL X.K H p vs → vs[i]? = some x, ?_, ?_, ?_⟩
    · refine ⟨fun i H hi ⟨vs, q, l⟩ => ⟨vs, vs[i]'(by omega), q, by simp [show i < vs.length by omega]⟩, fun H ⟨vs, q, l⟩ => ⟨vs, q, by omega⟩, fun i H x H' hi _ y => y⟩
    · intro F' M' H' ex g' n'
      obtain ⟨_, ws, hw, rw⟩ := g'.mem p _ n'
      exact ⟨ws, sq_of hw, rw.len⟩
    · rintro i x H H' F' M' ex g' n' hi ⟨rfl, hx⟩
      obtain ⟨_, ws, hw, rw⟩ := g'.mem p _ n'
      obtain ⟨d, h1, h2⟩ := rw.vat (hx ws (sq_of hw))
      exact ⟨F', d, Ex.refl _, g', h1, h2, fun _ _ => rfl⟩
  | _ => exact h1.elim
/-- range(n), range(a, b) -/
def rngD (lo : Int) (n : Nat) : List D := (List.range n).map fun (i : Nat) => .int (lo + (i : Int))
def int1D : List D → (Int → Prop) → Prop
  | [.int j], p => p j
  | _, _ => False
@[simp] theorem int1D_e1 {j p} : int1D [.int j] p = (p j) := rfl
def int2D : List D → (Int → Int → Prop) → Prop
  | [.int i, .int j], p => p i j
  | _, _ => False
@[simp] theorem int2D_e1 {i j p} : int2D [.int i, .int j] p = (p i j) := rfl
@[simp] def diR1 (ta : DA) : DI := fun ρ M R => ta ρ M fun ds M1 => int1D ds fun j => -(2 ^ 62) ≤ j ∧ j < 2 ^ 62 ∧ R (fun _ => True) (rngD 0 j.toNat) M1
@[simp] def diR2 (ta : DA) : DI := fun ρ M R => ta ρ M fun ds M1 => int2D ds fun i j => (-(2 ^ 62) ≤ i ∧ i < 2 ^ 62 ∧ -(2 ^ 62) ≤ j ∧ j < 2 ^ 62) ∧ R (fun _ => True) (rngD i (j - i).toNat) M1
theorem dw_range {K : PySem.W.Frag} {F : Hp} {lo : Int} {n : Nat} : DW K (Itr lo n) F (fun _ => True) (rngD lo n) := by
  have hl : (rngD lo n).length = n := by simp [rngD]
  refine ⟨fun _ => True, YFn fun i => .int (lo + i), by rw [hl]; exact walk_range, fun _ _ _ _ _ _ => trivial, ?_⟩
  rintro i x H H' F' M' ex g _ hi ⟨rfl, rfl⟩
  rw [hl] at hi
  exact ⟨F', .int (lo + i), Ex.refl _, g, by simp [rngD, hi], .int _, fun _ _ => rfl⟩
theorem DatAll.one {K : PySem.W.Frag} {F : Hp} {vs : List V} {x : D} (r : DatAll K F vs [x]) : ∃ v, vs = [v] ∧ Dat K F v x := by
  cases r with
  | cons h1 r => cases r; exact ⟨_, rfl, h1⟩
theorem qi_range1 {p pos : Pos} (hm : X.mg "range" = none) (ha : QA X [a] tr) (hg : Gl X "range" := by rfl) (hs : starEach [a] X.env = [(false, eval a X.env)] := by rfl) : QI X tg (.Call (.Name "range" p) [a] [] pos) (diR1 tr) := wkI (pi_range1 hg hm ha hs) fun σ H R h => by
  obtain ⟨F, ρ, M, Q', gd, en, h, k⟩ := h
  refine ⟨F, ρ, M, _, gd, en, h, fun x H1 F1 M1 dx e1 g1 rx h1 => ?_⟩
  obtain ⟨j, e⟩ : ∃ j, dx = [.int j] := by
    unfold int1D at h1
    split at h1
    · exact ⟨_, rfl⟩
    · exact h1.elim
  subst e
  obtain ⟨l1, l2, h1⟩ := h1
  obtain ⟨v, rfl, r⟩ := rx.one
  obtain rfl := r.int_of
  exact ⟨j, rfl, l1, l2, k _ H1 F1 M1 _ _ e1 g1 dw_range h1⟩
theorem qi_range2 {p pos : Pos} (hm : X.mg "range" = none) (ha : QA X [a, b] tr) (hg : Gl X "range" := by rfl) (hs : starEach [a, b] X.env = [(false, eval a X.env), (false, eval b X.env)] := by rfl) (hs2 : starEach [b] X.env = [(false, eval b X.env)] := by rfl) : QI X tg (.Call (.Name "range" p) [a, b] [] pos) (diR2 tr) := wkI (pi_range2 hg hm ha hs hs2) fun σ H R h => by
  obtain ⟨F, ρ, M, Q', gd, en, h, k⟩ := h
  refine ⟨F, ρ, M, _, gd, en, h, fun x H1 F1 M1 dx e1 g1 rx h1 => ?_⟩
  obtain ⟨i, j, e⟩ : ∃ i j, dx = [.int i, .int j] := by
    unfold int2D at h1
    split at h1
    · exact ⟨_, _, rfl⟩
    · exact h1.elim
  subst e
  obtain ⟨l, h1⟩ := h1
  obtain ⟨v, w, rfl, r1, r2⟩ := rx.two
  obtain rfl := r1.int_of
  obtain rfl := r2.int_of
  exact ⟨i, j, rfl, l, k _ H1 F1 M1 _ _ e1 g1 dw_range h1⟩
end
end DL

set_option maxHeartbeats 4000000
/-! DLe: comprehensions and functions over data. -/
namespace DL
open PySem PySem.Spec PyProof.Rows L2 Evl
/-! ### comprehensions -/
theorem wipe_at (σ : L2.St) : ∀ (vs : List Nat) (j : Nat), (wipe σ vs)[j]? = if j ∈ vs ∧ j < σ.length then some none else σ[j]?
  | [], j => by simp [wipe]
  | v :: vs, j => by
    unfold wipe
    rw [List.getElem?_set, wipe_at σ vs j, wipe_length]
    by_cases h : v = j
    · subst h
      by_cases l : v < σ.length
      · simp [l]
      · simp [l, List.getElem?_eq_none (Nat.le_of_not_lt l)]
    · have h' : ¬ j = v := fun e => h e.symm
      simp [h, h']
theorem wipe_set {σ : L2.St} {vs : List Nat} {i : Nat} {x : Option V} (hi : i ∈ vs) : wipe (σ.set i x) vs = wipe σ vs := by
  refine List.ext_getElem? fun j => ?_
  rw [wipe_at, wipe_at, List.length_set, List.getElem?_set]
  by_cases h : i = j
  · subst h
    by_cases l : i < σ.length
    · simp [hi, l]
    · simp [l, List.getElem?_eq_none (Nat.le_of_not_lt l)]
  · simp [h]
theorem wipe_wipe {σ : L2.St} {vs : List Nat} : wipe (wipe σ vs) vs = wipe σ vs := by
  refine List.ext_getElem? fun j => ?_
  rw [wipe_at, wipe_at, wipe_length]
  by_cases h : j ∈ vs ∧ j < σ.length
  · simp [h]
  · simp [h]
def wipeD (ρ : Env') : List Nat → Env'
  | [] => ρ
  | v :: vs => (wipeD ρ vs).set v none
theorem EnvD.wipe {K : PySem.W.Frag} {F : Hp} {σ : L2.St} {ρ : Env'} (h : EnvD K F σ ρ) : ∀ vs : List Nat, EnvD K F (L2.wipe σ vs) (wipeD ρ vs)
  | [] => h
  | v :: vs => by
    unfold L2.wipe wipeD
    exact (EnvD.wipe h vs).unset v none
/-- a target that stores into the comprehension's own names alone -/
def TgOk (K : PySem.W.Frag) (vs : List Nat) (g : TG) (dg : DG) : Prop := ∀ (F : Hp) (M : Mem) (H : Hp) (σ : L2.St) (ρ : Env') (v : V) (d : D) (Q : L2.St → Hp → Prop) (Q' : Env' → Mem → Prop), Good K F M H → EnvD K F σ ρ → Dat K F v d → dg d ρ M Q' →
  (∀ σ2 ρ2, L2.wipe σ2 vs = L2.wipe σ vs → EnvD K F σ2 ρ2 → Q' ρ2 M → Q σ2 H) → g v σ H Q
theorem tg_name {K : PySem.W.Frag} {vs : List Nat} (i : Nat) (hi : i ∈ vs := by decide) : TgOk K vs (gName i) (dgName i) := by
  intro F M H σ ρ v d Q Q' g en r h k
  exact k _ _ (wipe_set hi) (en.set i r) h
theorem tg_two {K : PySem.W.Frag} {vs : List Nat} (i j : Nat) (hi : i ∈ vs := by decide) (hj : j ∈ vs := by decide) : TgOk K vs (gTup K 2 (gCons (gName i) (gCons (gName j) gNil))) (dgTup 2 (dgCons (dgName i) (dgCons (dgName j) dgNil))) := by
  intro F M H σ ρ v d Q Q' g en r h k
  obtain ⟨xs, rfl, hl, h⟩ := tpD.ok h
  obtain ⟨x, y, rfl⟩ : ∃ x y, xs = [x, y] := by
    match xs, hl with
    | [x, y], _ => exact ⟨x, y, rfl⟩
  obtain ⟨_, h⟩ := h
  obtain ⟨a, vs', rfl, hs, rs⟩ := r.tup_of g
  obtain ⟨v, w, rfl, q1, q2⟩ := rs.two
  exact ⟨a, _, rfl, hs, rfl, v, _, rfl, w, _, rfl, rfl, k _ _ (by rw [wipe_set hj, wipe_set hi]) ((en.set i q1).set j q2) h⟩
@[simp] def dYes : DT := fun _ M Q => Q true M
/-- the turns of a comprehension: Dl the new list's cell -/
def dComp (N : Mem → Prop) (g : DG) (tt : DT) (te : DE) (Dl : Addr) (k : Mem → Prop) : List D → Env' → Mem → Prop
  | [], _, M => k M
  | x :: xs, ρ, M => g x ρ M fun ρ2 M2 => tt ρ2 M2 fun b M3 => if b = true then te ρ2 M3 fun y M4 => ∃ acc, M4 Dl = some (.lst acc) ∧ acc.length < sizeLine ∧ N (put M4 Dl (.lst (acc ++ [y]))) ∧ dComp N g tt te Dl k xs ρ (put M4 Dl (.lst (acc ++ [y])))
      else N M3 ∧ dComp N g tt te Dl k xs ρ M3
/-- the new list frozen -/
def dLc (di : DI) (g : DG) (tt : DT) (te : DE) (vs : List Nat) : DE := fun ρ M Q => di ρ M fun N xs M1 => ∀ Dl, M1 Dl = none → N (put M1 Dl (.lst [])) ∧ dComp N g tt te Dl (fun M2 => ∃ acc, M2 Dl = some (.lst acc) ∧ Q (.lst acc) (drp M2 Dl)) xs (wipeD ρ vs) (put M1 Dl (.lst []))
/-- the new list a cell -/
def dLcM (di : DI) (g : DG) (tt : DT) (te : DE) (vs : List Nat) : DE := fun ρ M Q => di ρ M fun N xs M1 => ∀ Dl, M1 Dl = none → N (put M1 Dl (.lst [])) ∧ dComp N g tt te Dl (fun M2 => Q (.ref Dl) M2) xs (wipeD ρ vs) (put M1 Dl (.lst []))
section
variable {X : Cx} {elt tg iter : Expr} {ifs : List Expr} {scope : Scope} {own : List (Str × Nat)} {pos : Pos} {di : DI} {g : TG} {dg : DG} {tt : DT} {te : DE}
theorem lc_run {K : PySem.W.Frag} {vs : List Nat} {σ : L2.St} {ρ : Env'} {J : It} {F1 H1 : Hp} {M1 : Mem} {N : Mem → Prop} {xs : List D} {Dl : Addr} {k : Mem → Prop} {Qd : Hp → Prop} (hg : TgOk K vs g dg) (dw : DW K J F1 N xs) (gd : Good K F1 M1 H1) (en : EnvD K F1 σ ρ) (hD : H1 Dl = none)
    (hN : N (put M1 Dl (.lst []))) (h : dComp N dg tt te Dl k xs (wipeD ρ vs) (put M1 Dl (.lst []))) (hk : ∀ F2 M2 H2, Ex F1 F2 → Good K F2 M2 H2 → k M2 → Qd H2) :
    ∃ W : Nat → Nat → Hp → Prop, (∃ m, W 0 m (upd H1 Dl (.lst []))) ∧ ∀ i m H, W i m H →
      (J.stop i H ∧ Qd H) ∨ (J.go i H ∧ ∃ Nx : Hp → Prop, (∀ H', Nx H' → ∃ m', m' < m ∧ W (i + 1) m' H') ∧ ∀ x H', J.yld i H x H' → g x (L2.wipe σ vs) H' fun σ2 H2 => L2.wipe σ2 vs = L2.wipe σ vs ∧ LT K tt σ2 H2 fun b H3 =>
        if b = true then LE K te σ2 H3 fun y H4 => ∃ acc, H4 Dl = some (.lst acc) ∧ acc.length < sizeLine ∧ Nx (upd H4 Dl (.lst (acc ++ [y]))) else Nx H3) := by
  obtain ⟨G, Y, w, hG, hY⟩ := dw
  refine lc_it w (fun i H' => ∃ F' M', Ex F1 F' ∧ Good K F' M' H' ∧ N M' ∧ dComp N dg tt te Dl k (xs.drop i) (wipeD ρ vs) M') ⟨F1, _, Ex.refl _, gd.newL hD .nil, hN, by simpa using h⟩ ?_ ?_ ?_
  · rintro i H' _ ⟨F', M', ex, g', hn, _⟩
    exact hG F' M' H' ex g' hn
  · rintro i x H' H2 hi ⟨F', M', ex, g', hn, hl⟩ y
    obtain ⟨F2, d, e2, g2, hd, rd, _⟩ := hY i x H' H2 F' M' ex g' hn hi y
    have hdr : xs.drop i = d :: xs.drop (i + 1) := by
      obtain ⟨h1, h2⟩ := List.getElem?_eq_some_iff.mp hd
      rw [← h2]; exact List.drop_eq_getElem_cons h1
    rw [hdr] at hl
    refine hg F2 M' H2 _ _ x d _ _ g2 ((en.ex (ex.trans e2)).wipe vs) rd hl fun σ2 ρ2 hw en2 h2 => ⟨by rw [hw, wipe_wipe], ?_⟩
    refine ⟨F2, ρ2, M', _, g2, en2, h2, fun b H3 F3 M3 e3 g3 h3 => ?_⟩
    have all := (ex.trans e2).trans e3
    cases b with
    | false => exact ⟨F3, M3, all, g3, h3.1, h3.2⟩
    | true =>
      refine ⟨F3, ρ2, M3, _, g3, en2.ex e3, h3, fun y H4 F4 M4 dy e4 g4 ry h4 => ?_⟩
      obtain ⟨acc, ha, hz, hn4, hl4⟩ := h4
      obtain ⟨hf, vs', hv, rv⟩ := g4.mem Dl _ ha
      exact ⟨vs', hv, by rw [rv.len]; exact hz, F4, _, all.trans e4, g4.setL ha (rv.app (.cons ry .nil)), hn4, hl4⟩
  · rintro H' ⟨F', M', ex, g', hn, hl⟩
    rw [List.drop_length] at hl
    exact hk F' M' H' ex g' hl
abbrev BX (X : Cx) (scope : Scope) (s : Shared) (H : Hp) (C : Addr) (cl : List (Str × Addr)) (fp : List Addr) : Cx := X.blk s H scope (compEnvC scope cl C X.env) fp
theorem q_lc (hc : X.calm = true) (hN : X.N.Nodup) (hi : QI X tg iter di) (ok : BlkOk X.N X.env.scope scope own) (hgo : TgOk X.K (own.map (·.2)) g dg)
    (hg : ∀ (s : Shared) (H : Hp) (C : Addr) (cl : List (Str × Addr)) (fp : List Addr), PG (BX X scope s H C cl fp) tg g) (ht : ∀ (s : Shared) (H : Hp) (C : Addr) (cl : List (Str × Addr)) (fp : List Addr), PTs (BX X scope s H C cl fp) ifs (LT X.K tt))
    (he : ∀ (s : Shared) (H : Hp) (C : Addr) (cl : List (Str × Addr)) (fp : List Addr), QE (BX X scope s H C cl fp) elt te) (hs : ∀ x, foldedSetIterable iter X.env x = pure x := by intro _; rfl) :
    QE X (.ListComp elt [⟨tg, iter, ifs, 0⟩] scope pos) (dLc di dg tt te (own.map (·.2))) := wkE (pe_lc (own := own) (g := g) hc hN hi ok hg ht he hs) fun σ H Q h => by
  obtain ⟨F, ρ, M, Q', gd, en, h, k⟩ := h
  refine ⟨F, ρ, M, _, gd, en, h, fun J H1 F1 M1 N xs e1 g1 dw h1 Dl hD => ?_⟩
  obtain ⟨hn, h1⟩ := h1 Dl (g1.mnone hD)
  refine lc_run hgo dw g1 (en.ex e1) hD hn h1 fun F2 M2 H2 e2 g2 ⟨acc, ha, q⟩ => ?_
  obtain ⟨vs, g3, e3, r⟩ := g2.freeze ha
  exact k _ H2 _ _ _ ((e1.trans e2).trans e3) g3 r q
theorem q_lcM (hc : X.calm = true) (hN : X.N.Nodup) (hi : QI X tg iter di) (ok : BlkOk X.N X.env.scope scope own) (hgo : TgOk X.K (own.map (·.2)) g dg)
    (hg : ∀ (s : Shared) (H : Hp) (C : Addr) (cl : List (Str × Addr)) (fp : List Addr), PG (BX X scope s H C cl fp) tg g) (ht : ∀ (s : Shared) (H : Hp) (C : Addr) (cl : List (Str × Addr)) (fp : List Addr), PTs (BX X scope s H C cl fp) ifs (LT X.K tt))
    (he : ∀ (s : Shared) (H : Hp) (C : Addr) (cl : List (Str × Addr)) (fp : List Addr), QE (BX X scope s H C cl fp) elt te) (hs : ∀ x, foldedSetIterable iter X.env x = pure x := by intro _; rfl) :
    QE X (.ListComp elt [⟨tg, iter, ifs, 0⟩] scope pos) (dLcM di dg tt te (own.map (·.2))) := wkE (pe_lc (own := own) (g := g) hc hN hi ok hg ht he hs) fun σ H Q h => by
  obtain ⟨F, ρ, M, Q', gd, en, h, k⟩ := h
  refine ⟨F, ρ, M, _, gd, en, h, fun J H1 F1 M1 N xs e1 g1 dw h1 Dl hD => ?_⟩
  obtain ⟨hn, h1⟩ := h1 Dl (g1.mnone hD)
  exact lc_run hgo dw g1 (en.ex e1) hD hn h1 fun F2 M2 H2 e2 g2 q => k _ H2 _ _ _ (e1.trans e2) g2 (.ref Dl) q
/-- y = [..] on one line -/
theorem qs_setLc {y : Str} {py spos : Pos} (i : Nat) (hc : X.calm = true) (hN : X.N.Nodup) (hi : QI X tg iter di) (ok : BlkOk X.N X.env.scope scope own) (hgo : TgOk X.K (own.map (·.2)) g dg)
    (hg : ∀ (s : Shared) (H : Hp) (C : Addr) (cl : List (Str × Addr)) (fp : List Addr), PG (BX X scope s H C cl fp) tg g) (ht : ∀ (s : Shared) (H : Hp) (C : Addr) (cl : List (Str × Addr)) (fp : List Addr), PTs (BX X scope s H C cl fp) ifs (LT X.K tt))
    (he : ∀ (s : Shared) (H : Hp) (C : Addr) (cl : List (Str × Addr)) (fp : List Addr), QE (BX X scope s H C cl fp) elt te)
    (hsw : swapsWith (.ListComp elt [⟨tg, iter, ifs, 0⟩] scope pos) (some (.Name y py)) spos.line X.env = pure true := by exact sw_true rfl rfl rfl (by decide +kernel))
    (hy : X.N[i]? = some y := by rfl) (hyl : X.env.scope.names.lookup y = some .local := by rfl) (hs : ∀ x, foldedSetIterable iter X.env x = pure x := by intro _; rfl) :
    QS X (.Assign [.Name y py] (.ListComp elt [⟨tg, iter, ifs, 0⟩] scope pos) spos) (dAsg (dLc di dg tt te (own.map (·.2))) (dgName i)) := wkS (ps_setLc (i := i) (own := own) (g := g) hc hN hy hyl hsw hi ok hg ht he hs) fun D σ H h => by
  obtain ⟨F, ρ, M, DD, gd, en, h, k⟩ := h
  refine ⟨F, ρ, M, _, gd, en, h, fun J H1 F1 M1 N xs e1 g1 dw h1 Dl hD => ?_⟩
  obtain ⟨hn, h1⟩ := h1 Dl (g1.mnone hD)
  refine lc_run hgo dw g1 (en.ex e1) hD hn h1 fun F2 M2 H2 e2 g2 ⟨acc, ha, q⟩ => ?_
  obtain ⟨vs, g3, e3, r⟩ := g2.freeze ha
  exact k.nx _ H2 _ _ _ ((e1.trans e2).trans e3) g3 ((en.ex ((e1.trans e2).trans e3)).set i r) q
theorem qs_setLcM {y : Str} {py spos : Pos} (i : Nat) (hc : X.calm = true) (hN : X.N.Nodup) (hi : QI X tg iter di) (ok : BlkOk X.N X.env.scope scope own) (hgo : TgOk X.K (own.map (·.2)) g dg)
    (hg : ∀ (s : Shared) (H : Hp) (C : Addr) (cl : List (Str × Addr)) (fp : List Addr), PG (BX X scope s H C cl fp) tg g) (ht : ∀ (s : Shared) (H : Hp) (C : Addr) (cl : List (Str × Addr)) (fp : List Addr), PTs (BX X scope s H C cl fp) ifs (LT X.K tt))
    (he : ∀ (s : Shared) (H : Hp) (C : Addr) (cl : List (Str × Addr)) (fp : List Addr), QE (BX X scope s H C cl fp) elt te)
    (hsw : swapsWith (.ListComp elt [⟨tg, iter, ifs, 0⟩] scope pos) (some (.Name y py)) spos.line X.env = pure true := by exact sw_true rfl rfl rfl (by decide +kernel))
    (hy : X.N[i]? = some y := by rfl) (hyl : X.env.scope.names.lookup y = some .local := by rfl) (hs : ∀ x, foldedSetIterable iter X.env x = pure x := by intro _; rfl) :
    QS X (.Assign [.Name y py] (.ListComp elt [⟨tg, iter, ifs, 0⟩] scope pos) spos) (dAsg (dLcM di dg tt te (own.map (·.2))) (dgName i)) := wkS (ps_setLc (i := i) (own := own) (g := g) hc hN hy hyl hsw hi ok hg ht he hs) fun D σ H h => by
  obtain ⟨F, ρ, M, DD, gd, en, h, k⟩ := h
  refine ⟨F, ρ, M, _, gd, en, h, fun J H1 F1 M1 N xs e1 g1 dw h1 Dl hD => ?_⟩
  obtain ⟨hn, h1⟩ := h1 Dl (g1.mnone hD)
  exact lc_run hgo dw g1 (en.ex e1) hD hn h1 fun F2 M2 H2 e2 g2 q => k.nx _ H2 _ _ _ (e1.trans e2) g2 ((en.ex (e1.trans e2)).set i (.ref Dl)) q
theorem qts_nil {X : Cx} {K : PySem.W.Frag} : PTs X [] (LT K dYes) := ⟨fun pins s σ H Q I h => pts_nil.run pins s σ H Q I (by
  obtain ⟨F, ρ, M, Q', gd, en, h, k⟩ := h
  exact k true H F M (Ex.refl F) gd h)⟩
theorem qts_one {X : Cx} {c : Expr} {t : DT} (h : QT X c t) : PTs X [c] (LT X.K t) := pts_one h
end
/-! ### functions -/
abbrev FS := List D → Mem → DK → Prop
/-- a promise over data -/
def LSp (K : PySem.W.Frag) (fs : FS) : Sp := fun vs H Q _ => ∃ F M ds Q', Good K F M H ∧ DatAll K F vs ds ∧ fs ds M Q' ∧ KO K F Q' Q
@[simp] def dCall (fs : FS) (ta : DA) : DE := fun ρ M Q => ta ρ M fun ds M1 => fs ds M1 Q
def startD (N : List Str) (ds : List D) : Env' := ds.map some ++ List.replicate (N.length - ds.length) none
theorem env_start {K : PySem.W.Frag} {F : Hp} {N : List Str} {vs : List V} {ds : List D} (r : DatAll K F vs ds) : EnvD K F (L2.start N vs) (startD N ds) := by
  have hl := r.len
  refine ⟨by simp [L2.start, startD, hl], fun i d e => ?_⟩
  unfold startD at e
  unfold L2.start
  rw [List.getElem?_append] at e ⊢
  simp only [List.length_map] at e ⊢
  rw [hl]
  split at e
  · rename_i l
    rw [if_pos l]
    rw [List.getElem?_map] at e ⊢
    cases q : ds[i]? with
    | none => rw [q] at e; cases e
    | some d' =>
      rw [q] at e
      cases e
      obtain ⟨v, h1, h2⟩ := r.at q
      exact ⟨v, by rw [h1]; rfl, h2⟩
  · rw [List.getElem?_replicate] at e
    split at e <;> cases e
section
variable {P : Program} {w : World} {K : PySem.W.Frag} {mg : Str → Option Value} {base : Heap} {x qual : Str} {params : Arguments} {body : List Stmt} {scope : Scope} {f : Addr} {fd : FuncData} {N ps : List Str} {k : Nat} {fs : FS}
/-- a def that lets nothing out keeps a promise over data -/
theorem fnD (F : FunD K x qual params body scope [] [] f fd) (S : FnScope N ps scope) (len : ∀ ds M Q, fs ds M Q → ds.length = ps.length)
    (hbody : ∀ (cdv : Value) (A : Around) (outer : List Env) (s : Shared) (H : Hp) (E : XK), Room k (A.deeper (envOfC qual scope s.heap.objs.size f cdv)) → ∃ t, QSs (cxOf CX0 P w K mg base N qual scope f cdv A outer s H E).nox body t ∧
      ∀ ds M Q, fs ds M Q → t { nx := fun _ M' => Q .non M', rt := Q } (startD N ds) M) : FnOk P w K mg base CX0 (k + 1) f fd ps (LSp K fs) := by
  refine F.ok S (fun vs H Q E h => ?_) fun cdv A outer s H vs Q E hr h => ?_
  · obtain ⟨_, _, ds, _, _, r, h, _⟩ := h
    rw [r.len]; exact len _ _ _ h
  · obtain ⟨t, ht, hb⟩ := hbody cdv A outer s H E hr
    obtain ⟨F', M, ds, Q', g, r, h, k⟩ := h
    refine ⟨_, PSs.nox ht, F', _, M, _, g, env_start r, hb ds M Q' h, ⟨?_, k, ?_, ?_⟩⟩
    · exact fun σ' H' F2 ρ' M' e g' en q => k .non H' F2 M' .non e g' .non q
    · exact fun σ' H' F2 ρ' M' e g' en q => q.elim
    · exact fun σ' H' F2 ρ' M' e g' en q => q.elim
end
section
variable {X : Cx} {k : Nat} {f : Addr} {fd : FuncData} {ps : List Str} {fs : FS} {x : Str} {p pos : Pos} {e : Expr} {es : List Expr} {tr : DA}
theorem q_call (F : FnOk X.prog X.w X.K X.mg X.base CX0 k f fd ps (LSp X.K fs)) (hr : Room k X.A) (hm : X.mg x = some (.ref f)) (hk : PySem.W.keepIn X.K (.ref f) = true) (hb : Binds X.K fd ps [])
    (ha : QA X (e :: es) tr) (hg : Gl X x := by rfl) (hdb : (x == ("__debug__" : Str)) = false := by decide) (he : starEach (e :: es) X.env = (false, eval e X.env) :: starEach es X.env := by rfl) (hpl : (backTo pos (starEach es X.env)).any (·.1) = false := by rfl) :
    QE X (.Call (.Name x p) (e :: es) [] pos) (dCall fs tr) := wkE (pe_call (E := E0) F hr hg hm hk hb .nil pass0 ha hdb he hpl) fun σ H Q h => by
  obtain ⟨F', ρ, M, Q', g, en, h, k⟩ := h
  refine ⟨F', ρ, M, _, g, en, h, fun vs H1 F1 M1 ds e1 g1 r h1 => ?_⟩
  have z : LSp X.K fs vs H1 Q E0 := ⟨F1, M1, ds, Q', g1, r, h1, k.ex e1⟩
  show LSp X.K fs (vs ++ []) H1 Q E0
  rw [List.append_nil]
  exact z
end
end DL

set_option maxHeartbeats 4000000
/-! DLf: operators that look at the data's kind. -/
namespace DL
open PySem PySem.Spec PyProof.Rows L2 Evl
section
variable {K : PySem.W.Frag}
/-! ### + - * // % ** -/
def dAdd : D → D → Mem → DK → Prop
  | .int i, .int j, M, Q => Q (.int (i + j)) M
  | .str a, .str b, M, Q => a.length + b.length ≤ sizeLine ∧ Q (.str (a ++ b)) M
  | .tup xs, .tup ys, M, Q => xs.length + ys.length ≤ sizeLine ∧ Q (.tup (xs ++ ys)) M
  | x, y, M, Q => lsD M x fun xs => lsD M y fun ys => xs.length + ys.length ≤ sizeLine ∧ Q (.lst (xs ++ ys)) M
@[simp] theorem dAdd_e1 {i j} : dAdd (.int i) (.int j) M Q = (Q (.int (i + j)) M) := rfl
@[simp] theorem dAdd_e2 {a b} : dAdd (.str a) (.str b) M Q = (a.length + b.length ≤ sizeLine ∧ Q (.str (a ++ b)) M) := rfl
@[simp] theorem dAdd_e3 {xs ys} : dAdd (.tup xs) (.tup ys) M Q = (xs.length + ys.length ≤ sizeLine ∧ Q (.tup (xs ++ ys)) M) := rfl
@[simp] theorem dAdd_e4 {x_ y_} : dAdd (.lst x_) (.lst y_) M Q = (lsD M (.lst x_) fun xs => lsD M (.lst y_) fun ys => xs.length + ys.length ≤ sizeLine ∧ Q (.lst (xs ++ ys)) M) := rfl
@[simp] theorem dAdd_e5 {x_ y_} : dAdd (.lst x_) (.ref y_) M Q = (lsD M (.lst x_) fun xs => lsD M (.ref y_) fun ys => xs.length + ys.length ≤ sizeLine ∧ Q (.lst (xs ++ ys)) M) := rfl
@[simp] theorem dAdd_e6 {x_ y_} : dAdd (.ref x_) (.lst y_) M Q = (lsD M (.ref x_) fun xs => lsD M (.lst y_) fun ys => xs.length + ys.length ≤ sizeLine ∧ Q (.lst (xs ++ ys)) M) := rfl
@[simp] theorem dAdd_e7 {x_ y_} : dAdd (.ref x_) (.ref y_) M Q = (lsD M (.ref x_) fun xs => lsD M (.ref y_) fun ys => xs.length + ys.length ≤ sizeLine ∧ Q (.lst (xs ++ ys)) M) := rfl
def rAddA (K : PySem.W.Frag) : R2 := fun x y H Q => rI0 (fun i j => .int (i + j)) x y H Q ∨ (∃ i j, x = .str i ∧ y = .str j ∧ i.length + j.length ≤ sizeLine ∧ Q (.str (i ++ j)) H) ∨ rCatA K x y H Q ∨ rCat x y H Q
theorem op_addA {X : Cx} : OpR X (binaryOp .Add) (rAddA X.K) := op_add.or (op_add_str.or (op_catA.or op_cat))
theorem cat_run {F H : Hp} {M : Mem} {x y : V} {dx dy : D} {xs ys : List D} {Q : VK} (gd : Good K F M H) (rx : Dat K F x dx) (ry : Dat K F y dy) (h1 : lstD M dx xs) (h2 : lstD M dy ys) (hz : xs.length + ys.length ≤ sizeLine)
    (k : ∀ vs, DatAll K F vs (xs ++ ys) → ∀ p, H p = none → Q (.ref p) (upd H p (.lst vs))) : rCat x y H Q := by
  obtain ⟨a, vs, rfl, hv, r⟩ := lstD.exact gd rx h1
  obtain ⟨b, ws, rfl, hw, u⟩ := lstD.exact gd ry h2
  exact ⟨a, b, vs, ws, rfl, rfl, hv, hw, by rw [r.len, u.len]; exact hz, k _ (r.app u)⟩
theorem o2_add : Op2 K (rAddA K) dAdd := by
  intro F M H x y dx dy Q' Q gd rx ry h k
  unfold dAdd at h
  split at h
  · exact .inl ⟨_, _, rx.int_of, ry.int_of, k _ H F M _ (Ex.refl F) gd (.int _) h⟩
  · exact .inr (.inl ⟨_, _, rx.str_of, ry.str_of, h.1, k _ H F M _ (Ex.refl F) gd (.str _) h.2⟩)
  · exact .inr (.inr (.inl (o2_catT F M H x y _ _ Q' Q gd rx ry ⟨_, _, rfl, rfl, h.1, h.2⟩ k)))
  · obtain ⟨xs, h1, h⟩ := lsD.ok h
    obtain ⟨ys, h2, hz, q⟩ := lsD.ok h
    exact .inr (.inr (.inr (cat_run gd rx ry h1 h2 hz fun vs r p hp => newF gd k r q p hp)))
/-- xs + ys whose list will change -/
@[simp] def dAddM (x y : D) (M : Mem) (Q : DK) : Prop := lsD M x fun xs => lsD M y fun ys => xs.length + ys.length ≤ sizeLine ∧ ∀ p, M p = none → Q (.ref p) (put M p (.lst (xs ++ ys)))
theorem o2_addM : Op2 K (rAddA K) dAddM := by
  intro F M H x y dx dy Q' Q gd rx ry h k
  obtain ⟨xs, h1, h⟩ := lsD.ok h
  obtain ⟨ys, h2, hz, q⟩ := lsD.ok h
  exact .inr (.inr (.inr (cat_run gd rx ry h1 h2 hz fun vs r p hp => newM gd k r q p hp)))
def dSub : D → D → Mem → DK → Prop
  | .int i, .int j, M, Q => Q (.int (i - j)) M
  | _, _, M, Q => False
@[simp] theorem dSub_e1 {i j} : dSub (.int i) (.int j) M Q = (Q (.int (i - j)) M) := rfl
theorem o2_sub : Op2 K (rI0 fun i j => .int (i - j)) dSub := by
  intro F M H x y dx dy Q' Q gd rx ry h k
  unfold dSub at h
  split at h
  · exact ⟨_, _, rx.int_of, ry.int_of, k _ H F M _ (Ex.refl F) gd (.int _) h⟩
  · exact h.elim
def dMul : D → D → Mem → DK → Prop
  | .int i, .int j, M, Q => CMul i j ∧ Q (.int (i * j)) M
  | .tup xs, .int n, M, Q => (xs ≠ [] ∧ 2 ≤ n ∧ n ≤ 1000 ∧ xs.length ≤ 1000) ∧ Q (.tup (List.replicate n.toNat xs).flatten) M
  | x, .int n, M, Q => lsD M x fun xs => (-(2 ^ 63) ≤ n ∧ n < 2 ^ 63 ∧ xs.length * n.toNat ≤ sizeLine) ∧ Q (.lst (List.replicate n.toNat xs).flatten) M
  | _, _, M, Q => False
@[simp] theorem dMul_e1 {i j} : dMul (.int i) (.int j) M Q = (CMul i j ∧ Q (.int (i * j)) M) := rfl
@[simp] theorem dMul_e2 {xs n} : dMul (.tup xs) (.int n) M Q = ((xs ≠ [] ∧ 2 ≤ n ∧ n ≤ 1000 ∧ xs.length ≤ 1000) ∧ Q (.tup (List.replicate n.toNat xs).flatten) M) := rfl
@[simp] theorem dMul_e3 {x_ n} : dMul (.lst x_) (.int n) M Q = (lsD M (.lst x_) fun xs => (-(2 ^ 63) ≤ n ∧ n < 2 ^ 63 ∧ xs.length * n.toNat ≤ sizeLine) ∧ Q (.lst (List.replicate n.toNat xs).flatten) M) := rfl
@[simp] theorem dMul_e4 {x_ n} : dMul (.ref x_) (.int n) M Q = (lsD M (.ref x_) fun xs => (-(2 ^ 63) ≤ n ∧ n < 2 ^ 63 ∧ xs.length * n.toNat ≤ sizeLine) ∧ Q (.lst (List.replicate n.toNat xs).flatten) M) := rfl
def rMulA (K : PySem.W.Frag) : R2 := fun x y H Q => rI CMul (fun i j => .int (i * j)) x y H Q ∨ rRepT K x y H Q ∨ rRep x y H Q
theorem op_mulA {X : Cx} : OpR X (binaryOp .Mult) (rMulA X.K) := op_mul.or (op_repT.or op_rep)
theorem DatAll.flat {F : Hp} {vs : List V} {xs : List D} (r : DatAll K F vs xs) : ∀ n : Nat, DatAll K F (List.replicate n vs).flatten (List.replicate n xs).flatten
  | 0 => .nil
  | n + 1 => by
    rw [List.replicate_succ, List.replicate_succ, List.flatten_cons, List.flatten_cons]
    exact r.app (DatAll.flat r n)
theorem o2_mul : Op2 K (rMulA K) dMul := by
  intro F M H x y dx dy Q' Q gd rx ry h k
  unfold dMul at h
  split at h
  · exact .inl ⟨_, _, rx.int_of, ry.int_of, h.1, k _ H F M _ (Ex.refl F) gd (.int _) h.2⟩
  · obtain ⟨⟨h1, h2, h3, h4⟩, q⟩ := h
    obtain ⟨a, vs, rfl, hs, r⟩ := rx.tup_of gd
    refine .inr (.inl ⟨a, _, vs, rfl, ry.int_of, hs, fun e => h1 ?_, h2, h3, by rw [r.len]; exact h4, fun p hp => newT gd k (r.flat _) q p hp⟩)
    subst e; cases r; rfl
  · obtain ⟨xs, hl, ⟨h1, h2, h3⟩, q⟩ := lsD.ok h
    obtain ⟨a, vs, rfl, hv, r⟩ := lstD.exact gd rx hl
    exact .inr (.inr ⟨a, _, vs, rfl, ry.int_of, hv, h1, h2, by rw [r.len]; exact h3, fun p hp => newF gd k (r.flat _) q p hp⟩)
  · exact h.elim
def dDiv : D → D → Mem → DK → Prop
  | .int i, .int j, M, Q => CDiv i j ∧ Q (.int (i / j)) M
  | _, _, M, Q => False
@[simp] theorem dDiv_e1 {i j} : dDiv (.int i) (.int j) M Q = (CDiv i j ∧ Q (.int (i / j)) M) := rfl
theorem o2_div : Op2 K (rI CDiv fun i j => .int (i / j)) dDiv := by
  intro F M H x y dx dy Q' Q gd rx ry h k
  unfold dDiv at h
  split at h
  · exact ⟨_, _, rx.int_of, ry.int_of, h.1, k _ H F M _ (Ex.refl F) gd (.int _) h.2⟩
  · exact h.elim
def dMod : D → D → Mem → DK → Prop
  | .int i, .int j, M, Q => 0 < j ∧ Q (.int (i % j)) M
  | _, _, M, Q => False
@[simp] theorem dMod_e1 {i j} : dMod (.int i) (.int j) M Q = (0 < j ∧ Q (.int (i % j)) M) := rfl
theorem o2_mod : Op2 K (rI (fun _ j => 0 < j) fun i j => .int (i % j)) dMod := by
  intro F M H x y dx dy Q' Q gd rx ry h k
  unfold dMod at h
  split at h
  · exact ⟨_, _, rx.int_of, ry.int_of, h.1, k _ H F M _ (Ex.refl F) gd (.int _) h.2⟩
  · exact h.elim
def dPow : D → D → Mem → DK → Prop
  | .int i, .int j, M, Q => CPow i j ∧ Q (.int (i ^ j.toNat)) M
  | _, _, M, Q => False
@[simp] theorem dPow_e1 {i j} : dPow (.int i) (.int j) M Q = (CPow i j ∧ Q (.int (i ^ j.toNat)) M) := rfl
theorem o2_pow : Op2 K (rI CPow fun i j => .int (i ^ j.toNat)) dPow := by
  intro F M H x y dx dy Q' Q gd rx ry h k
  unfold dPow at h
  split at h
  · exact ⟨_, _, rx.int_of, ry.int_of, h.1, k _ H F M _ (Ex.refl F) gd (.int _) h.2⟩
  · exact h.elim
def dNeg : D → Mem → DK → Prop
  | .int i, M, Q => Q (.int (-i)) M
  | _, M, Q => False
@[simp] theorem dNeg_e1 {i} : dNeg (.int i) M Q = (Q (.int (-i)) M) := rfl
theorem o1_neg : Op1 K (rU fun i => .int (-i)) dNeg := by
  intro F M H x dx Q' Q gd rx h k
  unfold dNeg at h
  split at h
  · exact ⟨_, rx.int_of, k _ H F M _ (Ex.refl F) gd (.int _) h⟩
  · exact h.elim
/-! ### order of ints -/
def dCmp (p : Int → Int → Bool) : D → D → Mem → DK → Prop
  | .int i, .int j, M, Q => Q (.bl (p i j)) M
  | _, _, M, Q => False
@[simp] theorem dCmp_e1 {p} {i j} : dCmp p (.int i) (.int j) M Q = (Q (.bl (p i j)) M) := rfl
theorem o2_cmp {p : Int → Int → Bool} : Op2 K (rI0 fun i j => .bl (p i j)) (dCmp p) := by
  intro F M H x y dx dy Q' Q gd rx ry h k
  unfold dCmp at h
  split at h
  · exact ⟨_, _, rx.int_of, ry.int_of, k _ H F M _ (Ex.refl F) gd (.bl _) h⟩
  · exact h.elim
abbrev dLt := dCmp fun i j => decide (i < j)
abbrev dLe := dCmp fun i j => decide (i ≤ j)
abbrev dGt := dCmp fun i j => decide (j < i)
abbrev dGe := dCmp fun i j => decide (j ≤ i)
/-! ### == over data at any depth -/
mutual
inductive PyOf (M : Mem) : D → PyData → Prop
  | non : PyOf M .non .none
  | bl (b : Bool) : PyOf M (.bl b) (.bool b)
  | int (i : Int) : PyOf M (.int i) (.int i)
  | str (s : Str) : PyOf M (.str s) (.str s)
  | tup {xs : List D} {ps : List PyData} (h : PyAll M xs ps) : PyOf M (.tup xs) (.tuple ps)
  | lst {xs : List D} {ps : List PyData} (h : PyAll M xs ps) : PyOf M (.lst xs) (.list ps)
  | cell {p : Addr} {xs : List D} {ps : List PyData} (e : M p = some (.lst xs)) (h : PyAll M xs ps) : PyOf M (.ref p) (.list ps)
inductive PyAll (M : Mem) : List D → List PyData → Prop
  | nil : PyAll M [] []
  | cons {x : D} {xs : List D} {p : PyData} {ps : List PyData} (h : PyOf M x p) (r : PyAll M xs ps) : PyAll M (x :: xs) (p :: ps)
end
mutual
theorem PyOf.dp {F H : Hp} {M : Mem} (g : Good K F M H) : ∀ {d : D} {p : PyData}, PyOf M d p → ∀ v : V, Dat K F v d → Dp K H v p
  | _, _, .non, v, r => by obtain rfl := r.non_of; exact .non
  | _, _, .bl b, v, r => by obtain rfl := r.bl_of; exact .bl b
  | _, _, .int i, v, r => by obtain rfl := r.int_of; exact .int i
  | _, _, .str s, v, r => by obtain rfl := r.str_of; exact .str s
  | _, _, .tup h, v, r => by
    obtain ⟨a, vs, rfl, hs, rs⟩ := r.tup_of g
    exact .tup hs (PyAll.dp g h vs rs)
  | _, _, .lst h, v, r => by
    obtain ⟨a, vs, rfl, hs, rs⟩ := lstD.ok g r (show lstD M (.lst _) _ from rfl)
    exact .lst hs (PyAll.dp g h vs rs)
  | _, _, .cell e h, v, r => by
    obtain ⟨a, vs, rfl, hs, rs⟩ := lstD.ok g r (show lstD M (.ref _) _ from e)
    exact .lst hs (PyAll.dp g h vs rs)
theorem PyAll.dp {F H : Hp} {M : Mem} (g : Good K F M H) : ∀ {ds : List D} {ps : List PyData}, PyAll M ds ps → ∀ vs : List V, DatAll K F vs ds → DpAll K H vs ps
  | _, _, .nil, vs, r => by cases r; exact .nil
  | _, _, .cons h r, vs, rs => by
    cases rs with
    | cons q s => exact .cons (PyOf.dp g h _ q) (PyAll.dp g r _ s)
end
def dEqA (x y : D) (M : Mem) (Q : DK) : Prop := match eqS x y with
  | some b => Q (.bl b) M
  | none => ∃ p q, PyOf M x p ∧ PyOf M y q ∧ SeqAt.shaped p = true ∧ SeqAt.shaped q = true ∧ Q (.bl (PyData.eqv p q)) M
def dNeA (x y : D) (M : Mem) (Q : DK) : Prop := match eqS x y with
  | some b => Q (.bl (!b)) M
  | none => ∃ p q, PyOf M x p ∧ PyOf M y q ∧ SeqAt.shaped p = true ∧ SeqAt.shaped q = true ∧ Q (.bl (!PyData.eqv p q)) M
@[simp] theorem dEqA_ii (i : Int) (j : Int) (M : Mem) (Q : DK) : dEqA (.int i) (.int j) M Q = Q (.bl (decide (i = j))) M := rfl
@[simp] theorem dNeA_ii (i : Int) (j : Int) (M : Mem) (Q : DK) : dNeA (.int i) (.int j) M Q = Q (.bl (!(decide (i = j)))) M := rfl
@[simp] theorem dEqA_is (i : Int) (j : Str) (M : Mem) (Q : DK) : dEqA (.int i) (.str j) M Q = Q (.bl false) M := rfl
@[simp] theorem dNeA_is (i : Int) (j : Str) (M : Mem) (Q : DK) : dNeA (.int i) (.str j) M Q = Q (.bl (!false)) M := rfl
@[simp] theorem dEqA_in (i : Int) (M : Mem) (Q : DK) : dEqA (.int i) (.non) M Q = Q (.bl false) M := rfl
@[simp] theorem dNeA_in (i : Int) (M : Mem) (Q : DK) : dNeA (.int i) (.non) M Q = Q (.bl (!false)) M := rfl
@[simp] theorem dEqA_bb (i : Bool) (j : Bool) (M : Mem) (Q : DK) : dEqA (.bl i) (.bl j) M Q = Q (.bl (decide (i = j))) M := rfl
@[simp] theorem dNeA_bb (i : Bool) (j : Bool) (M : Mem) (Q : DK) : dNeA (.bl i) (.bl j) M Q = Q (.bl (!(decide (i = j)))) M := rfl
@[simp] theorem dEqA_bs (i : Bool) (j : Str) (M : Mem) (Q : DK) : dEqA (.bl i) (.str j) M Q = Q (.bl false) M := rfl
@[simp] theorem dNeA_bs (i : Bool) (j : Str) (M : Mem) (Q : DK) : dNeA (.bl i) (.str j) M Q = Q (.bl (!false)) M := rfl
@[simp] theorem dEqA_bn (i : Bool) (M : Mem) (Q : DK) : dEqA (.bl i) (.non) M Q = Q (.bl false) M := rfl
@[simp] theorem dNeA_bn (i : Bool) (M : Mem) (Q : DK) : dNeA (.bl i) (.non) M Q = Q (.bl (!false)) M := rfl
@[simp] theorem dEqA_si (i : Str) (j : Int) (M : Mem) (Q : DK) : dEqA (.str i) (.int j) M Q = Q (.bl false) M := rfl
@[simp] theorem dNeA_si (i : Str) (j : Int) (M : Mem) (Q : DK) : dNeA (.str i) (.int j) M Q = Q (.bl (!false)) M := rfl
@[simp] theorem dEqA_sb (i : Str) (j : Bool) (M : Mem) (Q : DK) : dEqA (.str i) (.bl j) M Q = Q (.bl false) M := rfl
@[simp] theorem dNeA_sb (i : Str) (j : Bool) (M : Mem) (Q : DK) : dNeA (.str i) (.bl j) M Q = Q (.bl (!false)) M := rfl
@[simp] theorem dEqA_ss (i : Str) (j : Str) (M : Mem) (Q : DK) : dEqA (.str i) (.str j) M Q = Q (.bl (decide (i = j))) M := rfl
@[simp] theorem dNeA_ss (i : Str) (j : Str) (M : Mem) (Q : DK) : dNeA (.str i) (.str j) M Q = Q (.bl (!(decide (i = j)))) M := rfl
@[simp] theorem dEqA_sn (i : Str) (M : Mem) (Q : DK) : dEqA (.str i) (.non) M Q = Q (.bl false) M := rfl
@[simp] theorem dNeA_sn (i : Str) (M : Mem) (Q : DK) : dNeA (.str i) (.non) M Q = Q (.bl (!false)) M := rfl
@[simp] theorem dEqA_ni (j : Int) (M : Mem) (Q : DK) : dEqA (.non) (.int j) M Q = Q (.bl false) M := rfl
@[simp] theorem dNeA_ni (j : Int) (M : Mem) (Q : DK) : dNeA (.non) (.int j) M Q = Q (.bl (!false)) M := rfl
@[simp] theorem dEqA_nb (j : Bool) (M : Mem) (Q : DK) : dEqA (.non) (.bl j) M Q = Q (.bl false) M := rfl
@[simp] theorem dNeA_nb (j : Bool) (M : Mem) (Q : DK) : dNeA (.non) (.bl j) M Q = Q (.bl (!false)) M := rfl
@[simp] theorem dEqA_ns (j : Str) (M : Mem) (Q : DK) : dEqA (.non) (.str j) M Q = Q (.bl false) M := rfl
@[simp] theorem dNeA_ns (j : Str) (M : Mem) (Q : DK) : dNeA (.non) (.str j) M Q = Q (.bl (!false)) M := rfl
@[simp] theorem dEqA_nn (M : Mem) (Q : DK) : dEqA (.non) (.non) M Q = Q (.bl true) M := rfl
@[simp] theorem dNeA_nn (M : Mem) (Q : DK) : dNeA (.non) (.non) M Q = Q (.bl (!true)) M := rfl
def rEqA (K : PySem.W.Frag) : R2 := fun x y H Q => rEq x y H Q ∨ rEqD K x y H Q
def rNeA (K : PySem.W.Frag) : R2 := fun x y H Q => rNe x y H Q ∨ rNeD K x y H Q
theorem op_eqA {X : Cx} (hu : X.A.units + 64 < cLine) : OpR X (compareOp .Eq) (rEqA X.K) := op_eq.or (op_eqD hu)
theorem op_neA {X : Cx} (hu : X.A.units + 64 < cLine) : OpR X (compareOp .NotEq) (rNeA X.K) := op_ne.or (op_neD hu)
theorem o2_eqA : Op2 K (rEqA K) dEqA := by
  intro F M H x y dx dy Q' Q gd rx ry h k
  unfold dEqA at h
  cases e : eqS dx dy with
  | some b =>
    rw [e] at h
    exact .inl (o2_eq F M H x y dx dy Q' Q gd rx ry ⟨b, e, h⟩ k)
  | none =>
    rw [e] at h
    obtain ⟨p, q, hp, hq, s1, s2, h⟩ := h
    exact .inr ⟨p, q, hp.dp gd _ rx, hq.dp gd _ ry, s1, s2, k _ H F M _ (Ex.refl F) gd (.bl _) h⟩
theorem o2_neA : Op2 K (rNeA K) dNeA := by
  intro F M H x y dx dy Q' Q gd rx ry h k
  unfold dNeA at h
  cases e : eqS dx dy with
  | some b =>
    rw [e] at h
    exact .inl (o2_ne F M H x y dx dy Q' Q gd rx ry ⟨b, e, h⟩ k)
  | none =>
    rw [e] at h
    obtain ⟨p, q, hp, hq, s1, s2, h⟩ := h
    exact .inr ⟨p, q, hp.dp gd _ rx, hq.dp gd _ ry, s1, s2, k _ H F M _ (Ex.refl F) gd (.bl _) h⟩
/-! ### x[i], x[i:j], len -/
def dIx : D → D → Mem → DK → Prop
  | .tup xs, .int i, M, Q => opD (atI xs i) fun v => Q v M
  | .lst xs, .int i, M, Q => opD (atI xs i) fun v => Q v M
  | .ref p, .int i, M, Q => celL (M p) fun xs => opD (atI xs i) fun v => Q v M
  | .str z, .int i, M, Q => z.length ≤ sizeLine ∧ opD (atI z.cps.toList i) fun c => Q (.str ⟨#[c]⟩) M
  | _, _, M, Q => False
@[simp] theorem dIx_e1 {xs i} : dIx (.tup xs) (.int i) M Q = (opD (atI xs i) fun v => Q v M) := rfl
@[simp] theorem dIx_e2 {xs i} : dIx (.lst xs) (.int i) M Q = (opD (atI xs i) fun v => Q v M) := rfl
@[simp] theorem dIx_e3 {p i} : dIx (.ref p) (.int i) M Q = (celL (M p) fun xs => opD (atI xs i) fun v => Q v M) := rfl
@[simp] theorem dIx_e4 {z i} : dIx (.str z) (.int i) M Q = (z.length ≤ sizeLine ∧ opD (atI z.cps.toList i) fun c => Q (.str ⟨#[c]⟩) M) := rfl
def rIxA (K : PySem.W.Frag) : R2 := fun x y H Q => rIxT K x y H Q ∨ rIxL K x y H Q ∨ rIxS x y H Q
theorem ix_any {X : Cx} : IxR X (rIxA X.K) := ix_tup.or (ix_list.or ix_str)
theorem o2_ix : Op2 K (rIxA K) dIx := by
  intro F M H x y dx dy Q' Q gd rx ry h k
  unfold dIx at h
  split at h
  · obtain ⟨v, e, q⟩ := opD.ok h
    exact .inl (o2_ixT F M H x y _ _ Q' Q gd rx ry ⟨_, _, v, rfl, rfl, e, q⟩ k)
  · obtain ⟨v, e, q⟩ := opD.ok h
    exact .inr (.inl (o2_ixL F M H x y _ _ Q' Q gd rx ry ⟨_, _, v, rfl, rfl, e, q⟩ k))
  · obtain ⟨xs, e1, h⟩ := celL.ok h
    obtain ⟨v, e, q⟩ := opD.ok h
    exact .inr (.inl (o2_ixL F M H x y _ _ Q' Q gd rx ry ⟨xs, _, v, e1, rfl, e, q⟩ k))
  · obtain ⟨hz, h⟩ := h
    obtain ⟨c, e, q⟩ := opD.ok h
    exact .inr (.inr ⟨_, _, c, rx.str_of, ry.int_of, hz, e, k _ H F M _ (Ex.refl F) gd (.str _) q⟩)
  · exact h.elim
def dSlA : D → Option Int → Option Int → Mem → DK → Prop
  | .tup xs, lo, hi, M, Q => Q (.tup (cut xs lo hi)) M
  | .str z, lo, hi, M, Q => z.length ≤ sizeLine ∧ Q (.str (cutS z lo hi)) M
  | x, lo, hi, M, Q => lsD M x fun xs => Q (.lst (cut xs lo hi)) M
@[simp] theorem dSlA_e1 {xs lo hi} : dSlA (.tup xs) lo hi M Q = (Q (.tup (cut xs lo hi)) M) := rfl
@[simp] theorem dSlA_e2 {z lo hi} : dSlA (.str z) lo hi M Q = (z.length ≤ sizeLine ∧ Q (.str (cutS z lo hi)) M) := rfl
@[simp] theorem dSlA_e3 {x_ lo hi} : dSlA (.lst x_) lo hi M Q = (lsD M (.lst x_) fun xs => Q (.lst (cut xs lo hi)) M) := rfl
@[simp] theorem dSlA_e4 {x_ lo hi} : dSlA (.ref x_) lo hi M Q = (lsD M (.ref x_) fun xs => Q (.lst (cut xs lo hi)) M) := rfl
def rSlAny (K : PySem.W.Frag) : V → Option Int → Option Int → Hp → VK → Prop := fun x lo hi H Q => rSlA K x lo hi H Q ∨ rSlL K x lo hi H Q ∨ rSlS x lo hi H Q
theorem sl_any {X : Cx} : SlR X (rSlAny X.K) := sl_tupA.or (sl_list.or sl_str)
theorem os_sl : OpS K (rSlAny K) dSlA := by
  intro F M H x lo hi dx Q' Q gd rx h k
  unfold dSlA at h
  split at h
  · exact .inl (os_slT F M H x lo hi _ Q' Q gd rx ⟨_, rfl, h⟩ k)
  · exact .inr (.inr ⟨_, rx.str_of, h.1, k _ H F M _ (Ex.refl F) gd (.str _) h.2⟩)
  · exact .inr (.inl (os_slL F M H x lo hi _ Q' Q gd rx h k))
theorem os_slM : OpS K (rSlAny K) dSlLM := fun F M H x lo hi dx Q' Q gd rx h k => .inr (.inl (os_slLM F M H x lo hi dx Q' Q gd rx h k))
def dLen : List D → Mem → DK → Prop
  | [.tup xs], M, Q => Q (.int xs.length) M
  | [.lst xs], M, Q => Q (.int xs.length) M
  | [.ref p], M, Q => celL (M p) fun xs => Q (.int xs.length) M
  | [.str z], M, Q => z.length ≤ sizeLine ∧ Q (.int z.length) M
  | _, M, Q => False
@[simp] theorem dLen_e1 {xs} : dLen [.tup xs] M Q = (Q (.int xs.length) M) := rfl
@[simp] theorem dLen_e2 {xs} : dLen [.lst xs] M Q = (Q (.int xs.length) M) := rfl
@[simp] theorem dLen_e3 {p} : dLen [.ref p] M Q = (celL (M p) fun xs => Q (.int xs.length) M) := rfl
@[simp] theorem dLen_e4 {z} : dLen [.str z] M Q = (z.length ≤ sizeLine ∧ Q (.int z.length) M) := rfl
theorem oa_len : OpA K (fun xs H Q => ∃ x n, xs = [x] ∧ LenV K x H n ∧ Q (.int n) H) dLen := by
  intro F M H vs ds Q' Q gd r h k
  unfold dLen at h
  split at h
  · obtain ⟨v, rfl, rv⟩ := r.one
    obtain ⟨a, ws, rfl, hs, rs⟩ := rv.tup_of gd
    exact ⟨_, ws.length, rfl, .inr ⟨_, hs, rfl⟩, by rw [rs.len]; exact k _ H F M _ (Ex.refl F) gd (.int _) h⟩
  · obtain ⟨v, rfl, rv⟩ := r.one
    cases rv with
    | lst q rs => exact ⟨_, _, rfl, .inl ⟨_, sq_of (gd.sub _ _ q), rfl⟩, by rw [rs.len]; exact k _ H F M _ (Ex.refl F) gd (.int _) h⟩
  · obtain ⟨v, rfl, rv⟩ := r.one
    obtain ⟨xs, e, h⟩ := celL.ok h
    obtain ⟨a, ws, rfl, hs, rs⟩ := lstD.ok gd rv (show lstD M (.ref _) xs from e)
    exact ⟨_, _, rfl, .inl ⟨_, hs, rfl⟩, by rw [rs.len]; exact k _ H F M _ (Ex.refl F) gd (.int _) h⟩
  · obtain ⟨v, rfl, rv⟩ := r.one
    obtain rfl := rv.str_of
    exact ⟨_, _, rfl, ⟨h.1, rfl⟩, k _ H F M _ (Ex.refl F) gd (.int _) h.2⟩
  · exact h.elim
/-! ### abs, min, max, int, tuple, list -/
def dAbs : List D → Mem → DK → Prop
  | [.int i], M, Q => Q (.int (if i < 0 then -i else i)) M
  | _, M, Q => False
@[simp] theorem dAbs_e1 {i} : dAbs [.int i] M Q = (Q (.int (if i < 0 then -i else i)) M) := rfl
theorem oa_abs : OpA K (fun xs H Q => ∃ i, xs = [.int i] ∧ Q (.int (if i < 0 then -i else i)) H) dAbs := by
  intro F M H vs ds Q' Q gd r h k
  unfold dAbs at h
  split at h
  · obtain ⟨v, rfl, rv⟩ := r.one
    obtain rfl := rv.int_of
    exact ⟨_, rfl, k _ H F M _ (Ex.refl F) gd (.int _) h⟩
  · exact h.elim
def dMax : List D → Mem → DK → Prop
  | [.int i, .int j], M, Q => Q (.int (if j > i then j else i)) M
  | _, M, Q => False
@[simp] theorem dMax_e1 {i j} : dMax [.int i, .int j] M Q = (Q (.int (if j > i then j else i)) M) := rfl
theorem oa_max : OpA K (fun xs H Q => ∃ i j, xs = [.int i, .int j] ∧ Q (.int (if j > i then j else i)) H) dMax := by
  intro F M H vs ds Q' Q gd r h k
  unfold dMax at h
  split at h
  · obtain ⟨v, w, rfl, rv, rw⟩ := r.two
    obtain rfl := rv.int_of
    obtain rfl := rw.int_of
    exact ⟨_, _, rfl, k _ H F M _ (Ex.refl F) gd (.int _) h⟩
  · exact h.elim
def dMin : List D → Mem → DK → Prop
  | [.int i, .int j], M, Q => Q (.int (if j < i then j else i)) M
  | _, M, Q => False
@[simp] theorem dMin_e1 {i j} : dMin [.int i, .int j] M Q = (Q (.int (if j < i then j else i)) M) := rfl
theorem oa_min : OpA K (fun xs H Q => ∃ i j, xs = [.int i, .int j] ∧ Q (.int (if j < i then j else i)) H) dMin := by
  intro F M H vs ds Q' Q gd r h k
  unfold dMin at h
  split at h
  · obtain ⟨v, w, rfl, rv, rw⟩ := r.two
    obtain rfl := rv.int_of
    obtain rfl := rw.int_of
    exact ⟨_, _, rfl, k _ H F M _ (Ex.refl F) gd (.int _) h⟩
  · exact h.elim
def dInt : List D → Mem → DK → Prop
  | [.int i], M, Q => Q (.int i) M
  | [.bl b], M, Q => Q (.int (if b then 1 else 0)) M
  | _, M, Q => False
@[simp] theorem dInt_e1 {i} : dInt [.int i] M Q = (Q (.int i) M) := rfl
@[simp] theorem dInt_e2 {b} : dInt [.bl b] M Q = (Q (.int (if b then 1 else 0)) M) := rfl
theorem oa_int : OpA K (fun xs H Q => (∃ i, xs = [.int i] ∧ Q (.int i) H) ∨ ∃ k, xs = [.bl k] ∧ Q (.int (if k then 1 else 0)) H) dInt := by
  intro F M H vs ds Q' Q gd r h k
  unfold dInt at h
  split at h
  · obtain ⟨v, rfl, rv⟩ := r.one
    obtain rfl := rv.int_of
    exact .inl ⟨_, rfl, k _ H F M _ (Ex.refl F) gd (.int _) h⟩
  · obtain ⟨v, rfl, rv⟩ := r.one
    obtain rfl := rv.bl_of
    exact .inr ⟨_, rfl, k _ H F M _ (Ex.refl F) gd (.int _) h⟩
  · exact h.elim
def seqD : Mem → D → List D → Prop
  | M, .tup ys, xs => ys = xs
  | M, d, xs => lstD M d xs
@[simp] theorem seqD_e1 {ys xs} : seqD M (.tup ys) xs = (ys = xs) := rfl
@[simp] theorem seqD_e2 {d_ xs} : seqD M (.lst d_) xs = (lstD M (.lst d_) xs) := rfl
@[simp] theorem seqD_e3 {d_ xs} : seqD M (.ref d_) xs = (lstD M (.ref d_) xs) := rfl
theorem sqD.ok {M : Mem} {d : D} {p : List D → Prop} (h : sqD M d p) : ∃ xs, seqD M d xs ∧ p xs := by
  cases d with
  | tup xs => exact ⟨xs, rfl, h⟩
  | lst xs => exact ⟨xs, rfl, h⟩
  | ref a => obtain ⟨xs, e, h⟩ := celL.ok h; exact ⟨xs, e, h⟩
  | _ => exact h.elim
def dTupOf : List D → Mem → DK → Prop
  | [x], M, Q => sqD M x fun xs => Q (.tup xs) M
  | _, M, Q => False
@[simp] theorem dTupOf_e1 {x} : dTupOf [x] M Q = (sqD M x fun xs => Q (.tup xs) M) := rfl
theorem oa_tup : OpA K (fun xs H Q => ∃ p ys, xs = [.ref p] ∧ ((SqL K H p ys ∧ ∀ l, H l = none → Q (.ref l) (upd H l (.tup ys))) ∨ (SqT K H p ys ∧ Q (.ref p) H))) dTupOf := by
  intro F M H vs ds Q' Q gd r h k
  unfold dTupOf at h
  split at h
  · obtain ⟨v, rfl, rv⟩ := r.one
    obtain ⟨xs, hs, q⟩ := sqD.ok h
    unfold seqD at hs
    split at hs
    · subst hs
      obtain ⟨a, ws, rfl, hs, rs⟩ := rv.tup_of gd
      exact ⟨_, _, rfl, .inr ⟨hs, k _ H F M _ (Ex.refl F) gd rv q⟩⟩
    · obtain ⟨a, ws, rfl, hs, rs⟩ := lstD.ok gd rv hs
      exact ⟨_, _, rfl, .inl ⟨hs, fun p hp => newT gd k rs q p hp⟩⟩
  · exact h.elim
def dLstOf : List D → Mem → DK → Prop
  | [x], M, Q => sqD M x fun xs => Q (.lst xs) M
  | _, M, Q => False
@[simp] theorem dLstOf_e1 {x} : dLstOf [x] M Q = (sqD M x fun xs => Q (.lst xs) M) := rfl
theorem oa_lst : OpA K (fun xs H Q => ∃ p ys, xs = [.ref p] ∧ (SqL K H p ys ∨ SqT K H p ys) ∧ ∀ l, H l = none → Q (.ref l) (upd H l (.lst ys))) dLstOf := by
  intro F M H vs ds Q' Q gd r h k
  unfold dLstOf at h
  split at h
  · obtain ⟨v, rfl, rv⟩ := r.one
    obtain ⟨xs, hs, q⟩ := sqD.ok h
    unfold seqD at hs
    split at hs
    · subst hs
      obtain ⟨a, ws, rfl, hs, rs⟩ := rv.tup_of gd
      exact ⟨_, _, rfl, .inr hs, fun p hp => newF gd k rs q p hp⟩
    · obtain ⟨a, ws, rfl, hs, rs⟩ := lstD.ok gd rv hs
      exact ⟨_, _, rfl, .inl hs, fun p hp => newF gd k rs q p hp⟩
  · exact h.elim
/-! ### isinstance of a built-in class -/
def kindD (M : Mem) : D → Option String
  | .non => some "NoneType" | .bl _ => some "bool" | .int _ => some "int" | .str _ => some "str" | .tup _ => some "tuple" | .lst _ => some "list" | .dic _ => some "dict"
  | .ref p => match M p with
    | some (.lst _) => some "list"
    | some (.dic _) => some "dict"
    | _ => none
  | _ => none
theorem SqT.tyx {H : Hp} {a : Addr} {vs : List V} (h : SqT K H a vs) : TyX K H (.ref a) (.type "tuple") := by
  rcases h with h | ⟨o, its, n, hk, hc, _⟩
  · rcases h with h | ⟨o, h⟩
    · exact .base (.tup h)
    · exact .fTuple h
  · exact .kTuple hk hc
theorem kind_ok {F H : Hp} {M : Mem} {v : V} {d : D} {n : String} (gd : Good K F M H) (r : Dat K F v d) (h : kindD M d = some n) : TyX K H v (.type n) := by
  cases r with
  | non => cases h; exact .base .non
  | bl b => cases h; exact .base (.bl b)
  | int i => cases h; exact .base (.int i)
  | str s => cases h; exact .base (.str s)
  | tup q _ => cases h; exact SqT.tyx (ex_t gd.sub q)
  | lst q _ => cases h; exact .base (.lst (gd.sub _ _ q))
  | dic q _ => cases h; exact .base (.dK (gd.sub _ _ q))
  | ref p =>
    have h' : (match M p with
      | some (.lst _) => some "list"
      | some (.dic _) => some "dict"
      | _ => none) = some n := h
    cases e : M p with
    | none => rw [e] at h'; cases h'
    | some c =>
      rw [e] at h'
      obtain ⟨_, hc⟩ := gd.mem p _ e
      cases c with
      | lst ds => cases h'; obtain ⟨vs, hv, _⟩ := hc; exact .base (.lst hv)
      | dic ds => cases h'; obtain ⟨vs, hv, _⟩ := hc; exact .base (.dK hv)
      | ins C fs => cases h'
      | tab q => cases h'
      | dno q => cases h'
  | ty n => cases h
  | scr q r => cases h
  | clo q r => cases h
  | dno q _ _ => cases h
/-- isinstance(x, T), T a built-in class -/
def dIsi : List D → Mem → DK → Prop
  | [x, .ty n], M, Q => (match kindD M x with
    | some m => (match kitB m n with
      | some b => Q (.bl b) M
      | none => False)
    | none => False)
  | _, M, Q => False
@[simp] theorem dIsi_e1 {x n} : dIsi [x, .ty n] M Q = ((match kindD M x with
    | some m => (match kitB m n with
      | some b => Q (.bl b) M
      | none => False)
    | none => False)) := rfl
theorem oa_isi : OpA K (rIsi K) dIsi := by
  intro F M H vs ds Q' Q gd r h k
  obtain ⟨x, n, m, b, rfl, hk, hb, q⟩ : ∃ x n m b, ds = [x, .ty n] ∧ kindD M x = some m ∧ kitB m n = some b ∧ Q' (.bl b) M := by
    unfold dIsi at h
    split at h
    · rename_i x n
      split at h
      · rename_i m e1
        split at h
        · rename_i b e2
          exact ⟨x, n, m, b, rfl, e1, e2, h⟩
        · exact h.elim
      · exact h.elim
    · exact h.elim
  obtain ⟨v, w, rfl, rv, rw⟩ := r.two
  obtain rfl := rw.ty_of
  exact ⟨v, _, _, _, b, rfl, .ty n, kind_ok gd rv hk, kit_ty hb, k _ H F M _ (Ex.refl F) gd (.bl b) q⟩
/-! ### the methods of lists that change -/
def dAppend : D → List D → Mem → DK → Prop
  | .ref p, [y], M, Q => celL (M p) fun xs => xs.length < sizeLine ∧ Q .non (put M p (.lst (xs ++ [y])))
  | _, _, M, Q => False
@[simp] theorem dAppend_e1 {p y} : dAppend (.ref p) [y] M Q = (celL (M p) fun xs => xs.length < sizeLine ∧ Q .non (put M p (.lst (xs ++ [y])))) := rfl
def dPop : D → List D → Mem → DK → Prop
  | .ref p, [], M, Q => celL (M p) fun xs => opD (xs[xs.length - 1]?) fun y => Q y (put M p (.lst xs.dropLast))
  | _, _, _, _ => False
@[simp] theorem dPop_e1 {p} : dPop (.ref p) [] M Q = (celL (M p) fun xs => opD (xs[xs.length - 1]?) fun y => Q y (put M p (.lst xs.dropLast))) := rfl
def dPopAt : D → List D → Mem → DK → Prop
  | .ref p, [.int i], M, Q => celL (M p) fun xs => -(2 ^ 63) ≤ i ∧ i < 2 ^ 63 ∧ opD (seqIndex? i xs.length) fun k => opD (xs[k]?) fun y => Q y (put M p (.lst (xs.eraseIdx k)))
  | _, _, _, _ => False
@[simp] theorem dPopAt_e1 {p i} : dPopAt (.ref p) [.int i] M Q = (celL (M p) fun xs => -(2 ^ 63) ≤ i ∧ i < 2 ^ 63 ∧ opD (seqIndex? i xs.length) fun k => opD (xs[k]?) fun y => Q y (put M p (.lst (xs.eraseIdx k)))) := rfl
def dExtend : D → List D → Mem → DK → Prop
  | .ref p, [y], M, Q => celL (M p) fun xs => lsD M y fun ys => xs.length + ys.length ≤ sizeLine ∧ Q .non (put M p (.lst (xs ++ ys)))
  | _, _, _, _ => False
@[simp] theorem dExtend_e1 {p y} : dExtend (.ref p) [y] M Q = (celL (M p) fun xs => lsD M y fun ys => xs.length + ys.length ≤ sizeLine ∧ Q .non (put M p (.lst (xs ++ ys)))) := rfl
/-- a method by values, over data -/
def OpM (K : PySem.W.Frag) (r : V → List V → Hp → VK → Prop) (f : D → List D → Mem → DK → Prop) : Prop := ∀ (F : Hp) (M : Mem) (H : Hp) (x : V) (vs : List V) (dx : D) (ds : List D) (Q' : DK) (Q : VK), Good K F M H → Dat K F x dx → DatAll K F vs ds → f dx ds M Q' → KO K F Q' Q → r x vs H Q
theorem om_append : OpM K rAppend dAppend := by
  intro F M H x vs dx ds Q' Q gd rx r h k
  obtain ⟨p, xs, y, rfl, rfl, e, hz, q⟩ : ∃ p xs y, dx = .ref p ∧ ds = [y] ∧ M p = some (.lst xs) ∧ xs.length < sizeLine ∧ Q' .non (put M p (.lst (xs ++ [y]))) := by
    unfold dAppend at h
    split at h
    · obtain ⟨xs, e, h⟩ := celL.ok h
      exact ⟨_, xs, _, rfl, rfl, e, h⟩
    · exact h.elim
  obtain ⟨v, rfl, rv⟩ := r.one
  obtain ⟨_, ws, hw, rw⟩ := gd.mem p _ e
  exact ⟨p, ws, v, rx.ref_of, rfl, hw, by rw [rw.len]; exact hz, k _ _ F _ _ (Ex.refl F) (gd.setL e (rw.app (.cons rv .nil))) .non q⟩
theorem DatAll.nil_of' {F : Hp} {vs : List V} (r : DatAll K F vs []) : vs = [] := by cases r; rfl
theorem om_pop : OpM K rPop dPop := by
  intro F M H x vs dx ds Q' Q gd rx r h k
  obtain ⟨p, xs, y, rfl, rfl, e, hy, q⟩ : ∃ p xs y, dx = .ref p ∧ ds = [] ∧ M p = some (.lst xs) ∧ xs[xs.length - 1]? = some y ∧ Q' y (put M p (.lst xs.dropLast)) := by
    unfold dPop at h
    split at h
    · obtain ⟨xs, e, h⟩ := celL.ok h
      obtain ⟨y, e2, h⟩ := opD.ok h
      exact ⟨_, xs, y, rfl, rfl, e, e2, h⟩
    · exact h.elim
  obtain rfl := r.nil_of'
  obtain ⟨_, ws, hw, rw⟩ := gd.mem p _ e
  obtain ⟨v, hv, rv⟩ := rw.at hy
  refine ⟨p, ws, v, rx.ref_of, rfl, hw, by rw [rw.len]; exact hv, k _ _ F _ _ (Ex.refl F) (gd.setL e ?_) rv q⟩
  rw [List.dropLast_eq_take, List.dropLast_eq_take, rw.len]
  exact rw.take _
theorem om_popAt : OpM K rPopAt dPopAt := by
  intro F M H x vs dx ds Q' Q gd rx r h k
  obtain ⟨p, xs, i, n, y, rfl, rfl, e, h1, h2, h3, hy, q⟩ : ∃ p xs i k y, dx = .ref p ∧ ds = [.int i] ∧ M p = some (.lst xs) ∧ -(2 ^ 63) ≤ i ∧ i < 2 ^ 63 ∧ seqIndex? i xs.length = some k ∧ xs[k]? = some y ∧ Q' y (put M p (.lst (xs.eraseIdx k))) := by
    unfold dPopAt at h
    split at h
    · obtain ⟨xs, e, h1, h2, h⟩ := celL.ok h
      obtain ⟨k, e2, h⟩ := opD.ok h
      obtain ⟨y, e3, h⟩ := opD.ok h
      exact ⟨_, xs, _, k, y, rfl, rfl, e, h1, h2, e2, e3, h⟩
    · exact h.elim
  obtain ⟨v, rfl, rv⟩ := r.one
  obtain rfl := rv.int_of
  obtain ⟨_, ws, hw, rw⟩ := gd.mem p _ e
  obtain ⟨v, hv, rv⟩ := rw.at hy
  exact ⟨p, ws, i, n, v, rx.ref_of, rfl, hw, h1, h2, by rw [rw.len]; exact h3, hv, k _ _ F _ _ (Ex.refl F) (gd.setL e (rw.erase n)) rv q⟩
end
/-! ### calls of built-in methods -/
@[simp] def dBM (f : D → List D → Mem → DK → Prop) (to : DE) (t : DA) : DE := fun ρ M Q => to ρ M fun x M1 => t ρ M1 fun ds M2 => f x ds M2 Q
end DL

set_option maxHeartbeats 4000000
/-! DLg: match, stars, methods of lists, more that is walked. -/
namespace DL
open PySem PySem.Spec PyProof.Rows L2 Evl
/-! ### match over plain patterns -/
abbrev DM := D → DS
def LM (K : PySem.W.Frag) (t : DM) (v : V) : TS := fun D σ H => ∃ F ρ M d DD, Good K F M H ∧ EnvD K F σ ρ ∧ Dat K F v d ∧ t d DD ρ M ∧ KOD K F DD D
structure QM (X : Cx) (cs : List MatchCase) (t : DM) : Prop where
  run : ∀ (first : Bool) (pins : List (Addr × Obj)) (s : Shared) (σ : L2.St) (H : Hp) (D : Ends) (v : V) (u : Value), Inv X pins σ H s → RelV v u → LM X.K t v D σ H → wpAny (model X.prog X.w) X.A (matchCases cs X.env u first) (SP X pins D) X.xe s
@[simp] def dMNil : DM := fun _ D ρ M => D.nx ρ M
@[simp] def dMLit (w : D) (b : DS) (r : DM) : DM := fun d D ρ M => opD (eqS d w) fun c => if c = true then b D ρ M else r d D ρ M
@[simp] def dMatch (te : DE) (t : DM) : DS := fun D ρ M => te ρ M fun d M1 => t d D ρ M1
section
variable {X : Cx} {e : Expr} {te : DE} {cs : List MatchCase} {r : DM} {b : DS} {body : List Stmt} {pos p1 : Pos}
theorem qm_nil : QM X [] dMNil := ⟨fun first pins s σ H D v u I rv h => by
  obtain ⟨F, ρ, M, d, DD, g, en, rd, h, k⟩ := h
  exact wpAny_matchCases_nil ⟨σ, H, I, k.nx σ H F ρ M (Ex.refl F) g en h⟩⟩
theorem qm_str {x : Str} {j : Nat} (hb : QSs X body b) (hr : QM X cs r) : QM X (⟨.MatchValue (.Constant (.str x) j pos) p1, none, body⟩ :: cs) (dMLit (.str x) b r) := ⟨fun first pins s σ H D v u I rv h => by
  obtain ⟨F, ρ, M, d, DD, g, en, rd, h, k⟩ := h
  obtain ⟨c, ec, h⟩ := opD.ok h
  refine wpAny_matchCases_cons (wpAny_matchPattern_Value ?_)
  refine thn ((pe_str (X := X) (x := x) (j := j) (pos := pos)).run pins s σ H (fun w H' => w = .str x ∧ H' = H) I ⟨rfl, rfl⟩) fun u2 s1 ⟨w, H1, I1, rw1, e1, e2⟩ => ?_
  subst e1
  rw [e2] at I1
  obtain ⟨h1, h2⟩ := eqS_ok rd (.str x) ec
  refine thn (op_eq pins s1 σ H v (.str x) u u2 (fun z H' => z = .bl c ∧ H' = H) I1 rv rw1 ⟨h1, by rw [h2], rfl⟩) fun u3 s2 ⟨z, H2, I2, rz, e3, e4⟩ => ?_
  subst e3
  rw [e4] at I2
  obtain rfl : u3 = Value.bool c := rz
  refine wpAny_truthy_bool ?_
  cases c with
  | true => exact assignInOrder_nil (hb.run pins s2 σ H D I2 ⟨F, ρ, M, DD, g, en, h, k⟩)
  | false => exact hr.run false pins s2 σ H D v u I2 rv ⟨F, ρ, M, d, DD, g, en, rd, h, k⟩⟩
theorem qs_match (he : QE X e te) (hm : QM X cs r) : QS X (.Match e cs pos) (dMatch te r) := ⟨fun pins s σ H D I h => by
  obtain ⟨F, ρ, M, DD, g, en, h, k⟩ := h
  refine wpAny_Match (thn (he.run pins s σ H (fun v H1 => LM X.K r v D σ H1) I ⟨F, ρ, M, _, g, en, h, fun v H1 F1 M1 d e1 g1 rv h1 => ⟨F1, ρ, M1, d, DD, g1, en.ex e1, rv, h1, k.ex e1⟩⟩) fun u s1 ⟨v, H1, I1, rv, q⟩ => ?_)
  exact hm.run true pins s1 σ H1 D v u I1 rv q⟩
/-! ### stars in displays and arguments -/
@[simp] def dStar (te : DE) (t : DA) : DA := fun ρ M Q => te ρ M fun x M1 => sqD M1 x fun xs => t ρ M1 fun ys M2 => Q (xs ++ ys) M2
theorem seqD.ok {K : PySem.W.Frag} {F H : Hp} {M : Mem} {v : V} {d : D} {xs : List D} (g : Good K F M H) (r : Dat K F v d) (h : seqD M d xs) : ∃ a vs, v = .ref a ∧ (SqT K H a vs ∨ SqL K H a vs) ∧ DatAll K F vs xs := by
  unfold seqD at h
  split at h
  · subst h
    obtain ⟨a, vs, e, hs, rs⟩ := r.tup_of g
    exact ⟨a, vs, e, .inl hs, rs⟩
  · obtain ⟨a, vs, e, hs, rs⟩ := lstD.ok g r h
    exact ⟨a, vs, e, .inr hs, rs⟩
theorem qa_star {es : List Expr} {tr : DA} {p : Pos} (he : QE X e te) (hr : QA X es tr) (hs : starEach (.Starred e p :: es) X.env = (true, eval e X.env) :: starEach es X.env := by rfl) : QA X (.Starred e p :: es) (dStar te tr) := wkA (StX.pa_star he hr hs) fun σ H Q h => by
  obtain ⟨F, ρ, M, Q', g, en, h, k⟩ := h
  refine ⟨F, ρ, M, _, g, en, h, fun x H1 F1 M1 dx e1 g1 rx h1 => ?_⟩
  obtain ⟨xs, hx, h1⟩ := sqD.ok h1
  obtain ⟨a, vs, ev, hs, rs⟩ := seqD.ok g1 rx hx
  refine ⟨a, vs, ev, hs, F1, ρ, M1, _, g1, en.ex e1, h1, fun ws H2 F2 M2 ds e2 g2 rw h2 => ?_⟩
  exact k _ H2 F2 M2 _ (e1.trans e2) g2 ((rs.ex e2).app rw) h2
/-! ### methods of lists -/
def isL (M : Mem) (x : D) : Prop := lsD M x fun _ => True
@[simp] def dML (f : D → List D → Mem → DK → Prop) (to : DE) (t : DA) : DE := fun ρ M Q => to ρ M fun x M1 => isL M1 x ∧ t ρ M1 fun ds M2 => f x ds M2 Q
@[simp] def dML0 (f : D → List D → Mem → DK → Prop) (to : DE) : DE := fun ρ M Q => to ρ M fun x M1 => isL M1 x ∧ f x [] M1 Q
theorem isL.ty {K : PySem.W.Frag} {F H : Hp} {M : Mem} {v : V} {d : D} (g : Good K F M H) (r : Dat K F v d) (h : isL M d) : tyV K "list" v H := by
  obtain ⟨xs, h, _⟩ := lsD.ok h
  obtain ⟨a, vs, rfl, hs, _⟩ := lstD.ok g r h
  exact .inl ⟨rfl, vs, hs⟩
theorem q_ml {o : Expr} {to : DE} {es : List Expr} {tr : DA} {name : Str} {id : String} {rr : V → List V → Hp → VK → Prop} {f : D → List D → Mem → DK → Prop} {apos cpos : Pos} (slot : Slot "list" name id) (hty : typeOf (.builtin id) = pure (.type "method_descriptor")) (hm : MtR X id rr) (hf : OpM X.K rr f) (ho : QE X o to) (ha : QA X (e :: es) tr)
    (hbase : attributeBase o name X.env (eval o X.env) = eval o X.env := by rfl)
    (hfew : ((backTo cpos (starEach (e :: es) X.env)).all (fun x => !x.1) && (backToKw cpos (keywordEach [] X.env)).all (fun x => x.1.isSome)
      && decide ((e :: es).length + ([] : List Keyword).length + (if ([] : List Keyword).isEmpty then 0 else 1) < 30)) = true := by rfl)
    (hline : (apos.endLine == cpos.line) = true := by rfl) (he : starEach (e :: es) X.env = (false, eval e X.env) :: starEach es X.env := by rfl) (hpl : (backTo cpos (starEach es X.env)).any (·.1) = false := by rfl) :
    QE X (.Call (.Attribute o name apos) (e :: es) [] cpos) (dML f to tr) := wkE (pe_bm PySem.F.plainAttrs_list slot hty hm ho ha hbase hfew hline he hpl) fun σ H Q h => by
  obtain ⟨F, ρ, M, Q', g, en, h, k⟩ := h
  refine ⟨F, ρ, M, _, g, en, h, fun x H1 F1 M1 dx e1 g1 rx ⟨hl, h1⟩ => ⟨hl.ty g1 rx, ?_⟩⟩
  refine ⟨F1, ρ, M1, _, g1, en.ex e1, h1, fun vs H2 F2 M2 ds e2 g2 rs h2 => ?_⟩
  exact hf F2 M2 H2 x vs dx ds Q' Q g2 (rx.ex e2) rs h2 (k.ex (e1.trans e2))
theorem q_ml0 {o : Expr} {to : DE} {name : Str} {id : String} {rr : V → List V → Hp → VK → Prop} {f : D → List D → Mem → DK → Prop} {apos cpos : Pos} (slot : Slot "list" name id) (hty : typeOf (.builtin id) = pure (.type "method_descriptor")) (hm : MtR X id rr) (hf : OpM X.K rr f) (ho : QE X o to)
    (hbase : attributeBase o name X.env (eval o X.env) = eval o X.env := by rfl) (hline : (apos.endLine == cpos.line) = true := by rfl) : QE X (.Call (.Attribute o name apos) [] [] cpos) (dML0 f to) := wkE (pe_bm0 PySem.F.plainAttrs_list slot hty hm ho hbase hline) fun σ H Q h => by
  obtain ⟨F, ρ, M, Q', g, en, h, k⟩ := h
  refine ⟨F, ρ, M, _, g, en, h, fun x H1 F1 M1 dx e1 g1 rx ⟨hl, h1⟩ => ⟨hl.ty g1 rx, ?_⟩⟩
  exact hf F1 M1 H1 x [] dx [] Q' Q g1 rx .nil h1 (k.ex e1)
/-- xs.append(e), xs.pop(), xs.pop(i), xs.extend(ys), xs.count(y), xs.index(y) -/
theorem q_append {o : Expr} {to : DE} {apos cpos : Pos} (ho : QE X o to) (he : QE X e te) (hbase : attributeBase o "append" X.env (eval o X.env) = eval o X.env := by rfl) (hline : (apos.endLine == cpos.line) = true := by rfl)
    (hs : starEach [e] X.env = [(false, eval e X.env)] := by rfl) (hfew : ((backTo cpos (starEach [e] X.env)).all (fun x => !x.1) && (backToKw cpos (keywordEach [] X.env)).all (fun x => x.1.isSome)
      && decide ([e].length + ([] : List Keyword).length + (if ([] : List Keyword).isEmpty then 0 else 1) < 30)) = true := by rfl) :
    QE X (.Call (.Attribute o "append" apos) [e] [] cpos) (dML dAppend to (dCons te dNil)) := q_ml PySem.F.slot_list_append PySem.F.type_list_append mt_append om_append ho (qa_cons he qa_nil hs) hbase hfew hline hs rfl
theorem q_pop0 {o : Expr} {to : DE} {apos cpos : Pos} (ho : QE X o to) (hbase : attributeBase o "pop" X.env (eval o X.env) = eval o X.env := by rfl) (hline : (apos.endLine == cpos.line) = true := by rfl) :
    QE X (.Call (.Attribute o "pop" apos) [] [] cpos) (dML0 dPop to) := q_ml0 PySem.F.slot_list_pop PySem.F.type_list_pop mt_pop om_pop ho hbase hline
theorem q_popAt {o : Expr} {to : DE} {apos cpos : Pos} (ho : QE X o to) (he : QE X e te) (hbase : attributeBase o "pop" X.env (eval o X.env) = eval o X.env := by rfl) (hline : (apos.endLine == cpos.line) = true := by rfl)
    (hs : starEach [e] X.env = [(false, eval e X.env)] := by rfl) (hfew : ((backTo cpos (starEach [e] X.env)).all (fun x => !x.1) && (backToKw cpos (keywordEach [] X.env)).all (fun x => x.1.isSome)
      && decide ([e].length + ([] : List Keyword).length + (if ([] : List Keyword).isEmpty then 0 else 1) < 30)) = true := by rfl) :
    QE X (.Call (.Attribute o "pop" apos) [e] [] cpos) (dML dPopAt to (dCons te dNil)) := q_ml PySem.F.slot_list_pop PySem.F.type_list_pop mt_popAt om_popAt ho (qa_cons he qa_nil hs) hbase hfew hline hs rfl
end
section
variable {K : PySem.W.Frag}
/-- xs.extend(ys) -/
theorem om_extend : OpM K rExtend dExtend := by
  intro F M H x vs dx ds Q' Q gd rx r h k
  obtain ⟨p, xs, y, ys, rfl, rfl, e, hl, hz, q⟩ : ∃ p xs y ys, dx = .ref p ∧ ds = [y] ∧ M p = some (.lst xs) ∧ lstD M y ys ∧ xs.length + ys.length ≤ sizeLine ∧ Q' .non (put M p (.lst (xs ++ ys))) := by
    unfold dExtend at h
    split at h
    · obtain ⟨xs, e, h⟩ := celL.ok h
      obtain ⟨ys, e2, h⟩ := lsD.ok h
      exact ⟨_, xs, _, ys, rfl, rfl, e, e2, h⟩
    · exact h.elim
  obtain ⟨v, rfl, rv⟩ := r.one
  obtain ⟨_, ws, hw, rw⟩ := gd.mem p _ e
  obtain ⟨b, us, rfl, hu, ru⟩ := lstD.exact gd rv hl
  exact ⟨p, b, ws, us, rx.ref_of, rfl, hw, hu, by rw [rw.len, ru.len]; exact hz, k _ _ F _ _ (Ex.refl F) (gd.setL e (rw.app ru)) .non q⟩
end
/-! ### enumerate(list), zip(list, list) -/
section
variable {X : Cx} {a b e : Expr} {ta tb te : DE} {tr : DA} {tpos p pos : Pos} {elts : List Expr} {kk : Nat}
def enumD : Int → List D → List D
  | _, [] => []
  | i, x :: xs => .tup [.int i, x] :: enumD (i + 1) xs
theorem enumD_len : ∀ (xs : List D) (i : Int), (enumD i xs).length = xs.length
  | [], _ => rfl
  | x :: xs, i => by simp [enumD, enumD_len xs (i + 1)]
theorem enumD_at : ∀ (xs : List D) (k : Int) (i : Nat), (enumD k xs)[i]? = (xs[i]?).map fun x => .tup [.int (k + (i : Int)), x]
  | [], _, _ => by simp [enumD]
  | x :: xs, k, 0 => by simp [enumD]
  | x :: xs, k, i + 1 => by
    simp only [enumD, List.getElem?_cons_succ, enumD_at xs (k + 1) i]
    have e : k + 1 + (i : Int) = k + ((i + 1 : Nat) : Int) := by omega
    rw [e]
/-- a list that stands still: frozen, read only, or a cell under its own condition -/
def stillD : D → Mem → ((Mem → Prop) → List D → Prop) → Prop
  | .lst xs, M, R => R (fun _ => True) xs
  | .scr xs, M, R => R (fun _ => True) xs
  | .ref p, M, R => celL (M p) fun xs => R (fun M' => M' p = some (.lst xs)) xs
  | _, _, _ => False
@[simp] theorem stillD_e1 {xs} : stillD (.lst xs) M R = (R (fun _ => True) xs) := rfl
@[simp] theorem stillD_e2 {xs} : stillD (.scr xs) M R = (R (fun _ => True) xs) := rfl
@[simp] theorem stillD_e3 {p} : stillD (.ref p) M R = (celL (M p) fun xs => R (fun M' => M' p = some (.lst xs)) xs) := rfl
theorem still_ok {K : PySem.W.Frag} {F H : Hp} {M : Mem} {v : V} {d : D} {R : (Mem → Prop) → List D → Prop} (g : Good K F M H) (r : Dat K F v d) (h : stillD d M R) : ∃ a N xs, v = .ref a ∧ R N xs ∧ (∃ vs, SqL K H a vs) ∧
    ∀ F' M' H', Ex F F' → Good K F' M' H' → N M' → ∃ vs, SqL K H' a vs ∧ DatAll K F' vs xs := by
  cases r with
  | lst q rs => exact ⟨_, _, _, rfl, h, ⟨_, sq_of (g.sub _ _ q)⟩, fun F' M' H' ex g' _ => ⟨_, sq_of (g'.sub _ _ (ex _ _ q)), rs.ex ex⟩⟩
  | scr q rs => exact ⟨_, _, _, rfl, h, ⟨_, ex_l g.sub q⟩, fun F' M' H' ex g' _ => ⟨_, ex_l g'.sub (ex_l ex q), rs.ex ex⟩⟩
  | ref p =>
    obtain ⟨xs, e, h⟩ := celL.ok h
    obtain ⟨_, vs, hv, _⟩ := g.mem p _ e
    refine ⟨p, _, xs, rfl, h, ⟨vs, sq_of hv⟩, fun F' M' H' ex g' n => ?_⟩
    obtain ⟨_, vs, hv, rs⟩ := g'.mem p _ n
    exact ⟨vs, sq_of hv, rs⟩
  | _ => exact h.elim
/-- a new pair laid -/
theorem pair_laid {K : PySem.W.Frag} {F H : Hp} {M : Mem} {T : Addr} {v w : V} {x y : D} (g : Good K F M H) (hT : H T = none) (r1 : Dat K F v x) (r2 : Dat K F w y) : ∃ F', Ex F F' ∧ Good K F' M (upd H T (.tup [v, w])) ∧ Dat K F' (.ref T) (.tup [x, y]) ∧ ∀ a, H a ≠ none → upd H T (.tup [v, w]) a = H a := by
  have ex := Ex.new (o := .tup [v, w]) (g.fnone hT)
  exact ⟨_, ex, g.fix hT, .tup (st_of upd_same) (.cons (r1.ex ex) (.cons (r2.ex ex) .nil)), fun a ha => upd_ne fun z => ha (by rw [z]; exact hT)⟩
def oneD : List D → (D → Prop) → Prop
  | [d], p => p d
  | _, _ => False
@[simp] theorem oneD_e1 {d p} : oneD [d] p = (p d) := rfl
theorem oneD.ok {ds : List D} {p : D → Prop} (h : oneD ds p) : ∃ d, ds = [d] ∧ p d := by
  unfold oneD at h
  split at h
  · exact ⟨_, rfl, h⟩
  · exact h.elim
theorem twoD.ok {ds : List D} {p : D → D → Prop} (h : twoD ds p) : ∃ d e, ds = [d, e] ∧ p d e := by
  unfold twoD at h
  split at h
  · exact ⟨_, _, rfl, h⟩
  · exact h.elim
@[simp] def diEnum (ta : DA) : DI := fun ρ M R => ta ρ M fun ds M1 => oneD ds fun d => stillD d M1 fun N xs => R N (enumD 0 xs) M1
theorem qi_enum (hm : X.mg "enumerate" = none) (ha : QA X [e] tr) (hg : Gl X "enumerate" := by rfl) (hs : starEach [e] X.env = [(false, eval e X.env)] := by rfl) : QI X (.Tuple elts kk tpos) (.Call (.Name "enumerate" p) [e] [] pos) (diEnum tr) := wkI (pi_enum hg hm ha hs) fun σ H R h => by
  obtain ⟨F, ρ, M, Q', gd, en, h, k⟩ := h
  refine ⟨F, ρ, M, _, gd, en, h, fun vs H1 F1 M1 ds e1 g1 rs h1 => ?_⟩
  obtain ⟨d, ed, h1⟩ := oneD.ok h1
  subst ed
  obtain ⟨v, rfl, r⟩ := rs.one
  obtain ⟨a, N, xs, rfl, q, ⟨ws, hw⟩, still⟩ := still_ok g1 r h1
  refine ⟨a, ws, rfl, hw, k _ H1 F1 M1 N _ e1 g1 ?_ q⟩
  refine ⟨fun H => ∃ vs, SqL X.K H a vs ∧ vs.length = xs.length, fun i H v H' => ∃ T x, v = .ref T ∧ H T = none ∧ H' = upd H T (.tup [.int (i : Nat), x]) ∧ ∀ xs, SqL X.K H a xs → xs[i]? = some x, ?_, ?_, ?_⟩
  · rw [enumD_len]
    exact ⟨fun i H hi ⟨vs, q, l⟩ => ⟨vs, vs[i]'(by omega), q, by simp [show i < vs.length by omega]⟩, fun H ⟨vs, q, l⟩ => ⟨vs, q, by omega⟩, fun i H x H' _ _ y => y⟩
  · intro F' M' H' ex g' n
    obtain ⟨vs, hv, r⟩ := still F' M' H' ex g' n
    exact ⟨vs, hv, r.len⟩
  · rintro i v H H' F' M' ex g' n hi ⟨T, x, rfl, hT, rfl, hx⟩
    obtain ⟨vs, hv, r⟩ := still F' M' H ex g' n
    obtain ⟨d, h1, h2⟩ := r.vat (hx vs hv)
    obtain ⟨F2, e2, g2, r2, st⟩ := pair_laid g' hT (.int (i : Nat)) h2
    exact ⟨F2, _, e2, g2, by rw [enumD_at, h1, Option.map_some, Int.zero_add], r2, st⟩
def zipD : List D → List D → List D
  | x :: xs, y :: ys => .tup [x, y] :: zipD xs ys
  | _, _ => []
theorem zipD_len : ∀ (xs ys : List D), (zipD xs ys).length = min xs.length ys.length
  | [], _ => by simp [zipD]
  | _ :: _, [] => by simp [zipD]
  | x :: xs, y :: ys => by
    have h := zipD_len xs ys
    simp only [zipD, List.length_cons, h]
    omega
theorem zipD_at : ∀ (xs ys : List D) (i : Nat) (x y : D), xs[i]? = some x → ys[i]? = some y → (zipD xs ys)[i]? = some (.tup [x, y])
  | x :: xs, y :: ys, 0, _, _, h1, h2 => by simp at h1 h2; simp [zipD, h1, h2]
  | x :: xs, y :: ys, i + 1, a, b, h1, h2 => by simp [zipD]; exact zipD_at xs ys i a b (by simpa using h1) (by simpa using h2)
  | [], _, _, _, _, h1, _ => by simp at h1
  | _ :: _, [], _, _, _, _, h2 => by simp at h2
@[simp] def diZip (ta : DA) : DI := fun ρ M R => ta ρ M fun ds M1 => twoD ds fun d e => stillD d M1 fun N xs => stillD e M1 fun N' ys => R (fun M => N M ∧ N' M) (zipD xs ys) M1
theorem qi_zip (hm : X.mg "zip" = none) (ha : QA X [a, b] tr) (hg : Gl X "zip" := by rfl) (hs : starEach [a, b] X.env = (false, eval a X.env) :: starEach [b] X.env := by rfl) (hpl : (backTo pos (starEach [b] X.env)).any (·.1) = false := by rfl) :
    QI X (.Tuple elts kk tpos) (.Call (.Name "zip" p) [a, b] [] pos) (diZip tr) := wkI (pi_zip hg hm ha hs hpl) fun σ H R h => by
  obtain ⟨F, ρ, M, Q', gd, en, h, k⟩ := h
  refine ⟨F, ρ, M, _, gd, en, h, fun vs H1 F1 M1 ds e1 g1 rs h1 => ?_⟩
  obtain ⟨d, e, ed, h1⟩ := twoD.ok h1
  subst ed
  obtain ⟨v, w, rfl, r1, r2⟩ := rs.two
  obtain ⟨c1, N, xs, rfl, q, ⟨ws, hw⟩, still⟩ := still_ok g1 r1 h1
  obtain ⟨c2, N', ys, rfl, q, ⟨us, hu⟩, still'⟩ := still_ok g1 r2 q
  refine ⟨c1, c2, ws, us, rfl, hw, hu, k _ H1 F1 M1 _ _ e1 g1 ?_ q⟩
  refine ⟨fun H => ∃ vs ws, SqL X.K H c1 vs ∧ SqL X.K H c2 ws ∧ vs.length = xs.length ∧ ws.length = ys.length, fun i H v H' => ∃ T x y, v = .ref T ∧ H T = none ∧ H' = upd H T (.tup [x, y]) ∧ (∀ xs, SqL X.K H c1 xs → xs[i]? = some x) ∧ ∀ ys, SqL X.K H c2 ys → ys[i]? = some y, ?_, ?_, ?_⟩
  · rw [zipD_len]
    refine ⟨fun i H hi ⟨vs, ws, q1, q2, l1, l2⟩ => ?_, fun H ⟨vs, ws, q1, q2, l1, l2⟩ => ⟨vs, ws, q1, q2, by omega⟩, fun i H x H' _ _ y => y⟩
    exact ⟨vs, ws, vs[i]'(by omega), ws[i]'(by omega), q1, q2, by simp [show i < vs.length by omega], by simp [show i < ws.length by omega]⟩
  · intro F' M' H' ex g' n
    obtain ⟨vs, hv, r⟩ := still F' M' H' ex g' n.1
    obtain ⟨ws, hw, r'⟩ := still' F' M' H' ex g' n.2
    exact ⟨vs, ws, hv, hw, r.len, r'.len⟩
  · rintro i v H H' F' M' ex g' n hi ⟨T, x, y, rfl, hT, rfl, hx, hy⟩
    obtain ⟨vs, hv, r⟩ := still F' M' H ex g' n.1
    obtain ⟨ws, hw, r'⟩ := still' F' M' H ex g' n.2
    obtain ⟨d, h1, h2⟩ := r.vat (hx vs hv)
    obtain ⟨e, h3, h4⟩ := r'.vat (hy ws hw)
    obtain ⟨F2, e2, g2, r2, st⟩ := pair_laid g' hT h2 h4
    exact ⟨F2, _, e2, g2, zipD_at xs ys i d e h1 h3, r2, st⟩
end
end DL

set_option maxHeartbeats 4000000
/-! DLh: callees by name, built-in classes by name, three stores at once. -/
namespace DL
open PySem PySem.Spec PyProof.Rows L2 Evl
/-- the module's def of that name keeps a promise over data -/
structure Callee (P : Program) (w : World) (K : PySem.W.Frag) (mg : Str → Option Value) (base : Heap) (k : Nat) (x : Str) (fs : FS) : Prop where
  ok : ∃ (f : Addr) (fd : FuncData) (ps : List Str), FnOk P w K mg base CX0 k f fd ps (LSp K fs) ∧ Binds K fd ps [] ∧ PySem.W.keepIn K (.ref f) = true ∧ mg x = some (.ref f)
theorem Callee.mono {P : Program} {w : World} {K : PySem.W.Frag} {mg : Str → Option Value} {base : Heap} {j k : Nat} {x : Str} {fs : FS} (c : Callee P w K mg base j x fs) (h : j ≤ k) : Callee P w K mg base k x fs := by
  obtain ⟨f, fd, ps, h1, h2, h3, h4⟩ := c
  exact ⟨f, fd, ps, h1.mono h, h2, h3, h4⟩
theorem Callee.imp {P : Program} {w : World} {K : PySem.W.Frag} {mg : Str → Option Value} {base : Heap} {k : Nat} {x : Str} {fs fs' : FS} (c : Callee P w K mg base k x fs) (h : ∀ ds M Q, fs' ds M Q → fs ds M Q) : Callee P w K mg base k x fs' := by
  obtain ⟨f, fd, ps, h1, h2, h3, h4⟩ := c
  exact ⟨f, fd, ps, h1.imp fun vs H Q E ⟨F, M, ds, Q', g, r, q, k⟩ => ⟨F, M, ds, Q', g, r, h ds M Q' q, k⟩, h2, h3, h4⟩
section
variable {X : Cx} {k : Nat} {fs : FS} {x : Str} {p pos : Pos} {e : Expr} {es : List Expr} {tr : DA}
theorem q_fn (c : Callee X.prog X.w X.K X.mg X.base k x fs) (hr : Room k X.A) (ha : QA X (e :: es) tr) (hg : Gl X x := by rfl) (hdb : (x == ("__debug__" : Str)) = false := by decide)
    (he : starEach (e :: es) X.env = (false, eval e X.env) :: starEach es X.env := by rfl) (hpl : (backTo pos (starEach es X.env)).any (·.1) = false := by rfl) : QE X (.Call (.Name x p) (e :: es) [] pos) (dCall fs tr) := by
  obtain ⟨f, fd, ps, h1, h2, h3, h4⟩ := c
  exact q_call h1 hr h4 h3 h2 ha hg hdb he hpl
/-- a built-in class by its name -/
theorem q_ty {n : String} (hm : X.mg x = none) (hv : bootBuiltins x = some (.type n)) (hg : Gl X x := by rfl) (hn : x ≠ "__name__" := by decide) (hdb : (x == ("__debug__" : Str)) = false := by decide) : QE X (.Name x pos) (dC (.ty n)) := wkE (pe_bltn (v := .ty n) hg hm hv rfl hn hdb) fun _ _ _ h => lc (fun _ => .ty n) h
/-- a module's int by its name -/
theorem q_cint {i : Int} (hm : ∃ t, X.mg x = some (.int i t)) (hg : Gl X x := by rfl) (hdb : (x == ("__debug__" : Str)) = false := by decide) : QE X (.Name x pos) (dC (.int i)) := by
  obtain ⟨t, hm⟩ := hm
  exact q_glob (v := .int i) (fun _ => .int i) hm ⟨t, rfl⟩ hg hdb
theorem DatAll.three {K : PySem.W.Frag} {F : Hp} {vs : List V} {x y z : D} (r : DatAll K F vs [x, y, z]) : ∃ u v w, vs = [u, v, w] ∧ Dat K F u x ∧ Dat K F v y ∧ Dat K F w z := by
  cases r with
  | cons h1 r => cases r with
    | cons h2 r => cases r with
      | cons h3 r => cases r; exact ⟨_, _, _, rfl, h1, h2, h3⟩
end
end DL
namespace DL
open PySem PySem.Spec PyProof.Rows L2 Evl
theorem Callee.never {P : Program} {w : World} {K : PySem.W.Frag} {mg : Str → Option Value} {base : Heap} {k j : Nat} {x : Str} {fs : FS} (c : Callee P w K mg base k x fs) : Callee P w K mg base j x (fun _ _ _ => False) := by
  obtain ⟨f, fd, ps, h1, h2, h3, h4⟩ := c
  exact ⟨f, fd, ps, ⟨fun vs H Q E ⟨_, _, _, _, _, _, q, _⟩ => q.elim, fun A outer s H args us vs Q E _ _ _ _ ⟨_, _, _, _, _, _, q, _⟩ => q.elim⟩, h2, h3, h4⟩
theorem Callee.none {P : Program} {w : World} {K : PySem.W.Frag} {mg : Str → Option Value} {base : Heap} {j : Nat} {x : Str} {f : Addr} {fd : FuncData} {ps : List Str} (hb : Binds K fd ps []) (kp : PySem.W.keepIn K (.ref f) = true) (hm : mg x = some (.ref f)) : Callee P w K mg base j x (fun _ _ _ => False) :=
  ⟨f, fd, ps, ⟨fun vs H Q E ⟨_, _, _, _, _, _, q, _⟩ => q.elim, fun A outer s H args us vs Q E _ _ _ _ ⟨_, _, _, _, _, _, q, _⟩ => q.elim⟩, hb, kp, hm⟩
@[simp] theorem kit_int_int : kitB "int" "int" = some true := by decide +kernel
@[simp] theorem kit_bool_int : kitB "bool" "int" = some true := by decide +kernel
@[simp] theorem kit_str_int : kitB "str" "int" = some false := by decide +kernel
@[simp] theorem kit_none_int : kitB "NoneType" "int" = some false := by decide +kernel
@[simp] theorem kit_tuple_int : kitB "tuple" "int" = some false := by decide +kernel
@[simp] theorem kit_list_int : kitB "list" "int" = some false := by decide +kernel
@[simp] theorem kit_dict_int : kitB "dict" "int" = some false := by decide +kernel
@[simp] theorem kit_int_bool : kitB "int" "bool" = some false := by decide +kernel
@[simp] theorem kit_bool_bool : kitB "bool" "bool" = some true := by decide +kernel
@[simp] theorem kit_str_bool : kitB "str" "bool" = some false := by decide +kernel
@[simp] theorem kit_none_bool : kitB "NoneType" "bool" = some false := by decide +kernel
@[simp] theorem kit_tuple_bool : kitB "tuple" "bool" = some false := by decide +kernel
@[simp] theorem kit_list_bool : kitB "list" "bool" = some false := by decide +kernel
@[simp] theorem kit_dict_bool : kitB "dict" "bool" = some false := by decide +kernel
@[simp] theorem kit_int_str : kitB "int" "str" = some false := by decide +kernel
@[simp] theorem kit_bool_str : kitB "bool" "str" = some false := by decide +kernel
@[simp] theorem kit_str_str : kitB "str" "str" = some true := by decide +kernel
@[simp] theorem kit_none_str : kitB "NoneType" "str" = some false := by decide +kernel
@[simp] theorem kit_tuple_str : kitB "tuple" "str" = some false := by decide +kernel
@[simp] theorem kit_list_str : kitB "list" "str" = some false := by decide +kernel
@[simp] theorem kit_dict_str : kitB "dict" "str" = some false := by decide +kernel
@[simp] theorem kit_int_tuple : kitB "int" "tuple" = some false := by decide +kernel
@[simp] theorem kit_bool_tuple : kitB "bool" "tuple" = some false := by decide +kernel
@[simp] theorem kit_str_tuple : kitB "str" "tuple" = some false := by decide +kernel
@[simp] theorem kit_none_tuple : kitB "NoneType" "tuple" = some false := by decide +kernel
@[simp] theorem kit_tuple_tuple : kitB "tuple" "tuple" = some true := by decide +kernel
@[simp] theorem kit_list_tuple : kitB "list" "tuple" = some false := by decide +kernel
@[simp] theorem kit_dict_tuple : kitB "dict" "tuple" = some false := by decide +kernel
end DL

set_option maxHeartbeats 4000000
/-! DLi: small laws about data; the stream of draws. -/
namespace DL
open PySem PySem.Spec PyProof.Rows L2 Evl
theorem canLay_ints : ∀ ns : List Int, PyData.canLayAll0 (ns.map PyData.int) = true
  | [] => rfl
  | n :: ns => by simp [PyData.canLayAll0, PyData.canLay0, canLay_ints ns]
theorem depth_ints : ∀ ns : List Int, PyData.depthAll (ns.map PyData.int) = 0
  | [] => by simp [PyData.depthAll]
  | n :: ns => by
    have := depth_ints ns
    simp [PyData.depthAll, PyData.depth, this]
theorem shaped_ints (ns : List Int) : SeqAt.shaped (.list (ns.map PyData.int)) = true := by
  have h1 := canLay_ints ns
  have h2 := depth_ints ns
  simp [SeqAt.shaped, PyData.canLay0, h1, PyData.depth, h2]
theorem pyAll_ints (M : Mem) : ∀ ns : List Int, PyAll M (ns.map D.int) (ns.map PyData.int)
  | [] => .nil
  | n :: ns => .cons (.int n) (pyAll_ints M ns)
theorem eqv_nil (xs : List PyData) : PyData.eqv (.list xs) (.list []) = xs.isEmpty := by
  cases xs <;> simp [PyData.eqv, PyData.eqvAll]
theorem ne_nil_cell {M : Mem} {p : Addr} {ns : List Int} {Q : DK} (e : M p = some (.lst (ns.map D.int))) (q : Q (.bl (!ns.isEmpty)) M) : dNeA (.ref p) (.lst []) M Q := by
  refine ⟨.list (ns.map PyData.int), .list [], .cell e (pyAll_ints M ns), .lst .nil, shaped_ints ns, shaped_ints [], ?_⟩
  rw [eqv_nil]
  cases ns <;> exact q
theorem ne_nil_lst {M : Mem} {ns : List Int} {Q : DK} (q : Q (.bl (!ns.isEmpty)) M) : dNeA (.lst (ns.map D.int)) (.lst []) M Q := by
  refine ⟨.list (ns.map PyData.int), .list [], .lst (pyAll_ints M ns), .lst .nil, shaped_ints ns, shaped_ints [], ?_⟩
  rw [eqv_nil]
  cases ns <;> exact q
theorem drp_put {M : Mem} {a : Addr} {c : Cell} (h : M a = none) : drp (put M a c) a = M := by
  funext b
  unfold drp put
  by_cases e : b = a
  · rw [if_pos e, e, h]
  · rw [if_neg e, if_neg e]
/-- cells off two addresses stay -/
def Off (a b : Addr) (M M' : Mem) : Prop := ∀ p, p ≠ a → p ≠ b → M' p = M p
theorem Off.refl {a b : Addr} (M : Mem) : Off a b M M := fun _ _ _ => rfl
theorem Off.trans {a b : Addr} {M M1 M2 : Mem} (h : Off a b M M1) (k : Off a b M1 M2) : Off a b M M2 := fun p h1 h2 => (k p h1 h2).trans (h p h1 h2)
theorem Off.put1 {a b : Addr} {M M' : Mem} {c : Cell} (h : Off a b M M') : Off a b M (put M' a c) := fun p h1 h2 => by rw [put_ne h1]; exact h p h1 h2
theorem Off.put2 {a b : Addr} {M M' : Mem} {c : Cell} (h : Off a b M M') : Off a b M (put M' b c) := fun p h1 h2 => by rw [put_ne h2]; exact h p h1 h2
/-- the stream of draws: n more may be made -/
structure Str1 (M : Mem) (a b : Addr) (n : Nat) (bigs cells : List Int) (turn : Int) : Prop where
  ne : a ≠ b
  top : M a = some (.lst [.ref b, .lst (cells.map D.int), .int turn])
  big : M b = some (.lst (bigs.map D.int))
  pos : ∀ x ∈ bigs, 0 ≤ x
  some_ : cells ≠ []
  few : cells.length ≤ 63
  lo : 0 ≤ turn
  hi : turn + n ≤ 2 ^ 50
def Strm (M : Mem) (a b : Addr) (n : Nat) : Prop := ∃ bigs cells turn, Str1 M a b n bigs cells turn
theorem Strm.less {M : Mem} {a b : Addr} {n m : Nat} (h : Strm M a b n) (k : m ≤ n) : Strm M a b m := by
  obtain ⟨bs, cs, t, q⟩ := h
  exact ⟨bs, cs, t, q.ne, q.top, q.big, q.pos, q.some_, q.few, q.lo, by have := q.hi; omega⟩
theorem Strm.off {M M' : Mem} {a b : Addr} {n : Nat} (h : Strm M a b n) (h1 : M' a = M a) (h2 : M' b = M b) : Strm M' a b n := by
  obtain ⟨bs, cs, t, q⟩ := h
  exact ⟨bs, cs, t, q.ne, by rw [h1]; exact q.top, by rw [h2]; exact q.big, q.pos, q.some_, q.few, q.lo, q.hi⟩
theorem Strm.ne {M : Mem} {a b p : Addr} {n : Nat} (h : Strm M a b n) (hp : M p = none) : p ≠ a ∧ p ≠ b := by
  obtain ⟨bs, cs, t, q⟩ := h
  exact ⟨fun e => (by rw [e, q.top] at hp; cases hp), fun e => (by rw [e, q.big] at hp; cases hp)⟩
/-- a new cell -/
theorem Strm.put {M : Mem} {a b p : Addr} {n : Nat} {c : Cell} (h : Strm M a b n) (hp : p ≠ a ∧ p ≠ b) : Strm (put M p c) a b n := h.off (put_ne (Ne.symm hp.1)) (put_ne (Ne.symm hp.2))
/-- what is wanted behind draws: n left, the rest as it was -/
def After (a b : Addr) (n : Nat) (M : Mem) (Q : Mem → Prop) : Prop := ∀ M', Strm M' a b n → Off a b M M' → Q M'
/-- a draw -/
def fs_draw : FS := fun ds M Q => ∃ a b n many, ds = [.ref a, .int many] ∧ Strm M a b (n + 1) ∧ 0 < many ∧ many < 2 ^ 20 ∧ ∀ k, 0 ≤ k → k < many → After a b n M fun M' => Q (.int k) M'
end DL
namespace DL
open PySem PySem.Spec PyProof.Rows L2 Evl
section
variable {α : Type}
@[simp] theorem atI_c0 {a : α} {r : List α} : atI (a :: r) 0 = some a := by
  have := atI_nat (xs := a :: r) (j := 0) (v := a) rfl
  exact this
@[simp] theorem atI_c1 {a b : α} {r : List α} : atI (a :: b :: r) 1 = some b := by
  have := atI_nat (xs := a :: b :: r) (j := 1) (v := b) rfl
  exact this
@[simp] theorem atI_c2 {a b c : α} {r : List α} : atI (a :: b :: c :: r) 2 = some c := by
  have := atI_nat (xs := a :: b :: c :: r) (j := 2) (v := c) rfl
  exact this
@[simp] theorem atI_c3 {a b c d : α} {r : List α} : atI (a :: b :: c :: d :: r) 3 = some d := by
  have := atI_nat (xs := a :: b :: c :: d :: r) (j := 3) (v := d) rfl
  exact this
@[simp] theorem atI_m1_1 {a : α} : atI [a] (-1) = some a := rfl
@[simp] theorem atI_m1_2 {a b : α} : atI [a, b] (-1) = some b := rfl
@[simp] theorem atI_m1_3 {a b c : α} : atI [a, b, c] (-1) = some c := rfl
@[simp] theorem atI_m2_2 {a b : α} : atI [a, b] (-2) = some a := rfl
@[simp] theorem atI_m2_3 {a b c : α} : atI [a, b, c] (-2) = some b := rfl
/-- an int index in range -/
theorem atI_in {xs : List α} {i : Int} (h0 : 0 ≤ i) (h1 : i < xs.length) : ∃ x, atI xs i = some x ∧ xs[i.toNat]? = some x ∧ x ∈ xs := by
  have h2 : i.toNat < xs.length := by omega
  have e : xs[i.toNat]? = some (xs[i.toNat]) := List.getElem?_eq_getElem h2
  refine ⟨xs[i.toNat], ?_, e, List.getElem_mem h2⟩
  have := atI_nat e
  rwa [Int.toNat_of_nonneg h0] at this
end
@[simp] theorem ixN_c0 {n : Nat} : ixN (n + 1) 0 = some 0 := by
  have := ixN_nat (n := n + 1) (j := 0) (by omega)
  exact this
@[simp] theorem ixN_c1 {n : Nat} : ixN (n + 2) 1 = some 1 := by
  have := ixN_nat (n := n + 2) (j := 1) (by omega)
  exact this
@[simp] theorem ixN_c2 {n : Nat} : ixN (n + 3) 2 = some 2 := by
  have := ixN_nat (n := n + 3) (j := 2) (by omega)
  exact this
theorem mul_lt_of {a b A B : Nat} (h : a < A) (k : b < B) : a * b < A * B := by
  rcases Nat.eq_zero_or_pos B with z | z
  · omega
  · calc a * b ≤ a * B := Nat.mul_le_mul_left a (by omega)
      _ < A * B := Nat.mul_lt_mul_of_pos_right h z
theorem imul_lt_of {a b A B : Int} (h0 : 0 ≤ a) (h1 : a < A) (k0 : 0 ≤ b) (k1 : b < B) : a * b < A * B := by
  have e1 : ((a.toNat : Nat) : Int) = a := Int.toNat_of_nonneg h0
  have e2 : ((b.toNat : Nat) : Int) = b := Int.toNat_of_nonneg k0
  have e3 : ((A.toNat : Nat) : Int) = A := Int.toNat_of_nonneg (by omega)
  have e4 : ((B.toNat : Nat) : Int) = B := Int.toNat_of_nonneg (by omega)
  have := mul_lt_of (a := a.toNat) (b := b.toNat) (A := A.toNat) (B := B.toNat) (by omega) (by omega)
  have : ((a.toNat * b.toNat : Nat) : Int) < ((A.toNat * B.toNat : Nat) : Int) := by exact_mod_cast this
  rwa [Int.natCast_mul, Int.natCast_mul, e1, e2, e3, e4] at this
end DL
namespace DL
open PySem PySem.Spec PyProof.Rows L2 Evl
theorem isL_cell {M : Mem} {p : Addr} {xs : List D} (e : M p = some (.lst xs)) : isL M (.ref p) := by
  unfold isL
  rw [lsD_e2, e, celL_e1]
  exact trivial
@[simp] theorem isL_lst {M : Mem} {xs : List D} : isL M (.lst xs) := by
  unfold isL
  rw [lsD_e1]
  exact trivial
end DL

set_option maxHeartbeats 4000000
/-! DLj: invariants of loops and comprehensions over data. -/
namespace DL
open PySem PySem.Spec PyProof.Rows L2 Evl
theorem dLoop_inv {N : Mem → Prop} {g : DG} {b : DS} {D : DEnds} {J : List DL.D → Env' → Mem → Prop}
    (step : ∀ x rest ρ M, J (x :: rest) ρ M → ∀ nx : Env' → Mem → Prop, (∀ ρ' M', J rest ρ' M' → nx ρ' M') → g x ρ M fun ρ1 M1 => b { D with nx := fun ρ' M' => N M' ∧ nx ρ' M', ct := fun ρ' M' => N M' ∧ nx ρ' M', bk := D.nx } ρ1 M1)
    (fin : ∀ ρ M, J [] ρ M → D.nx ρ M) : ∀ xs ρ M, J xs ρ M → dLoop N g b D xs ρ M
  | [], ρ, M, h => fin ρ M h
  | x :: xs, ρ, M, h => step x xs ρ M h (dLoop N g b D xs) fun ρ' M' h' => dLoop_inv step fin xs ρ' M' h'
theorem dComp_inv {N : Mem → Prop} {g : DG} {tt : DT} {te : DE} {Dl : Addr} {k : Mem → Prop} {ρ : Env'} {J : List D → List D → Mem → Prop}
    (step : ∀ x rest acc M, J acc (x :: rest) M → M Dl = some (.lst acc) → ∀ (Q1 : D → Mem → Prop) (Q2 : Mem → Prop), (∀ y M4, M4 Dl = some (.lst acc) → N (put M4 Dl (.lst (acc ++ [y]))) → J (acc ++ [y]) rest (put M4 Dl (.lst (acc ++ [y]))) → Q1 y M4) →
      (∀ M3, M3 Dl = some (.lst acc) → N M3 → J acc rest M3 → Q2 M3) → g x ρ M fun ρ2 M2 => tt ρ2 M2 fun b M3 => if b = true then te ρ2 M3 Q1 else Q2 M3)
    (fin : ∀ acc M, J acc [] M → M Dl = some (.lst acc) → k M) : ∀ xs acc M, J acc xs M → M Dl = some (.lst acc) → acc.length + xs.length ≤ sizeLine → dComp N g tt te Dl k xs ρ M
  | [], acc, M, h, e, _ => fin acc M h e
  | x :: xs, acc, M, h, e, l => by
    unfold dComp
    refine step x xs acc M h e _ _ (fun y M4 e4 n4 j4 => ⟨acc, e4, by simp at l; omega, n4, ?_⟩) fun M3 e3 n3 j3 => ⟨n3, ?_⟩
    · exact dComp_inv step fin xs (acc ++ [y]) _ j4 put_same (by simp at l ⊢; omega)
    · exact dComp_inv step fin xs acc M3 j3 e3 (by simp at l ⊢; omega)
/-- a comprehension whose turns touch no cell -/
theorem dComp_pure {N : Mem → Prop} {g : DG} {tt : DT} {te : DE} {Dl : Addr} {k : Mem → Prop} {ρ : Env'} {M : Mem} {xs : List D} (f : D → Option D) (hD : M Dl = none) (hN : ∀ M', (∀ p, p ≠ Dl → M' p = M p) → N M') (l : xs.length ≤ sizeLine)
    (step : ∀ x ∈ xs, ∀ (M' : Mem), (∀ p, p ≠ Dl → M' p = M p) → ∀ (Q1 : D → Mem → Prop) (Q2 : Mem → Prop), (∀ y, f x = some y → Q1 y M') → (f x = none → Q2 M') → g x ρ M' fun ρ2 M2 => tt ρ2 M2 fun b M3 => if b = true then te ρ2 M3 Q1 else Q2 M3)
    (hk : k (put M Dl (.lst (xs.filterMap f)))) : dComp N g tt te Dl k xs ρ (put M Dl (.lst [])) := by
  refine dComp_inv (J := fun acc rest M' => (∀ x ∈ rest, x ∈ xs) ∧ acc ++ rest.filterMap f = xs.filterMap f ∧ M' = put M Dl (.lst acc)) ?_ ?_ xs [] _ ⟨fun _ h => h, rfl, rfl⟩ put_same (by simpa using l)
  · rintro x rest acc M' ⟨h1, h2, rfl⟩ e Q1 Q2 k1 k2
    have off : ∀ c, ∀ p, p ≠ Dl → put M Dl c p = M p := fun c p hp => put_ne hp
    refine step x (h1 x (by simp)) _ (off _) Q1 Q2 (fun y hy => k1 y _ put_same (hN _ fun p hp => by rw [put_ne hp, put_ne hp]) ⟨fun z hz => h1 z (by simp [hz]), ?_, put_put⟩) fun hy => k2 _ put_same (hN _ (off _)) ⟨fun z hz => h1 z (by simp [hz]), ?_, rfl⟩
    · rw [← h2, List.filterMap_cons, hy]; simp
    · rw [← h2, List.filterMap_cons, hy]
  · rintro acc M' ⟨_, h2, rfl⟩ _
    rw [List.filterMap_nil, List.append_nil] at h2
    rw [h2]; exact hk
/-- a frozen list by turns that touch no cell -/
theorem dLc_pure {di : DI} {g : DG} {tt : DT} {te : DE} {vs : List Nat} {ρ : Env'} {M : Mem} {Q : DK} {N : Mem → Prop} {xs : List D} (f : D → Option D) (hdi : ∀ R : (Mem → Prop) → List D → Mem → Prop, R N xs M → di ρ M R) (hN : ∀ Dl M', M Dl = none → (∀ p, p ≠ Dl → M' p = M p) → N M') (l : xs.length ≤ sizeLine)
    (step : ∀ x ∈ xs, ∀ Dl, M Dl = none → ∀ (M' : Mem), (∀ p, p ≠ Dl → M' p = M p) → ∀ (Q1 : D → Mem → Prop) (Q2 : Mem → Prop), (∀ y, f x = some y → Q1 y M') → (f x = none → Q2 M') → g x (wipeD ρ vs) M' fun ρ2 M2 => tt ρ2 M2 fun b M3 => if b = true then te ρ2 M3 Q1 else Q2 M3)
    (q : Q (.lst (xs.filterMap f)) M) : dLc di g tt te vs ρ M Q := by
  refine hdi _ fun Dl hD => ⟨hN Dl _ hD fun p hp => put_ne hp, dComp_pure f hD (fun M' h => hN Dl M' hD h) l (fun x hx M' hM Q1 Q2 => step x hx Dl hD M' hM Q1 Q2) ⟨_, put_same, ?_⟩⟩
  rw [drp_put hD]; exact q
/-- a new cell by turns that touch no cell -/
theorem dLcM_pure {di : DI} {g : DG} {tt : DT} {te : DE} {vs : List Nat} {ρ : Env'} {M : Mem} {Q : DK} {N : Mem → Prop} {xs : List D} (f : D → Option D) (hdi : ∀ R : (Mem → Prop) → List D → Mem → Prop, R N xs M → di ρ M R) (hN : ∀ Dl M', M Dl = none → (∀ p, p ≠ Dl → M' p = M p) → N M') (l : xs.length ≤ sizeLine)
    (step : ∀ x ∈ xs, ∀ Dl, M Dl = none → ∀ (M' : Mem), (∀ p, p ≠ Dl → M' p = M p) → ∀ (Q1 : D → Mem → Prop) (Q2 : Mem → Prop), (∀ y, f x = some y → Q1 y M') → (f x = none → Q2 M') → g x (wipeD ρ vs) M' fun ρ2 M2 => tt ρ2 M2 fun b M3 => if b = true then te ρ2 M3 Q1 else Q2 M3)
    (q : ∀ Dl, M Dl = none → Q (.ref Dl) (put M Dl (.lst (xs.filterMap f)))) : dLcM di g tt te vs ρ M Q := by
  refine hdi _ fun Dl hD => ⟨hN Dl _ hD fun p hp => put_ne hp, dComp_pure f hD (fun M' h => hN Dl M' hD h) l (fun x hx M' hM Q1 Q2 => step x hx Dl hD M' hM Q1 Q2) (q Dl hD)⟩
/-- a frozen list, a draw per turn -/
theorem dLc_draws {di : DI} {g : DG} {tt : DT} {te : DE} {vs : List Nat} {ρ : Env'} {M : Mem} {Q : DK} {xs : List D} {a b : Addr} {d n : Nat} (P : D → Prop) (hdi : ∀ R : (Mem → Prop) → List D → Mem → Prop, R (fun _ => True) xs M → di ρ M R) (l : xs.length ≤ sizeLine) (hS : Strm M a b (d * xs.length + n))
    (step : ∀ x ∈ xs, ∀ (M' : Mem) (k : Nat), Strm M' a b (d + k) → ∀ (Q1 : D → Mem → Prop) (Q2 : Mem → Prop), (∀ y, P y → After a b k M' (Q1 y)) → g x (wipeD ρ vs) M' fun ρ2 M2 => tt ρ2 M2 fun b M3 => if b = true then te ρ2 M3 Q1 else Q2 M3)
    (q : ∀ ys, ys.length = xs.length → (∀ y ∈ ys, P y) → After a b n M (Q (.lst ys))) : dLc di g tt te vs ρ M Q := by
  refine hdi _ fun Dl hD => ⟨trivial, ?_⟩
  have hne := hS.ne hD
  refine dComp_inv (J := fun acc rest M' => (∀ x ∈ rest, x ∈ xs) ∧ acc.length + rest.length = xs.length ∧ (∀ y ∈ acc, P y) ∧ Strm M' a b (d * rest.length + n) ∧ ∀ p, p ≠ a → p ≠ b → p ≠ Dl → M' p = M p) ?_ ?_ xs [] _ ⟨fun _ h => h, by simp, by simp, hS.put hne, fun p _ _ h => put_ne h⟩ put_same (by simpa using l)
  · rintro x rest acc M' ⟨h1, h2, h3, h4, h5⟩ e Q1 Q2 k1 k2
    refine step x (h1 x (by simp)) M' (d * rest.length + n) ?_ Q1 Q2 fun y hy M4 s4 o4 => k1 y M4 ?_ trivial ⟨fun z hz => h1 z (by simp [hz]), by simp at h2 ⊢; omega, ?_, s4.put hne, fun p p1 p2 p3 => ?_⟩
    · rw [List.length_cons] at h4
      rw [show d + (d * rest.length + n) = d * (rest.length + 1) + n by rw [Nat.mul_add, Nat.mul_one]; omega]
      exact h4
    · rw [o4 Dl hne.1 hne.2]; exact e
    · intro z hz
      rcases List.mem_append.mp hz with hz | hz
      · exact h3 z hz
      · rw [List.mem_singleton.mp hz]; exact hy
    · rw [put_ne p3, o4 p p1 p2]; exact h5 p p1 p2 p3
  · rintro acc M' ⟨_, h2, h3, h4, h5⟩ e
    refine ⟨acc, e, q acc (by simpa using h2) h3 _ ?_ fun p p1 p2 => ?_⟩
    · rw [List.length_nil, Nat.mul_zero, Nat.zero_add] at h4
      exact h4.off (drp_ne hne.1.symm) (drp_ne hne.2.symm)
    · by_cases z : p = Dl
      · rw [z, drp_same, hD]
      · rw [drp_ne z]; exact h5 p p1 p2 z
theorem After.imp {a b : Addr} {n : Nat} {M : Mem} {Q Q' : Mem → Prop} (h : After a b n M Q) (k : ∀ M', Q M' → Q' M') : After a b n M Q' := fun M' s o => k M' (h M' s o)
theorem After.off {a b : Addr} {n : Nat} {M M1 : Mem} {Q : Mem → Prop} (h : After a b n M Q) (o : Off a b M M1) : After a b n M1 Q := fun M' s o' => h M' s (o.trans o')
theorem After.less {a b : Addr} {n m : Nat} {M : Mem} {Q : Mem → Prop} (h : After a b n M Q) (k : n ≤ m) : After a b m M Q := fun M' s o => h M' (s.less k) o
@[simp] theorem sz_0 : 0 ≤ sizeLine := by decide +kernel
@[simp] theorem sz_1 : 1 ≤ sizeLine := by decide +kernel
@[simp] theorem sz_2 : 2 ≤ sizeLine := by decide +kernel
@[simp] theorem sz_3 : 3 ≤ sizeLine := by decide +kernel
@[simp] theorem sz_4 : 4 ≤ sizeLine := by decide +kernel
@[simp] theorem sz_5 : 5 ≤ sizeLine := by decide +kernel
@[simp] theorem sz_6 : 6 ≤ sizeLine := by decide +kernel
@[simp] theorem sz_7 : 7 ≤ sizeLine := by decide +kernel
@[simp] theorem sz_8 : 8 ≤ sizeLine := by decide +kernel
@[simp] theorem sz_9 : 9 ≤ sizeLine := by decide +kernel
@[simp] theorem sz_10 : 10 ≤ sizeLine := by decide +kernel
@[simp] theorem sz_11 : 11 ≤ sizeLine := by decide +kernel
@[simp] theorem sz_12 : 12 ≤ sizeLine := by decide +kernel
@[simp] theorem sz_13 : 13 ≤ sizeLine := by decide +kernel
@[simp] theorem sz_14 : 14 ≤ sizeLine := by decide +kernel
@[simp] theorem sz_15 : 15 ≤ sizeLine := by decide +kernel
@[simp] theorem sz_16 : 16 ≤ sizeLine := by decide +kernel
@[simp] theorem sz_17 : 17 ≤ sizeLine := by decide +kernel
@[simp] theorem sz_18 : 18 ≤ sizeLine := by decide +kernel
@[simp] theorem sz_19 : 19 ≤ sizeLine := by decide +kernel
@[simp] theorem sz_20 : 20 ≤ sizeLine := by decide +kernel
@[simp] theorem sz_21 : 21 ≤ sizeLine := by decide +kernel
@[simp] theorem sz_22 : 22 ≤ sizeLine := by decide +kernel
@[simp] theorem sz_23 : 23 ≤ sizeLine := by decide +kernel
@[simp] theorem sz_24 : 24 ≤ sizeLine := by decide +kernel
@[simp] theorem sz_25 : 25 ≤ sizeLine := by decide +kernel
@[simp] theorem sz_26 : 26 ≤ sizeLine := by decide +kernel
@[simp] theorem sz_27 : 27 ≤ sizeLine := by decide +kernel
@[simp] theorem sz_28 : 28 ≤ sizeLine := by decide +kernel
@[simp] theorem sz_29 : 29 ≤ sizeLine := by decide +kernel
@[simp] theorem sz_30 : 30 ≤ sizeLine := by decide +kernel
@[simp] theorem sz_31 : 31 ≤ sizeLine := by decide +kernel
@[simp] theorem sz_32 : 32 ≤ sizeLine := by decide +kernel
@[simp] theorem sz_33 : 33 ≤ sizeLine := by decide +kernel
@[simp] theorem sz_34 : 34 ≤ sizeLine := by decide +kernel
@[simp] theorem sz_35 : 35 ≤ sizeLine := by decide +kernel
@[simp] theorem sz_36 : 36 ≤ sizeLine := by decide +kernel
@[simp] theorem sz_37 : 37 ≤ sizeLine := by decide +kernel
@[simp] theorem sz_38 : 38 ≤ sizeLine := by decide +kernel
@[simp] theorem sz_39 : 39 ≤ sizeLine := by decide +kernel
@[simp] theorem sz_40 : 40 ≤ sizeLine := by decide +kernel
@[simp] theorem sl_40 : 40 < sizeLine := by decide +kernel
/-- cells may be forgotten -/
def Fgt (Q : DK) : DK := fun d M => ∃ M2 : Mem, (∀ a c, M2 a = some c → M a = some c) ∧ Q d M2
theorem Fgt.of {Q : DK} {d : D} {M : Mem} (q : Q d M) : Fgt Q d M := ⟨M, fun _ _ h => h, q⟩
theorem Fgt.drp {Q : DK} {d : D} {M : Mem} (p : Addr) (q : Q d (drp M p)) : Fgt Q d M := ⟨_, fun a c h => by
  have z : a ≠ p := fun z => by rw [z, drp_same] at h; cases h
  rwa [drp_ne z] at h, q⟩
theorem Fgt.out {K : PySem.W.Frag} {F : Hp} {Q' : DK} {Q : VK} (k : KO K F Q' Q) : KO K F (Fgt Q') Q := fun v H F2 M d e g r ⟨M2, s, q⟩ => k v H F2 M2 d e (g.less s) r q
theorem map_int_fm {f : D → Option D} {g : Int → Int} (ns : List Int) (h : ∀ i, f (.int i) = some (.int (g i))) : (ns.map D.int).filterMap f = (ns.map g).map D.int := by
  induction ns with
  | nil => rfl
  | cons n ns ih => rw [List.map_cons, List.filterMap_cons, h, ih]; rfl
theorem map_int_flt {f : D → Option D} {p : Int → Bool} (ns : List Int) (h : ∀ i, f (.int i) = if p i = true then some (.int i) else none) : (ns.map D.int).filterMap f = (ns.filter p).map D.int := by
  induction ns with
  | nil => rfl
  | cons n ns ih =>
    rw [List.map_cons, List.filterMap_cons, h, List.filter_cons, ih]
    cases p n <;> rfl
theorem szl {n k : Nat} (h : n ≤ k) (hk : k ≤ sizeLine := by decide +kernel) : n ≤ sizeLine := Nat.le_trans h hk
theorem szs {n k : Nat} (h : n < k) (hk : k ≤ sizeLine := by decide +kernel) : n < sizeLine := Nat.lt_of_lt_of_le h hk
section
variable {α : Type}
theorem cut_to {xs : List α} {i : Int} (h : 0 ≤ i) : cut xs none (some i) = xs.take i.toNat := by
  unfold cut HT.sIx
  simp [h, Int.not_lt.mpr h]
theorem cut_from {xs : List α} {i : Int} (h : 0 ≤ i) : cut xs (some i) none = xs.drop i.toNat := by
  unfold cut HT.sIx
  simp [h, Int.not_lt.mpr h]
  by_cases z : i.toNat ≤ xs.length
  · rw [Nat.min_eq_left z]
    exact List.take_of_length_le (by rw [List.length_drop]; omega)
  · rw [Nat.min_eq_right (by omega), List.drop_of_length_le (Nat.le_refl _), List.drop_of_length_le (by omega), List.take_nil]
@[simp] theorem cut_n {xs : List α} {i : Nat} : cut xs none (some (i : Int)) = xs.take i := by rw [cut_to (by omega)]; rfl
@[simp] theorem cut_n1 {xs : List α} {i : Nat} : cut xs none (some ((i : Int) + 1)) = xs.take (i + 1) := by rw [cut_to (by omega)]; rfl
@[simp] theorem cut_f {xs : List α} {i : Nat} : cut xs (some (i : Int)) none = xs.drop i := by rw [cut_from (by omega)]; rfl
@[simp] theorem cut_f1 {xs : List α} {i : Nat} : cut xs (some ((i : Int) + 1)) none = xs.drop (i + 1) := by rw [cut_from (by omega)]; rfl
@[simp] theorem cut_f2 {xs : List α} {i : Nat} : cut xs (some ((i : Int) + 2)) none = xs.drop (i + 2) := by rw [cut_from (by omega)]; rfl
@[simp] theorem cut_l1 {xs : List α} : cut xs (some 1) none = xs.drop 1 := cut_from (by omega)
@[simp] theorem cut_l2 {xs : List α} : cut xs (some 2) none = xs.drop 2 := cut_from (by omega)
@[simp] theorem cut_t1 {xs : List α} : cut xs none (some 1) = xs.take 1 := cut_to (by omega)
@[simp] theorem cut_t2 {xs : List α} : cut xs none (some 2) = xs.take 2 := cut_to (by omega)
end
theorem cut_set {xs : List D} {i : Nat} {v : D} (h : i < xs.length) : xs.take i ++ v :: xs.drop (i + 1) = xs.set i v := (List.set_eq_take_append_cons_drop ..).trans (if_pos h) |>.symm
end DL

set_option maxHeartbeats 4000000
/-! DLk: a lambda of one parameter, handed to a def that calls it. -/
namespace DL
open PySem PySem.Spec PyProof.Rows L2 Evl LamX
/-- the names of a lambda of one parameter p -/
structure LamP (sc scope : Scope) (p : Str) : Prop where
  kind : scope.kind = .function
  co : scope.isCoroutine = false
  gen : scope.isGenerator = false
  nocell : ∀ y ∈ scope.names, y.2 ≠ .cell
  loc : ∀ y ∈ scope.names, y.2 = .local → y.1 = p
  par : scope.names.lookup p = some .local
  free : ∀ y ∈ scope.names, y.2 = .free → sc.names.lookup y.1 = some .cell ∨ sc.names.lookup y.1 = some .free
def lamPB (sc scope : Scope) (p : Str) : Bool :=
  decide (scope.kind = .function) && (!scope.isCoroutine && (!scope.isGenerator && (decide (scope.names.lookup p = some .local) &&
    scope.names.all fun y => !decide (y.2 = .cell) && ((!decide (y.2 = .local) || decide (y.1 = p)) && (!decide (y.2 = .free) || (decide (sc.names.lookup y.1 = some .cell) || decide (sc.names.lookup y.1 = some .free)))))))
theorem lamP_by {sc scope : Scope} {p : Str} (h : lamPB sc scope p = true) : LamP sc scope p := by
  simp only [lamPB, Bool.and_eq_true, Bool.or_eq_true, Bool.not_eq_true', decide_eq_true_eq, decide_eq_false_iff_not, List.all_eq_true] at h
  obtain ⟨h1, h2, h3, hp, h4⟩ := h
  exact ⟨h1, h2, h3, fun y hy => (h4 y hy).1, fun y hy e => (h4 y hy).2.1.resolve_left fun z => z e, hp, fun y hy e => (h4 y hy).2.2.resolve_left fun z => z e⟩
theorem LamP.has {X : Cx} {scope : Scope} {p : Str} (L : LamP X.env.scope scope p) (ok : X.Ok) (y : Str × NameKind) (hy : y ∈ scope.names) (e : y.2 = .free) : ∃ c, X.env.cells.lookup y.1 = some c :=
  (L.free y hy e).elim (fun k => ok.has _ (.inl k)) fun k => ok.has _ (.inr k)
abbrev lamE (X : Cx) (scope : Scope) (L f c' : Addr) : Env := PySem.W.envX (X.env.qual ++ "<lambda>") scope L f (.ref c') (cloFrom X.env.cells scope.names [])
/-- its body's context, entered at s from the frames outer -/
def lamC (X : Cx) (A : Around) (outer : List Env) (s : Shared) (H : Hp) (scope : Scope) (f c' : Addr) : Cx where
  prog := X.prog
  w := X.w
  K := X.K
  mg := X.mg
  base := X.base
  N := X.N
  A := A.deeper (lamE X scope s.heap.objs.size f c')
  env := lamE X scope s.heap.objs.size f c'
  outer := outer
  stack := lamE X scope s.heap.objs.size f c' :: outer
  s_0 := s
  H_0 := H
  ex := []
  pn := []
  calm := true
  fn := fun _ => false
  xe := fun _ _ => False
section
variable {X : Cx} {pins : List (Addr × Obj)} {σ : L2.St} {H HZ : Hp} {s s1 : Shared} {p : Str} {j : Nat} {scope : Scope}
theorem lamC_start {A : Around} {outer : List Env} {f c' : Addr} {h1 : Heap} {tk : Nat} {v : V} {u : Value} (I : Inv X pins σ H s) (L : LamP X.env.scope scope p) (nd : X.N.Nodup) (hj : X.N[j]? = some p) (rv : L2.RelV v u)
    (e0 : Env0 X.prog X.w X.K X.mg X.base A outer s1 HZ) (hd : A.handled = none) (un : Un (frs X.stack) [] H HZ s.heap s1.heap) (hns : h1.Ns s1.heap.objs.size fun y => [(p, u)].reverse.lookup y) (kp : ∀ b o, s1.heap.get? b = some o → h1.get? b = some o) :
    Inv (lamC X A outer s1 HZ scope f c') [] (σ.set j (some v)) HZ { s1 with heap := h1, toks := tk } := by
  have hfree := L.has I.ok
  have down : ∀ {y c}, (cloFrom X.env.cells scope.names []).lookup y = some c → X.env.cells.lookup y = some c := by
    intro y c e
    rcases cloFrom_mem (PySem.mem_of_lookup e) with hm | ⟨q1, q2⟩
    · exact absurd hm (by simp)
    · obtain ⟨d, hd⟩ := hfree _ q1 rfl
      have hd : X.env.cells.lookup y = some d := hd
      rw [hd]
      rw [q2]
      rw [hd] <;> rfl
  have up : ∀ {y}, scope.names.lookup y = some .free → ∃ c, (cloFrom X.env.cells scope.names []).lookup y = some c := by
    intro y hl
    have hy : (y, NameKind.free) ∈ scope.names := PySem.mem_of_lookup hl
    exact mem_lookup (cloFrom_has (cells := X.env.cells) (acc := []) hy)
  have same : ∀ {c : Addr} {v : Option Value}, H c = none → s.heap.IsCell c v → h1.IsCell c v := by
    rintro c v n ⟨o, ho, hd⟩
    obtain ⟨sl, q⟩ := un.any ho n (by simp)
    exact ⟨_, kp _ _ q, hd⟩
  have noA : ∀ b : Addr, b ∉ (lamC X A outer s1 HZ scope f c').ex := by
    intro b z
    have z : b ∈ ([] : List Addr) := z
    cases z
  refine ⟨⟨e0.mod, L.kind, rfl, rfl, Nat.le_refl _, fun y z c q1 q2 => I.ok.inj y z c (down q1) (down q2), fun y hy => ?_, fun y c z _ => ?_, fun _ => hd, Around.frames_deeper e0.frames, .inr ⟨rfl, rfl⟩, fun b z => absurd z (noA b), e0.bs, e0.bsz, fun b _ _ => noA b, fun b z => absurd z (noA b), e0.funs, e0.frf⟩,
    rfl, e0.bare, Un.kept kp, ⟨_, hns, fun i y v' q1 q2 q3 => ?_⟩, fun y c e => ?_, e0.hok.fresh (Nat.le_refl _), fun y c e => ?_, fun q hq => absurd (show q ∈ ([] : List (Addr × Obj)) ++ [] from hq) (by simp), e0.hok.kept kp, by rw [List.length_set]; exact I.len⟩
  · have hy : scope.names.lookup y = some .cell ∨ scope.names.lookup y = some .free := hy
    rcases hy with hy | hy
    · exact absurd rfl (L.nocell _ (PySem.mem_of_lookup hy))
    · exact up hy
  · have z : false = true := z
    cases z
  · have q3 : Vis scope y := q3
    have q1 : X.N[i]? = some y := q1
    rcases q3 with k | k | k
    · have ey : y = p := L.loc _ (PySem.mem_of_lookup k) rfl
      subst ey
      have hij : i = j := by
        have h1 : i < X.N.length := by
          rcases Nat.lt_or_ge i X.N.length with z | z
          · exact z
          · rw [List.getElem?_eq_none z] at q1; cases q1
        exact (List.getElem?_inj h1 nd).mp (q1.trans hj.symm)
      subst hij
      have hv : v' = v := by
        rw [List.getElem?_set] at q2
        split at q2
        · split at q2
          · cases q2; rfl
          · cases q2
        · rename_i z; exact absurd rfl z
      subst hv
      exact ⟨u, rv, .inl ⟨k, by simp [List.lookup]⟩⟩
    · exact absurd rfl (L.nocell _ (PySem.mem_of_lookup k))
    · have hne : j ≠ i := fun z => by
        subst z
        rw [hj] at q1
        cases q1
        have k3 : scope.names.lookup p = some .free := k
        rw [L.par] at k3
        cases k3
      rw [List.getElem?_set_ne hne] at q2
      obtain ⟨m, hn, hl⟩ := I.loc
      have hvis : Vis X.env.scope y := (L.free _ (PySem.mem_of_lookup k) rfl).elim (fun k => .inr (.inl k)) fun k => .inr (.inr k)
      obtain ⟨w', r, q⟩ := hl i y v' q1 q2 hvis
      obtain ⟨c2, h2⟩ := up k
      refine ⟨w', r, .inr ⟨.inr k, c2, h2, ?_⟩⟩
      have g1 := down h2
      rcases q with ⟨k', _⟩ | ⟨_, c3, e', z⟩
      · have k' : X.env.scope.names.lookup y = some .local := k'
        rcases L.free _ (PySem.mem_of_lookup k) rfl with k2 | k2 <;> rw [show X.env.scope.names.lookup y = _ from k2] at k' <;> cases k'
      · rw [g1] at e'
        cases e'
        exact same (I.freeC y _ g1) z
  · obtain ⟨w', z⟩ := I.cell y c (down e)
    exact ⟨w', same (I.freeC y c (down e)) z⟩
  · obtain ⟨v, o, ho, hd⟩ := I.cell y c (down e)
    exact un.free c o ho (I.freeC y c (down e)) (by simp)
abbrev lamF (X : Cx) (params : Arguments) (body : Expr) (scope : Scope) (pm : Value) (c' : Addr) (ctv : Value) : Obj := PySem.W.kla_obj "<lambda>" (X.env.qual ++ "<lambda>") params body scope (cloFrom X.env.cells scope.names []) pm c' ctv
/-- a(e), in the def that got the lambda -/
theorem pe_act1 {Ng : List Str} {qg : Str} {sg : Scope} {g f c' : Addr} {cdg pm ctv : Value} {params : Arguments} {body : Expr} {k i : Nat} {a : Str} {tb : TE} {ta : TA} {e : Expr} {p1 p2 : Pos} {Eg : XK}
    (I : Inv X pins σ H s) (L : LamP X.env.scope scope p) (nd : X.N.Nodup) (hj : X.N[j]? = some p) (hf : s.heap.get? f = some (lamF X params body scope pm c' ctv)) (hfn : H f = none) (hfr : f ∉ frs X.stack)
    (hbind : ∀ u, bindArgs (PySem.W.kla_fn "<lambda>" (X.env.qual ++ "<lambda>") params body scope (cloFrom X.env.cells scope.names []) pm (.ref c') ctv) ⟨[u], []⟩ = pure [(p, u)])
    (hr : Room (k + 1) (X.A.deeper (envOfC qg sg s.heap.objs.size g cdg)))
    (hbody : ∀ (A : Around) (outer : List Env) (s : Shared) (H : Hp), Room k (A.deeper (lamE X scope s.heap.objs.size f c')) → PE (lamC X A outer s H scope f c') body tb)
    (ha : PA (cxOf CX0 X.prog X.w X.K X.mg X.base Ng qg sg g cdg X.A X.stack s H Eg).nox [e] ta)
    (hN : Ng[i]? = some a) (hv : Vis sg a) (hs1 : starEach [e] (envOfC qg sg s.heap.objs.size g cdg) = (false, eval e (envOfC qg sg s.heap.objs.size g cdg)) :: starEach [] (envOfC qg sg s.heap.objs.size g cdg)) (hdb : (a == ("__debug__" : Str)) = false := by decide) (hcd : (a == ("__classdict__" : Str)) = false := by decide) :
    PE (cxOf CX0 X.prog X.w X.K X.mg X.base Ng qg sg g cdg X.A X.stack s H Eg).nox (.Call (.Name a p1) [e] [] p2)
      (fun σZ HZ Q => σZ[i]? = some (some (.ref f)) ∧ ta σZ HZ fun vs H1 => ∃ v, vs = [v] ∧ H1 c' = some (CodeO c' (X.env.qual ++ "<lambda>")) ∧ tb (σ.set j (some v)) H1 Q) := by
  refine ⟨fun pinsZ sZ σZ HZ Q IZ h => ?_⟩
  obtain ⟨hs, ht⟩ := h
  refine wpAny_Call_Name_kw (thn ((pe_var (pos := p1) (i := i) hN hv hdb hcd).run pinsZ sZ σZ HZ (fun v H1 => v = .ref f ∧ H1 = HZ) IZ ⟨.ref f, hs, rfl, rfl⟩) fun u0 s1 ⟨v0, H1, I1, r1, q1⟩ => ?_)
  obtain ⟨ev, eH⟩ := q1
  subst ev
  rw [eH] at I1
  obtain rfl : u0 = Value.ref f := r1
  have of1 : s1.heap.get? f = some (lamF X params body scope pm c' ctv) := I1.base.keep f _ hf hfn hfr fun z => nomatch (show f ∈ ([] : List Addr) from z)
  refine PySem.W.callWith_F (first := []) ⟨_, _, _, _, of1⟩ (thn (ha.run p2 pinsZ s1 σZ HZ _ I1 ht) fun us s2 ⟨vs, H2, I2, r, v, evs, hc, hb⟩ => ?_) hs1 rfl
  subst evs
  have of2 : s2.heap.get? f = some (lamF X params body scope pm c' ctv) := I2.base.keep f _ hf hfn hfr fun z => nomatch (show f ∈ ([] : List Addr) from z)
  obtain ⟨u, rfl, rv⟩ : ∃ u, us = [u] ∧ L2.RelV v u := by
    cases r with
    | cons h t => cases t; exact ⟨_, rfl, h⟩
  refine ⟨⟨_, _, _, _, of2⟩, ?_⟩
  have un : Un (frs X.stack) [] H H2 s.heap s2.heap := I2.base
  obtain ⟨⟨oc, ws, t, hoc, hdc, hvc⟩, _, _⟩ := I2.hok c' _ hc
  have rc : codeAny (model X.prog X.w) (X.A.deeper (envOfC qg sg s.heap.objs.size g cdg)) (.call (.ref f) ⟨[u], []⟩) (CR CX0 (envOfC qg sg s.heap.objs.size g cdg :: X.stack) X.prog X.w H2 s2 Q E0) s2 := by
    refine PySem.W.kla_callFunE hr.depth of2 rfl L.co L.gen rfl ⟨c', oc, ws, t, rfl, hoc, hdc, hvc⟩ ?_
    rw [hbind]
    refine wpAny_pure (wpAny_newFunctionEnv L.nocell (fun y hy => by
      rw [List.mem_singleton.mp hy]; exact L.par) (fun h1 hns hsb => ⟨I2.nolimit.fresh _ hsb, ?_⟩) L.kind)
    show codeAny _ _ (.expr body (lamE X scope s2.heap.objs.size f c')) _ _
    have kp : ∀ b o, s2.heap.get? b = some o → h1.get? b = some o := fun b o eb => hsb.extBut b o (Nat.ne_of_lt (Heap.lt_size eb)) (Heap.get?_push_of_some _ eb)
    have J := lamC_start (f := f) (c' := c') (tk := s2.toks + [(p, u)].length) I L nd hj rv I2.env0 hr.hd un hns kp
    refine PySem.W.kla_codeExpr (wpAny_mono ((hbody _ _ s2 H2 (hr.deeper _)).run [] _ _ H2 Q J hb) (fun v' s' hq => ?_) fun _ _ hq => hq.elim)
    obtain ⟨w', H', J', rw', q⟩ := hq
    exact ⟨w', H', J'.os, J'.bare, J'.base, J'.hok, rw', q⟩
  refine wpAny_call (codeAny_mono rc fun r' s' hq => ?_)
  cases r' with
  | error x => exact (show False from hq).elim
  | ok fl =>
    cases fl with
    | ret x => exact I2.after hq
    | next => exact False.elim hq
    | brk => exact False.elim hq
    | cont => exact False.elim hq
end
theorem EnvOk.to {K : PySem.W.Frag} {F : Hp} : ∀ {σ : L2.St} {ρ : Env'}, EnvOk K F σ ρ → EnvD K F σ ρ
  | _, _, .nil => ⟨rfl, fun i d e => by simp at e⟩
  | _, _, .non r => ⟨by simp [(EnvOk.to r).len], fun i d e => by
    cases i with
    | zero => simp at e
    | succ i => simpa using (EnvOk.to r).at_ i d (by simpa using e)⟩
  | _, _, .cons h r => ⟨by simp [(EnvOk.to r).len], fun i d e => by
    cases i with
    | zero => simp at e; subst e; exact ⟨_, rfl, h⟩
    | succ i => simpa using (EnvOk.to r).at_ i d (by simpa using e)⟩
theorem EnvOk.of {K : PySem.W.Frag} {F : Hp} : ∀ {σ : L2.St} {ρ : Env'}, EnvD K F σ ρ → EnvOk K F σ ρ
  | [], [], _ => .nil
  | [], _ :: _, h => by have := h.len; simp at this
  | _ :: _, [], h => by have := h.len; simp at this
  | o :: σ, none :: ρ, h => .non (EnvOk.of ⟨by have := h.len; simpa using this, fun i d e => by simpa using h.at_ (i + 1) d (by simpa using e)⟩)
  | o :: σ, some d :: ρ, h => by
    obtain ⟨v, e, r⟩ := h.at_ 0 d rfl
    have e : o = some v := by simpa using e
    subst e
    exact .cons r (EnvOk.of ⟨by have := h.len; simpa using this, fun i d e => by simpa using h.at_ (i + 1) d (by simpa using e)⟩)
def tabD : Option Cell → (Str → Prop) → Prop
  | some (.tab q), p => p q
  | _, _ => False
@[simp] theorem tabD_e1 {q p} : tabD (some (.tab q)) p = (p q) := rfl
theorem tabD.ok {o : Option Cell} {p : Str → Prop} (h : tabD o p) : ∃ d, o = some (.tab d) ∧ p d := by
  cases o with
  | none => exact h.elim
  | some c => cases c with
    | tab d => exact ⟨d, rfl, h⟩
    | _ => exact h.elim
/-- what a def makes of a function that it got: by the function's own law over data -/
abbrev DTT := (D → Mem → DK → Prop) → Mem → DK → Prop
/-- the making of a lambda: its code object is found in the table, or new and written there -/
theorem lam_made {X : Cx} {pins : List (Addr × Obj)} {σ : L2.St} {H : Hp} {s : Shared} {c PT : Addr} {ps : Array Value} {params : Arguments} {body : Expr} {scope : Scope} {pos : Pos} {E Q : Value → Shared → Prop} (I : Inv X pins σ H s) (TB : TabB X.base X.mg c PT) (hcode : X.env.code = .ref c)
    (hP : H PT = some (.tbl ps)) (ht : TriplesOk ps.toList) (hall : ∀ (pos : Pos) (cv : Value), codeAmong pos ps.toList = some cv → ∃ c, cv = .ref c ∧ H c = some (CodeO c (X.env.qual ++ "<lambda>"))) (hdef : defaultsOf params X.env = ([], []))
    (hfree : ∀ y ∈ scope.names, y.2 = .free → ∃ c, X.env.cells.lookup y.1 = some c)
    (h : ∀ (f c' : Addr) (pm ctv : Value) (H1 : Hp) (s' : Shared), Inv X pins σ H1 s' →
      ((H1 = H ∧ ∃ (pos : Pos) (cv : Value), codeAmong pos ps.toList = some cv ∧ cv = .ref c') ∨
        (∃ qs : Array Value, H c' = none ∧ H1 = upd (upd H PT (.tbl qs)) c' (CodeO c' (X.env.qual ++ "<lambda>")) ∧ TriplesOk qs.toList ∧ ∀ (pos : Pos) (cv : Value), codeAmong pos qs.toList = some cv → codeAmong pos ps.toList = some cv ∨ cv = .ref c')) →
      s'.heap.get? f = some (lamF X params body scope pm c' ctv) → H1 f = none → f ∉ frs X.stack → Q (.ref f) s') : wpAny (model X.prog X.w) X.A (eval (.Lambda params body scope pos) X.env) Q E s := by
  have bP : s.heap.BuiltinsAt X.mg PT := TB.bm.keeps I.bk
  have oP : s.heap.get? PT = some { cls := .none, data := .fields ps } := I.hok PT _ hP
  have nofr : ∀ f, s.heap.objs.size ≤ f → f ∉ frs X.stack := by
    intro f hf z
    rcases List.mem_cons.mp (I.stkSub _ z) with e | e
    · have q := I.lt
      rw [← e] at q
      exact absurd (Nat.lt_of_lt_of_le q hf) (Nat.lt_irrefl _)
    · exact I.nofs hf e
  refine PySem.W.kla_eval hdef ?_
  cases hc : codeAmong pos ps.toList with
  | some cv =>
    obtain ⟨c', e, hco⟩ := hall pos cv hc
    subst e
    refine PySem.W.kla_makeFunctionHit (mg := X.mg) (c := c) (P := PT) (ps := ps) (closure_ok hfree) I.ok.glob (I.mod.glob.keeps I.bk) hcode (TB.code.keeps I.bk) oP ht hc bP ?_
    intro ctv h2 tk kx sz
    have J : Inv X pins σ H { s with heap := h2.push (lamF X params body scope ((X.mg "__name__").getD .none) c' ctv), toks := tk } := I.kept fun b o e => Heap.get?_push_of_some _ (kx b o e)
    exact h h2.objs.size c' _ ctv H _ J (.inl ⟨rfl, pos, _, hc, rfl⟩) (Heap.get?_push_size _ rfl) (I.hok.fresh sz) (nofr _ sz)
  | none =>
    refine PySem.W.kla_makeFunction (mg := X.mg) (c := c) (P := PT) (ps := ps) (closure_ok hfree) I.ok.glob (I.mod.glob.keeps I.bk) hcode (TB.code.keeps I.bk) oP ht hc TB.gP bP ?_
    intro c' ctv h2 tk kx ge lt hrec tb
    obtain ⟨c2, oc, ws, t, e2, hoc, hdt, hvt⟩ := hrec
    cases e2
    have sz : s.heap.objs.size ≤ h2.objs.size := by omega
    have nC : H c' = none := I.hok.fresh ge
    have J := inv_table (t' := tk) (more := #[rawInt pos.line, rawInt pos.col, .ref c']) (h' := h2.push (lamF X params body scope ((X.mg "__name__").getD .none) c' ctv)) I hP
      (fun b o hb e => Heap.get?_push_of_some _ (kx b o hb e)) (Heap.get?_push_of_some _ tb) ge ⟨oc, ws, t, Heap.get?_push_of_some _ hoc, hdt, hvt⟩
    have eL : (ps ++ #[rawInt pos.line, rawInt pos.col, .ref c']).toList = ps.toList ++ [rawInt pos.line, rawInt pos.col, .ref c'] := by simp
    refine h h2.objs.size c' _ ctv _ _ J (.inr ⟨_, nC, rfl, ?_, fun pos' cv hcv => ?_⟩) (Heap.get?_push_size _ rfl) ?_ (nofr _ sz)
    · rw [eL]; exact PySem.TriplesOk_snoc _ _ _ _ ht
    · rw [eL] at hcv
      exact among_app _ ht hcv
    · have l := Heap.lt_size oP
      rw [upd_ne (show h2.objs.size ≠ c' by omega), upd_ne (Nat.ne_of_gt (Nat.lt_of_lt_of_le l sz))]
      exact I.hok.fresh sz
/-- x(lambda p: body): PT the maker's table, td what the body is, j the parameter's place -/
def dLam (PT : Addr) (q : Str) (TT : DTT) (j : Nat) (td : DE) : DE := fun ρ M Q => tabD (M PT) fun q' => q' = q ∧ TT (fun d M1 Q1 => td (ρ.set j (some d)) M1 Q1) M Q
/-- the def x walked, its parameter a a function of the law act -/
def GivesD (X : Cx) (Ng : List Str) (x : Str) (sg : Scope) (g : Addr) (cdg : Value) (k : Nat) (bg : List Stmt) (a : Str) (TT : DTT) : Prop :=
  ∀ (s : Shared) (H : Hp) (clo : D) (act : D → Mem → DK → Prop), Room k (X.A.deeper (envOfC x sg s.heap.objs.size g cdg)) →
    (∀ (e : Expr) (te : DE) (p1 p2 : Pos), QE (cxOf CX0 X.prog X.w X.K X.mg X.base Ng x sg g cdg X.A X.stack s H E0).nox e te → starEach [e] (envOfC x sg s.heap.objs.size g cdg) = (false, eval e (envOfC x sg s.heap.objs.size g cdg)) :: starEach [] (envOfC x sg s.heap.objs.size g cdg) →
      QE (cxOf CX0 X.prog X.w X.K X.mg X.base Ng x sg g cdg X.A X.stack s H E0).nox (.Call (.Name a p1) [e] [] p2) (fun ρ M Q => ρ[0]? = some (some clo) ∧ te ρ M fun d M1 => act d M1 Q)) →
    ∃ t, QSs (cxOf CX0 X.prog X.w X.K X.mg X.base Ng x sg g cdg X.A X.stack s H E0).nox bg t ∧ ∀ M Q, TT act M Q → t { nx := fun _ M' => Q .non M', rt := Q } (startD Ng [clo]) M
theorem q_lam1 {X : Cx} {TT : DTT} {x a p : Str} {g c PT : Addr} {k j : Nat} {pg : Arguments} {bg : List Stmt} {sg : Scope} {dV kV doc pm cdv ct oc : Value} {an od : Option Addr} {osl : Array (Option Value)} {Ng : List Str}
    {params : Arguments} {body : Expr} {scope : Scope} {td : DE} {p0 lpos pos : Pos} (hg : Gl X x) (hm : X.mg x = some (.ref g)) (hk : PySem.W.keepIn X.K (.ref g) = true)
    (lk : X.K.lookup g = some ⟨oc, od, .func (PySem.W.fnOf x x pg bg sg dV kV doc pm an cdv ct), osl⟩) (hcg : PySem.W.codeIn X.K cdv x = true) (hb : L2.Binds X.K (PySem.W.fnOf x x pg bg sg dV kV doc pm an cdv ct) [a] []) (Sg : FnScope Ng [a] sg) (hNg : Ng[0]? = some a) (hva : Vis sg a)
    (hG : GivesD X Ng x sg g cdv (k + 1) bg a TT) (TB : TabB X.base X.mg c PT) (hcode : X.env.code = .ref c) (hr : Room (k + 2) X.A) (L : LamP X.env.scope scope p) (nd : X.N.Nodup) (hj : X.N[j]? = some p) (hdef : defaultsOf params X.env = ([], []))
    (hbind : ∀ (u : Value) (q : Str) (cl : List (Str × Addr)) (pm cv ctv : Value), bindArgs (PySem.W.kla_fn "<lambda>" q params body scope cl pm cv ctv) ⟨[u], []⟩ = pure [(p, u)])
    (hbody : ∀ (A : Around) (outer : List Env) (s : Shared) (H : Hp) (f c' : Addr), Room k (A.deeper (lamE X scope s.heap.objs.size f c')) → QE (lamC X A outer s H scope f c') body td)
    (hdb : (x == ("__debug__" : Str)) = false := by decide) (hd : (a == ("__debug__" : Str)) = false := by decide) (hcd : (a == ("__classdict__" : Str)) = false := by decide) :
    QE X (.Call (.Name x p0) [.Lambda params body scope lpos] [] pos) (dLam PT (X.env.qual ++ "<lambda>") TT j td) := by
  refine ⟨fun pins s σ H Q I hh => ?_⟩
  obtain ⟨F, ρ, M, Q', gd, en, h0, ko⟩ := hh
  obtain ⟨q, hM, eq, h⟩ := tabD.ok (show tabD (M PT) fun q' => q' = X.env.qual ++ "<lambda>" ∧ TT (fun d M1 Q1 => td (ρ.set j (some d)) M1 Q1) M Q' from h0)
  clear h0
  subst eq
  obtain ⟨hFP, ps, hP, ht, hall⟩ := gd.mem PT _ hM
  refine wpAny_Call_Name_kw (ld_glob I hg hm ?_ hdb)
  refine PySem.W.callWith_K (h₀ := X.base) I.ok.mod.kin hk ?_ (by rfl) (by rfl)
  show wpAny _ _ (spliced ((false, eval (.Lambda params body scope lpos) X.env) :: backTo pos (starEach [] X.env))) _ _ s
  refine Calls.spliced_cons (lam_made I TB hcode hP ht (fun pos cv hc => ?_) hdef (L.has I.ok) fun f c' pm' ctv H1 s' I1 hH hf hfn hfr => ?_)
  · obtain ⟨c, e1, e2⟩ := hall pos cv hc
    exact ⟨c, e1, gd.sub _ _ e2⟩
  refine Calls.spliced_nil ⟨I1.kIn, ?_⟩
  obtain ⟨F1, ex1, g1, hc1⟩ : ∃ F1, Ex F F1 ∧ Good X.K F1 M H1 ∧ F1 c' = some (CodeO c' (X.env.qual ++ "<lambda>")) := by
    rcases hH with ⟨rfl, pos', cv, hc, rfl⟩ | ⟨qs, nC, rfl, tq, hq⟩
    · obtain ⟨c2, e1, e2⟩ := hall pos' _ hc
      cases e1
      exact ⟨F, Ex.refl F, gd, e2⟩
    · have nF := gd.fnone nC
      have ex : Ex F (upd F c' (CodeO c' (X.env.qual ++ "<lambda>"))) := Ex.new nF
      have hne : PT ≠ c' := fun z => by rw [z, nC] at hP; cases hP
      refine ⟨_, ex, ⟨fun a u e => ?_, fun a cl e => ?_⟩, upd_same⟩
      · by_cases z : a = c'
        · subst z; rw [upd_same] at e ⊢; exact e
        · rw [upd_ne z] at e ⊢
          have z2 : a ≠ PT := fun z2 => by rw [z2, hFP] at e; cases e
          rw [upd_ne z2]; exact gd.sub a u e
      · have z : a ≠ c' := gd.ne nC e
        obtain ⟨h1, h2⟩ := gd.mem a cl e
        refine ⟨by rw [upd_ne z]; exact h1, ?_⟩
        by_cases z2 : a = PT
        · subst z2
          rw [hM] at e
          cases e
          refine ⟨qs, by rw [upd_ne hne, upd_same], tq, fun pos cv hcv => ?_⟩
          rcases hq pos cv hcv with k | k
          · obtain ⟨c3, e1, e2⟩ := hall pos cv k
            exact ⟨c3, e1, ex _ _ e2⟩
          · exact ⟨c', k, upd_same⟩
        · exact h2.ex ex (by rw [upd_ne z, upd_ne z2])
  have en1 := en.ex ex1
  have r0 : Dat X.K F1 (.ref f) (.clo f c' (X.env.qual ++ "<lambda>") σ ρ) := .clo hc1 (EnvOk.of en1)
  have rc : codeAny (model X.prog X.w) X.A (.call (.ref g) ⟨[.ref f], []⟩) (CR CX0 X.stack X.prog X.w H1 s' Q E0) s' := by
    refine run_ofS (N := Ng) (ps := [a]) (us := [.ref f]) (vs := [.ref f]) lk hcg Sg hr I1.env0 (hb s' [.ref f] I1.kIn rfl) (.cons rfl .nil) rfl fun hr' => ?_
    have hact : ∀ (e : Expr) (te : DE) (p1 p2 : Pos), QE (cxOf CX0 X.prog X.w X.K X.mg X.base Ng x sg g cdv X.A X.stack s' H1 E0).nox e te → starEach [e] (envOfC x sg s'.heap.objs.size g cdv) = (false, eval e (envOfC x sg s'.heap.objs.size g cdv)) :: starEach [] (envOfC x sg s'.heap.objs.size g cdv) →
        QE (cxOf CX0 X.prog X.w X.K X.mg X.base Ng x sg g cdv X.A X.stack s' H1 E0).nox (.Call (.Name a p1) [e] [] p2) (fun ρZ M Q => ρZ[0]? = some (some (.clo f c' (X.env.qual ++ "<lambda>") σ ρ)) ∧ te ρZ M fun d M1 => td (ρ.set j (some d)) M1 Q) := by
      intro e te p1 p2 he hs1
      refine wkE (pe_act1 (i := 0) (tb := LE X.K td) (ta := LA X.K (dCons te dNil)) I1 L nd hj hf hfn hfr (fun u => hbind u _ _ _ _ _) hr' (fun A outer s H hr2 => hbody A outer s H f c' hr2) (qa_cons he qa_nil (hs := hs1)) hNg hva hs1 hd hcd) fun σZ HZ QZ hz => ?_
      obtain ⟨F2, ρ2, M2, Q2, g2, en2, ⟨hslot, h2⟩, k2⟩ := hz
      obtain ⟨v, hv, rv⟩ := en2.at_ 0 _ hslot
      cases rv with
      | clo hc2 env2 =>
        refine ⟨hv, F2, ρ2, M2, _, g2, en2, (show dCons te dNil ρ2 M2 (fun ds M1 => oneD ds fun d => td (ρ.set j (some d)) M1 Q2) from h2), fun vs H3 F3 M3 ds e3 g3 rs h3 => ?_⟩
        obtain ⟨d, ed, h3⟩ := oneD.ok h3
        subst ed
        cases rs with
        | cons rd rn =>
          cases rn
          exact ⟨_, rfl, g3.sub _ _ (e3 _ _ hc2), F3, ρ.set j (some _), M3, Q2, g3, ((env2.ex e3).to).set j rd, h3, k2.ex e3⟩
    obtain ⟨t', ht', hq'⟩ := hG s' H1 (.clo f c' (X.env.qual ++ "<lambda>") σ ρ) (fun d M1 Q1 => td (ρ.set j (some d)) M1 Q1) hr' hact
    refine ⟨_, PSs.nox ht', F1, _, M, _, g1, env_start (ds := [.clo f c' (X.env.qual ++ "<lambda>") σ ρ]) (.cons r0 .nil), hq' M Q' h, ?_⟩
    exact ⟨fun σ' H' F2 ρ' M' e g' en q => ko .non H' F2 M' .non (ex1.trans e) g' .non q, ko.ex ex1, fun _ _ _ _ _ _ _ _ z => z.elim, fun _ _ _ _ _ _ _ _ z => z.elim⟩
  refine wpAny_call (codeAny_mono rc fun r s2 hq => ?_)
  cases r with
  | error e => exact (show False from hq).elim
  | ok fl =>
    cases fl with
    | ret u => exact I1.after hq
    | next => exact False.elim hq
    | brk => exact False.elim hq
    | cont => exact False.elim hq
end DL

set_option maxHeartbeats 4000000
/-! DLl: defs of the text that keep a promise over data. -/
namespace DL
open PySem PySem.Spec PyProof.Rows L2 Evl LamX
abbrev FnT (K : PySem.W.Frag) (x : Str) (st : Stmt) (f : Addr) (fd : FuncData) : Prop := FunD K x x (defArgs st) (defBody st) (defScope st) [] [] f fd
section
variable {P : Program} {w : World} {K : PySem.W.Frag} {mg : Str → Option Value} {base : Heap} {x : Str} {st : Stmt} {f c : Addr} {fd : FuncData} {N ps : List Str} {k : Nat} {fs : FS}
theorem mkCallee (F : FnT K x st f fd) (hm : mg x = some (.ref f)) (S : FnScope N ps (defScope st)) (len : ∀ ds M Q, fs ds M Q → ds.length = ps.length) (hb : Binds K fd ps [])
    (hbody : ∀ (cdv : Value) (A : Around) (outer : List Env) (s : Shared) (H : Hp) (E : XK), Room k (A.deeper (envOfC x (defScope st) s.heap.objs.size f cdv)) → ∃ t, QSs (cxOf CX0 P w K mg base N x (defScope st) f cdv A outer s H E).nox (defBody st) t ∧
      ∀ ds M Q, fs ds M Q → t { nx := fun _ M' => Q .non M', rt := Q } (startD N ds) M) : Callee P w K mg base (k + 1) x fs :=
  ⟨f, fd, ps, fnD F S len hbody, hb, F.kp, hm⟩
theorem Callee.forget (h : Callee P w K mg base k x (fun ds M Q => ∃ Q0, Q = Fgt Q0 ∧ fs ds M Q0)) : Callee P w K mg base k x fs := by
  obtain ⟨f, fd, ps, h1, h2, h3, h4⟩ := h
  exact ⟨f, fd, ps, h1.imp fun vs H Q E ⟨F, M, ds, Q', g, r, q, k⟩ => ⟨F, M, ds, Fgt Q', g, r, ⟨Q', rfl, q⟩, Fgt.out k⟩, h2, h3, h4⟩
/-- the same; the def's own cells may be forgotten -/
theorem mkCalleeF (F : FnT K x st f fd) (hm : mg x = some (.ref f)) (S : FnScope N ps (defScope st)) (len : ∀ ds M Q, fs ds M Q → ds.length = ps.length) (hb : Binds K fd ps [])
    (hbody : ∀ (cdv : Value) (A : Around) (outer : List Env) (s : Shared) (H : Hp) (E : XK), Room k (A.deeper (envOfC x (defScope st) s.heap.objs.size f cdv)) → ∃ t, QSs (cxOf CX0 P w K mg base N x (defScope st) f cdv A outer s H E).nox (defBody st) t ∧
      ∀ ds M Q, fs ds M Q → t { nx := fun _ M' => Fgt Q .non M', rt := Fgt Q } (startD N ds) M) : Callee P w K mg base (k + 1) x fs := by
  refine Callee.forget (mkCallee F hm S (fun ds M Q ⟨_, _, h⟩ => len ds M _ h) hb fun cdv A outer s H E hr => ?_)
  obtain ⟨t, h1, h2⟩ := hbody cdv A outer s H E hr
  exact ⟨t, h1, fun ds M Q ⟨Q0, e, h⟩ => by rw [e]; exact h2 ds M Q0 h⟩
/-- .. told of the function itself -/
theorem mkFnF (F : FnT K x st f fd) (S : FnScope N ps (defScope st)) (len : ∀ ds M Q, fs ds M Q → ds.length = ps.length)
    (hbody : ∀ (cdv : Value) (A : Around) (outer : List Env) (s : Shared) (H : Hp) (E : XK), Room k (A.deeper (envOfC x (defScope st) s.heap.objs.size f cdv)) → ∃ t, QSs (cxOf CX0 P w K mg base N x (defScope st) f cdv A outer s H E).nox (defBody st) t ∧
      ∀ ds M Q, fs ds M Q → t { nx := fun _ M' => Fgt Q .non M', rt := Fgt Q } (startD N ds) M) : FnOk P w K mg base CX0 (k + 1) f fd ps (LSp K fs) := by
  refine (fnD (fs := fun ds M Q => ∃ Q0, Q = Fgt Q0 ∧ fs ds M Q0) F S (fun ds M Q ⟨_, _, h⟩ => len ds M _ h) fun cdv A outer s H E hr => ?_).imp fun vs H Q E ⟨F, M, ds, Q', g, r, q, k⟩ => ⟨F, M, ds, Fgt Q', g, r, ⟨Q', rfl, q⟩, Fgt.out k⟩
  obtain ⟨t, h1, h2⟩ := hbody cdv A outer s H E hr
  exact ⟨t, h1, fun ds M Q ⟨Q0, e, h⟩ => by rw [e]; exact h2 ds M Q0 h⟩
/-- .. its code object known -/
theorem mkCalleeC (F : FnT K x st f fd) (hc : fd.code = .ref c) (hm : mg x = some (.ref f)) (S : FnScope N ps (defScope st)) (len : ∀ ds M Q, fs ds M Q → ds.length = ps.length) (hb : Binds K fd ps [])
    (hbody : ∀ (A : Around) (outer : List Env) (s : Shared) (H : Hp) (E : XK), Room k (A.deeper (envOfC x (defScope st) s.heap.objs.size f (.ref c))) → ∃ t, QSs (cxOf CX0 P w K mg base N x (defScope st) f (.ref c) A outer s H E).nox (defBody st) t ∧
      ∀ ds M Q, fs ds M Q → t { nx := fun _ M' => Fgt Q .non M', rt := Fgt Q } (startD N ds) M) : Callee P w K mg base (k + 1) x fs := by
  refine Callee.forget ⟨f, fd, ps, ?_, hb, F.kp, hm⟩
  obtain ⟨oc, od, dV, kV, doc, pm, an, cdv, ct, osl, rfl, lk, hcd, _, _⟩ := F.ex
  have e : cdv = .ref c := hc
  subst e
  refine fn_of lk hcd S (fun vs H Q E h => ?_) fun A outer s H vs Q E hr h => ?_
  · obtain ⟨_, _, ds, _, _, r, ⟨_, _, h⟩, _⟩ := h
    rw [r.len]; exact len _ _ _ h
  · obtain ⟨t, ht, hb⟩ := hbody A outer s H E hr
    obtain ⟨F', M, ds, Q', g, r, ⟨Q0, e0, h⟩, k⟩ := h
    subst e0
    refine ⟨_, PSs.nox ht, F', _, M, _, g, env_start r, hb ds M Q0 h, ⟨?_, k, ?_, ?_⟩⟩
    · exact fun σ' H' F2 ρ' M' e g' en q => k .non H' F2 M' .non e g' .non q
    · exact fun σ' H' F2 ρ' M' e g' en q => q.elim
    · exact fun σ' H' F2 ρ' M' e g' en q => q.elim
end
/-- x(lambda p: body), x known as a def of the text -/
theorem q_lamF {X : Cx} {TT : DTT} {x a p : Str} {st : Stmt} {g c PT : Addr} {fd : FuncData} {k j : Nat} {Ng : List Str} {params : Arguments} {body : Expr} {scope : Scope} {td : DE} {p0 lpos pos : Pos}
    (F : FnT X.K x st g fd) (hm : X.mg x = some (.ref g)) (Sg : FnScope Ng [a] (defScope st)) (hNg : Ng[0]? = some a) (hva : Vis (defScope st) a) (hb : Binds X.K fd [a] [])
    (hG : ∀ cdv, GivesD X Ng x (defScope st) g cdv (k + 1) (defBody st) a TT) (TB : TabB X.base X.mg c PT) (hcode : X.env.code = .ref c) (hr : Room (k + 2) X.A) (nd : X.N.Nodup) {q : Str} (hq : X.env.qual ++ "<lambda>" = q)
    (L : LamP X.env.scope scope p) (hj : X.N[j]? = some p) (hdef : defaultsOf params X.env = ([], []))
    (hbind : ∀ (u : Value) (q : Str) (cl : List (Str × Addr)) (pm cv ctv : Value), bindArgs (PySem.W.kla_fn "<lambda>" q params body scope cl pm cv ctv) ⟨[u], []⟩ = pure [(p, u)])
    (hbody : ∀ (A : Around) (outer : List Env) (s : Shared) (H : Hp) (f c' : Addr), Room k (A.deeper (lamE X scope s.heap.objs.size f c')) → QE (lamC X A outer s H scope f c') body td)
    (hg : Gl X x := by rfl) (hdb : (x == ("__debug__" : Str)) = false := by decide) (hd : (a == ("__debug__" : Str)) = false := by decide) (hcd : (a == ("__classdict__" : Str)) = false := by decide) :
    QE X (.Call (.Name x p0) [.Lambda params body scope lpos] [] pos) (dLam PT q TT j td) := by
  rw [← hq]
  obtain ⟨oc, od, dV, kV, doc, pm, an, cdv, ct, osl, rfl, lk, hcg, _, _⟩ := F.ex
  exact q_lam1 hg hm F.kp lk hcg hb Sg hNg hva (hG cdv) TB hcode hr L nd hj hdef hbind hbody hdb hd hcd
theorem dLam_i {PT : Addr} {q : Str} {TT : DTT} {j : Nat} {td : DE} {ρ : Env'} {M : Mem} {Q : DK} (hM : M PT = some (.tab q)) (h : TT (fun d M1 Q1 => td (ρ.set j (some d)) M1 Q1) M Q) : dLam PT q TT j td ρ M Q := by
  unfold dLam
  rw [hM]
  exact ⟨rfl, h⟩
theorem ints_vs {K : PySem.W.Frag} {F : Hp} : ∀ {ns : List Int} {vs : List V}, DatAll K F vs (ns.map D.int) → vs = ns.map V.int
  | [], _, r => by cases r; rfl
  | n :: ns, _, r => by
    cases r with
    | cons h t =>
      obtain rfl := h.int_of
      rw [ints_vs t]; rfl
theorem ints_dat {K : PySem.W.Frag} {F : Hp} : ∀ ns : List Int, DatAll K F (ns.map V.int) (ns.map D.int)
  | [] => .nil
  | n :: ns => .cons (.int n) (ints_dat ns)
/-- the law's own call: the script read only, one table -/
theorem law_start {K : PySem.W.Frag} {H : Hp} {a PT : Addr} {ns : List Int} {q : Str} {fs : FS} (hT : H PT = some (.tbl #[])) (hS : SqL K H a (ns.map V.int)) (h : ∀ M : Mem, M PT = some (.tab q) → ∀ Q : DK, (∀ M', Q (.bl true) M') → fs [.scr (ns.map D.int)] M Q) : LSp K fs [.ref a] H (fun v _ => v = .bl true) fun _ _ _ => False := by
  have ne : ∀ u, (∀ qs, u ≠ .tbl qs) → H a = some u → a ≠ PT := fun u hu e z => by
    rw [z, hT] at e
    exact hu _ (Option.some.inj e).symm
  refine ⟨fun b => if b = PT then none else H b, put (fun _ => none) PT (.tab q), [.scr (ns.map D.int)], fun d _ => d = .bl true, ⟨fun b u e => ?_, fun b c e => ?_⟩, .cons (.scr (vs := ns.map V.int) ?_ (ints_dat ns)) .nil, h _ put_same _ fun _ => rfl, ?_⟩
  · by_cases z : b = PT
    · rw [if_pos z] at e; cases e
    · rw [if_neg z] at e; exact e
  · by_cases z : b = PT
    · subst z
      rw [put_same] at e
      cases e
      refine ⟨if_pos rfl, #[], hT, True.intro, fun pos cv hc => ?_⟩
      have hc : codeAmong pos [] = some cv := hc
      simp [codeAmong] at hc
    · rw [put_ne z] at e; cases e
  · rcases hS with hS | hS
    · refine .inl ?_
      rcases hS with e | ⟨o, e⟩
      · exact .inl ((if_neg (ne _ (fun _ z => by cases z) e)).trans e)
      · exact .inr ⟨o, (if_neg (ne _ (fun _ z => by cases z) e)).trans e⟩
    · exact .inr hS
  · rintro v H' F' M' d _ _ r rfl
    cases r
    rfl
end DL

set_option maxHeartbeats 4000000
/-! DLm: dicts of keys None and ints. -/
namespace DL
open PySem PySem.Spec PyProof.Rows L2 Evl
/-! ### the plain side -/
def kDV : Option Key → V
  | none => .non
  | some k => kV k
def keyD : D → Option (Option Key)
  | .non => some none
  | .int i => some (some (.inl i))
  | _ => none
@[simp] theorem keyD_e1 : keyD .non = some none := rfl
@[simp] theorem keyD_e2 {i} : keyD (.int i) = some (some (.inl i)) := rfl
def kDD : Option Key → D
  | none => .non
  | some (.inl i) => .int i
  | some (.inr s) => .str s
theorem keyD_ok {K : PySem.W.Frag} {F : Hp} {v : V} {d : D} {k : Option Key} (r : Dat K F v d) (e : keyD d = some k) : v = kDV k ∧ okK k = true := by
  cases r <;> simp [keyD] at e <;> subst e <;> exact ⟨rfl, rfl⟩
theorem kDD_ok {K : PySem.W.Frag} {F : Hp} (k : Option Key) : Dat K F (kDV k) (kDD k) := by
  cases k with
  | none => exact .non
  | some k => cases k with
    | inl i => exact .int i
    | inr s => exact .str s
def putD (kvs : List (Option Key × D)) (k : Option Key) (v : D) : List (Option Key × D) := if kvs.any (fun kv => decide (kv.1 = k)) then kvs.map (fun kv => if kv.1 = k then (kv.1, v) else kv) else kvs ++ [(k, v)]
def valD (kvs : List (Option Key × D)) (k : Option Key) : Option D := (kvs.find? fun kv => kv.1 = k).map (·.2)
section
variable {K : PySem.W.Frag} {F : Hp} {vs : List (Option Key × V)} {ds : List (Option Key × D)}
theorem NvsOk.keys (r : NvsOk K F vs ds) : vs.map (·.1) = ds.map (·.1) := by
  induction ds generalizing vs with
  | nil => cases r; rfl
  | cons d ds ih => cases r with
    | cons h r => rw [List.map_cons, List.map_cons, ih r]
theorem NvsOk.len (r : NvsOk K F vs ds) : vs.length = ds.length := by
  have := congrArg List.length r.keys
  rwa [List.length_map, List.length_map] at this
theorem NvsOk.any (r : NvsOk K F vs ds) (k : Option Key) : (vs.any fun kv => decide (kv.1 = k)) = ds.any fun kv => decide (kv.1 = k) := by
  induction ds generalizing vs with
  | nil => cases r; rfl
  | cons d ds ih => cases r with
    | cons h r => rw [List.any_cons, List.any_cons, ih r]
theorem NvsOk.snoc {k : Option Key} {v : V} {d : D} (h : Dat K F v d) (r : NvsOk K F vs ds) : NvsOk K F (vs ++ [(k, v)]) (ds ++ [(k, d)]) := by
  induction ds generalizing vs with
  | nil => cases r; exact .cons h .nil
  | cons e ds ih => cases r with
    | cons h' r => exact .cons h' (ih r)
theorem NvsOk.repl {k : Option Key} {v : V} {d : D} (h : Dat K F v d) (r : NvsOk K F vs ds) : NvsOk K F (vs.map fun kv => if kv.1 = k then (kv.1, v) else kv) (ds.map fun kv => if kv.1 = k then (kv.1, d) else kv) := by
  induction ds generalizing vs with
  | nil => cases r; exact .nil
  | cons e ds ih => cases r with
    | @cons f w d' _ _ h' r =>
      rw [List.map_cons, List.map_cons]
      by_cases z : f = k
      · simp only [z, if_true]
        exact .cons h (ih r)
      · simp only [if_neg z]
        exact .cons h' (ih r)
theorem NvsOk.put {k : Option Key} {v : V} {d : D} (h : Dat K F v d) (r : NvsOk K F vs ds) : NvsOk K F (putK vs k v) (putD ds k d) := by
  unfold putK putD
  rw [r.any k]
  split
  · exact r.repl h
  · exact r.snoc h
theorem NvsOk.val {k : Option Key} {d : D} (r : NvsOk K F vs ds) (e : valD ds k = some d) : ∃ v, valV vs k = some v ∧ Dat K F v d := by
  unfold valD at e
  unfold valV
  induction ds generalizing vs with
  | nil => cases e
  | cons x ds ih => cases r with
    | @cons f w d' _ _ h' r =>
      rw [List.find?_cons] at e ⊢
      by_cases z : f = k
      · simp only [z, decide_true] at e ⊢
        cases e
        exact ⟨w, rfl, h'⟩
      · simp only [z, decide_false] at e ⊢
        exact ih r e
theorem NvsOk.at_ {i : Nat} {k : Option Key} {d : D} (r : NvsOk K F vs ds) (e : ds[i]? = some (k, d)) : ∃ v, vs[i]? = some (k, v) ∧ Dat K F v d := by
  induction ds generalizing vs i with
  | nil => simp at e
  | cons x ds ih => cases r with
    | @cons f w d' _ _ h' r =>
      cases i with
      | zero => simp at e; obtain ⟨rfl, rfl⟩ := e; exact ⟨w, rfl, h'⟩
      | succ i => simpa using ih r (by simpa using e)
end
theorem okK_put {vs : List (Option Key × V)} {k : Option Key} {v : V} (h : ∀ p ∈ vs, okK p.1 = true) (hk : okK k = true) : ∀ p ∈ putK vs k v, okK p.1 = true := by
  intro p hp
  unfold putK at hp
  split at hp
  · obtain ⟨q, hq, rfl⟩ := List.mem_map.mp hp
    split
    · exact h q hq
    · exact h q hq
  · rcases List.mem_append.mp hp with hp | hp
    · exact h p hp
    · rw [List.mem_singleton.mp hp]; exact hk
theorem pairs_any {P P' : Program} {w w' : World} {es : List DictEntry} {vs : List (Option Key × Value)} (p : Pairs (noneKind P w) es vs) : Pairs (noneKind P' w') es vs := by
  induction p with
  | nil => exact .nil
  | cons h1 h2 _ ih => exact .cons h1 h2 ih
theorem pairs_mem {P : Program} {w : World} {es : List DictEntry} {vs : List (Option Key × Value)} (p : Pairs (noneKind P w) es vs) : ∀ e ∈ es, ∃ q ∈ vs, (noneKind P w).is q.1 e.key = true := by
  induction p with
  | nil => intro e he; simp at he
  | @cons x kv es vs h1 h2 _ ih =>
    intro e he
    rcases List.mem_cons.mp he with rfl | he
    · exact ⟨kv, by simp, h1⟩
    · obtain ⟨q, hq, hi⟩ := ih e he
      exact ⟨q, by simp [hq], hi⟩
theorem hash_any {P P' : Program} {w w' : World} {k : Option Key} (h : okK k = true) : (noneKind P w).hash k = (noneKind P' w').hash k := by
  cases k with
  | none => rfl
  | some k => cases k with
    | inl i => rfl
    | inr s => cases h
/-- a dict of such keys, of whatever program -/
theorem dnf_of {P : Program} {w : World} {h : Heap} {a : Addr} {o : Obj} {kvs : List (Option Key × V)} {vs : List (Option Key × Value)} (hs : (a == sysModules) = false) (hl : kvs.length ≤ sizeLine) (hk : ∀ p ∈ kvs, okK p.1 = true) (kv : KV kvs vs)
    (d : h.DictOf (noneKind P w) a vs) (ho : h.get? a = some o) : DNf a o kvs := by
  refine ⟨hs, hl, hk, vs, kv, fun P' w' h' ho' => ?_⟩
  obtain ⟨o2, es, ep, h1, hx, hdt, keys, pairs, nd⟩ := d
  rw [ho] at h1
  cases h1
  refine ⟨o, es, ep, ho', hx, hdt, fun e he => ?_, pairs_any pairs, nd⟩
  obtain ⟨q, hq, hi⟩ := pairs_mem pairs e (by simpa using he)
  obtain ⟨k0, hi0, hh⟩ := keys e he
  have e0 := (noneKind P w).inj _ _ _ hi0 hi
  have hq' : okK q.1 = true := by
    have : q.1 ∈ kvs.map (·.1) := by rw [kv.keys]; exact List.mem_map.mpr ⟨q, hq, rfl⟩
    obtain ⟨p, hp, ep⟩ := List.mem_map.mp this
    rw [← ep]; exact hk p hp
  exact ⟨q.1, hi, by rw [hh, e0]; exact hash_any hq'⟩
theorem nk_is {P : Program} {w : World} {k : Option Key} {u : Value} (r : L2.RelV (kDV k) u) : (noneKind P w).is k u = true := by
  cases k with
  | none => obtain rfl : u = Value.none := r; rfl
  | some k => exact kV_is (P := P) (w := w) r
theorem nk_rel {k : Option Key} {u : Value} (h : nkIs k u = true) : L2.RelV (kDV k) u := by
  cases k with
  | none => exact nk_none h
  | some k => exact relV_key h
section
variable {X : Cx} {pins : List (Addr × Obj)} {σ : L2.St} {H : Hp} {s : Shared} {a : Addr} {o : Obj} {kvs : List (Option Key × V)}
theorem exo_at (I : Inv X pins σ H s) (e : H a = some (ExO a o)) : s.heap.get? a = some o := (I.hok a _ e).1
theorem exo_new {P : Program} {w : World} {H' : Hp} {h : Heap} (ho : h.get? a = some o) : ObjOk P w H' h a (ExO a o) := ⟨ho, ⟨o, ho⟩, fun h1 h2 p k => k o p⟩
/-! ### readings by values -/
def rIxN : R2 := fun x y H Q => ∃ a o kvs k v, x = .ref a ∧ y = kDV k ∧ H a = some (ExO a o) ∧ DNf a o kvs ∧ valV kvs k = some v ∧ Q v H
theorem ix_dno : IxR X rIxN := by
  intro value slice pins s σ H x y v u Q I rx ry h hs
  obtain ⟨a, o, kvs, k, r, rfl, rfl, ha, ⟨h1, h2, h3, vs, kv, df⟩, hv, q⟩ := h
  obtain rfl : v = Value.ref a := rx
  have hm := (df X.prog X.w s.heap (exo_at I ha)).mapOf
  obtain ⟨u0, hu, ru⟩ := RelO.some_of (v := r) (o := valueAt vs k) (by rw [← hv]; exact kv.val k)
  exact tail_any hm.typeIs slot_dict_getitem.lookup (wpAny_getItem_of (nk_is ry) hm hu ⟨r, H, I.tok _, ru, q⟩) hs
def rSetN : TSet := fun x y v H Q => ∃ a o kvs k, x = .ref a ∧ y = kDV k ∧ H a = some (ExO a o) ∧ DNf a o kvs ∧ okK k = true ∧ kvs.length < sizeLine ∧ ∀ o', DNf a o' (putK kvs k v) → Q (upd H a (ExO a o'))
theorem set_dno : PSet X rSetN := by
  intro pins s σ H x y v ov iv u Q I ro ri rv h
  obtain ⟨a, o, kvs, k, rfl, rfl, ha, ⟨h1, h2, h3, vs, kv, df⟩, hk, hl, q⟩ := h
  obtain rfl : ov = Value.ref a := ro
  have dd := df X.prog X.w s.heap (exo_at I ha)
  have hz : vs.length ≤ sizeLine := by rw [← kv.length]; exact h2
  refine wpAny_setItem_pairs (hsz := hz) (nk_is ri) dd fun h' dd' sb => ?_
  obtain ⟨o', es, ep, ho', hrest⟩ := id dd'
  have f : DNf a o' (putK kvs k v) := dnf_of h1 (by have := length_putK kvs k v; omega) (okK_put h3 hk) (kv.put k rv) dd' ho'
  exact ⟨_, d_write I (by rw [ha]; exact trivial) sb ⟨o', ho'⟩ (exo_new ho'), q o' f⟩
def tDNewN : TE := fun _ H Q => ∀ p o, H p = none → DNf p o [] → Q (.ref p) (upd H p (ExO p o))
theorem pe_dnewN {pos : Pos} : PE X (.Dict [] [] pos) tDNewN := ⟨fun pins s σ H Q I h => by
  have hp := Heap.get?_push_size s.heap (o := { cls := .type "dict", data := .dict #[] }) rfl
  exact wpAny_Dict_empty ⟨.ref s.heap.objs.size, _, I.laid (a := s.heap.objs.size) (o := ExO s.heap.objs.size _) (t' := s.toks) (fun _ _ q => Heap.get?_push_of_some _ q) (Nat.le_refl _) (exo_new hp), rfl,
    h _ _ (I.hok.fresh (Nat.le_refl _)) (dnf_of (P := X.prog) (w := X.w) (beq_eq_false_iff_ne.mpr (Ne.symm (Nat.ne_of_lt I.big))) (Nat.zero_le _) (fun _ h => by simp at h) .nil (Heap.DictOf.new s.heap) hp)⟩⟩
/-- the keys -/
def Itn (d : Addr) (o : Obj) (kvs : List (Option Key × V)) : It :=
  ⟨fun i H => H d = some (ExO d o) ∧ i < kvs.length, fun i H x H' => H' = H ∧ ∃ k v, kvs[i]? = some (k, v) ∧ x = kDV k, fun i H => H d = some (ExO d o) ∧ kvs.length ≤ i⟩
theorem turn_keysN {P : Program} {w : World} {K : PySem.W.Frag} {tg : Expr} {d : Addr} {es : Array DictEntry} {ep : Nat} (it : Addr) (f : DNf d o kvs) (hod : o.data = .dict es ep) (hsz : es.size = kvs.length) : Turn P w K tg (Itn d o kvs) [it] it (fun i h => h.IsKeyIter it d i kvs.length ep) where
  mem := by simp
  obj := fun i h st b hb => by
    obtain rfl : b = it := by simpa using hb
    obtain ⟨oi, e, _, dd⟩ := st
    exact ⟨oi, e, fun v z => by rw [dd] at z; cases z⟩
  keep := fun i h h' st k => st.at fun oi e => k it (by simp) oi e
  self := fun A i s Q E st h => wpAny_pyIter_keyiter st h
  item := by
    intro X hP hw hK hc i pins s σ H E I hf st hg
    subst hP hw hK
    obtain ⟨hd, hi⟩ := hg
    obtain ⟨g0, g1, g2, g3, g4, g5⟩ := hf it (by simp)
    obtain ⟨h1, h2, h3, vs, kv, df⟩ := f
    have dd := df X.prog X.w s.heap (exo_at I hd)
    have dat : s.heap.DictAt (noneKind X.prog X.w) d vs ep := by
      obtain ⟨o2, es2, ep2, q1, q2, q3, q4⟩ := dd
      rw [exo_at I hd] at q1
      cases q1
      obtain ⟨rfl, rfl⟩ := dict_ep hod q3
      exact ⟨o, _, exo_at I hd, q2, q3, q4⟩
    obtain ⟨⟨k, v⟩, hkv⟩ : ∃ p, kvs[i]? = some p := ⟨kvs[i], List.getElem?_eq_getElem hi⟩
    obtain ⟨u, hu, ru⟩ := kv_get kv hkv
    have hl : kvs.length = vs.length := Paired.length kv
    rw [hl] at st
    refine wpAny_pyNext_dict_item st dat hu fun key h' hkey st' sb => ?_
    have J : Inv X pins σ H { s with heap := h' } := I.turned (t' := s.toks) (fun b ob hb e => (sb.2 b hb).trans e) g0 g1 g3 g4 g5
    obtain ⟨oi, e, c, d2⟩ := id st'
    rw [← hl] at st'
    exact ⟨key, rfl, go_of (s := { s with heap := h' }) e c d2 (by decide) ⟨kDV k, H, J, nk_rel (show nkIs k key = true from hkey), ⟨rfl, k, v, hkv, rfl⟩, st', fun b hb => (hf b hb).1⟩⟩
  done := by
    intro X hP hw hK hc i pins s σ H E I hf st hg
    subst hP hw hK
    obtain ⟨hd, hi⟩ := hg
    obtain ⟨g0, g1, g2, g3, g4, g5⟩ := hf it (by simp)
    exact next_key_end (I.ok.hd hc) st (exo_at I hd) hod hsz hi fun h' eb => ⟨rfl, I.turned (t' := s.toks) (fun b ob hb e => eb b ob hb e) g0 g1 g3 g4 g5⟩
def iKeysN (td : TE) : TI := fun σ H R => td σ H fun x H1 => ∃ d o kvs, x = .ref d ∧ H1 d = some (ExO d o) ∧ DNf d o kvs ∧ R (Itn d o kvs) H1
theorem pi_keysN {tg e : Expr} {td : TE} (he : PE X e td) : PI X tg e (iKeysN td) := by
  refine ⟨fun pins s σ H R I h => ?_⟩
  refine thn (he.run pins s σ H _ I h) fun u s1 ⟨x, H1, I1, rx, d, o, kvs, ex, hd, f, q⟩ => ?_
  subst ex
  obtain rfl : u = Value.ref d := rx
  have ho := exo_at I1 hd
  obtain ⟨h1, h2, h3, vs, kv, df⟩ := id f
  obtain ⟨o2, es, ep, q1, hx, hdt, q4, hp, q5⟩ := df X.prog X.w s1.heap ho
  rw [ho] at q1
  cases q1
  have hsz : es.size = kvs.length := by
    have l1 := hp.length
    rw [Array.length_toList] at l1
    rw [l1, kv.length]
  refine iter_keys h1 ho hx hdt (pi_one (tk := s1.toks) I1 _ (turn_keysN _ f hdt hsz) ⟨_, Heap.get?_push_size _ rfl, rfl, ?_⟩ q)
  rw [hsz] <;> rfl
end
/-! ### over data -/
def celN : Option Cell → (List (Option Key × D) → Prop) → Prop
  | some (.dno xs), p => p xs
  | _, _ => False
@[simp] theorem celN_e1 {xs p} : celN (some (.dno xs)) p = (p xs) := rfl
theorem celN.ok {o : Option Cell} {p : List (Option Key × D) → Prop} (h : celN o p) : ∃ d, o = some (.dno d) ∧ p d := by
  cases o with
  | none => exact h.elim
  | some c => cases c with
    | dno d => exact ⟨d, rfl, h⟩
    | _ => exact h.elim
@[simp] def dDNewN : DE := fun _ M Q => ∀ p, M p = none → Q (.ref p) (put M p (.dno []))
def dIxN : D → D → Mem → DK → Prop
  | .dno kvs, y, M, Q => opD (keyD y) fun k => opD (valD kvs k) fun v => Q v M
  | .ref p, y, M, Q => celN (M p) fun kvs => opD (keyD y) fun k => opD (valD kvs k) fun v => Q v M
  | _, _, _, _ => False
@[simp] theorem dIxN_e1 {kvs y M Q} : dIxN (.dno kvs) y M Q = (opD (keyD y) fun k => opD (valD kvs k) fun v => Q v M) := rfl
@[simp] theorem dIxN_e2 {p y M Q} : dIxN (.ref p) y M Q = (celN (M p) fun kvs => opD (keyD y) fun k => opD (valD kvs k) fun v => Q v M) := rfl
def dSetN : D → D → D → Mem → (Mem → Prop) → Prop
  | .ref p, y, v, M, Q => celN (M p) fun kvs => opD (keyD y) fun k => kvs.length < sizeLine ∧ Q (put M p (.dno (putD kvs k v)))
  | _, _, _, _, _ => False
@[simp] theorem dSetN_e1 {p y v M Q} : dSetN (.ref p) y v M Q = (celN (M p) fun kvs => opD (keyD y) fun k => kvs.length < sizeLine ∧ Q (put M p (.dno (putD kvs k v)))) := rfl
theorem q_dnewN {X : Cx} {pos : Pos} : QE X (.Dict [] [] pos) dDNewN := wkE pe_dnewN fun σ H Q h => by
  obtain ⟨F, ρ, M, Q', g, en, h, k⟩ := h
  intro p o hp f
  exact k _ _ F _ _ (Ex.refl F) (g.chg (c := .dno []) (g.fnone hp) ⟨o, [], upd_same, f, .nil⟩) (.ref p) (h p (g.mnone hp))
theorem o2_ixN {K : PySem.W.Frag} : Op2 K rIxN dIxN := by
  intro F M H x y dx dy Q' Q gd rx ry h k
  unfold dIxN at h
  split at h
  · obtain ⟨kk, e1, h⟩ := opD.ok h
    obtain ⟨v, e2, h⟩ := opD.ok h
    cases rx with
    | dno hf f r =>
      obtain ⟨v', e3, rv⟩ := r.val e2
      obtain ⟨ey, ok⟩ := keyD_ok ry e1
      exact ⟨_, _, _, kk, v', rfl, ey, gd.sub _ _ hf, f, e3, k v' H F M v (Ex.refl F) gd rv h⟩
  · obtain ⟨kvs, e0, h⟩ := celN.ok h
    obtain ⟨kk, e1, h⟩ := opD.ok h
    obtain ⟨v, e2, h⟩ := opD.ok h
    obtain rfl := rx.ref_of
    obtain ⟨hf, o, vs, hH, f, r⟩ := gd.mem _ _ e0
    obtain ⟨v', e3, rv⟩ := r.val e2
    obtain ⟨ey, ok⟩ := keyD_ok ry e1
    exact ⟨_, _, _, kk, v', rfl, ey, hH, f, e3, k v' H F M v (Ex.refl F) gd rv h⟩
  · exact h.elim
theorem op_setN {K : PySem.W.Frag} : OpP K rSetN dSetN := by
  intro F M H o i v do_ di dv Q' Q gd ro ri rv h k
  unfold dSetN at h
  split at h
  · obtain ⟨kvs, e0, h⟩ := celN.ok h
    obtain ⟨kk, e1, hl, h⟩ := opD.ok h
    obtain rfl := ro.ref_of
    obtain ⟨hf, o, vs, hH, f, r⟩ := gd.mem _ _ e0
    obtain ⟨ey, ok⟩ := keyD_ok ri e1
    refine ⟨_, o, vs, kk, rfl, ey, hH, f, ok, by rw [r.len]; exact hl, fun o' f' => ?_⟩
    exact k _ F _ (Ex.refl F) (gd.chg (c := .dno (putD kvs kk dv)) hf ⟨o', _, upd_same, f', r.put rv⟩) h
  · exact h.elim
@[simp] def dFrzN (i : Nat) (t : DS) : DS := fun D ρ M => slotD (ρ[i]?) fun d => refD d fun p => celN (M p) fun xs => t D (ρ.set i (some (.dno xs))) (drp M p)
/-- a local dict is not to change any more (a step of the proof alone) -/
theorem qs_frzN {X : Cx} {sts : List Stmt} {t : DS} (i : Nat) (h : QSs X sts t) : QSs X sts (dFrzN i t) := wkSs h fun D σ H h => by
  obtain ⟨F, ρ, M, DD, g, en, hh, k⟩ := h
  obtain ⟨d, e1, h2⟩ := slotD.ok (show slotD (ρ[i]?) _ from hh)
  obtain ⟨p, e2, h3⟩ := refD.ok h2
  obtain ⟨xs, e3, h4⟩ := celN.ok h3
  rw [e2] at e1
  obtain ⟨hf, o, vs, hH, f, r⟩ := g.mem p _ e3
  have ex : Ex F (upd F p (ExO p o)) := Ex.new hf
  have g1 : Good X.K (upd F p (ExO p o)) (drp M p) H := by
    refine ⟨fun a u e => ?_, fun a c e => ?_⟩
    · by_cases z : a = p
      · rw [z, upd_same] at e; rw [z, ← e]; exact hH
      · rw [upd_ne z] at e; exact g.sub a u e
    · have z : a ≠ p := fun z => by rw [z, drp_same] at e; cases e
      rw [drp_ne z] at e
      obtain ⟨m1, m2⟩ := g.mem a c e
      exact ⟨by rw [upd_ne z]; exact m1, m2.ex ex rfl⟩
  have rd : Dat X.K (upd F p (ExO p o)) (.ref p) (.dno xs) := .dno upd_same f (r.ex ex)
  obtain ⟨v, hv, rv⟩ := en.at_ i _ e1
  obtain rfl := rv.ref_of
  have en1 := (en.ex ex).set i rd
  have es : σ.set i (some (V.ref p)) = σ := by
    refine List.ext_getElem? fun j => ?_
    rw [List.getElem?_set]
    by_cases q : i = j
    · subst q
      rw [if_pos rfl, hv]
      by_cases l : i < σ.length
      · rw [if_pos l]
      · rw [List.getElem?_eq_none (by omega)] at hv; cases hv
    · rw [if_neg q]
  rw [es] at en1
  exact ⟨_, _, _, DD, g1, en1, h4, k.ex ex⟩
def dnD : D → (List (Option Key × D) → Prop) → Prop
  | .dno xs, p => p xs
  | _, _ => False
@[simp] theorem dnD_e1 {xs p} : dnD (.dno xs) p = (p xs) := rfl
@[simp] def diKeysN (te : DE) : DI := fun ρ M R => te ρ M fun d M1 => dnD d fun kvs => R (fun _ => True) (kvs.map fun p => kDD p.1) M1
theorem qi_keysN {X : Cx} {tg e : Expr} {te : DE} (he : QE X e te) : QI X tg e (diKeysN te) := wkI (pi_keysN he) fun σ H R h => by
  obtain ⟨F, ρ, M, Q', gd, en, h, k⟩ := h
  refine ⟨F, ρ, M, _, gd, en, h, fun x H1 F1 M1 dx e1 g1 rx h1 => ?_⟩
  cases rx with
  | @dno a o vs ds hf f r =>
    refine ⟨a, o, vs, rfl, g1.sub _ _ hf, f, k _ H1 F1 M1 _ _ e1 g1 ?_ h1⟩
    have hl : (ds.map fun p => kDD p.1).length = vs.length := by rw [List.length_map, r.len]
    refine ⟨fun H => H a = some (ExO a o), fun i H x H' => H' = H ∧ ∃ k v, vs[i]? = some (k, v) ∧ x = kDV k, ⟨fun i H hi q => ⟨q, by omega⟩, fun H q => ⟨q, by omega⟩, fun i H x H' _ _ y => y⟩, fun F' M' H' ex g' _ => g'.sub _ _ (ex _ _ hf), ?_⟩
    rintro i x H H' F' M' ex g' _ hi ⟨rfl, kk, v, hkv, rfl⟩
    have hk : (ds.map (·.1))[i]? = some kk := by rw [← r.keys, List.getElem?_map, hkv]; rfl
    refine ⟨F', kDD kk, Ex.refl _, g', ?_, kDD_ok kk, fun _ _ => rfl⟩
    rw [List.getElem?_map] at hk ⊢
    cases q : ds[i]? with
    | none => rw [q] at hk; cases hk
    | some z => rw [q] at hk; cases hk; rfl
  | _ => exact h1.elim
end DL

set_option maxHeartbeats 4000000
/-! DLn: sorted(set(xs)), xs a list of ints. -/
namespace DL
open PySem PySem.Spec PyProof.Rows L2 Evl
abbrev bareSet (w : World) : Obj := { cls := .type "set", dict := none, data := .set #[] 0 (.fresh 0 0 (!w.params.followText "set-order")) }
section
variable {P : Program} {w : World} {A : Around} {E : Value → Shared → Prop} {s : Shared}
set_option maxRecDepth 100000 in
set_option maxHeartbeats 6400000 in
theorem set_of_ints {l : Addr} {xs : Array Value} (ns : List Int) {Q : Value → Shared → Prop} (hh : A.handled = none) (hl : s.heap.IsList l xs) (hi : IntsAre xs.toList ns) (hb : ns.length + 1 < scanBound)
    (h : ∀ (g : Heap) (tk c : Nat), SetR w g s.heap.objs.size (fun j => decide (j ∈ ns)) c → c ≤ ns.length → (∀ b o, s.heap.get? b = some o → g.get? b = some o) → Q (.ref s.heap.objs.size) { s with heap := g, toks := tk }) :
    wpAny (model P w) A (call (.type "set") [.ref l]) Q E s := by
  have size_xs : xs.size = ns.length := by
    have q := IntsAre.length hi
    rwa [Array.length_toList] at q
  obtain ⟨c, tl, hmro⟩ := F.called_set.mro
  have made := F.called_set.made
  have sub := F.called_set.sub
  refine wpAny_call (codeAny_of_tree ?_)
  show wpAny _ _ (callAny (.type "set") _) _ _ _
  refine wpAny_pure ⟨Code.quiet_builtin _ (by decide +kernel), codeAny_builtin F.entry_type_call ?_⟩
  rw [Around.under_plain (weight_type_call_type "set" [.ref l] []) rfl]
  have n1 := F.called_set.notType
  have n2 := F.called_set.canCreate
  have n3 := F.typeCall_set_1 (.ref l)
  repeat (any_goals (first | assumption | wp_step))
  refine codeAny_mono (code_set_led1 (.ref l) (E := E) (Q₁ := fun v t => v = .ref s.heap.objs.size ∧ t = { s with heap := s.heap.push (bareSet w) }) ⟨rfl, rfl⟩) fun r s1 hr => ?_
  cases r with
  | error e => exact hr
  | ok fl =>
    cases fl with
    | ret obj =>
      obtain ⟨rfl, rfl⟩ := hr
      have atS : (s.heap.push (bareSet w)).get? s.heap.objs.size = some (bareSet w) := Heap.get?_push_size _ rfl
      have tyS : Shared.TypeIs { s with heap := s.heap.push (bareSet w) } (.ref s.heap.objs.size) "set" := ⟨_, atS, rfl⟩
      have i1 := F.called_set.init.lookup
      have i2 := F.called_set.init.bind (.ref s.heap.objs.size)
      repeat (any_goals (first | assumption | wp_step))
      refine codeAny_mono (codeAny_call_builtin (R := wants (fun v t => v = .none ∧ ∃ g tk c, t = { s with heap := g, toks := tk } ∧ SetR w g s.heap.objs.size (fun j => decide (j ∈ ns)) c ∧ c ≤ ns.length ∧ (∀ b o, s.heap.get? b = some o → g.get? b = some o)) E)
        F.called_set.init.plain F.entry_set_init (check_set_init_1 tyS ?_)) fun r2 s2 hr2 => ?_
      · obtain ⟨ol, hol, hcl, nl, hdl⟩ := hl
        obtain ⟨c1, c2, c3, c4⟩ := ol
        simp only at hcl hdl
        subst hcl hdl
        have atL : (s.heap.push (bareSet w)).get? l = some { cls := .type "list", dict := c2, data := .seq xs nl, slots := c4 } := Heap.get?_push_of_some _ hol
        have m1 := F.sub_list_set
        have m2 := F.sub_list_frozenset
        have m3 : (Value.type "list" == Value.type "dict") = false := by decide
        have isL : (s.heap.push (bareSet w)).IsList l xs := ⟨_, atL, rfl, nl, rfl⟩
        unfold Builtin.«set.__init__» noKeywords Builtin.Frozenset.updateFrom
        generalize hIT : pyIter = IT
        wp_walk
        subst hIT
        refine wpAny_pyIter_list isL ?_
        refine wpAny_bind (wpAny_runValue ?_)
        have lt := Heap.lt_size hol
        have h3 : A.in1.in1.in1.handled = none := by simp [hh]
        have ne1 : l ≠ (s.heap.push (bareSet w)).objs.size := by rw [Heap.size_push]; exact Nat.ne_of_lt (Nat.lt_succ_of_lt lt)
        have out : s.heap.objs.size ∉ [(s.heap.push (bareSet w)).objs.size, l] := by
          rw [Heap.size_push]
          intro z
          rcases List.mem_cons.mp z with z | z
          · exact Nat.ne_of_lt (Nat.lt_succ_self _) z
          · exact Nat.ne_of_gt lt (List.mem_singleton.mp z)
        have val : ∀ (i : Nat) (v : Value), xs[i]? = some v → ∃ k t, ns[i]? = some k ∧ v = .int k t := by
          intro i v hv
          have l1 : i < ns.length := by rw [← size_xs]; exact (Array.getElem?_eq_some_iff.mp hv).1
          obtain ⟨t, e⟩ := PyProof.Rows.IntsAre.int_at hi i v (by rw [Array.getElem?_toList]; exact hv)
          exact ⟨ns[i], t, List.getElem?_eq_getElem l1, by rw [e, List.getD_eq_getElem?_getD, List.getElem?_eq_getElem l1] <;> rfl⟩
        refine set_update_ints ((Walks.list h3 _ l ne1 xs).toS) s.heap.objs.size out ns size_xs hb val (xs.size - 0) 0 _ (by omega) (Nat.zero_le _) ⟨⟨_, Heap.get?_push_size _ rfl, rfl, rfl⟩, (isL.push _)⟩ ?hA ?hB
        case hA => exact ⟨0, Nat.le_refl 0, setR_new_at (Heap.get?_push_of_some _ atS)⟩
        case hB =>
          intro t c' mv hc' hS'
          obtain ⟨g, g2, g3, g4, g5⟩ := t
          have e1 : g2 = s.gens := mv.gens
          have e2 : g3 = s.drawn := mv.drawn
          have e3 : g5 = s.os := mv.os
          subst e1 e2 e3
          show wpAny _ _ _ _ _ _
          refine wpAny_pure ?_
          show wpAny _ _ (ret Value.none) _ _ _
          rw [size_xs] at hc'
          refine wpAny_pure ⟨rfl, g, g4, c', rfl, hS', hc', fun b o e => ?_⟩
          have lb := Heap.lt_size e
          refine mv.heap b o (fun z => ?_) (Heap.get?_push_of_some _ (Heap.get?_push_of_some _ e))
          rw [Heap.size_push] at z
          rcases List.mem_cons.mp z with z | z
          · exact Nat.ne_of_lt lb z
          · exact Nat.ne_of_lt (Nat.lt_succ_of_lt lb) (List.mem_singleton.mp z)
      · cases r2 with
        | error e => exact hr2
        | ok f2 =>
          cases f2 with
          | ret r =>
            obtain ⟨rfl, g, tk, c', rfl, hS', hc', keep⟩ := hr2
            repeat (any_goals (first | assumption | wp_step))
            exact h _ _ _ hS' hc' keep
          | _ => exact hr2.elim
    | _ => exact hr.elim
/-- sorted(x), x a set of ints, any number of them -/
theorem sorted_ints_set {a : Addr} {S : Int → Bool} {n : Nat} {Q : Value → Shared → Prop} (R : SetR w s.heap a S n) (hh : A.handled = none) (hz : n ≤ sizeLine)
    (hQ : ∀ t p (out : Array Value) (c : Nat) (ns : List Int), (∀ b o, s.heap.get? b = some o → t.heap.get? b = some o) → t.gens = s.gens → t.os = s.os → s.heap.objs.size ≤ p →
      t.heap.get? p = some (seqObj "list" out c) → IntsAre out.toList ns → ns.Pairwise (· < ·) → (∀ k, k ∈ ns ↔ S k = true) → ns.length = n → Q (.ref p) t) :
    wpAny (model P w) A (call (.builtin "sorted") [.ref a]) Q E s := by
  obtain ⟨o, es, ep, t, ho, hex, hd, good, nd, hm, hb, hf, hn, hr, hl⟩ := R
  refine Calls.call_function_entry kind_sorted plain_sorted entry_sorted (args_sorted1 _) ?_
  unfold Builtin.«sorted»
  refine wpAny_bind (m := checkCount "sorted" 1 1 _) (wpAny_pure ?_)
  refine wpAny_bind (collect_set (A := A.in1) hh ⟨o, ho, hex.1, hd⟩ hf hb hr hl fun s1 vs k1 sz g1 o1 pm => ?_)
  have len : vs.length = n := by rw [pm.length_eq, List.length_map, Array.length_toList]; exact hn
  have are : IntsAre vs (vs.map Builtin.Re.reRawOf) := ints_of vs fun v hv => by
    obtain ⟨e, he, q⟩ := List.mem_map.mp (pm.mem_iff.mp hv)
    obtain ⟨k, tk, q1, _⟩ := good e he
    exact ⟨k, tk, q ▸ q1⟩
  have perm : (vs.map Builtin.Re.reRawOf).Perm (es.toList.map keyOf) := by
    have q := pm.map Builtin.Re.reRawOf
    rwa [List.map_map] at q
  refine wpAny_bind (wpAny_newList ?_ (by rw [len]; exact hz))
  have atL : (s1.heap.push (seqObj "list" vs.toArray 0)).get? s1.heap.objs.size = some (seqObj "list" vs.toArray 0) := Heap.get?_push_size _ rfl
  refine wpAny_bind (wpAny_holding (wpAny_call_entry slot_list_sort ⟨_, atL, rfl⟩ entry_list_sort (SrtO.list_sort_ord SrtO.swo_int atL (by rw [len]; exact hz) (fun h2 => SrtO.ints_sortable are h2) fun out b1 b2 => ⟨_, rfl, ?_⟩) (args_list_sort _)))
  obtain ⟨k2, k3, k4⟩ := SrtO.ints_out are b1 b2
  obtain ⟨c, hc⟩ := sortedHeap_at (vs := vs) (out := out.toArray) atL
  have pn : (out.map SrtO.iv).Perm (es.toList.map keyOf) := k3.trans perm
  refine wpAny_pure ⟨_, rfl, hQ _ s1.heap.objs.size out.toArray c (out.map SrtO.iv) (fun b u e => ?_) g1 o1 sz hc k2 (lt_of_le_nodup _ k4 (pn.nodup_iff.mpr nd)) (fun k => by rw [pn.mem_iff, ← hm k]) ?_⟩
  · have q := k1 b u e
    have lt := Heap.lt_size q
    show (sortedHeap (s1.heap.push (seqObj "list" vs.toArray 0)) s1.heap.objs.size vs out.toArray).get? b = some u
    rw [sortedHeap_old (Nat.ne_of_lt lt) (by rw [size_push']; exact Nat.lt_succ_of_lt lt)]
    exact Heap.get?_push_of_some _ q
  · rw [pn.length_eq, List.length_map, Array.length_toList]; exact hn
end
section
variable {X : Cx}
def rSetL (K : PySem.W.Frag) (w : World) : List V → Hp → VK → Prop := fun vs H Q => ∃ (a : Addr) (ns : List Int), vs = [V.ref a] ∧ SqL K H a (ns.map V.int) ∧ ns.length + 1 < scanBound ∧ ∀ p c, H p = none → c ≤ ns.length → Q (.ref p) (upd H p (SetO w p (fun j => decide (j ∈ ns)) c))
theorem cr_setL (hc : X.calm = true) : CallR X (.type "set") (rSetL X.K X.w) := by
  intro pins s σ H vs us Q I r h
  obtain ⟨a, ns, rfl, hs, hb, q⟩ := h
  obtain ⟨its, rv, hl, hz⟩ := I.list hs
  rw [Vals.ref1 r]
  refine set_of_ints ns (I.ok.hd hc) hl.isList rv.ints hb fun g tk c R hc' keep => ?_
  exact ⟨.ref _, _, I.laid (t' := tk) keep (Nat.le_refl _) (setO_new R), rfl, q _ c (I.hok.fresh (Nat.le_refl _)) hc'⟩
def rSortedS (w : World) : List V → Hp → VK → Prop := fun vs H Q => ∃ (a : Addr) (S : Int → Bool) (n : Nat), vs = [V.ref a] ∧ H a = some (SetO w a S n) ∧ n ≤ sizeLine ∧
  ∀ (ns : List Int) (p : Addr), ns.Pairwise (· < ·) → (∀ k : Int, k ∈ ns ↔ S k = true) → ns.length = n → H p = none → Q (.ref p) (upd H p (.lst (ns.map V.int)))
theorem cr_sortedS (hc : X.calm = true) : CallR X (.builtin "sorted") (rSortedS X.w) := by
  intro pins s σ H vs us Q I r h
  obtain ⟨a, S, n, rfl, ha, hz, q⟩ := h
  rw [Vals.ref1 r]
  refine sorted_ints_set (setO_get I ha) (I.ok.hd hc) hz fun t p out c ns k g o hp hg hi hs hm hl => ?_
  have hn : H p = none := I.hok.fresh hp
  have ok : ObjOk X.prog X.w (upd H p (.lst (ns.map V.int))) t.heap p (.lst (ns.map V.int)) := ⟨by rw [List.length_map, hl]; exact hz, out.toList, c, vals_of_ints hi, hg⟩
  have J : Inv X pins σ (upd H p (.lst (ns.map V.int))) { s with heap := t.heap, gens := t.gens, drawn := t.drawn, toks := t.toks } := I.call (ch := []) (Un.laid k hp hn) (I.hok.laid k hp ok) (by rw [g]; exact I.bare) fun _ z => nomatch z
  have e : t = { s with heap := t.heap, gens := t.gens, drawn := t.drawn, toks := t.toks } := by
    obtain ⟨_, _, _, _, _⟩ := t
    have o' := o
    subst o'
    rfl
  rw [e]
  exact ⟨.ref p, _, J, rfl, q ns p hs hm hl hn⟩
/-- sorted(set(e)), e a list of ints -/
@[simp] def dSortSet (te : DE) : DE := fun ρ M Q => te ρ M fun d M1 => lsD M1 d fun xs => ∃ ns : List Int, xs = ns.map D.int ∧ ns.length ≤ 4000 ∧ ∀ ms : List Int, ms.Pairwise (· < ·) → (∀ k, k ∈ ms ↔ k ∈ ns) → ms.length ≤ ns.length → Q (.lst (ms.map D.int)) M1
theorem q_sortSet {p1 p2 pos pos2 : Pos} {e : Expr} {te : DE} (hc : X.calm = true) (he : QE X e te) (hm1 : X.mg "sorted" = none) (hm2 : X.mg "set" = none) (hg1 : Gl X "sorted" := by rfl) (hg2 : Gl X "set" := by rfl)
    (hs1 : starEach [e] X.env = (false, eval e X.env) :: starEach [] X.env := by rfl)
    (hs2 : starEach [.Call (.Name "set" p2) [e] [] pos2] X.env = (false, eval (.Call (.Name "set" p2) [e] [] pos2) X.env) :: starEach [] X.env := by rfl) :
    QE X (.Call (.Name "sorted" p1) [.Call (.Name "set" p2) [e] [] pos2] [] pos) (dSortSet te) := by
  refine wkE (pe_callB (cr_sortedS hc) hg1 hm1 (by decide +kernel) (pa_cons (pe_callTy (cr_setL hc) hg2 hm2 (by decide +kernel) (pa_cons he pa_nil (hs := hs1)) (he := hs1)) pa_nil (hs := hs2)) (he := hs2)) fun σ H Q h => ?_
  obtain ⟨F, ρ, M, Q', g, en, h, k⟩ := h
  refine ⟨F, ρ, M, _, g, en, h, fun v H1 F1 M1 d e1 g1 r h1 => ?_⟩
  obtain ⟨xs, hx, ns, rfl, hl, h1⟩ := lsD.ok h1
  obtain ⟨a, vs, rfl, hs, rs⟩ := lstD.ok g1 r hx
  obtain rfl := ints_vs rs
  refine ⟨a, ns, rfl, hs, by unfold scanBound; omega, fun p c hp hcn => ?_⟩
  have gp := g1.junk (o := SetO X.w p (fun j => decide (j ∈ ns)) c) hp
  refine ⟨p, _, c, rfl, upd_same, szl (k := 4000) (by omega), fun ms b h2 h3 h4 hb => ?_⟩
  have fb : F1 b = none := gp.fnone hb
  refine k (.ref b) _ (upd F1 b (.lst (ms.map V.int))) M1 (.lst (ms.map D.int)) (e1.trans (Ex.new fb)) (gp.fix hb) (.lst upd_same (ints_dat ms)) (h1 ms h2 (fun j => by rw [h3 j]; exact decide_eq_true_iff) (by omega))
end
end DL

set_option maxHeartbeats 4000000
namespace W
open PySem PySem.Spec PyProof.Rows L2 Evl DL
def top (i : Nat) : Stmt := PySem.Challenge.pw_tablemerge_k40_whole_possible_cells_ther.main.body.getD i (.Pass ⟨0, 0, 0, 0⟩)
structure Txt (mg : Str → Option Value) : Prop where
  b_abs : mg "abs" = none
  b_int : mg "int" = none
  b_isinstance : mg "isinstance" = none
  b_len : mg "len" = none
  b_max : mg "max" = none
  b_min : mg "min" = none
  b_range : mg "range" = none
  b_set : mg "set" = none
  b_sorted : mg "sorted" = none
  b_tuple : mg "tuple" = none
  b_zip : mg "zip" = none
  c_MAX_VALUE : ∃ t, mg "MAX_VALUE" = some (.int 999 t)
abbrev FnP (K : PySem.W.Frag) (x : Str) (st : Stmt) (f : Addr) (fd : FuncData) : Prop := FunD K x x (defArgs st) (defBody st) (defScope st) [] [] f fd
abbrev s_merge_values : Stmt := top 2
theorem sc_merge_values : FnScope ["rule", "one", "other"] ["rule", "one", "other"] (defScope s_merge_values) := ⟨rfl, rfl, rfl, by decide +kernel, rfl, by decide +kernel, by decide +kernel⟩
abbrev s_merged_cell : Stmt := top 3
theorem sc_merged_cell : FnScope ["rule", "one", "other"] ["rule", "one", "other"] (defScope s_merged_cell) := ⟨rfl, rfl, rfl, by decide +kernel, rfl, by decide +kernel, by decide +kernel⟩
abbrev s_apply_cells : Stmt := top 5
theorem sc_apply_cells : FnScope ["plan", "cells", "rule", "one", "other"] ["plan", "cells"] (defScope s_apply_cells) := ⟨rfl, rfl, rfl, by decide +kernel, rfl, by decide +kernel, by decide +kernel⟩
abbrev s_with_item : Stmt := top 7
theorem sc_with_item : FnScope ["items", "number", "item"] ["items", "number", "item"] (defScope s_with_item) := ⟨rfl, rfl, rfl, by decide +kernel, rfl, by decide +kernel, by decide +kernel⟩
abbrev s_outcome : Stmt := top 8
theorem sc_outcome : FnScope ["plan", "cells", "number", "cell"] ["plan", "cells", "number", "cell"] (defScope s_outcome) := ⟨rfl, rfl, rfl, by decide +kernel, rfl, by decide +kernel, by decide +kernel⟩
abbrev s_least_value : Stmt := top 9
theorem sc_least_value : FnScope ["holds", "low", "high", "middle"] ["holds"] (defScope s_least_value) := ⟨rfl, rfl, rfl, by decide +kernel, rfl, by decide +kernel, by decide +kernel⟩
abbrev s_value_span : Stmt := top 10
theorem sc_value_span : FnScope ["plan", "cells", "number", "cell", "lowest", "low", "high", "own"] ["plan", "cells", "number", "cell"] (defScope s_value_span) := ⟨rfl, rfl, rfl, by decide +kernel, rfl, by decide +kernel, by decide +kernel⟩
abbrev s_possible_cells : Stmt := top 11
theorem sc_possible_cells : FnScope ["plan", "cells", "number", "cell"] ["plan", "cells", "number", "cell"] (defScope s_possible_cells) := ⟨rfl, rfl, rfl, by decide +kernel, rfl, by decide +kernel, by decide +kernel⟩
abbrev s_law_stream : Stmt := top 13
theorem sc_law_stream : FnScope ["_law_script", "_law_cells_here", "_law_cell"] ["_law_script"] (defScope s_law_stream) := ⟨rfl, rfl, rfl, by decide +kernel, rfl, by decide +kernel, by decide +kernel⟩
abbrev s_law_draw : Stmt := top 14
theorem sc_law_draw : FnScope ["_law_stream_here", "_law_many", "_law_rest", "_law_turn", "_law_cell", "_law_mixed"] ["_law_stream_here", "_law_many"] (defScope s_law_draw) := ⟨rfl, rfl, rfl, by decide +kernel, rfl, by decide +kernel, by decide +kernel⟩
abbrev s_law_pick : Stmt := top 15
theorem sc_law_pick : FnScope ["_law_stream_here", "_law_items"] ["_law_stream_here", "_law_items"] (defScope s_law_pick) := ⟨rfl, rfl, rfl, by decide +kernel, rfl, by decide +kernel, by decide +kernel⟩
abbrev s_law_value : Stmt := top 16
theorem sc_law_value : FnScope ["_law_stream_here"] ["_law_stream_here"] (defScope s_law_value) := ⟨rfl, rfl, rfl, by decide +kernel, rfl, by decide +kernel, by decide +kernel⟩
abbrev s_law_cells : Stmt := top 17
theorem sc_law_cells : FnScope ["_law_stream_here", "_law_found", "_law_k", "_law_value_here"] ["_law_stream_here"] (defScope s_law_cells) := ⟨rfl, rfl, rfl, by decide +kernel, rfl, by decide +kernel, by decide +kernel⟩
abbrev s_law_plan : Stmt := top 18
theorem sc_law_plan : FnScope ["_law_stream_here", "_law_nodes_here", "_law_leaves", "_law_parts", "_law_names", "_law_spot", "_law_node", "_law_k"] ["_law_stream_here", "_law_nodes_here", "_law_leaves"] (defScope s_law_plan) := ⟨rfl, rfl, rfl, by decide +kernel, rfl, by decide +kernel, by decide +kernel⟩
abbrev s_law_fill : Stmt := top 19
theorem sc_law_fill : FnScope ["_law_cells_here", "_law_number", "_law_cell"] ["_law_cells_here", "_law_number", "_law_cell"] (defScope s_law_fill) := ⟨rfl, rfl, rfl, by decide +kernel, rfl, by decide +kernel, by decide +kernel⟩
abbrev s_law_nodes : Stmt := top 20
theorem sc_law_nodes : FnScope ["_law_stream_here", "_law_most", "_law_nodes_here"] ["_law_stream_here", "_law_most"] (defScope s_law_nodes) := ⟨rfl, rfl, rfl, by decide +kernel, rfl, by decide +kernel, by decide +kernel⟩
abbrev s_law_width : Stmt := top 21
theorem sc_law_width : FnScope ["_law_possible", "_law_empty", "_law_span"] ["_law_possible"] (defScope s_law_width) := ⟨rfl, rfl, rfl, by decide +kernel, rfl, by decide +kernel, by decide +kernel⟩
abbrev s_law_ends_right : Stmt := top 22
theorem sc_law_ends_right : FnScope ["_law_plan_here", "_law_cells_here", "_law_number", "_law_cell", "_law_span", "_law_place", "_law_end", "_law_beyond"] ["_law_plan_here", "_law_cells_here", "_law_number", "_law_cell", "_law_span"] (defScope s_law_ends_right) := ⟨rfl, rfl, rfl, by decide +kernel, rfl, by decide +kernel, by decide +kernel⟩
abbrev s_law : Stmt := top 23
theorem sc_law : FnScope ["_law_script", "_law_stream_here", "_law_turn", "_law_plan_here", "_law_cells_here", "_law_number", "_law_width_here", "_law_some", "_law_told", "_law_coming", "_law_cell", "_law_own", "_law_empty", "_law_span"] ["_law_script"] (defScope s_law) := ⟨rfl, rfl, rfl, by decide +kernel, rfl, by decide +kernel, by decide +kernel⟩
end W

set_option maxHeartbeats 4000000
namespace W
open PySem PySem.Spec PyProof.Rows L2 Evl DL
inductive Rule where | over | under | least | greatest | common | minus | apart
deriving DecidableEq
@[simp] theorem ne_over_under : decide ((Str.ofString "over") = Str.ofString "under") = false := by decide +kernel
@[simp] theorem ne_over_least : decide ((Str.ofString "over") = Str.ofString "least") = false := by decide +kernel
@[simp] theorem ne_over_greatest : decide ((Str.ofString "over") = Str.ofString "greatest") = false := by decide +kernel
@[simp] theorem ne_over_common : decide ((Str.ofString "over") = Str.ofString "common") = false := by decide +kernel
@[simp] theorem ne_over_minus : decide ((Str.ofString "over") = Str.ofString "minus") = false := by decide +kernel
@[simp] theorem ne_over_apart : decide ((Str.ofString "over") = Str.ofString "apart") = false := by decide +kernel
@[simp] theorem ne_under_over : decide ((Str.ofString "under") = Str.ofString "over") = false := by decide +kernel
@[simp] theorem ne_under_least : decide ((Str.ofString "under") = Str.ofString "least") = false := by decide +kernel
@[simp] theorem ne_under_greatest : decide ((Str.ofString "under") = Str.ofString "greatest") = false := by decide +kernel
@[simp] theorem ne_under_common : decide ((Str.ofString "under") = Str.ofString "common") = false := by decide +kernel
@[simp] theorem ne_under_minus : decide ((Str.ofString "under") = Str.ofString "minus") = false := by decide +kernel
@[simp] theorem ne_under_apart : decide ((Str.ofString "under") = Str.ofString "apart") = false := by decide +kernel
@[simp] theorem ne_least_over : decide ((Str.ofString "least") = Str.ofString "over") = false := by decide +kernel
@[simp] theorem ne_least_under : decide ((Str.ofString "least") = Str.ofString "under") = false := by decide +kernel
@[simp] theorem ne_least_greatest : decide ((Str.ofString "least") = Str.ofString "greatest") = false := by decide +kernel
@[simp] theorem ne_least_common : decide ((Str.ofString "least") = Str.ofString "common") = false := by decide +kernel
@[simp] theorem ne_least_minus : decide ((Str.ofString "least") = Str.ofString "minus") = false := by decide +kernel
@[simp] theorem ne_least_apart : decide ((Str.ofString "least") = Str.ofString "apart") = false := by decide +kernel
@[simp] theorem ne_greatest_over : decide ((Str.ofString "greatest") = Str.ofString "over") = false := by decide +kernel
@[simp] theorem ne_greatest_under : decide ((Str.ofString "greatest") = Str.ofString "under") = false := by decide +kernel
@[simp] theorem ne_greatest_least : decide ((Str.ofString "greatest") = Str.ofString "least") = false := by decide +kernel
@[simp] theorem ne_greatest_common : decide ((Str.ofString "greatest") = Str.ofString "common") = false := by decide +kernel
@[simp] theorem ne_greatest_minus : decide ((Str.ofString "greatest") = Str.ofString "minus") = false := by decide +kernel
@[simp] theorem ne_greatest_apart : decide ((Str.ofString "greatest") = Str.ofString "apart") = false := by decide +kernel
@[simp] theorem ne_common_over : decide ((Str.ofString "common") = Str.ofString "over") = false := by decide +kernel
@[simp] theorem ne_common_under : decide ((Str.ofString "common") = Str.ofString "under") = false := by decide +kernel
@[simp] theorem ne_common_least : decide ((Str.ofString "common") = Str.ofString "least") = false := by decide +kernel
@[simp] theorem ne_common_greatest : decide ((Str.ofString "common") = Str.ofString "greatest") = false := by decide +kernel
@[simp] theorem ne_common_minus : decide ((Str.ofString "common") = Str.ofString "minus") = false := by decide +kernel
@[simp] theorem ne_common_apart : decide ((Str.ofString "common") = Str.ofString "apart") = false := by decide +kernel
@[simp] theorem ne_minus_over : decide ((Str.ofString "minus") = Str.ofString "over") = false := by decide +kernel
@[simp] theorem ne_minus_under : decide ((Str.ofString "minus") = Str.ofString "under") = false := by decide +kernel
@[simp] theorem ne_minus_least : decide ((Str.ofString "minus") = Str.ofString "least") = false := by decide +kernel
@[simp] theorem ne_minus_greatest : decide ((Str.ofString "minus") = Str.ofString "greatest") = false := by decide +kernel
@[simp] theorem ne_minus_common : decide ((Str.ofString "minus") = Str.ofString "common") = false := by decide +kernel
@[simp] theorem ne_minus_apart : decide ((Str.ofString "minus") = Str.ofString "apart") = false := by decide +kernel
@[simp] theorem ne_apart_over : decide ((Str.ofString "apart") = Str.ofString "over") = false := by decide +kernel
@[simp] theorem ne_apart_under : decide ((Str.ofString "apart") = Str.ofString "under") = false := by decide +kernel
@[simp] theorem ne_apart_least : decide ((Str.ofString "apart") = Str.ofString "least") = false := by decide +kernel
@[simp] theorem ne_apart_greatest : decide ((Str.ofString "apart") = Str.ofString "greatest") = false := by decide +kernel
@[simp] theorem ne_apart_common : decide ((Str.ofString "apart") = Str.ofString "common") = false := by decide +kernel
@[simp] theorem ne_apart_minus : decide ((Str.ofString "apart") = Str.ofString "minus") = false := by decide +kernel
def ruleS : Rule → Str
  | .over => "over" | .under => "under" | .least => "least" | .greatest => "greatest" | .common => "common" | .minus => "minus" | .apart => "apart"
def cellD : Option Int → D
  | none => .non
  | some i => .int i
def mergeV (r : Rule) (i j : Int) : Option Int := match r with
  | .least => some (if j < i then j else i)
  | .greatest => some (if j > i then j else i)
  | .under => some j
  | .over => some i
  | .common => some i
  | _ => none
def mergeC (r : Rule) (a b : Option Int) : Option Int := match a, b with
  | some i, some j => mergeV r i j
  | a, b => match r with
    | .common => none
    | .minus => a
    | _ => if a = none then b else a
section
variable {P : Program} {w : World} {K : PySem.W.Frag} {mg : Str → Option Value} {base : Heap} {f : Addr} {fd : FuncData}
def fs_mv : FS := fun ds M Q => ∃ r i j, ds = [.str (ruleS r), .int i, .int j] ∧ Q (cellD (mergeV r i j)) M
theorem ok_mv (T : Txt mg) (F : FnP K "merge_values" s_merge_values f fd) (hm : mg "merge_values" = some (.ref f)) : Callee P w K mg base 1 "merge_values" fs_mv := by
  have sc := sc_merge_values
  refine mkCallee F hm sc (fun ds M Q ⟨_, _, _, e, _⟩ => by rw [e]; rfl) (F.bindsN fun _ _ _ _ _ _ us hl => match us, hl with | [_, _, _], _ => rfl) fun cdv A outer s H E hr => ?_
  refine ⟨_, (qs_cons (qs_match (qv 0) (qm_str (qs_one (qs_ret (q_callB (call_min2 rfl) oa_min T.b_min (by decide +kernel) (qa_cons (qv 1) (qa_cons (qv 2) qa_nil))))) (qm_str (qs_one (qs_ret (q_callB (call_max2 rfl) oa_max T.b_max (by decide +kernel) (qa_cons (qv 1) (qa_cons (qv 2) qa_nil))))) (qm_str (qs_one (qs_ret (qv 2))) (qm_str (qs_one (qs_ret (qv 1))) (qm_str (qs_one (qs_ret (qv 1))) qm_nil)))))) (qs_one (qs_ret q_non))), ?_⟩
  rintro ds M Q ⟨r, i, j, rfl, q⟩
  cases r <;> simp [dSeq, dMatch, dVar, dMLit, dRet, dCB, dMin, dMax, dCons, dNil, dC, dMNil, startD, eqS, ruleS] <;> exact q
def fs_mc : FS := fun ds M Q => ∃ r a b, ds = [.str (ruleS r), cellD a, cellD b] ∧ Q (cellD (mergeC r a b)) M
theorem isN_cell (a : Option Int) : isN (cellD a) = a.isNone := by cases a <;> rfl
theorem ok_mc (T : Txt mg) (F : FnP K "merged_cell" s_merged_cell f fd) (hm : mg "merged_cell" = some (.ref f)) (C_merge_values : Callee P w K mg base 1 "merge_values" fs_mv) : Callee P w K mg base 2 "merged_cell" fs_mc := by
  have sc := sc_merged_cell
  refine mkCallee F hm sc (fun ds M Q ⟨_, _, _, e, _⟩ => by rw [e]; rfl) (F.bindsN fun _ _ _ _ _ _ us hl => match us, hl with | [_, _, _], _ => rfl) fun cdv A outer s H E hr => ?_
  refine ⟨_, (qs_cons (qs_if (qt_w (qw_and (qt_cmp op_notN o2_notN (qv 1) q_non) (qw_and1 (qt_cmp op_notN o2_notN (qv 2) q_non)))) (qs_one (qs_ret (q_fn C_merge_values (hr.mono (by omega)) (qa_cons (qv 0) (qa_cons (qv 1) (qa_cons (qv 2) qa_nil)))))) qs_nil) (qs_cons (qs_if (qt_cmp (op_eqA hr.units) o2_eqA (qv 0) q_str) (qs_one (qs_ret q_non)) qs_nil) (qs_cons (qs_if (qt_cmp (op_eqA hr.units) o2_eqA (qv 0) q_str) (qs_one (qs_ret (qv 1))) qs_nil) (qs_one (qs_ret (q_if (qt_cmp op_isN o2_isN (qv 1) q_non) (qv 2) (qv 1))))))), ?_⟩
  rintro ds M Q ⟨r, a, b, rfl, q⟩
  cases a with
  | none => cases b <;> cases r <;> simp [dSeq, dIfS, dAnd, dTest, blD, dOp, dNotN, dIsN, isN, dVar, dRet, dCall, dCons, dNil, dC, dNext, dIf, startD, dEqA, eqS, ruleS, cellD] <;> simpa [mergeC, cellD] using q
  | some i =>
    cases b with
    | none => cases r <;> simp [dSeq, dIfS, dAnd, dTest, blD, dOp, dNotN, dIsN, isN, dVar, dRet, dCall, dCons, dNil, dC, dNext, dIf, startD, dEqA, eqS, ruleS, cellD] <;> simpa [mergeC, cellD] using q
    | some j =>
      simp [dSeq, dIfS, dAnd, dTest, blD, dOp, dNotN, dIsN, isN, dVar, dRet, dCall, dCons, dNil, dC, dNext, dIf, startD, cellD]
      exact ⟨r, i, j, rfl, q⟩
inductive Pl where | leaf (n : Nat) | node (r : Rule) (a b : Pl)
def planD : Pl → D
  | .leaf n => .int (n : Int)
  | .node r a b => .tup [.str (ruleS r), planD a, planD b]
def depthP : Pl → Nat
  | .leaf _ => 0
  | .node _ a b => max (depthP a) (depthP b) + 1
def okP (L : Nat) : Pl → Prop
  | .leaf n => n < L
  | .node _ a b => okP L a ∧ okP L b
def applyC (cs : List (Option Int)) : Pl → Option Int
  | .leaf n => (cs[n]?).getD none
  | .node r a b => mergeC r (applyC cs a) (applyC cs b)
def fs_ac (n : Nat) : FS := fun ds M Q => ∃ p cs, ds = [planD p, .tup (List.map cellD cs)] ∧ depthP p ≤ n ∧ okP cs.length p ∧ Q (cellD (applyC cs p)) M
theorem ok_ac (T : Txt mg) (F : FnP K "apply_cells" s_apply_cells f fd) (hm : mg "apply_cells" = some (.ref f)) (C_merged_cell : Callee P w K mg base 2 "merged_cell" fs_mc) : ∀ n, Callee P w K mg base (n + 3) "apply_cells" (fs_ac n) := by
  have sc := sc_apply_cells
  have hb : Binds K fd ["plan", "cells"] [] := F.bindsN fun _ _ _ _ _ _ us hl => match us, hl with | [_, _], _ => rfl
  intro n
  induction n with
  | zero =>
    have C_apply_cells : Callee P w K mg base 0 "apply_cells" (fun _ _ _ => False) := Callee.none hb F.kp hm
    refine mkCallee F hm sc (fun ds M Q ⟨_, _, e, _⟩ => by rw [e]; rfl) hb fun cdv A outer s H E hr => ?_
    refine ⟨_, (qs_cons (qs_if (qt_val (q_callB call_isi oa_isi T.b_isinstance (by decide +kernel) (qa_cons (qv 0) (qa_cons (q_ty (n := "int") T.b_int (by decide +kernel)) qa_nil)))) (qs_one (qs_ret (q_ix ix_any o2_ix (qv 1) (qv 0)))) qs_nil) (qs_cons (qs_asg (qv 0) (qg_tup (n := 3) rfl (qgs_cons (qg_name 2 sc.nd) (qgs_cons (qg_name 3 sc.nd) (qgs_cons (qg_name 4 sc.nd) qgs_nil))))) (qs_one (qs_ret (q_fn C_merged_cell (hr.mono (by omega)) (qa_cons (qv 2) (qa_cons (q_fn C_apply_cells (hr.mono (by omega)) (qa_cons (qv 3) (qa_cons (qv 1) qa_nil))) (qa_cons (q_fn C_apply_cells (hr.mono (by omega)) (qa_cons (qv 4) (qa_cons (qv 1) qa_nil))) qa_nil)))))))), ?_⟩
    rintro ds M Q ⟨p, cs, rfl, hd, ho, q⟩
    cases p with
    | node r a b => simp [depthP] at hd
    | leaf n =>
      have ho : n < cs.length := ho
      have e : (cs.map cellD)[n]? = some (cellD ((cs[n]?).getD none)) := by simp [ho]
      simp [dSeq, dIfS, dTest, blD, dVar, dRet, dCB, dCons, dNil, dC, dOp, dIsi, dIx, startD, planD, kindD]
      rw [atI_nat e]; exact q
  | succ m ih =>
    have C_apply_cells := ih
    refine mkCallee F hm sc (fun ds M Q ⟨_, _, e, _⟩ => by rw [e]; rfl) hb fun cdv A outer s H E hr => ?_
    refine ⟨_, (qs_cons (qs_if (qt_val (q_callB call_isi oa_isi T.b_isinstance (by decide +kernel) (qa_cons (qv 0) (qa_cons (q_ty (n := "int") T.b_int (by decide +kernel)) qa_nil)))) (qs_one (qs_ret (q_ix ix_any o2_ix (qv 1) (qv 0)))) qs_nil) (qs_cons (qs_asg (qv 0) (qg_tup (n := 3) rfl (qgs_cons (qg_name 2 sc.nd) (qgs_cons (qg_name 3 sc.nd) (qgs_cons (qg_name 4 sc.nd) qgs_nil))))) (qs_one (qs_ret (q_fn C_merged_cell (hr.mono (by omega)) (qa_cons (qv 2) (qa_cons (q_fn C_apply_cells (hr.mono (by omega)) (qa_cons (qv 3) (qa_cons (qv 1) qa_nil))) (qa_cons (q_fn C_apply_cells (hr.mono (by omega)) (qa_cons (qv 4) (qa_cons (qv 1) qa_nil))) qa_nil)))))))), ?_⟩
    rintro ds M Q ⟨p, cs, rfl, hd, ho, q⟩
    cases p with
    | leaf n =>
      have ho : n < cs.length := ho
      have e : (cs.map cellD)[n]? = some (cellD ((cs[n]?).getD none)) := by simp [ho]
      simp [dSeq, dIfS, dTest, blD, dVar, dRet, dCB, dCons, dNil, dC, dOp, dIsi, dIx, startD, planD, kindD]
      rw [atI_nat e]; exact q
    | node r a b =>
      have hd : max (depthP a) (depthP b) + 1 ≤ m + 1 := hd
      simp [dSeq, dIfS, dTest, blD, tpD, dVar, dRet, dCB, dCall, dCons, dNil, dC, dOp, dIsi, dAsg, dgTup, dgCons, dgName, dgNil, dNext, startD, planD, kindD]
      exact ⟨a, cs, rfl, by omega, ho.1, b, cs, rfl, by omega, ho.2, r, _, _, rfl, q⟩
end
end W

set_option maxHeartbeats 4000000
namespace W
open PySem PySem.Spec PyProof.Rows L2 Evl DL
section
variable {P : Program} {w : World} {K : PySem.W.Frag} {mg : Str → Option Value} {base : Heap} {f : Addr} {fd : FuncData}
theorem ok_draw (T : Txt mg) (F : FnP K "_law_draw" s_law_draw f fd) (hm : mg "_law_draw" = some (.ref f)) : Callee P w K mg base 1 "_law_draw" fs_draw := by
  have sc := sc_law_draw
  refine mkCallee F hm sc (fun ds M Q ⟨_, _, _, _, e, _⟩ => by rw [e]; rfl) (F.bindsN fun _ _ _ _ _ _ us hl => match us, hl with | [_, _], _ => rfl) fun cdv A outer s H E hr => ?_
  refine ⟨_, (qs_cons (qs_while PassesOwn.never (qt_cmp (op_neA hr.units) o2_neA (q_ix ix_any o2_ix (qv 0) q_int) (q_lst qa_nil)) (qs_cons (qs_set (i := 2) sc.nd (q_ix ix_any o2_ix (q_ix ix_any o2_ix (qv 0) q_int) q_int)) (qs_cons (qs_if (qt_cmp op_gt o2_cmp (qv 2) q_int) (qs_cons (qs_asg (q_op op_fdiv o2_div (qv 2) (qv 1)) (qg_sub (q_ix ix_any o2_ix (qv 0) q_int) q_int set_list op_setL)) (qs_one (qs_ret (q_op op_mod o2_mod (qv 2) (qv 1))))) qs_nil) (qs_one (qs_expr (q_popAt (q_ix ix_any o2_ix (qv 0) q_int) q_int)))))) (qs_cons (qs_set (i := 3) sc.nd (q_op op_addA o2_add (q_ix ix_any o2_ix (qv 0) q_int) q_int)) (qs_cons (qs_asg (qv 3) (qg_sub (qv 0) q_int set_list op_setL)) (qs_cons (qs_set (i := 4) sc.nd (q_op op_mod o2_mod (q_ix ix_any o2_ix (q_ix ix_any o2_ix (qv 0) q_int) (q_op op_mod o2_mod (qv 3) (q_callB call_len oa_len T.b_len (by decide +kernel) (qa_cons (q_ix ix_any o2_ix (qv 0) q_int) qa_nil)))) q_int)) (qs_cons (qs_set (i := 5) sc.nd (q_op op_mod o2_mod (q_op op_addA o2_add (q_op op_addA o2_add (q_op op_mulA o2_mul (qv 4) (q_op op_addA o2_add q_int (q_op op_mulA o2_mul q_int (qv 3)))) (q_op op_mulA o2_mul (q_op op_mulA o2_mul q_int (qv 3)) (qv 3))) q_int) q_int)) (qs_one (qs_ret (q_op op_mod o2_mod (q_op op_fdiv o2_div (q_op op_mod o2_mod (q_op op_mulA o2_mul (qv 5) (qv 5)) q_int) q_int) (qv 1))))))))), ?_⟩
  rintro ds M Q ⟨a, b, n, many, rfl, ⟨bigs, cells, turn, hS⟩, h0, h1, q⟩
  have e0 : startD ["_law_stream_here", "_law_many", "_law_rest", "_law_turn", "_law_cell", "_law_mixed"] [D.ref a, D.int many] = [some (.ref a), some (.int many), none, none, none, none] := rfl
  rw [e0]
  simp only [dSeq, dWhile]
  refine ⟨fun m ρ M' => ∃ r bs, ρ = [some (.ref a), some (.int many), r, none, none, none] ∧ Str1 M' a b (n + 1) bs cells turn ∧ Off a b M M' ∧ m = bs.length, ⟨_, none, bigs, rfl, hS, Off.refl M, rfl⟩, ?_⟩
  rintro m ρ M' ⟨r, bs, rfl, hS, ho, rfl⟩
  have hne := hS.ne
  simp [hS.top]
  refine ne_nil_cell hS.big ?_
  cases bs with
  | nil =>
    have hp := hS.lo
    have hq := hS.hi
    have hf := hS.few
    have hc : 0 < cells.length := List.length_pos_iff.mpr hS.some_
    simp [hS.top, put_same, CMul, CDiv]
    obtain ⟨x, e, -, hx⟩ := atI_in (xs := cells.map D.int) (i := (turn + 1) % cells.length) (Int.emod_nonneg _ (by omega)) (by rw [List.length_map]; exact Int.emod_lt_of_pos _ (by omega))
    obtain ⟨v, hv, rfl⟩ := List.mem_map.mp hx
    rw [e]
    simp
    generalize hv' : (v % 2147483587 * (30269 + 48271 * (turn + 1)) + 65539 * (turn + 1) * (turn + 1) + 61) % 2147483647 = z
    have hz0 : 0 ≤ z := by rw [← hv']; exact Int.emod_nonneg _ (by decide)
    have hz1 : z < 2147483647 := by rw [← hv']; exact Int.emod_lt_of_pos _ (by decide)
    have hw0 := Int.emod_nonneg v (b := 2147483587) (by decide)
    have hw1 := Int.emod_lt_of_pos v (b := 2147483587) (by decide)
    refine ⟨hc, .inl ⟨by omega, by omega⟩, .inr ⟨by omega, by omega⟩, .inl ⟨by omega, by omega⟩, ⟨by omega, by omega⟩, h0, ?_⟩
    refine q _ (Int.emod_nonneg _ (by omega)) (Int.emod_lt_of_pos _ h0) _ ⟨[], cells, turn + 1, hne, put_same, by rw [put_ne (Ne.symm hne)]; exact hS.big, hS.pos, hS.some_, hS.few, by omega, by omega⟩ ho.put1
  | cons x xs =>
    have hx := hS.pos x (by simp)
    simp [hS.top, hS.big]
    by_cases z : 0 < x
    · simp [z, CDiv]
      refine ⟨⟨h0, by omega⟩, h0, q _ (Int.emod_nonneg _ (by omega)) (Int.emod_lt_of_pos _ h0) _ ?_ ?_⟩
      · refine ⟨_, cells, turn, hne, by rw [put_ne hne]; exact hS.top, (put_same (c := .lst ((x / many :: xs).map D.int))), ?_, hS.some_, hS.few, hS.lo, by have := hS.hi; omega⟩
        exact fun y hy => (List.mem_cons.mp hy).elim (fun e => by rw [e]; exact Int.ediv_nonneg hx (by omega)) fun e => hS.pos y (List.mem_cons_of_mem _ e)
      · exact ho.put2
    · simp [z]
      have e2 : seqIndex? 0 (xs.length + 1) = some 0 := seqIndex_of (by omega) (by omega)
      rw [e2]
      simp
      refine ⟨isL_cell hS.big, xs.length, by omega, xs, ⟨hne, by rw [put_ne hne]; exact hS.top, put_same, fun y hy => hS.pos y (List.mem_cons_of_mem _ hy), hS.some_, hS.few, hS.lo, hS.hi⟩, ho.put2, rfl⟩
end
end W

set_option maxHeartbeats 4000000
namespace W
open PySem PySem.Spec PyProof.Rows L2 Evl DL
section
variable {P : Program} {w : World} {K : PySem.W.Frag} {mg : Str → Option Value} {base : Heap} {f : Addr} {fd : FuncData}
/-- the stream made of a script -/
def fs_stream : FS := fun ds M Q => ∃ ns : List Int, ds = [.scr (ns.map D.int)] ∧ ns.length ≤ 63 ∧ ∀ a b M', Strm M' a b (2 ^ 40) → M a = none → M b = none → Off a b M M' → Q (.ref a) M'
theorem ok_stream (T : Txt mg) (F : FnP K "_law_stream" s_law_stream f fd) (hm : mg "_law_stream" = some (.ref f)) : Callee P w K mg base 1 "_law_stream" fs_stream := by
  have sc := sc_law_stream
  refine mkCallee F hm sc (fun ds M Q ⟨_, e, _⟩ => by rw [e]; rfl) (F.bindsN fun _ _ _ _ _ _ us hl => match us, hl with | [_], _ => rfl) fun cdv A outer s H E hr => ?_
  refine ⟨_, (qs_cons (qs_setLc 1 (own := [("_law_cell", 2)]) rfl sc.nd (qi_list (qv 0)) (show BlkOk ["_law_script", "_law_cells_here", "_law_cell"] (defScope s_law_stream) _ _ from blkOk_by (by decide +kernel)) (tg_name 2) (fun _ _ _ _ _ => (pg_name (i := 2) sc.nd rfl (Or.inl rfl))) (fun _ _ _ _ _ => qts_nil) (fun _ _ _ _ _ => (q_callB call_abs oa_abs T.b_abs (by decide +kernel) (qa_cons (qv 2) qa_nil)))) (qs_one (qs_ret (q_lstM (qa_cons (q_lcM (own := [("_law_cell", 2)]) rfl sc.nd (qi_list (qv 1)) (show BlkOk ["_law_script", "_law_cells_here", "_law_cell"] (defScope s_law_stream) _ _ from blkOk_by (by decide +kernel)) (tg_name 2) (fun _ _ _ _ _ => (pg_name (i := 2) sc.nd rfl (Or.inl rfl))) (fun _ _ _ _ _ => (qts_one (qt_cmp op_ge o2_cmp (qv 2) (q_op op_pow o2_pow q_int q_int)))) (fun _ _ _ _ _ => (qv 2))) (qa_cons (q_if (qt_cmp (op_neA hr.units) o2_neA (qv 1) (q_lst qa_nil)) (qv 1) (q_lst (qa_cons q_int qa_nil))) (qa_cons q_int qa_nil))))))), ?_⟩
  rintro ds M Q ⟨ns, rfl, hl, q⟩
  simp [startD]
  refine dLc_pure (N := fun _ => True) (xs := ns.map D.int) (fun d => match d with | .int i => some (.int (if i < 0 then -i else i)) | _ => none) (fun R h => by simpa using h) (fun _ _ _ _ => trivial) (by rw [List.length_map]; exact szl hl) ?_ ?_
  · intro x hx Dl hD M' hM Q1 Q2 k1 k2
    obtain ⟨i, hi, rfl⟩ := List.mem_map.mp hx
    simp [wipeD]
    exact k1 _ rfl
  rw [map_int_fm (g := fun i => if i < 0 then -i else i) ns (fun i => rfl)]
  generalize hns : ns.map (fun i : Int => if i < 0 then -i else i) = ms
  have hlm : ms.length ≤ 63 := by rw [← hns, List.length_map]; exact hl
  have hpm : ∀ x ∈ ms, 0 ≤ x := by
    intro x hx
    rw [← hns] at hx
    obtain ⟨i, -, rfl⟩ := List.mem_map.mp hx
    show 0 ≤ if i < 0 then -i else i
    split <;> omega
  refine dLcM_pure (N := fun _ => True) (xs := ms.map D.int) (fun d => match d with | .int i => if decide (10 ^ 18 ≤ i) = true then some (.int i) else none | _ => none) (fun R h => by simpa using h) (fun _ _ _ _ => trivial) (by rw [List.length_map]; exact szl hlm) ?_ ?_
  · intro x hx Dl hD M' hM Q1 Q2 k1 k2
    obtain ⟨i, hi, rfl⟩ := List.mem_map.mp hx
    by_cases z : (10 : Int) ^ 18 ≤ i
    · simp [wipeD, CPow, z]
      have z' : (1000000000000000000 : Int) ≤ i := by omega
      simp [z']
      exact k1 _ (by simp [z'])
    · simp [wipeD, CPow, z]
      have z' : ¬ (1000000000000000000 : Int) ≤ i := by omega
      simp [z']
      exact k2 (by simp [z'])
  intro b hb
  rw [map_int_flt (p := fun i => decide ((10 : Int) ^ 18 ≤ i)) ms (fun i => rfl)]
  refine ne_nil_lst ?_
  have fin : ∀ (cells : List Int), cells ≠ [] → cells.length ≤ 63 → ∀ (a : Addr), put M b (.lst ((ms.filter fun i => decide ((10 : Int) ^ 18 ≤ i)).map D.int)) a = none → Q (.ref a) (put (put M b (.lst ((ms.filter fun i => decide ((10 : Int) ^ 18 ≤ i)).map D.int))) a (.lst [.ref b, .lst (cells.map D.int), .int 0])) := by
    intro cells h1 h2 a ha
    have hab : a ≠ b := fun z => by rw [z, put_same] at ha; cases ha
    refine q a b _ ⟨_, cells, 0, hab, put_same, by rw [put_ne hab.symm]; exact put_same, fun x hx => hpm x ((List.mem_filter.mp hx).1), h1, h2, by omega, by decide⟩ (by rw [put_ne hab] at ha; exact ha) hb fun p p1 p2 => by rw [put_ne p1, put_ne p2]
  by_cases hz : ms = []
  · subst hz
    simp
    exact fun a ha => fin [43] (by simp) (by simp) a ha
  · have : ms.isEmpty = false := by simpa using hz
    simp [this]
    exact fun a ha => fin ms hz hlm a ha
def fs_pick : FS := fun ds M Q => ∃ a b n xs, ds = [.ref a, .lst xs] ∧ Strm M a b (n + 1) ∧ xs ≠ [] ∧ xs.length < 2 ^ 20 ∧ ∀ x ∈ xs, After a b n M (Q x)
theorem ok_pick (T : Txt mg) (F : FnP K "_law_pick" s_law_pick f fd) (hm : mg "_law_pick" = some (.ref f)) (C_law_draw : Callee P w K mg base 1 "_law_draw" fs_draw) : Callee P w K mg base 2 "_law_pick" fs_pick := by
  have sc := sc_law_pick
  refine mkCallee F hm sc (fun ds M Q ⟨_, _, _, _, e, _⟩ => by rw [e]; rfl) (F.bindsN fun _ _ _ _ _ _ us hl => match us, hl with | [_, _], _ => rfl) fun cdv A outer s H E hr => ?_
  refine ⟨_, (qs_one (qs_ret (q_ix ix_any o2_ix (qv 1) (q_fn C_law_draw (hr.mono (by omega)) (qa_cons (qv 0) (qa_cons (q_callB call_len oa_len T.b_len (by decide +kernel) (qa_cons (qv 1) qa_nil)) qa_nil)))))), ?_⟩
  rintro ds M Q ⟨a, b, n, xs, rfl, hS, h0, h1, q⟩
  have hp := List.length_pos_iff.mpr h0
  simp [startD]
  refine ⟨a, b, n, _, rfl, hS, by omega, by omega, fun k k0 k1 M' s o => ?_⟩
  obtain ⟨x, e, -, hx⟩ := atI_in k0 k1
  simp [e]
  exact q x hx M' s o
def fs_value : FS := fun ds M Q => ∃ a b n, ds = [.ref a] ∧ Strm M a b (n + 4) ∧ ∀ v, 0 ≤ v → v < 1000 → After a b n M (Q (.int v))
theorem ok_value (T : Txt mg) (F : FnP K "_law_value" s_law_value f fd) (hm : mg "_law_value" = some (.ref f)) (C_law_draw : Callee P w K mg base 1 "_law_draw" fs_draw) : Callee P w K mg base 2 "_law_value" fs_value := by
  have sc := sc_law_value
  refine mkCallee F hm sc (fun ds M Q ⟨_, _, _, e, _⟩ => by rw [e]; rfl) (F.bindsN fun _ _ _ _ _ _ us hl => match us, hl with | [_], _ => rfl) fun cdv A outer s H E hr => ?_
  refine ⟨_, (qs_one (qs_ret (q_ix ix_any o2_ix (q_lst (qa_cons (q_fn C_law_draw (hr.mono (by omega)) (qa_cons (qv 0) (qa_cons q_int qa_nil))) (qa_cons (q_fn C_law_draw (hr.mono (by omega)) (qa_cons (qv 0) (qa_cons q_int qa_nil))) (qa_cons (q_fn C_law_draw (hr.mono (by omega)) (qa_cons (qv 0) (qa_cons q_int qa_nil))) (qa_cons q_int (qa_cons q_int qa_nil)))))) (q_fn C_law_draw (hr.mono (by omega)) (qa_cons (qv 0) (qa_cons q_int qa_nil)))))), ?_⟩
  rintro ds M Q ⟨a, b, n, rfl, hS, q⟩
  simp [startD]
  refine ⟨a, b, n + 3, _, rfl, hS, by omega, by omega, fun k1 k1a k1b M1 s1 o1 => ?_⟩
  refine ⟨a, b, n + 2, _, rfl, s1, by omega, by omega, fun k2 k2a k2b M2 s2 o2 => ?_⟩
  refine ⟨a, b, n + 1, _, rfl, s2, by omega, by omega, fun k3 k3a k3b M3 s3 o3 => ?_⟩
  refine ⟨a, b, n, _, rfl, s3, by omega, by omega, fun k4 k4a k4b M4 s4 o4 => ?_⟩
  obtain ⟨x, e, -, hx⟩ := atI_in (xs := [D.int k1, D.int k2, D.int k3, D.int 0, D.int 999]) k4a (by simpa using k4b)
  simp [e]
  have o := ((o1.trans o2).trans o3).trans o4
  simp at hx
  rcases hx with rfl | rfl | rfl | rfl | rfl
  · exact q _ k1a (by omega) M4 s4 o
  · exact q _ k2a (by omega) M4 s4 o
  · exact q _ k3a (by omega) M4 s4 o
  · exact q 0 (by omega) (by omega) M4 s4 o
  · exact q 999 (by omega) (by omega) M4 s4 o
def okC (c : Option Int) : Prop := ∀ v, c = some v → 0 ≤ v ∧ v < 1000
def fs_cells : FS := fun ds M Q => ∃ a b n, ds = [.ref a] ∧ Strm M a b (n + 30) ∧ ∀ cs : List (Option Int), cs.length = 6 → (∀ c ∈ cs, okC c) → After a b n M (Q (.tup (cs.map cellD)))
theorem ok_cells (T : Txt mg) (F : FnP K "_law_cells" s_law_cells f fd) (hm : mg "_law_cells" = some (.ref f)) (C_law_draw : Callee P w K mg base 1 "_law_draw" fs_draw) (C_law_value : Callee P w K mg base 2 "_law_value" fs_value) : Callee P w K mg base 3 "_law_cells" fs_cells := by
  have sc := sc_law_cells
  refine mkCalleeF F hm sc (fun ds M Q ⟨_, _, _, e, _⟩ => by rw [e]; rfl) (F.bindsN fun _ _ _ _ _ _ us hl => match us, hl with | [_], _ => rfl) fun cdv A outer s H E hr => ?_
  refine ⟨_, (qs_cons (qs_set (i := 1) sc.nd (q_lstM qa_nil)) (qs_cons (qs_for PassesOwn.never rfl (qi_range1 T.b_range (qa_cons q_int qa_nil)) (qg_name 2 sc.nd) (qs_cons (qs_set (i := 3) sc.nd (q_fn C_law_value (hr.mono (by omega)) (qa_cons (qv 0) qa_nil))) (qs_one (qs_expr (q_append (qv 1) (q_if (qt_cmp (op_eqA hr.units) o2_eqA (q_fn C_law_draw (hr.mono (by omega)) (qa_cons (qv 0) (qa_cons q_int qa_nil))) q_int) q_non (qv 3))))))) (qs_one (qs_ret (q_callTy call_tuple_of oa_tup T.b_tuple (by decide +kernel) (qa_cons (qv 1) qa_nil)))))), ?_⟩
  rintro ds M Q ⟨a, b, n, rfl, hS, q⟩
  simp [startD]
  intro p hp
  have hne := hS.ne hp
  refine dLoop_inv (J := fun rest ρ M' => ∃ x y acc, ρ = [some (.ref a), some (.ref p), x, y] ∧ M' p = some (.lst (acc.map cellD)) ∧ (∀ c ∈ acc, okC c) ∧ acc.length + rest.length = 6 ∧ Strm M' a b (n + 5 * rest.length) ∧ ∀ q, q ≠ a → q ≠ b → q ≠ p → M' q = M q) ?_ ?_ _ _ _ ⟨none, none, [], rfl, put_same, by simp, by simp [rngD], hS.put hne, fun q _ _ h => put_ne h⟩
  · rintro z rest ρ M1 ⟨x, y, acc, rfl, h1, h2, h3, h4, h5⟩ nx hnx
    rw [List.length_cons] at h3 h4
    simp
    refine ⟨a, b, n + 5 * rest.length + 1, rfl, h4.less (by omega), fun v v0 v1 M2 s2 o2 => ?_⟩
    simp
    have e2 : M2 p = some (.lst (acc.map cellD)) := by rw [o2 p hne.1 hne.2]; exact h1
    refine ⟨isL_cell e2, a, b, n + 5 * rest.length, 3, rfl, s2, by omega, by omega, fun k k0 k1 M3 s3 o3 => ?_⟩
    have e3 : M3 p = some (.lst (acc.map cellD)) := by rw [o3 p hne.1 hne.2]; exact e2
    have fin : ∀ c : Option Int, okC c → nx [some (.ref a), some (.ref p), some z, some (.int v)] (put M3 p (.lst (acc.map cellD ++ [cellD c]))) := fun c hc => hnx _ _ ⟨_, _, acc ++ [c], rfl, by rw [put_same]; simp, fun d hd => by
      rcases List.mem_append.mp hd with hd | hd
      · exact h2 d hd
      · rw [List.mem_singleton.mp hd]; exact hc, by simp; omega, s3.put hne, fun q q1 q2 q3 => by rw [put_ne q3, o3 q q1 q2, o2 q q1 q2]; exact h5 q q1 q2 q3⟩
    have hlen : acc.length < sizeLine := szs (k := 6) (by omega)
    by_cases z : k = 0
    · simp [z, eqS, e3, hlen]
      exact fin none fun v hv => by cases hv
    · simp [z, eqS, e3, hlen]
      exact fin (some v) fun u hu => by cases hu; exact ⟨v0, v1⟩
  · rintro ρ M1 ⟨x, y, acc, rfl, h1, h2, h3, h4, h5⟩
    simp [h1]
    refine Fgt.drp p (q acc (by simpa using h3) h2 _ (h4.off (drp_ne hne.1.symm) (drp_ne hne.2.symm)) fun q q1 q2 => ?_)
    by_cases z : q = p
    · rw [z, drp_same, hp]
    · rw [drp_ne z]; exact h5 q q1 q2 z
end
end W

set_option maxHeartbeats 4000000
namespace W
open PySem PySem.Spec PyProof.Rows L2 Evl DL
section
variable {P : Program} {w : World} {K : PySem.W.Frag} {mg : Str → Option Value} {base : Heap} {f : Addr} {fd : FuncData}
def ruleL : List Rule := [.over, .under, .least, .greatest, .common, .minus, .apart]
def fs_plan : FS := fun ds M Q => ∃ a b n, ∃ m l : Nat, ds = [.ref a, .int m, .int l] ∧ Strm M a b (n + 3 * m + 1) ∧ m ≤ 15 ∧ 1 ≤ l ∧ l ≤ 6 ∧ ∀ p, okP 6 p → depthP p ≤ 15 → After a b n M (Q (planD p))
theorem ok_plan (T : Txt mg) (F : FnP K "_law_plan" s_law_plan f fd) (hm : mg "_law_plan" = some (.ref f)) (C_law_draw : Callee P w K mg base 1 "_law_draw" fs_draw) (C_law_pick : Callee P w K mg base 2 "_law_pick" fs_pick) : Callee P w K mg base 3 "_law_plan" fs_plan := by
  have sc := sc_law_plan
  refine mkCallee F hm sc (fun ds M Q ⟨_, _, _, _, _, e, _⟩ => by rw [e]; rfl) (F.bindsN fun _ _ _ _ _ _ us hl => match us, hl with | [_, _, _], _ => rfl) fun cdv A outer s H E hr => ?_
  refine ⟨_, (qs_cons (qs_setLc 3 (own := [("_law_k", 7)]) rfl sc.nd (qi_range1 T.b_range (qa_cons (q_op op_addA o2_add (qv 1) q_int) qa_nil)) (show BlkOk ["_law_stream_here", "_law_nodes_here", "_law_leaves", "_law_parts", "_law_names", "_law_spot", "_law_node", "_law_k"] (defScope s_law_plan) _ _ from blkOk_by (by decide +kernel)) (tg_name 7) (fun _ _ _ _ _ => (pg_name (i := 7) sc.nd rfl (Or.inl rfl))) (fun _ _ _ _ _ => qts_nil) (fun _ _ _ _ _ => (q_fn C_law_draw (hr.mono (by omega)) (qa_cons (qv 0) (qa_cons (qv 2) qa_nil))))) (qs_cons (qs_set (i := 4) sc.nd (q_lst (qa_cons q_str (qa_cons q_str (qa_cons q_str (qa_cons q_str (qa_cons q_str (qa_cons q_str (qa_cons q_str qa_nil))))))))) (qs_cons (qs_while PassesOwn.never (qt_cmp op_gt o2_cmp (q_callB call_len oa_len T.b_len (by decide +kernel) (qa_cons (qv 3) qa_nil)) q_int) (qs_cons (qs_set (i := 5) sc.nd (q_fn C_law_draw (hr.mono (by omega)) (qa_cons (qv 0) (qa_cons (q_op op_sub o2_sub (q_callB call_len oa_len T.b_len (by decide +kernel) (qa_cons (qv 3) qa_nil)) q_int) qa_nil)))) (qs_cons (qs_set (i := 6) sc.nd (q_tup (qa_cons (q_fn C_law_pick (hr.mono (by omega)) (qa_cons (qv 0) (qa_cons (qv 4) qa_nil))) (qa_cons (q_ix ix_any o2_ix (qv 3) (qv 5)) (qa_cons (q_ix ix_any o2_ix (qv 3) (q_op op_addA o2_add (qv 5) q_int)) qa_nil))))) (qs_one (qs_set (i := 3) sc.nd (q_op op_addA o2_add (q_op op_addA o2_add (q_slice sl_any os_sl (qv 3) qo_none (qo_some (qv 5))) (q_lst (qa_cons (qv 6) qa_nil))) (q_slice sl_any os_sl (qv 3) (qo_some (q_op op_addA o2_add (qv 5) q_int)) qo_none))))))) (qs_one (qs_ret (q_ix ix_any o2_ix (qv 3) q_int)))))), ?_⟩
  rintro ds M Q ⟨a, b, n, m, l, rfl, hS, hm, l1, l2, q⟩
  simp [startD]
  refine dLc_draws (a := a) (b := b) (d := 1) (n := n + 2 * m) (xs := rngD 0 (m + 1)) (fun d => ∃ p, d = planD p ∧ okP 6 p ∧ depthP p ≤ 0) (fun R h => ?_) ?_ ?_ ?_ ?_
  · simp
    refine ⟨by omega, by omega, ?_⟩
    exact h
  · simp only [rngD, List.length_map, List.length_range]; exact szl (k := 16) (by omega)
  · refine hS.less ?_
    simp only [rngD, List.length_map, List.length_range]; omega
  · intro x hx M' k s Q1 Q2 k1
    simp [wipeD]
    refine ⟨a, b, k, l, rfl, s.less (by omega), by omega, by omega, fun v v0 v1 M2 s2 o2 => k1 _ ⟨.leaf v.toNat, ?_, ?_, Nat.le_refl _⟩ M2 s2 o2⟩
    · simp only [planD]; rw [Int.toNat_of_nonneg v0]
    · simp only [okP]; omega
  intro ys yl yp M1 s1 o1
  simp only [rngD, List.length_map, List.length_range] at yl
  refine ⟨fun k ρ M' => ∃ x y, ∃ ps : List Pl, ρ = [some (.ref a), some (.int m), some (.int l), some (.lst (ps.map planD)), some (.lst (ruleL.map fun r => .str (ruleS r))), x, y, none] ∧ ps.length = k ∧ 1 ≤ k ∧ k ≤ m + 1 ∧ (∀ p ∈ ps, okP 6 p ∧ depthP p + k ≤ m + 1) ∧ Strm M' a b (n + 2 * (k - 1)) ∧ Off a b M M', ?_, ?_⟩
  · obtain ⟨ps, rfl, hps⟩ : ∃ ps : List Pl, ys = ps.map planD ∧ ∀ p ∈ ps, okP 6 p ∧ depthP p ≤ 0 := by
      clear yl s1 o1
      induction ys with
      | nil => exact ⟨[], rfl, by simp⟩
      | cons y ys ih =>
        obtain ⟨p, rfl, h1, h2⟩ := yp y (by simp)
        obtain ⟨ps, rfl, h3⟩ := ih fun z hz => yp z (by simp [hz])
        exact ⟨p :: ps, rfl, fun z hz => by
          rcases List.mem_cons.mp hz with rfl | hz
          · exact ⟨h1, h2⟩
          · exact h3 z hz⟩
    rw [List.length_map] at yl
    exact ⟨m + 1, none, none, ps, rfl, yl, by omega, by omega, fun p hp => ⟨(hps p hp).1, by have := (hps p hp).2; omega⟩, s1.less (by omega), o1⟩
  rintro k ρ M' ⟨x, y, ps, rfl, hk, k1, k2, hp, hS', ho⟩
  simp
  by_cases z : (1 : Int) < ps.length
  · rw [if_pos z]
    refine ⟨a, b, n + 2 * (k - 1) - 1, _, rfl, hS'.less (by omega), by omega, by omega, fun v v0 v1 M2 s2 o2 => ?_⟩
    obtain ⟨j, rfl⟩ := Int.eq_ofNat_of_zero_le v0
    have j1 : j + 1 < ps.length := by omega
    simp
    refine ⟨a, b, n + 2 * (k - 1) - 2, _, rfl, s2.less (by omega), by simp [ruleL], by decide, fun r hr => ?_⟩
    obtain ⟨r, hr, rfl⟩ := List.mem_map.mp hr
    intro M3 s3 o3
    have e1 : atI (ps.map planD) (j : Int) = some (planD (ps[j]'(by omega))) := atI_nat (by simp [show j < ps.length by omega])
    have e2 : atI (ps.map planD) ((j : Int) + 1) = some (planD (ps[j + 1]'j1)) := by
      have := atI_nat (xs := ps.map planD) (j := j + 1) (v := planD (ps[j + 1]'j1)) (by simp [j1])
      simpa using this
    simp [e1, e2]
    have q1 := hp _ (List.getElem_mem (show j < ps.length by omega))
    have q2 := hp _ (List.getElem_mem j1)
    refine ⟨szl (k := 20) (by omega), szl (k := 40) (by omega), k - 1, by omega, some (.int j), some (planD (.node r (ps[j]'(by omega)) (ps[j + 1]'j1))), ps.take j ++ .node r (ps[j]'(by omega)) (ps[j + 1]'j1) :: ps.drop (j + 2), ⟨?_, rfl, rfl⟩, ?_, by omega, by omega, ?_, s3.less (by omega), (ho.trans o2).trans o3⟩
    · simp [planD, List.map_take, List.map_drop]
    · simp; omega
    · intro p hp'
      rcases List.mem_append.mp hp' with h | h
      · have := hp p (List.mem_of_mem_take h)
        exact ⟨this.1, by omega⟩
      · rcases List.mem_cons.mp h with rfl | h
        · refine ⟨⟨q1.1, q2.1⟩, ?_⟩
          simp only [depthP]
          omega
        · have := hp p (List.mem_of_mem_drop h)
          exact ⟨this.1, by omega⟩
  · rw [if_neg z]
    obtain ⟨p, rfl⟩ : ∃ p, ps = [p] := by
      match ps, hk with
      | [p], _ => exact ⟨p, rfl⟩
      | [], h => simp at h; omega
      | _ :: _ :: _, h => exact absurd z (by simp; omega)
    have := hp p (by simp)
    simp
    exact q p this.1 (by omega) M' (hS'.less (by omega)) ho
def fs_fill : FS := fun ds M Q => ∃ xs, ∃ i : Nat, ∃ v, ds = [.tup xs, .int i, v] ∧ i < xs.length ∧ xs.length ≤ 6 ∧ Q (.tup (xs.set i v)) M
theorem ok_fill (T : Txt mg) (F : FnP K "_law_fill" s_law_fill f fd) (hm : mg "_law_fill" = some (.ref f)) : Callee P w K mg base 1 "_law_fill" fs_fill := by
  have sc := sc_law_fill
  refine mkCallee F hm sc (fun ds M Q ⟨_, _, _, e, _⟩ => by rw [e]; rfl) (F.bindsN fun _ _ _ _ _ _ us hl => match us, hl with | [_, _, _], _ => rfl) fun cdv A outer s H E hr => ?_
  refine ⟨_, (qs_one (qs_ret (q_op op_addA o2_add (q_op op_addA o2_add (q_slice sl_any os_sl (qv 0) qo_none (qo_some (qv 1))) (q_tup (qa_cons (qv 2) qa_nil))) (q_slice sl_any os_sl (qv 0) (qo_some (q_op op_addA o2_add (qv 1) q_int)) qo_none)))), ?_⟩
  rintro ds M Q ⟨xs, i, v, rfl, h1, h2, q⟩
  simp [startD]
  refine ⟨szl (k := 40) (by omega), szl (k := 40) (by omega), ?_⟩
  rw [cut_set h1]; exact q
theorem ok_with_item (T : Txt mg) (F : FnP K "with_item" s_with_item f fd) (hm : mg "with_item" = some (.ref f)) : Callee P w K mg base 1 "with_item" fs_fill := by
  have sc := sc_with_item
  refine mkCallee F hm sc (fun ds M Q ⟨_, _, _, e, _⟩ => by rw [e]; rfl) (F.bindsN fun _ _ _ _ _ _ us hl => match us, hl with | [_, _, _], _ => rfl) fun cdv A outer s H E hr => ?_
  refine ⟨_, (qs_one (qs_ret (q_tup (qa_star (q_slice sl_any os_sl (qv 0) qo_none (qo_some (qv 1))) (qa_cons (qv 2) (qa_star (q_slice sl_any os_sl (qv 0) (qo_some (q_op op_addA o2_add (qv 1) q_int)) qo_none) qa_nil)))))), ?_⟩
  rintro ds M Q ⟨xs, i, v, rfl, h1, h2, q⟩
  simp [startD]
  refine ⟨szl (k := 40) (by omega), ?_⟩
  rw [cut_set h1]; exact q
end
end W

set_option maxHeartbeats 4000000
namespace W
open PySem PySem.Spec PyProof.Rows L2 Evl DL
section
variable {P : Program} {w : World} {K : PySem.W.Frag} {mg : Str → Option Value} {base : Heap} {f : Addr} {fd : FuncData}
/-- what a plan tells with one cell put in -/
def out (p : Pl) (cs : List (Option Int)) (n : Nat) (c : Option Int) : Option Int := applyC (cs.set n c) p
def okA (p : Pl) (cs : List (Option Int)) (n : Nat) : Prop := okP 6 p ∧ depthP p ≤ 15 ∧ cs.length = 6 ∧ n < 6
theorem set_cellD (cs : List (Option Int)) (n : Nat) (c : Option Int) : (cs.map cellD).set n (cellD c) = (cs.set n c).map cellD := by rw [List.map_set]
def fs_outcome : FS := fun ds M Q => ∃ p cs, ∃ n : Nat, ∃ c, ds = [planD p, .tup (cs.map cellD), .int n, cellD c] ∧ okA p cs n ∧ Q (cellD (out p cs n c)) M
theorem ok_outcome (T : Txt mg) (F : FnP K "outcome" s_outcome f fd) (hm : mg "outcome" = some (.ref f)) (C_apply_cells : Callee P w K mg base 18 "apply_cells" (fs_ac 15)) (C_with_item : Callee P w K mg base 1 "with_item" fs_fill) : Callee P w K mg base 19 "outcome" fs_outcome := by
  have sc := sc_outcome
  refine mkCallee F hm sc (fun ds M Q ⟨_, _, _, _, e, _⟩ => by rw [e]; rfl) (F.bindsN fun _ _ _ _ _ _ us hl => match us, hl with | [_, _, _, _], _ => rfl) fun cdv A outer s H E hr => ?_
  refine ⟨_, (qs_one (qs_ret (q_fn C_apply_cells (hr.mono (by omega)) (qa_cons (qv 0) (qa_cons (q_fn C_with_item (hr.mono (by omega)) (qa_cons (qv 1) (qa_cons (qv 2) (qa_cons (qv 3) qa_nil)))) qa_nil))))), ?_⟩
  rintro ds M Q ⟨p, cs, n, c, rfl, ⟨h1, h2, h3, h4⟩, q⟩
  simp [startD]
  refine ⟨_, n, _, rfl, by rw [List.length_map]; omega, by rw [List.length_map]; omega, ?_⟩
  rw [set_cellD]
  exact ⟨p, _, rfl, h2, by rw [List.length_set, h3]; exact h1, q⟩
/-- least_value of a function that tells the test pr -/
def TTlv : DTT := fun act M Q => ∃ pr : Int → Bool, (∀ i j, 0 ≤ i → i ≤ j → j < 1000 → pr i = true → pr j = true) ∧ (∀ i, 0 ≤ i → i < 1000 → ∀ Q1 : DK, Q1 (.bl (pr i)) M → act (.int i) M Q1) ∧
  ∀ r, 0 ≤ r → r ≤ 1000 → (∀ i, 0 ≤ i → i < r → pr i = false) → (∀ i, r ≤ i → i < 1000 → pr i = true) → Q (.int r) M
theorem gives_lv (X : Cx) (T : Txt X.mg) (g : Addr) (cdv : Value) (k : Nat) : GivesD X ["holds", "low", "high", "middle"] "least_value" (defScope s_least_value) g cdv k (defBody s_least_value) "holds" TTlv := by
  intro s H clo act hr hact
  have sc := sc_least_value
  refine ⟨_, (qs_cons (qs_par (i := 1) (j := 2) rfl sc.nd (qa_cons q_int (qa_cons (q_op op_addA o2_add (q_cint T.c_MAX_VALUE) q_int) qa_nil))) (qs_cons (qs_while PassesOwn.never (qt_cmp op_lt o2_cmp (qv 1) (qv 2)) (qs_cons (qs_set (i := 3) sc.nd (q_op op_fdiv o2_div (q_op op_addA o2_add (qv 1) (qv 2)) q_int)) (qs_one (qs_if (qt_val (hact _ _ _ _ (qv 3) rfl)) (qs_one (qs_set (i := 2) sc.nd (qv 3))) (qs_one (qs_set (i := 1) sc.nd (q_op op_addA o2_add (qv 3) q_int))))))) (qs_one (qs_ret (qv 1))))), ?_⟩
  rintro M Q ⟨pr, mono, run, q⟩
  simp [startD]
  refine ⟨fun m ρ M' => M' = M ∧ ∃ low high : Int, ∃ y, ρ = [some clo, some (.int low), some (.int high), y] ∧ 0 ≤ low ∧ low ≤ high ∧ high ≤ 1000 ∧ (∀ i, 0 ≤ i → i < low → pr i = false) ∧ (∀ i, high ≤ i → i < 1000 → pr i = true) ∧ m = (high - low).toNat, ⟨_, rfl, 0, 1000, none, rfl, by omega, by omega, by omega, fun i _ _ => by omega, fun i _ _ => by omega, rfl⟩, ?_⟩
  rintro m ρ M' ⟨rfl, low, high, y, rfl, h0, h1, h2, h3, h4, rfl⟩
  simp [CDiv]
  by_cases z : low < high
  · rw [if_pos z]
    have m0 : 0 ≤ (low + high) / 2 := by omega
    have m1 : (low + high) / 2 < 1000 := by omega
    refine run _ m0 m1 _ ?_
    simp
    by_cases b : pr ((low + high) / 2) = true
    · rw [if_pos b]
      exact ⟨((low + high) / 2 - low).toNat, by omega, _, _, ⟨rfl, rfl⟩, h0, by omega, by omega, h3, fun i i0 i1 => mono _ i m0 i0 i1 b, rfl⟩
    · rw [if_neg b]
      refine ⟨(high - ((low + high) / 2 + 1)).toNat, by omega, _, _, ⟨rfl, rfl⟩, by omega, by omega, by omega, fun i i0 i1 => ?_, h4, rfl⟩
      cases e : pr i with
      | false => rfl
      | true => exact absurd (mono i _ i0 (by omega) m1 e) b
  · rw [if_neg z]
    have : low = high := by omega
    subst this
    exact q low h0 h2 h3 h4

/-! ### the plain law: what a cell does -/
def RelC (x y : Option Int) : Prop := (x = none ∧ y = none) ∨ ∃ u v, x = some u ∧ y = some v ∧ u ≤ v
theorem relC_refl : ∀ x, RelC x x
  | none => .inl ⟨rfl, rfl⟩
  | some u => .inr ⟨u, u, rfl, rfl, Int.le_refl u⟩
theorem relC_merge (r : Rule) {a b c d : Option Int} (h : RelC a b) (k : RelC c d) : RelC (mergeC r a c) (mergeC r b d) := by
  rcases h with ⟨rfl, rfl⟩ | ⟨u, v, rfl, rfl, l⟩ <;> rcases k with ⟨rfl, rfl⟩ | ⟨x, y, rfl, rfl, m⟩
  · exact relC_refl _
  · cases r <;> simp [mergeC, RelC, m]
  · cases r <;> simp [mergeC, RelC, l]
  · cases r <;> simp [mergeC, mergeV, RelC, l, m]
    · split <;> split <;> omega
    · split <;> split <;> omega
theorem rel_out (cs : List (Option Int)) (n : Nat) {i j : Int} (h : i ≤ j) : ∀ p, RelC (out p cs n (some i)) (out p cs n (some j))
  | .leaf k => by
    unfold out applyC
    rw [List.getElem?_set, List.getElem?_set]
    split
    · split
      · exact .inr ⟨i, j, rfl, rfl, h⟩
      · exact relC_refl _
    · exact relC_refl _
  | .node r a b => relC_merge r (rel_out cs n h a) (rel_out cs n h b)
def spanD : Option (Int × Int) → D
  | none => .non
  | some (a, b) => .tup [.int a, .int b]
structure IsSpan (p : Pl) (cs : List (Option Int)) (n : Nat) (c : Option Int) (o : Option (Int × Int)) : Prop where
  iff : ∀ i, 0 ≤ i → i < 1000 → (out p cs n (some i) = c ↔ ∃ a b, o = some (a, b) ∧ a ≤ i ∧ i ≤ b)
  rng : ∀ a b, o = some (a, b) → 0 ≤ a ∧ a ≤ b ∧ b < 1000
theorem span_none {p : Pl} {cs : List (Option Int)} {n : Nat} (h : out p cs n (some 0) = none) : IsSpan p cs n none (some (0, 999)) := by
  refine ⟨fun i h0 h1 => ⟨fun _ => ⟨0, 999, rfl, h0, by omega⟩, fun _ => ?_⟩, fun a b e => by cases e; omega⟩
  rcases rel_out cs n h0 p with ⟨_, e⟩ | ⟨_, _, e, _⟩
  · exact e
  · rw [h] at e; cases e
theorem span_no {p : Pl} {cs : List (Option Int)} {n : Nat} {c : Option Int} (h : (out p cs n (some 0)).isNone ≠ c.isNone) : IsSpan p cs n c none := by
  refine ⟨fun i h0 h1 => ⟨fun e => ?_, fun ⟨_, _, e, _⟩ => by cases e⟩, fun a b e => by cases e⟩
  rcases rel_out cs n h0 p with ⟨e1, e2⟩ | ⟨_, _, e1, e2, _⟩
  · rw [e2] at e; rw [← e, e1] at h; exact absurd rfl h
  · rw [e2] at e; rw [← e, e1] at h; exact absurd rfl h
theorem out_some {p : Pl} {cs : List (Option Int)} {n : Nat} {v : Int} (h : out p cs n (some 0) = some v) {i : Int} (h0 : 0 ≤ i) : ∃ u, out p cs n (some i) = some u := by
  rcases rel_out cs n h0 p with ⟨e1, _⟩ | ⟨_, u, _, e2, _⟩
  · rw [h] at e1; cases e1
  · exact ⟨u, e2⟩
theorem out_mono {p : Pl} {cs : List (Option Int)} {n : Nat} {i j u v : Int} (h : i ≤ j) (e1 : out p cs n (some i) = some u) (e2 : out p cs n (some j) = some v) : u ≤ v := by
  rcases rel_out cs n h p with ⟨e, _⟩ | ⟨_, _, e, e', l⟩
  · rw [e1] at e; cases e
  · rw [e1] at e; rw [e2] at e'; cases e; cases e'; exact l
def geB (c : Int) : Option Int → Bool
  | some u => decide (c ≤ u)
  | none => false
def gtB (c : Int) : Option Int → Bool
  | some u => decide (c < u)
  | none => false
/-- from the two borders -/
theorem span_some {p : Pl} {cs : List (Option Int)} {n : Nat} {c v low r : Int} (h : out p cs n (some 0) = some v) (l0 : 0 ≤ low) (l1 : low ≤ 1000) (r0 : 0 ≤ r) (r1 : r ≤ 1000)
    (a1 : ∀ i, 0 ≤ i → i < low → geB c (out p cs n (some i)) = false) (a2 : ∀ i, low ≤ i → i < 1000 → geB c (out p cs n (some i)) = true)
    (b1 : ∀ i, 0 ≤ i → i < r → gtB c (out p cs n (some i)) = false) (b2 : ∀ i, r ≤ i → i < 1000 → gtB c (out p cs n (some i)) = true) :
    IsSpan p cs n (some c) (if low ≤ r - 1 then some (low, r - 1) else none) := by
  have key : ∀ i, 0 ≤ i → i < 1000 → (out p cs n (some i) = some c ↔ low ≤ i ∧ i ≤ r - 1) := by
    intro i h0 h1
    obtain ⟨u, e⟩ := out_some h h0
    have q1 : low ≤ i ↔ c ≤ u := by
      refine ⟨fun l => ?_, fun l => ?_⟩
      · have := a2 i l h1; rw [e] at this; exact of_decide_eq_true this
      · rcases Int.lt_or_le i low with z | z
        · have := a1 i h0 z; rw [e] at this; exact absurd l (of_decide_eq_false this)
        · exact z
    have q2 : i ≤ r - 1 ↔ u ≤ c := by
      refine ⟨fun l => ?_, fun l => ?_⟩
      · have := b1 i h0 (by omega); rw [e] at this
        have := of_decide_eq_false this; omega
      · rcases Int.lt_or_le i r with z | z
        · omega
        · have := b2 i z h1; rw [e] at this
          have := of_decide_eq_true this; omega
    rw [q1, q2, e]
    constructor
    · intro z; cases z; omega
    · intro z; rw [show u = c by omega]
  by_cases z : low ≤ r - 1
  · rw [if_pos z]
    exact ⟨fun i h0 h1 => (key i h0 h1).trans ⟨fun q => ⟨_, _, rfl, q⟩, fun ⟨a, b, e, q⟩ => by cases e; exact q⟩, fun a b e => by cases e; omega⟩
  · rw [if_neg z]
    exact ⟨fun i h0 h1 => (key i h0 h1).trans ⟨fun q => by omega, fun ⟨a, b, e, q⟩ => by cases e⟩, fun a b e => by cases e⟩
def qSpan : Str := (envOfC "value_span" (defScope s_value_span) 0 0 .none).qual ++ "<lambda>"
/-- value_span, by the table of its code object at PT -/
def fs_span (PT : Addr) : FS := fun ds M Q => ∃ p cs, ∃ n : Nat, ∃ c, ds = [planD p, .tup (cs.map cellD), .int n, cellD c] ∧ okA p cs n ∧ M PT = some (.tab qSpan) ∧ ∀ o, IsSpan p cs n c o → Q (spanD o) M
theorem ok_span {c0 PT g : Addr} {fg : FuncData} (T : Txt mg) (F : FnP K "value_span" s_value_span f fd) (hc : fd.code = .ref c0) (TB : LamX.TabB base mg c0 PT) (hm : mg "value_span" = some (.ref f)) (C_outcome : Callee P w K mg base 19 "outcome" fs_outcome)
    (G : FnP K "least_value" s_least_value g fg) (hg : mg "least_value" = some (.ref g)) : Callee P w K mg base 22 "value_span" (fs_span PT) := by
  have sc := sc_value_span
  refine mkCalleeC F hc hm sc (fun ds M Q ⟨_, _, _, _, e, _⟩ => by rw [e]; rfl) (F.bindsN fun _ _ _ _ _ _ us hl => match us, hl with | [_, _, _, _], _ => rfl) fun A outer s H E hr => ?_
  have bG : Binds K fg ["holds"] [] := G.bindsN fun _ _ _ _ _ _ us hl => match us, hl with | [_], _ => rfl
  have L_least_value := fun {p : Str} {j : Nat} {params : Arguments} {body : Expr} {scope : Scope} {td : DE} {p0 lpos pos : Pos} => q_lamF (X := (cxOf CX0 P w K mg base ["plan", "cells", "number", "cell", "lowest", "low", "high", "own"] "value_span" (defScope s_value_span) f (.ref c0) A outer s H E).nox) (TT := TTlv) (x := "least_value") (a := "holds") (p := p) (st := s_least_value)
    (k := 19) (j := j) (params := params) (body := body) (scope := scope) (td := td) (p0 := p0) (lpos := lpos) (pos := pos) G hg sc_least_value rfl (Or.inl rfl) bG (fun cdv => gives_lv _ T g cdv 20) TB rfl hr sc.nd (q := qSpan) rfl
  refine ⟨_, (qs_cons (qs_set (i := 4) sc.nd (q_fn C_outcome (hr.mono (by omega)) (qa_cons (qv 0) (qa_cons (qv 1) (qa_cons (qv 2) (qa_cons q_int qa_nil)))))) (qs_cons (qs_if (qt_w (qw_or (qt_cmp op_isN o2_isN (qv 3) q_non) (qw_or1 (qt_cmp op_isN o2_isN (qv 4) q_non)))) (qs_one (qs_ret (q_if (qt_w (qw_and (qt_cmp op_isN o2_isN (qv 3) q_non) (qw_and1 (qt_cmp op_isN o2_isN (qv 4) q_non)))) (q_tup (qa_cons q_int (qa_cons (q_cint T.c_MAX_VALUE) qa_nil))) q_non))) qs_nil) (qs_cons (qs_set (i := 5) sc.nd (L_least_value (j := 7) (show LamP (defScope s_value_span) _ _ from lamP_by (by decide +kernel)) rfl rfl (fun _ _ _ _ _ _ => rfl) (fun _ _ _ _ _ _ hr => (q_cmp op_ge o2_cmp (q_fn C_outcome (hr.mono (by omega)) (qa_cons (qv 0) (qa_cons (qv 1) (qa_cons (qv 2) (qa_cons (qv 7) qa_nil))))) (qv 3))))) (qs_cons (qs_set (i := 6) sc.nd (q_op op_sub o2_sub (L_least_value (j := 7) (show LamP (defScope s_value_span) _ _ from lamP_by (by decide +kernel)) rfl rfl (fun _ _ _ _ _ _ => rfl) (fun _ _ _ _ _ _ hr => (q_cmp op_gt o2_cmp (q_fn C_outcome (hr.mono (by omega)) (qa_cons (qv 0) (qa_cons (qv 1) (qa_cons (qv 2) (qa_cons (qv 7) qa_nil))))) (qv 3)))) q_int)) (qs_one (qs_ret (q_if (qt_cmp op_le o2_cmp (qv 5) (qv 6)) (q_tup (qa_cons (qv 5) (qa_cons (qv 6) qa_nil))) q_non))))))), ?_⟩
  rintro ds M Q ⟨p, cs, n, c, rfl, ok, hM, q⟩
  simp [startD]
  refine ⟨p, cs, n, some 0, rfl, ok, ?_⟩
  cases c with
  | none =>
    cases e : out p cs n (some 0) with
    | none => simp [cellD]; exact Fgt.of (q _ (span_none e))
    | some v => simp [cellD]; exact Fgt.of (q _ (span_no (by rw [e]; simp)))
  | some v =>
    cases e : out p cs n (some 0) with
    | none => simp [cellD]; exact Fgt.of (q _ (span_no (by rw [e]; simp)))
    | some u =>
      simp [cellD]
      have act : ∀ i, 0 ≤ i → ∃ x, out p cs n (some i) = some x := fun i h0 => out_some e h0
      refine dLam_i hM ⟨fun i => geB v (out p cs n (some i)), ?_, ?_, fun low l0 l1 a1 a2 => ?_⟩
      · intro i j i0 ij _ h
        obtain ⟨x, ex⟩ := act i i0
        obtain ⟨y, ey⟩ := act j (by omega)
        have := out_mono ij ex ey
        dsimp only at h ⊢
        rw [ex] at h
        have h := of_decide_eq_true h
        rw [ey]
        exact decide_eq_true (by omega)
      · intro i i0 i1 Q1 q1
        obtain ⟨x, ex⟩ := act i i0
        simp
        refine ⟨p, cs, n, some i, rfl, ok, ?_⟩
        dsimp only at q1 ⊢
        rw [ex] at q1 ⊢
        exact q1
      refine dLam_i hM ⟨fun i => gtB v (out p cs n (some i)), ?_, ?_, fun r r0 r1 b1 b2 => ?_⟩
      · intro i j i0 ij _ h
        obtain ⟨x, ex⟩ := act i i0
        obtain ⟨y, ey⟩ := act j (by omega)
        have := out_mono ij ex ey
        dsimp only at h ⊢
        rw [ex] at h
        have h := of_decide_eq_true h
        rw [ey]
        exact decide_eq_true (by omega)
      · intro i i0 i1 Q1 q1
        obtain ⟨x, ex⟩ := act i i0
        simp
        refine ⟨p, cs, n, some i, rfl, ok, ?_⟩
        dsimp only at q1 ⊢
        rw [ex] at q1 ⊢
        exact q1
      have fin := q _ (span_some e l0 l1 r0 r1 a1 a2 b1 b2)
      simp
      by_cases z : low ≤ r - 1
      · rw [if_pos z] at fin ⊢
        exact Fgt.of fin
      · rw [if_neg z] at fin ⊢
        exact Fgt.of fin
def fs_possible (PT : Addr) : FS := fun ds M Q => ∃ p cs, ∃ n : Nat, ∃ c, ds = [planD p, .tup (cs.map cellD), .int n, cellD c] ∧ okA p cs n ∧ M PT = some (.tab qSpan) ∧ ∀ o, IsSpan p cs n c o → Q (.tup [.bl (decide (out p cs n none = c)), spanD o]) M
theorem eq_cellD (a b : Option Int) (M : Mem) (Q : DK) (q : Q (.bl (decide (a = b))) M) : dEqA (cellD a) (cellD b) M Q := by
  cases a <;> cases b <;> simpa [cellD, eqS] using q
theorem ne_cellD (a b : Option Int) (M : Mem) (Q : DK) (q : Q (.bl (!decide (a = b))) M) : dNeA (cellD a) (cellD b) M Q := by
  cases a <;> cases b <;> simpa [cellD, eqS] using q
theorem ok_possible {PT : Addr} (T : Txt mg) (F : FnP K "possible_cells" s_possible_cells f fd) (hm : mg "possible_cells" = some (.ref f)) (C_outcome : Callee P w K mg base 19 "outcome" fs_outcome) (C_value_span : Callee P w K mg base 22 "value_span" (fs_span PT)) : Callee P w K mg base 23 "possible_cells" (fs_possible PT) := by
  have sc := sc_possible_cells
  refine mkCallee F hm sc (fun ds M Q ⟨_, _, _, _, e, _⟩ => by rw [e]; rfl) (F.bindsN fun _ _ _ _ _ _ us hl => match us, hl with | [_, _, _, _], _ => rfl) fun cdv A outer s H E hr => ?_
  refine ⟨_, (qs_one (qs_ret (q_tup (qa_cons (q_cmp (op_eqA hr.units) o2_eqA (q_fn C_outcome (hr.mono (by omega)) (qa_cons (qv 0) (qa_cons (qv 1) (qa_cons (qv 2) (qa_cons q_non qa_nil))))) (qv 3)) (qa_cons (q_fn C_value_span (hr.mono (by omega)) (qa_cons (qv 0) (qa_cons (qv 1) (qa_cons (qv 2) (qa_cons (qv 3) qa_nil))))) qa_nil))))), ?_⟩
  rintro ds M Q ⟨p, cs, n, c, rfl, ok, hM, q⟩
  simp [startD]
  refine ⟨p, cs, n, none, rfl, ok, eq_cellD _ _ _ _ ?_⟩
  refine ⟨p, cs, n, c, rfl, ok, hM, fun o ho => ?_⟩
  exact q o ho
end
end W

set_option maxHeartbeats 4000000
namespace W
open PySem PySem.Spec PyProof.Rows L2 Evl DL
section
variable {P : Program} {w : World} {K : PySem.W.Frag} {mg : Str → Option Value} {base : Heap} {f : Addr} {fd : FuncData}
def fs_nodes : FS := fun ds M Q => ∃ a b n, ∃ m : Nat, ds = [.ref a, .int m] ∧ m ≤ 15 ∧ Strm M a b (n + 50) ∧ ∀ p, okP 6 p → depthP p ≤ 15 → After a b n M (Q (planD p))
theorem ok_nodes (T : Txt mg) (F : FnP K "_law_nodes" s_law_nodes f fd) (hm : mg "_law_nodes" = some (.ref f)) (C_law_draw : Callee P w K mg base 1 "_law_draw" fs_draw) (C_law_plan : Callee P w K mg base 3 "_law_plan" fs_plan) : Callee P w K mg base 4 "_law_nodes" fs_nodes := by
  have sc := sc_law_nodes
  refine mkCallee F hm sc (fun ds M Q ⟨_, _, _, _, e, _⟩ => by rw [e]; rfl) (F.bindsN fun _ _ _ _ _ _ us hl => match us, hl with | [_, _], _ => rfl) fun cdv A outer s H E hr => ?_
  refine ⟨_, (qs_cons (qs_set (i := 2) sc.nd (q_ix ix_any o2_ix (q_lst (qa_cons (q_fn C_law_draw (hr.mono (by omega)) (qa_cons (qv 0) (qa_cons q_int qa_nil))) (qa_cons (q_fn C_law_draw (hr.mono (by omega)) (qa_cons (qv 0) (qa_cons (q_op op_addA o2_add (qv 1) q_int) qa_nil))) (qa_cons (qv 1) qa_nil)))) (q_fn C_law_draw (hr.mono (by omega)) (qa_cons (qv 0) (qa_cons q_int qa_nil))))) (qs_one (qs_ret (q_fn C_law_plan (hr.mono (by omega)) (qa_cons (qv 0) (qa_cons (q_callB (call_min2 rfl) oa_min T.b_min (by decide +kernel) (qa_cons (qv 2) (qa_cons (qv 1) qa_nil))) (qa_cons (q_ix ix_any o2_ix (q_lst (qa_cons q_int (qa_cons q_int (qa_cons q_int qa_nil)))) (q_fn C_law_draw (hr.mono (by omega)) (qa_cons (qv 0) (qa_cons q_int qa_nil)))) qa_nil))))))), ?_⟩
  rintro ds M Q ⟨a, b, n, m, rfl, hm, hS, q⟩
  simp [startD]
  refine ⟨a, b, n + 49, _, rfl, hS, by omega, by omega, fun k1 k1a k1b M1 s1 o1 => ?_⟩
  simp
  refine ⟨a, b, n + 48, _, rfl, s1, by omega, by omega, fun k2 k2a k2b M2 s2 o2 => ?_⟩
  refine ⟨a, b, n + 47, _, rfl, s2, by omega, by omega, fun k3 k3a k3b M3 s3 o3 => ?_⟩
  obtain ⟨x, e, -, hx⟩ := atI_in (xs := [D.int k1, D.int k2, D.int m]) k3a (by simpa using k3b)
  simp [e]
  have : ∃ j : Nat, x = .int j ∧ 0 ≤ j := by
    simp at hx
    rcases hx with rfl | rfl | rfl
    · exact ⟨k1.toNat, by rw [Int.toNat_of_nonneg k1a], by omega⟩
    · exact ⟨k2.toNat, by rw [Int.toNat_of_nonneg k2a], by omega⟩
    · exact ⟨m, rfl, by omega⟩
  obtain ⟨j, rfl, -⟩ := this
  simp
  refine ⟨a, b, n + 46, _, rfl, s3, by omega, by omega, fun k4 k4a k4b M4 s4 o4 => ?_⟩
  obtain ⟨y, e2, -, hy⟩ := atI_in (xs := [D.int 2, D.int 3, D.int 6]) k4a (by simpa using k4b)
  simp [e2]
  obtain ⟨l, rfl, l1, l2⟩ : ∃ l : Nat, y = .int l ∧ 1 ≤ l ∧ l ≤ 6 := by
    simp at hy
    rcases hy with rfl | rfl | rfl
    · exact ⟨2, rfl, by omega, by omega⟩
    · exact ⟨3, rfl, by omega, by omega⟩
    · exact ⟨6, rfl, by omega, by omega⟩
  obtain ⟨i, ei, hi⟩ : ∃ i : Nat, (if (m : Int) < j then (m : Int) else j) = i ∧ i ≤ 15 := by
    split
    · exact ⟨m, rfl, hm⟩
    · exact ⟨j, rfl, by omega⟩
  have o := ((o1.trans o2).trans o3).trans o4
  refine ⟨a, b, n, i, l, ?_, s4.less (by omega), hi, l1, l2, fun p h1 h2 => (q p h1 h2).off o⟩
  rw [← ei]
  by_cases z : m < j
  · rw [if_pos z, if_pos (by omega)]
  · rw [if_neg z, if_neg (by omega)]
/-- what is told of a cell -/
def widthO (e : Bool) (o : Option (Int × Int)) : Int := (if e then 1 else 0) + match o with
  | some (a, b) => b - a + 1
  | none => 0
def fs_width : FS := fun ds M Q => ∃ e o, ds = [.tup [.bl e, spanD o]] ∧ Q (.int (widthO e o)) M
theorem ok_width (T : Txt mg) (F : FnP K "_law_width" s_law_width f fd) (hm : mg "_law_width" = some (.ref f)) : Callee P w K mg base 1 "_law_width" fs_width := by
  have sc := sc_law_width
  refine mkCallee F hm sc (fun ds M Q ⟨_, _, e, _⟩ => by rw [e]; rfl) (F.bindsN fun _ _ _ _ _ _ us hl => match us, hl with | [_], _ => rfl) fun cdv A outer s H E hr => ?_
  refine ⟨_, (qs_cons (qs_asg (qv 0) (qg_tup (n := 2) rfl (qgs_cons (qg_name 1 sc.nd) (qgs_cons (qg_name 2 sc.nd) qgs_nil)))) (qs_one (qs_ret (q_op op_addA o2_add (q_callTy call_int1 oa_int T.b_int (by decide +kernel) (qa_cons (qv 1) qa_nil)) (q_if (qt_cmp op_notN o2_notN (qv 2) q_non) (q_op op_addA o2_add (q_op op_sub o2_sub (q_ix ix_any o2_ix (qv 2) q_int) (q_ix ix_any o2_ix (qv 2) q_int)) q_int) q_int))))), ?_⟩
  rintro ds M Q ⟨e, o, rfl, q⟩
  cases o with
  | none => cases e <;> simp [startD, spanD] <;> simpa [widthO] using q
  | some p =>
    obtain ⟨x, y⟩ := p
    cases e <;> simp [startD, spanD] <;> simpa [widthO] using q
/-- the two ends -/
def fs_ends : FS := fun ds M Q => ∃ p cs, ∃ n : Nat, ∃ c a b, ds = [planD p, .tup (cs.map cellD), .int n, cellD c, .tup [.int a, .int b]] ∧ okA p cs n ∧ IsSpan p cs n c (some (a, b)) ∧ Q (.bl true) M
theorem ok_ends (T : Txt mg) (F : FnP K "_law_ends_right" s_law_ends_right f fd) (hm : mg "_law_ends_right" = some (.ref f)) (C_apply_cells : Callee P w K mg base 18 "apply_cells" (fs_ac 15)) (C_law_fill : Callee P w K mg base 1 "_law_fill" fs_fill) : Callee P w K mg base 19 "_law_ends_right" fs_ends := by
  have sc := sc_law_ends_right
  refine mkCallee F hm sc (fun ds M Q ⟨_, _, _, _, _, _, e, _⟩ => by rw [e]; rfl) (F.bindsN fun _ _ _ _ _ _ us hl => match us, hl with | [_, _, _, _, _], _ => rfl) fun cdv A outer s H E hr => ?_
  refine ⟨_, (qs_cons (qs_for PassesOwn.never rfl (qi_range1 T.b_range (qa_cons q_int qa_nil)) (qg_name 5 sc.nd) (qs_cons (qs_par (i := 6) (j := 7) rfl sc.nd (qa_cons (q_ix ix_any o2_ix (qv 4) (qv 5)) (qa_cons (q_op op_addA o2_add (q_ix ix_any o2_ix (qv 4) (qv 5)) (q_ix ix_any o2_ix (q_lst (qa_cons (q_un un_neg o1_neg q_int) (qa_cons q_int qa_nil))) (qv 5))) qa_nil))) (qs_cons (qs_if (qt_cmp (op_neA hr.units) o2_neA (q_fn C_apply_cells (hr.mono (by omega)) (qa_cons (qv 0) (qa_cons (q_fn C_law_fill (hr.mono (by omega)) (qa_cons (qv 1) (qa_cons (qv 2) (qa_cons (qv 6) qa_nil)))) qa_nil))) (qv 3)) (qs_one (qs_ret q_bl)) qs_nil) (qs_one (qs_if (qt_w (qw_and (qt_chain op_le o2_cmp op_lt o2_cmp q_int (qv 7) q_int) (qw_and1 (qt_cmp (op_eqA hr.units) o2_eqA (q_fn C_apply_cells (hr.mono (by omega)) (qa_cons (qv 0) (qa_cons (q_fn C_law_fill (hr.mono (by omega)) (qa_cons (qv 1) (qa_cons (qv 2) (qa_cons (qv 7) qa_nil)))) qa_nil))) (qv 3))))) (qs_one (qs_ret q_bl)) qs_nil))))) (qs_one (qs_ret q_bl))), ?_⟩
  rintro ds M Q ⟨p, cs, n, c, a, b, rfl, ⟨h1, h2, h3, h4⟩, sp, q⟩
  have hr := sp.rng a b rfl
  simp [startD, rngD, List.range, List.range.loop, dLoop]
  have step : ∀ (i : Int) (M1 : Mem) (R : DK), R (cellD (out p cs n (some i))) M1 → fs_fill [.tup (cs.map cellD), .int n, .int i] M1 fun x M2 => fs_ac 15 [planD p, x] M2 R := by
    intro i M1 R h
    refine ⟨_, n, .int i, rfl, by rw [List.length_map]; omega, by rw [List.length_map]; omega, ?_⟩
    have e := set_cellD cs n (some i)
    have e : (cs.map cellD).set n (.int i) = (cs.set n (some i)).map cellD := e
    rw [e]
    exact ⟨p, _, rfl, h2, by rw [List.length_set, h3]; exact h1, h⟩
  have outA : decide (out p cs n (some a) = c) = true := decide_eq_true ((sp.iff a hr.1 (by omega)).mpr ⟨a, b, rfl, by omega, hr.2.1⟩)
  have outB : decide (out p cs n (some b) = c) = true := decide_eq_true ((sp.iff b (by omega) hr.2.2).mpr ⟨a, b, rfl, hr.2.1, by omega⟩)
  have offA : 0 ≤ a + -1 → decide (out p cs n (some (a + -1)) = c) = false := fun z => decide_eq_false fun e => by
    obtain ⟨x, y, e2, q1, q2⟩ := (sp.iff (a + -1) z (by omega)).mp e
    cases e2; omega
  have offB : b + 1 < 1000 → decide (out p cs n (some (b + 1)) = c) = false := fun z => decide_eq_false fun e => by
    obtain ⟨x, y, e2, q1, q2⟩ := (sp.iff (b + 1) (by omega) z).mp e
    cases e2; omega
  refine step a M _ (ne_cellD _ _ _ _ ?_)
  rw [outA]
  simp
  by_cases z1 : 0 ≤ a + -1
  · rw [if_pos z1]
    by_cases z2 : a + -1 < 1000
    · rw [if_pos z2]
      refine step (a + -1) M _ (eq_cellD _ _ _ _ ?_)
      rw [offA z1]
      simp
      · refine step b M _ (ne_cellD _ _ _ _ ?_)
        rw [outB]
        simp
        by_cases y1 : 0 ≤ b + 1
        · rw [if_pos y1]
          by_cases y2 : b + 1 < 1000
          · rw [if_pos y2]
            refine step (b + 1) M _ (eq_cellD _ _ _ _ ?_)
            rw [offB y2]
            simpa using q
          · rw [if_neg y2]; exact q
        · rw [if_neg y1]; exact q
    · rw [if_neg z2]
      · refine step b M _ (ne_cellD _ _ _ _ ?_)
        rw [outB]
        simp
        by_cases y1 : 0 ≤ b + 1
        · rw [if_pos y1]
          by_cases y2 : b + 1 < 1000
          · rw [if_pos y2]
            refine step (b + 1) M _ (eq_cellD _ _ _ _ ?_)
            rw [offB y2]
            simpa using q
          · rw [if_neg y2]; exact q
        · rw [if_neg y1]; exact q
  · rw [if_neg z1]
    · refine step b M _ (ne_cellD _ _ _ _ ?_)
      rw [outB]
      simp
      by_cases y1 : 0 ≤ b + 1
      · rw [if_pos y1]
        by_cases y2 : b + 1 < 1000
        · rw [if_pos y2]
          refine step (b + 1) M _ (eq_cellD _ _ _ _ ?_)
          rw [offB y2]
          simpa using q
        · rw [if_neg y2]; exact q
      · rw [if_neg y1]; exact q
end
end W

set_option maxHeartbeats 4000000
namespace W
open PySem PySem.Spec PyProof.Rows L2 Evl DL
/-! ### the plain law: the told cells, their widths -/
def unD : D → Option Int
  | .int i => some i
  | _ => none
theorem unD_cellD (c : Option Int) : unD (cellD c) = c := by cases c <;> rfl
def keyK (c : Option Int) : Option L2.Key := c.map Sum.inl
theorem keyD_cellD (c : Option Int) : keyD (cellD c) = some (keyK c) := by cases c <;> rfl
theorem kDD_keyK (c : Option Int) : kDD (keyK c) = cellD c := by cases c <;> rfl
theorem keyK_inj {a b : Option Int} (h : keyK a = keyK b) : a = b := by
  cases a <;> cases b <;> simp [keyK] at h ⊢
  exact h
abbrev Told := List (Option Int × Option (Int × Int))
def tellD (e : Option Int) (k : Option Int) (o : Option (Int × Int)) : D := .tup [.bl (decide (e = k)), spanD o]
def toldD (e : Option Int) (L : Told) : List (Option L2.Key × D) := L.map fun q => (keyK q.1, tellD e q.1 q.2)
theorem put_new (e : Option Int) (L : Told) (k : Option Int) (o : Option (Int × Int)) (h : k ∉ L.map (·.1)) : putD (toldD e L) (keyK k) (tellD e k o) = toldD e (L ++ [(k, o)]) := by
  unfold putD
  have z : ((toldD e L).any fun kv => decide (kv.1 = keyK k)) = false := by
    rw [List.any_eq_false]
    intro q hq
    obtain ⟨r, hr, rfl⟩ := List.mem_map.mp hq
    simp
    intro z
    exact h (List.mem_map.mpr ⟨r, hr, keyK_inj z⟩)
  rw [z]
  simp [toldD]
theorem val_told (e : Option Int) : ∀ (L : Told) (k : Option Int), k ∈ L.map (·.1) → ∃ o, (k, o) ∈ L ∧ valD (toldD e L) (keyK k) = some (tellD e k o)
  | [], k, h => by simp at h
  | (j, o) :: L, k, h => by
    by_cases z : j = k
    · subst z
      exact ⟨o, by simp, by simp [toldD, valD]⟩
    · have h' : k ∈ L.map (·.1) := by
        rcases List.mem_cons.mp (show k ∈ j :: L.map (·.1) from h) with q | q
        · exact absurd q.symm z
        · exact q
      obtain ⟨o', h1, h2⟩ := val_told e L k h'
      refine ⟨o', by simp [h1], ?_⟩
      have z2 : ¬ keyK j = keyK k := fun q => z (keyK_inj q)
      unfold valD at h2 ⊢
      simp only [toldD, List.map_cons, List.find?_cons, z2, decide_false] at h2 ⊢
      exact h2
theorem keys_told (e : Option Int) (L : Told) : (toldD e L).map (fun q => kDD q.1) = (L.map (·.1)).map cellD := by
  simp [toldD, kDD_keyK]
theorem count_rng (a b : Nat) : ∀ n, (List.range n).countP (fun i => decide (a ≤ i ∧ i ≤ b)) = min n (b + 1) - min n a
  | 0 => by simp
  | n + 1 => by
    rw [List.range_succ, List.countP_append, count_rng a b n, List.countP_singleton]
    by_cases z : a ≤ n ∧ n ≤ b
    · rw [if_pos (by simpa using z)]; omega
    · rw [if_neg (by simpa using z)]; omega
theorem count_or {α : Type} (p q r : α → Bool) (h : ∀ x, r x = (p x || q x)) (d : ∀ x, ¬ (p x = true ∧ q x = true)) : ∀ xs : List α, xs.countP p + xs.countP q = xs.countP r
  | [] => rfl
  | x :: xs => by
    have ih := count_or p q r h d xs
    have hx := h x
    have dx := d x
    rw [List.countP_cons, List.countP_cons, List.countP_cons, hx]
    cases e1 : p x <;> cases e2 : q x
    · simp; exact ih
    · simp; omega
    · simp; omega
    · exact absurd ⟨e1, e2⟩ dx
theorem count_disj {α β : Type} [DecidableEq β] (f : α → β) (k : β) (ks : List β) (h : k ∉ ks) (xs : List α) : xs.countP (fun x => decide (f x = k)) + xs.countP (fun x => decide (f x ∈ ks)) = xs.countP (fun x => decide (f x ∈ k :: ks)) := by
  refine count_or _ _ _ (fun x => ?_) (fun x => ?_) xs
  · simp
  · rintro ⟨h1, h2⟩
    have h1 := of_decide_eq_true h1
    have h2 := of_decide_eq_true h2
    exact h (h1 ▸ h2)
theorem count_sum {α β : Type} [DecidableEq β] (f : α → β) (xs : List α) : ∀ ks : List β, ks.Nodup → (ks.map fun k => xs.countP fun x => decide (f x = k)).sum ≤ xs.countP fun x => decide (f x ∈ ks)
  | [], _ => Nat.zero_le _
  | k :: ks, h => by
    obtain ⟨h1, h2⟩ := List.nodup_cons.mp h
    have := count_sum f xs ks h2
    rw [List.map_cons, List.sum_cons, ← count_disj f k ks h1 xs]
    omega
/-- None, then 0 .. 999 -/
def pts : List (Option Nat) := none :: (List.range 1000).map some
theorem pts_len : pts.length = 1001 := by simp [pts]
def outP (p : Pl) (cs : List (Option Int)) (n : Nat) (x : Option Nat) : Option Int := out p cs n (x.map fun i => (i : Int))
theorem width_count {p : Pl} {cs : List (Option Int)} {n : Nat} {k : Option Int} {o : Option (Int × Int)} (sp : IsSpan p cs n k o) : widthO (decide (out p cs n none = k)) o = ((pts.countP fun x => decide (outP p cs n x = k) : Nat) : Int) := by
  unfold pts
  rw [List.countP_cons, List.countP_map]
  have e1 : ((List.range 1000).countP ((fun x => decide (outP p cs n x = k)) ∘ some) : Nat) = match o with
      | some (a, b) => (b - a + 1).toNat
      | none => 0 := by
    cases o with
    | none =>
      rw [List.countP_eq_zero]
      intro i hi
      have hi : i < 1000 := by simpa using hi
      simp [outP]
      intro e
      obtain ⟨a, b, e2, _⟩ := (sp.iff i (by omega) (by omega)).mp e
      cases e2
    | some q =>
      obtain ⟨a, b⟩ := q
      obtain ⟨r1, r2, r3⟩ := sp.rng a b rfl
      have : (List.range 1000).countP ((fun x => decide (outP p cs n x = k)) ∘ some) = (List.range 1000).countP fun i => decide (a.toNat ≤ i ∧ i ≤ b.toNat) := by
        refine List.countP_congr fun i hi => ?_
        have hi : i < 1000 := by simpa using hi
        simp [outP]
        rw [sp.iff i (by omega) (by omega)]
        constructor
        · rintro ⟨a', b', e, q1, q2⟩
          cases e
          omega
        · intro ⟨q1, q2⟩
          exact ⟨a, b, rfl, by omega, by omega⟩
      rw [this, count_rng]
      simp only
      omega
  rw [e1]
  unfold widthO
  have e2 : outP p cs n none = out p cs n none := rfl
  simp only [e2]
  cases o with
  | none => by_cases z : out p cs n none = k <;> simp [z]
  | some q =>
    obtain ⟨a, b⟩ := q
    obtain ⟨r1, r2, r3⟩ := sp.rng a b rfl
    by_cases z : out p cs n none = k <;> simp [z] <;> omega
def total (p : Pl) (cs : List (Option Int)) (n : Nat) (L : Told) : Int := (L.map fun q => widthO (decide (out p cs n none = q.1)) q.2).sum
theorem total_le {p : Pl} {cs : List (Option Int)} {n : Nat} (L : Told) (h : ∀ q ∈ L, IsSpan p cs n q.1 q.2) (nd : (L.map (·.1)).Nodup) : total p cs n L ≤ 1001 := by
  have e : total p cs n L = (((L.map (·.1)).map fun k => pts.countP fun x => decide (outP p cs n x = k)).sum : Nat) := by
    unfold total
    clear nd
    induction L with
    | nil => rfl
    | cons q L ih =>
      rw [List.map_cons, List.sum_cons, ih fun r hr => h r (by simp [hr]), width_count (h q (by simp))]
      simp
  rw [e]
  have h1 := count_sum (outP p cs n) pts (L.map (·.1)) nd
  have h2 := Nat.le_trans h1 List.countP_le_length
  rw [pts_len] at h2
  omega
def keepI (d : D) : Option D := match d with
  | .non => none
  | d => some d
theorem keep_cells (l : List (Option Int)) : (l.map cellD).filterMap keepI = (l.filterMap id).map D.int := by
  induction l with
  | nil => rfl
  | cons x l ih =>
    cases x with
    | none => rw [List.map_cons, List.filterMap_cons, List.filterMap_cons]; exact ih
    | some i => rw [List.map_cons, List.filterMap_cons, List.filterMap_cons]; exact congrArg (D.int i :: ·) ih
theorem zip_cells (f : Option Int → Option Int) : ∀ l : List (Option Int), zipD (l.map cellD) (l.map (cellD ∘ f)) = l.map fun o => .tup [cellD o, cellD (f o)]
  | [] => rfl
  | x :: l => by
    rw [List.map_cons, List.map_cons, List.map_cons, zipD, zip_cells f l]; rfl
theorem val_mem (e : Option Int) : ∀ (L : Told) (q : Option Int × Option (Int × Int)), q ∈ L → (L.map (·.1)).Nodup → valD (toldD e L) (keyK q.1) = some (tellD e q.1 q.2)
  | [], q, h, _ => by simp at h
  | r :: L, q, h, nd => by
    rw [List.map_cons] at nd
    obtain ⟨n1, n2⟩ := List.nodup_cons.mp nd
    rcases List.mem_cons.mp h with rfl | h
    · simp [toldD, valD]
    · have ih := val_mem e L q h n2
      have z : ¬ keyK r.1 = keyK q.1 := fun z => n1 (by rw [keyK_inj z]; exact List.mem_map.mpr ⟨q, h, rfl⟩)
      unfold valD at ih ⊢
      simp only [toldD, List.map_cons, List.find?_cons, z, decide_false] at ih ⊢
      exact ih
theorem total_snoc {p : Pl} {cs : List (Option Int)} {n : Nat} (L : Told) (q : Option Int × Option (Int × Int)) : total p cs n (L ++ [q]) = total p cs n L + widthO (decide (out p cs n none = q.1)) q.2 := by
  unfold total
  simp
end W

set_option maxHeartbeats 4000000
namespace W
open PySem PySem.Spec PyProof.Rows L2 Evl DL
section
variable {P : Program} {w : World} {K : PySem.W.Frag} {mg : Str → Option Value} {base : Heap} {f : Addr} {fd : FuncData}
def fs_law (PT : Addr) : FS := fun ds M Q => ∃ ns : List Int, ds = [.scr (ns.map D.int)] ∧ ns.length ≤ 63 ∧ M PT = some (.tab qSpan) ∧ ∀ M', Q (.bl true) M'
theorem ok_law {PT : Addr} (T : Txt mg) (F : FnP K "law" s_law f fd) (C_law_stream : Callee P w K mg base 1 "_law_stream" fs_stream) (C_law_draw : Callee P w K mg base 1 "_law_draw" fs_draw) (C_law_value : Callee P w K mg base 2 "_law_value" fs_value)
    (C_law_cells : Callee P w K mg base 3 "_law_cells" fs_cells) (C_law_nodes : Callee P w K mg base 4 "_law_nodes" fs_nodes) (C_law_fill : Callee P w K mg base 1 "_law_fill" fs_fill) (C_law_width : Callee P w K mg base 1 "_law_width" fs_width)
    (C_law_ends_right : Callee P w K mg base 19 "_law_ends_right" fs_ends) (C_apply_cells : Callee P w K mg base 18 "apply_cells" (fs_ac 15)) (C_possible_cells : Callee P w K mg base 23 "possible_cells" (fs_possible PT)) : FnOk P w K mg base CX0 24 f fd ["_law_script"] (LSp K (fs_law PT)) := by
  have sc := sc_law
  refine mkFnF F sc (fun ds M Q ⟨_, e, _⟩ => by rw [e]; rfl) fun cdv A outer s H E hr => ?_
  refine ⟨_, (qs_cons (qs_set (i := 1) sc.nd (q_fn C_law_stream (hr.mono (by omega)) (qa_cons (qv 0) qa_nil))) (qs_cons (qs_for PassesOwn.never rfl (qi_range1 T.b_range (qa_cons q_int qa_nil)) (qg_name 2 sc.nd) (qs_cons (qs_asg (q_tup (qa_cons (q_fn C_law_nodes (hr.mono (by omega)) (qa_cons (qv 1) (qa_cons q_int qa_nil))) (qa_cons (q_fn C_law_cells (hr.mono (by omega)) (qa_cons (qv 1) qa_nil)) (qa_cons (q_fn C_law_draw (hr.mono (by omega)) (qa_cons (qv 1) (qa_cons q_int qa_nil))) (qa_cons q_int qa_nil))))) (qg_tup (n := 4) rfl (qgs_cons (qg_name 3 sc.nd) (qgs_cons (qg_name 4 sc.nd) (qgs_cons (qg_name 5 sc.nd) (qgs_cons (qg_name 6 sc.nd) qgs_nil)))))) (qs_cons (qs_set (i := 7) sc.nd (q_op op_addA o2_add (q_op op_addA o2_add (q_lst (qa_cons q_non qa_nil)) (q_lc (own := [("_law_own", 11)]) rfl sc.nd (qi_range1 T.b_range (qa_cons q_int qa_nil)) (show BlkOk ["_law_script", "_law_stream_here", "_law_turn", "_law_plan_here", "_law_cells_here", "_law_number", "_law_width_here", "_law_some", "_law_told", "_law_coming", "_law_cell", "_law_own", "_law_empty", "_law_span"] (defScope s_law) _ _ from blkOk_by (by decide +kernel)) (tg_name 11) (fun _ _ _ _ _ => (pg_name (i := 11) sc.nd rfl (Or.inl rfl))) (fun _ _ _ _ _ => (qts_one (qt_w (qw_or (qt_cmp (op_eqA hr.units) o2_eqA (q_op op_mod o2_mod (qv 11) q_int) (qv 2)) (qw_or1 (qt_cmp op_lt o2_cmp (qv 11) q_int)))))) (fun _ _ _ _ _ => (qv 11)))) (q_lst (qa_cons (q_fn C_law_value (hr.mono (by omega)) (qa_cons (qv 1) qa_nil)) qa_nil)))) (qs_cons (qs_par (i := 8) (j := 9) rfl sc.nd (qa_cons q_dnewN (qa_cons (q_lc (own := [("_law_own", 11)]) rfl sc.nd (qi_list (qv 7)) (show BlkOk ["_law_script", "_law_stream_here", "_law_turn", "_law_plan_here", "_law_cells_here", "_law_number", "_law_width_here", "_law_some", "_law_told", "_law_coming", "_law_cell", "_law_own", "_law_empty", "_law_span"] (defScope s_law) _ _ from blkOk_by (by decide +kernel)) (tg_name 11) (fun _ _ _ _ _ => (pg_name (i := 11) sc.nd rfl (Or.inl rfl))) (fun _ _ _ _ _ => qts_nil) (fun _ _ _ _ _ => (q_fn C_apply_cells (hr.mono (by omega)) (qa_cons (qv 3) (qa_cons (q_fn C_law_fill (hr.mono (by omega)) (qa_cons (qv 4) (qa_cons (qv 5) (qa_cons (qv 11) qa_nil)))) qa_nil))))) qa_nil))) (qs_cons (qs_for PassesOwn.never rfl (qi_list (q_op op_addA o2_add (q_sortSet rfl (q_lc (own := [("_law_cell", 10)]) rfl sc.nd (qi_list (qv 9)) (show BlkOk ["_law_script", "_law_stream_here", "_law_turn", "_law_plan_here", "_law_cells_here", "_law_number", "_law_width_here", "_law_some", "_law_told", "_law_coming", "_law_cell", "_law_own", "_law_empty", "_law_span"] (defScope s_law) _ _ from blkOk_by (by decide +kernel)) (tg_name 10) (fun _ _ _ _ _ => (pg_name (i := 10) sc.nd rfl (Or.inl rfl))) (fun _ _ _ _ _ => (qts_one (qt_cmp op_notN o2_notN (qv 10) q_non))) (fun _ _ _ _ _ => (qv 10))) T.b_sorted T.b_set) (q_lst (qa_cons q_non qa_nil)))) (qg_name 10 sc.nd) (qs_one (qs_asg (q_fn C_possible_cells (hr.mono (by omega)) (qa_cons (qv 3) (qa_cons (qv 4) (qa_cons (qv 5) (qa_cons (qv 10) qa_nil))))) (qg_sub (qv 8) (qv 10) set_dno op_setN)))) (qs_frzN 8 (qs_cons (qs_for PassesOwn.never rfl (qi_zip T.b_zip (qa_cons (qv 7) (qa_cons (qv 9) qa_nil))) (qg_tup (n := 2) rfl (qgs_cons (qg_name 11 sc.nd) (qgs_cons (qg_name 10 sc.nd) qgs_nil))) (qs_cons (qs_asg (q_ix ix_dno o2_ixN (qv 8) (qv 10)) (qg_tup (n := 2) rfl (qgs_cons (qg_name 12 sc.nd) (qgs_cons (qg_name 13 sc.nd) qgs_nil)))) (qs_one (qs_if (qt_w (qw_or (qt_w (qw_and (qt_cmp op_isN o2_isN (qv 11) q_non) (qw_and1 (qt_not (qt_val (qv 12)))))) (qw_or1 (qt_w (qw_and (qt_cmp op_notN o2_notN (qv 11) q_non) (qw_and1 (qt_w (qw_or (qt_cmp op_isN o2_isN (qv 13) q_non) (qw_or1 (qt_not (qt_chain op_le o2_cmp op_le o2_cmp (q_ix ix_any o2_ix (qv 13) q_int) (qv 11) (q_ix ix_any o2_ix (qv 13) q_int)))))))))))) (qs_one (qs_ret q_bl)) qs_nil)))) (qs_cons (qs_for PassesOwn.never rfl (qi_keysN (qv 8)) (qg_name 10 sc.nd) (qs_cons (qs_par (i := 6) (j := 13) rfl sc.nd (qa_cons (q_op op_addA o2_add (qv 6) (q_fn C_law_width (hr.mono (by omega)) (qa_cons (q_ix ix_dno o2_ixN (qv 8) (qv 10)) qa_nil))) (qa_cons (q_ix ix_any o2_ix (q_ix ix_dno o2_ixN (qv 8) (qv 10)) q_int) qa_nil))) (qs_one (qs_if (qt_w (qw_and (qt_cmp op_notN o2_notN (qv 13) q_non) (qw_and1 (qt_not (qt_val (q_fn C_law_ends_right (hr.mono (by omega)) (qa_cons (qv 3) (qa_cons (qv 4) (qa_cons (qv 5) (qa_cons (qv 10) (qa_cons (qv 13) qa_nil))))))))))) (qs_one (qs_ret q_bl)) qs_nil)))) (qs_one (qs_if (qt_cmp op_gt o2_cmp (qv 6) q_int) (qs_one (qs_ret q_bl)) qs_nil)))))))))) (qs_one (qs_ret q_bl)))), ?_⟩
  rintro ds M Q ⟨ns, rfl, hl, hM, q⟩
  simp [startD]
  refine ⟨ns, rfl, hl, fun a b M1 hS ha hb o1 => ?_⟩
  have pa : PT ≠ a := fun z => by rw [z, ha] at hM; cases hM
  have pb : PT ≠ b := fun z => by rw [z, hb] at hM; cases hM
  refine dLoop_inv (J := fun rest ρ M' => ∃ x2 x3 x4 x5 x6 x7 x8 x9 x10 x11 x12 x13, ρ = [some (.scr (ns.map D.int)), some (.ref a), x2, x3, x4, x5, x6, x7, x8, x9, x10, x11, x12, x13] ∧ M' PT = some (.tab qSpan) ∧ Strm M' a b (200 * rest.length) ∧ ∀ x ∈ rest, ∃ i, x = .int i) ?_ ?_ _ _ _ ⟨none, none, none, none, none, none, none, none, none, none, none, none, rfl, by rw [o1 PT pa pb]; exact hM, hS.less (by simp [rngD]), fun x hx => by
    obtain ⟨i, -, rfl⟩ := List.mem_map.mp hx
    exact ⟨_, rfl⟩⟩
  rotate_left
  · rintro ρ M' ⟨x2, x3, x4, x5, x6, x7, x8, x9, x10, x11, x12, x13, rfl, h1, h2, h3⟩
    simp
    exact Fgt.of (q _)
  rintro t rest ρ M2 ⟨x2, x3, x4, x5, x6, x7, x8, x9, x10, x11, x12, x13, rfl, hT, hS2, hi⟩ nx hnx
  obtain ⟨ti, rfl⟩ := hi t (by simp)
  rw [List.length_cons] at hS2
  simp
  refine ⟨a, b, 200 * rest.length + 150, 15, rfl, by omega, hS2.less (by omega), fun p hp1 hp2 M3 s3 o3 => ?_⟩
  refine ⟨a, b, 200 * rest.length + 120, rfl, s3.less (by omega), fun cs hc1 hc2 M4 s4 o4 => ?_⟩
  refine ⟨a, b, 200 * rest.length + 119, _, rfl, s4, by omega, by omega, fun n n0 n1 M5 s5 o5 => ?_⟩
  simp
  obtain ⟨n, rfl⟩ := Int.eq_ofNat_of_zero_le n0
  have ok : okA p cs n := ⟨hp1, hp2, hc1, by omega⟩
  refine dLc_pure (N := fun _ => True) (xs := rngD 0 1000) (fun d => match d with | .int i => if i % 7 = ti ∨ i < 9 then some (.int i) else none | _ => none) (fun R h => by simpa using h) (fun _ _ _ _ => trivial) (by simp [rngD]; exact szl (k := 1000) (by omega)) ?_ ?_
  · intro x hx Dl hD M' hM' Q1 Q2 k1 k2
    obtain ⟨i, hi, rfl⟩ := List.mem_map.mp hx
    simp [wipeD, eqS]
    by_cases z1 : (i : Int) % 7 = ti
    · simp [z1]
      exact k1 _ (by simp [z1])
    · by_cases z2 : (i : Int) < 9
      · simp [z1, z2]
        exact k1 _ (by simp [z1, z2])
      · simp [z1, z2]
        exact k2 (by simp [z1, z2])
  obtain ⟨is, eis, his, lis⟩ : ∃ is : List Int, (rngD 0 1000).filterMap (fun d => match d with | .int i => if i % 7 = ti ∨ i < 9 then some (.int i) else none | _ => none) = is.map D.int ∧ (∀ i ∈ is, 0 ≤ i ∧ i < 1000) ∧ is.length ≤ 1000 := by
    refine ⟨((List.range 1000).map fun i : Nat => ((0 : Int) + i)).filter fun i => decide (i % 7 = ti ∨ i < 9), ?_, ?_, ?_⟩
    · rw [← map_int_flt (f := fun d => match d with | .int i => if i % 7 = ti ∨ i < 9 then some (.int i) else none | _ => none)]
      · simp [rngD]
        rfl
      · intro i; simp
    · intro i hi
      obtain ⟨j, hj, rfl⟩ := List.mem_map.mp (List.mem_filter.mp hi).1
      have := List.mem_range.mp hj
      omega
    · refine Nat.le_trans (List.length_filter_le _ _) ?_
      simp
  rw [eis]
  simp
  refine ⟨szl (k := 1001) (by omega), a, b, 200 * rest.length + 100, rfl, s5.less (by omega), fun v v0 v1 M6 s6 o6 => ?_⟩
  simp
  refine ⟨szl (k := 1002) (by omega), fun pd hpd => ?_⟩
  obtain ⟨owns, eo, ho, lo, hno⟩ : ∃ owns : List (Option Int), D.non :: (is.map D.int ++ [D.int v]) = owns.map cellD ∧ (∀ o ∈ owns, okC o) ∧ owns.length ≤ 1002 ∧ none ∈ owns := by
    refine ⟨none :: (is.map some ++ [some v]), ?_, ?_, ?_, by simp⟩
    · simp [cellD]
    · intro o hin u hu
      subst hu
      simp at hin
      rcases hin with h | rfl
      · exact his _ h
      · exact ⟨v0, v1⟩
    · simp; omega
  rw [eo]
  have hpt : PT ≠ pd := fun z => by
    have := hT
    rw [← o3 PT pa pb, ← o4 PT pa pb, ← o5 PT pa pb, ← o6 PT pa pb, z, hpd] at this
    cases this
  have hne := s6.ne hpd
  have hTd : put M6 pd (.dno []) PT = some (.tab qSpan) := by
    rw [put_ne hpt, o6 PT pa pb, o5 PT pa pb, o4 PT pa pb, o3 PT pa pb]; exact hT
  refine dLc_pure (N := fun _ => True) (xs := owns.map cellD) (fun d => some (cellD (out p cs n (unD d)))) (fun R h => by simpa using h) (fun _ _ _ _ => trivial) (by rw [List.length_map]; exact szl (k := 1002) lo) ?_ ?_
  · intro x hx Dl hD M' hM' Q1 Q2 k1 k2
    obtain ⟨o, hin, rfl⟩ := List.mem_map.mp hx
    simp [wipeD]
    refine ⟨_, n, _, rfl, by rw [List.length_map]; omega, by rw [List.length_map]; omega, ?_⟩
    rw [set_cellD]
    exact ⟨p, _, rfl, hp2, by rw [List.length_set, hc1]; exact hp1, k1 _ (by rw [unD_cellD]; rfl)⟩
  have e1 : (owns.map cellD).filterMap (fun d => some (cellD (out p cs n (unD d)))) = (owns.map fun o => out p cs n o).map cellD := by
    simp [unD_cellD, Function.comp_def]
  rw [e1]
  refine dLc_pure (N := fun _ => True) (xs := (owns.map fun o => out p cs n o).map cellD) keepI (fun R h => by simpa using h) (fun _ _ _ _ => trivial) (by rw [List.length_map, List.length_map]; exact szl (k := 1002) lo) ?_ ?_
  · intro x hx Dl hD M' hM' Q1 Q2 k1 k2
    obtain ⟨o, hin, rfl⟩ := List.mem_map.mp hx
    cases o with
    | none => simp [wipeD, cellD]; exact k2 rfl
    | some i => simp [wipeD, cellD]; exact k1 _ rfl
  rw [keep_cells]
  simp only [lsD_e1, List.map_map]
  have lco : ((owns.map fun o => out p cs n o).filterMap id).length ≤ 1002 := by
    refine Nat.le_trans (List.length_filterMap_le _ _) ?_
    rw [List.length_map]; exact lo
  refine ⟨_, rfl, by omega, fun ms pw hms lms => ?_⟩
  -- the keys, in order
  obtain ⟨ks, hks⟩ : ∃ ks : List (Option Int), ks = ms.map some ++ [none] := ⟨_, rfl⟩
  have kcell : ms.map D.int ++ [D.non] = ks.map cellD := by rw [hks]; simp [cellD]
  have knd : ks.Nodup := by
    rw [hks, List.nodup_append]
    refine ⟨?_, by simp, by simp⟩
    refine List.pairwise_map.mpr (pw.imp fun {x y} h z => ?_)
    cases z; omega
  have kin : ∀ o ∈ owns, out p cs n o ∈ ks := by
    intro o hin
    rw [hks]
    cases e : out p cs n o with
    | none => simp
    | some i =>
      have : i ∈ ms := (hms i).mpr (List.mem_filterMap.mpr ⟨some i, List.mem_map.mpr ⟨o, hin, e⟩, rfl⟩)
      simp [this]
  have lks : ks.length ≤ 1003 := by rw [hks]; simp; omega
  refine ⟨szl (k := 1003) (by omega), ?_⟩
  rw [kcell]
  refine dLoop_inv (J := fun rest' ρ M' => ∃ (L : Told) (rks : List (Option Int)) (x10 : Option D), rest' = rks.map cellD ∧ L.map (·.1) ++ rks = ks ∧ (∀ q ∈ L, IsSpan p cs n q.1 q.2) ∧
      ρ = [some (.scr (ns.map D.int)), some (.ref a), some (.int ti), some (planD p), some (.tup (cs.map cellD)), some (.int n), some (.int 0), some (.lst (owns.map cellD)), some (.ref pd), some (.lst (owns.map (cellD ∘ fun o => out p cs n o))), x10, x11, x12, x13] ∧
      M' pd = some (.dno (toldD (out p cs n none) L)) ∧ M' PT = some (.tab qSpan) ∧ Strm M' a b (200 * rest.length + 100)) ?_ ?_ _ _ _ ⟨[], ks, x10, rfl, rfl, fun _ h => by simp at h, rfl, put_same, hTd, s6.put hne⟩
  · rintro x rest' ρ M' ⟨L, rks, y10, er, ek, hsp, rfl, hpd', hT', hS'⟩ nx' hnx'
    cases rks with
    | nil => cases er
    | cons k rks =>
      rw [List.map_cons] at er
      injection er with er1 er2
      subst er1 er2
      simp
      refine ⟨p, cs, n, k, rfl, ok, hT', fun o hsp' => ?_⟩
      have hk : k ∉ L.map (·.1) := by
        intro hin
        rw [← ek, List.nodup_append] at knd
        exact knd.2.2 _ hin _ (by simp) rfl
      have hlen : L.length < 1003 := by
        have := congrArg List.length ek
        simp at this
        omega
      simp [hpd', keyD_cellD]
      refine ⟨by simp [toldD]; exact szs (k := 1003) hlen, hnx' _ _ ⟨L ++ [(k, o)], rks, some (cellD k), rfl, by rw [List.map_append, List.append_assoc]; exact ek, ?_, rfl, ?_, by rw [put_ne hpt]; exact hT', hS'.put hne⟩⟩
      · intro q hq
        rcases List.mem_append.mp hq with h | h
        · exact hsp q h
        · rw [List.mem_singleton.mp h]; exact hsp'
      · rw [put_same, ← put_new _ _ _ _ hk]; rfl
  rintro ρ M' ⟨L, rks, y10, er, ek, hsp, rfl, hpd', hT', hS'⟩
  obtain rfl : rks = [] := by
    cases rks with
    | nil => rfl
    | cons _ _ => cases er
  rw [List.append_nil] at ek
  simp [hpd']
  have hS'' : Strm (drp M' pd) a b (200 * rest.length + 100) := hS'.off (drp_ne hne.1.symm) (drp_ne hne.2.symm)
  have hT'' : drp M' pd PT = some (.tab qSpan) := by rw [drp_ne hpt]; exact hT'
  rw [zip_cells]
  refine dLoop_inv (J := fun rest' ρ M' => ∃ (l : List (Option Int)) (x10 x11 x12 x13 : Option D), rest' = l.map (fun o => .tup [cellD o, cellD (out p cs n o)]) ∧ (∀ o ∈ l, o ∈ owns) ∧
      ρ = [some (.scr (ns.map D.int)), some (.ref a), some (.int ti), some (planD p), some (.tup (cs.map cellD)), some (.int n), some (.int 0), some (.lst (owns.map cellD)), some (.dno (toldD (out p cs n none) L)), some (.lst (owns.map (cellD ∘ fun o => out p cs n o))), x10, x11, x12, x13] ∧
      M' PT = some (.tab qSpan) ∧ Strm M' a b (200 * rest.length + 100)) ?_ ?_ _ _ _ ⟨owns, _, _, _, _, rfl, fun _ h => h, rfl, hT'', hS''⟩
  · rintro x rest' ρ M' ⟨l, y10, y11, y12, y13, er, hin, rfl, hT2, hS2⟩ nx' hnx'
    cases l with
    | nil => cases er
    | cons o l =>
      rw [List.map_cons] at er
      injection er with er1 er2
      subst er1 er2
      obtain ⟨o', hin', hv⟩ := val_told (out p cs n none) L (out p cs n o) (by rw [ek]; exact kin o (hin o (by simp)))
      have sp := hsp _ hin'
      simp [keyD_cellD, hv, tellD]
      cases o with
      | none =>
        simp [cellD]
        exact hnx' _ _ ⟨l, _, _, _, _, rfl, fun o h => hin o (by simp [h]), rfl, hT2, hS2⟩
      | some i =>
        have hi := ho (some i) (hin _ (by simp)) i rfl
        obtain ⟨a', b', e', q1, q2⟩ := (sp.iff i hi.1 hi.2).mp rfl
        have e' : o' = some (a', b') := e'
        subst e'
        simp [cellD, spanD, q1, q2]
        exact hnx' _ _ ⟨l, _, _, _, _, rfl, fun o h => hin o (by simp [h]), rfl, hT2, hS2⟩
  rintro ρ M' ⟨l, y10, y11, y12, y13, er, hin, rfl, hT2, hS2⟩
  simp [keys_told]
  have ndL : (L.map (·.1)).Nodup := by rw [ek]; exact knd
  refine dLoop_inv (J := fun rest' ρ M' => ∃ (L1 L2 : Told) (x10 x11 x12 x13 : Option D), rest' = L2.map (cellD ∘ fun q => q.1) ∧ L1 ++ L2 = L ∧
      ρ = [some (.scr (ns.map D.int)), some (.ref a), some (.int ti), some (planD p), some (.tup (cs.map cellD)), some (.int n), some (.int (total p cs n L1)), some (.lst (owns.map cellD)), some (.dno (toldD (out p cs n none) L)), some (.lst (owns.map (cellD ∘ fun o => out p cs n o))), x10, x11, x12, x13] ∧
      M' PT = some (.tab qSpan) ∧ Strm M' a b (200 * rest.length + 100)) ?_ ?_ _ _ _ ⟨[], L, _, _, _, _, by simp, rfl, rfl, hT2, hS2⟩
  · rintro x rest' ρ M' ⟨L1, L2, z10, z11, z12, z13, er, eL, rfl, hT3, hS3⟩ nx' hnx'
    cases L2 with
    | nil => cases er
    | cons q L2 =>
      rw [List.map_cons] at er
      injection er with er1 er2
      subst er1 er2
      have hq : q ∈ L := by rw [← eL]; simp
      have hv := val_mem (out p cs n none) L q hq ndL
      have sp := hsp _ hq
      simp [keyD_cellD, hv, tellD]
      refine ⟨_, _, rfl, ?_⟩
      obtain ⟨k, o⟩ := q
      have fin : ∀ y10 y11 y12 y13 : Option D, nx' [some (.scr (ns.map D.int)), some (.ref a), some (.int ti), some (planD p), some (.tup (cs.map cellD)), some (.int n), some (.int (total p cs n L1 + widthO (decide (out p cs n none = k)) o)), some (.lst (owns.map cellD)), some (.dno (toldD (out p cs n none) L)), some (.lst (owns.map (cellD ∘ fun o => out p cs n o))), y10, y11, y12, y13] M' := by
        intro y10 y11 y12 y13
        refine hnx' _ _ ⟨L1 ++ [(k, o)], L2, y10, y11, y12, y13, rfl, by rw [List.append_assoc]; exact eL, ?_, hT3, hS3⟩
        rw [total_snoc]
      cases o with
      | none =>
        simp [spanD]
        exact fin _ _ _ _
      | some r =>
        obtain ⟨a', b'⟩ := r
        simp [spanD]
        refine ⟨p, cs, n, k, a', b', rfl, ok, sp, ?_⟩
        simp
        exact fin _ _ _ _
  rintro ρ M' ⟨L1, L2, z10, z11, z12, z13, er, eL, rfl, hT3, hS3⟩
  obtain rfl : L2 = [] := by
    cases L2 with
    | nil => rfl
    | cons _ _ => cases er
  rw [List.append_nil] at eL
  subst eL
  have ht := total_le L1 hsp ndL
  simp
  rw [if_neg (by omega)]
  exact hnx _ _ ⟨_, _, _, _, _, _, _, _, _, _, _, _, rfl, hT3, hS3.less (by omega), fun x hx => hi x (by simp [hx])⟩
end
end W

set_option maxHeartbeats 0
namespace W
open PySem PySem.Spec PyProof.Rows L2 Evl DL
def d_merge_values : He.DefD := ⟨("merge_values", none), "merge_values", "merge_values", defArgs s_merge_values, defBody s_merge_values, defScope s_merge_values, [], []⟩
def d_merged_cell : He.DefD := ⟨("merged_cell", none), "merged_cell", "merged_cell", defArgs s_merged_cell, defBody s_merged_cell, defScope s_merged_cell, [], []⟩
def d_apply_cells : He.DefD := ⟨("apply_cells", none), "apply_cells", "apply_cells", defArgs s_apply_cells, defBody s_apply_cells, defScope s_apply_cells, [], []⟩
def d_with_item : He.DefD := ⟨("with_item", none), "with_item", "with_item", defArgs s_with_item, defBody s_with_item, defScope s_with_item, [], []⟩
def d_outcome : He.DefD := ⟨("outcome", none), "outcome", "outcome", defArgs s_outcome, defBody s_outcome, defScope s_outcome, [], []⟩
def d_least_value : He.DefD := ⟨("least_value", none), "least_value", "least_value", defArgs s_least_value, defBody s_least_value, defScope s_least_value, [], []⟩
def d_value_span : He.DefD := ⟨("value_span", none), "value_span", "value_span", defArgs s_value_span, defBody s_value_span, defScope s_value_span, [], []⟩
def d_possible_cells : He.DefD := ⟨("possible_cells", none), "possible_cells", "possible_cells", defArgs s_possible_cells, defBody s_possible_cells, defScope s_possible_cells, [], []⟩
def d_law_stream : He.DefD := ⟨("_law_stream", none), "_law_stream", "_law_stream", defArgs s_law_stream, defBody s_law_stream, defScope s_law_stream, [], []⟩
def d_law_draw : He.DefD := ⟨("_law_draw", none), "_law_draw", "_law_draw", defArgs s_law_draw, defBody s_law_draw, defScope s_law_draw, [], []⟩
def d_law_pick : He.DefD := ⟨("_law_pick", none), "_law_pick", "_law_pick", defArgs s_law_pick, defBody s_law_pick, defScope s_law_pick, [], []⟩
def d_law_value : He.DefD := ⟨("_law_value", none), "_law_value", "_law_value", defArgs s_law_value, defBody s_law_value, defScope s_law_value, [], []⟩
def d_law_cells : He.DefD := ⟨("_law_cells", none), "_law_cells", "_law_cells", defArgs s_law_cells, defBody s_law_cells, defScope s_law_cells, [], []⟩
def d_law_plan : He.DefD := ⟨("_law_plan", none), "_law_plan", "_law_plan", defArgs s_law_plan, defBody s_law_plan, defScope s_law_plan, [], []⟩
def d_law_fill : He.DefD := ⟨("_law_fill", none), "_law_fill", "_law_fill", defArgs s_law_fill, defBody s_law_fill, defScope s_law_fill, [], []⟩
def d_law_nodes : He.DefD := ⟨("_law_nodes", none), "_law_nodes", "_law_nodes", defArgs s_law_nodes, defBody s_law_nodes, defScope s_law_nodes, [], []⟩
def d_law_width : He.DefD := ⟨("_law_width", none), "_law_width", "_law_width", defArgs s_law_width, defBody s_law_width, defScope s_law_width, [], []⟩
def d_law_ends_right : He.DefD := ⟨("_law_ends_right", none), "_law_ends_right", "_law_ends_right", defArgs s_law_ends_right, defBody s_law_ends_right, defScope s_law_ends_right, [], []⟩
def d_law : He.DefD := ⟨("law", none), "law", "law", defArgs s_law, defBody s_law, defScope s_law, [], []⟩
def fn : List He.DefD := [d_merge_values, d_merged_cell, d_apply_cells, d_with_item, d_outcome, d_least_value, d_value_span, d_possible_cells, d_law_stream, d_law_draw, d_law_pick, d_law_value, d_law_cells, d_law_plan, d_law_fill, d_law_nodes, d_law_width, d_law_ends_right, d_law]
def fa : List He.Fa := [.glo "merge_values", .glo "merged_cell", .glo "apply_cells", .glo "with_item", .glo "outcome", .glo "least_value", .glo "value_span", .glo "possible_cells", .glo "_law_stream", .glo "_law_draw", .glo "_law_pick", .glo "_law_value", .glo "_law_cells", .glo "_law_plan", .glo "_law_fill", .glo "_law_nodes", .glo "_law_width", .glo "_law_ends_right", .glo "law", .free "abs", .free "int", .free "isinstance", .free "len", .free "max", .free "min", .free "range", .free "set", .free "sorted", .free "tuple", .free "zip", .int "MAX_VALUE" 999]
def tf : List He.Defn := [("value_span", none)]
def ex : PySem.W.Frag → Bool := fun _ => true
abbrev R : PySem.W.OpenRow := PySem.W.OpenLaw.row PySem.Challenge.rw_tablemerge_k40_whole_possible_cells_ther
abbrev hk : PySem.W.Hook := He.hookX 4 fa fn [] tf ex
def ob (s : PySem.W.SharedT) : He.AlX := He.obsX 4 fa fn [] tf ex (HandSHeadRun.getT s)
theorem ob_eq (s : PySem.W.SharedT) : ob s = hk.obs s.abs := He.obsX_eq (HandSHeadRun.getT_eq s)
def names : List PySem.Str := (["MAX_VALUE", "__name__", "merge_values", "merged_cell", "apply_cells", "with_item", "outcome", "least_value", "value_span", "possible_cells", "_law_stream", "_law_draw", "_law_pick", "_law_value", "_law_cells", "_law_plan", "_law_fill", "_law_nodes", "_law_width", "_law_ends_right"] : List PySem.Str)
theorem run (w : World) : HandSHeadRun.RunEq R (PySem.W.view R.prog [23]) hk ob 2000 names w := by
  intro os
  kernel_rfl
theorem txt {K : PySem.W.Frag} {h : Heap} {mg : Str → Option Value} (X : K.In h) (G : h.Ns mainGlobals mg) (c : He.SaysD fa fn K) : Txt mg where
  b_abs := He.free_ok X G (c.fact 19 (f := .free "abs") rfl)
  b_int := He.free_ok X G (c.fact 20 (f := .free "int") rfl)
  b_isinstance := He.free_ok X G (c.fact 21 (f := .free "isinstance") rfl)
  b_len := He.free_ok X G (c.fact 22 (f := .free "len") rfl)
  b_max := He.free_ok X G (c.fact 23 (f := .free "max") rfl)
  b_min := He.free_ok X G (c.fact 24 (f := .free "min") rfl)
  b_range := He.free_ok X G (c.fact 25 (f := .free "range") rfl)
  b_set := He.free_ok X G (c.fact 26 (f := .free "set") rfl)
  b_sorted := He.free_ok X G (c.fact 27 (f := .free "sorted") rfl)
  b_tuple := He.free_ok X G (c.fact 28 (f := .free "tuple") rfl)
  b_zip := He.free_ok X G (c.fact 29 (f := .free "zip") rfl)
  c_MAX_VALUE := He.int_ok X G (c.fact 30 (f := .int "MAX_VALUE" 999) rfl)
/-- a def of the text, by its place -/
structure Has (K : PySem.W.Frag) (mg : Str → Option Value) (x : Str) (st : Stmt) : Prop where
  ex : ∃ fd, FnP K x st (He.fAd K (x, none)) fd
  at_ : mg x = some (.ref (He.fAd K (x, none)))
theorem has_merge_values {K : PySem.W.Frag} {h : Heap} {mg : Str → Option Value} (X : K.In h) (G : h.Ns mainGlobals mg) (c : He.SaysD fa fn K) : Has K mg "merge_values" s_merge_values := ⟨c.def_ 0 (d := d_merge_values) rfl, He.glo_ok X G (c.fact 0 (f := .glo "merge_values") rfl)⟩
theorem has_merged_cell {K : PySem.W.Frag} {h : Heap} {mg : Str → Option Value} (X : K.In h) (G : h.Ns mainGlobals mg) (c : He.SaysD fa fn K) : Has K mg "merged_cell" s_merged_cell := ⟨c.def_ 1 (d := d_merged_cell) rfl, He.glo_ok X G (c.fact 1 (f := .glo "merged_cell") rfl)⟩
theorem has_apply_cells {K : PySem.W.Frag} {h : Heap} {mg : Str → Option Value} (X : K.In h) (G : h.Ns mainGlobals mg) (c : He.SaysD fa fn K) : Has K mg "apply_cells" s_apply_cells := ⟨c.def_ 2 (d := d_apply_cells) rfl, He.glo_ok X G (c.fact 2 (f := .glo "apply_cells") rfl)⟩
theorem has_with_item {K : PySem.W.Frag} {h : Heap} {mg : Str → Option Value} (X : K.In h) (G : h.Ns mainGlobals mg) (c : He.SaysD fa fn K) : Has K mg "with_item" s_with_item := ⟨c.def_ 3 (d := d_with_item) rfl, He.glo_ok X G (c.fact 3 (f := .glo "with_item") rfl)⟩
theorem has_outcome {K : PySem.W.Frag} {h : Heap} {mg : Str → Option Value} (X : K.In h) (G : h.Ns mainGlobals mg) (c : He.SaysD fa fn K) : Has K mg "outcome" s_outcome := ⟨c.def_ 4 (d := d_outcome) rfl, He.glo_ok X G (c.fact 4 (f := .glo "outcome") rfl)⟩
theorem has_least_value {K : PySem.W.Frag} {h : Heap} {mg : Str → Option Value} (X : K.In h) (G : h.Ns mainGlobals mg) (c : He.SaysD fa fn K) : Has K mg "least_value" s_least_value := ⟨c.def_ 5 (d := d_least_value) rfl, He.glo_ok X G (c.fact 5 (f := .glo "least_value") rfl)⟩
theorem has_value_span {K : PySem.W.Frag} {h : Heap} {mg : Str → Option Value} (X : K.In h) (G : h.Ns mainGlobals mg) (c : He.SaysD fa fn K) : Has K mg "value_span" s_value_span := ⟨c.def_ 6 (d := d_value_span) rfl, He.glo_ok X G (c.fact 6 (f := .glo "value_span") rfl)⟩
theorem has_possible_cells {K : PySem.W.Frag} {h : Heap} {mg : Str → Option Value} (X : K.In h) (G : h.Ns mainGlobals mg) (c : He.SaysD fa fn K) : Has K mg "possible_cells" s_possible_cells := ⟨c.def_ 7 (d := d_possible_cells) rfl, He.glo_ok X G (c.fact 7 (f := .glo "possible_cells") rfl)⟩
theorem has_law_stream {K : PySem.W.Frag} {h : Heap} {mg : Str → Option Value} (X : K.In h) (G : h.Ns mainGlobals mg) (c : He.SaysD fa fn K) : Has K mg "_law_stream" s_law_stream := ⟨c.def_ 8 (d := d_law_stream) rfl, He.glo_ok X G (c.fact 8 (f := .glo "_law_stream") rfl)⟩
theorem has_law_draw {K : PySem.W.Frag} {h : Heap} {mg : Str → Option Value} (X : K.In h) (G : h.Ns mainGlobals mg) (c : He.SaysD fa fn K) : Has K mg "_law_draw" s_law_draw := ⟨c.def_ 9 (d := d_law_draw) rfl, He.glo_ok X G (c.fact 9 (f := .glo "_law_draw") rfl)⟩
theorem has_law_pick {K : PySem.W.Frag} {h : Heap} {mg : Str → Option Value} (X : K.In h) (G : h.Ns mainGlobals mg) (c : He.SaysD fa fn K) : Has K mg "_law_pick" s_law_pick := ⟨c.def_ 10 (d := d_law_pick) rfl, He.glo_ok X G (c.fact 10 (f := .glo "_law_pick") rfl)⟩
theorem has_law_value {K : PySem.W.Frag} {h : Heap} {mg : Str → Option Value} (X : K.In h) (G : h.Ns mainGlobals mg) (c : He.SaysD fa fn K) : Has K mg "_law_value" s_law_value := ⟨c.def_ 11 (d := d_law_value) rfl, He.glo_ok X G (c.fact 11 (f := .glo "_law_value") rfl)⟩
theorem has_law_cells {K : PySem.W.Frag} {h : Heap} {mg : Str → Option Value} (X : K.In h) (G : h.Ns mainGlobals mg) (c : He.SaysD fa fn K) : Has K mg "_law_cells" s_law_cells := ⟨c.def_ 12 (d := d_law_cells) rfl, He.glo_ok X G (c.fact 12 (f := .glo "_law_cells") rfl)⟩
theorem has_law_plan {K : PySem.W.Frag} {h : Heap} {mg : Str → Option Value} (X : K.In h) (G : h.Ns mainGlobals mg) (c : He.SaysD fa fn K) : Has K mg "_law_plan" s_law_plan := ⟨c.def_ 13 (d := d_law_plan) rfl, He.glo_ok X G (c.fact 13 (f := .glo "_law_plan") rfl)⟩
theorem has_law_fill {K : PySem.W.Frag} {h : Heap} {mg : Str → Option Value} (X : K.In h) (G : h.Ns mainGlobals mg) (c : He.SaysD fa fn K) : Has K mg "_law_fill" s_law_fill := ⟨c.def_ 14 (d := d_law_fill) rfl, He.glo_ok X G (c.fact 14 (f := .glo "_law_fill") rfl)⟩
theorem has_law_nodes {K : PySem.W.Frag} {h : Heap} {mg : Str → Option Value} (X : K.In h) (G : h.Ns mainGlobals mg) (c : He.SaysD fa fn K) : Has K mg "_law_nodes" s_law_nodes := ⟨c.def_ 15 (d := d_law_nodes) rfl, He.glo_ok X G (c.fact 15 (f := .glo "_law_nodes") rfl)⟩
theorem has_law_width {K : PySem.W.Frag} {h : Heap} {mg : Str → Option Value} (X : K.In h) (G : h.Ns mainGlobals mg) (c : He.SaysD fa fn K) : Has K mg "_law_width" s_law_width := ⟨c.def_ 16 (d := d_law_width) rfl, He.glo_ok X G (c.fact 16 (f := .glo "_law_width") rfl)⟩
theorem has_law_ends_right {K : PySem.W.Frag} {h : Heap} {mg : Str → Option Value} (X : K.In h) (G : h.Ns mainGlobals mg) (c : He.SaysD fa fn K) : Has K mg "_law_ends_right" s_law_ends_right := ⟨c.def_ 17 (d := d_law_ends_right) rfl, He.glo_ok X G (c.fact 17 (f := .glo "_law_ends_right") rfl)⟩
theorem has_law {K : PySem.W.Frag} {h : Heap} {mg : Str → Option Value} (X : K.In h) (G : h.Ns mainGlobals mg) (c : He.SaysD fa fn K) : Has K mg "law" s_law := ⟨c.def_ 18 (d := d_law) rfl, He.glo_ok X G (c.fact 18 (f := .glo "law") rfl)⟩

theorem facts {P : Program} {w : World} {K : PySem.W.Frag} {h : Heap} {mg : Str → Option Value} {f : Addr} (X : K.In h) (G : h.Ns mainGlobals mg) (hfa : mg ("law" : Str) = some (.ref f)) (c : He.SaysX fa fn [] tf ex w h K) :
    ∃ (fd : FuncData) (PT : Addr) (c0 : Addr), (PT = (He.cT K ("value_span", none)).2) ∧ (c0 = (He.cT K ("value_span", none)).1) ∧ (∀ (s : Shared) (u : Value), BindsTo s fd ⟨[u], []⟩ [("_law_script", u)]) ∧
      ∀ base : Heap, LamX.TabB base mg c0 PT → FnOk P w K mg base CX0 24 f fd ["_law_script"] (LSp K (fs_law PT)) := by
  have cd := c.t.d
  have T := txt X G cd
  obtain ⟨f_merge_values, F_merge_values⟩ := has_merge_values X G cd |>.ex
  have g_merge_values := (has_merge_values X G cd).at_
  obtain ⟨f_merged_cell, F_merged_cell⟩ := has_merged_cell X G cd |>.ex
  have g_merged_cell := (has_merged_cell X G cd).at_
  obtain ⟨f_apply_cells, F_apply_cells⟩ := has_apply_cells X G cd |>.ex
  have g_apply_cells := (has_apply_cells X G cd).at_
  obtain ⟨f_with_item, F_with_item⟩ := has_with_item X G cd |>.ex
  have g_with_item := (has_with_item X G cd).at_
  obtain ⟨f_outcome, F_outcome⟩ := has_outcome X G cd |>.ex
  have g_outcome := (has_outcome X G cd).at_
  obtain ⟨f_least_value, F_least_value⟩ := has_least_value X G cd |>.ex
  have g_least_value := (has_least_value X G cd).at_
  obtain ⟨f_value_span, F_value_span⟩ := has_value_span X G cd |>.ex
  have g_value_span := (has_value_span X G cd).at_
  obtain ⟨f_possible_cells, F_possible_cells⟩ := has_possible_cells X G cd |>.ex
  have g_possible_cells := (has_possible_cells X G cd).at_
  obtain ⟨f_law_stream, F_law_stream⟩ := has_law_stream X G cd |>.ex
  have g_law_stream := (has_law_stream X G cd).at_
  obtain ⟨f_law_draw, F_law_draw⟩ := has_law_draw X G cd |>.ex
  have g_law_draw := (has_law_draw X G cd).at_
  obtain ⟨f_law_pick, F_law_pick⟩ := has_law_pick X G cd |>.ex
  have g_law_pick := (has_law_pick X G cd).at_
  obtain ⟨f_law_value, F_law_value⟩ := has_law_value X G cd |>.ex
  have g_law_value := (has_law_value X G cd).at_
  obtain ⟨f_law_cells, F_law_cells⟩ := has_law_cells X G cd |>.ex
  have g_law_cells := (has_law_cells X G cd).at_
  obtain ⟨f_law_plan, F_law_plan⟩ := has_law_plan X G cd |>.ex
  have g_law_plan := (has_law_plan X G cd).at_
  obtain ⟨f_law_fill, F_law_fill⟩ := has_law_fill X G cd |>.ex
  have g_law_fill := (has_law_fill X G cd).at_
  obtain ⟨f_law_nodes, F_law_nodes⟩ := has_law_nodes X G cd |>.ex
  have g_law_nodes := (has_law_nodes X G cd).at_
  obtain ⟨f_law_width, F_law_width⟩ := has_law_width X G cd |>.ex
  have g_law_width := (has_law_width X G cd).at_
  obtain ⟨f_law_ends_right, F_law_ends_right⟩ := has_law_ends_right X G cd |>.ex
  have g_law_ends_right := (has_law_ends_right X G cd).at_
  obtain ⟨fd, F⟩ := has_law X G cd |>.ex
  have e := hfa.symm.trans (has_law X G cd).at_
  cases e
  have b := FunD.bindsA (ps := ["_law_script"]) F fun _ _ _ _ _ _ us hl => match us, hl with | [_], _ => rfl
  have hcode : f_value_span.code = .ref (He.cT K ("value_span", none)).1 := by
    obtain ⟨oc, od, dV, kV, doc, pm, an, cdv, ct, osl, e, lk, hcd, _, _⟩ := F_value_span.ex
    subst e
    obtain ⟨c0, rfl⟩ := He.codeIn_ref hcd
    exact congrArg Value.ref (He.codeOf_eq lk rfl).symm
  refine ⟨fd, _, _, rfl, rfl, fun s u => b s [u] rfl, fun base TB => ?_⟩
  have C_merge_values := ok_mv (P := P) (w := w) (base := base) T F_merge_values g_merge_values
  have C_merged_cell := ok_mc (P := P) (w := w) (base := base) T F_merged_cell g_merged_cell C_merge_values
  have C_apply_cells := ok_ac (P := P) (w := w) (base := base) T F_apply_cells g_apply_cells C_merged_cell 15
  have C_draw := ok_draw (P := P) (w := w) (base := base) T F_law_draw g_law_draw
  have C_stream := ok_stream (P := P) (w := w) (base := base) T F_law_stream g_law_stream
  have C_pick := ok_pick (P := P) (w := w) (base := base) T F_law_pick g_law_pick C_draw
  have C_value := ok_value (P := P) (w := w) (base := base) T F_law_value g_law_value C_draw
  have C_cells := ok_cells (P := P) (w := w) (base := base) T F_law_cells g_law_cells C_draw C_value
  have C_plan := ok_plan (P := P) (w := w) (base := base) T F_law_plan g_law_plan C_draw C_pick
  have C_fill := ok_fill (P := P) (w := w) (base := base) T F_law_fill g_law_fill
  have C_with_item := ok_with_item (P := P) (w := w) (base := base) T F_with_item g_with_item
  have C_outcome := ok_outcome (P := P) (w := w) (base := base) T F_outcome g_outcome C_apply_cells C_with_item
  have C_span := ok_span (P := P) (w := w) (base := base) T F_value_span hcode TB g_value_span C_outcome F_least_value g_least_value
  have C_possible := ok_possible (P := P) (w := w) (base := base) T F_possible_cells g_possible_cells C_outcome C_span
  have C_nodes := ok_nodes (P := P) (w := w) (base := base) T F_law_nodes g_law_nodes C_draw C_plan
  have C_width := ok_width (P := P) (w := w) (base := base) T F_law_width g_law_width
  have C_ends := ok_ends (P := P) (w := w) (base := base) T F_law_ends_right g_law_ends_right C_apply_cells C_fill
  exact ok_law (P := P) (w := w) (base := base) T F C_stream C_draw C_value C_cells C_nodes C_fill C_width C_ends C_apply_cells C_possible
end W
open PySem PySem.W PySem.Calls PyProof.Rows
theorem PySem.Challenge.cw_tablemerge_k40_whole_possible_cells_ther_holds : PySem.Challenge.rw_tablemerge_k40_whole_possible_cells_ther.Holds := by
  w_on; o_law
  refine HandSHeadRun.head_any (r := OpenLaw.row PySem.Challenge.rw_tablemerge_k40_whole_possible_cells_ther) (q := view (OpenLaw.row PySem.Challenge.rw_tablemerge_k40_whole_possible_cells_ther).prog [23]) (H := W.hk) (ob := W.ob) (M := 2000) (loose := W.names) (d := HandSHeadRun.topDef (OpenLaw.row PySem.Challenge.rw_tablemerge_k40_whole_possible_cells_ther).prog 23) (kwd := []) W.ob_eq
    (by kernel_rfl) (fun s => by kernel_rfl) W.run (by kernel_rfl) (by kernel_rfl) (by kernel_rfl) (by rfl) (by first | assumption | decide +kernel) (by decide +kernel) ⟨rfl, rfl, rfl, rfl, rfl, by decide +kernel⟩ ?hw ?hc
  case hw => w_witness2
  case hc =>
    refine LamX.walk_ofTsE (l := PySem.Challenge.rw_tablemerge_k40_whole_possible_cells_ther) (n := 63) (k := 24) (x := "_law_script") (CX := fun _ => L2.CX0) rfl (by decide) (by kernel_rfl) ⟨rfl, by decide, by decide⟩ ?F (fun _ _ _ _ _ z => z)
    intro w mg fa h Y G hmg0
    obtain ⟨K, KX, c⟩ := Y
    have hmg : mg ("law" : PySem.Str) = some (.ref fa) := by
      have e : (HandSHeadRun.topDef (OpenLaw.row PySem.Challenge.rw_tablemerge_k40_whole_possible_cells_ther).prog 23).name = ("law" : PySem.Str) := by kernel_rfl
      rw [← e]
      exact hmg0
    obtain ⟨fd, PT, c0, ePT, ec0, hb, hF⟩ := W.facts (P := (PySem.Challenge.rw_tablemerge_k40_whole_possible_cells_ther).prog) (w := w) KX G hmg c
    have mem : (("value_span", none) : He.Defn) ∈ W.tf := List.mem_singleton.mpr rfl
    refine ⟨K, KX, fd, [(c0, PT)], DL.LSp K (W.fs_law PT), ?_, ?_, ?_, hb, ?_, ?_⟩
    · intro p hp
      rw [List.mem_singleton.mp hp, ePT]
      exact c.empty _ mem
    · intro p hp
      rw [List.mem_singleton.mp hp, ePT]
      exact c.out _ mem
    · intro p hp
      rw [List.mem_singleton.mp hp, ePT, ec0]
      exact PySem.W.codeHd_of_K KX (c.hd _ mem)
    · intro H a ns hl _ hH hS
      exact DL.law_start (hH (c0, PT) (List.mem_singleton.mpr rfl)) hS fun M hM Q q => ⟨ns, rfl, hl, hM, q⟩
    · intro base KB NB TB
      exact hF base (TB (c0, PT) (List.mem_singleton.mpr rfl))
