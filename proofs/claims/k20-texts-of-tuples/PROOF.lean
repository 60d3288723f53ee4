import PyProof.Rows.All
import Wide.All
import OpenK.AllK
import Wide.FinOn
import HandS.ForMost
import HandS.ForExc
import HandS.CallSlots
import HandS.TupAny
import HandS.Flow
import KE.DataEq
import KE.DataAny
import KE.DataIsa
import KE.DataCmp
import KE.DataMinMax
import KE.SortData
import HandS.ExcInit
import HandS.ExcOwn
import HandS.ExcField
import HandS.TryOnly
import KE.GoesRaise
import HandS.Ends
import HandS.EndBits
import HandS.ClsMeth
import HandS.Codes
import PySem.Challenge.RW_fitbypapers_k20_texts_of_tuples
set_option Elab.async false
set_option linter.all false
set_option maxRecDepth 100000
set_option maxHeartbeats 1000000
/-! DL: a data layer over HandS: an expression's meaning is a pure function on environments of data. -/
namespace DL
open PySem PySem.Spec PyProof.Rows L2

/-- an error: its class by its global name, its one attribute -/
structure Er where
  cls : Str
  pay : Option (Str × PyData) := none

/-- a value: data; a place of the local store; a global by its name; a caught error -/
inductive D where
  | p (x : PyData)
  | loc (n : Nat)
  | nm (x : Str)
  | scr (ns : List Int)

/-- what stands at a place of the local store -/
inductive Cell where
  | lst (xs : List PyData)
  | dK (kvs : List (Key × PyData))
  | dT (kvs : List (List Key × PyData))
  | obj (c : Str) (fs : List (Str × D))
  | dead

/-- the state: slots, the local store -/
structure Sg where
  s : List (Option D)
  m : List Cell

inductive Rs (α : Type) where
  | ok (a : α) (s : Sg)
  | er (e : Er) (s : Sg)
  | bad

abbrev M (α : Type) := Sg → Rs α
def Rs.bind {α β : Type} : Rs α → (α → M β) → Rs β
  | .ok a s, f => f a s
  | .er e s, _ => .er e s
  | .bad, _ => .bad
def M.bind {α β : Type} (x : M α) (f : α → M β) : M β := fun s => (x s).bind f
def M.ret {α : Type} (a : α) : M α := fun s => .ok a s
def M.bad {α : Type} : M α := fun _ => .bad
def M.opt {α : Type} : Option α → M α
  | some a => M.ret a
  | none => M.bad

/-! ### the heap with its parts: what may change (F), the local store's addresses (θ) -/
structure Wd where
  H : Hp
  F : Addr → Prop
  θ : List Addr
  al : ∀ b, F b → H b ≠ none
open Classical in
noncomputable def hide (H : Hp) (F : Addr → Prop) : Hp := fun b => if F b then none else H b
theorem hide_no {H : Hp} {F : Addr → Prop} {b : Addr} (h : ¬ F b) : hide H F b = H b := by unfold hide; rw [if_neg h]
theorem hide_some {H : Hp} {F : Addr → Prop} {b : Addr} {o : HO} (h : hide H F b = some o) : ¬ F b ∧ H b = some o := by
  unfold hide at h
  split at h
  · cases h
  · rename_i q; exact ⟨q, h⟩
theorem hide_same {H : Hp} {F : Addr → Prop} : Same (hide H F) H := fun _ _ h => (hide_some h).2
noncomputable abbrev Wd.Z (w : Wd) : Hp := hide w.H w.F

mutual
/-- a value reads as a datum; lists are tracked ones -/
inductive RD (K : PySem.W.Frag) (H : Hp) : V → PyData → Prop
  | non : RD K H .non .none
  | bl (b : Bool) : RD K H (.bl b) (.bool b)
  | int (i : Int) : RD K H (.int i) (.int i)
  | str (x : Str) : RD K H (.str x) (.str x)
  | lst {a : Addr} {xs : List V} {ds : List PyData} : H a = some (.lst xs) → RDAll K H xs ds → RD K H (.ref a) (.list ds)
  | tup {a : Addr} {xs : List V} {ds : List PyData} : SqT K H a xs → RDAll K H xs ds → RD K H (.ref a) (.tuple ds)
inductive RDAll (K : PySem.W.Frag) (H : Hp) : List V → List PyData → Prop
  | nil : RDAll K H [] []
  | cons {v : V} {vs : List V} {d : PyData} {ds : List PyData} : RD K H v d → RDAll K H vs ds → RDAll K H (v :: vs) (d :: ds)
end
mutual
theorem RD.dp {K : PySem.W.Frag} {H : Hp} : ∀ {v : V} {d : PyData}, RD K H v d → Dp K H v d
  | _, _, .non => .non
  | _, _, .bl b => .bl b
  | _, _, .int i => .int i
  | _, _, .str x => .str x
  | _, _, .lst h t => .lst (SqL.of h) t.dp
  | _, _, .tup h t => .tup h t.dp
theorem RDAll.dp {K : PySem.W.Frag} {H : Hp} : ∀ {v : List V} {d : List PyData}, RDAll K H v d → DpAll K H v d
  | _, _, .nil => .nil
  | _, _, .cons h t => .cons h.dp t.dp
end
mutual
theorem dp_mono {K : PySem.W.Frag} {H H' : Hp} (e : Same H H') : ∀ {v : V} {d : PyData}, RD K H v d → RD K H' v d
  | _, _, .non => .non
  | _, _, .bl b => .bl b
  | _, _, .int i => .int i
  | _, _, .str x => .str x
  | _, _, .lst h t => .lst (e _ _ h) (dpAll_mono e t)
  | _, _, .tup h t => .tup (Evl_ex_t e h) (dpAll_mono e t)
theorem dpAll_mono {K : PySem.W.Frag} {H H' : Hp} (e : Same H H') : ∀ {v : List V} {d : List PyData}, RDAll K H v d → RDAll K H' v d
  | _, _, .nil => .nil
  | _, _, .cons h t => .cons (dp_mono e h) (dpAll_mono e t)
theorem Evl_ex_t {K : PySem.W.Frag} {H H' : Hp} {a : Addr} {xs : List V} (e : Same H H') (h : SqT K H a xs) : SqT K H' a xs := by
  rcases h with (h | ⟨o, h⟩) | h
  · exact .inl (.inl (e _ _ h))
  · exact .inl (.inr ⟨o, e _ _ h⟩)
  · exact .inr h
end
end DL
namespace DL
open PySem PySem.Spec PyProof.Rows L2
/-! ### what a value is -/
def R (K : PySem.W.Frag) (mg : Str → Option Value) (w : Wd) (v : V) : D → Prop
  | .p x => RD K w.Z v x
  | .loc n => ∃ a, w.θ[n]? = some a ∧ v = .ref a
  | .nm x => ∃ u, mg x = some u ∧ RelV v u
  | .scr ns => ∃ a, v = .ref a ∧ SqL K w.Z a (ns.map V.int)
/-- fields of an object -/
inductive RF (K : PySem.W.Frag) (mg : Str → Option Value) (w : Wd) : List (Str × V) → List (Str × D) → Prop
  | nil : RF K mg w [] []
  | cons {f : Str} {v : V} {d : D} {vs : List (Str × V)} {ds : List (Str × D)} : R K mg w v d → RF K mg w vs ds → RF K mg w ((f, v) :: vs) ((f, d) :: ds)
/-- entries of a dict -/
inductive RE {κ : Type} (K : PySem.W.Frag) (H : Hp) : List (κ × V) → List (κ × PyData) → Prop
  | nil : RE K H [] []
  | cons {k : κ} {v : V} {d : PyData} {vs : List (κ × V)} {ds : List (κ × PyData)} : RD K H v d → RE K H vs ds → RE K H ((k, v) :: vs) ((k, d) :: ds)
def CellR (K : PySem.W.Frag) (mg : Str → Option Value) (w : Wd) (a : Addr) : Cell → Prop
  | .lst xs => ∃ vs, w.H a = some (.lst vs) ∧ RDAll K w.Z vs xs
  | .dK kvs => ∃ vs, w.H a = some (.dK vs) ∧ RE K w.Z vs kvs
  | .dT kvs => ∃ vs, w.H a = some (.dT vs) ∧ RE K w.Z vs kvs
  | .obj c fs => ∃ C dx vs, mg c = some (.ref C) ∧ w.H a = some (.ins C dx vs) ∧ RF K mg w vs fs
  | .dead => True
def Cell.live : Cell → Bool
  | .dead => false
  | _ => true

structure Rel (K : PySem.W.Frag) (mg : Str → Option Value) (w : Wd) (σ : L2.St) (ρ : Sg) : Prop where
  slots : ∀ (i : Nat) (d : D), ρ.s[i]? = some (some d) → ∃ v : V, σ[i]? = some (some v) ∧ R K mg w v d
  len : w.θ.length = ρ.m.length
  cells : ∀ (n : Nat) (a : Addr) (c : Cell), w.θ[n]? = some a → ρ.m[n]? = some c → c.live = true → w.F a ∧ CellR K mg w a c
  nd : w.θ.Nodup
  alive : ∀ a ∈ w.θ, w.H a ≠ none

structure Ext (w w' : Wd) : Prop where
  fro : ∀ b o, ¬ w.F b → w.H b = some o → ¬ w'.F b ∧ w'.H b = some o
  forn : ∀ b, w.F b → b ∉ w.θ → w'.F b ∧ w'.H b = w.H b
  pre : w.θ <+: w'.θ
  new : ∀ (n : Nat) (a : Addr), w.θ.length ≤ n → w'.θ[n]? = some a → w.H a = none
  live : ∀ b, w.H b ≠ none → w'.H b ≠ none
theorem Ext.refl (w : Wd) : Ext w w := ⟨fun _ _ h e => ⟨h, e⟩, fun _ h _ => ⟨h, rfl⟩, List.prefix_refl _, (fun n a h e => by
  rw [List.getElem?_eq_none h] at e
  cases e), fun _ h => h⟩
theorem Ext.trans {w w1 w2 : Wd} (a : Ext w w1) (b : Ext w1 w2) : Ext w w2 where
  fro := fun c o h e => let ⟨h1, e1⟩ := a.fro c o h e; b.fro c o h1 e1
  forn := fun c h n => by
    obtain ⟨h1, e1⟩ := a.forn c h n
    have n1 : c ∉ w1.θ := fun z => by
      obtain ⟨i, hi, q⟩ := List.mem_iff_getElem.mp z
      by_cases hl : i < w.θ.length
      · obtain ⟨t, ht⟩ := a.pre
        have : w.θ[i]? = some c := by
          have e2 : w1.θ[i]? = some c := by rw [List.getElem?_eq_getElem hi, q]
          rw [← ht, List.getElem?_append_left hl] at e2
          exact e2
        exact n (List.mem_of_getElem? this)
      · have := a.new i c (by omega) (by rw [List.getElem?_eq_getElem hi, q])
        exact w.al c h this
    obtain ⟨h2, e2⟩ := b.forn c h1 n1
    exact ⟨h2, e2.trans e1⟩
  pre := a.pre.trans b.pre
  new := fun n c h e => by
    by_cases hl : n < w1.θ.length
    · obtain ⟨t, ht⟩ := b.pre
      rw [← ht, List.getElem?_append_left hl] at e
      exact a.new n c h e
    · have := b.new n c (by omega) e
      cases q : w.H c with
      | none => rfl
      | some o => exact absurd this (a.live c (by rw [q]; simp))
  live := fun c h => b.live c (a.live c h)
theorem Ext.same {w w' : Wd} (e : Ext w w') : Same w.Z w'.Z := fun b o h => by
  obtain ⟨h1, h2⟩ := hide_some h
  obtain ⟨h3, h4⟩ := e.fro b o h1 h2
  show hide w'.H w'.F b = some o
  rw [hide_no h3]; exact h4
theorem Ext.dp {K : PySem.W.Frag} {w w' : Wd} (e : Ext w w') {v : V} {x : PyData} (h : RD K w.Z v x) : RD K w'.Z v x := dp_mono e.same h
theorem Ext.dpAll {K : PySem.W.Frag} {w w' : Wd} (e : Ext w w') {v : List V} {x : List PyData} (h : RDAll K w.Z v x) : RDAll K w'.Z v x := dpAll_mono e.same h
theorem pre_get {α : Type} {l l' : List α} (h : l <+: l') {n : Nat} {a : α} (e : l[n]? = some a) : l'[n]? = some a := by
  obtain ⟨t, rfl⟩ := h
  rw [List.getElem?_append_left (List.getElem?_eq_some_iff.mp e).1]; exact e
theorem Ext.r {K : PySem.W.Frag} {mg : Str → Option Value} {w w' : Wd} (e : Ext w w') {v : V} : ∀ {d : D}, R K mg w v d → R K mg w' v d
  | .p _, h => e.dp h
  | .loc _, ⟨a, h, q⟩ => ⟨a, pre_get e.pre h, q⟩
  | .nm _, h => h
  | .scr _, ⟨a, h, q⟩ => ⟨a, h, e.same.seq q⟩
theorem Ext.rf {K : PySem.W.Frag} {mg : Str → Option Value} {w w' : Wd} (e : Ext w w') : ∀ {vs : List (Str × V)} {ds : List (Str × D)}, RF K mg w vs ds → RF K mg w' vs ds
  | _, _, .nil => .nil
  | _, _, .cons h t => .cons (e.r h) (e.rf t)
theorem re_mono {κ : Type} {K : PySem.W.Frag} {H H' : Hp} (e : Same H H') : ∀ {vs : List (κ × V)} {ds : List (κ × PyData)}, RE K H vs ds → RE K H' vs ds
  | _, _, .nil => .nil
  | _, _, .cons h t => .cons (dp_mono e h) (re_mono e t)
/-- a cell stays, where its own object is the same -/
theorem CellR.stay {K : PySem.W.Frag} {mg : Str → Option Value} {w w' : Wd} (e : Ext w w') {a : Addr} (h : w'.H a = w.H a) : ∀ {c : Cell}, CellR K mg w a c → CellR K mg w' a c
  | .lst _, ⟨vs, q, r⟩ => ⟨vs, h.trans q, e.dpAll r⟩
  | .dK _, ⟨vs, q, r⟩ => ⟨vs, h.trans q, re_mono e.same r⟩
  | .dT _, ⟨vs, q, r⟩ => ⟨vs, h.trans q, re_mono e.same r⟩
  | .obj _ _, ⟨C, dx, vs, m, q, r⟩ => ⟨C, dx, vs, m, h.trans q, e.rf r⟩
  | .dead, _ => trivial

/-! ### a new object that does not change -/
def Wd.put (w : Wd) (p : Addr) (o : HO) : Wd where
  H := upd w.H p o
  F := w.F
  θ := w.θ
  al := fun b h => by
    by_cases e : b = p
    · subst e; rw [upd_same]; simp
    · rw [upd_ne e]; exact w.al b h
theorem upd_live {H : Hp} {p : Addr} {o : HO} {b : Addr} (h : H b ≠ none) : upd H p o b ≠ none := by
  by_cases e : b = p
  · subst e; rw [upd_same]; simp
  · rw [upd_ne e]; exact h
theorem Ext.put {w : Wd} {p : Addr} {o : HO} (n : w.H p = none) : Ext w (w.put p o) where
  fro := fun b u h e => ⟨h, by show upd w.H p o b = some u; rw [upd_ne (ne_of_none e n)]; exact e⟩
  forn := fun b h _ => ⟨h, by
    show upd w.H p o b = w.H b
    refine upd_ne fun z => ?_
    subst z; exact w.al _ h n⟩
  pre := List.prefix_refl _
  new := fun k a h e => by rw [show (w.put p o).θ = w.θ from rfl, List.getElem?_eq_none h] at e; cases e
  live := fun b h => upd_live h
theorem Rel.put {K : PySem.W.Frag} {mg : Str → Option Value} {w : Wd} {σ : L2.St} {ρ : Sg} {p : Addr} {o : HO} (r : Rel K mg w σ ρ) (n : w.H p = none) : Rel K mg (w.put p o) σ ρ where
  slots := fun i d h => let ⟨v, e, q⟩ := r.slots i d h; ⟨v, e, (Ext.put n).r q⟩
  len := r.len
  cells := fun k a c h1 h2 h3 => by
    obtain ⟨f, q⟩ := r.cells k a c h1 h2 h3
    exact ⟨f, q.stay (Ext.put n) (upd_ne fun z => by subst z; exact w.al _ f n)⟩
  nd := r.nd
  alive := fun a h => upd_live (r.alive a h)
theorem put_nf {w : Wd} {p : Addr} (n : w.H p = none) : ¬ w.F p := fun h => w.al p h n
theorem put_get {w : Wd} {p : Addr} {o : HO} (n : w.H p = none) : (w.put p o).Z p = some o := by
  show hide (upd w.H p o) w.F p = some o
  rw [hide_no (put_nf n), upd_same]
theorem put_lst {K : PySem.W.Frag} {w : Wd} {p : Addr} {vs : List V} {xs : List PyData} (n : w.H p = none) (h : RDAll K w.Z vs xs) : RD K (w.put p (.lst vs)).Z (.ref p) (.list xs) :=
  .lst (put_get n) ((Ext.put n).dpAll h)
theorem put_tup {K : PySem.W.Frag} {w : Wd} {p : Addr} {vs : List V} {xs : List PyData} (n : w.H p = none) (h : RDAll K w.Z vs xs) : RD K (w.put p (.tup vs)).Z (.ref p) (.tuple xs) :=
  .tup (SqT.of (put_get n)) ((Ext.put n).dpAll h)

/-! ### a new object of the local store -/
def Wd.own (w : Wd) (p : Addr) (o : HO) : Wd where
  H := upd w.H p o
  F := fun b => w.F b ∨ b = p
  θ := w.θ ++ [p]
  al := fun b h => by
    rcases h with h | h
    · exact upd_live (w.al b h)
    · subst h; rw [upd_same]; simp
theorem Ext.own {w : Wd} {p : Addr} {o : HO} (n : w.H p = none) : Ext w (w.own p o) where
  fro := fun b u h e => by
    have ne := ne_of_none e n
    exact ⟨fun z => z.elim h ne, by show upd w.H p o b = some u; rw [upd_ne ne]; exact e⟩
  forn := fun b h _ => ⟨.inl h, upd_ne fun z => by subst z; exact w.al _ h n⟩
  pre := List.prefix_append _ _
  new := fun k a h e => by
    rw [show (w.own p o).θ = w.θ ++ [p] from rfl, List.getElem?_append_right h] at e
    have : a = p := by
      cases q : k - w.θ.length with
      | zero => rw [q] at e; exact (Option.some.inj e).symm
      | succ j => rw [q] at e; simp at e
    subst this; exact n
  live := fun b h => upd_live h
theorem Rel.own {K : PySem.W.Frag} {mg : Str → Option Value} {w : Wd} {σ : L2.St} {s : List (Option D)} {m : List Cell} {p : Addr} {o : HO} {c : Cell} (r : Rel K mg w σ ⟨s, m⟩) (n : w.H p = none)
    (hc : CellR K mg (w.own p o) p c) : Rel K mg (w.own p o) σ ⟨s, m ++ [c]⟩ where
  slots := fun i d h => let ⟨v, e, q⟩ := r.slots i d h; ⟨v, e, (Ext.own n).r q⟩
  len := by show (w.θ ++ [p]).length = (m ++ [c]).length; have := r.len; simp at this ⊢; exact this
  cells := fun k a c' h1 h2 h3 => by
    have hl : w.θ.length = m.length := r.len
    have h1 : (w.θ ++ [p])[k]? = some a := h1
    have h2 : (m ++ [c])[k]? = some c' := h2
    by_cases hk : k < w.θ.length
    · rw [List.getElem?_append_left hk] at h1
      rw [List.getElem?_append_left (by omega)] at h2
      obtain ⟨f, q⟩ := r.cells k a c' h1 h2 h3
      exact ⟨.inl f, q.stay (Ext.own n) (upd_ne fun z => by subst z; exact w.al _ f n)⟩
    · have hk2 : k = w.θ.length := by
        have := (List.getElem?_eq_some_iff.mp h1).1
        simp at this; omega
      subst hk2
      rw [List.getElem?_append_right (Nat.le_refl _), Nat.sub_self] at h1
      rw [hl, List.getElem?_append_right (Nat.le_refl _), Nat.sub_self] at h2
      cases h1; cases h2
      exact ⟨.inr rfl, hc⟩
  nd := by
    show (w.θ ++ [p]).Nodup
    rw [List.nodup_append]
    refine ⟨r.nd, by simp, fun a ha b hb e => ?_⟩
    have : b = p := by simpa using hb
    subst this; subst e
    exact r.alive _ ha n
  alive := fun a h => by
    rcases List.mem_append.mp h with h | h
    · exact upd_live (r.alive a h)
    · have : a = p := by simpa using h
      subst this
      show upd w.H a o a ≠ none
      rw [upd_same]; simp

/-! ### an object of the local store is changed -/
def Wd.chg (w : Wd) (p : Addr) (o : HO) : Wd where
  H := upd w.H p o
  F := w.F
  θ := w.θ
  al := fun b h => upd_live (w.al b h)
theorem Ext.chg {w : Wd} {p : Addr} {o : HO} (f : w.F p) (t : p ∈ w.θ) : Ext w (w.chg p o) where
  fro := fun b u h e => ⟨h, by show upd w.H p o b = some u; rw [upd_ne fun z => by subst z; exact h f]; exact e⟩
  forn := fun b h n => ⟨h, upd_ne fun z => by subst z; exact n t⟩
  pre := List.prefix_refl _
  new := fun k a h e => by rw [show (w.chg p o).θ = w.θ from rfl, List.getElem?_eq_none h] at e; cases e
  live := fun b h => upd_live h
theorem Rel.chg {K : PySem.W.Frag} {mg : Str → Option Value} {w : Wd} {σ : L2.St} {s : List (Option D)} {m : List Cell} {k : Nat} {p : Addr} {o : HO} {c : Cell} (r : Rel K mg w σ ⟨s, m⟩) (hk : w.θ[k]? = some p) (f : w.F p)
    (hc : CellR K mg (w.chg p o) p c) : Rel K mg (w.chg p o) σ ⟨s, m.set k c⟩ := by
  have ex : Ext w (w.chg p o) := Ext.chg f (List.mem_of_getElem? hk)
  have hl : w.θ.length = m.length := r.len
  refine ⟨fun i d h => let ⟨v, e, q⟩ := r.slots i d h; ⟨v, e, ex.r q⟩, by show w.θ.length = (m.set k c).length; rw [List.length_set]; exact hl, fun j a c' h1 h2 h3 => ?_, r.nd, fun a h => upd_live (r.alive a h)⟩
  have h1 : w.θ[j]? = some a := h1
  have h2 : (m.set k c)[j]? = some c' := h2
  by_cases hj : k = j
  · subst hj
    rw [hk] at h1; cases h1
    rw [List.getElem?_set_self (by rw [← hl]; exact (List.getElem?_eq_some_iff.mp hk).1)] at h2
    cases h2
    exact ⟨f, hc⟩
  · rw [List.getElem?_set_ne hj] at h2
    obtain ⟨f', q⟩ := r.cells j a c' h1 h2 h3
    refine ⟨f', q.stay ex (upd_ne fun z => ?_)⟩
    subst z
    obtain ⟨i1, e1⟩ := List.getElem?_eq_some_iff.mp hk
    obtain ⟨i2, e2⟩ := List.getElem?_eq_some_iff.mp h1
    exact hj ((List.getElem_inj r.nd).mp (e1.trans e2.symm))
/-- slots changed -/
theorem Rel.slot {K : PySem.W.Frag} {mg : Str → Option Value} {w : Wd} {σ : L2.St} {s : List (Option D)} {m : List Cell} (r : Rel K mg w σ ⟨s, m⟩) (i : Nat) {v : V} {d : D} (h : R K mg w v d) (hi : i < σ.length) : Rel K mg w (σ.set i (some v)) ⟨s.set i (some d), m⟩ where
  slots := fun j d' h' => by
    have h' : (s.set i (some d))[j]? = some (some d') := h'
    by_cases e : i = j
    · subst e
      by_cases hl : i < s.length
      · rw [List.getElem?_set_self hl] at h'
        cases h'
        exact ⟨v, List.getElem?_set_self hi, h⟩
      · rw [List.getElem?_eq_none (by rw [List.length_set]; omega)] at h'; cases h'
    · rw [List.getElem?_set_ne e] at h'
      obtain ⟨v', e', q⟩ := r.slots j d' h'
      exact ⟨v', by rw [List.getElem?_set_ne e]; exact e', q⟩
  len := r.len
  cells := r.cells
  nd := r.nd
  alive := r.alive
end DL
namespace DL
open PySem PySem.Spec PyProof.Rows L2
/-! ### the judgements -/
def ErrR (K : PySem.W.Frag) (mg : Str → Option Value) (w : Wd) (ε : Er) (cls : Value) (dx : Option Addr) : Prop :=
  (∃ C, mg ε.cls = some (.ref C) ∧ cls = .ref C) ∧ match ε.pay with
    | none => dx = none
    | some (f, x) => ∃ d v, dx = some d ∧ w.H d = some (.xd [(f, v)]) ∧ ¬ w.F d ∧ RD K w.Z v x
theorem ErrR.ext {K : PySem.W.Frag} {mg : Str → Option Value} {w w' : Wd} (e : Ext w w') {ε : Er} {cls : Value} {dx : Option Addr} (h : ErrR K mg w ε cls dx) : ErrR K mg w' ε cls dx := by
  obtain ⟨h1, h2⟩ := h
  refine ⟨h1, ?_⟩
  revert h2
  cases ε.pay with
  | none => exact fun h => h
  | some q =>
    obtain ⟨f, x⟩ := q
    rintro ⟨d, v, e1, e2, e3, e4⟩
    obtain ⟨q1, q2⟩ := e.fro _ _ e3 e2
    exact ⟨d, v, e1, q2, q1, e.dp e4⟩
section
variable (X : Cx) (W : WX)
abbrev RelX (w : Wd) (σ : L2.St) (ρ : Sg) : Prop := Rel X.K X.mg w σ ρ ∧ σ.length = ρ.s.length
abbrev RX (w : Wd) (v : V) (d : D) : Prop := R X.K X.mg w v d
/-- what is to be shown of a result -/
def Ok1 {α : Type} (w : Wd) (σ : L2.St) (r : Rs α) (k : Wd → Sg → α → Prop) : Prop :=
  match r with
  | .ok a ρ' => ∀ w', Ext w w' → RelX X w' σ ρ' → k w' ρ' a
  | .er ε ρ' => ∀ w' cls dx, Ext w w' → RelX X w' σ ρ' → ErrR X.K X.mg w' ε cls dx → W cls dx σ w'.H
  | .bad => False
/-- an expression means g -/
structure DE (e : Expr) (g : M D) : Prop where
  run : ∃ t, PE X e t ∧ ∀ (w : Wd) (σ : L2.St) (ρ : Sg) (Q : VK), RelX X w σ ρ → Ok1 X W w σ (g ρ) (fun w' _ d => ∀ v, RX X w' v d → Q v w'.H) → t σ w.H Q
structure DT (e : Expr) (g : M Bool) : Prop where
  run : ∃ t, PT X e t ∧ ∀ (w : Wd) (σ : L2.St) (ρ : Sg) (Q : Bool → Hp → Prop), RelX X w σ ρ → Ok1 X W w σ (g ρ) (fun w' _ b => Q b w'.H) → t σ w.H Q
structure DW (e : Expr) (g : M Bool) : Prop where
  run : ∃ t, PW X e t ∧ ∀ (w : Wd) (σ : L2.St) (ρ : Sg) (Q : Bool → Hp → Prop), RelX X w σ ρ → Ok1 X W w σ (g ρ) (fun w' _ b => Q b w'.H) → t σ w.H Q
/-- values, one by one -/
inductive RL (w : Wd) : List V → List D → Prop
  | nil : RL w [] []
  | cons {v : V} {d : D} {vs : List V} {ds : List D} : RX X w v d → RL w vs ds → RL w (v :: vs) (d :: ds)
structure DA (es : List Expr) (g : M (List D)) : Prop where
  run : ∃ t, PA X es t ∧ ∀ (w : Wd) (σ : L2.St) (ρ : Sg) (Q : List V → Hp → Prop), RelX X w σ ρ → Ok1 X W w σ (g ρ) (fun w' _ ds => ∀ vs, RL X w' vs ds → Q vs w'.H) → t σ w.H Q
end
section
variable {X : Cx} {W : WX}
theorem Ok1.bind {α β : Type} {w : Wd} {σ : L2.St} {r : Rs α} {f : α → M β} {k : Wd → Sg → β → Prop} (h : Ok1 X W w σ (r.bind f) k) : Ok1 X W w σ r (fun w1 ρ1 a => Ok1 X W w1 σ (f a ρ1) k) := by
  cases r with
  | bad => exact h
  | er ε ρ' => exact h
  | ok a ρ' =>
    intro w1 e1 r1
    have h : Ok1 X W w σ (f a ρ') k := h
    show Ok1 X W w1 σ (f a ρ') k
    revert h
    cases f a ρ' with
    | bad => exact id
    | er ε ρ2 => exact fun h w2 c d e2 r2 q => h w2 c d (e1.trans e2) r2 q
    | ok b ρ2 => exact fun h w2 e2 r2 => h w2 (e1.trans e2) r2
theorem Ok1.imp {α : Type} {w : Wd} {σ : L2.St} {r : Rs α} {k k' : Wd → Sg → α → Prop} (h : Ok1 X W w σ r k) (hk : ∀ w' ρ' a, Ext w w' → RelX X w' σ ρ' → k w' ρ' a → k' w' ρ' a) : Ok1 X W w σ r k' := by
  cases r with
  | bad => exact h
  | er ε ρ' => exact h
  | ok a ρ' => exact fun w1 e1 r1 => hk _ _ _ e1 r1 (h w1 e1 r1)
/-- the same from a later world -/
theorem Ok1.later {α : Type} {w w1 : Wd} {σ : L2.St} {r : Rs α} {k : Wd → Sg → α → Prop} (e : Ext w w1) (h : Ok1 X W w σ r k) : Ok1 X W w1 σ r k := by
  cases r with
  | bad => exact h
  | er ε ρ' => exact fun w2 c d e2 => h w2 c d (e.trans e2)
  | ok a ρ' => exact fun w2 e2 => h w2 (e.trans e2)
theorem RL.ext {w w' : Wd} (e : Ext w w') : ∀ {vs : List V} {ds : List D}, RL X w vs ds → RL X w' vs ds
  | _, _, .nil => .nil
  | _, _, .cons h t => .cons (e.r h) (t.ext e)
theorem RelX.put {w : Wd} {σ : L2.St} {ρ : Sg} {p : Addr} {o : HO} (r : RelX X w σ ρ) (n : w.H p = none) : RelX X (w.put p o) σ ρ := ⟨r.1.put n, r.2⟩

/-! ### names and constants -/
def gVar (i : Nat) : M D := fun ρ => match ρ.s[i]? with
  | some (some d) => .ok d ρ
  | _ => .bad
def gC (x : PyData) : M D := M.ret (.p x)
theorem de_pe {e : Expr} {g : M D} {t : TE} (h : PE X e t) (q : ∀ (w : Wd) (σ : L2.St) (ρ : Sg) (Q : VK), RelX X w σ ρ → Ok1 X W w σ (g ρ) (fun w' _ d => ∀ v, RX X w' v d → Q v w'.H) → t σ w.H Q) : DE X W e g := ⟨t, h, q⟩
theorem de_name (i : Nat) {x : Str} {pos : Pos} (hN : X.N[i]? = some x := by rfl) (hv : Vis X.env.scope x := by first | exact Or.inl rfl | exact Or.inr (Or.inl rfl) | exact Or.inr (Or.inr rfl)) (hd : (x == ("__debug__" : Str)) = false := by decide)
    (hcd : (x == ("__classdict__" : Str)) = false := by decide) : DE X W (.Name x pos) (gVar i) := de_pe (pe_var hN hv hd hcd) fun w σ ρ Q r h => by
  unfold gVar at h
  cases e : ρ.s[i]? with
  | none => rw [e] at h; exact h.elim
  | some o =>
    cases o with
    | none => rw [e] at h; exact h.elim
    | some d =>
      rw [e] at h
      obtain ⟨v, e1, q⟩ := r.1.slots i d e
      exact ⟨v, e1, h w (Ext.refl w) r v q⟩
theorem de_c {e : Expr} {v : V} {x : PyData} (h : PE X e (tC v)) (hv : ∀ w : Wd, RD X.K w.Z v x) : DE X W e (gC x) := de_pe h fun w σ ρ Q r q => q w (Ext.refl w) r v (hv w)
theorem de_int {i j pos} : DE X W (.Constant (.int i) j pos) (gC (.int i)) := de_c pe_int fun _ => .int i
theorem de_bl {b j pos} : DE X W (.Constant (.bool b) j pos) (gC (.bool b)) := de_c pe_bl fun _ => .bl b
theorem de_non {j pos} : DE X W (.Constant .none j pos) (gC .none) := de_c pe_non fun _ => .non
theorem de_str {x j pos} : DE X W (.Constant (.str x) j pos) (gC (.str x)) := de_c pe_str fun _ => .str x
/-- a constant of the module -/
theorem de_glob {x : Str} {v : V} {u : Value} {pos : Pos} {d : PyData} (hg : Gl X x) (hm : X.mg x = some u) (r : RelV v u) (hv : ∀ w : Wd, RD X.K w.Z v d) (hd : (x == ("__debug__" : Str)) = false := by decide) : DE X W (.Name x pos) (gC d) :=
  de_c (pe_glob hg hm r hd) hv

/-! ### two operands -/
def gBin (f : D → D → M D) (ga gb : M D) : M D := ga.bind fun a => gb.bind fun b => f a b
/-- an operation by values means f -/
def DOp (X : Cx) (W : WX) (r : R2) (f : D → D → M D) : Prop :=
  ∀ (w : Wd) (σ : L2.St) (ρ : Sg) (x y : V) (a b : D) (Q : VK), RelX X w σ ρ → RX X w x a → RX X w y b → Ok1 X W w σ (f a b ρ) (fun w' _ d => ∀ v, RX X w' v d → Q v w'.H) → r x y w.H Q
theorem de_tOp {e a b : Expr} {ga gb : M D} {r : R2} {f : D → D → M D} (ha : DE X W a ga) (hb : DE X W b gb) (hf : DOp X W r f) (he : ∀ ta tb, PE X a ta → PE X b tb → PE X e (tOp r ta tb)) : DE X W e (gBin f ga gb) := by
  obtain ⟨ta, pa, qa⟩ := ha.run
  obtain ⟨tb, pb, qb⟩ := hb.run
  refine ⟨_, he _ _ pa pb, fun w σ ρ Q r h => ?_⟩
  refine qa w σ ρ _ r (Ok1.imp (Ok1.bind h) fun w1 ρ1 a e1 r1 h1 v rv => ?_)
  refine qb w1 σ ρ1 _ r1 (Ok1.imp (Ok1.bind h1) fun w2 ρ2 b e2 r2 h2 u ru => ?_)
  exact hf w2 σ ρ2 v u a b Q r2 (e2.r rv) ru h2
theorem de_op {op : Operator} {a b : Expr} {pos : Pos} {ga gb : M D} {r : R2} {f : D → D → M D} (ho : OpR X (binaryOp op) r) (hf : DOp X W r f) (ha : DE X W a ga) (hb : DE X W b gb) : DE X W (.BinOp a op b pos) (gBin f ga gb) :=
  de_tOp ha hb hf fun _ _ pa pb => pe_op ho pa pb
theorem de_cmp {op : CmpOp} {a b : Expr} {pos : Pos} {ga gb : M D} {r : R2} {f : D → D → M D} (ho : OpR X (compareOp op) r) (hf : DOp X W r f) (ha : DE X W a ga) (hb : DE X W b gb) (hm : behindInMarks op b = false) : DE X W (.Compare a [op] [b] pos) (gBin f ga gb) :=
  de_tOp ha hb hf fun _ _ pa pb => pe_cmpR ho pa pb hm
theorem de_ix {a b : Expr} {pos : Pos} {ga gb : M D} {r : R2} {f : D → D → M D} (ho : IxR X r) (hf : DOp X W r f) (ha : DE X W a ga) (hb : DE X W b gb) (hs : PlainIx b := by exact fun _ _ => rfl) : DE X W (.Subscript a b pos) (gBin f ga gb) :=
  de_tOp ha hb hf fun _ _ pa pb => pe_ix ho pa pb hs

/-- the datum that a value reads as -/
def peek : D → M PyData
  | .p x => M.ret x
  | .loc n => fun ρ => match ρ.m[n]? with
    | some (.lst xs) => .ok (.list xs) ρ
    | _ => .bad
  | .nm _ => M.bad
  | .scr _ => M.bad
theorem peek_loc {w : Wd} {σ : L2.St} {ρ : Sg} {v : V} {n : Nat} {xs : List PyData} (r : RelX X w σ ρ) (rv : RX X w v (.loc n)) (h : ρ.m[n]? = some (.lst xs)) : ∃ a vs, v = .ref a ∧ w.θ[n]? = some a ∧ w.F a ∧ w.H a = some (.lst vs) ∧ RDAll X.K w.Z vs xs := by
  obtain ⟨a, h1, h2⟩ := rv
  obtain ⟨f, vs, h3, h4⟩ := r.1.cells n a _ h1 h rfl
  exact ⟨a, vs, h2, h1, f, h3, h4⟩
/-- peek hands on the datum, which the value reads as in the whole heap -/
theorem Ok1.peek {β : Type} {w : Wd} {σ : L2.St} {ρ : Sg} {v : V} {d : D} {f : PyData → M β} {k : Wd → Sg → β → Prop} (r : RelX X w σ ρ) (rv : RX X w v d) (h : Ok1 X W w σ ((peek d).bind f ρ) k) : ∃ x, RD X.K w.H v x ∧ Ok1 X W w σ (f x ρ) k := by
  cases d with
  | p x => exact ⟨x, dp_mono hide_same rv, h⟩
  | nm x => exact h.elim
  | scr x => exact h.elim
  | loc n =>
    have h : Ok1 X W w σ ((match ρ.m[n]? with | some (.lst xs) => (.ok (.list xs) ρ : Rs PyData) | _ => .bad).bind f) k := h
    cases e : ρ.m[n]? with
    | none => rw [e] at h; exact h.elim
    | some c =>
      rw [e] at h
      cases c with
      | lst xs =>
        obtain ⟨a, vs, rfl, _, _, h1, h2⟩ := peek_loc r rv e
        exact ⟨.list xs, .lst h1 (dpAll_mono hide_same h2), h⟩
      | dK _ => exact h.elim
      | dT _ => exact h.elim
      | obj _ _ => exact h.elim
      | dead => exact h.elim
/-- the value of a flat datum -/
def vof : PyData → Option V
  | .none => some .non
  | .bool b => some (.bl b)
  | .int i => some (.int i)
  | .str x => some (.str x)
  | _ => none
theorem vof_dp {K : PySem.W.Frag} {H : Hp} {x : PyData} {v : V} (h : vof x = some v) : RD K H v x := by
  cases x with
  | none => cases h; exact .non
  | bool b => cases h; exact .bl b
  | int i => cases h; exact .int i
  | str s => cases h; exact .str s
  | list _ => cases h
  | tuple _ => cases h
  | dict _ => cases h
/-- two data in, a flat one out -/
def f2 (f : PyData → PyData → Option PyData) (a b : D) : M D := (peek a).bind fun x => (peek b).bind fun y => match f x y with
  | some z => M.ret (.p z)
  | none => M.bad
theorem dop_f2 {r : R2} {f : PyData → PyData → Option PyData} (h : ∀ (H : Hp) (x y : V) (d e z : PyData) (Q : VK), RD X.K H x d → RD X.K H y e → f d e = some z → ∃ v, vof z = some v ∧ (Q v H → r x y H Q)) : DOp X W r (f2 f) := by
  intro w σ ρ x y a b Q rr ra rb q
  obtain ⟨d, hd, q⟩ := Ok1.peek rr ra q
  obtain ⟨e, he, q⟩ := Ok1.peek rr rb q
  cases hz : f d e with
  | none => rw [hz] at q; exact q.elim
  | some z =>
    rw [hz] at q
    obtain ⟨v, hv, hr⟩ := h w.H x y d e z Q hd he hz
    exact hr (q w (Ext.refl w) rr v (vof_dp hv))
/-- one datum in, a flat one out -/
def f1 (f : PyData → Option PyData) (a : D) : M D := (peek a).bind fun x => match f x with
  | some z => M.ret (.p z)
  | none => M.bad
end
end DL
namespace DL
open PySem PySem.Spec PyProof.Rows L2
section
variable {X : Cx} {W : WX}
/-! ### tests -/
def asB : D → M Bool
  | .p (.bool b) => M.ret b
  | _ => M.bad
theorem asB_ok {β : Type} {w : Wd} {σ : L2.St} {ρ : Sg} {v : V} {d : D} {f : Bool → M β} {k : Wd → Sg → β → Prop} (rv : RX X w v d) (h : Ok1 X W w σ ((asB d).bind f ρ) k) : ∃ b, v = .bl b ∧ Ok1 X W w σ (f b ρ) k := by
  cases d with
  | p x =>
    cases x with
    | bool b =>
      have rv : RD X.K w.Z v (.bool b) := rv
      cases rv
      exact ⟨b, rfl, h⟩
    | none => exact h.elim
    | int _ => exact h.elim
    | str _ => exact h.elim
    | list _ => exact h.elim
    | tuple _ => exact h.elim
    | dict _ => exact h.elim
  | loc _ => exact h.elim
  | nm _ => exact h.elim
  | scr _ => exact h.elim
def gB (g : M D) : M Bool := g.bind asB
theorem bind_ret {α : Type} {r : Rs α} : r.bind M.ret = r := by cases r <;> rfl
theorem asB_k {w : Wd} {σ : L2.St} {ρ : Sg} {v : V} {d : D} {k : Wd → Sg → Bool → Prop} (r : RelX X w σ ρ) (rv : RX X w v d) (h : Ok1 X W w σ (asB d ρ) k) : ∃ b, v = .bl b ∧ k w ρ b := by
  have h' : Ok1 X W w σ ((asB d).bind M.ret ρ) k := by show Ok1 X W w σ ((asB d ρ).bind M.ret) k; rw [bind_ret]; exact h
  obtain ⟨b, e, q⟩ := asB_ok rv h'
  exact ⟨b, e, q w (Ext.refl w) r⟩
/-- an expression that gives True or False, as a test -/
theorem dt_val {e : Expr} {g : M D} (h : DE X W e g) (he : ∀ whole, isTrue e X.env whole = (do let v ← whole; standAt e.pos; holding [v] (truthy v)) := by intro _; rfl) : DT X W e (gB g) := by
  obtain ⟨t, p, q⟩ := h.run
  refine ⟨_, pt_val p he, fun w σ ρ Q r h => q w σ ρ _ r (Ok1.imp (Ok1.bind h) fun w1 ρ1 d e1 r1 h1 v rv => ?_)⟩
  obtain ⟨b, e, q⟩ := asB_k r1 rv h1
  exact ⟨b, e, q⟩
theorem dt_cmp {op : CmpOp} {a b : Expr} {pos : Pos} {ga gb : M D} {r : R2} {f : D → D → M D} (ho : OpR X (compareOp op) r) (hf : DOp X W r f) (ha : DE X W a ga) (hb : DE X W b gb) (hm : behindInMarks op b = false) : DT X W (.Compare a [op] [b] pos) (gB (gBin f ga gb)) := by
  obtain ⟨ta, pa, qa⟩ := ha.run
  obtain ⟨tb, pb, qb⟩ := hb.run
  refine ⟨_, pt_cmpR ho pa pb hm, fun w σ ρ Q r h => ?_⟩
  refine qa w σ ρ _ r (Ok1.imp (Ok1.bind (Ok1.bind h |> fun z => by exact (show Ok1 X W w σ ((ga ρ).bind fun a => gb.bind fun b => f a b) _ from z))) fun w1 ρ1 a e1 r1 h1 v rv => ?_)
  refine qb w1 σ ρ1 _ r1 (Ok1.imp (Ok1.bind h1) fun w2 ρ2 b e2 r2 h2 u ru => ?_)
  refine hf w2 σ ρ2 v u a b _ r2 (e2.r rv) ru (Ok1.imp h2 fun w3 ρ3 d e3 r3 h3 z rz => ?_)
  obtain ⟨k, e, q⟩ := asB_k r3 rz h3
  exact ⟨k, e, q⟩
/-- the truth of a datum -/
def truD : PyData → Option Bool
  | .none => some false
  | .bool b => some b
  | .int i => some (i != 0)
  | .str x => if x.length ≤ sizeLine then some ((x.length : Int) != 0) else none
  | .list xs => some (!xs.isEmpty)
  | .tuple xs => some (!xs.isEmpty)
  | .dict _ => none
def tru : D → M Bool
  | .p x => M.opt (truD x)
  | .loc n => fun ρ => match ρ.m[n]? with
    | some (.lst xs) => .ok (!xs.isEmpty) ρ
    | some (.dK kvs) => .ok (!kvs.isEmpty) ρ
    | _ => .bad
  | .nm _ => M.bad
  | .scr _ => M.bad
theorem dpAll_len {K : PySem.W.Frag} {H : Hp} : ∀ {vs : List V} {xs : List PyData}, RDAll K H vs xs → vs.length = xs.length
  | _, _, .nil => rfl
  | _, _, .cons _ t => by simp [dpAll_len t]
theorem dpAll_emp {K : PySem.W.Frag} {H : Hp} {vs : List V} {xs : List PyData} (h : RDAll K H vs xs) : vs.isEmpty = xs.isEmpty := by cases h <;> rfl
theorem re_emp {κ : Type} {K : PySem.W.Frag} {H : Hp} {vs : List (κ × V)} {xs : List (κ × PyData)} (h : RE K H vs xs) : vs.isEmpty = xs.isEmpty := by cases h <;> rfl
theorem tru_v {w : Wd} {σ : L2.St} {ρ : Sg} {v : V} {d : D} {k : Wd → Sg → Bool → Prop} (r : RelX X w σ ρ) (rv : RX X w v d) (h : Ok1 X W w σ (tru d ρ) k) : ∃ b, TruV X.K v w.H b ∧ k w ρ b := by
  cases d with
  | nm _ => exact h.elim
  | scr _ => exact h.elim
  | p x =>
    have rv : RD X.K w.Z v x := rv
    have h : Ok1 X W w σ (M.opt (truD x) ρ) k := h
    cases rv with
    | non => exact ⟨false, rfl, h w (Ext.refl w) r⟩
    | bl b => exact ⟨b, rfl, h w (Ext.refl w) r⟩
    | int i => exact ⟨i != 0, rfl, h w (Ext.refl w) r⟩
    | str x =>
      have h : Ok1 X W w σ (M.opt (if x.length ≤ sizeLine then some ((x.length : Int) != 0) else none) ρ) k := h
      by_cases hl : x.length ≤ sizeLine
      · rw [if_pos hl] at h
        exact ⟨_, ⟨hl, rfl⟩, h w (Ext.refl w) r⟩
      · rw [if_neg hl] at h; exact h.elim
    | lst hs ha => exact ⟨_, .inl ⟨_, SqL.of (hide_same _ _ hs), rfl⟩, by rw [dpAll_emp ha]; exact h w (Ext.refl w) r⟩
    | tup hs ha => exact ⟨_, .inr (.inl ⟨_, Evl_ex_t hide_same hs, rfl⟩), by rw [dpAll_emp ha]; exact h w (Ext.refl w) r⟩
  | loc n =>
    obtain ⟨a, h1, h2⟩ := rv
    subst h2
    have h : Ok1 X W w σ (match ρ.m[n]? with
      | some (.lst xs) => .ok (!xs.isEmpty) ρ
      | some (.dK kvs) => .ok (!kvs.isEmpty) ρ
      | _ => .bad) k := h
    cases e : ρ.m[n]? with
    | none => rw [e] at h; exact h.elim
    | some c =>
      rw [e] at h
      cases c with
      | lst xs =>
        obtain ⟨f, vs, h3, h4⟩ := r.1.cells n a _ h1 e rfl
        exact ⟨_, .inl ⟨vs, SqL.of h3, rfl⟩, by rw [dpAll_emp h4]; exact h w (Ext.refl w) r⟩
      | dK kvs =>
        obtain ⟨f, vs, h3, h4⟩ := r.1.cells n a _ h1 e rfl
        exact ⟨_, .inr (.inr ⟨vs, h3, rfl⟩), by rw [re_emp h4]; exact h w (Ext.refl w) r⟩
      | dT _ => exact h.elim
      | obj _ _ => exact h.elim
      | dead => exact h.elim
def gTru (g : M D) : M Bool := g.bind tru
theorem dt_truth {e : Expr} {g : M D} (h : DE X W e g) (he : ∀ whole, isTrue e X.env whole = (do let v ← whole; standAt e.pos; holding [v] (truthy v)) := by intro _; rfl) : DT X W e (gTru g) := by
  obtain ⟨t, p, q⟩ := h.run
  refine ⟨_, pt_truth p he, fun w σ ρ Q r h => q w σ ρ _ r (Ok1.imp (Ok1.bind h) fun w1 ρ1 d e1 r1 h1 v rv => ?_)⟩
  obtain ⟨b, e, q⟩ := tru_v r1 rv h1
  exact ⟨b, e, q⟩
def gNot (g : M Bool) : M Bool := g.bind fun b => M.ret (!b)
theorem dt_not {a : Expr} {pos : Pos} {g : M Bool} (h : DT X W a g) : DT X W (.UnaryOp .Not a pos) (gNot g) := by
  obtain ⟨t, p, q⟩ := h.run
  exact ⟨_, pt_not p, fun w σ ρ Q r h => q w σ ρ _ r (Ok1.imp (Ok1.bind h) fun w1 ρ1 d e1 r1 h1 => h1 w1 (Ext.refl w1) r1)⟩
def gAnd (g h : M Bool) : M Bool := g.bind fun b => if b = true then h else M.ret false
def gOr (g h : M Bool) : M Bool := g.bind fun b => if b = true then M.ret true else h
theorem dw_and1 {a : Expr} {pos : Pos} {g : M Bool} (h : DT X W a g) : DW X W (.BoolOp .And [a] pos) g := by
  obtain ⟨t, p, q⟩ := h.run
  exact ⟨_, pw_and1 p, q⟩
theorem dw_or1 {a : Expr} {pos : Pos} {g : M Bool} (h : DT X W a g) : DW X W (.BoolOp .Or [a] pos) g := by
  obtain ⟨t, p, q⟩ := h.run
  exact ⟨_, pw_or1 p, q⟩
theorem dw_and {a b : Expr} {rest : List Expr} {pos : Pos} {g g' : M Bool} (h : DT X W a g) (h' : DW X W (.BoolOp .And (b :: rest) pos) g') : DW X W (.BoolOp .And (a :: b :: rest) pos) (gAnd g g') := by
  obtain ⟨t, p, q⟩ := h.run
  obtain ⟨t', p', q'⟩ := h'.run
  refine ⟨_, pw_and p p', fun w σ ρ Q r h => q w σ ρ _ r (Ok1.imp (Ok1.bind h) fun w1 ρ1 d e1 r1 h1 => ?_)⟩
  cases d with
  | true => exact iteT (q' w1 σ ρ1 _ r1 h1)
  | false => exact iteF (h1 w1 (Ext.refl w1) r1)
theorem dw_or {a b : Expr} {rest : List Expr} {pos : Pos} {g g' : M Bool} (h : DT X W a g) (h' : DW X W (.BoolOp .Or (b :: rest) pos) g') : DW X W (.BoolOp .Or (a :: b :: rest) pos) (gOr g g') := by
  obtain ⟨t, p, q⟩ := h.run
  obtain ⟨t', p', q'⟩ := h'.run
  refine ⟨_, pw_or p p', fun w σ ρ Q r h => q w σ ρ _ r (Ok1.imp (Ok1.bind h) fun w1 ρ1 d e1 r1 h1 => ?_)⟩
  cases d with
  | true => exact iteT (h1 w1 (Ext.refl w1) r1)
  | false => exact iteF (q' w1 σ ρ1 _ r1 h1)
theorem DW.dt {e : Expr} {g : M Bool} (h : DW X W e g) : DT X W e g := by
  obtain ⟨t, p, q⟩ := h.run
  exact ⟨t, p.pt, q⟩
/-! ### and, or, not as values: all but the last True or False -/
def gAndV (g h : M D) : M D := g.bind fun d => (asB d).bind fun b => if b = true then h else M.ret (.p (.bool false))
def gOrV (g h : M D) : M D := g.bind fun d => (asB d).bind fun b => if b = true then M.ret (.p (.bool true)) else h
def gNotV (g : M D) : M D := g.bind fun d => (asB d).bind fun b => M.ret (.p (.bool (!b)))
theorem de_one {a : Expr} {op : BoolOp} {pos : Pos} {g : M D} (h : DE X W a g) : DE X W (.BoolOp op [a] pos) g := by
  obtain ⟨t, p, q⟩ := h.run
  exact ⟨_, pe_one p, q⟩
theorem de_and {a b : Expr} {rest : List Expr} {pos : Pos} {g g' : M D} (h : DE X W a g) (h' : DE X W (.BoolOp .And (b :: rest) pos) g') : DE X W (.BoolOp .And (a :: b :: rest) pos) (gAndV g g') := by
  obtain ⟨t, p, q⟩ := h.run
  obtain ⟨t', p', q'⟩ := h'.run
  refine ⟨_, pe_and p p', fun w σ ρ Q r h => q w σ ρ _ r (Ok1.imp (Ok1.bind h) fun w1 ρ1 d e1 r1 h1 v rv => ?_)⟩
  obtain ⟨b, e, h2⟩ := asB_ok rv h1
  refine ⟨b, e, ?_⟩
  cases b with
  | true => exact iteT (q' w1 σ ρ1 _ r1 h2)
  | false => exact iteF (h2 w1 (Ext.refl w1) r1 _ (.bl false))
theorem de_or {a b : Expr} {rest : List Expr} {pos : Pos} {g g' : M D} (h : DE X W a g) (h' : DE X W (.BoolOp .Or (b :: rest) pos) g') : DE X W (.BoolOp .Or (a :: b :: rest) pos) (gOrV g g') := by
  obtain ⟨t, p, q⟩ := h.run
  obtain ⟨t', p', q'⟩ := h'.run
  refine ⟨_, pe_or p p', fun w σ ρ Q r h => q w σ ρ _ r (Ok1.imp (Ok1.bind h) fun w1 ρ1 d e1 r1 h1 v rv => ?_)⟩
  obtain ⟨b, e, h2⟩ := asB_ok rv h1
  refine ⟨b, e, ?_⟩
  cases b with
  | true => exact iteT (h2 w1 (Ext.refl w1) r1 _ (.bl true))
  | false => exact iteF (q' w1 σ ρ1 _ r1 h2)
theorem de_not {a : Expr} {pos : Pos} {g : M D} (h : DE X W a g) : DE X W (.UnaryOp .Not a pos) (gNotV g) := by
  obtain ⟨t, p, q⟩ := h.run
  refine ⟨_, pe_not p, fun w σ ρ Q r h => q w σ ρ _ r (Ok1.imp (Ok1.bind h) fun w1 ρ1 d e1 r1 h1 v rv => ?_)⟩
  obtain ⟨b, e, h2⟩ := asB_ok rv h1
  exact ⟨b, e, h2 w1 (Ext.refl w1) r1 _ (.bl _)⟩
def gIfE {α : Type} (c : M Bool) (a b : M α) : M α := c.bind fun t => if t = true then a else b
theorem de_if {c a b : Expr} {pos : Pos} {gc : M Bool} {ga gb : M D} (hc : DT X W c gc) (ha : DE X W a ga) (hb : DE X W b gb) : DE X W (.IfExp c a b pos) (gIfE gc ga gb) := by
  obtain ⟨tc, pc, qc⟩ := hc.run
  obtain ⟨ta, pa, qa⟩ := ha.run
  obtain ⟨tb, pb, qb⟩ := hb.run
  refine ⟨_, pe_ifExp pc pa pb, fun w σ ρ Q r h => qc w σ ρ _ r (Ok1.imp (Ok1.bind h) fun w1 ρ1 d e1 r1 h1 => ?_)⟩
  cases d with
  | true => exact iteT (qa w1 σ ρ1 _ r1 h1)
  | false => exact iteF (qb w1 σ ρ1 _ r1 h1)
/-- a op1 b op2 c -/
def gChain (f f' : D → D → M D) (ga gb gc : M D) : M D := ga.bind fun a => gb.bind fun b => (f a b).bind fun d => (asB d).bind fun t => if t = true then gc.bind fun c => f' b c else M.ret (.p (.bool false))
theorem chain_q {op op' : CmpOp} {a b c : Expr} {ga gb gc : M D} {r r' : R2} {f f' : D → D → M D} (hf : DOp X W r f) (hf' : DOp X W r' f') {ta tb tc : TE} {w : Wd} {σ : L2.St} {ρ : Sg} {Q : VK}
    (qa : ∀ (w : Wd) (σ : L2.St) (ρ : Sg) (Q : VK), RelX X w σ ρ → Ok1 X W w σ (ga ρ) (fun w' _ d => ∀ v, RX X w' v d → Q v w'.H) → ta σ w.H Q)
    (qb : ∀ (w : Wd) (σ : L2.St) (ρ : Sg) (Q : VK), RelX X w σ ρ → Ok1 X W w σ (gb ρ) (fun w' _ d => ∀ v, RX X w' v d → Q v w'.H) → tb σ w.H Q)
    (qc : ∀ (w : Wd) (σ : L2.St) (ρ : Sg) (Q : VK), RelX X w σ ρ → Ok1 X W w σ (gc ρ) (fun w' _ d => ∀ v, RX X w' v d → Q v w'.H) → tc σ w.H Q)
    (r0 : RelX X w σ ρ) (h : Ok1 X W w σ (gChain f f' ga gb gc ρ) (fun w' _ d => ∀ v, RX X w' v d → Q v w'.H)) : tChain r r' ta tb tc σ w.H Q := by
  refine qa w σ ρ _ r0 (Ok1.imp (Ok1.bind h) fun w1 ρ1 a e1 r1 h1 v rv => ?_)
  refine qb w1 σ ρ1 _ r1 (Ok1.imp (Ok1.bind h1) fun w2 ρ2 b e2 r2 h2 u ru => ?_)
  refine hf w2 σ ρ2 v u a b _ r2 (e2.r rv) ru (Ok1.imp (Ok1.bind h2) fun w3 ρ3 d e3 r3 h3 z rz => ?_)
  obtain ⟨t, e, h4⟩ := asB_ok rz h3
  refine ⟨t, e, ?_⟩
  cases t with
  | true => exact iteT (qc w3 σ ρ3 _ r3 (Ok1.imp (Ok1.bind h4) fun w4 ρ4 c e4 r4 h5 y ry => hf' w4 σ ρ4 u y b c _ r4 ((e3.trans e4).r ru) ry h5))
  | false => exact iteF (h4 w3 (Ext.refl w3) r3 _ (.bl false))
theorem de_chain {op op' : CmpOp} {a b c : Expr} {pos : Pos} {ga gb gc : M D} {r r' : R2} {f f' : D → D → M D} (ho : OpR X (compareOp op) r) (hf : DOp X W r f) (ho' : OpR X (compareOp op') r') (hf' : DOp X W r' f') (ha : DE X W a ga) (hb : DE X W b gb) (hc : DE X W c gc)
    (hm : lastMarks [op, op'] [b, c] = false := by with_unfolding_all rfl) : DE X W (.Compare a [op, op'] [b, c] pos) (gChain f f' ga gb gc) := by
  obtain ⟨ta, pa, qa⟩ := ha.run
  obtain ⟨tb, pb, qb⟩ := hb.run
  obtain ⟨tc, pc, qc⟩ := hc.run
  exact ⟨_, pe_chain ho ho' pa pb pc hm, fun w σ ρ Q r h => chain_q (op := op) (op' := op') (a := a) (b := b) (c := c) hf hf' qa qb qc r h⟩
theorem dt_chain {op op' : CmpOp} {a b c : Expr} {pos : Pos} {ga gb gc : M D} {r r' : R2} {f f' : D → D → M D} (ho : OpR X (compareOp op) r) (hf : DOp X W r f) (ho' : OpR X (compareOp op') r') (hf' : DOp X W r' f') (ha : DE X W a ga) (hb : DE X W b gb) (hc : DE X W c gc)
    (hm : lastMarks [op, op'] [b, c] = false := by with_unfolding_all rfl) : DT X W (.Compare a [op, op'] [b, c] pos) (gB (gChain f f' ga gb gc)) := by
  obtain ⟨ta, pa, qa⟩ := ha.run
  obtain ⟨tb, pb, qb⟩ := hb.run
  obtain ⟨tc, pc, qc⟩ := hc.run
  refine ⟨_, pt_chain ho ho' pa pb pc hm, fun w σ ρ Q r h => chain_q (op := op) (op' := op') (a := a) (b := b) (c := c) hf hf' qa qb qc r (Ok1.imp (Ok1.bind h) fun w1 ρ1 d e1 r1 h1 v rv => ?_)⟩
  obtain ⟨k, e, q⟩ := asB_k r1 rv h1
  exact ⟨k, e, q⟩

/-! ### arguments -/
theorem da_nil : DA X W [] (M.ret []) := ⟨_, pa_nil, fun w σ ρ Q r h => h w (Ext.refl w) r _ .nil⟩
def gCons (g : M D) (gs : M (List D)) : M (List D) := g.bind fun a => gs.bind fun as => M.ret (a :: as)
theorem da_cons {e : Expr} {es : List Expr} {g : M D} {gs : M (List D)} (h : DE X W e g) (hs : DA X W es gs) (hst : starEach (e :: es) X.env = (false, eval e X.env) :: starEach es X.env := by rfl) : DA X W (e :: es) (gCons g gs) := by
  obtain ⟨t, p, q⟩ := h.run
  obtain ⟨ts, ps, qs⟩ := hs.run
  refine ⟨_, pa_cons p ps hst, fun w σ ρ Q r h => q w σ ρ _ r (Ok1.imp (Ok1.bind h) fun w1 ρ1 d e1 r1 h1 v rv => ?_)⟩
  exact qs w1 σ ρ1 _ r1 (Ok1.imp (Ok1.bind h1) fun w2 ρ2 ds e2 r2 h2 vs rvs => h2 w2 (Ext.refl w2) r2 _ (.cons (e2.r rv) rvs))

/-! ### a built-in called -/
def DCall (X : Cx) (W : WX) (r : List V → Hp → VK → Prop) (f : List D → M D) : Prop :=
  ∀ (w : Wd) (σ : L2.St) (ρ : Sg) (vs : List V) (ds : List D) (Q : VK), RelX X w σ ρ → RL X w vs ds → Ok1 X W w σ (f ds ρ) (fun w' _ d => ∀ v, RX X w' v d → Q v w'.H) → r vs w.H Q
theorem de_tCB {e : Expr} {es : List Expr} {gs : M (List D)} {r : List V → Hp → VK → Prop} {f : List D → M D} (hs : DA X W es gs) (hf : DCall X W r f) (he : ∀ t, PA X es t → PE X e (tCB r t)) : DE X W e (gs.bind f) := by
  obtain ⟨t, p, q⟩ := hs.run
  exact ⟨_, he _ p, fun w σ ρ Q r h => q w σ ρ _ r (Ok1.imp (Ok1.bind h) fun w1 ρ1 ds e1 r1 h1 vs rvs => hf w1 σ ρ1 vs ds Q r1 rvs h1)⟩
theorem de_callB {id : String} {x : Str} {p pos : Pos} {e : Expr} {es : List Expr} {gs : M (List D)} {r : List V → Hp → VK → Prop} {f : List D → M D} (hc : CallR X (.builtin id) r) (hf : DCall X W r f) (hm : X.mg x = none) (ha : DA X W (e :: es) gs)
    (hg : Gl X x := by rfl) (hv : bootBuiltins x = some (.builtin id) := by decide +kernel) (hn : x ≠ "__name__" := by decide) (hdb : (x == ("__debug__" : Str)) = false := by decide)
    (he : starEach (e :: es) X.env = (false, eval e X.env) :: starEach es X.env := by rfl) (hpl : (backTo pos (starEach es X.env)).any (·.1) = false := by rfl) : DE X W (.Call (.Name x p) (e :: es) [] pos) (gs.bind f) :=
  de_tCB ha hf fun _ pa => pe_callB hc hg hm hv pa hn hdb he hpl
theorem de_callTy {T : String} {x : Str} {p pos : Pos} {e : Expr} {es : List Expr} {gs : M (List D)} {r : List V → Hp → VK → Prop} {f : List D → M D} (hc : CallR X (.type T) r) (hf : DCall X W r f) (hm : X.mg x = none) (ha : DA X W (e :: es) gs)
    (hg : Gl X x := by rfl) (hv : bootBuiltins x = some (.type T) := by decide +kernel) (hn : x ≠ "__name__" := by decide) (hdb : (x == ("__debug__" : Str)) = false := by decide)
    (he : starEach (e :: es) X.env = (false, eval e X.env) :: starEach es X.env := by rfl) (hpl : (backTo pos (starEach es X.env)).any (·.1) = false := by rfl) : DE X W (.Call (.Name x p) (e :: es) [] pos) (gs.bind f) :=
  de_tCB ha hf fun _ pa => pe_callTy hc hg hm hv pa hn hdb he hpl
end
end DL
namespace DL
open PySem PySem.Spec PyProof.Rows L2
/-! ### statements -/
inductive Fl where
  | nx
  | rt (d : D)
  | bk
  | ct
def Ok2 {α : Type} (X : Cx) (W : WX) (w : Wd) (r : Rs α) (k : Wd → L2.St → Sg → α → Prop) : Prop :=
  match r with
  | .ok a ρ' => ∀ w' σ', Ext w w' → RelX X w' σ' ρ' → k w' σ' ρ' a
  | .er ε ρ' => ∀ w' σ' cls dx, Ext w w' → RelX X w' σ' ρ' → ErrR X.K X.mg w' ε cls dx → W cls dx σ' w'.H
  | .bad => False
def OkF (X : Cx) (D : Ends) (w : Wd) (σ : L2.St) : Fl → Prop
  | .nx => D.nx σ w.H
  | .rt d => ∀ v, RX X w v d → D.rt v w.H
  | .bk => D.bk σ w.H
  | .ct => D.ct σ w.H
section
variable {X : Cx} {W : WX}
theorem Ok2.later {α : Type} {w w1 : Wd} {r : Rs α} {k : Wd → L2.St → Sg → α → Prop} (e : Ext w w1) (h : Ok2 X W w r k) : Ok2 X W w1 r k := by
  cases r with
  | bad => exact h
  | er ε ρ' => exact fun w2 σ c d e2 => h w2 σ c d (e.trans e2)
  | ok a ρ' => exact fun w2 σ e2 => h w2 σ (e.trans e2)
theorem Ok2.imp {α : Type} {w : Wd} {r : Rs α} {k k' : Wd → L2.St → Sg → α → Prop} (h : Ok2 X W w r k) (hk : ∀ w' σ' ρ' a, Ext w w' → RelX X w' σ' ρ' → k w' σ' ρ' a → k' w' σ' ρ' a) : Ok2 X W w r k' := by
  cases r with
  | bad => exact h
  | er ε ρ' => exact h
  | ok a ρ' => exact fun w1 σ1 e1 r1 => hk _ _ _ _ e1 r1 (h w1 σ1 e1 r1)
theorem Ok2.bind {α β : Type} {w : Wd} {r : Rs α} {f : α → M β} {k : Wd → L2.St → Sg → β → Prop} (h : Ok2 X W w (r.bind f) k) : Ok2 X W w r (fun w1 σ1 ρ1 a => Ok2 X W w1 (f a ρ1) k) := by
  cases r with
  | bad => exact h
  | er ε ρ' => exact h
  | ok a ρ' => exact fun w1 σ1 e1 r1 => Ok2.later e1 h
/-- an expression's result within a statement -/
theorem Ok2.ex {α : Type} {w : Wd} {σ : L2.St} {r : Rs α} {k : Wd → L2.St → Sg → α → Prop} (h : Ok2 X W w r k) : Ok1 X W w σ r (fun w1 ρ1 a => k w1 σ ρ1 a) := by
  cases r with
  | bad => exact h
  | er ε ρ' => exact fun w2 c d e2 r2 q => h w2 σ c d e2 r2 q
  | ok a ρ' => exact fun w1 e1 r1 => h w1 σ e1 r1
end
section
variable (X : Cx) (W : WX)
structure DS (st : Stmt) (g : M Fl) : Prop where
  run : ∃ t, PS X st t ∧ ∀ (w : Wd) (σ : L2.St) (ρ : Sg) (D : Ends), RelX X w σ ρ → Ok2 X W w (g ρ) (fun w' σ' _ f => OkF X D w' σ' f) → t D σ w.H
structure DSs (st : List Stmt) (g : M Fl) : Prop where
  run : ∃ t, PSs X st t ∧ ∀ (w : Wd) (σ : L2.St) (ρ : Sg) (D : Ends), RelX X w σ ρ → Ok2 X W w (g ρ) (fun w' σ' _ f => OkF X D w' σ' f) → t D σ w.H
structure DG (tg : Expr) (g : D → M Unit) : Prop where
  run : ∃ t, PG X tg t ∧ ∀ (w : Wd) (σ : L2.St) (ρ : Sg) (v : V) (d : D) (Q : L2.St → Hp → Prop), RelX X w σ ρ → RX X w v d → Ok2 X W w (g d ρ) (fun w' σ' _ _ => Q σ' w'.H) → t v σ w.H Q
structure DGs (ts : List Expr) (g : List D → M Unit) : Prop where
  run : ∃ t, PGs X ts t ∧ ∀ (w : Wd) (σ : L2.St) (ρ : Sg) (vs : List V) (ds : List D) (Q : L2.St → Hp → Prop), RelX X w σ ρ → RL X w vs ds → Ok2 X W w (g ds ρ) (fun w' σ' _ _ => Q σ' w'.H) → t vs σ w.H Q
end
section
variable {X : Cx} {W : WX}
def gNext : M Fl := M.ret .nx
def gSeq (g h : M Fl) : M Fl := g.bind fun f => match f with
  | .nx => h
  | f => M.ret f
theorem dss_nil : DSs X W [] gNext := ⟨_, pss_nil, fun w σ ρ D r h => h w σ (Ext.refl w) r⟩
theorem dss_cons {st : Stmt} {rest : List Stmt} {g h : M Fl} (h1 : DS X W st g) (h2 : DSs X W rest h) : DSs X W (st :: rest) (gSeq g h) := by
  obtain ⟨t, p, q⟩ := h1.run
  obtain ⟨u, p2, q2⟩ := h2.run
  refine ⟨_, pss_cons p p2, fun w σ ρ D r h => q w σ ρ _ r (Ok2.imp (Ok2.bind h) fun w1 σ1 ρ1 f e1 r1 h1 => ?_)⟩
  cases f with
  | nx => exact q2 w1 σ1 ρ1 D r1 h1
  | rt d => exact h1 w1 σ1 (Ext.refl w1) r1
  | bk => exact h1 w1 σ1 (Ext.refl w1) r1
  | ct => exact h1 w1 σ1 (Ext.refl w1) r1
theorem dss_one {st : Stmt} {g : M Fl} (h1 : DS X W st g) : DSs X W [st] g := by
  obtain ⟨t, p, q⟩ := h1.run
  exact ⟨_, pss_one p, q⟩
theorem ds_pass {pos : Pos} : DS X W (.Pass pos) gNext := ⟨_, ps_pass, fun w σ ρ D r h => h w σ (Ext.refl w) r⟩
theorem ds_break {pos : Pos} : DS X W (.Break pos) (M.ret .bk) := ⟨_, ps_break, fun w σ ρ D r h => h w σ (Ext.refl w) r⟩
theorem ds_continue {pos : Pos} : DS X W (.Continue pos) (M.ret .ct) := ⟨_, ps_continue, fun w σ ρ D r h => h w σ (Ext.refl w) r⟩
def gExpr (g : M D) : M Fl := g.bind fun _ => M.ret .nx
theorem ds_expr {e : Expr} {pos : Pos} {g : M D} (h : DE X W e g) (hs : swapsWith e none pos.line X.env = pure false := by rfl) : DS X W (.Expr e pos) (gExpr g) := by
  obtain ⟨t, p, q⟩ := h.run
  exact ⟨_, ps_expr p hs, fun w σ ρ D r h => q w σ ρ _ r (Ok1.imp (Ok2.ex (Ok2.bind h)) fun w1 ρ1 d e1 r1 h1 v rv => h1 w1 σ (Ext.refl w1) r1)⟩
def gRet (g : M D) : M Fl := g.bind fun d => M.ret (.rt d)
theorem ds_ret {e : Expr} {pos : Pos} {g : M D} (h : DE X W e g) : DS X W (.Return (some e) pos) (gRet g) := by
  obtain ⟨t, p, q⟩ := h.run
  exact ⟨_, ps_ret p, fun w σ ρ D r h => q w σ ρ _ r (Ok1.imp (Ok2.ex (Ok2.bind h)) fun w1 ρ1 d e1 r1 h1 v rv => h1 w1 σ (Ext.refl w1) r1 v rv)⟩
theorem ds_retN {pos : Pos} : DS X W (.Return none pos) (M.ret (.rt (.p .none))) := ⟨_, ps_retN, fun w σ ρ D r h => h w σ (Ext.refl w) r .non .non⟩
theorem ds_if {c : Expr} {a b : List Stmt} {pos : Pos} {gc : M Bool} {ga gb : M Fl} (hc : DT X W c gc) (ha : DSs X W a ga) (hb : DSs X W b gb) : DS X W (.If c a b pos) (gIfE gc ga gb) := by
  obtain ⟨tc, pc, qc⟩ := hc.run
  obtain ⟨ta, pa, qa⟩ := ha.run
  obtain ⟨tb, pb, qb⟩ := hb.run
  refine ⟨_, ps_if pc pa pb, fun w σ ρ D r h => qc w σ ρ _ r (Ok1.imp (Ok2.ex (Ok2.bind h)) fun w1 ρ1 d e1 r1 h1 => ?_)⟩
  cases d with
  | true => exact iteT (qa w1 σ ρ1 D r1 h1)
  | false => exact iteF (qb w1 σ ρ1 D r1 h1)
theorem ds_never {st : Stmt} : DS X W st M.bad := ⟨_, ps_never, fun w σ ρ D r h => h.elim⟩
theorem dss_never {st : List Stmt} : DSs X W st M.bad := ⟨_, pss_never, fun w σ ρ D r h => h.elim⟩
/-! targets -/
def put (i : Nat) (d : D) : M Unit := fun ρ => .ok () ⟨ρ.s.set i (some d), ρ.m⟩
theorem RelX.slot {w : Wd} {σ : L2.St} {ρ : Sg} (r : RelX X w σ ρ) (i : Nat) {v : V} {d : D} (h : RX X w v d) : RelX X w (σ.set i (some v)) ⟨ρ.s.set i (some d), ρ.m⟩ := by
  obtain ⟨r1, r2⟩ := r
  refine ⟨?_, by simp [r2]⟩
  by_cases hi : i < σ.length
  · exact r1.slot i h hi
  · have e1 : σ.set i (some v) = σ := List.set_eq_of_length_le (by omega)
    have e2 : ρ.s.set i (some d) = ρ.s := List.set_eq_of_length_le (by omega)
    rw [e1, e2]; exact r1
theorem dg_name (i : Nat) {x : Str} {pos : Pos} (hN : X.N.Nodup) (hi : X.N[i]? = some x := by rfl) (hx : Loc X.env.scope x := by first | exact Or.inl rfl | exact Or.inr rfl) (hf : X.fn x = true ∨ X.env.scope.names.lookup x = some .local := by first | exact .inl rfl | exact .inr rfl | assumption) : DG X W (.Name x pos) (put i) :=
  ⟨_, pg_name hN hi hx hf, fun w σ ρ v d Q r rv h => h w _ (Ext.refl w) (r.slot i rv)⟩
def gsNil : List D → M Unit
  | [] => M.ret ()
  | _ => M.bad
def gsCons (g : D → M Unit) (h : List D → M Unit) : List D → M Unit
  | [] => M.bad
  | d :: ds => (g d).bind fun _ => h ds
theorem dgs_nil : DGs X W [] gsNil := ⟨_, pgs_nil, fun w σ ρ vs ds Q r rv h => by
  cases rv with
  | nil => exact ⟨rfl, h w σ (Ext.refl w) r⟩
  | cons _ _ => exact h.elim⟩
theorem dgs_cons {e : Expr} {es : List Expr} {g : D → M Unit} {gs : List D → M Unit} (h1 : DG X W e g) (h2 : DGs X W es gs) (hs : (assignEach (e :: es) X.env).map (·.2) = assign e X.env :: (assignEach es X.env).map (·.2) := by rfl) : DGs X W (e :: es) (gsCons g gs) := by
  obtain ⟨t, p, q⟩ := h1.run
  obtain ⟨u, p2, q2⟩ := h2.run
  refine ⟨_, pgs_cons p p2 hs, fun w σ ρ vs ds Q r rv h => ?_⟩
  cases rv with
  | nil => exact h.elim
  | cons h1 h2 => exact ⟨_, _, rfl, q w σ ρ _ _ _ r h1 (Ok2.imp (Ok2.bind h) fun w1 σ1 ρ1 _ e1 r1 h3 => q2 w1 σ1 ρ1 _ _ _ r1 (h2.ext e1) h3)⟩
/-- the items of a tuple -/
def tupItems : D → M (List D)
  | .p (.tuple xs) => M.ret (xs.map .p)
  | _ => M.bad
theorem rl_dpAll {w : Wd} : ∀ {vs : List V} {xs : List PyData}, RDAll X.K w.Z vs xs → RL X w vs (xs.map .p)
  | _, _, .nil => .nil
  | _, _, .cons h t => .cons h (rl_dpAll t)
def gTupG (n : Nat) (g : List D → M Unit) (d : D) : M Unit := (tupItems d).bind fun ds => if ds.length = n then g ds else M.bad
theorem dg_tup {es : List Expr} {k : Nat} {pos : Pos} {g : List D → M Unit} {n : Nat} (hc : X.calm = true) (h : DGs X W es g) (hn : (assignEach es X.env).length = n := by rfl) (hst : (assignEach es X.env).findIdx? (·.1) = none := by rfl) : DG X W (.Tuple es k pos) (gTupG n g) := by
  obtain ⟨t, p, q⟩ := h.run
  refine ⟨_, pg_tup hc p hn hst, fun w σ ρ v d Q r rv h => ?_⟩
  cases d with
  | nm _ => exact h.elim
  | scr _ => exact h.elim
  | loc _ => exact h.elim
  | p x =>
    cases x with
    | tuple xs =>
      have rv : RD X.K w.Z v (.tuple xs) := rv
      cases rv with
      | tup hs ha =>
        have h : Ok2 X W w ((if (xs.map D.p).length = n then g (xs.map D.p) else M.bad) ρ) _ := h
        by_cases hl : (xs.map D.p).length = n
        · rw [if_pos hl] at h
          refine ⟨_, _, rfl, Evl_ex_t hide_same hs, ?_, q w σ ρ _ _ Q r (rl_dpAll ha) h⟩
          rw [dpAll_len ha, ← hl, List.length_map]
        · rw [if_neg hl] at h; exact h.elim
    | none => exact h.elim
    | bool _ => exact h.elim
    | int _ => exact h.elim
    | str _ => exact h.elim
    | list _ => exact h.elim
    | dict _ => exact h.elim
/-! assignments -/
def gAsg (g : M D) (t : D → M Unit) : M Fl := g.bind fun d => (t d).bind fun _ => M.ret .nx
theorem ds_set (i : Nat) {x : Str} {e : Expr} {pos pos' : Pos} {g : M D} (hN : X.N.Nodup) (he : DE X W e g) (hi : X.N[i]? = some x := by rfl) (hx : Loc X.env.scope x := by first | exact Or.inl rfl | exact Or.inr rfl) (hs : swapsWith e (some (.Name x pos')) pos.line X.env = pure false := by rfl)
    (hf : X.fn x = true ∨ X.env.scope.names.lookup x = some .local := by first | exact .inl rfl | exact .inr rfl | assumption) : DS X W (.Assign [.Name x pos'] e pos) (gAsg g (put i)) := by
  obtain ⟨t, p, q⟩ := he.run
  refine ⟨_, ps_set hN hi hx p hs hf, fun w σ ρ D r h => q w σ ρ _ r (Ok1.imp (Ok2.ex (Ok2.bind h)) fun w1 ρ1 d e1 r1 h1 v rv => ?_)⟩
  exact h1 w1 _ (Ext.refl w1) (r1.slot i rv)
theorem ds_asg {tg e : Expr} {pos : Pos} {g : M D} {gt : D → M Unit} (he : DE X W e g) (hg : DG X W tg gt) (hs : swapsWithSole [tg] e pos.line X.env = pure false := by rfl) (hw : swappedStores [tg] e X.env = pure none := by rfl)
    (h1 : (assignEach [tg] X.env).map (·.2) = [assign tg X.env] := by rfl) : DS X W (.Assign [tg] e pos) (gAsg g gt) := by
  obtain ⟨t, p, q⟩ := he.run
  obtain ⟨u, p2, q2⟩ := hg.run
  refine ⟨_, ps_asg p p2 hs hw h1, fun w σ ρ D r h => q w σ ρ _ r (Ok1.imp (Ok2.ex (Ok2.bind h)) fun w1 ρ1 d e1 r1 h1 v rv => ?_)⟩
  exact q2 w1 σ ρ1 v d _ r1 rv (Ok2.imp (Ok2.bind h1) fun w2 σ2 ρ2 _ e2 r2 h2 => h2 w2 σ2 (Ext.refl w2) r2)
/-- a, b = x, y -/
def gPar (i j : Nat) (gs : M (List D)) : M Fl := gs.bind fun ds => match ds with
  | [d, e] => fun ρ => .ok .nx ⟨(ρ.s.set i (some d)).set j (some e), ρ.m⟩
  | _ => M.bad
theorem ds_par (i j : Nat) {x y : Str} {a b : Expr} {px py pt : Pos} {kt k2 : Nat} {pt2 pos : Pos} {gs : M (List D)} (hc : X.calm = true) (hN : X.N.Nodup) (ha : DA X W [a, b] gs)
    (hi : X.N[i]? = some x := by rfl) (hj : X.N[j]? = some y := by rfl) (hij : i ≠ j := by decide) (hx : X.env.scope.names.lookup x = some .local := by rfl) (hy : X.env.scope.names.lookup y = some .local := by rfl)
    (hw : swappedStores [.Tuple [.Name x px, .Name y py] kt pt] (.Tuple [a, b] k2 pt2) X.env = pure (some [x, y]) := by rfl) (hs : swapsWithSole [.Tuple [.Name x px, .Name y py] kt pt] (.Tuple [a, b] k2 pt2) pos.line X.env = pure false := by rfl) :
    DS X W (.Assign [.Tuple [.Name x px, .Name y py] kt pt] (.Tuple [a, b] k2 pt2) pos) (gPar i j gs) := by
  obtain ⟨t, p, q⟩ := ha.run
  refine ⟨_, ps_par hc hN hi hj hij hx hy p hw hs, fun w σ ρ D r h => q w σ ρ _ r (Ok1.imp (Ok2.ex (Ok2.bind h)) fun w1 ρ1 ds e1 r1 h1 vs rvs => ?_)⟩
  match ds, vs, rvs with
  | [], _, _ => exact h1.elim
  | [_], _, _ => exact h1.elim
  | _ :: _ :: _ :: _, _, _ => exact h1.elim
  | [d, e], [v, u], .cons ra (.cons rb .nil) => exact ⟨v, u, rfl, h1 w1 _ (Ext.refl w1) ((r1.slot i ra).slot j rb)⟩
/-- x op= e -/
def DIp (X : Cx) (W : WX) (r : TIp) (f : D → D → M D) : Prop := DOp X W r f
def gAug (i : Nat) (f : D → D → M D) (g : M D) : M Fl := (gVar i).bind fun a => g.bind fun b => (f a b).bind fun c => (put i c).bind fun _ => M.ret .nx
theorem ds_aug (i : Nat) {x : Str} {e : Expr} {op : Operator} {pos pos' : Pos} {g : M D} {r : TIp} {f : D → D → M D} (hN : X.N.Nodup) (ho : PIp X op r) (hf' : DOp X W r f) (he : DE X W e g)
    (hi : X.N[i]? = some x := by rfl) (hx : Loc X.env.scope x := by first | exact Or.inl rfl | exact Or.inr rfl) (hf : X.fn x = true ∨ X.env.scope.names.lookup x = some .local := by first | exact .inl rfl | exact .inr rfl | assumption) : DS X W (.AugAssign (.Name x pos') op e pos) (gAug i f g) := by
  obtain ⟨t, p, q⟩ := he.run
  refine ⟨_, ps_aug hN hi hx p ho hf, fun w σ ρ D r0 h => ?_⟩
  have h : Ok2 X W w ((gVar i ρ).bind fun a => g.bind fun b => (f a b).bind fun c => (put i c).bind fun _ => M.ret Fl.nx) (fun w' σ' _ f => OkF X D w' σ' f) := h
  unfold gVar at h
  cases e : ρ.s[i]? with
  | none => rw [e] at h; exact h.elim
  | some o =>
    cases o with
    | none => rw [e] at h; exact h.elim
    | some d =>
      rw [e] at h
      obtain ⟨v, e1, ra⟩ := r0.1.slots i d e
      refine ⟨v, e1, q w σ ρ _ r0 (Ok1.imp (Ok2.ex (Ok2.bind (r := g ρ) h)) fun w1 ρ1 b e1 r1 h1 u ru => ?_)⟩
      exact hf' w1 σ ρ1 v u d b _ r1 (e1.r ra) ru (Ok1.imp (Ok2.ex (Ok2.bind h1)) fun w2 ρ2 c e2 r2 h2 z rz => h2 w2 _ (Ext.refl w2) (r2.slot i rz))

/-! ### while -/
def whN : Nat → M Bool → M Fl → M Fl
  | 0, _, _ => M.bad
  | n + 1, c, b => c.bind fun t => if t = true then b.bind fun f => match f with
      | .nx => whN n c b
      | .ct => whN n c b
      | .bk => M.ret .nx
      | .rt d => M.ret (.rt d)
    else M.ret .nx
theorem whN_up {c : M Bool} {b : M Fl} : ∀ (n : Nat) (ρ : Sg), whN n c b ρ ≠ .bad → whN (n + 1) c b ρ = whN n c b ρ
  | 0, ρ, h => (h rfl).elim
  | n + 1, ρ, h => by
    have e1 : whN (n + 2) c b ρ = (c ρ).bind fun t => if t = true then b.bind fun f => match f with
      | .nx => whN (n + 1) c b
      | .ct => whN (n + 1) c b
      | .bk => M.ret .nx
      | .rt d => M.ret (.rt d)
    else M.ret .nx := rfl
    have e2 : whN (n + 1) c b ρ = (c ρ).bind fun t => if t = true then b.bind fun f => match f with
      | .nx => whN n c b
      | .ct => whN n c b
      | .bk => M.ret .nx
      | .rt d => M.ret (.rt d)
    else M.ret .nx := rfl
    rw [e2] at h
    rw [e1, e2]
    cases hc : c ρ with
    | bad => rfl
    | er ε ρ1 => rfl
    | ok t ρ1 =>
      rw [hc] at h
      cases t with
      | false => rfl
      | true =>
        have h : ((b ρ1).bind fun f => match f with
          | .nx => whN n c b
          | .ct => whN n c b
          | .bk => M.ret .nx
          | .rt d => M.ret (.rt d)) ≠ Rs.bad := h
        show ((b ρ1).bind fun f => match f with
          | .nx => whN (n + 1) c b
          | .ct => whN (n + 1) c b
          | .bk => M.ret .nx
          | .rt d => M.ret (.rt d)) = ((b ρ1).bind fun f => match f with
          | .nx => whN n c b
          | .ct => whN n c b
          | .bk => M.ret .nx
          | .rt d => M.ret (.rt d))
        cases hb : b ρ1 with
        | bad => rfl
        | er ε ρ2 => rfl
        | ok f ρ2 =>
          rw [hb] at h
          cases f with
          | nx => exact whN_up n ρ2 h
          | ct => exact whN_up n ρ2 h
          | bk => rfl
          | rt d => rfl
theorem whN_le {c : M Bool} {b : M Fl} {n : Nat} {ρ : Sg} (h : whN n c b ρ ≠ .bad) : ∀ k, whN (n + k) c b ρ = whN n c b ρ
  | 0 => rfl
  | k + 1 => by
    have ih := whN_le h k
    rw [show n + (k + 1) = (n + k) + 1 from rfl, whN_up (n + k) ρ (by rw [ih]; exact h), ih]
open Classical in
noncomputable def gWhile (c : M Bool) (b : M Fl) : M Fl := fun ρ => if h : ∃ n, whN n c b ρ ≠ .bad then whN h.choose c b ρ else .bad
theorem gWhile_of {c : M Bool} {b : M Fl} {n : Nat} {ρ : Sg} (h : whN n c b ρ ≠ .bad) : gWhile c b ρ = whN n c b ρ := by
  have hx : ∃ n, whN n c b ρ ≠ .bad := ⟨n, h⟩
  unfold gWhile
  rw [dif_pos hx]
  rcases Nat.le_total n hx.choose with z | z
  · obtain ⟨k, e⟩ := Nat.le.dest z
    rw [← e]; exact whN_le h k
  · obtain ⟨k, e⟩ := Nat.le.dest z
    have := whN_le hx.choose_spec k
    rw [e] at this; exact this.symm
/-- one turn -/
theorem gWhile_eq (c : M Bool) (b : M Fl) (ρ : Sg) : gWhile c b ρ = (c ρ).bind fun t => if t = true then b.bind fun f => match f with
      | .nx => gWhile c b
      | .ct => gWhile c b
      | .bk => M.ret .nx
      | .rt d => M.ret (.rt d)
    else M.ret .nx := by
  by_cases h : ∃ n, whN n c b ρ ≠ .bad
  · obtain ⟨n, h⟩ := h
    rw [gWhile_of h]
    cases n with
    | zero => exact (h rfl).elim
    | succ n =>
      have e2 : whN (n + 1) c b ρ = (c ρ).bind fun t => if t = true then b.bind fun f => match f with
        | .nx => whN n c b
        | .ct => whN n c b
        | .bk => M.ret .nx
        | .rt d => M.ret (.rt d)
      else M.ret .nx := rfl
      rw [e2] at h ⊢
      cases hc : c ρ with
      | bad => rfl
      | er ε ρ1 => rfl
      | ok t ρ1 =>
        rw [hc] at h
        cases t with
        | false => rfl
        | true =>
          have h : ((b ρ1).bind fun f => match f with
            | .nx => whN n c b
            | .ct => whN n c b
            | .bk => M.ret .nx
            | .rt d => M.ret (.rt d)) ≠ Rs.bad := h
          show ((b ρ1).bind fun f => match f with
            | .nx => whN n c b
            | .ct => whN n c b
            | .bk => M.ret .nx
            | .rt d => M.ret (.rt d)) = ((b ρ1).bind fun f => match f with
            | .nx => gWhile c b
            | .ct => gWhile c b
            | .bk => M.ret .nx
            | .rt d => M.ret (.rt d))
          cases hb : b ρ1 with
          | bad => rfl
          | er ε ρ2 => rfl
          | ok f ρ2 =>
            rw [hb] at h
            cases f with
            | nx => exact (gWhile_of h).symm
            | ct => exact (gWhile_of h).symm
            | bk => rfl
            | rt d => rfl
  · have e0 : gWhile c b ρ = .bad := by unfold gWhile; rw [dif_neg h]
    rw [e0]
    have hall : ∀ n, whN n c b ρ = .bad := fun n => Classical.byContradiction fun q => h ⟨n, q⟩
    have e1 : ∀ n, ((c ρ).bind fun t => if t = true then b.bind fun f => match f with
        | .nx => whN n c b
        | .ct => whN n c b
        | .bk => M.ret .nx
        | .rt d => M.ret (.rt d)
      else M.ret .nx) = Rs.bad := fun n => hall (n + 1)
    cases hc : c ρ with
    | bad => rfl
    | er ε ρ1 => have := e1 0; rw [hc] at this; cases this
    | ok t ρ1 =>
      cases t with
      | false => have := e1 0; rw [hc] at this; cases this
      | true =>
        have e1 : ∀ n, ((b ρ1).bind fun f => match f with
          | .nx => whN n c b
          | .ct => whN n c b
          | .bk => M.ret .nx
          | .rt d => M.ret (.rt d)) = Rs.bad := fun n => by have := e1 n; rw [hc] at this; exact this
        show Rs.bad = ((b ρ1).bind fun f => match f with
            | .nx => gWhile c b
            | .ct => gWhile c b
            | .bk => M.ret .nx
            | .rt d => M.ret (.rt d))
        cases hb : b ρ1 with
        | bad => rfl
        | er ε ρ2 => have := e1 0; rw [hb] at this; cases this
        | ok f ρ2 =>
          have e1 := fun n => (by have := e1 n; rw [hb] at this; exact this : (match f with
            | .nx => whN n c b
            | .ct => whN n c b
            | .bk => M.ret .nx
            | .rt d => M.ret (.rt d)) ρ2 = Rs.bad)
          cases f with
          | nx =>
            show Rs.bad = gWhile c b ρ2
            unfold gWhile
            rw [dif_neg fun ⟨n, q⟩ => q (e1 n)]
          | ct =>
            show Rs.bad = gWhile c b ρ2
            unfold gWhile
            rw [dif_neg fun ⟨n, q⟩ => q (e1 n)]
          | bk => have := e1 0; cases this
          | rt d => have := e1 0; cases this
theorem ds_while {c : Expr} {body : List Stmt} {pos : Pos} {gc : M Bool} {gb : M Fl} (hp : PassesOwn (model X.prog X.w) X.A X.env X.xe) (hc : DT X W c gc) (hb : DSs X W body gb) : DS X W (.While c body [] pos) (gWhile gc gb) := by
  obtain ⟨tc, pc, qc⟩ := hc.run
  obtain ⟨tb, pb, qb⟩ := hb.run
  refine ⟨_, ps_while hp pc pb, fun w σ ρ D r h => ?_⟩
  have hne : gWhile gc gb ρ ≠ .bad := fun z => by rw [z] at h; exact h
  obtain ⟨n0, hn0⟩ : ∃ n, whN n gc gb ρ ≠ .bad := Classical.byContradiction fun z => hne (by unfold gWhile; rw [dif_neg z])
  rw [gWhile_of hn0] at h
  refine ⟨fun m σ H => ∃ (w1 : Wd) (ρ1 : Sg), w1.H = H ∧ RelX X w1 σ ρ1 ∧ Ok2 X W w1 (whN m gc gb ρ1) (fun w' σ' _ f => OkF X D w' σ' f), ⟨n0, w, ρ, rfl, r, h⟩, ?_⟩
  rintro m σ1 H ⟨w1, ρ1, rfl, r1, h1⟩
  cases m with
  | zero => exact h1.elim
  | succ m =>
    refine qc w1 σ1 ρ1 _ r1 (Ok1.imp (Ok2.ex (Ok2.bind h1)) fun w2 ρ2 t e2 r2 h2 => ?_)
    cases t with
    | false => exact iteF (h2 w2 σ1 (Ext.refl w2) r2)
    | true =>
      refine iteT ⟨fun σ' H' => ∃ (w1 : Wd) (ρ1 : Sg), w1.H = H' ∧ RelX X w1 σ' ρ1 ∧ Ok2 X W w1 (whN m gc gb ρ1) (fun w' σ' _ f => OkF X D w' σ' f), fun σ' H' z => ⟨m, Nat.lt_succ_self m, z⟩, ?_⟩
      refine qb w2 σ1 ρ2 _ r2 (Ok2.imp (Ok2.bind h2) fun w3 σ3 ρ3 f e3 r3 h3 => ?_)
      cases f with
      | nx => exact ⟨w3, ρ3, rfl, r3, h3⟩
      | ct => exact ⟨w3, ρ3, rfl, r3, h3⟩
      | bk => exact h3 w3 σ3 (Ext.refl w3) r3
      | rt d => exact h3 w3 σ3 (Ext.refl w3) r3

/-! ### for -/
def Steps (X : Cx) (J : It) (w0 : Wd) (xs : List PyData) : Prop := ∀ (i : Nat) (w : Wd), Ext w0 w → (xs.length ≤ i → J.stop i w.H) ∧
  ∀ x, xs[i]? = some x → J.go i w.H ∧ ∀ v H', J.yld i w.H v H' → ∃ w', w'.H = H' ∧ Ext w w' ∧ (∀ σ ρ, RelX X w σ ρ → RelX X w' σ ρ) ∧ RD X.K w'.Z v x
structure DI (X : Cx) (W : WX) (tg iter : Expr) (g : M (List PyData)) : Prop where
  run : ∃ wi, PI X tg iter wi ∧ ∀ (w : Wd) (σ : L2.St) (ρ : Sg) (Q : It → Hp → Prop), RelX X w σ ρ → Ok1 X W w σ (g ρ) (fun w' _ xs => ∀ J, Steps X J w' xs → Q J w'.H) → wi σ w.H Q
def forL (t : D → M Unit) (b : M Fl) : List PyData → M Fl
  | [] => M.ret .nx
  | x :: xs => (t (.p x)).bind fun _ => b.bind fun f => match f with
    | .nx => forL t b xs
    | .ct => forL t b xs
    | .bk => M.ret .nx
    | .rt d => M.ret (.rt d)
def gFor (gi : M (List PyData)) (t : D → M Unit) (b : M Fl) : M Fl := gi.bind fun xs => forL t b xs
theorem ds_for {tg iter : Expr} {body : List Stmt} {pos : Pos} {gi : M (List PyData)} {gt : D → M Unit} {gb : M Fl} (hp : PassesOwn (model X.prog X.w) X.A X.env X.xe) (hc : X.calm = true) (hi : DI X W tg iter gi) (hg : DG X W tg gt) (hb : DSs X W body gb)
    (hs : ∀ x, foldedSetIterable iter X.env x = pure x := by intro _; rfl) : DS X W (.For tg iter body [] pos) (gFor gi gt gb) := by
  obtain ⟨wi, pi, qi⟩ := hi.run
  obtain ⟨tt, pt, qt⟩ := hg.run
  obtain ⟨tb, pb, qb⟩ := hb.run
  refine ⟨_, ps_for hp hc pi pt pb hs, fun w σ ρ D r h => ?_⟩
  refine qi w σ ρ _ r (Ok1.imp (Ok2.ex (Ok2.bind h)) fun w0 ρ0 xs e0 r0 h0 J st => ?_)
  refine ⟨fun i m σ H => ∃ (w1 : Wd) (ρ1 : Sg), w1.H = H ∧ Ext w0 w1 ∧ RelX X w1 σ ρ1 ∧ m = xs.length - i ∧ Ok2 X W w1 (forL gt gb (xs.drop i) ρ1) (fun w' σ' _ f => OkF X D w' σ' f),
    ⟨xs.length, w0, ρ0, rfl, Ext.refl w0, r0, by simp, h0⟩, ?_⟩
  rintro i m σ1 H ⟨w1, ρ1, rfl, ex, r1, rfl, h1⟩
  obtain ⟨s1, s2⟩ := st i w1 ex
  by_cases hl : i < xs.length
  · have hx : xs[i]? = some xs[i] := List.getElem?_eq_getElem hl
    obtain ⟨go, yl⟩ := s2 _ hx
    rw [List.drop_eq_getElem_cons hl] at h1
    refine .inr ⟨go, fun σ' H' => ∃ (w1 : Wd) (ρ1 : Sg), w1.H = H' ∧ Ext w0 w1 ∧ RelX X w1 σ' ρ1 ∧ Ok2 X W w1 (forL gt gb (xs.drop (i + 1)) ρ1) (fun w' σ' _ f => OkF X D w' σ' f), fun σ' H' z => ?_, fun v H' y => ?_⟩
    · obtain ⟨w2, ρ2, q1, q2, q3, q4⟩ := z
      exact ⟨xs.length - (i + 1), by omega, w2, ρ2, q1, q2, q3, rfl, q4⟩
    · obtain ⟨w2, rfl, e2, keep, dv⟩ := yl v H' y
      have r2 := keep _ _ r1
      refine qt w2 σ1 ρ1 v (.p xs[i]) _ r2 dv (Ok2.imp (Ok2.bind (Ok2.later e2 h1)) fun w3 σ3 ρ3 _ e3 r3 h3 => ?_)
      refine qb w3 σ3 ρ3 _ r3 (Ok2.imp (Ok2.bind h3) fun w4 σ4 ρ4 f e4 r4 h4 => ?_)
      have e14 : Ext w0 w4 := ((ex.trans e2).trans e3).trans e4
      cases f with
      | nx => exact ⟨w4, ρ4, rfl, e14, r4, h4⟩
      | ct => exact ⟨w4, ρ4, rfl, e14, r4, h4⟩
      | bk => exact h4 w4 σ4 (Ext.refl w4) r4
      | rt d => exact h4 w4 σ4 (Ext.refl w4) r4
  · rw [List.drop_of_length_le (by omega)] at h1
    exact .inl ⟨s1 (by omega), h1 w1 σ1 (Ext.refl w1) r1⟩
end
end DL
namespace DL
open PySem PySem.Spec PyProof.Rows L2
/-! ### calls that know of no guard above them -/
structure RmG (k : Nat) (A : Around) : Prop where
  room : Room k A
  grd : A.guards = some []
theorem RmG.mono {j k : Nat} {A : Around} (r : RmG k A) (h : j ≤ k) : RmG j A := ⟨r.room.mono h, r.grd⟩
theorem RmG.deeper {k : Nat} {A : Around} (r : RmG (k + 1) A) (env : Env) : RmG k (A.deeper env) := ⟨r.room.deeper env, r.grd⟩
theorem RmG.make {k : Nat} {A : Around} (r : RmG (k + 1) A) (C : Addr) (us : List Value) (kw : List (Str × Value)) : RmG k (A.under (.builtin "type.__call__" ⟨.ref C :: us, kw⟩)) := ⟨r.room.make C us kw, by
  have e : (Code.builtin "type.__call__" ⟨.ref C :: us, kw⟩).guards = [] := by
    unfold Code.guards
    rw [show (Code.builtin "type.__call__" ⟨.ref C :: us, kw⟩).isGuard = false from by first | rfl | decide | simp [Code.isGuard, guardIds]]
    rfl
  simp only [Around.under]
  rw [e, r.grd]; rfl⟩
structure FnG (P : Program) (w : World) (K : PySem.W.Frag) (mg : Str → Option Value) (base : Heap) (CX : CXT) (k : Nat) (f : Addr) (fd : FuncData) (ps : List Str) (sp : Sp) : Prop where
  len : ∀ vs H Q E, sp vs H Q E → vs.length = ps.length
  run : ∀ (A : Around) (outer : List Env) (s : Shared) (H : Hp) (args : Args) (us : List Value) (vs : List V) (Q : VK) (E : XK), RmG k A → Env0 P w K mg base A outer s H → BindsTo s fd args (ps.zip us) → Vals vs us → sp vs H Q E →
    codeAny (model P w) A (.call (.ref f) args) (CR CX outer P w H s Q E) s
section
variable {P : Program} {w : World} {K : PySem.W.Frag} {mg : Str → Option Value} {base : Heap} {CX : CXT}
theorem FnG.mono {j k : Nat} {f : Addr} {fd : FuncData} {ps : List Str} {sp : Sp} (F : FnG P w K mg base CX j f fd ps sp) (h : j ≤ k) : FnG P w K mg base CX k f fd ps sp :=
  ⟨F.len, fun A outer s H args us vs Q E hr => F.run A outer s H args us vs Q E (hr.mono h)⟩
theorem FnG.imp {k : Nat} {f : Addr} {fd : FuncData} {ps : List Str} {sp sp' : Sp} (F : FnG P w K mg base CX k f fd ps sp) (h : ∀ vs H Q E, sp' vs H Q E → sp vs H Q E) : FnG P w K mg base CX k f fd ps sp' :=
  ⟨fun vs H Q E q => F.len vs H Q E (h _ _ _ _ q), fun A outer s H args us vs Q E hr he hb hv hs => F.run A outer s H args us vs Q E hr he hb hv (h _ _ _ _ hs)⟩
/-- a def by its body -/
theorem fnG_of {k : Nat} {f : Addr} {x qual : Str} {st : Stmt} {fd : FuncData} {N ps : List Str} {sp : Sp} (Fu : Fun K x qual st f fd) (S : FnScope N ps (defScope st)) (len : ∀ vs H Q E, sp vs H Q E → vs.length = ps.length)
    (body : ∀ (cdv : Value) (A : Around) (outer : List Env) (s : Shared) (H : Hp) (vs : List V) (Q : VK) (E : XK), RmG k (A.deeper (envOfC qual (defScope st) s.heap.objs.size f cdv)) → sp vs H Q E →
      ∃ t, PSs (cxOf CX P w K mg base N qual (defScope st) f cdv A outer s H E) (defBody st) t ∧ t { nx := fun _ H' => Q .non H', rt := Q } (start N vs) H) : FnG P w K mg base CX (k + 1) f fd ps sp := by
  obtain ⟨oc, od, kV, doc, pm, an, cdv, ct, osl, rfl, lk, hcd⟩ := Fu.ex
  constructor
  · exact len
  intro A outer s H args us vs Q E hr e0 hb r h
  have KX : K.In s.heap := e0.mod.kin.keeps fun b o e => (e0.bs b o e).1
  have par : ∀ y ∈ ps.zip us, (defScope st).names.lookup y.1 = some .local ∨ ((defScope st).names.lookup y.1 = some .cell ∧ ((cellsFrom (s.heap.objs.size + 1) (defScope st).names []).lookup y.1).isSome = true) := by
    rintro ⟨n, v⟩ hy
    exact (S.par n (List.of_mem_zip hy).1).imp id fun q => ⟨q, PySem.W.cellsFrom_some _ _ _ (.inl q)⟩
  refine codeAny_call_function hr.room.depth (KX _ _ lk) rfl S.co S.gen rfl (PySem.W.codeRec_of KX hcd) (hb _ _ _ _ (wpAny_newFunctionEnv_cells S.kind par ?_))
  rintro env rfl s1 x
  refine ⟨(e0.mod.nolimit.keeps fun b o e => (e0.bs b o e).1).keeps x.toInCall.keep, codeAny_func ?_⟩
  obtain ⟨t, ht, hq⟩ := body cdv A outer s H vs Q E (hr.deeper _) h
  have I := inv_start (CX := CX) (E := E) S hr.room.hd e0 (len _ _ _ _ h) r x
  refine wpAny_mono (ht.run [] s1 (start N vs) H _ I hq) ?_ fun _ _ z => z
  intro fl s' q
  have out : ∀ {σ' : L2.St} {H' : Hp} {v : V} {u : Value}, Inv (cxOf CX P w K mg base N qual (defScope st) f cdv A outer s H E) [] σ' H' s' → RelV v u → Q v H' → CE outer P w H s Q u s' := fun J rv z => ⟨_, _, J.os, J.bare, J.base, J.hok, rv, z⟩
  cases fl with
  | ret u => exact let ⟨v, σ', H', J, rv, z⟩ := q; out J rv z
  | next => exact let ⟨σ', H', J, z⟩ := q; out (v := .non) (u := Value.none) J rfl z
  | brk => exact let ⟨_, _, _, z⟩ := q; False.elim z
  | cont => exact let ⟨_, _, _, z⟩ := q; False.elim z
end
section
variable {X : Cx} {CX : CXT} {k : Nat} {f : Addr} {fd : FuncData} {ps : List Str} {sp : Sp}
theorem run_G {pins : List (Addr × Obj)} {σ : L2.St} {H : Hp} {s : Shared} {Q : VK} {us : List Value} {vs : List V} {E : XK} (F : FnG X.prog X.w X.K X.mg X.base CX k f fd ps sp) (hr : RmG k X.A) (hb : Binds X.K fd ps []) (hx : PassesAt CX X σ E)
    (I : Inv X pins σ H s) (r : Vals vs us) (h : sp vs H Q E) : wpAny (model X.prog X.w) X.A (call (.ref f) us) (EP X pins σ Q) X.xe s := by
  have bb := hb s us I.kIn (by rw [List.append_nil, ← r.length]; exact F.len _ _ _ _ h)
  rw [List.append_nil] at bb
  refine wpAny_call (codeAny_mono (F.run X.A X.stack s H ⟨us, []⟩ us vs Q E hr I.env0 bb r h) ?_)
  intro fl s' q
  cases fl with
  | error e => exact hx pins H s e s' I q
  | ok fl =>
    cases fl with
    | ret u => exact I.after q
    | next => exact q.elim
    | brk => exact q.elim
    | cont => exact q.elim
def tCG (sp : Sp) (E : L2.St → XK) (t : TA) : TE := fun σ H Q => t σ H fun vs H1 => sp vs H1 Q (E σ)
theorem pe_callG {x : Str} {p pos : Pos} {e : Expr} {es : List Expr} {t : TA} {E : L2.St → XK} (F : FnG X.prog X.w X.K X.mg X.base CX k f fd ps sp) (hr : RmG k X.A) (hg : Gl X x) (hm : X.mg x = some (.ref f)) (hk : PySem.W.keepIn X.K (.ref f) = true) (hb : Binds X.K fd ps [])
    (hx : ∀ σ, PassesAt CX X σ (E σ)) (ha : PA X (e :: es) t) (hdb : (x == ("__debug__" : Str)) = false) (he : starEach (e :: es) X.env = (false, eval e X.env) :: starEach es X.env) (hpl : (backTo pos (starEach es X.env)).any (·.1) = false) :
    PE X (.Call (.Name x p) (e :: es) [] pos) (tCG sp E t) := by
  constructor
  intro pins s σ H Q I h
  apply wpAny_Call_Name_kw
  refine ld_glob I hg hm (PySem.W.callWith_K (h₀ := X.base) I.ok.mod.kin hk (thn (ha.run pos pins s σ H _ I h) ?_) he hpl) hdb
  rintro us s1 ⟨vs, H1, I1, r, q⟩
  exact ⟨I1.kIn, run_G F hr hb (hx σ) I1 r q⟩
theorem pe_callG0 {x : Str} {p pos : Pos} {E : L2.St → XK} (F : FnG X.prog X.w X.K X.mg X.base CX k f fd ps sp) (hr : RmG k X.A) (hg : Gl X x) (hm : X.mg x = some (.ref f)) (hk : PySem.W.keepIn X.K (.ref f) = true) (hb : Binds X.K fd ps [])
    (hx : ∀ σ, PassesAt CX X σ (E σ)) (hdb : (x == ("__debug__" : Str)) = false) : PE X (.Call (.Name x p) [] [] pos) (tCG sp E tNil) := by
  constructor
  intro pins s σ H Q I h
  apply wpAny_Call_Name_kw
  refine ld_glob I hg hm (PySem.W.callWith_K0 I.kIn hk ?_) hdb
  exact run_G (us := []) F hr hb (hx σ) I .nil h
end
end DL
namespace DL
open PySem PySem.Spec PyProof.Rows L2
/-! ### functions: what they do on data and on the cells that are handed in -/
abbrev FS := List D → List Cell → Rs D
def D.noloc : D → Bool
  | .loc _ => false
  | _ => true
def Cell.flat : Cell → Bool
  | .obj _ fs => fs.all fun p => p.2.noloc
  | _ => true
def D.below (n : Nat) : D → Bool
  | .loc k => decide (k < n)
  | _ => true
def Cell.below (n : Nat) : Cell → Bool
  | .obj _ fs => fs.all fun p => p.2.below n
  | _ => true
def spD (K : PySem.W.Frag) (mg : Str → Option Value) (n : Nat) (f : FS) : Sp := fun vs H Q E => vs.length = n ∧ ∃ (w : Wd) (ds : List D) (m : List Cell), w.H = H ∧ ds.length = n ∧ Rel K mg w (vs.map some) ⟨ds.map some, m⟩ ∧
  match f ds m with
  | .ok d ρ' => ∀ w' v, Ext w w' → Rel K mg w' [] ⟨[], ρ'.m⟩ → R K mg w' v d → Q v w'.H
  | .er ε ρ' => ∀ w' cls dx, Ext w w' → Rel K mg w' [] ⟨[], ρ'.m⟩ → ErrR K mg w' ε cls dx → E cls dx w'.H
  | .bad => False
/-- a weaker claim -/
def Le {α : Type} (a b : Rs α) : Prop := a = .bad ∨ a = b
theorem Le.refl {α : Type} (a : Rs α) : Le a a := .inr rfl

/-! the end of a def: what was made in it is dropped, but what is handed back -/
def finD (n0 : Nat) (d : D) (m : List Cell) : Rs D :=
  if (m.take n0).all (·.below n0) = true then match d with
    | .loc j => if j < n0 then .ok (.loc j) ⟨[], m.take n0⟩ else match m[j]? with
      | some c => if (c.live && c.flat) = true then .ok (.loc n0) ⟨[], m.take n0 ++ [c]⟩ else .bad
      | none => .bad
    | d => .ok d ⟨[], m.take n0⟩
  else .bad
def fin (n0 : Nat) : Rs Fl → Rs D
  | .ok (.rt d) ρ => finD n0 d ρ.m
  | .ok .nx ρ => finD n0 (.p .none) ρ.m
  | .er ε ρ => if (ρ.m.take n0).all (·.below n0) = true then .er ε ⟨[], ρ.m.take n0⟩ else .bad
  | _ => .bad
section
variable {K : PySem.W.Frag} {mg : Str → Option Value}
theorem r_below {w w' : Wd} {n : Nat} (hz : w'.Z = w.Z) (ht : ∀ k, k < n → w'.θ[k]? = w.θ[k]?) {v : V} : ∀ {d : D}, d.below n = true → R K mg w v d → R K mg w' v d
  | .p _, _, h => by show RD K w'.Z v _; rw [hz]; exact h
  | .loc k, hb, ⟨a, h1, h2⟩ => ⟨a, by rw [ht k (of_decide_eq_true hb)]; exact h1, h2⟩
  | .nm _, _, h => h
  | .scr _, _, ⟨a, h1, h2⟩ => ⟨a, h1, by rw [hz]; exact h2⟩
theorem rf_below {w w' : Wd} {n : Nat} (hz : w'.Z = w.Z) (ht : ∀ k, k < n → w'.θ[k]? = w.θ[k]?) : ∀ {vs : List (Str × V)} {fs : List (Str × D)}, fs.all (fun p => p.2.below n) = true → RF K mg w vs fs → RF K mg w' vs fs
  | _, _, _, .nil => .nil
  | _, _, hb, .cons h t => by
    rw [List.all_cons, Bool.and_eq_true] at hb
    exact .cons (r_below hz ht hb.1 h) (rf_below hz ht hb.2 t)
theorem cell_below {w w' : Wd} {n : Nat} (hh : w'.H = w.H) (hz : w'.Z = w.Z) (ht : ∀ k, k < n → w'.θ[k]? = w.θ[k]?) {a : Addr} : ∀ {c : Cell}, c.below n = true → CellR K mg w a c → CellR K mg w' a c
  | .lst _, _, ⟨vs, q, r⟩ => ⟨vs, by rw [hh]; exact q, by rw [hz]; exact r⟩
  | .dK _, _, ⟨vs, q, r⟩ => ⟨vs, by rw [hh]; exact q, by rw [hz]; exact r⟩
  | .dT _, _, ⟨vs, q, r⟩ => ⟨vs, by rw [hh]; exact q, by rw [hz]; exact r⟩
  | .obj _ _, hb, ⟨C, dx, vs, m, q, r⟩ => ⟨C, dx, vs, m, by rw [hh]; exact q, rf_below hz ht hb r⟩
  | .dead, _, _ => trivial
theorem d_noloc_below {n : Nat} : ∀ {d : D}, d.noloc = true → d.below n = true
  | .p _, _ => rfl
  | .nm _, _ => rfl
  | .scr _, _ => rfl
theorem flat_below {n : Nat} : ∀ {c : Cell}, c.flat = true → c.below n = true
  | .lst _, _ => rfl
  | .dK _, _ => rfl
  | .dT _, _ => rfl
  | .dead, _ => rfl
  | .obj _ fs, h => by
    have h : (fs.all fun p => p.2.noloc) = true := h
    show (fs.all fun p => p.2.below n) = true
    rw [List.all_eq_true] at h ⊢
    exact fun p hp => d_noloc_below (h p hp)
/-- the store cut -/
def Wd.cut (w : Wd) (l : List Addr) : Wd := ⟨w.H, w.F, l, w.al⟩
theorem rel_cut {w : Wd} {σ : L2.St} {ρ : Sg} {n : Nat} (r : Rel K mg w σ ρ) (hb : (ρ.m.take n).all (·.below n) = true) : Rel K mg (w.cut (w.θ.take n)) [] ⟨[], ρ.m.take n⟩ := by
  have hl := r.len
  refine ⟨fun i d h => by simp at h, by show (w.θ.take n).length = (ρ.m.take n).length; simp [hl], fun k a c h1 h2 h3 => ?_, ?_, fun a h => r.alive a (List.mem_of_mem_take h)⟩
  · have h1 : (w.θ.take n)[k]? = some a := h1
    have h2 : (ρ.m.take n)[k]? = some c := h2
    have hk : k < n := by
      have := (List.getElem?_eq_some_iff.mp h2).1
      simp at this; omega
    rw [List.getElem?_take_of_lt hk] at h1
    have hb' : c.below n = true := List.all_eq_true.mp hb c (List.mem_of_getElem? h2)
    rw [List.getElem?_take_of_lt hk] at h2
    obtain ⟨f, q⟩ := r.cells k a c h1 h2 h3
    exact ⟨f, cell_below (w := w) (w' := w.cut (w.θ.take n)) rfl rfl (fun j hj => List.getElem?_take_of_lt hj) hb' q⟩
  · exact r.nd.sublist (List.take_sublist _ _)
theorem ext_cut {w w' : Wd} (e : Ext w w') : Ext w (w'.cut (w'.θ.take w.θ.length)) := by
  have ht : w'.θ.take w.θ.length = w.θ := by
    obtain ⟨t, ht⟩ := e.pre
    rw [← ht]; simp
  refine ⟨e.fro, e.forn, by show w.θ <+: w'.θ.take w.θ.length; rw [ht]; exact List.prefix_refl _, fun n a h1 h2 => ?_, e.live⟩
  have h2 : (w'.θ.take w.θ.length)[n]? = some a := h2
  rw [ht, List.getElem?_eq_none h1] at h2; cases h2
theorem rel_cut1 {w : Wd} {σ : L2.St} {ρ : Sg} {n j : Nat} {a : Addr} {c : Cell} (r : Rel K mg w σ ρ) (hb : (ρ.m.take n).all (·.below n) = true) (hn : n ≤ j) (ha : w.θ[j]? = some a) (hc : ρ.m[j]? = some c) (hlv : c.live = true) (hf : c.flat = true) :
    Rel K mg (w.cut (w.θ.take n ++ [a])) [] ⟨[], ρ.m.take n ++ [c]⟩ := by
  have hl := r.len
  have hjl : j < w.θ.length := (List.getElem?_eq_some_iff.mp ha).1
  have hln : (w.θ.take n).length = n := by simp; omega
  have hlm : (ρ.m.take n).length = n := by simp; omega
  have r0 := rel_cut r hb
  refine ⟨fun i d h => by simp at h, by show (w.θ.take n ++ [a]).length = (ρ.m.take n ++ [c]).length; simp [hl], fun k b c' h1 h2 h3 => ?_, ?_, fun b h => ?_⟩
  · have h1 : (w.θ.take n ++ [a])[k]? = some b := h1
    have h2 : (ρ.m.take n ++ [c])[k]? = some c' := h2
    by_cases hk : k < n
    · rw [List.getElem?_append_left (by omega)] at h1 h2
      obtain ⟨f, q⟩ := r0.cells k b c' h1 h2 h3
      have hb' : c'.below n = true := List.all_eq_true.mp hb c' (List.mem_of_getElem? h2)
      refine ⟨f, cell_below (w := w.cut (w.θ.take n)) (w' := w.cut (w.θ.take n ++ [a])) rfl rfl (fun i hi => ?_) hb' q⟩
      show (w.θ.take n ++ [a])[i]? = (w.θ.take n)[i]?
      exact List.getElem?_append_left (by omega)
    · have hk' : k = n := by
        have := (List.getElem?_eq_some_iff.mp h1).1
        simp at this; omega
      subst hk'
      rw [List.getElem?_append_right (by omega), hln, Nat.sub_self] at h1
      rw [List.getElem?_append_right (by omega), hlm, Nat.sub_self] at h2
      cases h1; cases h2
      obtain ⟨f, q⟩ := r.cells j a c ha hc hlv
      exact ⟨f, cell_below (w := w) (w' := w.cut (w.θ.take k ++ [a])) (n := 0) rfl rfl (fun i hi => absurd hi (Nat.not_lt_zero _)) (flat_below hf) q⟩
  · show (w.θ.take n ++ [a]).Nodup
    rw [List.nodup_append]
    refine ⟨r.nd.sublist (List.take_sublist _ _), by simp, fun x hx y hy e => ?_⟩
    have : y = a := by simpa using hy
    subst this; subst e
    obtain ⟨i, hi, q⟩ := List.mem_iff_getElem.mp hx
    simp at hi
    rw [List.getElem_take] at q
    obtain ⟨h1, h2⟩ := List.getElem?_eq_some_iff.mp ha
    have := (List.getElem_inj r.nd).mp (q.trans h2.symm)
    omega
  · rcases List.mem_append.mp h with h | h
    · exact r.alive b (List.mem_of_mem_take h)
    · have : b = a := by simpa using h
      subst this
      exact r.alive b (List.mem_of_getElem? ha)
end
/-- the slots at a def's entry -/
def startD (n : Nat) (ds : List D) (m : List Cell) : Sg := ⟨ds.map some ++ List.replicate (n - ds.length) none, m⟩
section
variable {P : Program} {w : World} {K : PySem.W.Frag} {mg : Str → Option Value} {base : Heap}
/-- the context of a def's body -/
abbrev cxD (P : Program) (w : World) (K : PySem.W.Frag) (mg : Str → Option Value) (base : Heap) (N : List Str) (qual : Str) (scope : Scope) (f : Addr) (cd : Value) (A : Around) (outer : List Env) (s : Shared) (H : Hp) (E : XK) : Cx := cxOf (L2.CX P w) P w K mg base N qual scope f cd A outer s H E
/-- THE RULE for a def -/
theorem ok_fn {x qual : Str} {st : Stmt} {f : Addr} {fd : FuncData} {N ps : List Str} {k : Nat} {F : FS} {g : M Fl} (Fu : Fun K x qual st f fd) (S : FnScope N ps (defScope st))
    (hbody : ∀ (cdv : Value) (A : Around) (outer : List Env) (s : Shared) (H : Hp) (E : XK), RmG k (cxD P w K mg base N qual (defScope st) f cdv A outer s H E).A → Takes (cxD P w K mg base N qual (defScope st) f cdv A outer s H E) (fun cls d _ H => E cls d H) → PassesOwn (model P w) (cxD P w K mg base N qual (defScope st) f cdv A outer s H E).A (cxD P w K mg base N qual (defScope st) f cdv A outer s H E).env (cxD P w K mg base N qual (defScope st) f cdv A outer s H E).xe →
      DSs (cxD P w K mg base N qual (defScope st) f cdv A outer s H E) (fun cls d _ H => E cls d H) (defBody st) g)
    (hF : ∀ ds m, ds.length = ps.length → Le (F ds m) (fin m.length (g (startD N.length ds m)))) : FnG P w K mg base (L2.CX P w) (k + 1) f fd ps (spD K mg ps.length F) := by
  refine fnG_of Fu S (fun vs H Q E h => h.1) (fun cdv A outer s H vs Q E hr h => ?_)
  obtain ⟨hn, wd, ds, m, rfl, hd, r, h⟩ := h
  have tk : Takes (cxD P w K mg base N qual (defScope st) f cdv A outer s wd.H E) (fun cls d _ H => E cls d H) := takes_of rfl rfl rfl rfl
  have pp : PassesOwn (model P w) (cxD P w K mg base N qual (defScope st) f cdv A outer s wd.H E).A (cxD P w K mg base N qual (defScope st) f cdv A outer s wd.H E).env (cxD P w K mg base N qual (defScope st) f cdv A outer s wd.H E).xe := passes_of (X := cxD P w K mg base N qual (defScope st) f cdv A outer s wd.H E) rfl
  obtain ⟨t, p, q⟩ := (hbody cdv A outer s wd.H E hr tk pp).run
  refine ⟨t, p, q wd (start N vs) (startD N.length ds m) _ ⟨⟨fun i d hi => ?_, r.len, r.cells, r.nd, r.alive⟩, ?_⟩ ?_⟩
  · have hi : (ds.map some ++ List.replicate (N.length - ds.length) none)[i]? = some (some d) := hi
    have hlt : i < ds.length := Classical.byContradiction fun z => by
      rw [List.getElem?_append_right (by simp; omega), List.getElem?_replicate] at hi
      split at hi <;> cases hi
    rw [List.getElem?_append_left (by simpa using hlt)] at hi
    obtain ⟨v, e, rv⟩ := r.slots i d hi
    refine ⟨v, ?_, rv⟩
    show (vs.map some ++ List.replicate (N.length - vs.length) none)[i]? = some (some v)
    rw [List.getElem?_append_left (by simp; omega)]
    exact e
  · show (vs.map some ++ List.replicate (N.length - vs.length) none).length = (ds.map some ++ List.replicate (N.length - ds.length) none).length
    simp [hd, hn]
  · have hl : wd.θ.length = m.length := r.len
    rcases hF ds m hd with z | z
    · rw [z] at h; exact h.elim
    · rw [z] at h
      have finq : ∀ (d : D) (ρ : Sg) (w' : Wd) (σ' : L2.St) (v : V), Ext wd w' → Rel K mg w' σ' ρ → R K mg w' v d →
          (match finD m.length d ρ.m with
            | .ok d ρ' => ∀ w' v, Ext wd w' → Rel K mg w' [] ⟨[], ρ'.m⟩ → R K mg w' v d → Q v w'.H
            | .er ε ρ' => ∀ w' cls dx, Ext wd w' → Rel K mg w' [] ⟨[], ρ'.m⟩ → ErrR K mg w' ε cls dx → E cls dx w'.H
            | .bad => False) → Q v w'.H := by
        intro d ρ w' σ' v e1 r1 rv hq
        unfold finD at hq
        by_cases hb : (ρ.m.take m.length).all (·.below m.length) = true
        · rw [if_pos hb] at hq
          rw [← hl] at hb hq
          have same : ∀ d' : D, d'.below wd.θ.length = true → R K mg w' v d' → R K mg (w'.cut (w'.θ.take wd.θ.length)) v d' := fun d' hd' h' => r_below (w := w') (w' := w'.cut (w'.θ.take wd.θ.length)) rfl (fun j hj => List.getElem?_take_of_lt hj) hd' h'
          cases d with
          | p x => exact hq (w'.cut (w'.θ.take wd.θ.length)) v (ext_cut e1) (rel_cut r1 hb) (same (.p x) rfl rv)
          | nm x => exact hq (w'.cut (w'.θ.take wd.θ.length)) v (ext_cut e1) (rel_cut r1 hb) (same (.nm x) rfl rv)
          | scr x => exact hq (w'.cut (w'.θ.take wd.θ.length)) v (ext_cut e1) (rel_cut r1 hb) (same (.scr x) rfl rv)
          | loc j =>
            by_cases hj : j < wd.θ.length
            · simp only [if_pos hj] at hq
              exact hq (w'.cut (w'.θ.take wd.θ.length)) v (ext_cut e1) (rel_cut r1 hb) (same (.loc j) (decide_eq_true hj) rv)
            · simp only [if_neg hj] at hq
              cases hc : ρ.m[j]? with
              | none => rw [hc] at hq; exact hq.elim
              | some c =>
                rw [hc] at hq
                by_cases hcf : (c.live && c.flat) = true
                · simp only [if_pos hcf] at hq
                  rw [Bool.and_eq_true] at hcf
                  obtain ⟨a, ha, rfl⟩ := rv
                  have hlt : (w'.θ.take wd.θ.length).length = wd.θ.length := by
                    have := (List.getElem?_eq_some_iff.mp ha).1
                    simp; omega
                  have htk : w'.θ.take wd.θ.length = wd.θ := by
                    obtain ⟨t, ht⟩ := e1.pre
                    rw [← ht]; simp
                  refine hq (w'.cut (w'.θ.take wd.θ.length ++ [a])) (.ref a) ⟨e1.fro, e1.forn, ?_, fun n b h1 h2 => ?_, e1.live⟩ (rel_cut1 r1 hb (by omega) ha hc hcf.1 hcf.2) ⟨a, ?_, rfl⟩
                  · show wd.θ <+: w'.θ.take wd.θ.length ++ [a]
                    rw [htk]; exact List.prefix_append _ _
                  · have h2 : (w'.θ.take wd.θ.length ++ [a])[n]? = some b := h2
                    have hn' : n = wd.θ.length := by
                      have := (List.getElem?_eq_some_iff.mp h2).1
                      rw [List.length_append, hlt] at this
                      simp at this; omega
                    subst hn'
                    rw [List.getElem?_append_right (by omega), hlt, Nat.sub_self] at h2
                    cases h2
                    exact e1.new j a (by omega) ha
                  · show (w'.θ.take wd.θ.length ++ [a])[wd.θ.length]? = some a
                    rw [List.getElem?_append_right (by omega), hlt, Nat.sub_self]; rfl
                · simp only [if_neg hcf] at hq
        · rw [if_neg hb] at hq; exact hq.elim
      cases hg : g (startD N.length ds m) with
      | bad => rw [hg] at h; exact h.elim
      | er ε ρ =>
        rw [hg] at h
        intro w' σ' cls dx e1 r1 er
        unfold fin at h
        by_cases hb : (ρ.m.take m.length).all (·.below m.length) = true
        · simp only [if_pos hb] at h
          rw [← hl] at hb h
          exact h (w'.cut (w'.θ.take wd.θ.length)) cls dx (ext_cut e1) (rel_cut r1.1 hb) er
        · simp only [if_neg hb] at h
      | ok fl ρ =>
        rw [hg] at h
        intro w' σ' e1 r1
        cases fl with
        | nx => exact finq (.p .none) ρ w' σ' .non e1 r1.1 .non h
        | rt d => exact fun v rv => finq d ρ w' σ' v e1 r1.1 rv h
        | bk => exact h.elim
        | ct => exact h.elim
end
end DL
namespace DL
open PySem PySem.Spec PyProof.Rows L2
/-! ### a call: the cells that are handed on, and back -/
def locsOf : List D → List Nat
  | [] => []
  | .loc n :: r => n :: locsOf r
  | .p _ :: r => locsOf r
  | .nm _ :: r => locsOf r
  | .scr _ :: r => locsOf r
def renD (ls : List Nat) : D → D
  | .loc n => .loc (ls.idxOf n)
  | .p x => .p x
  | .nm x => .nm x
  | .scr x => .scr x
def cellsAt (m : List Cell) : List Nat → Option (List Cell)
  | [] => some []
  | n :: r => match m[n]? with
    | some c => if (c.live && c.flat) = true then (cellsAt m r).map (c :: ·) else none
    | none => none
def setAll : List Nat → List Cell → List Cell → List Cell
  | [], mc, m => m ++ mc
  | _ :: _, [], m => m
  | n :: ls, c :: mc, m => setAll ls mc (m.set n c)
def backD (ls : List Nat) (n0 : Nat) : D → D
  | .loc i => match ls[i]? with
    | some n => .loc n
    | none => .loc (n0 + (i - ls.length))
  | .p x => .p x
  | .nm x => .nm x
  | .scr x => .scr x
def callM (n : Nat) (f : FS) (ds : List D) : M D := fun ρ => if ds.length = n then match cellsAt ρ.m (locsOf ds) with
  | none => .bad
  | some cs => if (locsOf ds).Nodup then match f (ds.map (renD (locsOf ds))) cs with
      | .ok d ρc => if ρc.m.all Cell.flat = true then .ok (backD (locsOf ds) ρ.m.length d) ⟨ρ.s, setAll (locsOf ds) ρc.m ρ.m⟩ else .bad
      | .er ε ρc => if ρc.m.all Cell.flat = true then .er ε ⟨ρ.s, setAll (locsOf ds) ρc.m ρ.m⟩ else .bad
      | .bad => .bad
    else .bad
  else .bad
section
variable {K : PySem.W.Frag} {mg : Str → Option Value}
theorem setAll_len : ∀ (ls : List Nat) (mc m : List Cell), ls.length ≤ mc.length → (setAll ls mc m).length = m.length + (mc.length - ls.length)
  | [], mc, m, _ => by simp [setAll]
  | n :: ls, [], m, h => by simp at h
  | n :: ls, c :: mc, m, h => by
    rw [setAll, setAll_len ls mc _ (by simpa using h)]
    simp
theorem setAll_out : ∀ (ls : List Nat) (mc m : List Cell) (k : Nat), k < m.length → k ∉ ls → (setAll ls mc m)[k]? = m[k]?
  | [], mc, m, k, h, _ => by rw [setAll, List.getElem?_append_left h]
  | n :: ls, [], m, k, h, _ => rfl
  | n :: ls, c :: mc, m, k, h, hn => by
    rw [setAll, setAll_out ls mc _ k (by simpa using h) (fun z => hn (List.mem_cons_of_mem _ z)), List.getElem?_set_ne]
    rintro rfl; exact hn List.mem_cons_self
theorem setAll_in : ∀ (ls : List Nat) (mc m : List Cell) (i k : Nat), ls.Nodup → ls[i]? = some k → k < m.length → i < mc.length → (setAll ls mc m)[k]? = mc[i]?
  | [], mc, m, i, k, _, h, _, _ => by simp at h
  | n :: ls, [], m, i, k, _, _, _, h => by simp at h
  | n :: ls, c :: mc, m, 0, k, nd, h, hk, _ => by
    simp at h; subst h
    rw [setAll, setAll_out ls mc _ n (by simpa using hk) (List.nodup_cons.mp nd).1, List.getElem?_set_self hk]; rfl
  | n :: ls, c :: mc, m, i + 1, k, nd, h, hk, hi => by
    rw [setAll, setAll_in ls mc _ i k (List.nodup_cons.mp nd).2 (by simpa using h) (by simpa using hk) (by simpa using hi)]; simp
theorem setAll_new : ∀ (ls : List Nat) (mc m : List Cell) (k : Nat), ls.length ≤ mc.length → m.length ≤ k → (setAll ls mc m)[k]? = mc[ls.length + (k - m.length)]?
  | [], mc, m, k, _, h => by rw [setAll, List.getElem?_append_right h]; simp
  | n :: ls, [], m, k, h, _ => by simp at h
  | n :: ls, c :: mc, m, k, h, hk => by
    rw [setAll, setAll_new ls mc _ k (by simpa using h) (by simpa using hk)]
    simp only [List.length_set, List.length_cons]
    rw [show ls.length + 1 + (k - m.length) = (ls.length + (k - m.length)) + 1 by omega, List.getElem?_cons_succ]
theorem cellsAt_get {m : List Cell} : ∀ {ls : List Nat} {cs : List Cell}, cellsAt m ls = some cs → cs.length = ls.length ∧ ∀ (i k : Nat), ls[i]? = some k → ∃ c, cs[i]? = some c ∧ m[k]? = some c ∧ c.live = true ∧ c.flat = true
  | [], cs, h => by cases h; exact ⟨rfl, fun i k h => by simp at h⟩
  | n :: ls, cs, h => by
    rw [cellsAt] at h
    cases hc : m[n]? with
    | none => rw [hc] at h; cases h
    | some c =>
      rw [hc] at h
      by_cases hf : (c.live && c.flat) = true
      · simp only [if_pos hf] at h
        cases hr : cellsAt m ls with
        | none => rw [hr] at h; cases h
        | some cr =>
          rw [hr] at h
          cases h
          obtain ⟨h1, h2⟩ := cellsAt_get hr
          refine ⟨by simp [h1], fun i k hk => ?_⟩
          cases i with
          | zero =>
            simp at hk; subst hk
            rw [Bool.and_eq_true] at hf
            exact ⟨c, rfl, hc, hf.1, hf.2⟩
          | succ i =>
            obtain ⟨c', q1, q2⟩ := h2 i k (by simpa using hk)
            exact ⟨c', by simpa using q1, q2⟩
      · simp only [if_neg hf] at h; cases h
theorem r_noloc {w w' : Wd} (hz : w'.Z = w.Z) {v : V} : ∀ {d : D}, d.noloc = true → R K mg w v d → R K mg w' v d
  | .p _, _, h => by show RD K w'.Z v _; rw [hz]; exact h
  | .nm _, _, h => h
  | .scr _, _, ⟨a, h1, h2⟩ => ⟨a, h1, by rw [hz]; exact h2⟩
theorem cell_flat {w : Wd} (w' : Wd) (hh : w'.H = w.H) (hz : w'.Z = w.Z) {a : Addr} {c : Cell} (hf : c.flat = true) (q : CellR K mg w a c) : CellR K mg w' a c :=
  cell_below (w := w) (w' := w') (n := 0) hh hz (fun j hj => absurd hj (Nat.not_lt_zero _)) (flat_below hf) q
theorem mem_locs : ∀ {ds : List D} {n : Nat}, .loc n ∈ ds → n ∈ locsOf ds
  | .loc k :: r, n, h => by
    rcases List.mem_cons.mp h with h | h
    · cases h; exact List.mem_cons_self
    · exact List.mem_cons_of_mem _ (mem_locs h)
  | .p _ :: r, n, h => by
    rcases List.mem_cons.mp h with h | h
    · cases h
    · exact mem_locs (ds := r) h
  | .nm _ :: r, n, h => by
    rcases List.mem_cons.mp h with h | h
    · cases h
    · exact mem_locs (ds := r) h
  | .scr _ :: r, n, h => by
    rcases List.mem_cons.mp h with h | h
    · cases h
    · exact mem_locs (ds := r) h
/-- values and data, one by one -/
inductive RLs (K : PySem.W.Frag) (mg : Str → Option Value) (w : Wd) : List V → List D → Prop
  | nil : RLs K mg w [] []
  | cons {v : V} {d : D} {vs : List V} {ds : List D} : R K mg w v d → RLs K mg w vs ds → RLs K mg w (v :: vs) (d :: ds)
theorem RLs.len {w : Wd} : ∀ {vs : List V} {ds : List D}, RLs K mg w vs ds → vs.length = ds.length
  | _, _, .nil => rfl
  | _, _, .cons _ t => by simp [t.len]
theorem RLs.get {w : Wd} : ∀ {vs : List V} {ds : List D}, RLs K mg w vs ds → ∀ (i : Nat) (d : D), ds[i]? = some d → ∃ v, vs[i]? = some v ∧ R K mg w v d
  | _, _, .nil, i, d, h => by simp at h
  | _, _, .cons h t, 0, d, e => by simp at e; subst e; exact ⟨_, rfl, h⟩
  | _, _, .cons h t, i + 1, d, e => by
    obtain ⟨v, q1, q2⟩ := t.get i d (by simpa using e)
    exact ⟨v, by simpa using q1, q2⟩
/-- into the call -/
theorem dl_in {w : Wd} {σ : L2.St} {ρ : Sg} {vs : List V} {ds : List D} {cs : List Cell} (r : Rel K mg w σ ρ) (rv : RLs K mg w vs ds) (hc : cellsAt ρ.m (locsOf ds) = some cs) (nd : (locsOf ds).Nodup) :
    ∃ wc : Wd, wc.H = w.H ∧ wc.F = w.F ∧ (∀ (i k : Nat), (locsOf ds)[i]? = some k → wc.θ[i]? = w.θ[k]?) ∧ wc.θ.length = (locsOf ds).length ∧ Rel K mg wc (vs.map some) ⟨(ds.map (renD (locsOf ds))).map some, cs⟩ := by
  obtain ⟨hl, hg⟩ := cellsAt_get hc
  have hlen := r.len
  obtain ⟨ls, hls⟩ : ∃ ls, ls = locsOf ds := ⟨_, rfl⟩
  rw [← hls] at hc nd hl hg ⊢
  have inb : ∀ k ∈ ls, k < w.θ.length := fun k hk => by
    obtain ⟨i, hi, q⟩ := List.mem_iff_getElem.mp hk
    obtain ⟨c, _, q2, _⟩ := hg i k (by rw [List.getElem?_eq_getElem hi, q])
    rw [hlen]; exact (List.getElem?_eq_some_iff.mp q2).1
  have hθ : ∀ (i k : Nat), ls[i]? = some k → (ls.map fun k => w.θ.getD k 0)[i]? = w.θ[k]? := fun i k h => by
    rw [List.getElem?_map, h]
    have := inb k (List.mem_of_getElem? h)
    simp [this]
  refine ⟨⟨w.H, w.F, ls.map fun k => w.θ.getD k 0, w.al⟩, rfl, rfl, hθ, by simp, ⟨fun i d h => ?_, by simp [hl], fun i a c h1 h2 h3 => ?_, ?_, fun a h => ?_⟩⟩
  · have h : ((ds.map (renD ls)).map some)[i]? = some (some d) := h
    rw [List.getElem?_map, List.getElem?_map] at h
    cases e : ds[i]? with
    | none => rw [e] at h; cases h
    | some d0 =>
      rw [e] at h
      have h : d = renD ls d0 := (Option.some.inj (Option.some.inj h)).symm
      subst h
      obtain ⟨v, q1, q2⟩ := rv.get i d0 e
      refine ⟨v, by rw [List.getElem?_map, q1]; rfl, ?_⟩
      cases d0 with
      | p x => exact q2
      | nm x => exact q2
      | scr x => exact q2
      | loc n =>
        obtain ⟨a, q3, q4⟩ := q2
        have hm : n ∈ ls := by rw [hls]; exact mem_locs (List.mem_of_getElem? e)
        refine ⟨a, ?_, q4⟩
        show (ls.map fun k => w.θ.getD k 0)[ls.idxOf n]? = some a
        rw [hθ _ n (by rw [List.getElem?_eq_getElem (List.idxOf_lt_length_of_mem hm), List.getElem_idxOf])]
        exact q3
  · have h1 : (ls.map fun k => w.θ.getD k 0)[i]? = some a := h1
    have h2 : cs[i]? = some c := h2
    have hi : i < ls.length := by
      have := (List.getElem?_eq_some_iff.mp h1).1
      simpa using this
    obtain ⟨c', q1, q2, q3, q4⟩ := hg i ls[i] (List.getElem?_eq_getElem hi)
    rw [h2] at q1; cases q1
    rw [hθ i ls[i] (List.getElem?_eq_getElem hi)] at h1
    obtain ⟨f, q⟩ := r.cells _ a c h1 q2 h3
    exact ⟨f, cell_flat (w := w) ⟨w.H, w.F, ls.map fun k => w.θ.getD k 0, w.al⟩ rfl rfl q4 q⟩
  · show (ls.map fun k => w.θ.getD k 0).Nodup
    refine List.pairwise_map.mpr (nd.imp_of_mem fun {i j} hi hj hne z => ?_)
    have b1 := inb i hi
    have b2 := inb j hj
    have e1 : w.θ.getD i 0 = w.θ[i] := by simp [b1]
    have e2 : w.θ.getD j 0 = w.θ[j] := by simp [b2]
    rw [e1, e2] at z
    exact hne ((List.getElem_inj r.nd).mp z)
  · have h : a ∈ ls.map fun k => w.θ.getD k 0 := h
    obtain ⟨k, hk, rfl⟩ := List.mem_map.mp h
    have := inb k hk
    have e : w.θ.getD k 0 = w.θ[k] := by simp [this]
    show w.H (w.θ.getD k 0) ≠ none
    rw [e]
    exact r.alive _ (List.getElem_mem this)
/-- out of the call -/
theorem dl_out {w wc wc' : Wd} {σ : L2.St} {ρ : Sg} {ls : List Nat} {mc : List Cell} (r : Rel K mg w σ ρ) (hH : wc.H = w.H) (hF : wc.F = w.F) (ht : ∀ (i k : Nat), ls[i]? = some k → wc.θ[i]? = w.θ[k]?) (hl : wc.θ.length = ls.length) (inb : ∀ k ∈ ls, k < w.θ.length) (nd : ls.Nodup)
    (e : Ext wc wc') (rc : Rel K mg wc' [] ⟨[], mc⟩) (hfl : mc.all Cell.flat = true) :
    ∃ w' : Wd, w'.H = wc'.H ∧ w'.F = wc'.F ∧ Ext w w' ∧ Rel K mg w' σ ⟨ρ.s, setAll ls mc ρ.m⟩ ∧ ∀ v d, R K mg wc' v d → R K mg w' v (backD ls ρ.m.length d) := by
  have hlen := r.len
  have hmc : wc'.θ.length = mc.length := rc.len
  have hpre := e.pre
  have hle : ls.length ≤ wc'.θ.length := by rw [← hl]; exact hpre.length_le
  have gpre : ∀ (i k : Nat), ls[i]? = some k → wc'.θ[i]? = w.θ[k]? := fun i k h => by
    have h1 := ht i k h
    have hi : i < wc.θ.length := by rw [hl]; exact (List.getElem?_eq_some_iff.mp h).1
    obtain ⟨t, q⟩ := hpre
    rw [← q, List.getElem?_append_left hi]
    exact h1
  have newA : ∀ (i : Nat) (a : Addr), ls.length ≤ i → wc'.θ[i]? = some a → w.H a = none := fun i a h1 h2 => by
    rw [← hH]; exact e.new i a (by omega) h2
  have live : ∀ b, w.H b ≠ none → wc'.H b ≠ none := fun b h => e.live b (by rw [hH]; exact h)
  have memc : ∀ b, b ∈ wc.θ → ∃ i k, ls[i]? = some k ∧ w.θ[k]? = some b ∧ wc'.θ[i]? = some b := fun b hb => by
    obtain ⟨i, hi, q⟩ := List.mem_iff_getElem.mp hb
    have hi' : i < ls.length := by omega
    have h1 := ht i ls[i] (List.getElem?_eq_getElem hi')
    have h2 := gpre i ls[i] (List.getElem?_eq_getElem hi')
    have h3 : wc.θ[i]? = some b := by rw [List.getElem?_eq_getElem hi, q]
    rw [h3] at h1
    exact ⟨i, ls[i], List.getElem?_eq_getElem hi', h1.symm, by rw [h2]; exact h1.symm⟩
  have ex : Ext w ⟨wc'.H, wc'.F, w.θ ++ wc'.θ.drop ls.length, wc'.al⟩ := by
    refine ⟨fun b o h1 h2 => e.fro b o (by rw [hF]; exact h1) (by rw [hH]; exact h2), fun b h1 h2 => ?_, List.prefix_append _ _, fun n a h1 h2 => ?_, live⟩
    · have := e.forn b (by rw [hF]; exact h1) (fun z => by
        obtain ⟨_, k, _, q, _⟩ := memc b z
        exact h2 (List.mem_of_getElem? q))
      rw [hH] at this; exact this
    · have h2 : (w.θ ++ wc'.θ.drop ls.length)[n]? = some a := h2
      rw [List.getElem?_append_right h1, List.getElem?_drop] at h2
      exact newA _ a (by omega) h2
  have hz : (⟨wc'.H, wc'.F, w.θ ++ wc'.θ.drop ls.length, wc'.al⟩ : Wd).Z = wc'.Z := rfl
  refine ⟨⟨wc'.H, wc'.F, w.θ ++ wc'.θ.drop ls.length, wc'.al⟩, rfl, rfl, ex, ⟨fun i d h => let ⟨v, e1, q⟩ := r.slots i d h; ⟨v, e1, ex.r q⟩, ?_, fun n a c h1 h2 h3 => ?_, ?_, fun a h => ?_⟩, fun v d h => ?_⟩
  · show (w.θ ++ wc'.θ.drop ls.length).length = (setAll ls mc ρ.m).length
    rw [setAll_len ls mc ρ.m (by omega), List.length_append, List.length_drop]; omega
  · have h1 : (w.θ ++ wc'.θ.drop ls.length)[n]? = some a := h1
    have h2 : (setAll ls mc ρ.m)[n]? = some c := h2
    have tail : ∀ i : Nat, wc'.θ[i]? = some a → mc[i]? = some c → wc'.F a ∧ CellR K mg ⟨wc'.H, wc'.F, w.θ ++ wc'.θ.drop ls.length, wc'.al⟩ a c := fun i q1 q2 => by
      obtain ⟨f, q⟩ := rc.cells i a c q1 q2 h3
      exact ⟨f, cell_flat (w := wc') ⟨wc'.H, wc'.F, w.θ ++ wc'.θ.drop ls.length, wc'.al⟩ rfl rfl (List.all_eq_true.mp hfl c (List.mem_of_getElem? q2)) q⟩
    by_cases hn : n < w.θ.length
    · rw [List.getElem?_append_left hn] at h1
      by_cases hm : n ∈ ls
      · obtain ⟨i, hi, q⟩ := List.mem_iff_getElem.mp hm
        have hi' : ls[i]? = some n := by rw [List.getElem?_eq_getElem hi, q]
        rw [setAll_in ls mc ρ.m i n nd hi' (by omega) (by omega)] at h2
        exact tail i (by rw [gpre i n hi']; exact h1) h2
      · rw [setAll_out ls mc ρ.m n (by omega) hm] at h2
        obtain ⟨f, q⟩ := r.cells n a c h1 h2 h3
        have nc : a ∉ wc.θ := fun z => by
          obtain ⟨i, k, q1, q2, _⟩ := memc a z
          obtain ⟨b1, e1⟩ := List.getElem?_eq_some_iff.mp h1
          obtain ⟨b2, e2⟩ := List.getElem?_eq_some_iff.mp q2
          have := (List.getElem_inj r.nd).mp (e1.trans e2.symm)
          subst this
          exact hm (List.mem_of_getElem? q1)
        obtain ⟨f', q'⟩ := e.forn a (by rw [hF]; exact f) nc
        exact ⟨f', q.stay ex (by show wc'.H a = w.H a; rw [q', hH])⟩
    · rw [List.getElem?_append_right (by omega), List.getElem?_drop] at h1
      rw [setAll_new ls mc ρ.m n (by omega) (by omega)] at h2
      exact tail _ h1 (by rw [hlen]; exact h2)
  · show (w.θ ++ wc'.θ.drop ls.length).Nodup
    rw [List.nodup_append]
    refine ⟨r.nd, rc.nd.sublist (List.drop_sublist _ _), fun a ha b hb z => ?_⟩
    subst z
    obtain ⟨i, hi, q⟩ := List.mem_iff_getElem.mp hb
    have : (wc'.θ.drop ls.length)[i]? = some a := by rw [List.getElem?_eq_getElem hi, q]
    rw [List.getElem?_drop] at this
    exact r.alive a ha (newA _ a (by omega) this)
  · have h : a ∈ w.θ ++ wc'.θ.drop ls.length := h
    rcases List.mem_append.mp h with h | h
    · exact live a (r.alive a h)
    · exact rc.alive a (List.mem_of_mem_drop h)
  · cases d with
    | p x => exact h
    | nm x => exact h
    | scr x => exact h
    | loc i =>
      obtain ⟨a, h1, h2⟩ := h
      cases hi : ls[i]? with
      | some n =>
        rw [show backD ls ρ.m.length (.loc i) = .loc n by simp [backD, hi]]
        refine ⟨a, ?_, h2⟩
        show (w.θ ++ wc'.θ.drop ls.length)[n]? = some a
        rw [List.getElem?_append_left (inb n (List.mem_of_getElem? hi)), ← gpre i n hi]; exact h1
      | none =>
        rw [show backD ls ρ.m.length (.loc i) = .loc (ρ.m.length + (i - ls.length)) by simp [backD, hi]]
        refine ⟨a, ?_, h2⟩
        have hi' : ls.length ≤ i := List.getElem?_eq_none_iff.mp hi
        show (w.θ ++ wc'.θ.drop ls.length)[ρ.m.length + (i - ls.length)]? = some a
        rw [List.getElem?_append_right (by omega), List.getElem?_drop, hlen, show ls.length + (ρ.m.length + (i - ls.length) - ρ.m.length) = i by omega]
        exact h1
end
section
variable {X : Cx} {W : WX}
theorem RL.rls {w : Wd} : ∀ {vs : List V} {ds : List D}, RL X w vs ds → RLs X.K X.mg w vs ds
  | _, _, .nil => .nil
  | _, _, .cons h t => .cons h t.rls
/-- what a def's promise asks, of what callM says -/
theorem call_sp {F : FS} {n : Nat} {w : Wd} {σ : L2.St} {ρ : Sg} {vs : List V} {ds : List D} {Q : VK} (r : RelX X w σ ρ) (rv : RLs X.K X.mg w vs ds)
    (h : Ok1 X W w σ (callM n F ds ρ) (fun w' _ d => ∀ v, RX X w' v d → Q v w'.H)) : spD X.K X.mg n F vs w.H Q (fun cls d H' => W cls d σ H') := by
  unfold callM at h
  by_cases hn : ds.length = n
  case neg => rw [if_neg hn] at h; exact h.elim
  rw [if_pos hn] at h
  cases hc : cellsAt ρ.m (locsOf ds) with
  | none => rw [hc] at h; exact h.elim
  | some cs =>
    rw [hc] at h
    by_cases nd : (locsOf ds).Nodup
    · simp only [if_pos nd] at h
      obtain ⟨wc, hH, hF, ht, hl, rc⟩   := dl_in r.1 rv hc nd
      have inb : ∀ k ∈ locsOf ds, k < w.θ.length := fun k hk => by
        obtain ⟨i, hi, q⟩ := List.mem_iff_getElem.mp hk
        obtain ⟨c, _, q2, _⟩ := (cellsAt_get hc).2 i k (by rw [List.getElem?_eq_getElem hi, q])
        rw [r.1.len]; exact (List.getElem?_eq_some_iff.mp q2).1
      refine ⟨by rw [rv.len]; exact hn, wc, ds.map (renD (locsOf ds)), cs, hH, by simp [hn], rc, ?_⟩
      cases hf : F (ds.map (renD (locsOf ds))) cs with
      | bad => rw [hf] at h; exact h.elim
      | ok d ρc =>
        rw [hf] at h
        by_cases hfl : ρc.m.all Cell.flat = true
        · simp only [if_pos hfl] at h
          intro wc' v e rr rd
          obtain ⟨w', h1, h2, ex, r', hb⟩ := dl_out r.1 hH hF ht hl inb nd e rr hfl
          rw [← h1]
          exact h w' ex ⟨r', r.2⟩ v (hb v d rd)
        · simp only [if_neg hfl] at h; exact h.elim
      | er ε ρc =>
        rw [hf] at h
        by_cases hfl : ρc.m.all Cell.flat = true
        · simp only [if_pos hfl] at h
          intro wc' cls dx e rr er
          obtain ⟨w', h1, h2, ex, r', _⟩ := dl_out r.1 hH hF ht hl inb nd e rr hfl
          rw [← h1]
          refine h w' cls dx ex ⟨r', r.2⟩ ⟨er.1, ?_⟩
          have q := er.2
          revert q
          cases ε.pay with
          | none => exact fun h => h
          | some p =>
            obtain ⟨f, x⟩ := p
            rintro ⟨d, v, q1, q2, q3, q4⟩
            refine ⟨d, v, q1, by rw [h1]; exact q2, by rw [h2]; exact q3, ?_⟩
            show RD X.K (hide w'.H w'.F) v x
            rw [h1, h2]; exact q4
        · simp only [if_neg hfl] at h; exact h.elim
    · simp only [if_neg nd] at h; exact h.elim
/-- what a callee lets out is wished for -/
def PassW (X : Cx) (W : WX) : Prop := ∀ σ : L2.St, PassesAt (L2.CX X.prog X.w) X σ (fun cls d H' => W cls d σ H')
theorem PassW.of (tk : Takes X W) : PassW X W := fun σ => passAt tk σ
/-- a def of the text as it is called: what it does, at what level -/
structure DFn (X : Cx) (x : Str) (n : Nat) (k : Nat) (F : FS) : Prop where
  ex : ∃ f fd ps, ps.length = n ∧ FnG X.prog X.w X.K X.mg X.base (L2.CX X.prog X.w) k f fd ps (spD X.K X.mg n F) ∧ Binds X.K fd ps [] ∧ X.mg x = some (.ref f) ∧ PySem.W.keepIn X.K (.ref f) = true
theorem de_call {x : Str} {n k : Nat} {F : FS} {p pos : Pos} {e : Expr} {es : List Expr} {gs : M (List D)} (f : DFn X x n k F) (tk : PassW X W) (hr : RmG k X.A) (ha : DA X W (e :: es) gs) (hg : Gl X x := by rfl)
    (hdb : (x == ("__debug__" : Str)) = false := by decide) (he : starEach (e :: es) X.env = (false, eval e X.env) :: starEach es X.env := by rfl) (hpl : (backTo pos (starEach es X.env)).any (·.1) = false := by rfl) : DE X W (.Call (.Name x p) (e :: es) [] pos) (gs.bind (callM n F)) := by
  obtain ⟨f, fd, ps, hps, G, hb, hm, hk⟩ := f.ex
  obtain ⟨t, pa, q⟩ := ha.run
  refine ⟨_, pe_callG (E := fun σ cls d H' => W cls d σ H') G hr hg hm hk hb (fun σ => tk σ) pa hdb he hpl, fun w σ ρ Q r h => ?_⟩
  refine q w σ ρ _ r (Ok1.imp (Ok1.bind h) fun w1 ρ1 ds e1 r1 h1 vs rvs => ?_)
  exact call_sp r1 rvs.rls h1
theorem de_call0 {x : Str} {k : Nat} {F : FS} {p pos : Pos} (f : DFn X x 0 k F) (tk : PassW X W) (hr : RmG k X.A) (hg : Gl X x := by rfl)
    (hdb : (x == ("__debug__" : Str)) = false := by decide) : DE X W (.Call (.Name x p) [] [] pos) (callM 0 F []) := by
  obtain ⟨f, fd, ps, hps, G, hb, hm, hk⟩ := f.ex
  refine ⟨_, pe_callG0 (E := fun σ cls d H' => W cls d σ H') G hr hg hm hk hb (fun σ => tk σ) hdb, fun w σ ρ Q r h => ?_⟩
  exact call_sp r .nil h
end
end DL
namespace DL
open PySem PySem.Spec PyProof.Rows L2
/-! ### operations -/
mutual
theorem dp_plain {K : PySem.W.Frag} {H : Hp} : ∀ {v : V} {d : PyData}, Dp K H v d → d.plain = true
  | _, _, .non => rfl
  | _, _, .bl _ => rfl
  | _, _, .int _ => rfl
  | _, _, .str _ => rfl
  | _, _, .lst _ t => dpAll_plain t
  | _, _, .tup _ t => dpAll_plain t
theorem dpAll_plain {K : PySem.W.Frag} {H : Hp} : ∀ {v : List V} {d : List PyData}, DpAll K H v d → PyData.plainAll d = true
  | _, _, .nil => rfl
  | _, _, .cons h t => by rw [PyData.plainAll, dp_plain h, dpAll_plain t]; rfl
end
theorem rd_get {K : PySem.W.Frag} {H : Hp} : ∀ {vs : List V} {xs : List PyData}, RDAll K H vs xs → ∀ (i : Nat) (x : PyData), xs[i]? = some x → ∃ v, vs[i]? = some v ∧ RD K H v x
  | _, _, .nil, i, x, h => by simp at h
  | _, _, .cons h t, 0, x, e => by simp at e; subst e; exact ⟨_, rfl, h⟩
  | _, _, .cons h t, i + 1, x, e => by
    obtain ⟨v, q1, q2⟩ := rd_get t i x (by simpa using e)
    exact ⟨v, by simpa using q1, q2⟩
theorem rd_app {K : PySem.W.Frag} {H : Hp} : ∀ {vs us : List V} {xs ys : List PyData}, RDAll K H vs xs → RDAll K H us ys → RDAll K H (vs ++ us) (xs ++ ys)
  | _, _, _, _, .nil, s => s
  | _, _, _, _, .cons h t, s => .cons h (rd_app t s)
theorem rd_take {K : PySem.W.Frag} {H : Hp} : ∀ (n : Nat) {vs : List V} {xs : List PyData}, RDAll K H vs xs → RDAll K H (vs.take n) (xs.take n)
  | 0, _, _, _ => .nil
  | _ + 1, _, _, .nil => .nil
  | n + 1, _, _, .cons h t => .cons h (rd_take n t)
theorem rd_drop {K : PySem.W.Frag} {H : Hp} : ∀ (n : Nat) {vs : List V} {xs : List PyData}, RDAll K H vs xs → RDAll K H (vs.drop n) (xs.drop n)
  | 0, _, _, h => h
  | _ + 1, _, _, .nil => .nil
  | n + 1, _, _, .cons _ t => rd_drop n t
theorem rd_rep {K : PySem.W.Frag} {H : Hp} {vs : List V} {xs : List PyData} (h : RDAll K H vs xs) : ∀ n : Nat, RDAll K H (List.replicate n vs).flatten (List.replicate n xs).flatten
  | 0 => .nil
  | n + 1 => by rw [List.replicate_succ, List.replicate_succ, List.flatten_cons, List.flatten_cons]; exact rd_app h (rd_rep h n)
theorem rd_rev {K : PySem.W.Frag} {H : Hp} : ∀ {vs : List V} {xs : List PyData}, RDAll K H vs xs → RDAll K H vs.reverse xs.reverse
  | _, _, .nil => .nil
  | _, _, .cons h t => by rw [List.reverse_cons, List.reverse_cons]; exact rd_app (rd_rev t) (.cons h .nil)
section
variable {X : Cx} {W : WX}
/-! new lists and tuples -/
def newL (o : Bool) (xs : List PyData) : M D := fun ρ => match o with
  | false => .ok (.p (.list xs)) ρ
  | true => .ok (.loc ρ.m.length) ⟨ρ.s, ρ.m ++ [.lst xs]⟩
def newT (xs : List PyData) : M D := M.ret (.p (.tuple xs))
theorem ok_newL {w : Wd} {σ : L2.St} {ρ : Sg} {o : Bool} {xs : List PyData} {vs : List V} {Q : VK} (r : RelX X w σ ρ) (hd : RDAll X.K w.Z vs xs) (h : Ok1 X W w σ (newL o xs ρ) (fun w' _ d => ∀ v, RX X w' v d → Q v w'.H)) (p : Addr) (n : w.H p = none) : Q (.ref p) (upd w.H p (.lst vs)) := by
  cases o with
  | false => exact h (w.put p (.lst vs)) (Ext.put n) (r.put n) (.ref p) (put_lst n hd)
  | true =>
    obtain ⟨s, m⟩ := ρ
    refine h (w.own p (.lst vs)) (Ext.own n) ⟨r.1.own n ⟨vs, upd_same, (Ext.own n).dpAll hd⟩, r.2⟩ (.ref p) ⟨p, ?_, rfl⟩
    show (w.θ ++ [p])[m.length]? = some p
    have hl : w.θ.length = m.length := r.1.len
    rw [← hl, List.getElem?_append_right (Nat.le_refl _), Nat.sub_self]; rfl
theorem ok_newT {w : Wd} {σ : L2.St} {ρ : Sg} {xs : List PyData} {vs : List V} {Q : VK} (r : RelX X w σ ρ) (hd : RDAll X.K w.Z vs xs) (h : Ok1 X W w σ (newT xs ρ) (fun w' _ d => ∀ v, RX X w' v d → Q v w'.H)) (p : Addr) (n : w.H p = none) : Q (.ref p) (upd w.H p (.tup vs)) :=
  h (w.put p (.tup vs)) (Ext.put n) (r.put n) (.ref p) (put_tup n hd)
theorem ok_same {w : Wd} {σ : L2.St} {ρ : Sg} {d : D} {v : V} {Q : VK} (r : RelX X w σ ρ) (rv : RX X w v d) (h : Ok1 X W w σ (M.ret d ρ) (fun w' _ d => ∀ v, RX X w' v d → Q v w'.H)) : Q v w.H := h w (Ext.refl w) r v rv
/-- a list or a tuple that is read: (is it a list, its items) -/
def sq : D → M (Bool × List PyData)
  | .p (.list xs) => M.ret (true, xs)
  | .p (.tuple xs) => M.ret (false, xs)
  | .loc n => fun ρ => match ρ.m[n]? with
    | some (.lst xs) => .ok (true, xs) ρ
    | _ => .bad
  | _ => M.bad
theorem ok_sq {β : Type} {w : Wd} {σ : L2.St} {ρ : Sg} {v : V} {d : D} {f : Bool × List PyData → M β} {k : Wd → Sg → β → Prop} (r : RelX X w σ ρ) (rv : RX X w v d) (h : Ok1 X W w σ ((sq d).bind f ρ) k) :
    ∃ b xs a vs, v = .ref a ∧ (if b = true then w.H a = some (.lst vs) else SqT X.K w.H a vs) ∧ RDAll X.K w.Z vs xs ∧ Ok1 X W w σ (f (b, xs) ρ) k ∧ (b = false → d = .p (.tuple xs)) := by
  cases d with
  | nm _ => exact h.elim
  | scr _ => exact h.elim
  | loc n =>
    have h : Ok1 X W w σ ((match ρ.m[n]? with | some (.lst xs) => (.ok (true, xs) ρ : Rs (Bool × List PyData)) | _ => .bad).bind f) k := h
    cases e : ρ.m[n]? with
    | none => rw [e] at h; exact h.elim
    | some c =>
      rw [e] at h
      cases c with
      | lst xs =>
        obtain ⟨a, vs, rfl, _, _, h1, h2⟩ := peek_loc r rv e
        exact ⟨true, xs, a, vs, rfl, h1, h2, h, fun z => by cases z⟩
      | dK _ => exact h.elim
      | dT _ => exact h.elim
      | obj _ _ => exact h.elim
      | dead => exact h.elim
  | p x =>
    have rv : RD X.K w.Z v x := rv
    cases rv with
    | non => exact h.elim
    | bl _ => exact h.elim
    | int _ => exact h.elim
    | str _ => exact h.elim
    | lst hs ha => exact ⟨true, _, _, _, rfl, hide_same _ _ hs, ha, h, fun z => by cases z⟩
    | tup hs ha => exact ⟨false, _, _, _, rfl, Evl_ex_t hide_same hs, ha, h, fun _ => rfl⟩
/-! flat results -/
def retF (o : Option PyData) : M D := match o with
  | some z => M.ret (.p z)
  | none => M.bad
/-- data to a truth value -/
def fB2 (f : PyData → PyData → Option Bool) (a b : D) : M D := (peek a).bind fun x => (peek b).bind fun y => match f x y with
  | some k => M.ret (.p (.bool k))
  | none => M.bad
def rB2 (K : PySem.W.Frag) (f : PyData → PyData → Option Bool) : R2 := fun x y H Q => ∃ d e k, Dp K H x d ∧ Dp K H y e ∧ f d e = some k ∧ Q (.bl k) H
theorem dop_B2 {f : PyData → PyData → Option Bool} : DOp X W (rB2 X.K f) (fB2 f) := by
  intro w σ ρ x y a b Q rr ra rb q
  obtain ⟨d, hd, q⟩ := Ok1.peek rr ra q
  obtain ⟨e, he, q⟩ := Ok1.peek rr rb q
  cases hz : f d e with
  | none => rw [hz] at q; exact q.elim
  | some k =>
    rw [hz] at q
    exact ⟨d, e, k, hd.dp, he.dp, hz, q w (Ext.refl w) rr _ (.bl k)⟩
def lowD : Nat := 60
def pEq (d e : PyData) : Option Bool := if min d.depth e.depth ≤ lowD then some (PyData.eqv d e) else none
def pNe (d e : PyData) : Option Bool := if min d.depth e.depth ≤ lowD then some (!PyData.eqv d e) else none
def isNon : PyData → Bool
  | .none => true
  | _ => false
def pLt (d e : PyData) : Option Bool := if min d.depth e.depth ≤ lowD ∧ PySem.W.alike d e = true ∧ isNon d = false then some (PySem.W.dataLt d e) else none
def pGt (d e : PyData) : Option Bool := if min d.depth e.depth ≤ lowD ∧ PySem.W.alike d e = true ∧ isNon d = false then some (PySem.W.dataLt e d) else none
def pLe (d e : PyData) : Option Bool := if min d.depth e.depth ≤ lowD ∧ PySem.W.alike d e = true ∧ isNon d = false then some (!PySem.W.dataLt e d) else none
def pGe (d e : PyData) : Option Bool := if min d.depth e.depth ≤ lowD ∧ PySem.W.alike d e = true ∧ isNon d = false then some (!PySem.W.dataLt d e) else none
theorem ne_none_of {d : PyData} (h : isNon d = false) : d ≠ .none := by rintro rfl; cases h
theorem op_cmpG {op : CmpOp} {f : PyData → PyData → Option Bool} (h : ∀ (d e : PyData) (k : Bool), f d e = some k → ∀ (s : Shared) (a b : Value) (as bs : List Addr) (Q : Value → Shared → Prop), Reads s.heap a d as → Reads s.heap b e bs → d.plain = true → e.plain = true → Q (.bool k) s → wpAny (model X.prog X.w) X.A (compareOp op a b) Q X.xe s) : OpR X (compareOp op) (rB2 X.K f) := by
  intro pins s σ H x y v u Q I rx ry ⟨d, e, k, hd, he, hf, q⟩
  obtain ⟨as, r1⟩ := Dp.reads I d x v hd rx
  obtain ⟨bs, r2⟩ := Dp.reads I e y u he ry
  exact h d e k hf s v u as bs _ r1 r2 (dp_plain hd) (dp_plain he) ⟨.bl k, H, I, rfl, q⟩
theorem op_eqP (hu : X.A.units + 64 < cLine) : OpR X (compareOp .Eq) (rB2 X.K pEq) := op_cmpG fun d e k hk s a b as bs Q r1 r2 p1 p2 q => by
  unfold pEq at hk
  split at hk
  · rename_i hm
    cases hk
    exact PySem.SeqAt.eq_plain r1 r2 p1 p2 (by unfold lowD at hm; omega) q
  · cases hk
theorem op_neP (hu : X.A.units + 64 < cLine) : OpR X (compareOp .NotEq) (rB2 X.K pNe) := op_cmpG fun d e k hk s a b as bs Q r1 r2 p1 p2 q => by
  unfold pNe at hk
  split at hk
  · rename_i hm
    cases hk
    exact PySem.SeqAt.ne_plain r1 r2 p1 p2 (by unfold lowD at hm; omega) q
  · cases hk
theorem op_ltP (hu : X.A.units + 64 < cLine) : OpR X (compareOp .Lt) (rB2 X.K pLt) := op_cmpG fun d e k hk s a b as bs Q r1 r2 p1 p2 q => by
  unfold pLt at hk
  split at hk
  · rename_i hm
    cases hk
    exact PySem.W.lt_data r1 r2 hm.2.1 (ne_none_of hm.2.2) (by have := hm.1; unfold lowD at this; omega) q
  · cases hk
theorem op_gtP (hu : X.A.units + 64 < cLine) : OpR X (compareOp .Gt) (rB2 X.K pGt) := op_cmpG fun d e k hk s a b as bs Q r1 r2 p1 p2 q => by
  unfold pGt at hk
  split at hk
  · rename_i hm
    cases hk
    exact PySem.W.gt_data r1 r2 hm.2.1 (ne_none_of hm.2.2) (by have := hm.1; unfold lowD at this; omega) q
  · cases hk
theorem op_leP (hu : X.A.units + 64 < cLine) : OpR X (compareOp .LtE) (rB2 X.K pLe) := op_cmpG fun d e k hk s a b as bs Q r1 r2 p1 p2 q => by
  unfold pLe at hk
  split at hk
  · rename_i hm
    cases hk
    exact PySem.W.le_data r1 r2 hm.2.1 (ne_none_of hm.2.2) (by have := hm.1; unfold lowD at this; omega) q
  · cases hk
theorem op_geP (hu : X.A.units + 64 < cLine) : OpR X (compareOp .GtE) (rB2 X.K pGe) := op_cmpG fun d e k hk s a b as bs Q r1 r2 p1 p2 q => by
  unfold pGe at hk
  split at hk
  · rename_i hm
    cases hk
    exact PySem.W.ge_data r1 r2 hm.2.1 (ne_none_of hm.2.2) (by have := hm.1; unfold lowD at this; omega) q
  · cases hk
/-- x in xs: data in a list or tuple; a text in a text -/
def pInS (d : PyData) (xs : List PyData) : Option Bool := if min (PyData.depthAll xs) d.depth ≤ lowD then some (xs.any fun y => PyData.eqv y d) else none
def pInT (y : Str) (d : PyData) : Option Bool := match d with
  | .str x => some (!(Builtin.Str.occurrences y x 0 y.length 1).isEmpty)
  | _ => none
def pIn (d e : PyData) : Option Bool := match e with
  | .list xs => pInS d xs
  | .tuple xs => pInS d xs
  | .str y => pInT y d
  | _ => none
def pNotIn (d e : PyData) : Option Bool := (pIn d e).map (!·)
theorem pInS_some {d : PyData} {xs : List PyData} {k : Bool} (h : pInS d xs = some k) : min (PyData.depthAll xs) d.depth ≤ lowD ∧ (xs.any fun y => PyData.eqv y d) = k := by
  unfold pInS at h
  by_cases hm : min (PyData.depthAll xs) d.depth ≤ lowD
  · rw [if_pos hm] at h; exact ⟨hm, Option.some.inj h⟩
  · rw [if_neg hm] at h; cases h
theorem op_inP (hu : X.A.units + 64 < cLine) : OpR X (compareOp .In) (rB2 X.K pIn) := by
  intro pins s σ H x y v u Q I rx ry ⟨d, e, k, hd, he, hf, q⟩
  obtain ⟨as, r1⟩ := Dp.reads I d x v hd rx
  obtain ⟨bs, r2⟩ := Dp.reads I e y u he ry
  have p1 := dp_plain hd
  have p2 := dp_plain he
  cases e with
  | none => cases hf
  | bool _ => cases hf
  | int _ => cases hf
  | dict _ => cases hf
  | str z =>
    cases d with
    | str t =>
      cases hd; cases he
      cases hf
      exact op_in_str pins s σ H _ _ v u Q I rx ry ⟨t, z, rfl, rfl, q⟩
    | none => cases hf
    | bool _ => cases hf
    | int _ => cases hf
    | list _ => cases hf
    | tuple _ => cases hf
    | dict _ => cases hf
  | list xs =>
    obtain ⟨hm, rfl⟩ := pInS_some hf
    exact PySem.SeqAt.in_list_data r2 r1 p2 p1 (by unfold lowD at hm; omega) ⟨.bl _, H, I, rfl, q⟩
  | tuple xs =>
    obtain ⟨hm, rfl⟩ := pInS_some hf
    exact PySem.SeqAt.in_tuple_data r2 r1 p2 p1 (by unfold lowD at hm; omega) ⟨.bl _, H, I, rfl, q⟩
theorem op_notInP (hu : X.A.units + 64 < cLine) : OpR X (compareOp .NotIn) (rB2 X.K pNotIn) := by
  intro pins s σ H x y v u Q I rx ry ⟨d, e, k, hd, he, hf, q⟩
  obtain ⟨as, r1⟩ := Dp.reads I d x v hd rx
  obtain ⟨bs, r2⟩ := Dp.reads I e y u he ry
  have p1 := dp_plain hd
  have p2 := dp_plain he
  obtain ⟨k', hg, rfl⟩ : ∃ k', pIn d e = some k' ∧ k = !k' := by
    unfold pNotIn at hf
    cases h : pIn d e with
    | none => rw [h] at hf; cases hf
    | some k' => rw [h] at hf; exact ⟨k', rfl, (Option.some.inj hf).symm⟩
  clear hf
  cases e with
  | none => cases hg
  | bool _ => cases hg
  | int _ => cases hg
  | dict _ => cases hg
  | str z =>
    cases d with
    | str t =>
      cases hd; cases he
      cases hg
      exact op_notin_str pins s σ H _ _ v u Q I rx ry ⟨t, z, rfl, rfl, q⟩
    | none => cases hg
    | bool _ => cases hg
    | int _ => cases hg
    | list _ => cases hg
    | tuple _ => cases hg
    | dict _ => cases hg
  | list xs =>
    obtain ⟨hm, rfl⟩ := pInS_some hg
    exact PySem.SeqAt.notIn_list_data r2 r1 p2 p1 (by unfold lowD at hm; omega) ⟨.bl _, H, I, rfl, q⟩
  | tuple xs =>
    obtain ⟨hm, rfl⟩ := pInS_some hg
    exact PySem.SeqAt.notIn_tuple_data r2 r1 p2 p1 (by unfold lowD at hm; omega) ⟨.bl _, H, I, rfl, q⟩
/-- is None -/
def fIsN (neg : Bool) (a b : D) : M D := match a, b with
  | .p x, .p .none => M.ret (.p (.bool (isNon x != neg)))
  | .loc _, .p .none => M.ret (.p (.bool neg))
  | _, _ => M.bad
theorem isNon_v {K : PySem.W.Frag} {H : Hp} {v : V} {d : PyData} (h : RD K H v d) : decide (v = .non) = isNon d := by cases h <;> rfl
theorem dop_isN : DOp X W (fun x y H Q => y = .non ∧ Q (.bl (decide (x = .non))) H) (fIsN false) := by
  intro w σ ρ x y a b Q rr ra rb q
  cases a with
  | nm _ => exact q.elim
  | scr _ => exact q.elim
  | loc n =>
    cases b with
    | p z =>
      cases z with
      | none =>
        obtain ⟨p, _, rfl⟩ := ra
        cases (show RD X.K w.Z y .none from rb)
        exact ⟨rfl, q w (Ext.refl w) rr _ (.bl false)⟩
      | bool _ => exact q.elim
      | int _ => exact q.elim
      | str _ => exact q.elim
      | list _ => exact q.elim
      | tuple _ => exact q.elim
      | dict _ => exact q.elim
    | nm _ => exact q.elim
    | scr _ => exact q.elim
    | loc _ => exact q.elim
  | p z0 =>
    cases b with
    | p z =>
      cases z with
      | none =>
        cases (show RD X.K w.Z y .none from rb)
        refine ⟨rfl, ?_⟩
        rw [isNon_v (show RD X.K w.Z x z0 from ra)]
        have := q w (Ext.refl w) rr _ (.bl (isNon z0 != false))
        simpa using this
      | bool _ => exact q.elim
      | int _ => exact q.elim
      | str _ => exact q.elim
      | list _ => exact q.elim
      | tuple _ => exact q.elim
      | dict _ => exact q.elim
    | nm _ => exact q.elim
    | scr _ => exact q.elim
    | loc _ => exact q.elim
theorem dop_isNotN : DOp X W (fun x y H Q => y = .non ∧ Q (.bl (!decide (x = .non))) H) (fIsN true) := by
  intro w σ ρ x y a b Q rr ra rb q
  cases a with
  | nm _ => exact q.elim
  | scr _ => exact q.elim
  | loc n =>
    cases b with
    | p z =>
      cases z with
      | none =>
        obtain ⟨p, _, rfl⟩ := ra
        cases (show RD X.K w.Z y .none from rb)
        exact ⟨rfl, q w (Ext.refl w) rr _ (.bl true)⟩
      | bool _ => exact q.elim
      | int _ => exact q.elim
      | str _ => exact q.elim
      | list _ => exact q.elim
      | tuple _ => exact q.elim
      | dict _ => exact q.elim
    | nm _ => exact q.elim
    | scr _ => exact q.elim
    | loc _ => exact q.elim
  | p z0 =>
    cases b with
    | p z =>
      cases z with
      | none =>
        cases (show RD X.K w.Z y .none from rb)
        refine ⟨rfl, ?_⟩
        rw [isNon_v (show RD X.K w.Z x z0 from ra)]
        have := q w (Ext.refl w) rr _ (.bl (isNon z0 != true))
        simpa using this
      | bool _ => exact q.elim
      | int _ => exact q.elim
      | str _ => exact q.elim
      | list _ => exact q.elim
      | tuple _ => exact q.elim
      | dict _ => exact q.elim
    | nm _ => exact q.elim
    | scr _ => exact q.elim
    | loc _ => exact q.elim
/-! ints -/
theorem rd_int {K : PySem.W.Frag} {H : Hp} {v : V} {i : Int} (h : RD K H v (.int i)) : v = .int i := by cases h; rfl
theorem rd_str {K : PySem.W.Frag} {H : Hp} {v : V} {i : Str} (h : RD K H v (.str i)) : v = .str i := by cases h; rfl
theorem rd_bl {K : PySem.W.Frag} {H : Hp} {v : V} {i : Bool} (h : RD K H v (.bool i)) : v = .bl i := by cases h; rfl
/-- the int of a datum -/
def asI : D → Option Int
  | .p (.int i) => some i
  | _ => none
theorem asI_v {w : Wd} {v : V} {d : D} {i : Int} (h : asI d = some i) (rv : RX X w v d) : v = .int i := by
  cases d with
  | loc _ => cases h
  | nm _ => cases h
  | scr _ => cases h
  | p x =>
    cases x with
    | int j => cases h; exact rd_int rv
    | none => cases h
    | bool _ => cases h
    | str _ => cases h
    | list _ => cases h
    | tuple _ => cases h
    | dict _ => cases h
def ifI (c : Bool) (z : Int) : M D := match c with
  | true => M.ret (.p (.int z))
  | false => M.bad
def fInt (C : Int → Int → Bool) (g : Int → Int → Int) (a b : D) : M D := match asI a with
  | some i => (match asI b with
    | some j => ifI (C i j) (g i j)
    | none => M.bad)
  | none => M.bad
theorem dop_int {C : Int → Int → Prop} {C' : Int → Int → Bool} {g : Int → Int → Int} (hC : ∀ i j, C' i j = true → C i j) : DOp X W (rI C fun i j => .int (g i j)) (fInt C' g) := by
  intro w σ ρ x y a b Q rr ra rb q
  unfold fInt at q
  cases ha : asI a with
  | none => rw [ha] at q; exact q.elim
  | some i =>
    rw [ha] at q
    cases hb : asI b with
    | none => rw [hb] at q; exact q.elim
    | some j =>
      rw [hb] at q
      cases hc : C' i j with
      | false => simp only [hc] at q; exact q.elim
      | true =>
        simp only [hc] at q
        exact ⟨i, j, asI_v ha ra, asI_v hb rb, hC i j hc, q w (Ext.refl w) rr _ (.int _)⟩
def fInt0 (g : Int → Int → Int) : D → D → M D := fInt (fun _ _ => true) g
theorem dop_int0 {g : Int → Int → Int} : DOp X W (rI0 fun i j => .int (g i j)) (fInt0 g) := by
  intro w σ ρ x y a b Q rr ra rb q
  obtain ⟨i, j, h1, h2, _, h3⟩ := dop_int (C := fun _ _ => True) (fun _ _ _ => trivial) w σ ρ x y a b Q rr ra rb q
  exact ⟨i, j, h1, h2, h3⟩
abbrev fSub := fInt0 fun i j => i - j
def cMul (i j : Int) : Bool := (decide (-(2 ^ 64) < i) && decide (i < 2 ^ 64)) || (decide (-(2 ^ 64) < j) && decide (j < 2 ^ 64))
abbrev fFdiv := fInt (fun _ j => decide (j ≠ 0 ∧ j.natAbs < 1073741824)) fun i j => i.fdiv j
abbrev fMod := fInt (fun _ j => decide (j ≠ 0)) fun i j => i.fmod j
abbrev fPow := fInt (fun i j => decide (0 ≤ j ∧ j ≤ 1000000 ∧ i.natAbs < 2 ^ 64)) fun i j => i ^ j.toNat
abbrev fShr := fInt (fun _ j => decide (0 ≤ j)) fun i j => i / 2 ^ j.toNat
theorem dop_sub : DOp X W (rI0 fun i j => .int (i - j)) fSub := dop_int0
theorem dop_fdiv : DOp X W (rI CDivN fun i j => .int (i.fdiv j)) fFdiv := dop_int fun i j h => (of_decide_eq_true h : j ≠ 0 ∧ j.natAbs < 1073741824)
theorem dop_mod : DOp X W (rI (fun _ j => j ≠ 0) fun i j => .int (i.fmod j)) fMod := dop_int fun i j h => of_decide_eq_true h
theorem dop_pow : DOp X W (rI CPow fun i j => .int (i ^ j.toNat)) fPow := dop_int fun i j h => (of_decide_eq_true h : 0 ≤ j ∧ j ≤ 1000000 ∧ i.natAbs < 2 ^ 64)
theorem dop_shr : DOp X W (rI (fun _ j => 0 ≤ j) fun i j => .int (i / 2 ^ j.toNat)) fShr := dop_int fun i j h => of_decide_eq_true h
/-! + -/
def addK (o : Bool) (b c : Bool) (zs : List PyData) : M D := match b with
  | true => (match c with
    | true => newL o zs
    | false => M.bad)
  | false => (match c with
    | true => M.bad
    | false => newT zs)
def fAddS (o : Bool) (a b : D) : M D := (sq a).bind fun x => (sq b).bind fun y => if x.2.length + y.2.length ≤ sizeLine then addK o x.1 y.1 (x.2 ++ y.2) else M.bad
def fAddI (i : Int) (b : D) : M D := match b with
  | .p (.int j) => M.ret (.p (.int (i + j)))
  | _ => M.bad
def fAddT (x : Str) (b : D) : M D := match b with
  | .p (.str y) => if x.length + y.length ≤ sizeLine then M.ret (.p (.str (x ++ y))) else M.bad
  | _ => M.bad
def fAdd (o : Bool) (a b : D) : M D := match a with
  | .p (.int i) => fAddI i b
  | .p (.str x) => fAddT x b
  | .p (.list xs) => fAddS o (.p (.list xs)) b
  | .p (.tuple xs) => fAddS o (.p (.tuple xs)) b
  | .loc n => fAddS o (.loc n) b
  | _ => M.bad
def rAddAll (K : PySem.W.Frag) : R2 := fun x y H Q => (∃ i j, x = .int i ∧ y = .int j ∧ Q (.int (i + j)) H) ∨ ((∃ i j, x = .str i ∧ y = .str j ∧ i.length + j.length ≤ sizeLine ∧ Q (.str (i ++ j)) H) ∨ (rCat x y H Q ∨ rCatA K x y H Q))
theorem op_addAll : OpR X (binaryOp .Add) (rAddAll X.K) := (op_add (X := X)).or (op_add_str.or (op_cat.or op_catA))
theorem rd_nil {K : PySem.W.Frag} {H : Hp} {vs : List V} {xs : List PyData} (h : RDAll K H vs xs) : vs = [] ↔ xs = [] := by cases h <;> simp
theorem add_seq {o : Bool} {w : Wd} {σ : L2.St} {ρ : Sg} {x y : V} {a b : D} {Q : VK} (rr : RelX X w σ ρ) (ra : RX X w x a) (rb : RX X w y b)
    (q : Ok1 X W w σ (fAddS o a b ρ) (fun w' _ d => ∀ v, RX X w' v d → Q v w'.H)) : rCat x y w.H Q ∨ rCatA X.K x y w.H Q := by
  obtain ⟨k1, xs, p1, vs, rfl, s1, d1, q, t1⟩ := ok_sq rr ra q
  obtain ⟨k2, ys, p2, us, rfl, s2, d2, q, t2⟩ := ok_sq rr rb q
  have q1 : Ok1 X W w σ ((if xs.length + ys.length ≤ sizeLine then addK o k1 k2 (xs ++ ys) else M.bad : M D) ρ) (fun w' _ d => ∀ v, RX X w' v d → Q v w'.H) := q
  clear q
  by_cases hz : xs.length + ys.length ≤ sizeLine
  · rw [if_pos hz] at q1
    have hz' : vs.length + us.length ≤ sizeLine := by rw [dpAll_len d1, dpAll_len d2]; exact hz
    cases k1 with
    | true =>
      cases k2 with
      | true =>
        refine .inl ⟨p1, p2, vs, us, rfl, rfl, ?_, ?_, hz', fun p n => ok_newL rr (rd_app d1 d2) q1 p n⟩
        · rwa [if_pos rfl] at s1
        · rwa [if_pos rfl] at s2
      | false => exact q1.elim
    | false =>
      cases k2 with
      | true => exact q1.elim
      | false =>
        rw [if_neg (by decide)] at s1 s2
        have e1 := t1 rfl
        have e2 := t2 rfl
        subst e1; subst e2
        have q : Ok1 X W w σ (newT (xs ++ ys) ρ) (fun w' _ d => ∀ v, RX X w' v d → Q v w'.H) := q1
        refine .inr ⟨p1, p2, vs, us, rfl, rfl, s1, s2, hz', fun e => ?_, fun _ e => ?_, fun _ _ p n => ok_newT rr (rd_app d1 d2) q p n⟩
        · have : xs = [] := (rd_nil d1).mp e
          subst this
          exact ok_same rr rb q
        · have : ys = [] := (rd_nil d2).mp e
          subst this
          rw [List.append_nil] at q
          exact ok_same rr ra q
  · rw [if_neg hz] at q1; exact q1.elim
theorem dop_add (o : Bool) : DOp X W (rAddAll X.K) (fAdd o) := by
  intro w σ ρ x y a b Q rr ra rb q
  cases a with
  | loc n => exact .inr (.inr (add_seq rr ra rb q))
  | nm _ => exact q.elim
  | scr _ => exact q.elim
  | p z =>
    cases z with
    | none => exact q.elim
    | bool _ => exact q.elim
    | dict _ => exact q.elim
    | list _ => exact .inr (.inr (add_seq rr ra rb q))
    | tuple _ => exact .inr (.inr (add_seq rr ra rb q))
    | int i =>
      cases b with
      | loc _ => exact q.elim
      | nm _ => exact q.elim
      | scr _ => exact q.elim
      | p z =>
        cases z with
        | int j => exact .inl ⟨i, j, rd_int ra, rd_int rb, q w (Ext.refl w) rr _ (.int _)⟩
        | none => exact q.elim
        | bool _ => exact q.elim
        | str _ => exact q.elim
        | list _ => exact q.elim
        | tuple _ => exact q.elim
        | dict _ => exact q.elim
    | str i =>
      cases b with
      | loc _ => exact q.elim
      | nm _ => exact q.elim
      | scr _ => exact q.elim
      | p z =>
        cases z with
        | str j =>
          have q : Ok1 X W w σ ((if i.length + j.length ≤ sizeLine then M.ret (.p (.str (i ++ j))) else M.bad : M D) ρ) (fun w' _ d => ∀ v, RX X w' v d → Q v w'.H) := q
          by_cases hz : i.length + j.length ≤ sizeLine
          · rw [if_pos hz] at q
            exact .inr (.inl ⟨i, j, rd_str ra, rd_str rb, hz, q w (Ext.refl w) rr _ (.str _)⟩)
          · rw [if_neg hz] at q; exact q.elim
        | none => exact q.elim
        | bool _ => exact q.elim
        | int _ => exact q.elim
        | list _ => exact q.elim
        | tuple _ => exact q.elim
        | dict _ => exact q.elim
/-! subscripts -/
def retO (o : Option PyData) : M D := match o with
  | some z => M.ret (.p z)
  | none => M.bad
def fIxS (a : D) (i : Int) : M D := (sq a).bind fun x => retO (atI x.2 i)
def fIxT (z : Str) (i : Int) : M D := if z.length ≤ sizeLine then retO ((atI z.cps.toList i).map fun c => .str ⟨#[c]⟩) else M.bad
def fIxI (a : D) (i : Int) : M D := match a with
  | .p (.str z) => fIxT z i
  | .p (.list xs) => fIxS (.p (.list xs)) i
  | .p (.tuple xs) => fIxS (.p (.tuple xs)) i
  | .loc n => fIxS (.loc n) i
  | _ => M.bad
def fIx (a b : D) : M D := match b with
  | .p (.int i) => fIxI a i
  | _ => M.bad
theorem rd_at {K : PySem.W.Frag} {H : Hp} {vs : List V} {xs : List PyData} (h : RDAll K H vs xs) {i : Int} {x : PyData} (e : atI xs i = some x) : ∃ v, atI vs i = some v ∧ RD K H v x := by
  unfold atI at e ⊢
  rw [dpAll_len h]
  cases hi : ixN xs.length i with
  | none => rw [hi] at e; cases e
  | some j =>
    rw [hi] at e
    exact rd_get h j x e
theorem ix_gen {w : Wd} {σ : L2.St} {ρ : Sg} {x : V} {a : D} {i : Int} {Q : VK} (rr : RelX X w σ ρ) (ra : RX X w x a) (q : Ok1 X W w σ (fIxS a i ρ) (fun w' _ d => ∀ v, RX X w' v d → Q v w'.H)) : rIx X.K x (.int i) w.H Q := by
  obtain ⟨k1, xs, p1, vs, rfl, s1, d1, q, t1⟩ := ok_sq rr ra q
  have q : Ok1 X W w σ (retO (atI xs i) ρ) (fun w' _ d => ∀ v, RX X w' v d → Q v w'.H) := q
  cases he : atI xs i with
  | none => rw [he] at q; exact q.elim
  | some y =>
    rw [he] at q
    obtain ⟨v, e1, rv⟩ := rd_at d1 he
    have fin := q w (Ext.refl w) rr v rv
    cases k1 with
    | true =>
      rw [if_pos rfl] at s1
      exact .inl ⟨p1, vs, i, v, rfl, rfl, SqL.of s1, e1, fin⟩
    | false =>
      rw [if_neg (by decide)] at s1
      exact .inr (.inl ⟨p1, vs, i, v, rfl, rfl, s1, e1, fin⟩)
theorem dop_ix : DOp X W (rIx X.K) fIx := by
  intro w σ ρ x y a b Q rr ra rb q
  cases b with
  | loc _ => exact q.elim
  | nm _ => exact q.elim
  | scr _ => exact q.elim
  | p zb =>
    cases zb with
    | none => exact q.elim
    | bool _ => exact q.elim
    | str _ => exact q.elim
    | list _ => exact q.elim
    | tuple _ => exact q.elim
    | dict _ => exact q.elim
    | int i =>
      have e := rd_int rb
      subst e
      cases a with
      | loc _ => exact ix_gen rr ra q
      | nm _ => exact q.elim
      | scr _ => exact q.elim
      | p za =>
        cases za with
        | none => exact q.elim
        | bool _ => exact q.elim
        | int _ => exact q.elim
        | dict _ => exact q.elim
        | list _ => exact ix_gen rr ra q
        | tuple _ => exact ix_gen rr ra q
        | str z =>
          have e := rd_str ra
          subst e
          have q : Ok1 X W w σ ((if z.length ≤ sizeLine then retO ((atI z.cps.toList i).map fun c => .str ⟨#[c]⟩) else M.bad : M D) ρ) (fun w' _ d => ∀ v, RX X w' v d → Q v w'.H) := q
          by_cases hz : z.length ≤ sizeLine
          · rw [if_pos hz] at q
            cases he : atI z.cps.toList i with
            | none => rw [he] at q; exact q.elim
            | some c =>
              rw [he] at q
              exact .inr (.inr ⟨z, i, c, rfl, rfl, hz, he, q w (Ext.refl w) rr _ (.str _)⟩)
          · rw [if_neg hz] at q; exact q.elim
end
end DL
namespace DL
open PySem PySem.Spec PyProof.Rows L2
/-! ### displays, comprehensions, iterators -/
section
variable {X : Cx} {W : WX}
def asP : D → M PyData
  | .p x => M.ret x
  | _ => M.bad
def asPs : List D → Option (List PyData)
  | [] => some []
  | .p x :: r => (asPs r).map (x :: ·)
  | _ :: _ => none
theorem asPs_rd {w : Wd} : ∀ {vs : List V} {ds : List D} {xs : List PyData}, RL X w vs ds → asPs ds = some xs → RDAll X.K w.Z vs xs
  | _, _, _, .nil, h => by cases h; exact .nil
  | _, _, _, .cons (d := d) (ds := ds) h t, e => by
    cases d with
    | p x =>
      cases hr : asPs ds with
      | none => rw [asPs, hr] at e; cases e
      | some ys =>
        rw [asPs, hr] at e
        cases e
        exact .cons h (asPs_rd t hr)
    | loc _ => cases e
    | nm _ => cases e
    | scr _ => cases e
def ifM {α : Type} (c : Bool) (g : M α) : M α := match c with
  | true => g
  | false => M.bad
def mkT (ds : List D) : M D := match asPs ds with
  | some xs => ifM (decide (xs.length ≤ sizeLine)) (newT xs)
  | none => M.bad
def mkL (o : Bool) (ds : List D) : M D := match asPs ds with
  | some xs => ifM (decide (xs.length ≤ sizeLine)) (newL o xs)
  | none => M.bad
theorem ifM_ok {α : Type} {w : Wd} {σ : L2.St} {ρ : Sg} {c : Bool} {g : M α} {k : Wd → Sg → α → Prop} (h : Ok1 X W w σ (ifM c g ρ) k) : c = true ∧ Ok1 X W w σ (g ρ) k := by
  cases c with
  | true => exact ⟨rfl, h⟩
  | false => exact h.elim
theorem de_tup {es : List Expr} {k : Nat} {pos : Pos} {gs : M (List D)} (h : DA X W es gs) : DE X W (.Tuple es k pos) (gs.bind mkT) := by
  obtain ⟨t, p, q⟩ := h.run
  refine ⟨_, pe_tup p, fun w σ ρ Q r h => q w σ ρ _ r (Ok1.imp (Ok1.bind h) fun w1 ρ1 ds e1 r1 h1 vs rvs => ?_)⟩
  unfold mkT at h1
  cases hx : asPs ds with
  | none => rw [hx] at h1; exact h1.elim
  | some xs =>
    rw [hx] at h1
    have rd := asPs_rd rvs hx
    obtain ⟨c, h1⟩ := ifM_ok h1
    exact ⟨by rw [dpAll_len rd]; exact of_decide_eq_true c, fun p n => ok_newT r1 rd h1 p n⟩
theorem de_lst (o : Bool) {es : List Expr} {pos : Pos} {gs : M (List D)} (h : DA X W es gs) : DE X W (.List es pos) (gs.bind (mkL o)) := by
  obtain ⟨t, p, q⟩ := h.run
  refine ⟨_, pe_lst p, fun w σ ρ Q r h => q w σ ρ _ r (Ok1.imp (Ok1.bind h) fun w1 ρ1 ds e1 r1 h1 vs rvs => ?_)⟩
  unfold mkL at h1
  cases hx : asPs ds with
  | none => rw [hx] at h1; exact h1.elim
  | some xs =>
    rw [hx] at h1
    have rd := asPs_rd rvs hx
    obtain ⟨c, h1⟩ := ifM_ok h1
    exact ⟨by rw [dpAll_len rd]; exact of_decide_eq_true c, fun p n => ok_newL r1 rd h1 p n⟩

/-! iterators -/
theorem tup_of {w : Wd} {v : V} {xs : List PyData} (h : RX X w v (.p (.tuple xs))) : ∃ a vs, v = .ref a ∧ SqT X.K w.Z a vs ∧ RDAll X.K w.Z vs xs := by
  cases (show RD X.K w.Z v (.tuple xs) from h) with
  | tup h1 h2 => exact ⟨_, _, rfl, h1, h2⟩
theorem lst_of {w : Wd} {v : V} {xs : List PyData} (h : RX X w v (.p (.list xs))) : ∃ a vs, v = .ref a ∧ w.Z a = some (.lst vs) ∧ RDAll X.K w.Z vs xs := by
  cases (show RD X.K w.Z v (.list xs) from h) with
  | lst h1 h2 => exact ⟨_, _, rfl, h1, h2⟩
theorem sqL_lst {K : PySem.W.Frag} {H : Hp} {a : Addr} {vs : List V} (h : H a = some (.lst vs)) : SqL K H a vs := SqL.of h
theorem steps_l {w0 : Wd} {a : Addr} {vs : List V} {xs : List PyData} (h : SqL X.K w0.Z a vs) (hd : RDAll X.K w0.Z vs xs) : Steps X (Itl X.K a) w0 xs := fun i w e => by
  have hs : SqL X.K w.H a vs := hide_same.seq (e.same.seq h)
  refine ⟨fun hl => ⟨vs, hs, by rw [dpAll_len hd]; exact hl⟩, fun x hx => ?_⟩
  obtain ⟨v, hv, rv⟩ := rd_get hd i x hx
  refine ⟨⟨vs, v, hs, hv⟩, fun u H' y => ?_⟩
  obtain ⟨rfl, hu⟩ := y
  have := hu vs hs
  rw [hv] at this
  cases this
  exact ⟨w, rfl, Ext.refl w, fun _ _ r => r, e.dp rv⟩
theorem steps_t {w0 : Wd} {a : Addr} {vs : List V} {xs : List PyData} (h : SqT X.K w0.Z a vs) (hd : RDAll X.K w0.Z vs xs) : Steps X (Itt X.K a) w0 xs := fun i w e => by
  have hs : SqT X.K w.H a vs := Evl_ex_t hide_same (Evl_ex_t e.same h)
  refine ⟨fun hl => ⟨vs, hs, by rw [dpAll_len hd]; exact hl⟩, fun x hx => ?_⟩
  obtain ⟨v, hv, rv⟩ := rd_get hd i x hx
  refine ⟨⟨vs, v, hs, hv⟩, fun u H' y => ?_⟩
  obtain ⟨rfl, hu⟩ := y
  have := hu vs hs
  rw [hv] at this
  cases this
  exact ⟨w, rfl, Ext.refl w, fun _ _ r => r, e.dp rv⟩
def itL : D → M (List PyData)
  | .p (.list xs) => M.ret xs
  | .scr ns => M.ret (ns.map .int)
  | _ => M.bad
def itT : D → M (List PyData)
  | .p (.tuple xs) => M.ret xs
  | _ => M.bad
theorem rd_ints {K : PySem.W.Frag} {H : Hp} : ∀ ns : List Int, RDAll K H (ns.map V.int) (ns.map PyData.int)
  | [] => .nil
  | n :: r => .cons (.int n) (rd_ints r)
/-- over a list -/
theorem di_list {tg l : Expr} {g : M D} (h : DE X W l g) : DI X W tg l (g.bind itL) := by
  obtain ⟨t, p, q⟩ := h.run
  refine ⟨_, pi_list p, fun w σ ρ Q r h => q w σ ρ _ r (Ok1.imp (Ok1.bind h) fun w1 ρ1 d e1 r1 h1 v rv => ?_)⟩
  cases d with
  | loc _ => exact h1.elim
  | nm _ => exact h1.elim
  | scr ns =>
    obtain ⟨a, rfl, hs⟩ := rv
    exact ⟨a, rfl, ⟨_, hide_same.seq hs⟩, h1 w1 (Ext.refl w1) r1 _ (steps_l hs (rd_ints ns))⟩
  | p x =>
    cases x with
    | list xs =>
      obtain ⟨a, vs, rfl, hs, hd⟩ := lst_of rv
      exact ⟨a, rfl, ⟨_, SqL.of (hide_same _ _ hs)⟩, h1 w1 (Ext.refl w1) r1 _ (steps_l (SqL.of hs) hd)⟩
    | none => exact h1.elim
    | bool _ => exact h1.elim
    | int _ => exact h1.elim
    | str _ => exact h1.elim
    | tuple _ => exact h1.elim
    | dict _ => exact h1.elim
/-- over a tuple -/
theorem di_tup {tg l : Expr} {g : M D} (h : DE X W l g) : DI X W tg l (g.bind itT) := by
  obtain ⟨t, p, q⟩ := h.run
  refine ⟨_, pi_tup p, fun w σ ρ Q r h => q w σ ρ _ r (Ok1.imp (Ok1.bind h) fun w1 ρ1 d e1 r1 h1 v rv => ?_)⟩
  cases d with
  | loc _ => exact h1.elim
  | nm _ => exact h1.elim
  | scr _ => exact h1.elim
  | p x =>
    cases x with
    | tuple xs =>
      obtain ⟨a, vs, rfl, hs, hd⟩ := tup_of rv
      exact ⟨a, rfl, ⟨_, Evl_ex_t hide_same hs⟩, h1 w1 (Ext.refl w1) r1 _ (steps_t hs hd)⟩
    | none => exact h1.elim
    | bool _ => exact h1.elim
    | int _ => exact h1.elim
    | str _ => exact h1.elim
    | list _ => exact h1.elim
    | dict _ => exact h1.elim
/-- the signs of a text -/
def signs (x : Str) : List PyData := x.cps.toList.map fun c => .str ⟨#[c]⟩
def itS : D → M (List PyData)
  | .p (.str x) => M.ret (signs x)
  | _ => M.bad
theorem di_str {tg l : Expr} {g : M D} (h : DE X W l g) : DI X W tg l (g.bind itS) := by
  obtain ⟨t, p, q⟩ := h.run
  refine ⟨_, pi_str p, fun w σ ρ Q r h => q w σ ρ _ r (Ok1.imp (Ok1.bind h) fun w1 ρ1 d e1 r1 h1 v rv => ?_)⟩
  cases d with
  | loc _ => exact h1.elim
  | nm _ => exact h1.elim
  | scr _ => exact h1.elim
  | p x =>
    cases x with
    | str x =>
      refine ⟨x, rd_str rv, h1 w1 (Ext.refl w1) r1 _ fun i w e => ⟨fun hl => ?_, fun y hy => ⟨?_, fun u H' yl => ?_⟩⟩⟩
      · have hl : (signs x).length ≤ i := hl
        unfold signs at hl
        show x.cps.size ≤ i
        simpa using hl
      · have := (List.getElem?_eq_some_iff.mp hy).1
        unfold signs at this
        show i < x.cps.size
        simpa using this
      · obtain ⟨rfl, c, hc, rfl⟩ := yl
        unfold signs at hy
        rw [List.getElem?_map, Array.getElem?_toList, hc] at hy
        cases hy
        exact ⟨w, rfl, Ext.refl w, fun _ _ r => r, .str _⟩
    | none => exact h1.elim
    | bool _ => exact h1.elim
    | int _ => exact h1.elim
    | tuple _ => exact h1.elim
    | list _ => exact h1.elim
    | dict _ => exact h1.elim
/-- ranges -/
def smallI (i : Int) : Bool := decide (-(2 ^ 62) ≤ i) && decide (i < 2 ^ 62)
def rangeL (lo : Int) (n : Nat) : List PyData := (List.range n).map fun (k : Nat) => PyData.int (lo + (k : Int))
theorem steps_r {w0 : Wd} {lo : Int} {n : Nat} : Steps X (Itr lo n) w0 (rangeL lo n) := fun i w e => by
  refine ⟨fun hl => ?_, fun x hx => ⟨?_, fun u H' yl => ?_⟩⟩
  · unfold rangeL at hl
    show n ≤ i
    simpa using hl
  · have := (List.getElem?_eq_some_iff.mp hx).1
    unfold rangeL at this
    show i < n
    simpa using this
  · obtain ⟨rfl, rfl⟩ := yl
    unfold rangeL at hx
    rw [List.getElem?_map] at hx
    cases hr : (List.range n)[i]? with
    | none => rw [hr] at hx; cases hx
    | some k =>
      have hk : k = i := by
        obtain ⟨h1, h2⟩ := List.getElem?_eq_some_iff.mp hr
        rw [List.getElem_range] at h2; exact h2.symm
      subst hk
      rw [hr] at hx
      cases hx
      exact ⟨w, rfl, Ext.refl w, fun _ _ r => r, .int _⟩
def rg1 : List D → M (List PyData)
  | [d] => match asI d with
    | some j => ifM (smallI j) (M.ret (rangeL 0 j.toNat))
    | none => M.bad
  | _ => M.bad
def rg2 : List D → M (List PyData)
  | [c, d] => match asI c with
    | some i => (match asI d with
      | some j => ifM (smallI i && smallI j) (M.ret (rangeL i (j - i).toNat))
      | none => M.bad)
    | none => M.bad
  | _ => M.bad
theorem small_of {i : Int} (h : smallI i = true) : -(2 ^ 62) ≤ i ∧ i < 2 ^ 62 := by
  unfold smallI at h
  rw [Bool.and_eq_true] at h
  exact ⟨of_decide_eq_true h.1, of_decide_eq_true h.2⟩
theorem di_range1 {tg a : Expr} {p pos : Pos} {gs : M (List D)} (hm : X.mg "range" = none) (h : DA X W [a] gs) (hg : Gl X "range" := by rfl) (hs : starEach [a] X.env = [(false, eval a X.env)] := by rfl) : DI X W tg (.Call (.Name "range" p) [a] [] pos) (gs.bind rg1) := by
  obtain ⟨t, pa, q⟩ := h.run
  refine ⟨_, pi_range1 hg hm pa hs, fun w σ ρ Q r h => q w σ ρ _ r (Ok1.imp (Ok1.bind h) fun w1 ρ1 ds e1 r1 h1 vs rvs => ?_)⟩
  cases rvs with
  | nil => exact h1.elim
  | cons ra t =>
    cases t with
    | cons _ _ => exact h1.elim
    | nil =>
      rename_i v d
      have h1 : Ok1 X W w1 σ ((match asI d with
        | some j => ifM (smallI j) (M.ret (rangeL 0 j.toNat))
        | none => M.bad : M (List PyData)) ρ1) _ := h1
      cases ha : asI d with
      | none => rw [ha] at h1; exact h1.elim
      | some j =>
        rw [ha] at h1
        obtain ⟨c, h1⟩ := ifM_ok h1
        have e := asI_v ha ra
        subst e
        obtain ⟨c1, c2⟩ := small_of c
        exact ⟨j, rfl, c1, c2, h1 w1 (Ext.refl w1) r1 _ steps_r⟩
theorem di_range2 {tg a b : Expr} {p pos : Pos} {gs : M (List D)} (hm : X.mg "range" = none) (h : DA X W [a, b] gs) (hg : Gl X "range" := by rfl) (hs : starEach [a, b] X.env = [(false, eval a X.env), (false, eval b X.env)] := by rfl) (hs2 : starEach [b] X.env = [(false, eval b X.env)] := by rfl) :
    DI X W tg (.Call (.Name "range" p) [a, b] [] pos) (gs.bind rg2) := by
  obtain ⟨t, pa, q⟩ := h.run
  refine ⟨_, pi_range2 hg hm pa hs hs2, fun w σ ρ Q r h => q w σ ρ _ r (Ok1.imp (Ok1.bind h) fun w1 ρ1 ds e1 r1 h1 vs rvs => ?_)⟩
  match ds, vs, rvs with
  | [], _, _ => exact h1.elim
  | [_], _, _ => exact h1.elim
  | _ :: _ :: _ :: _, _, _ => exact h1.elim
  | [d, e], [v, u], .cons ra (.cons rb .nil) =>
    have h1 : Ok1 X W w1 σ ((match asI d with
      | some i => (match asI e with
        | some j => ifM (smallI i && smallI j) (M.ret (rangeL i (j - i).toNat))
        | none => M.bad)
      | none => M.bad : M (List PyData)) ρ1) _ := h1
    cases ha : asI d with
    | none => rw [ha] at h1; exact h1.elim
    | some i =>
      rw [ha] at h1
      cases hb : asI e with
      | none => rw [hb] at h1; exact h1.elim
      | some j =>
        rw [hb] at h1
        obtain ⟨c, h1⟩ := ifM_ok h1
        rw [Bool.and_eq_true] at c
        have e1 := asI_v ha ra
        have e2 := asI_v hb rb
        subst e1; subst e2
        obtain ⟨c1, c2⟩ := small_of c.1
        obtain ⟨c3, c4⟩ := small_of c.2
        exact ⟨i, j, rfl, ⟨c1, c2, c3, c4⟩, h1 w1 (Ext.refl w1) r1 _ steps_r⟩
/-! comprehensions: what is raised within is not followed -/
def noEr {α : Type} (g : M α) : M α := fun ρ => match g ρ with
  | .ok a s => .ok a s
  | .er _ _ => .bad
  | .bad => .bad
def wipeD (s : List (Option D)) : List Nat → List (Option D)
  | [] => s
  | v :: vs => (wipeD s vs).set v none
def setS (s : List (Option D)) : M Unit := fun ρ => .ok () ⟨s, ρ.m⟩
def compL (s1 : List (Option D)) (gt : D → M Unit) (gc : M Bool) (ge : M D) : List PyData → M (List PyData)
  | [] => M.ret []
  | x :: xs => (setS s1).bind fun _ => (noEr ((gt (.p x)).bind fun _ => gc)).bind fun b => match b with
    | true => ge.bind fun d => (asP d).bind fun y => (compL s1 gt gc ge xs).bind fun ys => M.ret (y :: ys)
    | false => compL s1 gt gc ge xs
def resE {α : Type} (s : List (Option D)) (r : Rs α) : Rs α := match r with
  | .er ε ρ => .er ε ⟨s, ρ.m⟩
  | .ok a ρ => .ok a ρ
  | .bad => .bad
/-- with errors of the element -/
def gLcE (o : Bool) (vs : List Nat) (gi : M (List PyData)) (gt : D → M Unit) (gc : M Bool) (ge : M D) : M D := gi.bind fun xs => ifM (decide (xs.length ≤ sizeLine)) fun ρ => resE ρ.s ((compL (wipeD ρ.s vs) gt gc ge xs ρ).bind fun ys => (setS ρ.s).bind fun _ => newL o ys)
def gLc (o : Bool) (vs : List Nat) (gi : M (List PyData)) (gt : D → M Unit) (gc : M Bool) (ge : M D) : M D := gLcE o vs gi gt gc (noEr ge)
/-! the readings that do not hang on the block -/
def tE (X : Cx) (W : WX) (g : M D) : TE := fun σ H Q => ∃ (w : Wd) (ρ : Sg), w.H = H ∧ RelX X w σ ρ ∧ Ok1 X W w σ (g ρ) (fun w' _ d => ∀ v, RX X w' v d → Q v w'.H)
theorem DE.can {e : Expr} {g : M D} (h : DE X W e g) : PE X e (tE X W g) := by
  obtain ⟨t, p, q⟩ := h.run
  refine ⟨fun pins s σ H Q I ⟨w, ρ, hw, r, k⟩ => p.run pins s σ H Q I ?_⟩
  subst hw
  exact q w σ ρ Q r k
def tB' (X : Cx) (W : WX) (g : M Bool) : TT := fun σ H Q => ∃ (w : Wd) (ρ : Sg), w.H = H ∧ RelX X w σ ρ ∧ Ok1 X W w σ (g ρ) (fun w' _ d => Q d w'.H)
theorem DT.can {e : Expr} {g : M Bool} (h : DT X W e g) : PT X e (tB' X W g) := by
  obtain ⟨t, p, q⟩ := h.run
  refine ⟨fun pins s σ H Q I ⟨w, ρ, hw, r, k⟩ => p.run pins s σ H Q I ?_⟩
  subst hw
  exact q w σ ρ Q r k
/-- no error -/
abbrev W0 : WX := fun _ _ _ _ => False
structure DTs (X : Cx) (W : WX) (ifs : List Expr) (g : M Bool) : Prop where
  run : ∃ t, PTs X ifs t ∧ ∀ (w : Wd) (σ : L2.St) (ρ : Sg) (Q : Bool → Hp → Prop), RelX X w σ ρ → Ok1 X W w σ (g ρ) (fun w' _ b => Q b w'.H) → t σ w.H Q
theorem dts_nil : DTs X W [] (M.ret true) := ⟨_, pts_nil, fun w σ ρ Q r h => h w (Ext.refl w) r⟩
theorem dts_one {c : Expr} {g : M Bool} (h : DT X W c g) : DTs X W [c] g := by
  obtain ⟨t, p, q⟩ := h.run
  exact ⟨_, pts_one p, q⟩
theorem DTs.can {es : List Expr} {g : M Bool} (h : DTs X W es g) : PTs X es (tB' X W g) := by
  obtain ⟨t, p, q⟩ := h.run
  refine ⟨fun pins s σ H Q I ⟨w, ρ, hw, r, k⟩ => p.run pins s σ H Q I ?_⟩
  subst hw
  exact q w σ ρ Q r k
/-- a comprehension's target: names -/
structure TgOk (X : Cx) (t : TG) (g : D → M Unit) (vs : List Nat) : Prop where
  run : ∀ (w : Wd) (σ : L2.St) (ρ : Sg) (v : V) (d : D) (Q : L2.St → Hp → Prop), RelX X w σ ρ → RX X w v d → ∀ ρ', g d ρ = .ok () ρ' → ∃ σ', (Q σ' w.H → t v σ w.H Q) ∧ RelX X w σ' ρ' ∧ wipe σ' vs = wipe σ vs ∧ ρ'.m = ρ.m
theorem wipe_set {σ : L2.St} {i : Nat} {v : V} : ∀ {vs : List Nat}, i ∈ vs → wipe (σ.set i (some v)) vs = wipe σ vs
  | j :: vs, h => by
    by_cases hv : i ∈ vs
    · show (wipe (σ.set i (some v)) vs).set j none = (wipe σ vs).set j none
      rw [wipe_set hv]
    · have e : i = j := by simpa [hv] using h
      subst e
      have out : ∀ (σ : L2.St) (vs : List Nat), i ∉ vs → wipe (σ.set i (some v)) vs = (wipe σ vs).set i (some v) := fun σ vs => by
        induction vs with
        | nil => intro _; rfl
        | cons k ks ih =>
          intro hn
          show (wipe (σ.set i (some v)) ks).set k none = ((wipe σ ks).set k none).set i (some v)
          rw [ih fun z => hn (List.mem_cons_of_mem _ z), List.set_comm _ _ (fun z => hn (by rw [z]; exact List.mem_cons_self))]
      show (wipe (σ.set i (some v)) vs).set i none = (wipe σ vs).set i none
      rw [out σ vs hv, List.set_set]
theorem tg_name (i : Nat) {vs : List Nat} (h : i ∈ vs := by decide) : TgOk X (gName i) (put i) vs := ⟨fun w σ ρ v d Q r rv ρ' e => by
  cases e
  exact ⟨σ.set i (some v), fun q => q, r.slot i rv, wipe_set h, rfl⟩⟩
/-- a tuple of names -/
def putAll : List Nat → List D → M Unit
  | [], [] => M.ret ()
  | i :: is, d :: ds => (put i d).bind fun _ => putAll is ds
  | _, _ => M.bad
def gNames : List Nat → TGs
  | [] => L2.gNil
  | i :: is => L2.gCons (gName i) (gNames is)
theorem putAll_ok {vs : List Nat} : ∀ (is : List Nat) (w : Wd) (σ : L2.St) (ρ : Sg) (us : List V) (ds : List D) (Q : L2.St → Hp → Prop), (∀ i ∈ is, i ∈ vs) → RelX X w σ ρ → RL X w us ds → ∀ ρ', putAll is ds ρ = .ok () ρ' →
    ∃ σ', (Q σ' w.H → gNames is us σ w.H Q) ∧ RelX X w σ' ρ' ∧ wipe σ' vs = wipe σ vs ∧ ρ'.m = ρ.m
  | [], w, σ, ρ, us, ds, Q, _, r, rl, ρ', e => by
    cases rl with
    | nil => cases e; exact ⟨σ, fun q => ⟨rfl, q⟩, r, rfl, rfl⟩
    | cons _ _ => cases e
  | i :: is, w, σ, ρ, us, ds, Q, hi, r, rl, ρ', e => by
    cases rl with
    | nil => cases e
    | cons h t =>
      obtain ⟨σ', q1, q2, q3, q4⟩ := putAll_ok is w _ _ _ _ Q (fun j hj => hi j (List.mem_cons_of_mem _ hj)) (r.slot i h) t ρ' e
      exact ⟨σ', fun q => ⟨_, _, rfl, q1 q⟩, q2, q3.trans (wipe_set (hi i List.mem_cons_self)), q4⟩
theorem tg_tup (is : List Nat) {vs : List Nat} (h : ∀ i ∈ is, i ∈ vs := by decide) : TgOk X (gTup X.K is.length (gNames is)) (gTupG is.length (putAll is)) vs := ⟨fun w σ ρ v d Q r rv ρ' e => by
  cases d with
  | loc _ => cases e
  | nm _ => cases e
  | scr _ => cases e
  | p x =>
    cases x with
    | tuple xs =>
      obtain ⟨a, us, rfl, hs, hd⟩ := tup_of rv
      have e : (if (xs.map D.p).length = is.length then putAll is (xs.map D.p) else M.bad : M Unit) ρ = .ok () ρ' := e
      by_cases hl : (xs.map D.p).length = is.length
      · rw [if_pos hl] at e
        obtain ⟨σ', q1, q2, q3, q4⟩ := putAll_ok is w σ ρ us _ Q h r (rl_dpAll hd) ρ' e
        exact ⟨σ', fun q => ⟨a, us, rfl, Evl_ex_t hide_same hs, by rw [dpAll_len hd, ← hl, List.length_map], q1 q⟩, q2, q3, q4⟩
      · rw [if_neg hl] at e; cases e
    | none => cases e
    | bool _ => cases e
    | int _ => cases e
    | str _ => cases e
    | list _ => cases e
    | dict _ => cases e⟩
/-! a list in the making: it may change, and is no part of the store -/
theorem Ext.out {w w' : Wd} (e : Ext w w') {D : Addr} (f : w.F D) (n : D ∉ w.θ) : w'.F D ∧ D ∉ w'.θ ∧ w'.H D = w.H D := by
  obtain ⟨h1, h2⟩ := e.forn D f n
  refine ⟨h1, fun z => ?_, h2⟩
  obtain ⟨i, hi, q⟩ := List.mem_iff_getElem.mp z
  by_cases hl : i < w.θ.length
  · obtain ⟨t, ht⟩ := e.pre
    have e2 : w'.θ[i]? = some D := by rw [List.getElem?_eq_getElem hi, q]
    rw [← ht, List.getElem?_append_left hl] at e2
    exact n (List.mem_of_getElem? e2)
  · exact w.al D f (e.new i D (by omega) (by rw [List.getElem?_eq_getElem hi, q]))
def Wd.tmp (w : Wd) (p : Addr) (o : HO) : Wd where
  H := upd w.H p o
  F := fun b => w.F b ∨ b = p
  θ := w.θ
  al := fun b h => by
    rcases h with h | h
    · exact upd_live (w.al b h)
    · subst h; rw [upd_same]; simp
theorem Ext.tmp {w : Wd} {p : Addr} {o : HO} (n : w.H p = none) : Ext w (w.tmp p o) where
  fro := fun b u h e => by
    have ne := ne_of_none e n
    exact ⟨fun z => z.elim h ne, by show upd w.H p o b = some u; rw [upd_ne ne]; exact e⟩
  forn := fun b h _ => ⟨.inl h, upd_ne fun z => by subst z; exact w.al _ h n⟩
  pre := List.prefix_refl _
  new := fun k a h e => by rw [show (w.tmp p o).θ = w.θ from rfl, List.getElem?_eq_none h] at e; cases e
  live := fun b h => upd_live h
theorem Rel.tmp {K : PySem.W.Frag} {mg : Str → Option Value} {w : Wd} {σ : L2.St} {ρ : Sg} {p : Addr} {o : HO} (r : Rel K mg w σ ρ) (n : w.H p = none) : Rel K mg (w.tmp p o) σ ρ where
  slots := fun i d h => let ⟨v, e, q⟩ := r.slots i d h; ⟨v, e, (Ext.tmp n).r q⟩
  len := r.len
  cells := fun k a c h1 h2 h3 => by
    obtain ⟨f, q⟩ := r.cells k a c h1 h2 h3
    exact ⟨.inl f, q.stay (Ext.tmp n) (upd_ne fun z => by subst z; exact w.al _ f n)⟩
  nd := r.nd
  alive := fun a h => upd_live (r.alive a h)
/-- it is written -/
theorem hide_poke {H : Hp} {F : Addr → Prop} {p : Addr} {o : HO} (f : F p) : hide (upd H p o) F = hide H F := by
  funext b
  unfold hide
  by_cases h : F b
  · rw [if_pos h, if_pos h]
  · rw [if_neg h, if_neg h, upd_ne fun z => by subst z; exact h f]
theorem ext_poke {w0 w : Wd} {p : Addr} {o : HO} (e : Ext w0 w) (n : w0.H p = none) (f : w.F p) : Ext w0 (w.chg p o) where
  fro := fun b u h q => by
    obtain ⟨h1, h2⟩ := e.fro b u h q
    exact ⟨h1, by show upd w.H p o b = some u; rw [upd_ne fun z => by subst z; exact h1 f]; exact h2⟩
  forn := fun b h q => by
    obtain ⟨h1, h2⟩ := e.forn b h q
    exact ⟨h1, by show upd w.H p o b = w0.H b; rw [upd_ne fun z => by subst z; exact w0.al _ h n]; exact h2⟩
  pre := e.pre
  new := e.new
  live := fun b h => upd_live (e.live b h)
theorem cell_z {K : PySem.W.Frag} {mg : Str → Option Value} {w w' : Wd} (hz : w'.Z = w.Z) (ht : w'.θ = w.θ) {a : Addr} (hh : w'.H a = w.H a) {c : Cell} (q : CellR K mg w a c) : CellR K mg w' a c := by
  have rr : ∀ {v : V} {d : D}, R K mg w v d → R K mg w' v d := fun {v d} h => by
    cases d with
    | p x => show RD K w'.Z v x; rw [hz]; exact h
    | loc k => obtain ⟨b, h1, h2⟩ := h; exact ⟨b, by rw [ht]; exact h1, h2⟩
    | nm x => exact h
    | scr ns => obtain ⟨b, h1, h2⟩ := h; exact ⟨b, h1, by rw [hz]; exact h2⟩
  have rf : ∀ {vs : List (Str × V)} {fs : List (Str × D)}, RF K mg w vs fs → RF K mg w' vs fs := fun {vs fs} h => by
    induction h with
    | nil => exact .nil
    | cons h _ ih => exact .cons (rr h) ih
  cases c with
  | lst xs => obtain ⟨vs, h1, h2⟩ := q; exact ⟨vs, hh.trans h1, by rw [hz]; exact h2⟩
  | dK xs => obtain ⟨vs, h1, h2⟩ := q; exact ⟨vs, hh.trans h1, by rw [hz]; exact h2⟩
  | dT xs => obtain ⟨vs, h1, h2⟩ := q; exact ⟨vs, hh.trans h1, by rw [hz]; exact h2⟩
  | obj c fs => obtain ⟨C, dx, vs, m, h1, h2⟩ := q; exact ⟨C, dx, vs, m, hh.trans h1, rf h2⟩
  | dead => trivial
theorem r_z {K : PySem.W.Frag} {mg : Str → Option Value} {w w' : Wd} (hz : w'.Z = w.Z) (ht : w'.θ = w.θ) {v : V} {d : D} (h : R K mg w v d) : R K mg w' v d := by
  cases d with
  | p x => show RD K w'.Z v x; rw [hz]; exact h
  | loc k => obtain ⟨b, h1, h2⟩ := h; exact ⟨b, by rw [ht]; exact h1, h2⟩
  | nm x => exact h
  | scr ns => obtain ⟨b, h1, h2⟩ := h; exact ⟨b, h1, by rw [hz]; exact h2⟩
theorem Rel.poke {K : PySem.W.Frag} {mg : Str → Option Value} {w : Wd} {σ : L2.St} {ρ : Sg} {p : Addr} {o : HO} (r : Rel K mg w σ ρ) (f : w.F p) (n : p ∉ w.θ) : Rel K mg (w.chg p o) σ ρ := by
  have hz : (w.chg p o).Z = w.Z := hide_poke f
  refine ⟨fun i d h => let ⟨v, e, q⟩ := r.slots i d h; ⟨v, e, r_z hz rfl q⟩, r.len, fun k a c h1 h2 h3 => ?_, r.nd, fun a h => upd_live (r.alive a h)⟩
  obtain ⟨f', q⟩ := r.cells k a c h1 h2 h3
  exact ⟨f', cell_z hz rfl (upd_ne fun z => by subst z; exact n (List.mem_of_getElem? h1)) q⟩
/-- the slots of one state, the store of a later one -/
theorem RelX.swap {w0 w : Wd} {σ σ' : L2.St} {s : List (Option D)} {m0 : List Cell} {ρ : Sg} (r0 : RelX X w0 σ ⟨s, m0⟩) (e : Ext w0 w) (r : RelX X w σ' ρ) : RelX X w σ ⟨s, ρ.m⟩ :=
  ⟨⟨fun i d h => let ⟨v, q1, q2⟩ := r0.1.slots i d h; ⟨v, q1, e.r q2⟩, r.1.len, r.1.cells, r.1.nd, r.1.alive⟩, r0.2⟩
theorem RelX.wipe {w : Wd} {σ : L2.St} {s : List (Option D)} {m : List Cell} (r : RelX X w σ ⟨s, m⟩) : ∀ vs : List Nat, RelX X w (wipe σ vs) ⟨wipeD s vs, m⟩
  | [] => r
  | v :: vs => by
    obtain ⟨r1, r2⟩ := RelX.wipe r vs
    have r2 : (L2.wipe σ vs).length = (wipeD s vs).length := r2
    refine ⟨⟨fun i d h => ?_, r1.len, r1.cells, r1.nd, r1.alive⟩, by show ((L2.wipe σ vs).set v none).length = ((wipeD s vs).set v none).length; rw [List.length_set, List.length_set]; exact r2⟩
    have h : ((wipeD s vs).set v none)[i]? = some (some d) := h
    by_cases hv : v = i
    · subst hv
      by_cases hl : v < (wipeD s vs).length
      · rw [List.getElem?_set_self hl] at h; cases h
      · rw [List.getElem?_eq_none (by rw [List.length_set]; omega)] at h; cases h
    · rw [List.getElem?_set_ne hv] at h
      obtain ⟨u, e, q⟩ := r1.slots i d h
      exact ⟨u, by show ((L2.wipe σ vs).set v none)[i]? = _; rw [List.getElem?_set_ne hv]; exact e, q⟩
theorem comp_st {s1 s : List (Option D)} {gt : D → M Unit} {gc : M Bool} {ge : M D} {f : List PyData → M D} : ∀ (xs : List PyData) (ρ : Sg), (compL s1 gt gc ge xs ρ).bind (fun zs => (setS s).bind fun _ => f zs) = (compL s1 gt gc ge xs ⟨s1, ρ.m⟩).bind (fun zs => (setS s).bind fun _ => f zs)
  | [], ρ => rfl
  | x :: xs, ρ => rfl
theorem noEr_ok {α : Type} {g : M α} {ρ ρ' : Sg} {a : α} (h : noEr g ρ = .ok a ρ') : g ρ = .ok a ρ' := by
  unfold noEr at h
  cases e : g ρ with
  | ok b s => rw [e] at h; exact h
  | er _ _ => rw [e] at h; cases h
  | bad => rw [e] at h; cases h
theorem noEr_cases {α : Type} (g : M α) (ρ : Sg) : (∃ a ρ', g ρ = .ok a ρ' ∧ noEr g ρ = .ok a ρ') ∨ noEr g ρ = .bad := by
  unfold noEr
  cases g ρ with
  | ok a s => exact .inl ⟨a, s, rfl, rfl⟩
  | er _ _ => exact .inr rfl
  | bad => exact .inr rfl
theorem bind_ok {α β : Type} {g : M α} {f : α → M β} {ρ ρ' : Sg} {b : β} (h : g.bind f ρ = .ok b ρ') : ∃ a ρ1, g ρ = .ok a ρ1 ∧ f a ρ1 = .ok b ρ' := by
  have h : (g ρ).bind f = .ok b ρ' := h
  cases e : g ρ with
  | ok a s => rw [e] at h; exact ⟨a, s, rfl, h⟩
  | er _ _ => rw [e] at h; cases h
  | bad => rw [e] at h; cases h
/-- [elt for tg in iter if ..] -/
theorem noEr_not {α : Type} (g : M α) (ρ : Sg) (ε : Er) (ρ' : Sg) : noEr g ρ ≠ .er ε ρ' := by
  unfold noEr
  cases g ρ <;> intro h <;> cases h
theorem DE.quiet {e : Expr} {g : M D} (h : DE X W e g) : DE X W e (noEr g) := by
  obtain ⟨t, p, q⟩ := h.run
  refine ⟨t, p, fun w σ ρ Q r hw => q w σ ρ Q r ?_⟩
  unfold noEr at hw
  cases hg : g ρ with
  | ok a s => rw [hg] at hw; exact hw
  | er _ _ => rw [hg] at hw; exact hw.elim
  | bad => rw [hg] at hw; exact hw.elim
theorem lc_all {WB : WX} (o : Bool) {own : List (Str × Nat)} {t : TG} {gi : M (List PyData)} {gt : D → M Unit} {gc : M Bool} {ge : M D} (ht : TgOk X t gt (own.map (·.2)))
    (hEr : ∀ ρ ε ρ', ge ρ = .er ε ρ' → ∀ cls dx σ σ' H, W cls dx σ H → WB cls dx σ' H) :
    ∀ (wi : TI), (∀ (w : Wd) (σ : L2.St) (ρ : Sg) (Q : It → Hp → Prop), RelX X w σ ρ → Ok1 X W w σ (gi ρ) (fun w' _ xs => ∀ J, Steps X J w' xs → Q J w'.H) → wi σ w.H Q) →
      ∀ (w : Wd) (σ : L2.St) (ρ : Sg) (Q : VK), RelX X w σ ρ → Ok1 X W w σ (gLcE o (own.map (·.2)) gi gt gc ge ρ) (fun w' _ d => ∀ v, RX X w' v d → Q v w'.H) → tLc wi t (tB' X W0 gc) (tE X WB ge) (own.map (·.2)) σ w.H Q := by
  intro wi qi w σ ρ Q r h
  generalize own.map (·.2) = vs at ht h ⊢
  refine qi w σ ρ _ r (Ok1.imp (Ok1.bind h) fun w0 ρ0 xs e0 r0 h0 J st => ?_)
  obtain ⟨hlen, h0⟩ := ifM_ok h0
  have hlen : xs.length ≤ sizeLine := of_decide_eq_true hlen
  obtain ⟨s0, m0⟩ := ρ0
  intro D nD
  have h0 : Ok1 X W w0 σ (resE s0 ((compL (wipeD s0 vs) gt gc ge xs ⟨s0, m0⟩).bind fun ys => (setS s0).bind fun _ => newL o ys)) (fun w' _ d => ∀ v, RX X w' v d → Q v w'.H) := h0
  rw [comp_st] at h0
  have rw0 : RelX X w0 (L2.wipe σ vs) ⟨wipeD s0 vs, m0⟩ := r0.wipe vs
  have tmpX : RelX X (w0.tmp D (.lst [])) (L2.wipe σ vs) ⟨wipeD s0 vs, m0⟩ := ⟨rw0.1.tmp nD, rw0.2⟩
  refine ⟨fun i m H => ∃ (w : Wd) (mm : List Cell) (acc : List V) (ys : List PyData), w.H = H ∧ Ext w0 w ∧ RelX X w (L2.wipe σ vs) ⟨wipeD s0 vs, mm⟩ ∧ w.F D ∧ D ∉ w.θ ∧ w.H D = some (.lst acc) ∧ RDAll X.K w.Z acc ys ∧ ys.length ≤ i ∧ m = xs.length - i ∧
      Ok1 X W w0 σ (resE s0 ((compL (wipeD s0 vs) gt gc ge (xs.drop i) ⟨wipeD s0 vs, mm⟩).bind fun zs => (setS s0).bind fun _ => newL o (ys ++ zs))) (fun w' _ d => ∀ v, RX X w' v d → Q v w'.H),
    ⟨xs.length, w0.tmp D (.lst []), m0, [], [], rfl, Ext.tmp nD, tmpX, .inr rfl, fun z => r0.1.alive D z nD, upd_same, .nil, Nat.zero_le _, by simp, h0⟩, ?_⟩
  rintro i m H ⟨w1, mm, acc, ys, rfl, ex, r1, fD, nθ, hD, rd, hyl, rfl, h1⟩
  obtain ⟨s1, s2⟩ := st i w1 ex
  by_cases hl : i < xs.length
  · have hx : xs[i]? = some xs[i] := List.getElem?_eq_getElem hl
    obtain ⟨go, yl⟩ := s2 _ hx
    rw [List.drop_eq_getElem_cons hl] at h1
    refine .inr ⟨go, fun H' => ∃ (w : Wd) (mm : List Cell) (acc : List V) (ys : List PyData), w.H = H' ∧ Ext w0 w ∧ RelX X w (L2.wipe σ vs) ⟨wipeD s0 vs, mm⟩ ∧ w.F D ∧ D ∉ w.θ ∧ w.H D = some (.lst acc) ∧ RDAll X.K w.Z acc ys ∧ ys.length ≤ i + 1 ∧
      Ok1 X W w0 σ (resE s0 ((compL (wipeD s0 vs) gt gc ge (xs.drop (i + 1)) ⟨wipeD s0 vs, mm⟩).bind fun zs => (setS s0).bind fun _ => newL o (ys ++ zs))) (fun w' _ d => ∀ v, RX X w' v d → Q v w'.H), fun H' z => ?_, fun v H' y => ?_⟩
    · obtain ⟨w2, mm2, acc2, ys2, q1, q2, q3, q4, q5, q6, q7, q8, q9⟩ := z
      exact ⟨xs.length - (i + 1), by omega, w2, mm2, acc2, ys2, q1, q2, q3, q4, q5, q6, q7, q8, rfl, q9⟩
    · obtain ⟨w2, rfl, e2, keep, dv⟩ := yl v H' y
      have r2 := keep _ _ r1
      have h1 : Ok1 X W w0 σ (resE s0 (((noEr ((gt (.p xs[i])).bind fun _ => gc) ⟨wipeD s0 vs, mm⟩).bind fun b => match b with
        | true => ge.bind fun d => (asP d).bind fun y => (compL (wipeD s0 vs) gt gc ge (xs.drop (i + 1))).bind fun ys => M.ret (y :: ys)
        | false => compL (wipeD s0 vs) gt gc ge (xs.drop (i + 1))).bind fun zs => (setS s0).bind fun _ => newL o (ys ++ zs))) (fun w' _ d => ∀ v, RX X w' v d → Q v w'.H) := h1
      rcases noEr_cases ((gt (.p xs[i])).bind fun _ => gc) ⟨wipeD s0 vs, mm⟩ with ⟨b, ρ1, hA, hB⟩ | hB
      · rw [hB] at h1
        obtain ⟨_, ρg, hG, hC⟩ := bind_ok hA
        obtain ⟨σ', tq, rg, hw, _⟩ := ht.run w2 (L2.wipe σ vs) ⟨wipeD s0 vs, mm⟩ v (.p xs[i]) _ r2 dv ρg hG
        have hw' : L2.wipe σ' vs = L2.wipe (L2.wipe σ vs) vs := hw
        have ww : L2.wipe (L2.wipe σ vs) vs = L2.wipe σ vs := by
          apply List.ext_getElem?
          intro j
          by_cases hj : j ∈ vs
          · have idem : ∀ (τ : L2.St) (us : List Nat), j ∈ us → (L2.wipe τ us)[j]? = if j < τ.length then some none else none := fun τ us => by
              induction us with
              | nil => intro z; cases z
              | cons k ks ih =>
                intro z
                show ((L2.wipe τ ks).set k none)[j]? = _
                by_cases hk : k = j
                · subst hk
                  by_cases hlt : k < τ.length
                  · rw [List.getElem?_set_self (by rw [wipe_length]; exact hlt), if_pos hlt]
                  · rw [List.getElem?_eq_none (by rw [List.length_set, wipe_length]; omega), if_neg hlt]
                · rw [List.getElem?_set_ne hk]
                  exact ih ((List.mem_cons.mp z).resolve_left fun e => hk e.symm)
            rw [idem _ vs hj, idem _ vs hj, wipe_length]
          · have out : ∀ (τ : L2.St) (us : List Nat), j ∉ us → (L2.wipe τ us)[j]? = τ[j]? := fun τ us => by
              induction us with
              | nil => intro _; rfl
              | cons k ks ih =>
                intro z
                show ((L2.wipe τ ks).set k none)[j]? = _
                rw [List.getElem?_set_ne fun e => z (by rw [e]; exact List.mem_cons_self)]
                exact ih fun e => z (List.mem_cons_of_mem _ e)
            rw [out _ vs hj]
        refine tq ⟨hw'.trans ww, w2, ρg, rfl, rg, ?_⟩
        rw [hC]
        intro w3 e3 r3
        have e13 := e2.trans e3
        cases b with
        | false =>
          refine iteF ?_
          obtain ⟨f3, n3, d3⟩ := e13.out fD nθ
          have h1 : Ok1 X W w0 σ (resE s0 ((compL (wipeD s0 vs) gt gc ge (xs.drop (i + 1)) ρ1).bind fun zs => (setS s0).bind fun _ => newL o (ys ++ zs))) (fun w' _ d => ∀ v, RX X w' v d → Q v w'.H) := h1
          rw [comp_st] at h1
          exact ⟨w3, ρ1.m, acc, ys, rfl, ex.trans e13, r1.swap e13 r3, f3, n3, d3.trans hD, e13.dpAll rd, by omega, h1⟩
        | true =>
          refine iteT ⟨w3, ρ1, rfl, r3, ?_⟩
          have h1 : Ok1 X W w0 σ (resE s0 (((ge ρ1).bind fun d => (asP d).bind fun y => (compL (wipeD s0 vs) gt gc ge (xs.drop (i + 1))).bind fun ys => M.ret (y :: ys)).bind fun zs => (setS s0).bind fun _ => newL o (ys ++ zs))) (fun w' _ d => ∀ v, RX X w' v d → Q v w'.H) := h1
          cases hE : ge ρ1 with
          | bad => rw [hE] at h1; exact h1.elim
          | er ε ρ2 =>
            rw [hE] at h1
            intro w4 cls dx e4 r4 er
            obtain ⟨q1, q2⟩ := r1.swap (e13.trans e4) r4
            exact hEr ρ1 ε ρ2 hE cls dx σ σ' _ (h1 w4 cls dx (ex.trans (e13.trans e4)) (r0.swap (ex.trans (e13.trans e4)) r4) er)
          | ok d ρ2 =>
            rw [hE] at h1
            intro w4 e4 r4 u ru
            cases d with
            | loc _ => exact h1.elim
            | nm _ => exact h1.elim
            | scr _ => exact h1.elim
            | p yv =>
              have h1 : Ok1 X W w0 σ (resE s0 (((compL (wipeD s0 vs) gt gc ge (xs.drop (i + 1)) ρ2).bind fun ys => M.ret (yv :: ys)).bind fun zs => (setS s0).bind fun _ => newL o (ys ++ zs))) (fun w' _ d => ∀ v, RX X w' v d → Q v w'.H) := h1
              have hassoc : ((compL (wipeD s0 vs) gt gc ge (xs.drop (i + 1)) ρ2).bind fun ys => M.ret (yv :: ys)).bind (fun zs => (setS s0).bind fun _ => newL o (ys ++ zs)) = (compL (wipeD s0 vs) gt gc ge (xs.drop (i + 1)) ρ2).bind fun zs => (setS s0).bind fun _ => newL o ((ys ++ [yv]) ++ zs) := by
                cases compL (wipeD s0 vs) gt gc ge (xs.drop (i + 1)) ρ2 with
                | bad => rfl
                | er _ _ => rfl
                | ok zs ρ3 =>
                  show ((setS s0).bind fun _ => newL o (ys ++ (yv :: zs))) ρ3 = ((setS s0).bind fun _ => newL o ((ys ++ [yv]) ++ zs)) ρ3
                  rw [List.append_assoc]; rfl
              rw [hassoc, comp_st] at h1
              have e14 := e13.trans e4
              obtain ⟨f4, n4, d4⟩ := e14.out fD nθ
              have hz : (w4.chg D (.lst (acc ++ [u]))).Z = w4.Z := hide_poke f4
              refine ⟨acc, d4.trans hD, by rw [dpAll_len rd]; omega, w4.chg D (.lst (acc ++ [u])), ρ2.m, acc ++ [u], ys ++ [yv], rfl, ext_poke (ex.trans e14) nD f4, ?_, f4, n4, upd_same, ?_, ?_, h1⟩
              · obtain ⟨q1, q2⟩ := r1.swap e14 r4
                exact ⟨q1.poke f4 n4, q2⟩
              · rw [hz]; exact rd_app (e14.dpAll rd) (.cons ru .nil)
              · rw [List.length_append, List.length_singleton]; omega
      · rw [hB] at h1; exact h1.elim
  · rw [List.drop_of_length_le (by omega)] at h1
    refine .inl ⟨s1 (by omega), ?_⟩
    have h1 : Ok1 X W w0 σ (resE s0 (newL o (ys ++ []) ⟨s0, mm⟩)) (fun w' _ d => ∀ v, RX X w' v d → Q v w'.H) := h1
    rw [List.append_nil] at h1
    have rs : RelX X w1 σ ⟨s0, mm⟩ := r0.swap ex r1
    cases o with
    | false =>
      -- the list stands still from now on
      refine h1 ⟨w1.H, fun b => w1.F b ∧ b ≠ D, w1.θ, fun b h => w1.al b h.1⟩ ⟨fun b o h q => ?_, fun b h q => ?_, ex.pre, ex.new, ex.live⟩ ?_ (.ref D) ?_
      · obtain ⟨q1, q2⟩ := ex.fro b o h q
        exact ⟨fun z => q1 z.1, q2⟩
      · obtain ⟨q1, q2⟩ := ex.forn b h q
        exact ⟨⟨q1, fun z => by subst z; exact w0.al _ h nD⟩, q2⟩
      · have sm : Same w1.Z (hide w1.H fun b => w1.F b ∧ b ≠ D) := fun b o h => by
          obtain ⟨q1, q2⟩ := hide_some h
          rw [hide_no fun z => q1 z.1]; exact q2
        refine ⟨⟨fun j d h => ?_, rs.1.len, fun k a c q1 q2 q3 => ?_, rs.1.nd, rs.1.alive⟩, rs.2⟩
        · obtain ⟨v, q1, q2⟩ := rs.1.slots j d h
          refine ⟨v, q1, ?_⟩
          cases d with
          | p x => exact dp_mono sm q2
          | loc k => exact q2
          | nm x => exact q2
          | scr ns => obtain ⟨a, z1, z2⟩ := q2; exact ⟨a, z1, sm.seq z2⟩
        · obtain ⟨f, q⟩ := rs.1.cells k a c q1 q2 q3
          have ne : a ≠ D := fun z => by subst z; exact nθ (List.mem_of_getElem? q1)
          refine ⟨⟨f, ne⟩, ?_⟩
          have rr : ∀ {v : V} {d : DL.D}, R X.K X.mg w1 v d → R X.K X.mg ⟨w1.H, fun b => w1.F b ∧ b ≠ D, w1.θ, fun b h => w1.al b h.1⟩ v d := fun {v d} h => by
            cases d with
            | p x => exact dp_mono sm h
            | loc k => exact h
            | nm x => exact h
            | scr ns => obtain ⟨a, z1, z2⟩ := h; exact ⟨a, z1, sm.seq z2⟩
          have rf : ∀ {vs : List (Str × V)} {fs : List (Str × DL.D)}, RF X.K X.mg w1 vs fs → RF X.K X.mg ⟨w1.H, fun b => w1.F b ∧ b ≠ D, w1.θ, fun b h => w1.al b h.1⟩ vs fs := fun {vs fs} h => by
            induction h with
            | nil => exact .nil
            | cons h _ ih => exact .cons (rr h) ih
          cases c with
          | lst xs => obtain ⟨vs, z1, z2⟩ := q; exact ⟨vs, z1, dpAll_mono sm z2⟩
          | dK xs => obtain ⟨vs, z1, z2⟩ := q; exact ⟨vs, z1, re_mono sm z2⟩
          | dT xs => obtain ⟨vs, z1, z2⟩ := q; exact ⟨vs, z1, re_mono sm z2⟩
          | obj c fs => obtain ⟨C, dx, vs, z0, z1, z2⟩ := q; exact ⟨C, dx, vs, z0, z1, rf z2⟩
          | dead => trivial
      · have sm : Same w1.Z (hide w1.H fun b => w1.F b ∧ b ≠ D) := fun b o h => by
          obtain ⟨q1, q2⟩ := hide_some h
          rw [hide_no fun z => q1 z.1]; exact q2
        refine RD.lst (xs := acc) ?_ (dpAll_mono sm rd)
        show hide w1.H (fun b => w1.F b ∧ b ≠ D) D = some (.lst acc)
        rw [hide_no fun z => z.2 rfl]; exact hD
    | true =>
      refine h1 ⟨w1.H, w1.F, w1.θ ++ [D], w1.al⟩ ⟨ex.fro, ex.forn, ex.pre.trans (List.prefix_append _ _), fun n a q1 q2 => ?_, ex.live⟩ ?_ (.ref D) ?_
      · have q2 : (w1.θ ++ [D])[n]? = some a := q2
        by_cases hn : n < w1.θ.length
        · rw [List.getElem?_append_left hn] at q2; exact ex.new n a q1 q2
        · rw [List.getElem?_append_right (by omega)] at q2
          have : a = D := by
            cases q : n - w1.θ.length with
            | zero => rw [q] at q2; exact (Option.some.inj q2).symm
            | succ j => rw [q] at q2; simp at q2
          subst this; exact nD
      · have hl' : w1.θ.length = mm.length := rs.1.len
        have pr : ∀ {v : V} {d : DL.D}, R X.K X.mg w1 v d → R X.K X.mg ⟨w1.H, w1.F, w1.θ ++ [D], w1.al⟩ v d := fun {v d} h => by
          cases d with
          | p x => exact h
          | loc k => obtain ⟨a, z1, z2⟩ := h; exact ⟨a, pre_get (List.prefix_append _ _) z1, z2⟩
          | nm x => exact h
          | scr ns => exact h
        have rf : ∀ {vs : List (Str × V)} {fs : List (Str × DL.D)}, RF X.K X.mg w1 vs fs → RF X.K X.mg ⟨w1.H, w1.F, w1.θ ++ [D], w1.al⟩ vs fs := fun {vs fs} h => by
          induction h with
          | nil => exact .nil
          | cons h _ ih => exact .cons (pr h) ih
        refine ⟨⟨fun j d h => let ⟨v, q1, q2⟩ := rs.1.slots j d h; ⟨v, q1, pr q2⟩, by show (w1.θ ++ [D]).length = (mm ++ [Cell.lst ys]).length; simp [hl'], fun k a c q1 q2 q3 => ?_, ?_, fun a h => ?_⟩, rs.2⟩
        · have q1 : (w1.θ ++ [D])[k]? = some a := q1
          have q2 : (mm ++ [Cell.lst ys])[k]? = some c := q2
          by_cases hk : k < w1.θ.length
          · rw [List.getElem?_append_left hk] at q1
            rw [List.getElem?_append_left (by omega)] at q2
            obtain ⟨f, q⟩ := rs.1.cells k a c q1 q2 q3
            refine ⟨f, ?_⟩
            cases c with
            | lst xs => exact q
            | dK xs => exact q
            | dT xs => exact q
            | obj c fs => obtain ⟨C, dx, vs, z0, z1, z2⟩ := q; exact ⟨C, dx, vs, z0, z1, rf z2⟩
            | dead => trivial
          · have hk' : k = w1.θ.length := by
              have := (List.getElem?_eq_some_iff.mp q1).1
              simp at this; omega
            subst hk'
            rw [List.getElem?_append_right (Nat.le_refl _), Nat.sub_self] at q1
            rw [hl', List.getElem?_append_right (Nat.le_refl _), Nat.sub_self] at q2
            cases q1; cases q2
            exact ⟨fD, acc, hD, rd⟩
        · show (w1.θ ++ [D]).Nodup
          rw [List.nodup_append]
          refine ⟨rs.1.nd, by simp, fun a ha b hb e => ?_⟩
          have : b = D := by simpa using hb
          subst this; subst e
          exact nθ ha
        · have h : a ∈ w1.θ ++ [D] := h
          rcases List.mem_append.mp h with h | h
          · exact rs.1.alive a h
          · have : a = D := by simpa using h
            subst this
            show w1.H a ≠ none
            rw [hD]; simp
      · refine ⟨D, ?_, rfl⟩
        show (w1.θ ++ [D])[mm.length]? = some D
        have hl' : w1.θ.length = mm.length := rs.1.len
        rw [← hl', List.getElem?_append_right (Nat.le_refl _), Nat.sub_self]; rfl
theorem de_lc (o : Bool) {elt tg iter : Expr} {ifs : List Expr} {scope : Scope} {own : List (Str × Nat)} {pos : Pos} {t : TG} {gi : M (List PyData)} {gt : D → M Unit} {gc : M Bool} {ge : M D} (hc : X.calm = true) (hN : X.N.Nodup) (hi : DI X W tg iter gi) (ok : BlkOk X.N X.env.scope scope own)
    (hg : ∀ (s : Shared) (H : Hp) (C : Addr) (cl : List (Str × Addr)) (fp : List Addr), PG (X.blk s H scope (compEnvC scope cl C X.env) fp) tg t) (ht : TgOk X t gt (own.map (·.2)))
    (hcs : ∀ (s : Shared) (H : Hp) (C : Addr) (cl : List (Str × Addr)) (fp : List Addr), DTs (X.blk s H scope (compEnvC scope cl C X.env) fp) W0 ifs gc)
    (he : ∀ (s : Shared) (H : Hp) (C : Addr) (cl : List (Str × Addr)) (fp : List Addr), DE (X.blk s H scope (compEnvC scope cl C X.env) fp) W0 elt ge) (hs : ∀ x, foldedSetIterable iter X.env x = pure x := by intro _; rfl) :
    DE X W (.ListComp elt [⟨tg, iter, ifs, 0⟩] scope pos) (gLc o (own.map (·.2)) gi gt gc ge) := by
  obtain ⟨wi, pi, qi⟩ := id hi.run
  exact ⟨_, pe_lc hc hN pi ok hg (fun s H C cl fp => (hcs s H C cl fp).can) (fun s H C cl fp => (he s H C cl fp).quiet.can) hs, lc_all (W := W) (WB := W0) o ht (fun ρ ε ρ' z => absurd z (noEr_not ge ρ ε ρ')) wi qi⟩
/-- name = [..] on one line -/
theorem ds_setLc (o : Bool) (i : Nat) {y : Str} {py : Pos} {elt tg iter : Expr} {ifs : List Expr} {scope : Scope} {own : List (Str × Nat)} {pos spos : Pos} {t : TG} {gi : M (List PyData)} {gt : D → M Unit} {gc : M Bool} {ge : M D} (hc : X.calm = true) (hN : X.N.Nodup) (hi : DI X W tg iter gi) (ok : BlkOk X.N X.env.scope scope own)
    (hg : ∀ (s : Shared) (H : Hp) (C : Addr) (cl : List (Str × Addr)) (fp : List Addr), PG (X.blk s H scope (compEnvC scope cl C X.env) fp) tg t) (ht : TgOk X t gt (own.map (·.2)))
    (hcs : ∀ (s : Shared) (H : Hp) (C : Addr) (cl : List (Str × Addr)) (fp : List Addr), DTs (X.blk s H scope (compEnvC scope cl C X.env) fp) W0 ifs gc)
    (he : ∀ (s : Shared) (H : Hp) (C : Addr) (cl : List (Str × Addr)) (fp : List Addr), DE (X.blk s H scope (compEnvC scope cl C X.env) fp) W0 elt ge)
    (hsw : swapsWith (.ListComp elt [⟨tg, iter, ifs, 0⟩] scope pos) (some (.Name y py)) spos.line X.env = pure true) (hy : X.N[i]? = some y := by rfl) (hyl : X.env.scope.names.lookup y = some .local := by rfl) (hs : ∀ x, foldedSetIterable iter X.env x = pure x := by intro _; rfl) :
    DS X W (.Assign [.Name y py] (.ListComp elt [⟨tg, iter, ifs, 0⟩] scope pos) spos) (gAsg (gLc o (own.map (·.2)) gi gt gc ge) (put i)) := by
  obtain ⟨wi, pi, qi⟩ := id hi.run
  refine ⟨_, ps_setLc (tt := tB' X W0 gc) (te := tE X W0 (noEr ge)) hc hN hy hyl hsw pi ok hg (fun s H C cl fp => (hcs s H C cl fp).can) (fun s H C cl fp => (he s H C cl fp).quiet.can) hs, fun w σ ρ D r h => ?_⟩
  refine lc_all (W := W) (WB := W0) o ht (fun ρ ε ρ' z => absurd z (noEr_not ge ρ ε ρ')) wi qi w σ ρ _ r (Ok1.imp (Ok2.ex (Ok2.bind h)) fun w1 ρ1 d e1 r1 h1 v rv => ?_)
  exact h1 w1 _ (Ext.refl w1) (r1.slot i rv)
end
end DL
namespace DL
open PySem PySem.Spec PyProof.Rows L2
section
variable {X : Cx} {W : WX}
/-! ### * -/
def asS : D → Option Str
  | .p (.str x) => some x
  | _ => none
theorem asS_v {w : Wd} {v : V} {d : D} {i : Str} (h : asS d = some i) (rv : RX X w v d) : v = .str i := by
  cases d with
  | loc _ => cases h
  | nm _ => cases h
  | scr _ => cases h
  | p x =>
    cases x with
    | str j => cases h; exact rd_str rv
    | none => cases h
    | bool _ => cases h
    | int _ => cases h
    | list _ => cases h
    | tuple _ => cases h
    | dict _ => cases h
def repS (x : Str) (n : Nat) : Str := ⟨(List.replicate n x.cps).foldl (· ++ ·) #[]⟩
def rMulS : R2 := fun x y H Q => ∃ z k, x = .str z ∧ y = .int k ∧ 2 ≤ k ∧ k ≤ 100000 ∧ 0 < z.length ∧ z.length ≤ 100 ∧ Q (.str (repS z k.toNat)) H
theorem rep_len (x : Array Nat) : ∀ (n : Nat) (acc : Array Nat), ((List.replicate n x).foldl (· ++ ·) acc).size = acc.size + n * x.size
  | 0, acc => by simp
  | n + 1, acc => by
    rw [List.replicate_succ, List.foldl_cons, rep_len x n]
    rw [Array.size_append, Nat.succ_mul]; omega
theorem op_mulS : OpR X (binaryOp .Mult) rMulS := by
  intro pins s σ H x y v u Q I rx ry h
  obtain ⟨z, k, rfl, rfl, h1, h2, h3, h4, q⟩ := h
  obtain ⟨t, rfl⟩ := rx
  obtain ⟨t', rfl⟩ := ry
  have hk : ¬ k < 1 := by omega
  have c1 : (k == 1 || z.length == 0) = false := by
    rw [Bool.or_eq_false_iff]
    exact ⟨beq_eq_false_iff_ne.mpr (by omega), beq_eq_false_iff_ne.mpr (by omega)⟩
  have sz : z.length * k.toNat ≤ 100 * 100000 := Nat.mul_le_mul h4 (by omega)
  refine PySem.P.mul_str ?_ (fun _ _ => ?_) (fun _ _ => ?_) ?_
  · rw [decide_eq_false (show ¬ k < -(2 ^ 63 : Int) by omega), decide_eq_false (show ¬ k ≥ 2 ^ 63 by omega)]; rfl
  · have : (z.length : Int) ≤ (2 ^ 63 - 1) / k := by
      rw [Int.le_ediv_iff_mul_le (by omega)]
      have e : (z.length : Int) * k = ((z.length * k.toNat : Nat) : Int) := by
        rw [Int.natCast_mul, Int.toNat_of_nonneg (by omega)]
      rw [e]; omega
    omega
  · unfold PySem.Builtin.Str.tooLong
    rw [decide_eq_false]
    have := sizeLine_eq
    omega
  · rw [if_neg hk, if_neg (by rw [c1]; decide)]
    refine ⟨?_, ⟨.str (repS z k.toNat), H, I.tok _, ⟨_, rfl⟩, q⟩⟩
    show ((List.replicate k.toNat z.cps).foldl (· ++ ·) #[]).size ≤ sizeLine
    rw [rep_len]
    have e : z.cps.size = z.length := rfl
    rw [e, Nat.mul_comm, sizeLine_eq]
    simp; omega
def repL (xs : List PyData) (n : Nat) : List PyData := (List.replicate n xs).flatten
def fMulL (o : Bool) (a : D) (k : Int) : M D := (sq a).bind fun x => match x.1 with
  | true => ifM (decide (-(2 ^ 63) ≤ k ∧ k < 2 ^ 63 ∧ x.2.length * k.toNat ≤ sizeLine)) (newL o (repL x.2 k.toNat))
  | false => M.bad
def fMul (o : Bool) (a b : D) : M D := match asI b with
  | none => M.bad
  | some k => match a with
    | .p (.int i) => ifI (cMul i k) (i * k)
    | .p (.str z) => ifM (decide (2 ≤ k ∧ k ≤ 100000 ∧ 0 < z.length ∧ z.length ≤ 100)) (M.ret (.p (.str (repS z k.toNat))))
    | .p (.list xs) => fMulL o (.p (.list xs)) k
    | .loc n => fMulL o (.loc n) k
    | _ => M.bad
def rMulAll : R2 := fun x y H Q => (rI CMul fun i j => .int (i * j)) x y H Q ∨ (rMulS x y H Q ∨ rRep x y H Q)
theorem op_mulAll : OpR X (binaryOp .Mult) rMulAll := op_mul.or (op_mulS.or op_rep)
theorem mul_list {o : Bool} {w : Wd} {σ : L2.St} {ρ : Sg} {x : V} {a : D} {k : Int} {Q : VK} (rr : RelX X w σ ρ) (ra : RX X w x a) (q : Ok1 X W w σ (fMulL o a k ρ) (fun w' _ d => ∀ v, RX X w' v d → Q v w'.H)) : rRep x (.int k) w.H Q := by
  obtain ⟨k1, xs, p1, vs, rfl, s1, d1, q, t1⟩ := ok_sq rr ra q
  cases k1 with
  | false => exact q.elim
  | true =>
    rw [if_pos rfl] at s1
    have q : Ok1 X W w σ (ifM (decide (-(2 ^ 63) ≤ k ∧ k < 2 ^ 63 ∧ xs.length * k.toNat ≤ sizeLine)) (newL o (repL xs k.toNat)) ρ) (fun w' _ d => ∀ v, RX X w' v d → Q v w'.H) := q
    obtain ⟨c, q⟩ := ifM_ok q
    have c := of_decide_eq_true c
    exact ⟨p1, k, vs, rfl, rfl, s1, c.1, c.2.1, by rw [dpAll_len d1]; exact c.2.2, fun p n => ok_newL rr (rd_rep d1 _) q p n⟩
theorem cMul_ok {i j : Int} (h : cMul i j = true) : CMul i j := by
  unfold cMul at h
  rw [Bool.or_eq_true, Bool.and_eq_true, Bool.and_eq_true] at h
  rcases h with ⟨h1, h2⟩ | ⟨h1, h2⟩
  · exact .inl ⟨of_decide_eq_true h1, of_decide_eq_true h2⟩
  · exact .inr ⟨of_decide_eq_true h1, of_decide_eq_true h2⟩
theorem dop_mul (o : Bool) : DOp X W rMulAll (fMul o) := by
  intro w σ ρ x y a b Q rr ra rb q
  unfold fMul at q
  cases hb : asI b with
  | none => rw [hb] at q; exact q.elim
  | some k =>
    rw [hb] at q
    have e := asI_v hb rb
    subst e
    cases a with
    | loc n => exact .inr (.inr (mul_list rr ra q))
    | nm _ => exact q.elim
    | scr _ => exact q.elim
    | p z =>
      cases z with
      | none => exact q.elim
      | bool _ => exact q.elim
      | dict _ => exact q.elim
      | tuple _ => exact q.elim
      | list _ => exact .inr (.inr (mul_list rr ra q))
      | int i =>
        have q : Ok1 X W w σ (ifI (cMul i k) (i * k) ρ) (fun w' _ d => ∀ v, RX X w' v d → Q v w'.H) := q
        cases hc : cMul i k with
        | false => rw [hc] at q; exact q.elim
        | true =>
          rw [hc] at q
          exact .inl ⟨i, k, rd_int ra, rfl, cMul_ok hc, q w (Ext.refl w) rr _ (.int _)⟩
      | str z =>
        have q : Ok1 X W w σ (ifM (decide (2 ≤ k ∧ k ≤ 100000 ∧ 0 < z.length ∧ z.length ≤ 100)) (M.ret (.p (.str (repS z k.toNat)))) ρ) (fun w' _ d => ∀ v, RX X w' v d → Q v w'.H) := q
        obtain ⟨c, q⟩ := ifM_ok q
        have c := of_decide_eq_true c
        exact .inr (.inl ⟨z, k, rd_str ra, rfl, c.1, c.2.1, c.2.2.1, c.2.2.2, q w (Ext.refl w) rr _ (.str _)⟩)
/-! in place, ints -/
theorem dip_int {g : Int → Int → Int} : DOp X W (ipI g) (fInt0 g) := fun w σ ρ x y a b Q rr ra rb q => dop_int0 (g := g) w σ ρ x y a b Q rr ra rb q
theorem pip_of {op : Operator} {r : R2} (h : OpR X (inplaceOp op) r) : PIp X op r := h
/-! unary minus -/
def fNeg (a : D) : M D := match asI a with
  | some i => M.ret (.p (.int (-i)))
  | none => M.bad
theorem de_neg {a : Expr} {pos : Pos} {g : M D} (h : DE X W a g) : DE X W (.UnaryOp .USub a pos) (g.bind fNeg) := by
  obtain ⟨t, p, q⟩ := h.run
  refine ⟨_, pe_un un_neg p, fun w σ ρ Q r h => q w σ ρ _ r (Ok1.imp (Ok1.bind h) fun w1 ρ1 d e1 r1 h1 v rv => ?_)⟩
  unfold fNeg at h1
  cases ha : asI d with
  | none => rw [ha] at h1; exact h1.elim
  | some i =>
    rw [ha] at h1
    exact ⟨i, asI_v ha rv, h1 w1 (Ext.refl w1) r1 _ (.int _)⟩
/-! x or y, x and y by truth -/
def gOrT (g h : M D) : M D := g.bind fun d => (tru d).bind fun b => match b with
  | true => M.ret d
  | false => h
def gAndT (g h : M D) : M D := g.bind fun d => (tru d).bind fun b => match b with
  | true => h
  | false => M.ret d
theorem tru_v' {β : Type} {w : Wd} {σ : L2.St} {ρ : Sg} {v : V} {d : D} {f : Bool → M β} {k : Wd → Sg → β → Prop} (r : RelX X w σ ρ) (rv : RX X w v d) (h : Ok1 X W w σ ((tru d).bind f ρ) k) : ∃ b, TruV X.K v w.H b ∧ Ok1 X W w σ (f b ρ) k := by
  have same : ∀ b ρ', tru d ρ = .ok b ρ' → ρ' = ρ := fun b ρ' e => by
    cases d with
    | nm _ => cases e
    | scr _ => cases e
    | p x =>
      have e : M.opt (truD x) ρ = .ok b ρ' := e
      cases ht : truD x with
      | none => rw [ht] at e; cases e
      | some c => rw [ht] at e; cases e; rfl
    | loc n =>
      have e : (match ρ.m[n]? with
        | some (.lst xs) => .ok (!xs.isEmpty) ρ
        | some (.dK kvs) => .ok (!kvs.isEmpty) ρ
        | _ => .bad) = Rs.ok b ρ' := e
      cases hm : ρ.m[n]? with
      | none => rw [hm] at e; cases e
      | some c =>
        rw [hm] at e
        cases c with
        | lst _ => cases e; rfl
        | dK _ => cases e; rfl
        | dT _ => cases e
        | obj _ _ => cases e
        | dead => cases e
  have h : Ok1 X W w σ ((tru d ρ).bind f) k := h
  cases ht : tru d ρ with
  | bad => rw [ht] at h; exact h.elim
  | er ε ρ' =>
    cases d with
    | nm _ => cases ht
    | scr _ => cases ht
    | p x =>
      have e : M.opt (truD x) ρ = .er ε ρ' := ht
      cases ht : truD x with
      | none => rw [ht] at e; cases e
      | some c => rw [ht] at e; cases e
    | loc n =>
      have e : (match ρ.m[n]? with
        | some (.lst xs) => .ok (!xs.isEmpty) ρ
        | some (.dK kvs) => .ok (!kvs.isEmpty) ρ
        | _ => .bad) = (Rs.er ε ρ' : Rs Bool) := ht
      cases hm : ρ.m[n]? with
      | none => rw [hm] at e; cases e
      | some c =>
        rw [hm] at e
        cases c <;> cases e
  | ok b ρ' =>
    have e := same b ρ' ht
    subst e
    rw [ht] at h
    have := tru_v (W := W) (k := fun _ _ b' => b' = b) r rv (by rw [ht]; exact fun w' _ _ => rfl)
    obtain ⟨b', h1, rfl⟩ := this
    exact ⟨b', h1, h⟩
theorem de_orT {a b : Expr} {rest : List Expr} {pos : Pos} {g g' : M D} (h : DE X W a g) (h' : DE X W (.BoolOp .Or (b :: rest) pos) g') : DE X W (.BoolOp .Or (a :: b :: rest) pos) (gOrT g g') := by
  obtain ⟨t, p, q⟩ := h.run
  obtain ⟨t', p', q'⟩ := h'.run
  refine ⟨_, pe_orT p p', fun w σ ρ Q r h => q w σ ρ _ r (Ok1.imp (Ok1.bind h) fun w1 ρ1 d e1 r1 h1 v rv => ?_)⟩
  obtain ⟨b, e, h2⟩ := tru_v' r1 rv h1
  refine ⟨b, e, ?_⟩
  cases b with
  | true => exact iteT (h2 w1 (Ext.refl w1) r1 v rv)
  | false => exact iteF (q' w1 σ ρ1 _ r1 h2)
theorem de_andT {a b : Expr} {rest : List Expr} {pos : Pos} {g g' : M D} (h : DE X W a g) (h' : DE X W (.BoolOp .And (b :: rest) pos) g') : DE X W (.BoolOp .And (a :: b :: rest) pos) (gAndT g g') := by
  obtain ⟨t, p, q⟩ := h.run
  obtain ⟨t', p', q'⟩ := h'.run
  refine ⟨_, pe_andT p p', fun w σ ρ Q r h => q w σ ρ _ r (Ok1.imp (Ok1.bind h) fun w1 ρ1 d e1 r1 h1 v rv => ?_)⟩
  obtain ⟨b, e, h2⟩ := tru_v' r1 rv h1
  refine ⟨b, e, ?_⟩
  cases b with
  | true => exact iteT (q' w1 σ ρ1 _ r1 h2)
  | false => exact iteF (h2 w1 (Ext.refl w1) r1 v rv)
/-- not x by truth, as a value -/
def gNotT (g : M D) : M D := g.bind fun d => (tru d).bind fun b => M.ret (.p (.bool (!b)))
theorem de_notT {a : Expr} {pos : Pos} {g : M D} (h : DE X W a g) : DE X W (.UnaryOp .Not a pos) (gNotT g) := by
  obtain ⟨t, p, q⟩ := h.run
  refine ⟨_, pe_notT p, fun w σ ρ Q r h => q w σ ρ _ r (Ok1.imp (Ok1.bind h) fun w1 ρ1 d e1 r1 h1 v rv => ?_)⟩
  obtain ⟨b, e, h2⟩ := tru_v' r1 rv h1
  exact ⟨b, e, h2 w1 (Ext.refl w1) r1 _ (.bl _)⟩
/-! slices -/
structure DO (X : Cx) (W : WX) (e : Option Expr) (g : M (Option Int)) : Prop where
  run : ∃ t, PO X e t ∧ ∀ (w : Wd) (σ : L2.St) (ρ : Sg) (Q : Option Int → Hp → Prop), RelX X w σ ρ → Ok1 X W w σ (g ρ) (fun w' _ o => Q o w'.H) → t σ w.H Q
theorem do_none : DO X W none (M.ret none) := ⟨_, po_none, fun w σ ρ Q r h => h w (Ext.refl w) r⟩
def asIm (d : D) : M (Option Int) := match asI d with
  | some i => M.ret (some i)
  | none => M.bad
theorem do_some {e : Expr} {g : M D} (h : DE X W e g) : DO X W (some e) (g.bind asIm) := by
  obtain ⟨t, p, q⟩ := h.run
  refine ⟨_, po_some p, fun w σ ρ Q r h => q w σ ρ _ r (Ok1.imp (Ok1.bind h) fun w1 ρ1 d e1 r1 h1 v rv => ?_)⟩
  unfold asIm at h1
  cases ha : asI d with
  | none => rw [ha] at h1; exact h1.elim
  | some i =>
    rw [ha] at h1
    exact ⟨i, asI_v ha rv, h1 w1 (Ext.refl w1) r1⟩
def cutD (xs : List PyData) (lo hi : Option Int) : List PyData := (xs.drop (HT.sIx xs.length 0 lo)).take (HT.sIx xs.length xs.length hi - HT.sIx xs.length 0 lo)
def fSl (o : Bool) (a : D) (lo hi : Option Int) : M D := match a with
  | .p (.str z) => ifM (decide (z.length ≤ sizeLine)) (M.ret (.p (.str (cutS z lo hi))))
  | .p (.tuple xs) => newT (cutD xs lo hi)
  | .p (.list xs) => newL o (cutD xs lo hi)
  | .loc n => (sq (.loc n)).bind fun x => newL o (cutD x.2 lo hi)
  | _ => M.bad
def rSlAll (K : PySem.W.Frag) : V → Option Int → Option Int → Hp → VK → Prop := fun x lo hi H Q => rSlS x lo hi H Q ∨ (rSlA K x lo hi H Q ∨ rSlL K x lo hi H Q)
theorem sl_all : SlR X (rSlAll X.K) := sl_str.or (sl_tupA.or sl_list)
theorem rd_cut {K : PySem.W.Frag} {H : Hp} {vs : List V} {xs : List PyData} (h : RDAll K H vs xs) (lo hi : Option Int) : RDAll K H (cutV vs lo hi) (cutD xs lo hi) := by
  unfold cutV cutD
  rw [dpAll_len h]
  exact rd_take _ (rd_drop _ h)
theorem cut_whole {xs : List PyData} {lo hi : Option Int} (h : HT.sIx xs.length 0 lo = 0 ∧ HT.sIx xs.length xs.length hi = xs.length) : cutD xs lo hi = xs := by
  unfold cutD
  rw [h.1, h.2]; simp
theorem de_sl (o : Bool) {e : Expr} {lo hi : Option Expr} {p2 pos : Pos} {g : M D} {gl gh : M (Option Int)} (he : DE X W e g) (hl : DO X W lo gl) (hh : DO X W hi gh) : DE X W (.Subscript e (.Slice lo hi none p2) pos) (g.bind fun a => gl.bind fun l => gh.bind fun h => fSl o a l h) := by
  obtain ⟨t, p, q⟩ := he.run
  obtain ⟨tl, pl, ql⟩ := hl.run
  obtain ⟨th, ph, qh⟩ := hh.run
  refine ⟨_, pe_slice sl_all p pl ph, fun w σ ρ Q r h => q w σ ρ _ r (Ok1.imp (Ok1.bind h) fun w1 ρ1 d e1 r1 h1 v rv => ?_)⟩
  refine ql w1 σ ρ1 _ r1 (Ok1.imp (Ok1.bind h1) fun w2 ρ2 l e2 r2 h2 => ?_)
  refine qh w2 σ ρ2 _ r2 (Ok1.imp (Ok1.bind h2) fun w3 ρ3 u e3 r3 h3 => ?_)
  have rv := (e2.trans e3).r rv
  cases d with
  | nm _ => exact h3.elim
  | scr _ => exact h3.elim
  | loc n =>
    obtain ⟨k1, xs, p1, vs, rfl, s1, d1, q, t1⟩ := ok_sq r3 rv h3
    cases k1 with
    | false => cases t1 rfl
    | true =>
      rw [if_pos rfl] at s1
      exact .inr (.inr ⟨p1, vs, rfl, SqL.of s1, fun p n => ok_newL r3 (rd_cut d1 l u) q p n⟩)
  | p x =>
    cases x with
    | none => exact h3.elim
    | bool _ => exact h3.elim
    | int _ => exact h3.elim
    | dict _ => exact h3.elim
    | str z =>
      obtain ⟨c, h3⟩ := ifM_ok h3
      exact .inl ⟨z, rd_str rv, of_decide_eq_true c, h3 w3 (Ext.refl w3) r3 _ (.str _)⟩
    | list xs =>
      obtain ⟨a, vs, rfl, hs, hd⟩ := lst_of rv
      exact .inr (.inr ⟨a, vs, rfl, SqL.of (hide_same _ _ hs), fun p n => ok_newL r3 (rd_cut hd l u) h3 p n⟩)
    | tuple xs =>
      obtain ⟨a, vs, rfl, hs, hd⟩ := tup_of rv
      refine .inr (.inl ⟨a, vs, rfl, Evl_ex_t hide_same hs, fun z => ?_, fun z p n => ok_newT r3 (rd_cut hd l u) h3 p n⟩)
      rw [dpAll_len hd] at z
      have h3 : Ok1 X W w3 σ (newT (cutD xs l u) ρ3) (fun w' _ d => ∀ v, RX X w' v d → Q v w'.H) := h3
      rw [cut_whole z] at h3
      exact ok_same r3 rv h3
/-! built-ins by data -/
/-- one argument, any datum that is read, a flat datum back -/
def rC1 (K : PySem.W.Frag) (f : PyData → Option PyData) : List V → Hp → VK → Prop := fun vs H Q => ∃ x d z v, vs = [x] ∧ Dp K H x d ∧ f d = some z ∧ vof z = some v ∧ Q v H
def c1 (f : PyData → Option PyData) : List D → M D
  | [a] => (peek a).bind fun x => retO (f x)
  | _ => M.bad
theorem dc_1 {f : PyData → Option PyData} (hf : ∀ d z, f d = some z → ∃ v, vof z = some v) : DCall X W (rC1 X.K f) (c1 f) := by
  intro w σ ρ vs ds Q rr rl q
  match ds, vs, rl with
  | [], _, _ => exact q.elim
  | _ :: _ :: _, _, _ => exact q.elim
  | [a], [x], .cons ra .nil =>
    obtain ⟨d, hd, q⟩ := Ok1.peek rr ra q
    cases hz : f d with
    | none => rw [hz] at q; exact q.elim
    | some z =>
      rw [hz] at q
      obtain ⟨v, hv⟩ := hf d z hz
      exact ⟨x, d, z, v, rfl, hd.dp, hz, hv, q w (Ext.refl w) rr v (vof_dp hv)⟩
def pLen : PyData → Option PyData
  | .str x => if x.length ≤ sizeLine then some (.int x.length) else none
  | .list xs => some (.int xs.length)
  | .tuple xs => some (.int xs.length)
  | _ => none
theorem pLen_v (d z : PyData) (h : pLen d = some z) : ∃ v, vof z = some v := by
  cases d with
  | str x =>
    have h : (if x.length ≤ sizeLine then some (PyData.int x.length) else none) = some z := h
    split at h
    · cases h; exact ⟨_, rfl⟩
    · cases h
  | list xs => cases h; exact ⟨_, rfl⟩
  | tuple xs => cases h; exact ⟨_, rfl⟩
  | none => cases h
  | bool _ => cases h
  | int _ => cases h
  | dict _ => cases h
theorem dpA_len {K : PySem.W.Frag} {H : Hp} : ∀ {vs : List V} {xs : List PyData}, DpAll K H vs xs → vs.length = xs.length
  | _, _, .nil => rfl
  | _, _, .cons _ t => by simp [dpA_len t]
theorem call_lenP : CallR X (.builtin "len") (rC1 X.K pLen) := by
  intro pins s σ H xs us Q I r h
  obtain ⟨x, d, z, v, rfl, hd, hz, hv, q⟩ := h
  cases hd with
  | non => cases hz
  | bl _ => cases hz
  | int _ => cases hz
  | str y =>
    have hz : (if y.length ≤ sizeLine then some (PyData.int y.length) else none) = some z := hz
    split at hz
    · rename_i hl
      cases hz; cases hv
      exact call_len_str pins s σ H _ us Q I r ⟨y, rfl, hl, q⟩
    · cases hz
  | lst hs ha =>
    cases hz; cases hv
    refine call_len_seq pins s σ H _ us Q I r ⟨_, _, rfl, .inl hs, ?_⟩
    rw [dpA_len ha]; exact q
  | tup hs ha =>
    cases hz; cases hv
    refine call_len_seq pins s σ H _ us Q I r ⟨_, _, rfl, .inr hs, ?_⟩
    rw [dpA_len ha]; exact q
def pAbs : PyData → Option PyData
  | .int i => some (.int (if i < 0 then -i else i))
  | _ => none
theorem pAbs_v (d z : PyData) (h : pAbs d = some z) : ∃ v, vof z = some v := by
  cases d with
  | int i => cases h; exact ⟨_, rfl⟩
  | _ => cases h
theorem call_absP : CallR X (.builtin "abs") (rC1 X.K pAbs) := by
  intro pins s σ H xs us Q I r h
  obtain ⟨x, d, z, v, rfl, hd, hz, hv, q⟩ := h
  cases hd with
  | int i => cases hz; cases hv; exact call_abs pins s σ H _ us Q I r ⟨i, rfl, q⟩
  | non => cases hz
  | bl _ => cases hz
  | str _ => cases hz
  | lst _ _ => cases hz
  | tup _ _ => cases hz
def pInt : PyData → Option PyData
  | .int i => some (.int i)
  | .bool b => some (.int (if b then 1 else 0))
  | .str x => if x.length ≤ 640 then (PySem.intText? x).map .int else none
  | _ => none
theorem pInt_v (d z : PyData) (h : pInt d = some z) : ∃ v, vof z = some v := by
  cases d with
  | int i => cases h; exact ⟨_, rfl⟩
  | bool i => cases h; exact ⟨_, rfl⟩
  | str x =>
    have h : (if x.length ≤ 640 then (PySem.intText? x).map PyData.int else none) = some z := h
    split at h
    · cases hn : PySem.intText? x with
      | none => rw [hn] at h; cases h
      | some n => rw [hn] at h; cases h; exact ⟨_, rfl⟩
    · cases h
  | _ => cases h
theorem call_intP : CallR X (.type "int") (rC1 X.K pInt) := by
  intro pins s σ H xs us Q I r h
  obtain ⟨x, d, z, v, rfl, hd, hz, hv, q⟩ := h
  cases hd with
  | int i => cases hz; cases hv; exact call_int1 pins s σ H _ us Q I r (.inl ⟨i, rfl, q⟩)
  | bl b => cases hz; cases hv; exact call_int1 pins s σ H _ us Q I r (.inr ⟨b, rfl, q⟩)
  | str y =>
    have hz : (if y.length ≤ 640 then (PySem.intText? y).map PyData.int else none) = some z := hz
    split at hz
    · rename_i hl
      cases hn : PySem.intText? y with
      | none => rw [hn] at hz; cases hz
      | some n =>
        rw [hn] at hz; cases hz; cases hv
        exact call_int_str pins s σ H _ us Q I r ⟨y, n, rfl, hn, hl, q⟩
    · cases hz
  | non => cases hz
  | lst _ _ => cases hz
  | tup _ _ => cases hz
/-- str of an int of at most 577 figures -/
def pStr : PyData → Option PyData
  | .int i => if i.natAbs.log2 < 1920 then some (.str (toString i)) else none
  | .str x => some (.str x)
  | _ => none
theorem pStr_v (d z : PyData) (h : pStr d = some z) : ∃ v, vof z = some v := by
  cases d with
  | int i =>
    have h : (if i.natAbs.log2 < 1920 then some (PyData.str (Str.ofString (toString i))) else none) = some z := h
    split at h
    · cases h; exact ⟨_, rfl⟩
    · cases h
  | str x => cases h; exact ⟨_, rfl⟩
  | _ => cases h
theorem call_strI : CallR X (.type "str") (rC1 X.K fun d => match d with | .int i => if i.natAbs.log2 < 1920 then some (.str (toString i)) else none | _ => none) := by
  intro pins s σ H xs us Q I r h
  obtain ⟨x, d, z, v, rfl, hd, hz, hv, q⟩ := h
  cases hd with
  | int i =>
    have hz : (if i.natAbs.log2 < 1920 then some (PyData.str (toString i)) else none) = some z := hz
    split at hz
    · rename_i hl
      cases hz; cases hv
      exact call_str_int pins s σ H _ us Q I r ⟨i, rfl, hl, q⟩
    · cases hz
  | bl b => cases hz
  | str y => cases hz
  | non => cases hz
  | lst _ _ => cases hz
  | tup _ _ => cases hz
/-- tuple(..), list(..) of a list or a tuple -/
def cTup : List D → M D
  | [a] => (sq a).bind fun x => newT x.2
  | _ => M.bad
def cLst (o : Bool) : List D → M D
  | [a] => (sq a).bind fun x => newL o x.2
  | _ => M.bad
theorem dc_tup : DCall X W (fun xs H Q => ∃ p ys, xs = [.ref p] ∧ ((SqL X.K H p ys ∧ ∀ l, H l = none → Q (.ref l) (upd H l (.tup ys))) ∨ (SqT X.K H p ys ∧ Q (.ref p) H))) cTup := by
  intro w σ ρ vs ds Q rr rl q
  match ds, vs, rl with
  | [], _, _ => exact q.elim
  | _ :: _ :: _, _, _ => exact q.elim
  | [a], [x], .cons ra .nil =>
    obtain ⟨k1, xs, p1, us, rfl, s1, d1, q, t1⟩ := ok_sq rr ra q
    cases k1 with
    | true =>
      rw [if_pos rfl] at s1
      exact ⟨p1, us, rfl, .inl ⟨SqL.of s1, fun p n => ok_newT rr d1 q p n⟩⟩
    | false =>
      rw [if_neg (by decide)] at s1
      have e := t1 rfl
      subst e
      exact ⟨p1, us, rfl, .inr ⟨s1, ok_same rr ra q⟩⟩
theorem dc_lst (o : Bool) : DCall X W (fun xs H Q => ∃ p ys, xs = [.ref p] ∧ (SqL X.K H p ys ∨ SqT X.K H p ys) ∧ ∀ l, H l = none → Q (.ref l) (upd H l (.lst ys))) (cLst o) := by
  intro w σ ρ vs ds Q rr rl q
  match ds, vs, rl with
  | [], _, _ => exact q.elim
  | _ :: _ :: _, _, _ => exact q.elim
  | [a], [x], .cons ra .nil =>
    obtain ⟨k1, xs, p1, us, rfl, s1, d1, q, t1⟩ := ok_sq rr ra q
    refine ⟨p1, us, rfl, ?_, fun p n => ok_newL rr d1 q p n⟩
    cases k1 with
    | true => rw [if_pos rfl] at s1; exact .inl (SqL.of s1)
    | false => rw [if_neg (by decide)] at s1; exact .inr s1
/-- max, min of two ints -/
def cII (g : Int → Int → Int) : List D → M D
  | [a, b] => fInt0 g a b
  | _ => M.bad
theorem dc_ii {g : Int → Int → Int} : DCall X W (fun xs H Q => ∃ i j, xs = [.int i, .int j] ∧ Q (.int (g i j)) H) (cII g) := by
  intro w σ ρ vs ds Q rr rl q
  match ds, vs, rl with
  | [], _, _ => exact q.elim
  | [_], _, _ => exact q.elim
  | _ :: _ :: _ :: _, _, _ => exact q.elim
  | [a, b], [x, y], .cons ra (.cons rb .nil) =>
    obtain ⟨i, j, rfl, rfl, h⟩ := dop_int0 (g := g) w σ ρ x y a b Q rr ra rb q
    exact ⟨i, j, rfl, h⟩
/-- all, any of truth values -/
def bools : List PyData → Option (List Bool)
  | [] => some []
  | .bool b :: r => (bools r).map (b :: ·)
  | _ :: _ => none
theorem bools_v {K : PySem.W.Frag} {H : Hp} : ∀ {vs : List V} {xs : List PyData} {bs : List Bool}, RDAll K H vs xs → bools xs = some bs → vs = bs.map V.bl
  | _, _, _, .nil, h => by cases h; rfl
  | _, _, _, .cons (d := d) (ds := ds) h t, e => by
    cases d with
    | bool b =>
      cases hr : bools ds with
      | none => rw [bools, hr] at e; cases e
      | some r =>
        rw [bools, hr] at e
        cases e
        rw [rd_bl h, bools_v t hr]; rfl
    | none => cases e
    | int _ => cases e
    | str _ => cases e
    | list _ => cases e
    | tuple _ => cases e
    | dict _ => cases e
def cBs (f : List Bool → Bool) : List D → M D
  | [a] => (sq a).bind fun x => match x.1 with
    | true => retO ((bools x.2).map fun bs => .bool (f bs))
    | false => M.bad
  | _ => M.bad
theorem dc_all : DCall X W (rAll X.K) (cBs fun bs => bs.all id) := by
  intro w σ ρ vs ds Q rr rl q
  match ds, vs, rl with
  | [], _, _ => exact q.elim
  | _ :: _ :: _, _, _ => exact q.elim
  | [a], [x], .cons ra .nil =>
    obtain ⟨k1, xs, p1, us, rfl, s1, d1, q, t1⟩ := ok_sq rr ra q
    cases k1 with
    | false => exact q.elim
    | true =>
      rw [if_pos rfl] at s1
      have q : Ok1 X W w σ (retO ((bools xs).map fun bs => .bool (bs.all id)) ρ) (fun w' _ d => ∀ v, RX X w' v d → Q v w'.H) := q
      cases hb : bools xs with
      | none => rw [hb] at q; exact q.elim
      | some bs =>
        rw [hb] at q
        have e := bools_v d1 hb
        subst e
        exact ⟨p1, bs, rfl, SqL.of s1, q w (Ext.refl w) rr _ (.bl _)⟩
theorem dc_any : DCall X W (rAny X.K) (cBs fun bs => bs.any id) := by
  intro w σ ρ vs ds Q rr rl q
  match ds, vs, rl with
  | [], _, _ => exact q.elim
  | _ :: _ :: _, _, _ => exact q.elim
  | [a], [x], .cons ra .nil =>
    obtain ⟨k1, xs, p1, us, rfl, s1, d1, q, t1⟩ := ok_sq rr ra q
    cases k1 with
    | false => exact q.elim
    | true =>
      rw [if_pos rfl] at s1
      have q : Ok1 X W w σ (retO ((bools xs).map fun bs => .bool (bs.any id)) ρ) (fun w' _ d => ∀ v, RX X w' v d → Q v w'.H) := q
      cases hb : bools xs with
      | none => rw [hb] at q; exact q.elim
      | some bs =>
        rw [hb] at q
        have e := bools_v d1 hb
        subst e
        exact ⟨p1, bs, rfl, SqL.of s1, q w (Ext.refl w) rr _ (.bl _)⟩
end
end DL
namespace DL
open PySem PySem.Spec PyProof.Rows L2
section
variable {X : Cx} {W : WX}
/-! ### lists that change -/
def cellL (d : D) : M (Nat × List PyData) := fun ρ => match d with
  | .loc n => match ρ.m[n]? with
    | some (.lst xs) => .ok (n, xs) ρ
    | _ => .bad
  | _ => .bad
def setC (n : Nat) (c : Cell) : M Unit := fun ρ => .ok () ⟨ρ.s, ρ.m.set n c⟩
theorem ok_cellL {β : Type} {w : Wd} {σ : L2.St} {ρ : Sg} {v : V} {d : D} {f : Nat × List PyData → M β} {k : Wd → Sg → β → Prop} (r : RelX X w σ ρ) (rv : RX X w v d) (h : Ok1 X W w σ ((cellL d).bind f ρ) k) :
    ∃ n xs a vs, d = .loc n ∧ v = .ref a ∧ w.θ[n]? = some a ∧ w.F a ∧ w.H a = some (.lst vs) ∧ RDAll X.K w.Z vs xs ∧ ρ.m[n]? = some (.lst xs) ∧ Ok1 X W w σ (f (n, xs) ρ) k := by
  cases d with
  | p _ => exact h.elim
  | nm _ => exact h.elim
  | scr _ => exact h.elim
  | loc n =>
    have h : Ok1 X W w σ ((match ρ.m[n]? with | some (.lst xs) => (.ok (n, xs) ρ : Rs (Nat × List PyData)) | _ => .bad).bind f) k := h
    cases e : ρ.m[n]? with
    | none => rw [e] at h; exact h.elim
    | some c =>
      rw [e] at h
      cases c with
      | lst xs =>
        obtain ⟨a, vs, h1, h2, h3, h4, h5⟩ := peek_loc r rv e
        exact ⟨n, xs, a, vs, rfl, h1, h2, h3, h4, h5, e, h⟩
      | dK _ => exact h.elim
      | dT _ => exact h.elim
      | obj _ _ => exact h.elim
      | dead => exact h.elim
theorem rel_chg {w : Wd} {σ : L2.St} {ρ : Sg} {n : Nat} {a : Addr} {o : HO} {c : Cell} (r : RelX X w σ ρ) (ha : w.θ[n]? = some a) (hf : w.F a) (hc : CellR X.K X.mg (w.chg a o) a c) : RelX X (w.chg a o) σ ⟨ρ.s, ρ.m.set n c⟩ :=
  ⟨Rel.chg (s := ρ.s) (m := ρ.m) r.1 ha hf hc, r.2⟩
theorem ok_setC {β : Type} {w : Wd} {σ : L2.St} {ρ : Sg} {n : Nat} {a : Addr} {o : HO} {c : Cell} {f : Unit → M β} {k : Wd → Sg → β → Prop} (ha : w.θ[n]? = some a) (hf : w.F a) (h : Ok1 X W w σ ((setC n c).bind f ρ) k) :
    Ok1 X W (w.chg a o) σ (f () ⟨ρ.s, ρ.m.set n c⟩) k := Ok1.later (Ext.chg hf (List.mem_of_getElem? ha)) (show Ok1 X W w σ (f () ⟨ρ.s, ρ.m.set n c⟩) k from h)
theorem cell_lst {w : Wd} {a : Addr} {vs ys : List V} {xs : List PyData} (hf : w.F a) (hm : a ∈ w.θ) (h : RDAll X.K w.Z ys xs) : CellR X.K X.mg (w.chg a (.lst ys)) a (.lst xs) :=
  ⟨ys, upd_same, (Ext.chg hf hm).dpAll h⟩
/-- a builtin's method by values means f -/
def DMt (X : Cx) (W : WX) (r : V → List V → Hp → VK → Prop) (f : D → List D → M D) : Prop :=
  ∀ (w : Wd) (σ : L2.St) (ρ : Sg) (x : V) (xs : List V) (a : D) (ds : List D) (Q : VK), RelX X w σ ρ → RX X w x a → RL X w xs ds → Ok1 X W w σ (f a ds ρ) (fun w' _ d => ∀ v, RX X w' v d → Q v w'.H) → r x xs w.H Q
def isL (a : D) : M Unit := (cellL a).bind fun _ => M.ret ()
def gM (g : M D) (gs : M (List D)) (f : D → List D → M D) : M D := g.bind fun a => (isL a).bind fun _ => gs.bind fun ds => f a ds
theorem ok_isL {β : Type} {w : Wd} {σ : L2.St} {ρ : Sg} {v : V} {d : D} {f : Unit → M β} {k : Wd → Sg → β → Prop} (r : RelX X w σ ρ) (rv : RX X w v d) (h : Ok1 X W w σ ((isL d).bind f ρ) k) : tyV X.K "list" v w.H ∧ Ok1 X W w σ (f () ρ) k := by
  have h : Ok1 X W w σ ((cellL d).bind (fun _ => f ()) ρ) k := by
    revert h
    unfold isL M.bind
    cases cellL d ρ <;> exact id
  obtain ⟨n, xs, a, vs, rfl, rfl, _, _, h3, _, _, h⟩ := ok_cellL r rv h
  exact ⟨.inl ⟨rfl, _, SqL.of h3⟩, h⟩
theorem de_lm {o e : Expr} {es : List Expr} {name : Str} {apos cpos : Pos} {id : String} {r : V → List V → Hp → VK → Prop} {f : D → List D → M D} {g : M D} {gs : M (List D)} (slot : Slot "list" name id) (hty : typeOf (.builtin id) = pure (.type "method_descriptor")) (hm : MtR X id r) (hf : DMt X W r f)
    (ho : DE X W o g) (ha : DA X W (e :: es) gs) (hbase : attributeBase o name X.env (eval o X.env) = eval o X.env := by rfl)
    (hfew : ((backTo cpos (starEach (e :: es) X.env)).all (fun x => !x.1) && (backToKw cpos (keywordEach [] X.env)).all (fun x => x.1.isSome)
      && decide ((e :: es).length + ([] : List Keyword).length + (if ([] : List Keyword).isEmpty then 0 else 1) < 30)) = true := by rfl)
    (hline : (apos.endLine == cpos.line) = true := by rfl) (hs : starEach (e :: es) X.env = (false, eval e X.env) :: starEach es X.env := by rfl) (hplain : (backTo cpos (starEach es X.env)).any (·.1) = false := by rfl) :
    DE X W (.Call (.Attribute o name apos) (e :: es) [] cpos) (gM g gs f) := by
  obtain ⟨t, p, q⟩ := ho.run
  obtain ⟨ts, ps, qs⟩ := ha.run
  refine ⟨_, pe_bm PySem.F.plainAttrs_list slot hty hm p ps hbase hfew hline hs hplain, fun w σ ρ Q rr h => q w σ ρ _ rr (Ok1.imp (Ok1.bind h) fun w1 ρ1 d e1 r1 h1 v rv => ?_)⟩
  obtain ⟨ty, h1⟩ := ok_isL r1 rv h1
  exact ⟨ty, qs w1 σ ρ1 _ r1 (Ok1.imp (Ok1.bind h1) fun w2 ρ2 ds e2 r2 h2 vs rvs => hf w2 σ ρ2 v vs d ds Q r2 (e2.r rv) rvs h2)⟩
theorem de_lm0 {o : Expr} {name : Str} {apos cpos : Pos} {id : String} {r : V → List V → Hp → VK → Prop} {f : D → List D → M D} {g : M D} (slot : Slot "list" name id) (hty : typeOf (.builtin id) = pure (.type "method_descriptor")) (hm : MtR X id r) (hf : DMt X W r f)
    (ho : DE X W o g) (hbase : attributeBase o name X.env (eval o X.env) = eval o X.env := by rfl) (hline : (apos.endLine == cpos.line) = true := by rfl) :
    DE X W (.Call (.Attribute o name apos) [] [] cpos) (gM g (M.ret []) f) := by
  obtain ⟨t, p, q⟩ := ho.run
  refine ⟨_, pe_bm0 PySem.F.plainAttrs_list slot hty hm p hbase hline, fun w σ ρ Q rr h => q w σ ρ _ rr (Ok1.imp (Ok1.bind h) fun w1 ρ1 d e1 r1 h1 v rv => ?_)⟩
  obtain ⟨ty, h1⟩ := ok_isL r1 rv h1
  exact ⟨ty, hf w1 σ ρ1 v [] d [] Q r1 rv .nil h1⟩
def mAppend (a : D) (ds : List D) : M D := match ds with
  | [.p x] => (cellL a).bind fun nx => ifM (decide (nx.2.length < sizeLine)) ((setC nx.1 (.lst (nx.2 ++ [x]))).bind fun _ => M.ret (.p .none))
  | _ => M.bad
theorem dm_append : DMt X W rAppend mAppend := by
  intro w σ ρ x xs a ds Q rr ra rl q
  cases rl with
  | nil => exact q.elim
  | cons rd rt =>
    rename_i v d vs ds
    cases rt with
    | cons _ _ => cases d <;> exact q.elim
    | nil =>
      cases d with
      | loc _ => exact q.elim
      | nm _ => exact q.elim
      | scr _ => exact q.elim
      | p y =>
        obtain ⟨n, ys, b, us, rfl, rfl, h1, h2, h3, h4, h5, q⟩ := ok_cellL rr ra q
        obtain ⟨c, q⟩ := ifM_ok q
        have rd : RD X.K w.Z v y := rd
        have q := ok_setC (o := .lst (us ++ [v])) h1 h2 q
        refine ⟨b, us, v, rfl, rfl, h3, ?_, ?_⟩
        · rw [dpA_len h4.dp]; exact of_decide_eq_true c
        · exact q _ (Ext.refl _) (rel_chg rr h1 h2 (cell_lst (vs := us) h2 (List.mem_of_getElem? h1) (rd_app h4 (.cons rd .nil)))) .non .non
def mExtend (a : D) (ds : List D) : M D := match ds with
  | [b] => (cellL a).bind fun nx => (sq b).bind fun y => match y.1 with
    | true => ifM (decide (nx.2.length + y.2.length ≤ sizeLine)) ((setC nx.1 (.lst (nx.2 ++ y.2))).bind fun _ => M.ret (.p .none))
    | false => M.bad
  | _ => M.bad
theorem dm_extend : DMt X W rExtend mExtend := by
  intro w σ ρ x xs a ds Q rr ra rl q
  cases rl with
  | nil => exact q.elim
  | cons rd rt =>
    rename_i v d vs ds
    cases rt with
    | cons _ _ => exact q.elim
    | nil =>
      obtain ⟨n, ys, b, us, rfl, rfl, h1, h2, h3, h4, h5, q⟩ := ok_cellL rr ra q
      obtain ⟨k1, zs, c, us2, rfl, s1, d1, q, t1⟩ := ok_sq rr rd q
      cases k1 with
      | false => exact q.elim
      | true =>
        rw [if_pos rfl] at s1
        have q : Ok1 X W w σ (ifM (decide (ys.length + zs.length ≤ sizeLine)) ((setC n (.lst (ys ++ zs))).bind fun _ => M.ret (.p .none)) ρ) (fun w' _ d => ∀ v, RX X w' v d → Q v w'.H) := q
        obtain ⟨cc, q⟩ := ifM_ok q
        have q := ok_setC (o := .lst (us ++ us2)) h1 h2 q
        refine ⟨b, c, us, us2, rfl, rfl, h3, s1, ?_, ?_⟩
        · rw [dpA_len h4.dp, dpA_len d1.dp]; exact of_decide_eq_true cc
        · exact q _ (Ext.refl _) (rel_chg rr h1 h2 (cell_lst (vs := us) h2 (List.mem_of_getElem? h1) (rd_app h4 d1))) .non .non
theorem rd_last {K : PySem.W.Frag} {H : Hp} {vs : List V} {xs : List PyData} (h : RDAll K H vs xs) {x : PyData} (e : xs.getLast? = some x) : ∃ v, vs[vs.length - 1]? = some v ∧ RD K H v x ∧ RDAll K H vs.dropLast xs.dropLast := by
  have hl := dpA_len h.dp
  rw [List.getLast?_eq_getElem?] at e
  obtain ⟨v, e1, r⟩ := rd_get h _ x e
  refine ⟨v, by rw [hl]; exact e1, r, ?_⟩
  rw [List.dropLast_eq_take, List.dropLast_eq_take, hl]
  exact rd_take _ h
def mPop (a : D) (ds : List D) : M D := match ds with
  | [] => (cellL a).bind fun nx => match nx.2.getLast? with
    | some x => (setC nx.1 (.lst nx.2.dropLast)).bind fun _ => M.ret (.p x)
    | none => M.bad
  | _ => M.bad
theorem dm_pop : DMt X W rPop mPop := by
  intro w σ ρ x xs a ds Q rr ra rl q
  cases rl with
  | cons _ _ => exact q.elim
  | nil =>
    obtain ⟨n, ys, b, us, rfl, rfl, h1, h2, h3, h4, h5, q⟩ := ok_cellL rr ra q
    cases e : ys.getLast? with
    | none => simp only [e] at q; exact q.elim
    | some y =>
      simp only [e] at q
      obtain ⟨v, e1, r1, r2⟩ := rd_last h4 e
      have q := ok_setC (o := .lst us.dropLast) h1 h2 q
      exact ⟨b, us, v, rfl, rfl, h3, e1, q _ (Ext.refl _) (rel_chg rr h1 h2 (cell_lst (vs := us) h2 (List.mem_of_getElem? h1) r2)) v ((Ext.chg h2 (List.mem_of_getElem? h1)).dp r1)⟩
def mReverse (a : D) (ds : List D) : M D := match ds with
  | [] => (cellL a).bind fun nx => (setC nx.1 (.lst nx.2.reverse)).bind fun _ => M.ret (.p .none)
  | _ => M.bad
theorem dm_reverse : DMt X W rReverse mReverse := by
  intro w σ ρ x xs a ds Q rr ra rl q
  cases rl with
  | cons _ _ => exact q.elim
  | nil =>
    obtain ⟨n, ys, b, us, rfl, rfl, h1, h2, h3, h4, h5, q⟩ := ok_cellL rr ra q
    have q := ok_setC (o := .lst us.reverse) h1 h2 q
    exact ⟨b, us, rfl, rfl, h3, q _ (Ext.refl _) (rel_chg rr h1 h2 (cell_lst (vs := us) h2 (List.mem_of_getElem? h1) (rd_rev h4))) .non .non⟩
theorem de_append {o e : Expr} {apos cpos : Pos} {g ge : M D} (ho : DE X W o g) (he : DE X W e ge) (hbase : attributeBase o "append" X.env (eval o X.env) = eval o X.env := by rfl)
    (hfew : ((backTo cpos (starEach [e] X.env)).all (fun x => !x.1) && (backToKw cpos (keywordEach [] X.env)).all (fun x => x.1.isSome)
      && decide ([e].length + ([] : List Keyword).length + (if ([] : List Keyword).isEmpty then 0 else 1) < 30)) = true := by rfl)
    (hline : (apos.endLine == cpos.line) = true := by rfl) (hs : starEach [e] X.env = (false, eval e X.env) :: starEach [] X.env := by rfl) :
    DE X W (.Call (.Attribute o "append" apos) [e] [] cpos) (gM g (gCons ge (M.ret [])) mAppend) := de_lm PySem.F.slot_list_append PySem.F.type_list_append mt_append dm_append ho (da_cons he da_nil hs) hbase hfew hline hs
theorem de_extend {o e : Expr} {apos cpos : Pos} {g ge : M D} (ho : DE X W o g) (he : DE X W e ge) (hbase : attributeBase o "extend" X.env (eval o X.env) = eval o X.env := by rfl)
    (hfew : ((backTo cpos (starEach [e] X.env)).all (fun x => !x.1) && (backToKw cpos (keywordEach [] X.env)).all (fun x => x.1.isSome)
      && decide ([e].length + ([] : List Keyword).length + (if ([] : List Keyword).isEmpty then 0 else 1) < 30)) = true := by rfl)
    (hline : (apos.endLine == cpos.line) = true := by rfl) (hs : starEach [e] X.env = (false, eval e X.env) :: starEach [] X.env := by rfl) :
    DE X W (.Call (.Attribute o "extend" apos) [e] [] cpos) (gM g (gCons ge (M.ret [])) mExtend) := de_lm PySem.F.slot_list_extend PySem.F.type_list_extend mt_extend dm_extend ho (da_cons he da_nil hs) hbase hfew hline hs
theorem de_pop {o : Expr} {apos cpos : Pos} {g : M D} (ho : DE X W o g) (hbase : attributeBase o "pop" X.env (eval o X.env) = eval o X.env := by rfl) (hline : (apos.endLine == cpos.line) = true := by rfl) :
    DE X W (.Call (.Attribute o "pop" apos) [] [] cpos) (gM g (M.ret []) mPop) := de_lm0 PySem.F.slot_list_pop PySem.F.type_list_pop mt_pop dm_pop ho hbase hline
theorem de_reverse {o : Expr} {apos cpos : Pos} {g : M D} (ho : DE X W o g) (hbase : attributeBase o "reverse" X.env (eval o X.env) = eval o X.env := by rfl) (hline : (apos.endLine == cpos.line) = true := by rfl) :
    DE X W (.Call (.Attribute o "reverse" apos) [] [] cpos) (gM g (M.ret []) mReverse) := de_lm0 PySem.F.slot_list_reverse PySem.F.type_list_reverse mt_reverse dm_reverse ho hbase hline
/-! ### join -/
def strsD : List PyData → Option (List Str)
  | [] => some []
  | .str x :: r => (strsD r).map (x :: ·)
  | _ :: _ => none
theorem strs_v {K : PySem.W.Frag} {H : Hp} : ∀ {vs : List V} {xs : List PyData} {bs : List Str}, RDAll K H vs xs → strsD xs = some bs → vs = bs.map V.str
  | _, _, _, .nil, h => by cases h; rfl
  | _, _, _, .cons (d := d) (ds := ds) h t, e => by
    cases d with
    | str x =>
      cases hr : strsD ds with
      | none => rw [strsD, hr] at e; cases e
      | some ys =>
        rw [strsD, hr] at e
        cases e
        rw [strs_v t hr, rd_str h]; rfl
    | none => cases e
    | bool _ => cases e
    | int _ => cases e
    | list _ => cases e
    | tuple _ => cases e
    | dict _ => cases e
def asSm (d : D) : M Str := match asS d with
  | some z => M.ret z
  | none => M.bad
def joinK (z : Str) (o : Option (List Str)) : M D := match o with
  | some ys => ifM (decide ((ys.map fun y : Str => y.length).sum + ys.length * z.length ≤ 16777216)) (M.ret (.p (.str (Txt.join z ys))))
  | none => M.bad
def fJoin (z : Str) (d : D) : M D := (sq d).bind fun x => joinK z (strsD x.2)
theorem de_join {o e : Expr} {apos pos : Pos} {g ge : M D} (ho : DE X W o g) (he : DE X W e ge) (hs : starEach [e] X.env = [(false, eval e X.env)] := by rfl) (hbase : attributeBase o "join" X.env (eval o X.env) = eval o X.env := by rfl) (hline : (apos.endLine == pos.line) = true := by rfl) :
    DE X W (.Call (.Attribute o "join" apos) [e] [] pos) (g.bind fun a => (asSm a).bind fun z => ge.bind fun d => fJoin z d) := by
  obtain ⟨t, p, q⟩ := ho.run
  obtain ⟨te, pe, qe⟩ := he.run
  refine ⟨_, pe_join p pe hs hbase hline, fun w σ ρ Q rr h => q w σ ρ _ rr (Ok1.imp (Ok1.bind h) fun w1 ρ1 d e1 r1 h1 v rv => ?_)⟩
  unfold asSm at h1
  cases ez : asS d with
  | none => rw [ez] at h1; exact h1.elim
  | some z =>
    rw [ez] at h1
    have ev := asS_v ez rv
    subst ev
    have h1 : Ok1 X W w1 σ ((ge.bind fun d => fJoin z d) ρ1) (fun w' _ d => ∀ v, RX X w' v d → Q v w'.H) := h1
    refine ⟨⟨z, rfl⟩, qe w1 σ ρ1 _ r1 (Ok1.imp (Ok1.bind h1) fun w2 ρ2 b e2 r2 h2 u ru => ?_)⟩
    obtain ⟨k1, xs, a, vs, rfl, s1, d1, h2, t1⟩ := ok_sq r2 ru h2
    have h2 : Ok1 X W w2 σ (joinK z (strsD xs) ρ2) (fun w' _ d => ∀ v, RX X w' v d → Q v w'.H) := h2
    cases es : strsD xs with
    | none => rw [es] at h2; exact h2.elim
    | some ys =>
      rw [es] at h2
      obtain ⟨c, h2⟩ := ifM_ok h2
      have ev := strs_v d1 es
      subst ev
      refine ⟨z, a, ys, rfl, rfl, ?_, of_decide_eq_true c, h2 w2 (Ext.refl w2) r2 _ (.str _)⟩
      cases k1 with
      | true => rw [if_pos rfl] at s1; exact .inl (SqL.of s1)
      | false => rw [if_neg (by decide)] at s1; exact .inr s1
/-! ### attributes of own objects -/
/-- the class of that name: what its instances' attributes need -/
structure ClsF (X : Cx) (c : Str) : Prop where
  cls : ∀ C, X.mg c = some (.ref C) → Cls X.K C
def AttF (X : Cx) (c f : Str) : Prop := ∀ C, X.mg c = some (.ref C) → NoAttr X.K C f
def MetF (X : Cx) (c m : Str) (f : Addr) : Prop := ∀ C, X.mg c = some (.ref C) → Meth X.K C m f
def cellO (c : Str) (d : D) : M (Nat × List (Str × D)) := fun ρ => match d with
  | .loc n => match ρ.m[n]? with
    | some (.obj c' fs) => if c' = c then .ok (n, fs) ρ else .bad
    | _ => .bad
  | _ => .bad
theorem ok_cellO {β : Type} {w : Wd} {σ : L2.St} {ρ : Sg} {v : V} {d : D} {c : Str} {f : Nat × List (Str × D) → M β} {k : Wd → Sg → β → Prop} (r : RelX X w σ ρ) (rv : RX X w v d) (h : Ok1 X W w σ ((cellO c d).bind f ρ) k) :
    ∃ n fs a vs C dx, d = .loc n ∧ v = .ref a ∧ w.θ[n]? = some a ∧ w.F a ∧ X.mg c = some (.ref C) ∧ w.H a = some (.ins C dx vs) ∧ RF X.K X.mg w vs fs ∧ ρ.m[n]? = some (.obj c fs) ∧ Ok1 X W w σ (f (n, fs) ρ) k := by
  cases d with
  | p _ => exact h.elim
  | nm _ => exact h.elim
  | scr _ => exact h.elim
  | loc n =>
    have q : Ok1 X W w σ ((match ρ.m[n]? with | some (.obj c' fs) => if c' = c then (.ok (n, fs) ρ : Rs (Nat × List (Str × D))) else .bad | _ => .bad).bind f) k := h
    clear h
    cases e : ρ.m[n]? with
    | none => rw [e] at q; exact q.elim
    | some cc =>
      rw [e] at q
      cases cc with
      | obj c' fs =>
        by_cases ec : c' = c
        · simp only [if_pos ec] at q
          subst ec
          obtain ⟨a, h1, h2⟩ := rv
          obtain ⟨hf, C, dx, vs, h3, h4, h5⟩ := r.1.cells n a _ h1 e rfl
          exact ⟨n, fs, a, vs, C, dx, rfl, h2, h1, hf, h3, h4, h5, e, q⟩
        · simp only [if_neg ec] at q; exact q.elim
      | dK _ => exact q.elim
      | dT _ => exact q.elim
      | lst _ => exact q.elim
      | dead => exact q.elim
theorem rf_lookup {K : PySem.W.Frag} {mg : Str → Option Value} {w : Wd} {f : Str} : ∀ {vs : List (Str × V)} {fs : List (Str × D)}, RF K mg w vs fs → (fs.lookup f = none → vs.lookup f = none) ∧ ∀ d, fs.lookup f = some d → ∃ v, vs.lookup f = some v ∧ R K mg w v d
  | _, _, .nil => ⟨fun _ => rfl, fun d h => by cases h⟩
  | _, _, .cons (f := g) (v := v) (d := d') h t => by
    obtain ⟨i1, i2⟩ := rf_lookup (f := f) t
    cases e : f == g with
    | true => simp only [List.lookup, e]; exact ⟨fun z => (nomatch z), fun d z => by cases z; exact ⟨_, rfl, h⟩⟩
    | false => simp only [List.lookup, e]; exact ⟨i1, i2⟩
def putD (f : Str) (v : D) : List (Str × D) → List (Str × D)
  | [] => [(f, v)]
  | (g, x) :: r => if g = f then (g, v) :: r else (g, x) :: putD f v r
theorem rf_put {K : PySem.W.Frag} {mg : Str → Option Value} {w : Wd} {f : Str} {v : V} {d : D} (rv : R K mg w v d) : ∀ {vs : List (Str × V)} {fs : List (Str × D)}, RF K mg w vs fs → RF K mg w (putF f v vs) (putD f d fs)
  | _, _, .nil => .cons rv .nil
  | _, _, .cons (f := g) (v := v') (d := d') (vs := vs) (ds := ds) h t => by
    rw [show putF f v ((g, v') :: vs) = (if g = f then (g, v) :: vs else (g, v') :: putF f v vs) from rfl, show putD f d ((g, d') :: ds) = (if g = f then (g, d) :: ds else (g, d') :: putD f d ds) from rfl]
    by_cases e : g = f
    · rw [if_pos e, if_pos e]; exact .cons rv t
    · rw [if_neg e, if_neg e]; exact .cons h (rf_put rv t)
theorem rf_len {K : PySem.W.Frag} {mg : Str → Option Value} {w : Wd} : ∀ {vs : List (Str × V)} {fs : List (Str × D)}, RF K mg w vs fs → vs.length = fs.length
  | _, _, .nil => rfl
  | _, _, .cons _ t => by simp [rf_len t]
def retD (o : Option D) : M D := match o with
  | some d => M.ret d
  | none => M.bad
def fFld (c f : Str) (d : D) : M D := (cellO c d).bind fun nf => retD (nf.2.lookup f)
theorem ok_fld {w : Wd} {σ : L2.St} {ρ : Sg} {v : V} {d : D} {c f : Str} {k : Wd → Sg → D → Prop} (r : RelX X w σ ρ) (rv : RX X w v d) (h : Ok1 X W w σ (fFld c f d ρ) k) :
    ∃ a C dx vs v', v = .ref a ∧ X.mg c = some (.ref C) ∧ w.H a = some (.ins C dx vs) ∧ vs.lookup f = some v' ∧ ∃ d', RX X w v' d' ∧ k w ρ d' := by
  obtain ⟨n, fs, a, vs, C, dx, rfl, rfl, h1, h2, h3, h4, h5, h6, h⟩ := ok_cellO r rv h
  cases e : fs.lookup f with
  | none => simp only [e] at h; exact h.elim
  | some d' =>
    simp only [e] at h
    obtain ⟨v', e', r'⟩ := (rf_lookup h5).2 d' e
    exact ⟨a, C, dx, vs, v', rfl, h3, h4, e', d', r', h w (Ext.refl w) r⟩
theorem de_fld {c f : Str} {e : Expr} {pos : Pos} {g : M D} (C : ClsF X c) (A : AttF X c f) (he : DE X W e g) (hb : attributeBase e f X.env (eval e X.env) = eval e X.env := by rfl) : DE X W (.Attribute e f pos) (g.bind (fFld c f)) := by
  obtain ⟨t, p, q⟩ := he.run
  refine ⟨_, pe_fld p hb, fun w σ ρ Q rr h => q w σ ρ _ rr (Ok1.imp (Ok1.bind h) fun w1 ρ1 d e1 r1 h1 v rv => ?_)⟩
  obtain ⟨a, D, dx, vs, v', rfl, h2, h3, h4, d', h5, h6⟩ := ok_fld r1 rv h1
  exact ⟨a, D, dx, vs, v', rfl, h3, C.cls D h2, A D h2, h4, h6 v' h5⟩
/-- o.f = value -/
def sFldG (c f : Str) (g go : M D) : M Fl := g.bind fun y => go.bind fun a => (cellO c a).bind fun nf => ifM (decide (nf.2.length < 1000)) ((setC nf.1 (.obj c (putD f y nf.2))).bind fun _ => M.ret .nx)
theorem cell_obj {w : Wd} {a C dx : Addr} {vs : List (Str × V)} {fs : List (Str × D)} {c : Str} (hf : w.F a) (hm : a ∈ w.θ) (h : X.mg c = some (.ref C)) (r : RF X.K X.mg w vs fs) : CellR X.K X.mg (w.chg a (.ins C dx vs)) a (.obj c fs) :=
  ⟨C, dx, vs, h, upd_same, (Ext.chg hf hm).rf r⟩
theorem ds_fld {c f : Str} {o value : Expr} {pos pos' : Pos} {g go : M D} (C : ClsF X c) (A : AttF X c f) (ho : DE X W o go) (hv : DE X W value g) (hs : swapsWith value (some (.Attribute o f pos')) pos.line X.env = pure false := by rfl) :
    DS X W (.Assign [.Attribute o f pos'] value pos) (sFldG c f g go) := by
  obtain ⟨to, po, qo⟩ := ho.run
  obtain ⟨tv, pv, qv⟩ := hv.run
  refine ⟨_, ps_fld po pv hs, fun w σ ρ D r h => ?_⟩
  refine qv w σ ρ _ r (Ok1.imp (Ok2.ex (Ok2.bind h)) fun w1 ρ1 d e1 r1 h1 v rv => ?_)
  refine qo w1 σ ρ1 _ r1 (Ok1.imp (Ok2.ex (Ok2.bind h1)) fun w2 ρ2 a e2 r2 h2 u ru => ?_)
  obtain ⟨n, fs, b, vs, K, dx, rfl, rfl, q1, q2, q3, q4, q5, q6, h3⟩ := ok_cellO r2 ru (Ok2.ex h2)
  obtain ⟨cc, h3⟩ := ifM_ok h3
  have q7 := rf_put (e2.r rv) q5 (f := f)
  have h3 := ok_setC (o := .ins K dx (putF f v vs)) q1 q2 h3
  refine ⟨b, K, dx, vs, rfl, q4, C.cls K q3, A K q3, by rw [rf_len q5]; exact of_decide_eq_true cc, ?_⟩
  exact h3 _ (Ext.refl _) (rel_chg r2 q1 q2 (cell_obj q2 (List.mem_of_getElem? q1) q3 q7))
/-- o.f += value, both ints -/
def sFldAdd (c f : Str) (go g : M D) : M Fl := go.bind fun a => (fFld c f a).bind fun x => g.bind fun y => (fInt0 (· + ·) x y).bind fun z => (cellO c a).bind fun nf => ifM (decide (nf.2.length < 1000)) ((setC nf.1 (.obj c (putD f z nf.2))).bind fun _ => M.ret .nx)
theorem ok_fldB {β : Type} {w : Wd} {σ : L2.St} {ρ : Sg} {v : V} {d : D} {c f : Str} {g : D → M β} {k : Wd → Sg → β → Prop} (r : RelX X w σ ρ) (rv : RX X w v d) (h : Ok1 X W w σ (((fFld c f d).bind g) ρ) k) :
    ∃ a C dx vs v' d', v = .ref a ∧ X.mg c = some (.ref C) ∧ w.H a = some (.ins C dx vs) ∧ vs.lookup f = some v' ∧ RX X w v' d' ∧ Ok1 X W w σ (g d' ρ) k := by
  have h : Ok1 X W w σ ((cellO c d).bind (fun nf => (retD (nf.2.lookup f)).bind g) ρ) k := by
    revert h
    unfold fFld M.bind
    cases cellO c d ρ <;> exact id
  obtain ⟨n, fs, a, vs, C, dx, rfl, rfl, h1, h2, h3, h4, h5, h6, h⟩ := ok_cellO r rv h
  cases e : fs.lookup f with
  | none => simp only [e] at h; exact h.elim
  | some d' =>
    simp only [e] at h
    obtain ⟨v', e', r'⟩ := (rf_lookup h5).2 d' e
    exact ⟨a, C, dx, vs, v', d', rfl, h3, h4, e', r', h⟩
theorem ds_fldAdd {c f : Str} {o value : Expr} {pos tpos : Pos} {g go : M D} (C : ClsF X c) (A : AttF X c f) (ho : DE X W o go) (hv : DE X W value g) : DS X W (.AugAssign (.Attribute o f tpos) .Add value pos) (sFldAdd c f go g) := by
  obtain ⟨to, po, qo⟩ := ho.run
  obtain ⟨tv, pv, qv⟩ := hv.run
  refine ⟨_, ps_fldaug po pv in_add, fun w σ ρ D r h => ?_⟩
  refine qo w σ ρ _ r (Ok1.imp (Ok2.ex (Ok2.bind h)) fun w1 ρ1 a e1 r1 h1 u ru => ?_)
  obtain ⟨b, K, dx, vs, v', d', rfl, q3, q4, q5, q6, h1⟩ := ok_fldB r1 ru (Ok2.ex h1)
  refine ⟨b, K, dx, vs, v', rfl, q4, C.cls K q3, A K q3, q5, qv w1 σ ρ1 _ r1 (Ok1.imp (Ok1.bind h1) fun w2 ρ2 y e2 r2 h2 v rv => ?_)⟩
  unfold fInt0 fInt at h2
  cases ei : asI d' with
  | none => simp only [ei] at h2; exact h2.elim
  | some i =>
    cases ej : asI y with
    | none => simp only [ei, ej] at h2; exact h2.elim
    | some j =>
      simp only [ei, ej] at h2
      refine ⟨i, j, asI_v ei (e2.r q6), asI_v ej rv, ?_⟩
      obtain ⟨n, fs, b', vs', K', dx', rfl, eb, p1, p2, p3, p4, p5, p6, h3⟩ := ok_cellO r2 (e2.r ru) h2
      cases eb
      rw [q3] at p3; cases p3
      obtain ⟨cc, h3⟩ := ifM_ok h3
      have q7 := rf_put (w := w2) (v := .int (i + j)) (d := .p (.int (i + j))) (.int _) p5 (f := f)
      have h3 := ok_setC (o := .ins K dx' (putF f (.int (i + j)) vs')) p1 p2 h3
      refine ⟨dx', vs', p4, by rw [rf_len p5]; exact of_decide_eq_true cc, ?_⟩
      exact h3 _ (Ext.refl _) (rel_chg r2 p1 p2 (cell_obj p2 (List.mem_of_getElem? p1) q3 q7))
end
end DL
namespace DL
open PySem PySem.Spec PyProof.Rows L2
section
variable {X : Cx} {W : WX}
/-! ### methods of own classes -/
structure MFn (X : Cx) (c m : Str) (n k : Nat) (F : FS) : Prop where
  ex : ∃ f fd ps, ps.length = n ∧ FnG X.prog X.w X.K X.mg X.base (L2.CX X.prog X.w) k f fd ps (spD X.K X.mg n F) ∧ Binds X.K fd ps [] ∧ MetF X c m f
/-- o.m(..), with the frame's own wish about exceptions -/
def tMS (K : PySem.W.Frag) (m : Str) (f : Addr) (sp : Sp) (E : L2.St → XK) (ta : TE) (t : TA) : TE := fun σ H Q => ta σ H fun x H1 => ∃ a C dx fs, x = .ref a ∧ H1 a = some (.ins C dx fs) ∧ Cls K C ∧ Meth K C m f ∧ fs.lookup m = none ∧
  t σ H1 fun vs H2 => sp (x :: vs) H2 Q (E σ)
theorem pe_mS {o e : Expr} {es : List Expr} {m : Str} {apos pos : Pos} {f : Addr} {fd : FuncData} {ps : List Str} {k : Nat} {sp : Sp} {E : L2.St → XK} {ta : TE} {t : TA} {pl : Sem Bool} (he : PE X o ta) (F : FnG X.prog X.w X.K X.mg X.base (L2.CX X.prog X.w) k f fd ps sp) (hr : RmG k X.A) (hb : Binds X.K fd ps [])
    (hx : ∀ σ, PassesAt (L2.CX X.prog X.w) X σ (E σ)) (ha : PA X (e :: es) t) (hst : starEach (e :: es) X.env = (false, eval e X.env) :: starEach es X.env) (hpl : (backTo pos (starEach es X.env)).any (·.1) = false)
    (ht : eval (.Call (.Attribute o m apos) (e :: es) [] pos) X.env = (do
      let ov ← eval o X.env
      standAt apos.atName
      let (f, first) ← holding [ov] (getMethod ov m pl)
      callWith pos f first (backTo pos (starEach (e :: es) X.env)) (backToKw pos (keywordEach [] X.env)))) : PE X (.Call (.Attribute o m apos) (e :: es) [] pos) (tMS X.K m f sp E ta t) := by
  constructor
  intro pins s σ H Q I h
  apply PySem.W.methodCall_KW (pl := pl) _ ht
  refine thn (he.run pins s σ H _ I h) ?_
  rintro u s1 ⟨x, H1, I1, rx, a, C, dx, fs, rfl, ea, c, hm, l, q⟩
  cases (show u = Value.ref a from rx)
  apply getmeth_ok I1 ea c hm l
  refine PySem.W.callWith_K (first := [.ref a]) (h₀ := X.base) I.ok.mod.kin hm.kp (thn (ha.run pos pins s1 σ H1 _ I1 q) ?_) hst hpl
  rintro us s2 ⟨vs, H2, I2, r, q2⟩
  refine ⟨I2.kIn, run_G (us := .ref a :: us) (vs := .ref a :: vs) F hr hb (hx σ) I2 (.cons rfl r) q2⟩
theorem pe_mS0 {o : Expr} {m : Str} {apos pos : Pos} {f : Addr} {fd : FuncData} {ps : List Str} {k : Nat} {sp : Sp} {E : L2.St → XK} {ta : TE} {pl : Sem Bool} (he : PE X o ta) (F : FnG X.prog X.w X.K X.mg X.base (L2.CX X.prog X.w) k f fd ps sp) (hr : RmG k X.A) (hb : Binds X.K fd ps [])
    (hx : ∀ σ, PassesAt (L2.CX X.prog X.w) X σ (E σ))
    (ht : eval (.Call (.Attribute o m apos) [] [] pos) X.env = (do
      let ov ← eval o X.env
      standAt apos.atName
      let (f, first) ← holding [ov] (getMethod ov m pl)
      callWith pos f first (backTo pos (starEach [] X.env)) (backToKw pos (keywordEach [] X.env)))) : PE X (.Call (.Attribute o m apos) [] [] pos) (tMS X.K m f sp E ta tNil) := by
  constructor
  intro pins s σ H Q I h
  apply PySem.W.methodCall_KW (pl := pl) _ ht
  refine thn (he.run pins s σ H _ I h) ?_
  rintro u s1 ⟨x, H1, I1, rx, a, C, dx, fs, rfl, ea, c, hm, l, q⟩
  cases (show u = Value.ref a from rx)
  apply getmeth_ok I1 ea c hm l
  refine PySem.W.callWith_K0 (first := [.ref a]) I1.kIn hm.kp (run_G (us := [.ref a]) (vs := [.ref a]) F hr hb (hx σ) I1 (.cons rfl .nil) q)
def gMeth (c m : Str) (n : Nat) (F : FS) (g : M D) (gs : M (List D)) : M D := g.bind fun a => (cellO c a).bind fun nf => ifM (nf.2.lookup m).isNone (gs.bind fun ds => callM n F (a :: ds))
theorem de_meth {c m : Str} {n k : Nat} {F : FS} {o e : Expr} {es : List Expr} {apos pos : Pos} {pl : Sem Bool} {g : M D} {gs : M (List D)} (C : ClsF X c) (f : MFn X c m n k F) (tk : PassW X W) (hr : RmG k X.A) (ho : DE X W o g) (ha : DA X W (e :: es) gs)
    (hst : starEach (e :: es) X.env = (false, eval e X.env) :: starEach es X.env := by rfl) (hpl : (backTo pos (starEach es X.env)).any (·.1) = false := by rfl)
    (ht : eval (.Call (.Attribute o m apos) (e :: es) [] pos) X.env = (do
      let ov ← eval o X.env
      standAt apos.atName
      let (f, first) ← holding [ov] (getMethod ov m pl)
      callWith pos f first (backTo pos (starEach (e :: es) X.env)) (backToKw pos (keywordEach [] X.env))) := by rfl) : DE X W (.Call (.Attribute o m apos) (e :: es) [] pos) (gMeth c m n F g gs) := by
  obtain ⟨f, fd, ps, hps, G, hb, hm⟩ := f.ex
  obtain ⟨t, p, q⟩ := ho.run
  obtain ⟨ts, pt, qs⟩ := ha.run
  refine ⟨_, pe_mS (E := fun σ cls d H' => W cls d σ H') p G hr hb tk pt hst hpl ht, fun w σ ρ Q r h => q w σ ρ _ r (Ok1.imp (Ok1.bind h) fun w1 ρ1 a e1 r1 h1 v rv => ?_)⟩
  obtain ⟨j, fs, b, vs, D, dx, rfl, rfl, q1, q2, q3, q4, q5, q6, h1⟩ := ok_cellO r1 rv h1
  obtain ⟨cc, h1⟩ := ifM_ok h1
  refine ⟨b, D, dx, vs, rfl, q4, C.cls D q3, hm D q3, (rf_lookup q5).1 (Option.isNone_iff_eq_none.mp cc), qs w1 σ ρ1 _ r1 (Ok1.imp (Ok1.bind h1) fun w2 ρ2 ds e2 r2 h2 us ru => ?_)⟩
  exact call_sp r2 (.cons (e2.r rv) ru.rls) h2
theorem de_meth0 {c m : Str} {n k : Nat} {F : FS} {o : Expr} {apos pos : Pos} {pl : Sem Bool} {g : M D} (C : ClsF X c) (f : MFn X c m n k F) (tk : PassW X W) (hr : RmG k X.A) (ho : DE X W o g)
    (ht : eval (.Call (.Attribute o m apos) [] [] pos) X.env = (do
      let ov ← eval o X.env
      standAt apos.atName
      let (f, first) ← holding [ov] (getMethod ov m pl)
      callWith pos f first (backTo pos (starEach [] X.env)) (backToKw pos (keywordEach [] X.env))) := by rfl) : DE X W (.Call (.Attribute o m apos) [] [] pos) (gMeth c m n F g (M.ret [])) := by
  obtain ⟨f, fd, ps, hps, G, hb, hm⟩ := f.ex
  obtain ⟨t, p, q⟩ := ho.run
  refine ⟨_, pe_mS0 (E := fun σ cls d H' => W cls d σ H') p G hr hb tk ht, fun w σ ρ Q r h => q w σ ρ _ r (Ok1.imp (Ok1.bind h) fun w1 ρ1 a e1 r1 h1 v rv => ?_)⟩
  obtain ⟨j, fs, b, vs, D, dx, rfl, rfl, q1, q2, q3, q4, q5, q6, h1⟩ := ok_cellO r1 rv h1
  obtain ⟨cc, h1⟩ := ifM_ok h1
  exact ⟨b, D, dx, vs, rfl, q4, C.cls D q3, hm D q3, (rf_lookup q5).1 (Option.isNone_iff_eq_none.mp cc), call_sp (ds := [.loc j]) r1 (.cons rv .nil) h1⟩

/-! ### new objects -/
structure MkF (X : Cx) (c : Str) (n k : Nat) (F : FS) : Prop where
  ex : ∃ C f fd ps, ps.length = n ∧ X.mg c = some (.ref C) ∧ Mk X.K C f ∧ FnG X.prog X.w X.K X.mg X.base (L2.CX X.prog X.w) k f fd ps (spD X.K X.mg n F) ∧ Binds X.K fd ps []
theorem mk_run {pins : List (Addr × Obj)} {σ : L2.St} {H : Hp} {s : Shared} {Q : VK} {us : List Value} {vs : List V} {C f : Addr} {fd : FuncData} {ps : List Str} {k : Nat} {sp : Sp} {E : XK} (M : Mk X.K C f) (F : FnG X.prog X.w X.K X.mg X.base (L2.CX X.prog X.w) k f fd ps sp) (hr : RmG (k + 1) X.A)
    (hb : Binds X.K fd ps []) (hx : PassesAt (L2.CX X.prog X.w) X σ E) (I : Inv X pins σ H s) (r : Vals vs us)
    (h : ∀ x dx, H x = none → H dx = none → dx ≠ x → sp (.ref x :: vs) (upd (upd H dx (.own x)) x (.ins C dx [])) (fun v H2 => v = .non ∧ Q (.ref x) H2) E) : wpAny (model X.prog X.w) X.A (call (.ref C) us) (EP X pins σ Q) X.xe s := by
  have z := h (s.heap.objs.size + 1) s.heap.objs.size (I.hok.fresh (Nat.le_succ _)) (I.hok.fresh (Nat.le_refl _)) (Nat.ne_of_lt (Nat.lt_succ_self _))
  have J := Inv.made (C := C) I
  have rr : Vals (V.ref (s.heap.objs.size + 1) :: vs) (Value.ref (s.heap.objs.size + 1) :: us) := .cons rfl r
  have bb := hb _ (Value.ref (s.heap.objs.size + 1) :: us) J.kIn (by rw [List.append_nil, ← rr.length]; exact F.len _ _ _ _ z)
  rw [List.append_nil] at bb
  refine wpAny_call (make_map (f := f) I.kIn M.makes M.init (beq_iff_eq.mp M.fn) ?_)
  refine codeAny_mono (F.run _ X.stack _ _ _ _ _ _ E (hr.make C us []) (J.env0.make C us []) bb rr z) ?_
  intro fl s' q
  cases fl with
  | error e => exact hx pins _ _ e s' J q
  | ok fl =>
    cases fl with
    | next => exact q.elim
    | brk => exact q.elim
    | cont => exact q.elim
    | ret u =>
      obtain ⟨v, H', J', rv, rfl, q'⟩ := J.after q
      exact ⟨rv, V.ref _, H', J', rfl, q'⟩
def tMk (C : Addr) (sp : Sp) (E : L2.St → XK) (t : TA) : TE := fun σ H Q => t σ H fun vs H1 => ∀ x dx, H1 x = none → H1 dx = none → dx ≠ x → sp (.ref x :: vs) (upd (upd H1 dx (.own x)) x (.ins C dx [])) (fun v H2 => v = .non ∧ Q (.ref x) H2) (E σ)
theorem pe_mk {x : Str} {p pos : Pos} {e : Expr} {es : List Expr} {C f : Addr} {fd : FuncData} {ps : List Str} {k : Nat} {sp : Sp} {E : L2.St → XK} {t : TA} (M : Mk X.K C f) (F : FnG X.prog X.w X.K X.mg X.base (L2.CX X.prog X.w) k f fd ps sp) (hr : RmG (k + 1) X.A) (hg : Gl X x) (hm : X.mg x = some (.ref C)) (hb : Binds X.K fd ps [])
    (hx : ∀ σ, PassesAt (L2.CX X.prog X.w) X σ (E σ)) (ha : PA X (e :: es) t) (hdb : (x == ("__debug__" : Str)) = false) (he : starEach (e :: es) X.env = (false, eval e X.env) :: starEach es X.env) (hpl : (backTo pos (starEach es X.env)).any (·.1) = false) : PE X (.Call (.Name x p) (e :: es) [] pos) (tMk C sp E t) := by
  constructor
  intro pins s σ H Q I h
  apply wpAny_Call_Name_kw
  refine ld_glob I hg hm ?_ hdb
  refine PySem.W.callWith_K (h₀ := X.base) I.ok.mod.kin M.kp (thn (ha.run pos pins s σ H _ I h) ?_) he hpl
  rintro us s1 ⟨vs, H1, I1, r, q⟩
  exact ⟨I1.kIn, mk_run M F hr hb (hx σ) I1 r q⟩
def newO (c : Str) : M Nat := fun ρ => .ok ρ.m.length ⟨ρ.s, ρ.m ++ [.obj c []]⟩
def madeO (j : Nat) (r : D) : M D := match r with
  | .p .none => M.ret (.loc j)
  | _ => M.bad
def gMake (c : Str) (n : Nat) (F : FS) (gs : M (List D)) : M D := gs.bind fun ds => (newO c).bind fun j => (callM n F (.loc j :: ds)).bind (madeO j)
theorem de_make {c : Str} {n k : Nat} {F : FS} {p pos : Pos} {e : Expr} {es : List Expr} {gs : M (List D)} (f : MkF X c n k F) (tk : PassW X W) (hr : RmG (k + 1) X.A) (ha : DA X W (e :: es) gs) (hg : Gl X c := by rfl)
    (hdb : (c == ("__debug__" : Str)) = false := by decide) (he : starEach (e :: es) X.env = (false, eval e X.env) :: starEach es X.env := by rfl) (hpl : (backTo pos (starEach es X.env)).any (·.1) = false := by rfl) :
    DE X W (.Call (.Name c p) (e :: es) [] pos) (gMake c n F gs) := by
  obtain ⟨C, f, fd, ps, hps, hm, K, G, hb⟩ := f.ex
  obtain ⟨ts, pt, qs⟩ := ha.run
  refine ⟨_, pe_mk (E := fun σ cls d H' => W cls d σ H') K G hr hg hm hb tk pt hdb he hpl, fun w σ ρ Q r h => qs w σ ρ _ r (Ok1.imp (Ok1.bind h) fun w1 ρ1 ds e1 r1 h1 vs rvs => ?_)⟩
  intro x dx n1 n2 ne
  have n3 : (w1.put dx (.own x)).H x = none := by
    show upd w1.H dx (.own x) x = none
    rw [upd_ne (Ne.symm ne)]; exact n1
  have rp := r1.put (o := .own x) n2
  have ro : RelX X ((w1.put dx (.own x)).own x (.ins C dx [])) σ ⟨ρ1.s, ρ1.m ++ [.obj c []]⟩ := ⟨Rel.own rp.1 n3 ⟨C, dx, [], hm, upd_same, .nil⟩, rp.2⟩
  have ex : Ext w1 ((w1.put dx (.own x)).own x (.ins C dx [])) := (Ext.put n2).trans (Ext.own n3)
  have hθ : ((w1.put dx (.own x)).own x (.ins C dx [])).θ[ρ1.m.length]? = some x := by
    show (w1.θ ++ [x])[ρ1.m.length]? = some x
    rw [← r1.1.len, List.getElem?_append_right (Nat.le_refl _), Nat.sub_self]; rfl
  have h1 : Ok1 X W w1 σ (((callM n F (.loc ρ1.m.length :: ds)).bind (madeO ρ1.m.length)) ⟨ρ1.s, ρ1.m ++ [.obj c []]⟩) (fun w' _ d => ∀ v, RX X w' v d → Q v w'.H) := h1
  refine call_sp (ds := .loc ρ1.m.length :: ds) ro (.cons ⟨x, hθ, rfl⟩ (rvs.ext ex).rls) (Ok1.imp (Ok1.bind (h1.later ex)) fun w2 ρ2 d e2 r2 h2 v rv => ?_)
  cases d with
  | loc _ => exact h2.elim
  | nm _ => exact h2.elim
  | scr _ => exact h2.elim
  | p y =>
    cases y with
    | none =>
      refine ⟨by cases (show RD X.K w2.Z v .none from rv); rfl, ?_⟩
      exact h2 w2 (Ext.refl w2) r2 (.ref x) ⟨x, pre_get e2.pre hθ, rfl⟩
    | bool _ => exact h2.elim
    | int _ => exact h2.elim
    | str _ => exact h2.elim
    | list _ => exact h2.elim
    | tuple _ => exact h2.elim
    | dict _ => exact h2.elim

/-! ### isinstance, repr, str -/
def rIsa (K : PySem.W.Frag) (T : String) (f : PyData → Bool) : List V → Hp → VK → Prop := fun xs H Q => ∃ x d, xs = [x, .ty T] ∧ Dp K H x d ∧ Q (.bl (f d)) H
theorem call_isaG {T : String} {f : PyData → Bool} (h : ∀ (s : Shared) (v : Value) (d : PyData) (as : List Addr) (Q : Value → Shared → Prop), Reads s.heap v d as → (∀ tk, s.toks ≤ tk → Q (.bool (f d)) { s with toks := tk }) → wpAny (model X.prog X.w) X.A (call (.builtin "isinstance") [v, .type T]) Q X.xe s) :
    CallR X (.builtin "isinstance") (rIsa X.K T f) := by
  intro pins s σ H xs us Q I r ⟨x, d, e, hd, q⟩
  subst e
  obtain ⟨u1, u2, rfl, r1, r2⟩ := vals2 r
  cases (show u2 = Value.type T from r2)
  obtain ⟨as, rd⟩ := Dp.reads I d x u1 hd r1
  exact h s u1 d as _ rd fun tk _ => ⟨.bl (f d), H, I.tok tk, rfl, q⟩
theorem call_isa_int : CallR X (.builtin "isinstance") (rIsa X.K "int" PyData.isInt) := call_isaG fun s v d as Q r h => PySem.W.isinstance_int_data r h
theorem call_isa_str : CallR X (.builtin "isinstance") (rIsa X.K "str" PyData.isStr) := call_isaG fun s v d as Q r h => PySem.W.isinstance_str_data r h
theorem call_isa_tuple : CallR X (.builtin "isinstance") (rIsa X.K "tuple" PyData.isTuple) := call_isaG fun s v d as Q r h => PySem.W.isinstance_tuple_data r h
theorem call_isa_list : CallR X (.builtin "isinstance") (rIsa X.K "list" PyData.isList) := call_isaG fun s v d as Q r h => PySem.W.isinstance_list_data r h
theorem call_isa_bool : CallR X (.builtin "isinstance") (rIsa X.K "bool" PyData.isBool) := call_isaG fun s v d as Q r h => PySem.W.isinstance_bool_data r h
def fIsa (f : PyData → Bool) (d : D) : M D := (peek d).bind fun x => M.ret (.p (.bool (f x)))
theorem de_isa {T : String} {x : Str} {f : PyData → Bool} {p p2 pos : Pos} {e : Expr} {g : M D} (hc : CallR X (.builtin "isinstance") (rIsa X.K T f)) (he : DE X W e g) (hm : X.mg "isinstance" = none) (hm2 : X.mg x = none) (hv : bootBuiltins x = some (.type T) := by decide +kernel)
    (hg : Gl X "isinstance" := by rfl) (hg2 : Gl X x := by rfl) (hn : x ≠ "__name__" := by decide) (hdb : (x == ("__debug__" : Str)) = false := by decide)
    (hs1 : starEach [e, .Name x p2] X.env = (false, eval e X.env) :: starEach [.Name x p2] X.env := by rfl) (hs2 : starEach [.Name x p2] X.env = (false, eval (.Name x p2) X.env) :: starEach [] X.env := by rfl)
    (hpl : (backTo pos (starEach [.Name x p2] X.env)).any (·.1) = false := by rfl) : DE X W (.Call (.Name "isinstance" p) [e, .Name x p2] [] pos) (g.bind (fIsa f)) := by
  obtain ⟨t, pt, q⟩ := he.run
  refine ⟨_, pe_callB hc hg hm (by decide +kernel) (pa_cons pt (pa_cons (pe_bltn (v := .ty T) hg2 hm2 hv rfl hn hdb) pa_nil hs2) hs1) (by decide) (by decide) hs1 hpl, fun w σ ρ Q r h => q w σ ρ _ r (Ok1.imp (Ok1.bind h) fun w1 ρ1 d e1 r1 h1 v rv => ?_)⟩
  obtain ⟨y, hy, h1⟩ := Ok1.peek r1 rv h1
  exact ⟨v, y, rfl, hy.dp, h1 w1 (Ext.refl w1) r1 _ (.bl _)⟩
/-- repr of data, below no guard -/
def rRepr (K : PySem.W.Frag) : List V → Hp → VK → Prop := fun xs H Q => ∃ x d, xs = [x] ∧ Dp K H x d ∧ d.hasDict = false ∧ d.showable = true ∧ d.depth ≤ lowD ∧ d.shown.length ≤ sizeLine ∧ Q (.str d.shown) H
theorem call_reprP (hg : X.A.guards = some []) (hu : X.A.units + 64 < cLine) : CallR X (.builtin "repr") (rRepr X.K) := by
  intro pins s σ H xs us Q I r ⟨x, d, e, hd, nd, sh, dp, sz, q⟩
  subst e
  obtain ⟨u, rfl, r1⟩ := r.one
  obtain ⟨as, rd⟩ := Dp.reads I d x u hd r1
  have big : ∀ a, u = .ref a → wpAny (model X.prog X.w) X.A (call (.builtin "repr") [u]) (EP X pins σ Q) X.xe s := by
    rintro a rfl
    exact repr_of_reads' rd sh (PyData.noDict_hsm nd) hg (by unfold lowD at dp; omega) (fun _ _ e => e) (fun h' u tk hk => ⟨.str _, H, I.kept (t' := tk) hk, ⟨_, rfl⟩, q⟩) sz
  cases hd with
  | non => cases (show u = Value.none from r1); exact PySem.P.repr_of_none ⟨.str _, H, I.tok _, ⟨_, rfl⟩, q⟩
  | bl b => cases (show u = Value.bool b from r1); exact PySem.P.repr_of_bool ⟨.str _, H, I.tok _, ⟨_, rfl⟩, q⟩
  | int i =>
    obtain ⟨t, rfl⟩ := (show ∃ t, u = Value.int i t from r1)
    exact PySem.P.repr_of_int (of_decide_eq_true sh) ⟨.str _, H, I.tok _, ⟨_, rfl⟩, q⟩
  | str y =>
    obtain ⟨t, rfl⟩ := (show ∃ t, u = Value.str y t from r1)
    exact PySem.P.repr_of_str ⟨.str _, H, I.tok _, ⟨_, rfl⟩, q⟩ sz
  | lst _ _ => exact big _ r1
  | tup _ _ => exact big _ r1
def shownM (x : PyData) : M D := ifM (!x.hasDict && x.showable && decide (x.depth ≤ lowD) && decide (x.shown.length ≤ sizeLine)) (M.ret (.p (.str x.shown)))
def cRepr : List D → M D
  | [a] => (peek a).bind shownM
  | _ => M.bad
theorem dc_repr : DCall X W (rRepr X.K) cRepr := by
  intro w σ ρ vs ds Q rr rl q
  cases rl with
  | nil => exact q.elim
  | cons rd rt =>
    cases rt with
    | cons _ _ => exact q.elim
    | nil =>
      obtain ⟨x, hx, q⟩ := Ok1.peek rr rd q
      obtain ⟨c, q⟩ := ifM_ok q
      simp only [Bool.and_eq_true, decide_eq_true_eq, Bool.not_eq_true'] at c
      exact ⟨_, x, rfl, hx.dp, c.1.1.1, c.1.1.2, c.1.2, c.2, q w (Ext.refl w) rr _ (.str _)⟩
/-- str of any int of at most 4300 figures, where the limit stands as it was -/
theorem call_strB (hc : X.calm = true) (hd : PySem.W.nsIn X.K cStatics "sys.int_max_str_digits" = some none) : CallR X (.type "str") (fun xs H Q => ∃ i, xs = [.int i] ∧ i.natAbs < 10 ^ 4300 ∧ Q (.str (toString i)) H) := by
  intro pins s σ H xs us Q I r ⟨i, e, hz, q⟩
  subst e
  obtain ⟨u, rfl, t, rfl⟩ := vals1 r
  obtain ⟨mc, n1, _⟩ := I.ok.mod.nolimit
  have n2 := n1.keeps fun b o e => (I.bs b o e).1
  refine PyProof.Rows.str_of_int_or (I.ok.hd hc) ⟨mc, n2, PySem.W.ns_none_of I.kIn n2 hd⟩ (fun _ => ⟨.str _, H, I.tok _, ⟨_, rfl⟩, q⟩) fun z => absurd hz (Nat.not_lt.mpr z)
def pStrB : PyData → Option PyData
  | .int i => if i.natAbs < 10 ^ 4300 then some (.str (toString i)) else none
  | _ => none
theorem pStrB_v (d z : PyData) (h : pStrB d = some z) : ∃ v, vof z = some v := by
  cases d with
  | int i =>
    have h : (if i.natAbs < 10 ^ 4300 then some (PyData.str (Str.ofString (toString i))) else none) = some z := h
    by_cases c : i.natAbs < 10 ^ 4300
    · rw [if_pos c] at h; cases h; exact ⟨_, rfl⟩
    · rw [if_neg c] at h; cases h
  | _ => cases h
theorem call_strBP (hc : X.calm = true) (hd : PySem.W.nsIn X.K cStatics "sys.int_max_str_digits" = some none) : CallR X (.type "str") (rC1 X.K pStrB) := by
  intro pins s σ H xs us Q I r ⟨x, d, z, v, e, hd', hz, hv, q⟩
  subst e
  cases hd' with
  | int i =>
    have hz : (if i.natAbs < 10 ^ 4300 then some (PyData.str (Str.ofString (toString i))) else none) = some z := hz
    by_cases c : i.natAbs < 10 ^ 4300
    · rw [if_pos c] at hz; cases hz; cases hv
      exact call_strB hc hd pins s σ H _ us Q I r ⟨i, rfl, c, q⟩
    · rw [if_neg c] at hz; cases hz
  | non => cases hz
  | bl _ => cases hz
  | str _ => cases hz
  | lst _ _ => cases hz
  | tup _ _ => cases hz
end
end DL
namespace DL
open PySem PySem.Spec PyProof.Rows L2
section
variable {X : Cx} {W : WX}
/-! ### raise -/
structure ExF (X : Cx) (c : Str) : Prop where
  ex : ∃ C B newId initId bmB, ExcBaseFacts B newId initId bmB ∧ X.mg c = some (.ref C) ∧ PySem.W.excIn X.K C bmB newId = true ∧ PySem.W.keepIn X.K (.ref C) = true ∧ Raises X (.ref C)
def gRaise (c : Str) : M Fl := fun ρ => .er ⟨c, none⟩ ρ
theorem ds_raise {c m : Str} {j : Nat} {p p2 pos pos' : Pos} (hc : X.calm = true) (tk : Takes X W) (F : ExF X c) (hg : Gl X c := by rfl) (hdb : (c == ("__debug__" : Str)) = false := by decide) :
    DS X W (.Raise (some (.Call (.Name c p) [.Constant (.str m) j p2] [] pos)) none pos') (gRaise c) := by
  obtain ⟨C, B, nw, ini, bm, F, gC, q, kC, r⟩ := F.ex
  exact ⟨_, ps_raise hc tk (pmk_own F q gC kC r hg hdb), fun w σ ρ D rr h => h w σ (.ref C) none (Ext.refl w) rr ⟨⟨C, gC, rfl⟩, rfl⟩⟩
/-- what the own __init__ of an error class does: one attribute -/
def spI (f : Str) (C : Addr) : Sp := fun vs H Q _ => ∃ a y, vs = [.ref a, y] ∧ H a = some (exo a C none) ∧ ∀ dx, H dx = none → dx ≠ a → Q .non (upd (upd H dx (exd dx [(f, y)])) a (exo a C (some dx)))
structure ExI (X : Cx) (c f : Str) (k : Nat) : Prop where
  ex : ∃ C fI fd ps, X.mg c = some (.ref C) ∧ OexC X.K C ∧ PySem.W.findIn X.K (.ref C) "__init__" = some (some (.ref fI)) ∧ PySem.W.typeIn X.K (.ref fI) = some (.type "function") ∧
    FnOk X.prog X.w X.K X.mg X.base (L2.CX X.prog X.w) k fI fd ps (spI f C) ∧ Binds X.K fd ps []
def gRaise1 (c f : Str) (g : M D) : M Fl := g.bind fun d => (asP d).bind fun x ρ => .er ⟨c, some (f, x)⟩ ρ
theorem hp_exc {H : Hp} {a dx : Addr} {o1 o2 o3 o4 : HO} (na : H a = none) (ne : dx ≠ a) : upd (del (upd (upd (upd H a o1) dx o2) a o3) a) dx o4 = upd H dx o4 := by
  funext b
  by_cases h1 : b = dx
  · subst h1; rw [upd_same, upd_same]
  · rw [upd_ne h1, upd_ne h1]
    by_cases h2 : b = a
    · subst h2; rw [del_same, na]
    · rw [del_ne h2, upd_ne h2, upd_ne h1, upd_ne h2]
theorem ds_raise1 {c f : Str} {k : Nat} {e : Expr} {p pos pos' : Pos} {g : M D} (hc : X.calm = true) (tk : Takes X W) (F : ExI X c f k) (hr : RmG (k + 1) X.A) (he : DE X W e g) (hg : Gl X c := by rfl) (hdb : (c == ("__debug__" : Str)) = false := by decide)
    (hs : starEach [e] X.env = (false, eval e X.env) :: starEach [] X.env := by rfl) (hpl : (backTo pos (starEach [] X.env)).any (·.1) = false := by rfl) :
    DS X W (.Raise (some (.Call (.Name c p) [e] [] pos)) none pos') (gRaise1 c f g) := by
  obtain ⟨C, fI, fd, ps, gC, T, iC, tI, F1, hb⟩ := F.ex
  obtain ⟨t, pt, q⟩ := he.run
  refine ⟨_, ps_raise hc tk (pmk_oex T iC tI F1 hr.room hb .nil (fun _ _ _ _ _ _ _ z => ?_) hg gC (pa_cons pt pa_nil hs) hdb hs hpl), fun w σ ρ D r h => q w σ ρ _ r (Ok1.imp (Ok2.ex (Ok2.bind h)) fun w1 ρ1 d e1 r1 h1 v rv => ?_)⟩
  · obtain ⟨_, _, _, _, _, _, _, _, _, _, _, _, z⟩ := z; exact z.elim
  · cases d with
    | loc _ => exact h1.elim
    | nm _ => exact h1.elim
    | scr _ => exact h1.elim
    | p x =>
      refine ⟨by show 1 ≤ 1000; omega, fun a na => ⟨a, v, rfl, upd_same, fun dx n ne => ⟨rfl, dx, [(f, v)], upd_same, by rw [upd_ne ne, upd_same], ?_, ?_⟩⟩⟩
      · rw [upd_ne ne] at n; exact n
      · rw [upd_ne ne] at n
        show W (.ref C) (some dx) σ _
        rw [hp_exc na ne]
        exact h1 (w1.put dx (.xd [(f, v)])) σ (.ref C) (some dx) (Ext.put n) (r1.put n) ⟨⟨C, gC, rfl⟩, dx, v, rfl, upd_same, fun z => put_nf (w := w1) n z, (Ext.put n).dp rv⟩
/-! ### try -/
def tS (X : Cx) (W : WX) (g : M Fl) : TS := fun D σ H => ∃ (w : Wd) (ρ : Sg), w.H = H ∧ RelX X w σ ρ ∧ Ok2 X W w (g ρ) (fun w' σ' _ f => OkF X D w' σ' f)
theorem DSs.can {st : List Stmt} {g : M Fl} (h : DSs X W st g) : PSs X st (tS X W g) := by
  obtain ⟨t, p, q⟩ := h.run
  refine ⟨fun pins s σ H D I hw => ?_⟩
  obtain ⟨w, ρ, rfl, r, hw⟩ := hw
  exact p.run pins s σ w.H D I (q w σ ρ D r hw)
/-- an except suite: what it does at an error -/
structure DSu (X : Cx) (i : Option Nat) (st : List Stmt) (h : Er → M Fl) : Prop where
  run : ∃ ts : Addr → Value → Option Addr → TS, (∀ (a : Addr) (oe : Obj) (cls : Value) (d : Option Addr) (pn : List (Addr × Obj)), Zc cls d oe → (∃ vs, oe.data = .fields vs) → PSs (X.suite a ((a, oe) :: pn)) st (ts a cls d)) ∧
    ∀ (w : Wd) (σ : L2.St) (ρ : Sg) (D : Ends) (ε : Er) (cls : Value) (d : Option Addr) (a : Addr), RelX X w σ ρ → ErrR X.K X.mg w ε cls d → w.H a = none → (∀ j, i = some j → σ[j]? = some (some (.ref a))) →
      Ok2 X W0 w (h ε ρ) (fun w' σ' _ f => OkF X D w' σ' f) → ts a cls d D σ w.H
theorem su_of {st : List Stmt} {g : M Fl} {i : Option Nat} (h : ∀ (a : Addr) (oe : Obj) (pn : List (Addr × Obj)), DSs (X.suite a ((a, oe) :: pn)) W0 st g) : DSu X i st (fun _ => g) :=
  ⟨fun _ _ _ => tS X W0 g, fun a oe cls d pn _ _ => (h a oe pn).can, fun w σ ρ D ε cls d a r _ _ _ hw => ⟨w, ρ, rfl, r, hw⟩⟩
def gTry (gb : M Fl) (mt : Str → Option Bool) (h : Er → M Fl) : M Fl := fun ρ => match gb ρ with
  | .er ε ρ' => (match mt ε.cls with
    | some true => (match h ε ρ' with
      | .er _ _ => .bad
      | r => r)
    | some false => .er ε ρ'
    | none => .bad)
  | r => r
/-- of each class named: whether the clause for cn catches it -/
def MtF (X : Cx) (cn : Str) (mt : Str → Option Bool) : Prop := ∀ C, X.mg cn = some (.ref C) → ∀ e b, mt e = some b → ∀ Ce, X.mg e = some (.ref Ce) → PySem.W.exmOne X.K (.ref Ce) (.ref C) = some b
theorem ds_try {cn : Str} {body suite : List Stmt} {b₀ : Stmt} {np pos pos' : Pos} {gb : M Fl} {mt : Str → Option Bool} {h : Er → M Fl} (hs : X.stack = X.env :: X.outer) (hf : X.env.frame = some X.env.locals) (hm : ∃ C, X.mg cn = some (.ref C)) (hmt : MtF X cn mt) (tk : Takes X W)
    (hb : ∀ (W' : WX) (pn : List (Addr × Obj)) (xe : Value → Shared → Prop), Takes (X.tr pn xe) W' → PassesOwn (model X.prog X.w) X.A X.env xe → DSs (X.tr pn xe) W' body gb) (hsu : DSu X none (b₀ :: suite) h)
    (hg : Gl X cn := by rfl) (hdb : (cn == ("__debug__" : Str)) = false := by decide) : DS X W (.Try body [.ExceptHandler (some (.Name cn np)) none (b₀ :: suite) pos'] [] [] pos) (gTry gb mt h) := by
  obtain ⟨C, hC⟩ := hm
  obtain ⟨ts, ps, qs⟩ := hsu.run
  refine ⟨_, ps_try_only (tb := fun W' => tS X W' gb) (ts := ts) (Wout := W) (c := .ref C) hs hf ⟨hg, hdb, .inl hC⟩ tk (fun W' pn xe t' p' => (hb W' pn xe t' p').can) ps, fun w σ ρ D r hw => ⟨w, ρ, rfl, r, ?_⟩⟩
  unfold gTry at hw
  cases hr : gb ρ with
  | bad => rw [hr] at hw; exact hw.elim
  | ok f ρ' => rw [hr] at hw; exact hw
  | er ε ρ' =>
    rw [hr] at hw
    have hw : Ok2 X W w (match mt ε.cls with
      | some true => (match h ε ρ' with | .er _ _ => .bad | r => r)
      | some false => .er ε ρ'
      | none => .bad) (fun w' σ' _ f => OkF X D w' σ' f) := hw
    intro w' σ' cls dx e1 r1 er
    obtain ⟨⟨Ce, g1, rfl⟩, e2⟩ := id er
    cases hb' : mt ε.cls with
    | none => rw [hb'] at hw; exact hw.elim
    | some b =>
      rw [hb'] at hw
      refine ⟨b, hmt C hC _ b hb' Ce g1, fun z a na => ?_, fun z => ?_⟩
      · subst z
        have hw : Ok2 X W w (match h ε ρ' with | .er _ _ => .bad | r => r) (fun w' σ' _ f => OkF X D w' σ' f) := hw
        refine qs w' σ' ρ' D ε _ dx a r1 er na (fun j z => nomatch z) ?_
        have hw := Ok2.later e1 hw
        revert hw
        cases h ε ρ' with
        | bad => exact id
        | er _ _ => exact fun z => z.elim
        | ok f ρ2 => exact id
      · subst z
        exact hw w' σ' _ dx e1 r1 er
def onlyRt (r : Rs Fl) : Rs Fl := match r with
  | .ok (.rt d) ρ2 => .ok (.rt d) ρ2
  | _ => .bad
def gTryAs (i : Nat) (gb : M Fl) (mt : Str → Option Bool) (h : Er → M Fl) : M Fl := fun ρ => match gb ρ with
  | .er ε ρ' => (match mt ε.cls with
    | some true => if i < ρ'.s.length then onlyRt (h ε ⟨ρ'.s.set i none, ρ'.m⟩) else .bad
    | some false => .er ε ρ'
    | none => .bad)
  | r => r
theorem RelX.blank {w : Wd} {σ : L2.St} {ρ : Sg} (r : RelX X w σ ρ) (i : Nat) (o : Option V) : RelX X w (σ.set i o) ⟨ρ.s.set i none, ρ.m⟩ := by
  obtain ⟨r1, r2⟩ := r
  refine ⟨⟨fun j d h => ?_, r1.len, r1.cells, r1.nd, r1.alive⟩, by simp [r2]⟩
  have h : (ρ.s.set i none)[j]? = some (some d) := h
  by_cases e : i = j
  · subst e
    by_cases hl : i < ρ.s.length
    · rw [List.getElem?_set_self hl] at h; cases h
    · rw [List.getElem?_eq_none (by rw [List.length_set]; omega)] at h; cases h
  · rw [List.getElem?_set_ne e] at h
    rw [List.getElem?_set_ne e]
    exact r1.slots j d h
theorem ds_tryAs (i : Nat) {cn n : Str} {body suite : List Stmt} {b₀ : Stmt} {np pos pos' : Pos} {gb : M Fl} {mt : Str → Option Bool} {h : Er → M Fl} (hs : X.stack = X.env :: X.outer) (hf : X.env.frame = some X.env.locals) (hN : X.N.Nodup) (hm : ∃ C, X.mg cn = some (.ref C)) (hmt : MtF X cn mt) (tk : Takes X W)
    (hb : ∀ (W' : WX) (pn : List (Addr × Obj)) (xe : Value → Shared → Prop), Takes (X.tr pn xe) W' → PassesOwn (model X.prog X.w) X.A X.env xe → DSs (X.tr pn xe) W' body gb) (hsu : DSu X (some i) (b₀ :: suite) h)
    (hi : X.N[i]? = some n := by rfl) (hln : X.env.kindOf n = some .local := by rfl)
    (hg : Gl X cn := by rfl) (hdb : (cn == ("__debug__" : Str)) = false := by decide) : DS X W (.Try body [.ExceptHandler (some (.Name cn np)) (some n) (b₀ :: suite) pos'] [] [] pos) (gTryAs i gb mt h) := by
  obtain ⟨C, hC⟩ := hm
  obtain ⟨ts, ps, qs⟩ := hsu.run
  refine ⟨_, ps_try_as (tb := fun W' => tS X W' gb) (ts := ts) (Wout := W) (c := .ref C) hs hf hN hi hln ⟨hg, hdb, .inl hC⟩ tk (fun W' pn xe t' p' => (hb W' pn xe t' p').can) ps, fun w σ ρ D r hw => ⟨w, ρ, rfl, r, ?_⟩⟩
  unfold gTryAs at hw
  cases hr : gb ρ with
  | bad => rw [hr] at hw; exact hw.elim
  | ok f ρ' => rw [hr] at hw; exact hw
  | er ε ρ' =>
    rw [hr] at hw
    have hw : Ok2 X W w (match mt ε.cls with
      | some true => if i < ρ'.s.length then onlyRt (h ε ⟨ρ'.s.set i none, ρ'.m⟩) else .bad
      | some false => .er ε ρ'
      | none => .bad) (fun w' σ' _ f => OkF X D w' σ' f) := hw
    intro w' σ' cls dx e1 r1 er
    obtain ⟨⟨Ce, g1, rfl⟩, e2⟩ := id er
    cases hb' : mt ε.cls with
    | none => rw [hb'] at hw; exact hw.elim
    | some b =>
      rw [hb'] at hw
      refine ⟨b, hmt C hC _ b hb' Ce g1, fun z a na => ?_, fun z => ?_⟩
      · subst z
        have hw : Ok2 X W w (if i < ρ'.s.length then onlyRt (h ε ⟨ρ'.s.set i none, ρ'.m⟩) else .bad) (fun w' σ' _ f => OkF X D w' σ' f) := hw
        by_cases hl : i < ρ'.s.length
        · rw [if_pos hl] at hw
          refine qs w' (σ'.set i (some (.ref a))) ⟨ρ'.s.set i none, ρ'.m⟩ _ ε _ dx a (r1.blank i _) er na (fun j z => ?_) ?_
          · cases z
            exact List.getElem?_set_self (by rw [r1.2]; exact hl)
          · have hw := Ok2.later e1 hw
            revert hw
            unfold onlyRt
            cases h ε ⟨ρ'.s.set i none, ρ'.m⟩ with
            | bad => exact id
            | er _ _ => exact fun z => z.elim
            | ok f ρ2 =>
              cases f with
              | rt d => exact fun h w2 σ2 e2 r2 => h w2 σ2 e2 r2
              | nx => exact fun z => z.elim
              | bk => exact fun z => z.elim
              | ct => exact fun z => z.elim
        · rw [if_neg hl] at hw; exact hw.elim
      · subst z
        exact hw w' σ' _ dx e1 r1 er
/-- return [text, error.f] -/
def hTextFld (c f : Str) (z : Str) (ε : Er) : M Fl := match ε.pay with
  | some (f', x) => if ε.cls = c ∧ f' = f then M.ret (.rt (.p (.list [.str z, x]))) else M.bad
  | none => M.bad
theorem su_textFld {i j : Nat} {c f z n : Str} {np p p2 pos pos' : Pos} (hx : ∀ C, X.mg c = some (.ref C) → XfC X.K C ∧ PySem.W.findIn X.K (.ref C) f = some none) (hN : X.N[i]? = some n := by rfl) (hv : Vis X.env.scope n := by first | exact Or.inl rfl | exact Or.inr (Or.inl rfl) | exact Or.inr (Or.inr rfl))
    (hd : (n == ("__debug__" : Str)) = false := by decide) (hcd : (n == ("__classdict__" : Str)) = false := by decide) (hb : attributeBase (.Name n np) f X.env (eval (.Name n np) X.env) = eval (.Name n np) X.env := by rfl)
    (hs1 : starEach [.Constant (.str z) j p, .Attribute (.Name n np) f p2] X.env = (false, eval (.Constant (.str z) j p) X.env) :: starEach [.Attribute (.Name n np) f p2] X.env := by rfl)
    (hs2 : starEach [.Attribute (.Name n np) f p2] X.env = (false, eval (.Attribute (.Name n np) f p2) X.env) :: starEach [] X.env := by rfl) (hcc : ∃ C, X.mg c = some (.ref C)) :
    DSu X (some i) [.Return (some (.List [.Constant (.str z) j p, .Attribute (.Name n np) f p2] pos)) pos'] (hTextFld c f z) := by
  obtain ⟨C, hC⟩ := hcc
  obtain ⟨T, hno⟩ := hx C hC
  refine ⟨fun a cls d => _, fun a oe cls d pn hz hf => pss_cons (ps_ret (pe_lst (pa_cons pe_str (pa_cons (pe_xf T hno hz hf (pe_var hN hv hd hcd) hb) pa_nil hs2) hs1))) pss_nil, fun w σ ρ D ε cls d a r er na hi hw => ?_⟩
  unfold hTextFld at hw
  obtain ⟨⟨Ce, g1, rfl⟩, e2⟩ := er
  cases hp : ε.pay with
  | none => rw [hp] at hw; exact hw.elim
  | some q =>
    obtain ⟨f', x⟩ := q
    rw [hp] at hw e2
    have hw2 : Ok2 X W0 w ((if ε.cls = c ∧ f' = f then M.ret (.rt (.p (.list [.str z, x]))) else M.bad) ρ) (fun w' σ' _ f => OkF X D w' σ' f) := hw
    clear hw
    by_cases hcf : ε.cls = c ∧ f' = f
    · rw [if_pos hcf] at hw2
      obtain ⟨h1, rfl⟩ := hcf
      rw [h1, hC] at g1; cases g1
      obtain ⟨dd, v, rfl, e3, e4, e5⟩ := e2
      refine ⟨.ref a, hi i rfl, rfl, rfl, dd, [(f', v)], v, rfl, e3, by simp [List.lookup], by show 2 ≤ sizeLine; rw [sizeLine_eq]; omega, fun p0 n0 => ?_⟩
      exact hw2 (w.put p0 (.lst [.str z, v])) σ (Ext.put n0) (r.put n0) (.ref p0) (put_lst n0 (.cons (.str z) (.cons e5 .nil)))
    · rw [if_neg hcf] at hw2; exact hw2.elim
end
end DL
namespace DL
open PySem PySem.Spec PyProof.Rows L2
section
variable {X : Cx} {pins : List (Addr × Obj)} {σ : L2.St} {H H' : Hp} {s s' : Shared}
/-! ### an error out of a comprehension -/
theorem hok_drop {P : Program} {w : World} {B G : Heap} {C : Addr} (hok : HOk P w H B) (hC : H C = none) (g : ∀ b o, b ≠ C → B.get? b = some o → G.get? b = some o) : HOk P w H G := fun b u e => by
  refine (hok b u e).stay (fun c v hc q => g c v (fun z => ?_) q) (fun _ q => q) fun _ _ q => q
  rcases hc with hc | hc
  · rw [← hc, z, hC] at e; cases e
  · rw [z, hC] at hc; cases hc
theorem blk_fails {E : XK} {u : Value} {C : Addr} {ce : Env} (hs : X.stack = X.env :: X.outer) (hf : X.env.frame = some X.env.locals) (tk : Takes X (fun cls d _ H => E cls d H)) (I : Inv X pins σ H s) (fp : FpOk X pins H C) (hns : ∃ m, s.heap.Ns C m)
    (hC : C ∉ frs X.stack) (hce : ce.frame = X.env.frame) (hcl : ce.locals = C) (c : L2.CX X.prog X.w X.stack H s E u s') : notedBy (model X.prog X.w) X.A ce (CompFails (model X.prog X.w) X.A X.xe ce) u s' := by
  obtain ⟨a, B, H2, cls, d, rfl, fl, hok, ub, na, os, ag, hE⟩ := c
  have hfr : X.A.frames = some (X.env :: X.outer) := by rw [I.ok.frames, hs]
  obtain ⟨f0, f1, f2, f3, f4, f5⟩ := fp
  obtain ⟨mC, oC, es, ep, eC, dC, cC⟩ := hns
  have hB : B.get? C = some oC := ub.keep C oC eC f0 hC
  have hC2 : H2 C = none := ub.free C oC eC f0
  have n0 : s'.heap.Ns C mC := ⟨oC, es, ep, fl.1 C oC hB, dC, cC⟩
  show wpAny _ _ (noteFrame (.ref a) ce) _ _ _
  rw [noteFrame_env _ hce]
  have fl1 : HandSPX.FlyingZ B (X.env :: X.outer) a (Zc cls d) s'.heap := by rw [← hs]; exact fl
  refine HandSPX.looks_onZ Zc.steady hfr hf fl1 fun h1 held up1 => ?_
  have n1 : h1.Ns C mC := n0.upToSlots up1
  rw [← hcl] at n1
  refine ⟨mC, n1, fun h2 m2 n2 sb => ?_⟩
  rw [hcl] at n2 sb n1
  obtain ⟨b1, b0, ff, oe, vs, T, oT, ts, he, hz, hd, hv1, hnT, hTe, hT, hdT, h3⟩ := held
  have aC : a ≠ C := fun z => by
    obtain ⟨o, _, _, q1, q2, _⟩ := n1
    rw [z, q1] at he; cases he
    rw [q2] at hd; cases hd
  have tC : T ≠ C := fun z => by
    obtain ⟨o, _, _, q1, q2, _⟩ := n1
    rw [z, q1] at hT; cases hT
    rw [q2] at hdT; cases hdT
  have hide : ∀ {h : Heap} {b : Addr} {o : Obj}, (PySem.W.hideAll h [C]).get? b = some o → b ≠ C ∧ h.get? b = some o := fun {h b o} q => by
    refine ⟨fun z => ?_, PySem.W.of_hideAll _ q⟩
    rw [PySem.W.hideAll_none [C] (by rw [z]; exact List.mem_cons_self)] at q; cases q
  have unhide : ∀ {h : Heap} {b : Addr} {o : Obj}, b ≠ C → h.get? b = some o → (PySem.W.hideAll h [C]).get? b = some o := fun {h b o} nb q => PySem.W.hideAll_get [C] q (by simpa using nb)
  have ff2 := funFrames_none (B := PySem.W.hideAll B [C]) (Heap.FunFrames.sameBut sb n2 ff) fun L hL => by
    obtain ⟨q, _⟩ := (Heap.FunFrames.sameBut sb n2 ff).mem hL
    cases z : (PySem.W.hideAll B [C]).get? L with
    | none => rfl
    | some o => have := (hide z).2; rw [q] at this; cases this
  have held2 : HandSPX.HeldZ (PySem.W.hideAll B [C]) (X.env :: X.outer) a (Zc cls d) X.env.locals h2 := by
    refine ⟨fun b o q => ?_, ?_, ff2, oe, vs, T, oT, ts, (sb.2 a aC).trans he, hz, hd, hv1, ?_, hTe, (sb.2 T tC).trans hT, hdT, h3⟩
    · obtain ⟨nb, q⟩ := hide q
      exact (sb.2 b nb).trans (b1 b o q)
    · cases z : (PySem.W.hideAll B [C]).get? a with
      | none => rfl
      | some o => have := (hide z).2; rw [b0] at this; cases this
    · cases z : (PySem.W.hideAll B [C]).get? T with
      | none => rfl
      | some o => have := (hide z).2; rw [hnT] at this; cases this
  unfold PySem.passOn
  refine wpAny_bind (wpAny_field ((sb.2 a aC).trans he) hd hv1 ?_)
  rw [if_neg (show ¬ ((Value.ref T == Value.none) = true) from by simp)]
  rw [hce, hf]
  have last : wpAny (model X.prog X.w) X.A (setFlight (.ref a) (some X.env.locals)) (fun _ s4 => wpAny (model X.prog X.w) X.A (throw (.ref a) : Sem Value) (fun _ _ => False) X.xe s4) X.xe { s' with heap := h2 } := by
    refine HandSPX.setFlight_onZ held2 fun h4 held4 up4 => wpAny_throw (tk _ _ ?_)
    obtain ⟨G, g1, g2⟩ := restrict s'.heap fun b => ((B.get? b).isSome || decide (b ∈ frs X.stack)) && decide (b ≠ C)
    have gB : ∀ b o, b ≠ C → B.get? b = some o → G.get? b = some o := fun b o nb e => by
      rw [g1 b (by simp [e, nb])]; exact fl.1 b o e
    have gF : ∀ b, b ∈ frs X.stack → G.get? b = s'.heap.get? b := fun b hb => g1 b (by
      have : b ≠ C := fun z => hC (z ▸ hb)
      simp [hb, this])
    have og : ∀ b o, G.get? b = some o → b ≠ C ∧ s'.heap.get? b = some o ∧ ((B.get? b).isSome = true ∨ b ∈ frs X.stack) := fun b o e => by
      cases q : (((B.get? b).isSome || decide (b ∈ frs X.stack)) && decide (b ≠ C)) with
      | false => rw [g2 b q] at e; cases e
      | true =>
        rw [g1 b q] at e
        rw [Bool.and_eq_true, Bool.or_eq_true, decide_eq_true_eq, decide_eq_true_eq] at q
        exact ⟨q.2, e, q.1⟩
    refine ⟨a, PySem.W.hideAll B [C], { s with heap := G, gens := s'.gens, drawn := s'.drawn, toks := s'.toks }, pins, σ, H2, cls, d, rfl, ?_, fun b o e hb => ?_, fun b o e hnf => ?_, .inr (.inr (by rw [hs]; exact held4)), na, os, ag, hE⟩
    · refine I.call (ch := [C]) ⟨fun b o e n hb hx => gB b o (by simpa using hx) (ub.keep b o e n hb), fun b o e n hb _ => ?_, fun b o e n _ => ub.free b o e n, fun b o e hx => ?_, ub.tups, ub.frzs, ub.tbls⟩ (hok_drop hok hC2 gB) ag (fun b z => ?_)
      · obtain ⟨sl, q⟩ := ub.slot b o e hb
        exact ⟨sl, by rw [gF b hb]; exact q⟩
      · by_cases hb : b ∈ frs X.stack
        · obtain ⟨sl, q⟩ := ub.slot b o e hb
          exact ⟨_, by rw [gF b hb]; exact q⟩
        · obtain ⟨o', q⟩ := ub.there b o e hb
          exact ⟨o', gB b o' (by simpa using hx) q⟩
      · have : b = C := by simpa using z
        subst this
        exact ⟨f3, f1, f4, f5⟩
    · obtain ⟨nb, e', h⟩ := og b o e
      rcases h with h | h
      · obtain ⟨o', q⟩ := Option.isSome_iff_exists.mp h
        have z := fl.1 b o' q
        rw [e'] at z; cases z
        exact unhide nb q
      · exact absurd h hb
    · obtain ⟨nb, e', _⟩ := og b o e
      obtain ⟨sl, q1⟩ := up1 b o e' hnf
      obtain ⟨sl2, q2⟩ := up4 b _ ((sb.2 b nb).trans q1) hnf
      exact ⟨sl2, q2⟩
  first
    | exact wpAny_bind (wpAny_pure (wpAny_bind last))
    | exact wpAny_bind last
/-- what a callee's error leaves in the air of a block -/
def airB (Y : Cx) (E : XK) : Value → Shared → Prop := fun u s' => ∃ (pins : List (Addr × Obj)) (σ : L2.St) (H : Hp) (s : Shared), Inv Y pins σ H s ∧ L2.CX Y.prog Y.w Y.stack H s E u s'
abbrev Cx.bE (Y : Cx) (E : XK) : Cx := Y.wish (airB Y E)
theorem passB {Y : Cx} {E : XK} : PassW (Cx.bE Y E) (fun cls d _ H => E cls d H) := fun σ pins H s e s' I c => ⟨pins, σ, H, s, I.unwish, c⟩
abbrev ceOf (X : Cx) (scope : Scope) (s : Shared) : Env := compEnvC scope (cellsFrom (s.heap.objs.size + 1) scope.names (cloFrom X.env.cells scope.names [])) s.heap.objs.size X.env
abbrev bkOf (X : Cx) (scope : Scope) (s : Shared) (H : Hp) (fp : List Addr) : Cx := X.blk s H scope (ceOf X scope s) fp
theorem lcE_loop {E : XK} {Q : VK} {elt tg iter : Expr} {ifs : List Expr} {scope : Scope} {vs : List Nat} {pos : Pos} {g : TG} {tt : TT} {te : TE} {s3 s4 : Shared} {H3 : Hp} {J : It} {fp : List Addr} {it D : Addr} {tn : Nat → Heap → Prop} {Wi : Nat → Nat → Hp → Prop} {m0 : Nat}
    (hc : X.calm = true) (hs : X.stack = X.env :: X.outer) (hf : X.env.frame = some X.env.locals) (tk : Takes X (fun cls d _ H => E cls d H))
    (hg : PG (bkOf X scope s3 H3 fp) tg g) (ht : PTs (bkOf X scope s3 H3 fp) ifs tt) (he : PE (Cx.bE (bkOf X scope s3 H3 fp) E) elt te)
    (I3 : Inv X pins σ H3 s3) (I4 : Inv (bkOf X scope s3 H3 fp) [] (wipe σ vs) H3 s4) (T : Turn X.prog X.w X.K tg J fp it tn) (st4 : tn 0 s4.heap) (f3 : ∀ b ∈ fp, FpOk X pins H3 b) (w0 : Wi 0 m0 H3)
    (turn : ∀ i m H, Wi i m H → (J.stop i H ∧ Q (.ref D) H) ∨ (J.go i H ∧ ∃ Nx : Hp → Prop, (∀ H', Nx H' → ∃ m', m' < m ∧ Wi (i + 1) m' H') ∧ ∀ x H', J.yld i H x H' → g x (wipe σ vs) H' fun σ2 H2 => wipe σ2 vs = wipe σ vs ∧ tt σ2 H2 fun b H3 =>
      if b = true then te σ2 H3 fun y H4 => ∃ acc, H4 D = some (.lst acc) ∧ acc.length < sizeLine ∧ Nx (upd H4 D (.lst (acc ++ [y]))) else Nx H3)) :
    codeAny (model X.prog X.w) X.A (.compLoop (.ListComp elt [⟨tg, iter, ifs, 0⟩] scope pos) 0 (.ref it) (.ref D) (ceOf X scope s3)) (compEnds (model X.prog X.w) X.A X.xe none (EP X pins σ Q) (.ref D) (ceOf X scope s3)) s4 := by
  obtain ⟨Y, hY⟩ : ∃ Y, Y = bkOf X scope s3 H3 fp := ⟨_, rfl⟩
  have hCs : s3.heap.objs.size ∉ frs X.stack := fun z => by
    rcases List.mem_cons.mp (I3.stkSub _ z) with q | q
    · exact absurd I3.lt (by rw [← q]; exact Nat.lt_irrefl _)
    · exact I3.nofs (Nat.le_refl _) q
  have backX : ∀ {pins' : List (Addr × Obj)} {σ' : L2.St} {H' : Hp} {s' : Shared}, Inv (bkOf X scope s3 H3 fp) pins' σ' H' s' → Inv X pins σ H' s' ∧ FpOk X pins H' s3.heap.objs.size ∧ ∃ m, s'.heap.Ns s3.heap.objs.size m := fun {pins' σ' H' s'} J' => by
    have nC : H' s3.heap.objs.size = none := J'.free
    obtain ⟨m, hm, _⟩ := J'.loc
    refine ⟨?_, I3.fpOk (Nat.le_refl _) nC, m, hm⟩
    refine Inv.call' I3 (ch := fp) J'.os J'.base J'.hok J'.bare fun b hb => ?_
    obtain ⟨_, q1, _, q2, q3, q4⟩ := f3 b hb
    exact ⟨q2, q1, q3, q4⟩
  have fpk : ∀ {σ' : L2.St} {H' : Hp} {s' : Shared}, Inv (bkOf X scope s3 H3 fp) [] σ' H' s' → (∀ b ∈ fp, H' b = none) → ∀ b ∈ fp, FpOk (bkOf X scope s3 H3 fp) [] H' b := fun {σ' H' s'} J' hn b hb => by
    obtain ⟨q1, q2⟩ := J'.ok.exf b hb
    refine ⟨hn b hb, q1, J'.ok.exfs b hb, .inl hb, fun x c e => q2 x c e, fun p hp => ?_⟩
    exact absurd (show p ∈ ([] : List (Addr × Obj)) ++ [] from hp) (by simp)
  let Iv : Nat → Shared → Prop := fun n s' => ∃ i H', Inv (bkOf X scope s3 H3 fp) [] (wipe σ vs) H' s' ∧ tn i s'.heap ∧ (∀ b ∈ fp, H' b = none) ∧ Wi i n H'
  apply compLoop_any Iv _ m0 ⟨0, H3, I4, st4, fun b hb => (f3 b hb).1, w0⟩
  rintro n s5 ⟨i, H5, I5, st5, n5, w5⟩
  rcases turn i n H5 w5 with ⟨stop, qq⟩ | ⟨go, Nx, hNx, step⟩
  · refine thnF (T.done (bkOf X scope s3 H3 fp) rfl rfl rfl hc i [] s5 _ H5 (fun _ _ => False) I5 (fpk I5 n5) st5 stop) ?_
    rintro r s6 ⟨rfl, I6⟩
    obtain ⟨I7, fk, m, hm⟩ := backX I6
    refine ⟨m, hm, fun h' sb => ?_⟩
    obtain ⟨f0, f1, f2, f3, f4, f5⟩ := fk
    exact ⟨.ref D, H5, I7.turned (t' := s6.toks) (fun b o hb e => (sb.2 b hb).trans e) f0 f1 f3 f4 f5, rfl, qq⟩
  · refine thnF (T.item (bkOf X scope s3 H3 fp) rfl rfl rfl hc i [] s5 _ H5 (fun _ _ => False) I5 (fpk I5 n5) st5 go) ?_
    rintro r s6 ⟨u, rfl, h6⟩
    refine thnF h6 ?_
    rintro _ s7 ⟨x, H7, I7, r7, y7, st7, n7⟩
    have P7 := I7.pinned (fpk I7 n7) (T.obj _ _ st7)
    refine thnF (hg.run _ s7 _ H7 x u _ P7 r7 (step x H7 y7)) ?_
    rintro _ s8 ⟨σ8, H8, I8, hw8, q8⟩
    refine thnF (ht.run _ s8 σ8 H8 _ I8 q8) ?_
    rintro b s9 ⟨H9, I9, q9⟩
    have fin : ∀ {s' : Shared} {H' : Hp}, Inv (bkOf X scope s3 H3 fp) ([] ++ pinsAt fp s7.heap) σ8 H' s' → Nx H' → ∃ m, m < n ∧ Iv m s' := fun {s' H'} J' nx => by
      obtain ⟨m', hm, w'⟩ := hNx H' nx
      have kp : ∀ b ∈ fp, ∀ o, s7.heap.get? b = some o → s'.heap.get? b = some o ∧ H' b = none := fun b hb o e => by
        obtain ⟨z1, z2, _⟩ := J'.pin (b, o) (List.mem_append_right _ (List.mem_append_right _ (mem_pinsAt hb e)))
        exact ⟨z1, z2⟩
      refine ⟨m', hm, i + 1, H', Inv.weak (J'.unpinned (pins := [])) (by rw [← hw8, wipe_length]) (fun j v e => ?_), T.keep _ _ _ st7 fun b hb o e => (kp b hb o e).1, fun b hb => ?_, w'⟩
      · rw [← hw8] at e; exact (wipe_some e).1
      · obtain ⟨o, e, _⟩ := T.obj _ _ st7 b hb
        exact (kp b hb o e).2
    cases b with
    | false =>
      rw [if_neg (by decide)] at q9 ⊢
      exact fin I9 q9
    | true =>
      rw [if_pos rfl] at q9 ⊢
      refine wpAny_mono (he.run _ s9 σ8 H9 _ (I9.wish _) q9) ?_ ?_
      · rintro z s10 ⟨yv, H10, I10, r10, acc, hD10, hz10, nx⟩
        exact app_ok (X := bkOf X scope s3 H3 fp) I10.unwish hD10 hz10 r10 fun s11 I11 => fin I11 nx
      · rintro e s10 ⟨p', σ', H', s', J', cx⟩
        obtain ⟨K1, K2, K3⟩ := backX J'
        exact blk_fails hs hf tk K1 K2 K3 hCs rfl rfl cx
/-- a list comprehension whose element may raise -/
theorem pe_lcE {E : XK} {elt tg iter : Expr} {ifs : List Expr} {scope : Scope} {own : List (Str × Nat)} {pos : Pos} {wi : TI} {g : TG} {tt : TT} {te : TE} (hc : X.calm = true) (hN : X.N.Nodup) (hs : X.stack = X.env :: X.outer) (hf : X.env.frame = some X.env.locals) (tk : Takes X (fun cls d _ H => E cls d H)) (hi : PI X tg iter wi)
    (ok : BlkOk X.N X.env.scope scope own) (hg : ∀ (s : Shared) (H : Hp) (C : Addr) (cl : List (Str × Addr)) (fp : List Addr), PG (X.blk s H scope (compEnvC scope cl C X.env) fp) tg g)
    (ht : ∀ (s : Shared) (H : Hp) (C : Addr) (cl : List (Str × Addr)) (fp : List Addr), PTs (X.blk s H scope (compEnvC scope cl C X.env) fp) ifs tt)
    (he : ∀ (s : Shared) (H : Hp) (C : Addr) (cl : List (Str × Addr)) (fp : List Addr), PE (Cx.bE (X.blk s H scope (compEnvC scope cl C X.env) fp) E) elt te) (hsi : ∀ x, foldedSetIterable iter X.env x = pure x) :
    PE X (.ListComp elt [⟨tg, iter, ifs, 0⟩] scope pos) (tLc wi g tt te (own.map (·.2))) := by
  constructor
  intro pins s σ H Q I h
  have hfree : ∀ y ∈ scope.names, y.2 = .free → ∃ c, X.env.cells.lookup y.1 = some c := by
    intro y hy e
    exact (ok.free y hy e).elim (fun k => I.ok.has _ (.inl k)) fun k => I.ok.has _ (.inr k)
  rw [eval_ListComp]
  apply comprehension_at (use := none) rfl hsi (closure_ok hfree) ok.kind fun y hy e => by rw [ok.uniq y hy, e]
  refine thn (hi.run pins s σ H _ I h) fun xv s1 hx => thn hx ?_
  rintro itv s2 ⟨it, fp, tn, J, H2, rfl, I2, T, st2, f2, q⟩
  refine wpAny_newObj_type ?_ (Nat.zero_le sizeLine)
  apply newEnv_comp
  obtain ⟨Wi, ⟨m0, w0⟩, turn⟩ := q s2.heap.objs.size (I2.hok.fresh (Nat.le_refl _))
  have hDn : H2 s2.heap.objs.size = none := I2.hok.fresh (Nat.le_refl _)
  have I3 : Inv X pins σ (upd H2 s2.heap.objs.size (.lst [])) { s2 with heap := s2.heap.push { cls := .type "list", data := .seq ([] : List Value).toArray } } := I2.lnew (t' := s2.toks) (ys := []) (its := []) .nil (Nat.zero_le _)
  have sz : ∀ b ∈ fp, b < s2.heap.objs.size := fun b hb => let ⟨o, e, _⟩ := T.obj _ _ st2 b hb; Heap.lt_size e
  have f3 : ∀ b ∈ fp, FpOk X pins (upd H2 s2.heap.objs.size (.lst [])) b ∧ b < (s2.heap.push { cls := .type "list", data := .seq ([] : List Value).toArray }).objs.size := by
    intro b hb
    refine ⟨⟨?_, (f2 b hb).2⟩, by rw [Heap.size_push]; exact Nat.lt_succ_of_lt (sz b hb)⟩
    rw [upd_ne (Nat.ne_of_lt (sz b hb))]; exact (f2 b hb).1
  have I4 := block_start I3 ok hN f3
  have st4 := T.keep _ _ (pushCells ((s2.heap.push { cls := .type "list", data := .seq ([] : List Value).toArray }).push { cls := .type "dict", data := .dict #[] }) scope.names) st2 fun b _ o e => pushCells_keeps _ _ _ _ (Heap.get?_push_of_some _ (Heap.get?_push_of_some _ e))
  have lp := lcE_loop (elt := elt) (iter := iter) (pos := pos) (Q := Q) (it := it) (D := s2.heap.objs.size) hc hs hf tk (hg _ _ _ _ fp) (ht _ _ _ _ fp) (he _ _ _ _ fp) I3 I4 T st4 (fun b hb => (f3 b hb).1) w0 turn
  exact codeAny_compStart_list lp (T.self X.A 0 _ _ _ st4 lp)
theorem de_lcE (o : Bool) {E : XK} {elt tg iter : Expr} {ifs : List Expr} {scope : Scope} {own : List (Str × Nat)} {pos : Pos} {t : TG} {gi : M (List PyData)} {gt : D → M Unit} {gc : M Bool} {ge : M D} (hc : X.calm = true) (hN : X.N.Nodup) (hst : X.stack = X.env :: X.outer) (hf : X.env.frame = some X.env.locals) (tk : Takes X (fun cls d _ H => E cls d H))
    (hi : DI X (fun cls d _ H => E cls d H) tg iter gi) (ok : BlkOk X.N X.env.scope scope own) (hg : ∀ (s : Shared) (H : Hp) (C : Addr) (cl : List (Str × Addr)) (fp : List Addr), PG (X.blk s H scope (compEnvC scope cl C X.env) fp) tg t) (ht : TgOk X t gt (own.map (·.2)))
    (hcs : ∀ (s : Shared) (H : Hp) (C : Addr) (cl : List (Str × Addr)) (fp : List Addr), DTs (X.blk s H scope (compEnvC scope cl C X.env) fp) W0 ifs gc)
    (he : ∀ (s : Shared) (H : Hp) (C : Addr) (cl : List (Str × Addr)) (fp : List Addr), DE (Cx.bE (X.blk s H scope (compEnvC scope cl C X.env) fp) E) (fun cls d _ H => E cls d H) elt ge) (hs : ∀ x, foldedSetIterable iter X.env x = pure x := by intro _; rfl) :
    DE X (fun cls d _ H => E cls d H) (.ListComp elt [⟨tg, iter, ifs, 0⟩] scope pos) (gLcE o (own.map (·.2)) gi gt gc ge) := by
  obtain ⟨wi, pi, qi⟩ := id hi.run
  exact ⟨_, pe_lcE (te := tE X (fun cls d _ H => E cls d H) ge) hc hN hst hf tk pi ok hg (fun s H C cl fp => (hcs s H C cl fp).can) (fun s H C cl fp => (he s H C cl fp).can) hs,
    lc_all (WB := fun cls d _ H => E cls d H) o ht (fun _ _ _ _ _ _ _ _ _ h => h) wi qi⟩
end
end DL
namespace DL
open PySem PySem.Spec PyProof.Rows L2
section
variable {X : Cx} {W : WX}
/-! ### targets that take the items of a list or a tuple -/
def gSeqG (n : Nat) (g : List D → M Unit) (d : D) : M Unit := (sq d).bind fun x => if x.2.length = n then g (x.2.map .p) else M.bad
theorem sq_still (d : D) (ρ : Sg) : sq d ρ = .bad ∨ ∃ bx, sq d ρ = .ok bx ρ := by
  cases d with
  | nm _ => exact .inl rfl
  | scr _ => exact .inl rfl
  | p x => cases x <;> first | exact .inl rfl | exact .inr ⟨_, rfl⟩
  | loc n =>
    show (match ρ.m[n]? with | some (.lst xs) => (.ok (true, xs) ρ : Rs (Bool × List PyData)) | _ => .bad) = _ ∨ ∃ bx, (match ρ.m[n]? with | some (.lst xs) => (.ok (true, xs) ρ : Rs (Bool × List PyData)) | _ => .bad) = _
    cases ρ.m[n]? with
    | none => exact .inl rfl
    | some c => cases c <;> first | exact .inl rfl | exact .inr ⟨_, rfl⟩
theorem pg_or {tg : Expr} {t u : TG} (h1 : PG X tg t) (h2 : PG X tg u) : PG X tg (fun v σ H Q => t v σ H Q ∨ u v σ H Q) :=
  ⟨fun pins s σ H v w Q I r h => h.elim (h1.run pins s σ H v w Q I r) (h2.run pins s σ H v w Q I r)⟩
theorem dg_seq {es : List Expr} {k : Nat} {pos : Pos} {g : List D → M Unit} {n : Nat} (hc : X.calm = true) (h : DGs X W es g) (hn : (assignEach es X.env).length = n := by rfl) (hst : (assignEach es X.env).findIdx? (·.1) = none := by rfl) : DG X W (.Tuple es k pos) (gSeqG n g) := by
  obtain ⟨t, p, q⟩ := h.run
  refine ⟨_, pg_or (pg_tup hc p hn hst) (pg_lst hc p hn hst), fun w σ ρ v d Q r rv hw => ?_⟩
  rcases sq_still d ρ with e | ⟨bx, e⟩
  · have hw : Ok2 X W w ((sq d ρ).bind fun x => if x.2.length = n then g (x.2.map .p) else M.bad) (fun w' σ' _ _ => Q σ' w'.H) := hw
    rw [e] at hw; exact hw.elim
  · have hw : Ok2 X W w ((sq d ρ).bind fun x => if x.2.length = n then g (x.2.map .p) else M.bad) (fun w' σ' _ _ => Q σ' w'.H) := hw
    rw [e] at hw
    have h1 : Ok1 X W w σ ((sq d).bind (fun x => M.ret x) ρ) (fun _ _ x => x = bx) := by
      show Ok1 X W w σ ((sq d ρ).bind fun x => M.ret x) (fun _ _ x => x = bx)
      rw [e]; exact fun _ _ _ => rfl
    obtain ⟨b, xs, a, vs, rfl, s1, d1, h2, _⟩ := ok_sq r rv h1
    have h2 : (b, xs) = bx := h2 w (Ext.refl w) r
    subst h2
    have hw : Ok2 X W w ((if xs.length = n then g (xs.map .p) else M.bad) ρ) (fun w' σ' _ _ => Q σ' w'.H) := hw
    by_cases hl : xs.length = n
    · rw [if_pos hl] at hw
      have lv : vs.length = n := by rw [dpAll_len d1]; exact hl
      have fin := q w σ ρ vs (xs.map .p) Q r (rl_dpAll d1) hw
      cases b with
      | true => rw [if_pos rfl] at s1; exact .inr ⟨a, vs, rfl, SqL.of s1, lv, fin⟩
      | false => rw [if_neg (by decide)] at s1; exact .inl ⟨a, vs, rfl, s1, lv, fin⟩
    · rw [if_neg hl] at hw; exact hw.elim
end
/-! ### the law's own def, at its caller -/
theorem spD_law {K : PySem.W.Frag} {mg : Str → Option Value} {F : FS} {H : Hp} {a : Addr} {ns : List Int} (hF : F [.scr ns] [] = .ok (.p (.bool true)) ⟨[], []⟩) (hS : SqL K H a (ns.map V.int)) : spD K mg 1 F [.ref a] H (fun v _ => v = .bl true) (fun _ _ _ => False) := by
  have hz : (⟨H, fun _ => False, [], fun _ h => h.elim⟩ : Wd).Z = H := funext fun b => hide_no fun z => z
  refine ⟨rfl, ⟨H, fun _ => False, [], fun _ h => h.elim⟩, [.scr ns], [], rfl, rfl, ⟨fun i d h => ?_, rfl, fun n b c h => by simp at h, List.nodup_nil, fun b h => by simp at h⟩, ?_⟩
  · cases i with
    | zero =>
      have h : d = .scr ns := by simpa using h.symm
      subst h
      exact ⟨.ref a, rfl, a, rfl, by rw [hz]; exact hS⟩
    | succ i => simp at h
  · rw [hF]
    intro w' v e r rv
    cases (show RD K w'.Z v (.bool true) from rv)
    rfl
theorem law_G {P : Program} {w : World} {K : PySem.W.Frag} {mg mb : Str → Option Value} {CX : CXT} {k : Nat} {fa a : Addr} {fd : FuncData} {x : Str} {sp : Sp} {s1 : Shared} {vs : List Value} {ns : List Int} (KX : K.In s1.heap) (hns : s1.heap.Ns mainGlobals mg) (hb : s1.heap.Ns builtinsNs mb)
    (hbb : ∀ x : Str, x ≠ "__name__" → mb x = bootBuiltins x) (hlim : s1.heap.NoLimit) (hg : s1.gens = #[]) (ha : s1.heap.get? a = some { cls := .type "list", data := .seq vs.toArray }) (hi : IntsAre vs ns) (hl : ns.length ≤ sizeLine) (hr : RmG k callerA)
    (F : ∀ base : Heap, K.In base → base.Ns mainGlobals mg → FnG P w K mg base CX k fa fd [x] sp) (hbind : ∀ (s : Shared) (u : Value), BindsTo s fd ⟨[u], []⟩ [(x, u)]) (hsp : ∀ H : Hp, Only H → SqL K H a (ns.map V.int) → sp [.ref a] H (fun v _ => v = .bl true) fun _ _ _ => False)
    (hCX : ∀ H e s', CX [] H s1 (fun _ _ _ => False) e s' → False) : codeAny (model P w) callerA (.call (.ref fa) ⟨[.ref a], []⟩) (fun r s' => r = .ok (.ret (.bool true)) ∧ OldK s1.heap s'.heap ∧ s'.os = s1.os ∧ AllBare s'.gens) s1 := by
  -- over any heap's map in which at most the script is tracked, and then as a list that stands still
  have run : ∀ H : Hp, Only H → SqL K H a (ns.map V.int) → HOk P w H s1.heap → (∀ b, H b ≠ none → b = a ∧ K.lookup a = none) →
      codeAny (model P w) callerA (.call (.ref fa) ⟨[.ref a], []⟩) (fun r s' => r = .ok (.ret (.bool true)) ∧ OldK s1.heap s'.heap ∧ s'.os = s1.os ∧ AllBare s'.gens) s1 := by
    intro H hO hS hok hA
    have ns_of : ∀ {b : Addr} {m : Str → Option Value}, s1.heap.Ns b m → (hidT s1.heap H).Ns b m := by
      rintro b m ⟨o, es, ep, e, d, r⟩
      refine ⟨o, es, ep, hidT_get e (Classical.byContradiction fun q => ?_), d, r⟩
      have hba := (hA b q).1
      rw [hba, ha] at e
      cases e; cases d
    have kin : K.In (hidT s1.heap H) := by
      intro b o e
      refine hidT_get (KX b o e) (Classical.byContradiction fun q => ?_)
      obtain ⟨rfl, hk⟩ := hA b q
      rw [hk] at e; cases e
    obtain ⟨mc, l1, l2⟩ := hlim
    have e0 : Env0 P w K mg (hidT s1.heap H) callerA [] s1 H := ⟨rfl, ⟨kin, ns_of hns, ⟨mb, ns_of hb, hbb⟩, ⟨mc, ns_of l1, l2⟩⟩, fun b o e => of_hidT e, Nat.le_of_eq (hidT_size _ _), trivial, fun b z => (nomatch z), hok, .of_eq hg⟩
    refine codeAny_mono ((F _ kin (ns_of hns)).run callerA [] s1 H ⟨[.ref a], []⟩ [.ref a] [.ref a] _ _ hr e0 (hbind s1 (.ref a)) (.cons rfl .nil) (hsp H hO hS)) ?_
    intro r s' h
    cases r with
    | error e => exact (hCX H e s' h).elim
    | ok fl =>
      cases fl with
      | next => exact h.elim
      | brk => exact h.elim
      | cont => exact h.elim
      | ret u =>
        obtain ⟨v, H', os, bare, un, hok', r', rfl⟩ := h
        cases (show u = Value.bool true from r')
        refine ⟨rfl, OldK.of_keep fun b o e => ?_, os, bare⟩
        rcases hO b with z | ⟨ob, xs, z⟩
        · exact un.keep b o e z (fun q => nomatch q) fun q => nomatch q
        · have e1 := (hok b _ z).1
          rw [e] at e1; cases e1
          exact (hok' b _ (un.frzs b _ _ z)).1
  have lenV := hi.length
  cases hk : K.lookup a with
  | some o =>
    have e := KX a o hk
    rw [ha] at e; cases e
    exact run (fun _ => none) (fun _ => .inl rfl) (.inr ⟨_, vs.toArray, _, hk, rfl, rfl, rfl, by rw [List.size_toArray, lenV]; exact hl, by simpa using vals_ints hi⟩) (fun b u z => nomatch z) fun b z => absurd rfl z
  | none =>
    have at_a : ∀ {b : Addr} {u : HO}, (if b = a then some (HO.frz { cls := .type "list", data := .seq vs.toArray } (.lst (ns.map V.int))) else none) = some u → b = a ∧ HO.frz { cls := .type "list", data := .seq vs.toArray } (.lst (ns.map V.int)) = u := by
      intro b u z
      by_cases h : b = a
      · rw [if_pos h] at z; exact ⟨h, Option.some.inj z⟩
      · rw [if_neg h] at z; cases z
    refine run (fun b => if b = a then some (.frz { cls := .type "list", data := .seq vs.toArray } (.lst (ns.map V.int))) else none) (fun b => ?_) (.inl (.inr ⟨{ cls := .type "list", data := .seq vs.toArray }, if_pos rfl⟩)) (fun b u z => ?_) fun b z => ⟨Classical.byContradiction fun h => z (if_neg h), hk⟩
    · by_cases h : b = a
      · exact .inr ⟨_, _, if_pos h⟩
      · exact .inl (if_neg h)
    · obtain ⟨rfl, rfl⟩ := at_a z
      exact ⟨ha, by rw [List.length_map]; exact hl, vs, _, vals_ints hi, ha⟩
/-- the goal that the head leaves -/
theorem walk_G {l : PySem.W.OpenLaw} {n k : Nat} {q : Program} {loose : List Str} {XP : (Str → Option Value) → Heap → Prop} {YP : World → Heap → Prop} {d : DefRec} {K : Params → PySem.W.Frag} {x : Str} {F : FS} (hn : l.most = some n) (hn2 : n ≤ sizeLine) (hdf : d.params.defaults = []) (hr : Room k callerA) (hY : ∀ (w : World) (h : Heap), YP w h → (K w.params).In h)
    (hF : ∀ (w : World) (mg : Str → Option Value) (fa : Addr) (h : Heap), (K w.params).In h → h.Ns mainGlobals mg → mg d.name = some (.ref fa) → ∃ fd : FuncData, (∀ (s : Shared) (u : Value), BindsTo s fd ⟨[u], []⟩ [(x, u)]) ∧
      ∀ base : Heap, (K w.params).In base → base.Ns mainGlobals mg → FnG l.prog w (K w.params) mg base (L2.CX l.prog w) k fa fd [x] (spD (K w.params) mg 1 F))
    (hT : ∀ ns : List Int, ns.length ≤ n → F [.scr ns] [] = .ok (.p (.bool true)) ⟨[], []⟩) : PySem.W.WalkO q loose XP YP l.row.toRowW d [] (fun f vs => PySem.call f vs) := by
  apply Att.attach_callB hn hdf
  intro w s0 s1 mg mb fa o pm cd doc a vs ns G Y ho hd hcd hmg hobj hints hlen hbits hg
  have KX := hY w _ Y
  obtain ⟨fd, hb, hF⟩ := hF w mg fa _ KX G.T.g hmg
  refine law_G KX G.T.g G.T.b G.T.builtins G.T.nolimit hg hobj hints (Nat.le_trans hlen hn2) ⟨hr, rfl⟩ hF hb (fun H _ hS => spD_law (hT ns hlen) hS) ?_
  rintro H e s' ⟨_, _, _, _, _, _, _, _, _, _, _, _, z⟩
  exact z.elim
end DL
namespace DL
open PySem PySem.Spec PyProof.Rows L2
section
variable {X : Cx} {W : WX}
/-! ### what the printed derivations use -/
def fMulI : D → D → M D := fInt cMul fun i j => i * j
theorem ip_mul : PIp X .Mult (rI CMul fun i j => .int (i * j)) := by
  rintro pins s σ H x y v u Q I r1 r2 ⟨i, j, rfl, rfl, hc, q⟩
  obtain ⟨t, rfl⟩ := (show ∃ t, v = Value.int i t from r1)
  obtain ⟨t', rfl⟩ := (show ∃ t', u = Value.int j t' from r2)
  exact PySem.P.imul_int ⟨.int _, H, I.tok _, ⟨_, rfl⟩, q⟩ hc.ok
theorem dop_mulI : DOp X W (rI CMul fun i j => .int (i * j)) fMulI := dop_int fun i j h => cMul_ok h
theorem pw0 : PassW X W0 := fun σ pins H s e s' I c => by
  obtain ⟨_, _, _, _, _, _, _, _, _, _, _, _, z⟩ := c; exact z.elim
/-- while, its turns bounded by n -/
theorem ds_whileN (n : Nat) {c : Expr} {body : List Stmt} {pos : Pos} {gc : M Bool} {gb : M Fl} (hp : PassesOwn (model X.prog X.w) X.A X.env X.xe) (hc : DT X W c gc) (hb : DSs X W body gb) : DS X W (.While c body [] pos) (whN n gc gb) := by
  obtain ⟨t, p, q⟩ := (ds_while (pos := pos) hp hc hb).run
  refine ⟨t, p, fun w σ ρ D r h => q w σ ρ D r ?_⟩
  have ne : whN n gc gb ρ ≠ .bad := fun z => by rw [z] at h; exact h
  rw [gWhile_of ne]; exact h
/-- what a def does, from its body's meaning -/
def fnF (n len : Nat) (g : M Fl) : FS := fun ds m => if ds.length = n then fin m.length (g (startD len ds m)) else .bad
theorem fnF_le {n len : Nat} {g : M Fl} {ds : List D} {m : List Cell} (h : ds.length = n) : Le (fnF n len g ds m) (fin m.length (g (startD len ds m))) := by
  unfold fnF; rw [if_pos h]; exact Le.refl _
end
section
variable (P : Program) (w : World) (K : PySem.W.Frag) (mg : Str → Option Value) (base : Heap)
structure DFn0 (x : Str) (n k : Nat) (F : FS) : Prop where
  ex : ∃ f fd ps, ps.length = n ∧ FnG P w K mg base (L2.CX P w) k f fd ps (spD K mg n F) ∧ Binds K fd ps [] ∧ mg x = some (.ref f) ∧ PySem.W.keepIn K (.ref f) = true
structure MFn0 (c m : Str) (n k : Nat) (F : FS) : Prop where
  ex : ∃ f fd ps C, ps.length = n ∧ FnG P w K mg base (L2.CX P w) k f fd ps (spD K mg n F) ∧ Binds K fd ps [] ∧ mg c = some (.ref C) ∧ Meth K C m f
structure MkF0 (c : Str) (n k : Nat) (F : FS) : Prop where
  ex : ∃ C f fd ps, ps.length = n ∧ mg c = some (.ref C) ∧ Mk K C f ∧ FnG P w K mg base (L2.CX P w) k f fd ps (spD K mg n F) ∧ Binds K fd ps []
end
section
variable {P : Program} {w : World} {K : PySem.W.Frag} {mg : Str → Option Value} {base : Heap}
theorem DFn0.at {x : Str} {n k : Nat} {F : FS} (h : DFn0 P w K mg base x n k F) (X : Cx) (h1 : X.prog = P := by rfl) (h2 : X.w = w := by rfl) (h3 : X.K = K := by rfl) (h4 : X.mg = mg := by rfl) (h5 : X.base = base := by rfl) : DFn X x n k F := by
  subst h1 h2 h3 h4 h5; exact ⟨h.ex⟩
theorem MFn0.at {c m : Str} {n k : Nat} {F : FS} (h : MFn0 P w K mg base c m n k F) (X : Cx) (h1 : X.prog = P := by rfl) (h2 : X.w = w := by rfl) (h3 : X.K = K := by rfl) (h4 : X.mg = mg := by rfl) (h5 : X.base = base := by rfl) : MFn X c m n k F := by
  subst h1 h2 h3 h4 h5
  obtain ⟨f, fd, ps, C, q1, q2, q3, q4, q5⟩ := h.ex
  exact ⟨f, fd, ps, q1, q2, q3, fun D e => by rw [q4] at e; cases e; exact q5⟩
theorem MkF0.at {c : Str} {n k : Nat} {F : FS} (h : MkF0 P w K mg base c n k F) (X : Cx) (h1 : X.prog = P := by rfl) (h2 : X.w = w := by rfl) (h3 : X.K = K := by rfl) (h4 : X.mg = mg := by rfl) (h5 : X.base = base := by rfl) : MkF X c n k F := by
  subst h1 h2 h3 h4 h5; exact ⟨h.ex⟩
theorem DFn0.mono {x : Str} {n j k : Nat} {F : FS} (h : DFn0 P w K mg base x n j F) (hk : j ≤ k) : DFn0 P w K mg base x n k F := by
  obtain ⟨f, fd, ps, q1, q2, q3⟩ := h.ex
  exact ⟨f, fd, ps, q1, q2.mono hk, q3⟩
theorem MFn0.mono {c m : Str} {n j k : Nat} {F : FS} (h : MFn0 P w K mg base c m n j F) (hk : j ≤ k) : MFn0 P w K mg base c m n k F := by
  obtain ⟨f, fd, ps, C, q1, q2, q3⟩ := h.ex
  exact ⟨f, fd, ps, C, q1, q2.mono hk, q3⟩
/-- nothing is promised -/
def badF : FS := fun _ _ => .bad
theorem fnG_bad {k n : Nat} {f : Addr} {fd : FuncData} {ps : List Str} (h : ps.length = n) : FnG P w K mg base (L2.CX P w) k f fd ps (spD K mg n badF) := by
  have no : ∀ vs H Q E, ¬ spD K mg n badF vs H Q E := by
    rintro vs H Q E ⟨_, _, _, _, _, _, _, z⟩; exact z
  exact ⟨fun vs H Q E z => (no _ _ _ _ z).elim, fun A outer s H args us vs Q E _ _ _ _ z => (no _ _ _ _ z).elim⟩
/-- a def of the text with its body's derivation -/
theorem dfn_mk {x : Str} {st : Stmt} {N ps : List Str} {k : Nat} {g : M Fl} (ex : ∃ f fd, mg x = some (.ref f) ∧ Fun K x x st f fd) (S : FnScope N ps (defScope st))
    (hb : ∀ (kV doc pm : Value) (an : Option Addr) (cdv ct : Value) (us : List Value), us.length = ps.length → bindArgs (PySem.W.fnOf x x (defArgs st) (defBody st) (defScope st) .none kV doc pm an cdv ct) ⟨us, []⟩ = pure (ps.zip us))
    (hbody : ∀ (f : Addr) (cdv : Value) (A : Around) (outer : List Env) (s : Shared) (H : Hp) (E : XK), RmG k (cxD P w K mg base N x (defScope st) f cdv A outer s H E).A → Takes (cxD P w K mg base N x (defScope st) f cdv A outer s H E) (fun cls d _ H => E cls d H) → PassesOwn (model P w) (cxD P w K mg base N x (defScope st) f cdv A outer s H E).A (cxD P w K mg base N x (defScope st) f cdv A outer s H E).env (cxD P w K mg base N x (defScope st) f cdv A outer s H E).xe →
      DSs (cxD P w K mg base N x (defScope st) f cdv A outer s H E) (fun cls d _ H => E cls d H) (defBody st) g) : DFn0 P w K mg base x ps.length (k + 1) (fnF ps.length N.length g) := by
  obtain ⟨f, fd, hm, Fu⟩ := ex
  exact ⟨f, fd, ps, rfl, ok_fn Fu S (fun cdv A outer s H E => hbody f cdv A outer s H E) (fun ds m h => fnF_le h), Fu.binds hb, hm, Fu.kp⟩
theorem dfn_bad {x : Str} {st : Stmt} {ps : List Str} {k : Nat} (ex : ∃ f fd, mg x = some (.ref f) ∧ Fun K x x st f fd)
    (hb : ∀ (kV doc pm : Value) (an : Option Addr) (cdv ct : Value) (us : List Value), us.length = ps.length → bindArgs (PySem.W.fnOf x x (defArgs st) (defBody st) (defScope st) .none kV doc pm an cdv ct) ⟨us, []⟩ = pure (ps.zip us)) : DFn0 P w K mg base x ps.length k badF := by
  obtain ⟨f, fd, hm, Fu⟩ := ex
  exact ⟨f, fd, ps, rfl, fnG_bad rfl, Fu.binds hb, hm, Fu.kp⟩
theorem mfn_mk {c m q : Str} {st : Stmt} {N ps : List Str} {k : Nat} {g : M Fl} (ex : ∃ C f fd, mg c = some (.ref C) ∧ Fun K m q st f fd ∧ Meth K C m f) (S : FnScope N ps (defScope st))
    (hb : ∀ (kV doc pm : Value) (an : Option Addr) (cdv ct : Value) (us : List Value), us.length = ps.length → bindArgs (PySem.W.fnOf m q (defArgs st) (defBody st) (defScope st) .none kV doc pm an cdv ct) ⟨us, []⟩ = pure (ps.zip us))
    (hbody : ∀ (f : Addr) (cdv : Value) (A : Around) (outer : List Env) (s : Shared) (H : Hp) (E : XK), RmG k (cxD P w K mg base N q (defScope st) f cdv A outer s H E).A → Takes (cxD P w K mg base N q (defScope st) f cdv A outer s H E) (fun cls d _ H => E cls d H) → PassesOwn (model P w) (cxD P w K mg base N q (defScope st) f cdv A outer s H E).A (cxD P w K mg base N q (defScope st) f cdv A outer s H E).env (cxD P w K mg base N q (defScope st) f cdv A outer s H E).xe →
      DSs (cxD P w K mg base N q (defScope st) f cdv A outer s H E) (fun cls d _ H => E cls d H) (defBody st) g) : MFn0 P w K mg base c m ps.length (k + 1) (fnF ps.length N.length g) := by
  obtain ⟨C, f, fd, hm, Fu, Mt⟩ := ex
  exact ⟨f, fd, ps, C, rfl, ok_fn Fu S (fun cdv A outer s H E => hbody f cdv A outer s H E) (fun ds m h => fnF_le h), Fu.binds hb, hm, Mt⟩
theorem mfn_bad {c m q : Str} {st : Stmt} {ps : List Str} {k : Nat} (ex : ∃ C f fd, mg c = some (.ref C) ∧ Fun K m q st f fd ∧ Meth K C m f)
    (hb : ∀ (kV doc pm : Value) (an : Option Addr) (cdv ct : Value) (us : List Value), us.length = ps.length → bindArgs (PySem.W.fnOf m q (defArgs st) (defBody st) (defScope st) .none kV doc pm an cdv ct) ⟨us, []⟩ = pure (ps.zip us)) : MFn0 P w K mg base c m ps.length k badF := by
  obtain ⟨C, f, fd, hm, Fu, Mt⟩ := ex
  exact ⟨f, fd, ps, C, rfl, fnG_bad rfl, Fu.binds hb, hm, Mt⟩
theorem mkf_mk {c q : Str} {st : Stmt} {N ps : List Str} {k : Nat} {g : M Fl} (ex : ∃ C f fd, mg c = some (.ref C) ∧ Fun K "__init__" q st f fd ∧ Mk K C f) (S : FnScope N ps (defScope st))
    (hb : ∀ (kV doc pm : Value) (an : Option Addr) (cdv ct : Value) (us : List Value), us.length = ps.length → bindArgs (PySem.W.fnOf "__init__" q (defArgs st) (defBody st) (defScope st) .none kV doc pm an cdv ct) ⟨us, []⟩ = pure (ps.zip us))
    (hbody : ∀ (f : Addr) (cdv : Value) (A : Around) (outer : List Env) (s : Shared) (H : Hp) (E : XK), RmG k (cxD P w K mg base N q (defScope st) f cdv A outer s H E).A → Takes (cxD P w K mg base N q (defScope st) f cdv A outer s H E) (fun cls d _ H => E cls d H) → PassesOwn (model P w) (cxD P w K mg base N q (defScope st) f cdv A outer s H E).A (cxD P w K mg base N q (defScope st) f cdv A outer s H E).env (cxD P w K mg base N q (defScope st) f cdv A outer s H E).xe →
      DSs (cxD P w K mg base N q (defScope st) f cdv A outer s H E) (fun cls d _ H => E cls d H) (defBody st) g) : MkF0 P w K mg base c ps.length (k + 1) (fnF ps.length N.length g) := by
  obtain ⟨C, f, fd, hm, Fu, Mt⟩ := ex
  exact ⟨C, f, fd, ps, rfl, hm, Mt, ok_fn Fu S (fun cdv A outer s H E => hbody f cdv A outer s H E) (fun ds m h => fnF_le h), Fu.binds hb⟩
/-- a constant of the module -/
def GlK (K : PySem.W.Frag) (mg : Str → Option Value) (x : Str) (d : PyData) : Prop := ∃ v u, mg x = some u ∧ RelV v u ∧ ∀ H, RD K H v d
theorem GlK.int {x : Str} {i : Int} {t : Tok} (h : mg x = some (.int i t)) : GlK K mg x (.int i) := ⟨.int i, _, h, ⟨t, rfl⟩, fun _ => .int i⟩
theorem GlK.str {x z : Str} {t : Tok} (h : mg x = some (.str z t)) : GlK K mg x (.str z) := ⟨.str z, _, h, ⟨t, rfl⟩, fun _ => .str z⟩
theorem de_gk {X : Cx} {W : WX} {x : Str} {pos : Pos} {d : PyData} (h : GlK X.K X.mg x d) (hg : Gl X x := by rfl) (hd : (x == ("__debug__" : Str)) = false := by decide) : DE X W (.Name x pos) (gC d) := by
  obtain ⟨v, u, h1, h2, h3⟩ := h
  exact de_glob hg h1 h2 (fun w => h3 w.Z) hd
/-- own classes -/
def ClK (K : PySem.W.Frag) (mg : Str → Option Value) (c : Str) (fs : List Str) : Prop := ∃ C, mg c = some (.ref C) ∧ Cls K C ∧ ∀ f ∈ fs, NoAttr K C f
theorem ClK.cls {X : Cx} {c : Str} {fs : List Str} (h : ClK X.K X.mg c fs) : ClsF X c := ⟨fun D e => by
  obtain ⟨C, q1, q2, _⟩ := h
  rw [q1] at e; cases e; exact q2⟩
theorem ClK.att {X : Cx} {c f : Str} {fs : List Str} (h : ClK X.K X.mg c fs) (hf : f ∈ fs := by decide) : AttF X c f := fun D e => by
  obtain ⟨C, q1, _, q3⟩ := h
  rw [q1] at e; cases e; exact q3 f hf
/-- the j-th statement of a class -/
def clsS (st : Stmt) (j : Nat) : Stmt := match st with
  | .ClassDef _ _ _ body _ _ _ _ _ _ _ => body.getD j (.Pass ⟨0, 0, 0, 0⟩)
  | _ => .Pass ⟨0, 0, 0, 0⟩
end
end DL
namespace DL
open PySem PySem.Spec PyProof.Rows L2
section
variable {X : Cx}
/-- B.__init__(self, ..), B an own class over ValueError without an own __init__ -/
theorem pe_baseinit {b : Str} {B : Addr} {mc : Value} {e : Expr} {es : List Expr} {ta : TA} {p1 p2 pos : Pos} {pl : Sem Bool} (hg : Gl X b) (hm : X.mg b = some (.ref B)) (r : ClX.CRead X.K B mc) (vV : PySem.W.findCls X.K (.ref B) mc "__init__" = some (.val (.builtin "ValueError.__init__"))) (ha : PA X (e :: es) ta)
    (hc : eval (.Call (.Attribute (.Name b p1) "__init__" p2) (e :: es) [] pos) X.env = (do
      let ov ← eval (.Name b p1) X.env
      standAt p2.atName
      let (f, first) ← holding [ov] (getMethod ov "__init__" pl)
      callWith pos f first (backTo pos (starEach (e :: es) X.env)) (backToKw pos (keywordEach [] X.env))) := by rfl)
    (he : starEach (e :: es) X.env = (false, eval e X.env) :: starEach es X.env := by rfl) (hpl : (backTo pos (starEach es X.env)).any (·.1) = false := by rfl) (hdb : (b == ("__debug__" : Str)) = false := by decide) :
    PE X (.Call (.Attribute (.Name b p1) "__init__" p2) (e :: es) [] pos) (tVeI X.K ta) := by
  constructor
  intro pins s σ H Q I h
  apply PySem.W.methodCall_KW (pl := pl) _ hc
  refine ld_glob I hg hm ?_ hdb
  apply PySem.W.method_cls I.kIn r.ga
  refine PySem.W.cls_value I.kIn r.rd vV (by decide +kernel) ?_
  refine PyProof.Rows.callWith_method1 (thn (ha.run pos pins _ σ H _ (I.tok _) h) ?_) he hpl
  rintro us s1 ⟨vs, H1, I1, r1, a, C, ws, rfl, hl, T, ea, q⟩
  cases r1 with
  | cons ra rw' =>
    rename_i u0 ur
    cases (show u0 = Value.ref a from ra)
    exact oinit_ok T I1 ea (by rw [← Paired.length rw', sizeLine_eq]; omega) fun s' J => ⟨.non, H1, J, rfl, q⟩
end
section
variable {P : Program} {w : World} {K : PySem.W.Frag} {mg : Str → Option Value} {base : Heap}
/-- an error class: what of the text it must have -/
structure EiF (K : PySem.W.Frag) (mg : Str → Option Value) (c q b f : Str) (st : Stmt) : Prop where
  ex : ∃ C fI fd B mc, mg c = some (.ref C) ∧ OexC K C ∧ PySem.W.findIn K (.ref C) "__init__" = some (some (.ref fI)) ∧ PySem.W.typeIn K (.ref fI) = some (.type "function") ∧ Fun K "__init__" q st fI fd ∧ PySem.W.findIn K (.ref C) f = some none ∧
    mg b = some (.ref B) ∧ ClX.CRead K B mc ∧ PySem.W.findCls K (.ref B) mc "__init__" = some (.val (.builtin "ValueError.__init__"))
/-- def __init__(self, x): B.__init__(self, text); self.f = x -/
theorem exi_mk {c q b f self x z : Str} {st : Stmt} {k : Nat} {p1 p2 p3 p4 p5 p6 p7 p8 p9 p10 : Pos} {j : Nat} (ex : EiF K mg c q b f st) (S : FnScope [self, x] [self, x] (defScope st))
    (hbd : defBody st = [.Expr (.Call (.Attribute (.Name b p1) "__init__" p2) [.Name self p3, .Constant (.str z) j p4] [] p5) p6, .Assign [.Attribute (.Name self p7) f p8] (.Name x p9) p10])
    (hb : ∀ (kV doc pm : Value) (an : Option Addr) (cdv ct : Value) (us : List Value), us.length = [self, x].length → bindArgs (PySem.W.fnOf "__init__" q (defArgs st) (defBody st) (defScope st) .none kV doc pm an cdv ct) ⟨us, []⟩ = pure ([self, x].zip us))
    (hbody : ∀ (C B : Addr) (mc : Value), mg b = some (.ref B) → ClX.CRead K B mc → PySem.W.findCls K (.ref B) mc "__init__" = some (.val (.builtin "ValueError.__init__")) → ∀ (fI : Addr) (cdv : Value) (A : Around) (outer : List Env) (s : Shared) (H : Hp) (E : XK),
      PSs (cxD P w K mg base [self, x] q (defScope st) fI cdv A outer s H E) (defBody st) (tSeq (tDrop (tVeI K (tCons (tVar 0) (tCons (tC (.str z)) tNil)))) (tSeq (tOst K f (tVar 0) (tVar 1)) tNext))) :
    ∃ C fI fd ps, mg c = some (.ref C) ∧ OexC K C ∧ PySem.W.findIn K (.ref C) "__init__" = some (some (.ref fI)) ∧ PySem.W.typeIn K (.ref fI) = some (.type "function") ∧ FnOk P w K mg base (L2.CX P w) (k + 1) fI fd ps (spI f C) ∧ Binds K fd ps [] := by
  obtain ⟨C, fI, fd, B, mc, h1, T, h2, h3, Fu, hno, h4, h5, h6⟩ := ex.ex
  refine ⟨C, fI, fd, [self, x], h1, T, h2, h3, Fu.okX S (fun vs H Q E h => ?_) (fun cdv A outer s H vs Q E hr h => ⟨_, hbody C B mc h4 h5 h6 fI cdv A outer s H E, ?_⟩), Fu.binds hb⟩
  · obtain ⟨a, y, rfl, _⟩ := h; rfl
  · obtain ⟨a, y, rfl, ea, hq⟩ := h
    refine ⟨.ref a, rfl, a, C, [.str z], rfl, by show 1 ≤ 1000; omega, T, ea, ?_⟩
    refine ⟨y, rfl, .ref a, rfl, a, C, rfl, T, hno, .inl ⟨ea, fun dx n ne => hq dx n ne⟩⟩
structure ExI0 (P : Program) (w : World) (K : PySem.W.Frag) (mg : Str → Option Value) (base : Heap) (c f : Str) (k : Nat) : Prop where
  ex : ∃ C fI fd ps, mg c = some (.ref C) ∧ OexC K C ∧ PySem.W.findIn K (.ref C) "__init__" = some (some (.ref fI)) ∧ PySem.W.typeIn K (.ref fI) = some (.type "function") ∧ FnOk P w K mg base (L2.CX P w) k fI fd ps (spI f C) ∧ Binds K fd ps []
theorem ExI0.at {c f : Str} {k : Nat} (h : ExI0 P w K mg base c f k) (X : Cx) (h1 : X.prog = P := by rfl) (h2 : X.w = w := by rfl) (h3 : X.K = K := by rfl) (h4 : X.mg = mg := by rfl) (h5 : X.base = base := by rfl) : ExI X c f k := by
  subst h1 h2 h3 h4 h5; exact ⟨h.ex⟩
/-- a plain error class over ValueError -/
def ExK (K : PySem.W.Frag) (mg : Str → Option Value) (c : Str) : Prop := ∃ C bmB, ExcBaseFacts "ValueError" "ValueError.__new__" "ValueError.__init__" bmB ∧ mg c = some (.ref C) ∧ PySem.W.excIn K C bmB "ValueError.__new__" = true ∧ PySem.W.keepIn K (.ref C) = true ∧ PySem.W.subIn K (.ref C) (.type "BaseException") = some true ∧ PySem.W.typeIn K (.ref C) = some (.type "type")
theorem ExK.at {X : Cx} {c : Str} (h : ExK X.K X.mg c) : ExF X c := by
  obtain ⟨C, bm, h1, h2, h3, h4, h5, h6⟩ := h
  exact ⟨C, _, _, _, bm, h1, h2, h3, h4, raises_own h5 h6⟩
end
end DL
namespace DL
open PySem PySem.Spec PyProof.Rows L2
section
variable {X : Cx} {W : WX}
/-! ### over a list, a tuple, a text, the script -/
def itA : D → M (List PyData)
  | .p (.list xs) => M.ret xs
  | .p (.tuple xs) => M.ret xs
  | .p (.str x) => M.ret (signs x)
  | .scr ns => M.ret (ns.map .int)
  | _ => M.bad
theorem pi_or {tg l : Expr} {t u : TI} (h1 : PI X tg l t) (h2 : PI X tg l u) : PI X tg l (fun σ H R => t σ H R ∨ u σ H R) :=
  ⟨fun pins s σ H R I h => h.elim (h1.run pins s σ H R I) (h2.run pins s σ H R I)⟩
theorem di_any {tg l : Expr} {g : M D} (h : DE X W l g) : DI X W tg l (g.bind itA) := by
  obtain ⟨t1, p1, q1⟩ := (di_list (tg := tg) h).run
  obtain ⟨t2, p2, q2⟩ := (di_tup (tg := tg) h).run
  obtain ⟨t3, p3, q3⟩ := (di_str (tg := tg) h).run
  refine ⟨_, pi_or p1 (pi_or p2 p3), fun w σ ρ Q r hw => ?_⟩
  have hw : Ok1 X W w σ ((g ρ).bind itA) (fun w' _ xs => ∀ J, Steps X J w' xs → Q J w'.H) := hw
  have red : ∀ f : D → M (List PyData), (g.bind f) ρ = (g ρ).bind f := fun _ => rfl
  cases hg : g ρ with
  | bad => rw [hg] at hw; exact hw.elim
  | er ε ρ' =>
    rw [hg] at hw
    refine .inl (q1 w σ ρ Q r ?_)
    rw [red, hg]; exact hw
  | ok d ρ' =>
    rw [hg] at hw
    cases d with
    | loc _ => exact hw.elim
    | nm _ => exact hw.elim
    | scr ns => refine .inl (q1 w σ ρ Q r ?_); rw [red, hg]; exact hw
    | p x =>
      cases x with
      | list xs => refine .inl (q1 w σ ρ Q r ?_); rw [red, hg]; exact hw
      | tuple xs => refine .inr (.inl (q2 w σ ρ Q r ?_)); rw [red, hg]; exact hw
      | str xs => refine .inr (.inr (q3 w σ ρ Q r ?_)); rw [red, hg]; exact hw
      | none => exact hw.elim
      | bool _ => exact hw.elim
      | int _ => exact hw.elim
      | dict _ => exact hw.elim
end
end DL
namespace K20
open PySem PySem.Spec PyProof.Rows L2 DL
def topS (i : Nat) : Stmt := PySem.Challenge.pw_fitbypapers_k20_texts_of_tuples.main.body.getD i (.Pass ⟨0, 0, 0, 0⟩)
abbrev s_Malformed_init : Stmt := clsS (topS 3) 0
theorem sc_Malformed_init : FnScope ["self", "at"] ["self", "at"] (defScope s_Malformed_init) := ⟨rfl, rfl, rfl, by decide +kernel, rfl, by decide +kernel, by decide +kernel⟩
abbrev s_has_text : Stmt := topS 13
theorem sc_has_text : FnScope ["number", "bound", "_"] ["number"] (defScope s_has_text) := ⟨rfl, rfl, rfl, by decide +kernel, rfl, by decide +kernel, by decide +kernel⟩
abbrev s_term_text : Stmt := topS 14
theorem sc_term_text : FnScope ["term", "sign", "entry"] ["term"] (defScope s_term_text) := ⟨rfl, rfl, rfl, by decide +kernel, rfl, by decide +kernel, by decide +kernel⟩
abbrev s_Reading_init : Stmt := clsS (topS 15) 0
theorem sc_Reading_init : FnScope ["self", "text"] ["self", "text"] (defScope s_Reading_init) := ⟨rfl, rfl, rfl, by decide +kernel, rfl, by decide +kernel, by decide +kernel⟩
abbrev s_Reading_next_sign : Stmt := clsS (topS 15) 1
theorem sc_Reading_next_sign : FnScope ["self"] ["self"] (defScope s_Reading_next_sign) := ⟨rfl, rfl, rfl, by decide +kernel, rfl, by decide +kernel, by decide +kernel⟩
abbrev s_Reading_is_at : Stmt := clsS (topS 15) 2
theorem sc_Reading_is_at : FnScope ["self", "signs"] ["self", "signs"] (defScope s_Reading_is_at) := ⟨rfl, rfl, rfl, by decide +kernel, rfl, by decide +kernel, by decide +kernel⟩
abbrev s_Reading_take : Stmt := clsS (topS 15) 3
theorem sc_Reading_take : FnScope ["self", "signs", "start"] ["self", "signs"] (defScope s_Reading_take) := ⟨rfl, rfl, rfl, by decide +kernel, rfl, by decide +kernel, by decide +kernel⟩
abbrev s_Reading_integer : Stmt := clsS (topS 15) 4
theorem sc_Reading_integer : FnScope ["self", "minus", "start", "zero", "figures"] ["self"] (defScope s_Reading_integer) := ⟨rfl, rfl, rfl, by decide +kernel, rfl, by decide +kernel, by decide +kernel⟩
abbrev s_Reading_term : Stmt := clsS (topS 15) 5
theorem sc_Reading_term : FnScope ["self", "depth", "word"] ["self", "depth"] (defScope s_Reading_term) := ⟨rfl, rfl, rfl, by decide +kernel, rfl, by decide +kernel, by decide +kernel⟩
abbrev s_Reading_told_rows : Stmt := clsS (topS 15) 6
theorem sc_Reading_told_rows : FnScope ["self", "depth", "found"] ["self", "depth"] (defScope s_Reading_told_rows) := ⟨rfl, rfl, rfl, by decide +kernel, rfl, by decide +kernel, by decide +kernel⟩
abbrev s_read_term : Stmt := topS 16
theorem sc_read_term : FnScope ["text", "reading", "term"] ["text"] (defScope s_read_term) := ⟨rfl, rfl, rfl, by decide +kernel, rfl, by decide +kernel, by decide +kernel⟩
abbrev s__law_number : Stmt := topS 18
theorem sc__law_number : FnScope ["cell"] ["cell"] (defScope s__law_number) := ⟨rfl, rfl, rfl, by decide +kernel, rfl, by decide +kernel, by decide +kernel⟩
abbrev s__law_draws : Stmt := topS 19
theorem sc__law_draws : FnScope ["script", "draws", "cell", "rest", "k", "once", "twice"] ["script"] (defScope s__law_draws) := ⟨rfl, rfl, rfl, by decide +kernel, rfl, by decide +kernel, by decide +kernel⟩
abbrev s__law_next : Stmt := topS 20
theorem sc__law_next : FnScope ["draws"] ["draws"] (defScope s__law_next) := ⟨rfl, rfl, rfl, by decide +kernel, rfl, by decide +kernel, by decide +kernel⟩
abbrev s__law_more : Stmt := topS 21
theorem sc__law_more : FnScope ["draws", "many", "seed", "more", "k"] ["draws", "many"] (defScope s__law_more) := ⟨rfl, rfl, rfl, by decide +kernel, rfl, by decide +kernel, by decide +kernel⟩
abbrev s__law_pick : Stmt := topS 22
theorem sc__law_pick : FnScope ["draws", "some"] ["draws", "some"] (defScope s__law_pick) := ⟨rfl, rfl, rfl, by decide +kernel, rfl, by decide +kernel, by decide +kernel⟩
abbrev s__law_term : Stmt := topS 23
theorem sc__law_term : FnScope ["draws", "depth", "kind", "word", "k"] ["draws", "depth"] (defScope s__law_term) := ⟨rfl, rfl, rfl, by decide +kernel, rfl, by decide +kernel, by decide +kernel⟩
abbrev s__law_text : Stmt := topS 24
theorem sc__law_text : FnScope ["term", "entry"] ["term"] (defScope s__law_text) := ⟨rfl, rfl, rfl, by decide +kernel, rfl, by decide +kernel, by decide +kernel⟩
abbrev s__law_integer : Stmt := topS 25
theorem sc__law_integer : FnScope ["text", "at", "start", "first", "k"] ["text", "at"] (defScope s__law_integer) := ⟨rfl, rfl, rfl, by decide +kernel, rfl, by decide +kernel, by decide +kernel⟩
abbrev s__law_read : Stmt := topS 26
theorem sc__law_read : FnScope ["text", "at", "depth", "sign", "end", "k"] ["text", "at", "depth"] (defScope s__law_read) := ⟨rfl, rfl, rfl, by decide +kernel, rfl, by decide +kernel, by decide +kernel⟩
abbrev s__law_entries : Stmt := topS 27
theorem sc__law_entries : FnScope ["text", "at", "depth", "found", "turn", "term", "end"] ["text", "at", "depth"] (defScope s__law_entries) := ⟨rfl, rfl, rfl, by decide +kernel, rfl, by decide +kernel, by decide +kernel⟩
abbrev s__law_due : Stmt := topS 28
theorem sc__law_due : FnScope ["text", "term", "at"] ["text"] (defScope s__law_due) := ⟨rfl, rfl, rfl, by decide +kernel, rfl, by decide +kernel, by decide +kernel⟩
abbrev s__law_told : Stmt := topS 29
theorem sc__law_told : FnScope ["text", "error"] ["text"] (defScope s__law_told) := ⟨rfl, rfl, rfl, by decide +kernel, rfl, by decide +kernel, by decide +kernel⟩
abbrev s__law_refused : Stmt := topS 30
theorem sc__law_refused : FnScope ["term"] ["term"] (defScope s__law_refused) := ⟨rfl, rfl, rfl, by decide +kernel, rfl, by decide +kernel, by decide +kernel⟩
abbrev s_law : Stmt := topS 31
theorem sc_law : FnScope ["script", "draws", "some", "turn", "term", "text", "k", "at", "cut", "sign", "spoilt", "deep", "texts", "great"] ["script"] (defScope s_law) := ⟨rfl, rfl, rfl, by decide +kernel, rfl, by decide +kernel, by decide +kernel⟩
def g_has_text : M Fl := (gSeq (gIfE (gNot (gTru (gBin fShr ((gCons (gVar 0) (M.ret [])).bind (c1 pAbs)) (gC (.int 13287))))) (gSeq (gRet (gC (.bool true)))
    gNext) gNext)
    (gSeq (gAsg (gC (.int 1)) (put 1))
    (gSeq (gFor ((gCons (gC (.int 4000)) (M.ret [])).bind rg1) (put 2) (gSeq (gAug 1 fMulI (gC (.int 10)))
    gNext))
    (gSeq (gRet (gBin (fB2 pLt) ((gCons (gVar 0) (M.ret [])).bind (c1 pAbs)) (gVar 1)))
    gNext))))
def F_has_text : FS := fnF 1 3 g_has_text
def g_term_text (r_term_text : FS) : M Fl := (gSeq (gIfE (gB (gBin (fIsN false) (gVar 0) (gC .none))) (gSeq (gRet (gC (.str "none")))
    gNext) gNext)
    (gSeq (gIfE (gTru ((gVar 0).bind (fIsa PyData.isInt))) (gSeq (gIfE (gNot (gTru ((gCons (gVar 0) (M.ret [])).bind (callM 1 F_has_text)))) (gSeq (gRaise "BadNumber")
    gNext) gNext)
    (gSeq (gRet ((gCons (gVar 0) (M.ret [])).bind (c1 pStrB)))
    gNext)) gNext)
    (gSeq (gIfE (gTru ((gVar 0).bind (fIsa PyData.isStr))) (gSeq (gIfE (gOr (gB (gBin (fB2 pEq) (gVar 0) (gC (.str "none")))) (gNot (gTru ((gCons (gLc false [1] ((gVar 0).bind itA) (put 1) (M.ret true) (gBin (fB2 pIn) (gVar 1) (gC (.str "abcdefghijklmnopqrstuvwxyz")))) (M.ret [])).bind (cBs fun bs => bs.all id))))) (gSeq (gRaise "BadNumber")
    gNext) gNext)
    (gSeq (gRet (gOrT (gVar 0) (gC (.str "."))))
    gNext)) gNext)
    (gSeq (gRet (gBin (fAdd false) (gBin (fAdd false) (gC (.str "(")) ((gC (.str " ")).bind fun a => (asSm a).bind fun z => (gLcE false [2] ((gVar 0).bind itA) (put 2) (M.ret true) ((gCons (gVar 2) (M.ret [])).bind (callM 1 r_term_text))).bind fun d => fJoin z d)) (gC (.str ")"))))
    gNext))))
def F_term_text : Nat → FS
  | 0 => badF
  | n + 1 => fnF 1 3 (g_term_text (F_term_text n))
def g_Reading_init : M Fl := (gSeq (sFldG "Reading" "text" (gVar 1) (gVar 0))
    (gSeq (sFldG "Reading" "at" (gC (.int 0)) (gVar 0))
    gNext))
def F_Reading_init : FS := fnF 2 2 g_Reading_init
def g_Reading_next_sign : M Fl := (gSeq (gRet (((gVar 0).bind (fFld "Reading" "text")).bind fun a => (((gVar 0).bind (fFld "Reading" "at")).bind asIm).bind fun l => ((gBin (fAdd false) ((gVar 0).bind (fFld "Reading" "at")) (gC (.int 1))).bind asIm).bind fun h => fSl false a l h))
    gNext)
def F_Reading_next_sign : FS := fnF 1 1 g_Reading_next_sign
def g_Reading_is_at : M Fl := (gSeq (gRet (gAndT (gBin (fB2 pNe) (gMeth "Reading" "next_sign" 1 F_Reading_next_sign (gVar 0) (M.ret [])) (gC (.str ""))) (gBin (fB2 pIn) (gMeth "Reading" "next_sign" 1 F_Reading_next_sign (gVar 0) (M.ret [])) (gVar 1))))
    gNext)
def F_Reading_is_at : FS := fnF 2 2 g_Reading_is_at
def g_Reading_take : M Fl := (gSeq (gAsg ((gVar 0).bind (fFld "Reading" "at")) (put 2))
    (gSeq (whN 100000 (gTru (gMeth "Reading" "is_at" 2 F_Reading_is_at (gVar 0) (gCons (gVar 1) (M.ret [])))) (gSeq (sFldAdd "Reading" "at" (gVar 0) (gC (.int 1)))
    gNext))
    (gSeq (gRet (((gVar 0).bind (fFld "Reading" "text")).bind fun a => ((gVar 2).bind asIm).bind fun l => (((gVar 0).bind (fFld "Reading" "at")).bind asIm).bind fun h => fSl false a l h))
    gNext)))
def F_Reading_take : FS := fnF 2 3 g_Reading_take
def g_Reading_integer : M Fl := (gSeq (gAsg (gMeth "Reading" "is_at" 2 F_Reading_is_at (gVar 0) (gCons (gC (.str "-")) (M.ret []))) (put 1))
    (gSeq (gIfE (gTru (gVar 1)) (gSeq (sFldAdd "Reading" "at" (gVar 0) (gC (.int 1)))
    gNext) gNext)
    (gSeq (gAsg ((gVar 0).bind (fFld "Reading" "at")) (put 2))
    (gSeq (gIfE (gOr (gNot (gTru (gMeth "Reading" "is_at" 2 F_Reading_is_at (gVar 0) (gCons (gC (.str "0123456789")) (M.ret []))))) (gAnd (gTru (gVar 1)) (gTru (gMeth "Reading" "is_at" 2 F_Reading_is_at (gVar 0) (gCons (gC (.str "0")) (M.ret [])))))) (gSeq (gRaise1 "Malformed" "at" ((gVar 0).bind (fFld "Reading" "at")))
    gNext) gNext)
    (gSeq (gAsg (gMeth "Reading" "is_at" 2 F_Reading_is_at (gVar 0) (gCons (gC (.str "0")) (M.ret []))) (put 3))
    (gSeq (gAsg (gMeth "Reading" "take" 2 F_Reading_take (gVar 0) (gCons (gC (.str "0123456789")) (M.ret []))) (put 4))
    (gSeq (gIfE (gAnd (gTru (gVar 3)) (gB (gBin (fB2 pGt) ((gCons (gVar 4) (M.ret [])).bind (c1 pLen)) (gC (.int 1))))) (gSeq (gRaise1 "Malformed" "at" (gBin (fAdd false) (gVar 2) (gC (.int 1))))
    gNext) gNext)
    (gSeq (gIfE (gB (gBin (fB2 pGt) ((gCons (gVar 4) (M.ret [])).bind (c1 pLen)) (gC (.int 20)))) (gSeq (gRaise1 "Malformed" "at" (gBin (fAdd false) (gVar 2) (gC (.int 20))))
    gNext) gNext)
    (gSeq (gRet (gIfE (gTru (gVar 1)) (((gCons (gVar 4) (M.ret [])).bind (c1 pInt)).bind fNeg) ((gCons (gVar 4) (M.ret [])).bind (c1 pInt))))
    gNext)))))))))
def F_Reading_integer : FS := fnF 1 5 g_Reading_integer
def g_Reading_term (r_Reading_told_rows : FS) : M Fl := (gSeq (gIfE (gTru (gMeth "Reading" "is_at" 2 F_Reading_is_at (gVar 0) (gCons (gC (.str "(")) (M.ret [])))) (gSeq (gIfE (gB (gBin (fB2 pEq) (gVar 1) (gC (.int 24)))) (gSeq (gRaise1 "Malformed" "at" ((gVar 0).bind (fFld "Reading" "at")))
    gNext) gNext)
    (gSeq (gRet (gMeth "Reading" "told_rows" 2 r_Reading_told_rows (gVar 0) (gCons (gBin (fAdd false) (gVar 1) (gC (.int 1))) (M.ret []))))
    gNext)) gNext)
    (gSeq (gIfE (gTru (gMeth "Reading" "is_at" 2 F_Reading_is_at (gVar 0) (gCons (gC (.str ".")) (M.ret [])))) (gSeq (sFldAdd "Reading" "at" (gVar 0) (gC (.int 1)))
    (gSeq (gRet (gC (.str "")))
    gNext)) gNext)
    (gSeq (gIfE (gTru (gMeth "Reading" "is_at" 2 F_Reading_is_at (gVar 0) (gCons (gC (.str "abcdefghijklmnopqrstuvwxyz")) (M.ret [])))) (gSeq (gAsg (gMeth "Reading" "take" 2 F_Reading_take (gVar 0) (gCons (gC (.str "abcdefghijklmnopqrstuvwxyz")) (M.ret []))) (put 2))
    (gSeq (gRet (gIfE (gB (gBin (fB2 pEq) (gVar 2) (gC (.str "none")))) (gC .none) (gVar 2)))
    gNext)) gNext)
    (gSeq (gRet (gMeth "Reading" "integer" 1 F_Reading_integer (gVar 0) (M.ret [])))
    gNext))))
def g_Reading_told_rows (r_Reading_term : FS) : M Fl := (gSeq (sFldAdd "Reading" "at" (gVar 0) (gC (.int 1)))
    (gSeq (gAsg ((M.ret []).bind (mkL true)) (put 2))
    (gSeq (whN 100000 (gNot (gTru (gMeth "Reading" "is_at" 2 F_Reading_is_at (gVar 0) (gCons (gC (.str ")")) (M.ret []))))) (gSeq (gIfE (gTru (gVar 2)) (gSeq (gIfE (gNot (gTru (gMeth "Reading" "is_at" 2 F_Reading_is_at (gVar 0) (gCons (gC (.str " ")) (M.ret []))))) (gSeq (gRaise1 "Malformed" "at" ((gVar 0).bind (fFld "Reading" "at")))
    gNext) gNext)
    (gSeq (sFldAdd "Reading" "at" (gVar 0) (gC (.int 1)))
    gNext)) gNext)
    (gSeq (gExpr (gM (gVar 2) (gCons (gMeth "Reading" "term" 2 r_Reading_term (gVar 0) (gCons (gVar 1) (M.ret []))) (M.ret [])) mAppend))
    gNext)))
    (gSeq (sFldAdd "Reading" "at" (gVar 0) (gC (.int 1)))
    (gSeq (gRet ((gCons (gVar 2) (M.ret [])).bind cTup))
    gNext)))))
mutual
def F_Reading_term : Nat → FS
  | 0 => badF
  | n + 1 => fnF 2 3 (g_Reading_term (F_Reading_told_rows n))
def F_Reading_told_rows : Nat → FS
  | 0 => badF
  | n + 1 => fnF 2 3 (g_Reading_told_rows (F_Reading_term n))
end
def g_read_term : M Fl := (gSeq (gAsg (gMake "Reading" 2 F_Reading_init (gCons (gVar 0) (M.ret []))) (put 1))
    (gSeq (gAsg (gMeth "Reading" "term" 2 (F_Reading_term 60) (gVar 1) (gCons (gC (.int 0)) (M.ret []))) (put 2))
    (gSeq (gIfE (gB (gBin (fB2 pLt) ((gVar 1).bind (fFld "Reading" "at")) ((gCons (gVar 0) (M.ret [])).bind (c1 pLen)))) (gSeq (gRaise1 "Malformed" "at" ((gVar 1).bind (fFld "Reading" "at")))
    gNext) gNext)
    (gSeq (gRet (gVar 2))
    gNext))))
def F_read_term : FS := fnF 1 3 g_read_term
def g__law_number : M Fl := (gSeq (gIfE (gB (gBin (fB2 pLt) (gVar 0) (gC (.int 0)))) (gSeq (gRet (gBin fSub (gC (.int 0)) (gVar 0)))
    gNext) gNext)
    (gSeq (gRet (gVar 0))
    gNext))
def F__law_number : FS := fnF 1 1 g__law_number
def g__law_draws : M Fl := (gSeq (gAsg ((M.ret []).bind (mkL true)) (put 1))
    (gSeq (gFor ((gVar 0).bind itA) (put 2) (gSeq (gAsg ((gCons (gVar 2) (M.ret [])).bind (callM 1 F__law_number)) (put 3))
    (gSeq (gIfE (gB (gBin (fB2 pGe) (gVar 3) (gC (.int 1000000000000000000)))) (gSeq (gFor ((gCons (gC (.int 60)) (M.ret [])).bind rg1) (put 4) (gSeq (gIfE (gB (gBin (fB2 pEq) (gVar 3) (gC (.int 0)))) (gSeq (M.ret .bk)
    gNext) gNext)
    (gSeq (gExpr (gM (gVar 1) (gCons (gBin fMod ((gCons (gVar 3) (M.ret [])).bind (c1 pInt)) (gC (.int 1000))) (M.ret [])) mAppend))
    (gSeq (gAsg (gBin fFdiv (gVar 3) (gC (.int 1000))) (put 3))
    gNext))))
    gNext) (gSeq (gAsg (gBin fMod ((gCons (gBin (fAdd false) (gBin (fMul false) (gVar 3) (gC (.int 48271))) (gC (.int 11))) (M.ret [])).bind (c1 pInt)) (gC (.int 2147483647))) (put 5))
    (gSeq (gAsg (gBin fMod ((gCons (gBin (fAdd false) (gBin (fMul false) (gVar 5) (gC (.int 69621))) (gVar 3)) (M.ret [])).bind (c1 pInt)) (gC (.int 2147483629))) (put 6))
    (gSeq (gExpr (gM (gVar 1) (gCons ((gCons (gBin fMod ((gCons (gVar 3) (M.ret [])).bind (c1 pInt)) (gC (.int 1000))) (gCons (gBin fMod ((gCons (gVar 5) (M.ret [])).bind (c1 pInt)) (gC (.int 1000))) (gCons (gBin fMod ((gCons (gVar 6) (M.ret [])).bind (c1 pInt)) (gC (.int 1000))) (M.ret [])))).bind (mkL false)) (M.ret [])) mExtend))
    gNext))))
    gNext)))
    (gSeq (gExpr (gM (gVar 1) (M.ret []) mReverse))
    (gSeq (gRet (gVar 1))
    gNext))))
def F__law_draws : FS := fnF 1 7 g__law_draws
def g__law_next : M Fl := (gSeq (gIfE (gTru (gVar 0)) (gSeq (gRet (gM (gVar 0) (M.ret []) mPop))
    gNext) gNext)
    (gSeq (gRet (gC (.int 0)))
    gNext))
def F__law_next : FS := fnF 1 1 g__law_next
def g__law_more : M Fl := (gSeq (gAsg (gBin (fAdd false) (gBin (fAdd false) (gBin (fMul false) (gC (.int 1000)) ((gCons (gVar 0) (M.ret [])).bind (callM 1 F__law_next))) ((gCons (gVar 0) (M.ret [])).bind (callM 1 F__law_next))) (gC (.int 1))) (put 2))
    (gSeq (gAsg ((M.ret []).bind (mkL true)) (put 3))
    (gSeq (gFor ((gCons (gVar 1) (M.ret [])).bind rg1) (put 4) (gSeq (gAsg (gBin fMod ((gCons (gBin (fAdd false) (gBin (fMul false) (gVar 2) (gC (.int 48271))) (gC (.int 12345))) (M.ret [])).bind (c1 pInt)) (gC (.int 2147483647))) (put 2))
    (gSeq (gExpr (gM (gVar 3) (gCons (gBin fMod ((gCons (gBin fFdiv (gVar 2) (gC (.int 7))) (M.ret [])).bind (c1 pInt)) (gC (.int 1000))) (M.ret [])) mAppend))
    gNext)))
    (gSeq (gRet (gBin (fAdd true) (gVar 3) (gVar 0)))
    gNext))))
def F__law_more : FS := fnF 2 5 g__law_more
def g__law_pick : M Fl := (gSeq (gRet (gBin fIx (gVar 1) (gBin fMod ((gCons ((gCons (gVar 0) (M.ret [])).bind (callM 1 F__law_next)) (M.ret [])).bind (c1 pInt)) ((gCons (gVar 1) (M.ret [])).bind (c1 pLen)))))
    gNext)
def F__law_pick : FS := fnF 2 2 g__law_pick
def g__law_term (r__law_term : FS) : M Fl := (gSeq (gAsg (gBin fMod ((gCons ((gCons (gVar 0) (M.ret [])).bind (callM 1 F__law_next)) (M.ret [])).bind (c1 pInt)) (gIfE (gB (gBin (fB2 pLt) (gVar 1) (gC (.int 4)))) (gC (.int 8)) (gC (.int 5)))) (put 2))
    (gSeq (gIfE (gB (gBin (fB2 pEq) (gVar 2) (gC (.int 0)))) (gSeq (gAsg ((gC (.str "")).bind fun a => (asSm a).bind fun z => (gLc false [4] ((gCons (gBin fMod ((gCons ((gCons (gVar 0) (M.ret [])).bind (callM 1 F__law_next)) (M.ret [])).bind (c1 pInt)) (gC (.int 6))) (M.ret [])).bind rg1) (put 4) (M.ret true) (gBin fIx (gC (.str "abcnoze")) (gBin fMod ((gCons ((gCons (gVar 0) (M.ret [])).bind (callM 1 F__law_next)) (M.ret [])).bind (c1 pInt)) (gC (.int 7))))).bind fun d => fJoin z d) (put 3))
    (gSeq (gRet (gIfE (gB (gBin (fB2 pEq) (gVar 3) (gC (.str "none")))) (gC (.str "zone")) (gVar 3)))
    gNext)) gNext)
    (gSeq (gIfE (gB (gBin (fB2 pEq) (gVar 2) (gC (.int 1)))) (gSeq (gRet ((gCons (gVar 0) (gCons ((gCons (gC .none) (gCons (gC (.int 0)) (gCons ((gC (.int 1)).bind fNeg) (gCons (gBin fPow (gC (.int 10)) (gC (.int 19))) (gCons (gBin (fAdd false) (gBin fSub (gC (.int 0)) (gBin fPow (gC (.int 10)) (gC (.int 20)))) (gC (.int 1))) (M.ret [])))))).bind (mkL false)) (M.ret []))).bind (callM 2 F__law_pick)))
    gNext) gNext)
    (gSeq (gIfE (gB (gBin (fB2 pLt) (gVar 2) (gC (.int 5)))) (gSeq (gRet (gBin fSub ((gCons ((gCons (gVar 0) (M.ret [])).bind (callM 1 F__law_next)) (M.ret [])).bind (c1 pInt)) (gBin (fMul false) (gC (.int 100)) (gBin fMod ((gCons ((gCons (gVar 0) (M.ret [])).bind (callM 1 F__law_next)) (M.ret [])).bind (c1 pInt)) (gC (.int 7))))))
    gNext) gNext)
    (gSeq (gRet ((gCons (gLc false [4] ((gCons (gBin fMod ((gCons ((gCons (gVar 0) (M.ret [])).bind (callM 1 F__law_next)) (M.ret [])).bind (c1 pInt)) (gC (.int 4))) (M.ret [])).bind rg1) (put 4) (M.ret true) ((gCons (gVar 0) (gCons (gBin (fAdd false) (gVar 1) (gC (.int 1))) (M.ret []))).bind (callM 2 r__law_term))) (M.ret [])).bind cTup))
    gNext)))))
def F__law_term : Nat → FS
  | 0 => badF
  | n + 1 => fnF 2 5 (g__law_term (F__law_term n))
def g__law_text (r__law_text : FS) : M Fl := (gSeq (gIfE (gB (gBin (fIsN false) (gVar 0) (gC .none))) (gSeq (gRet (gC (.str "none")))
    gNext) gNext)
    (gSeq (gIfE (gTru ((gVar 0).bind (fIsa PyData.isInt))) (gSeq (gRet ((gCons (gVar 0) (M.ret [])).bind (c1 pStrB)))
    gNext) gNext)
    (gSeq (gIfE (gTru ((gVar 0).bind (fIsa PyData.isStr))) (gSeq (gRet (gIfE (gB (gBin (fB2 pNe) (gVar 0) (gC (.str "")))) (gVar 0) (gC (.str "."))))
    gNext) gNext)
    (gSeq (gRet (gBin (fAdd false) (gBin (fAdd false) (gC (.str "(")) ((gC (.str " ")).bind fun a => (asSm a).bind fun z => (gLc false [1] ((gVar 0).bind itA) (put 1) (M.ret true) ((gCons (gVar 1) (M.ret [])).bind (callM 1 r__law_text))).bind fun d => fJoin z d)) (gC (.str ")"))))
    gNext))))
def F__law_text : Nat → FS
  | 0 => badF
  | n + 1 => fnF 1 2 (g__law_text (F__law_text n))
def g__law_integer : M Fl := (gSeq (gAsg (gVar 1) (put 2))
    (gSeq (gIfE (gB (gBin (fB2 pEq) ((gVar 0).bind fun a => ((gVar 1).bind asIm).bind fun l => ((gBin (fAdd false) (gVar 1) (gC (.int 1))).bind asIm).bind fun h => fSl false a l h) (gC (.str "-")))) (gSeq (gAsg (gBin (fAdd false) (gVar 1) (gC (.int 1))) (put 1))
    (gSeq (gIfE (gB (gBin (fB2 pEq) ((gVar 0).bind fun a => ((gVar 1).bind asIm).bind fun l => ((gBin (fAdd false) (gVar 1) (gC (.int 1))).bind asIm).bind fun h => fSl false a l h) (gC (.str "0")))) (gSeq (gRet ((gCons (gC (.str "bad")) (gCons (gVar 1) (M.ret []))).bind (mkL false)))
    gNext) gNext)
    gNext)) gNext)
    (gSeq (gAsg (gVar 1) (put 3))
    (gSeq (gFor ((gCons ((gCons (gVar 0) (M.ret [])).bind (c1 pLen)) (M.ret [])).bind rg1) (put 4) (gSeq (gIfE (gAnd (gB (gBin (fB2 pLt) (gVar 1) ((gCons (gVar 0) (M.ret [])).bind (c1 pLen)))) (gB (gBin (fB2 pIn) (gBin fIx (gVar 0) (gVar 1)) (gC (.str "0123456789"))))) (gSeq (gAsg (gBin (fAdd false) (gVar 1) (gC (.int 1))) (put 1))
    gNext) gNext)
    gNext))
    (gSeq (gIfE (gB (gBin (fB2 pEq) (gVar 1) (gVar 3))) (gSeq (gRet ((gCons (gC (.str "bad")) (gCons (gVar 1) (M.ret []))).bind (mkL false)))
    gNext) gNext)
    (gSeq (gIfE (gAnd (gB (gBin (fB2 pEq) (gBin fIx (gVar 0) (gVar 3)) (gC (.str "0")))) (gB (gBin (fB2 pGt) (gVar 1) (gBin (fAdd false) (gVar 3) (gC (.int 1)))))) (gSeq (gRet ((gCons (gC (.str "bad")) (gCons (gBin (fAdd false) (gVar 3) (gC (.int 1))) (M.ret []))).bind (mkL false)))
    gNext) gNext)
    (gSeq (gIfE (gB (gBin (fB2 pGt) (gBin fSub (gVar 1) (gVar 3)) (gC (.int 20)))) (gSeq (gRet ((gCons (gC (.str "bad")) (gCons (gBin (fAdd false) (gVar 3) (gC (.int 20))) (M.ret []))).bind (mkL false)))
    gNext) gNext)
    (gSeq (gRet ((gCons ((gCons ((gVar 0).bind fun a => ((gVar 2).bind asIm).bind fun l => ((gVar 1).bind asIm).bind fun h => fSl false a l h) (M.ret [])).bind (c1 pInt)) (gCons (gVar 1) (M.ret []))).bind (mkL false)))
    gNext))))))))
def F__law_integer : FS := fnF 2 5 g__law_integer
def g__law_read (r__law_entries : FS) : M Fl := (gSeq (gAsg ((gVar 0).bind fun a => ((gVar 1).bind asIm).bind fun l => ((gBin (fAdd false) (gVar 1) (gC (.int 1))).bind asIm).bind fun h => fSl false a l h) (put 3))
    (gSeq (gIfE (gB (gBin (fB2 pEq) (gVar 3) (gC (.str "(")))) (gSeq (gIfE (gB (gBin (fB2 pEq) (gVar 2) (gC (.int 24)))) (gSeq (gRet ((gCons (gC (.str "bad")) (gCons (gVar 1) (M.ret []))).bind (mkL false)))
    gNext) gNext)
    (gSeq (gRet ((gCons (gVar 0) (gCons (gBin (fAdd false) (gVar 1) (gC (.int 1))) (gCons (gBin (fAdd false) (gVar 2) (gC (.int 1))) (M.ret [])))).bind (callM 3 r__law_entries)))
    gNext)) gNext)
    (gSeq (gIfE (gB (gBin (fB2 pEq) (gVar 3) (gC (.str ".")))) (gSeq (gRet ((gCons (gC (.str "")) (gCons (gBin (fAdd false) (gVar 1) (gC (.int 1))) (M.ret []))).bind (mkL false)))
    gNext) gNext)
    (gSeq (gIfE (gAnd (gB (gBin (fB2 pNe) (gVar 3) (gC (.str "")))) (gB (gBin (fB2 pIn) (gVar 3) (gC (.str "abcdefghijklmnopqrstuvwxyz"))))) (gSeq (gAsg (gVar 1) (put 4))
    (gSeq (gFor ((gCons ((gCons (gVar 0) (M.ret [])).bind (c1 pLen)) (M.ret [])).bind rg1) (put 5) (gSeq (gIfE (gAnd (gB (gBin (fB2 pLt) (gVar 4) ((gCons (gVar 0) (M.ret [])).bind (c1 pLen)))) (gB (gBin (fB2 pIn) (gBin fIx (gVar 0) (gVar 4)) (gC (.str "abcdefghijklmnopqrstuvwxyz"))))) (gSeq (gAsg (gBin (fAdd false) (gVar 4) (gC (.int 1))) (put 4))
    gNext) gNext)
    gNext))
    (gSeq (gRet ((gCons (gIfE (gB (gBin (fB2 pEq) ((gVar 0).bind fun a => ((gVar 1).bind asIm).bind fun l => ((gVar 4).bind asIm).bind fun h => fSl false a l h) (gC (.str "none")))) (gC .none) ((gVar 0).bind fun a => ((gVar 1).bind asIm).bind fun l => ((gVar 4).bind asIm).bind fun h => fSl false a l h)) (gCons (gVar 4) (M.ret []))).bind (mkL false)))
    gNext))) gNext)
    (gSeq (gRet ((gCons (gVar 0) (gCons (gVar 1) (M.ret []))).bind (callM 2 F__law_integer)))
    gNext)))))
def g__law_entries (r__law_read : FS) : M Fl := (gSeq (gAsg ((M.ret []).bind (mkL true)) (put 3))
    (gSeq (gFor ((gCons (gBin (fAdd false) ((gCons (gVar 0) (M.ret [])).bind (c1 pLen)) (gC (.int 1))) (M.ret [])).bind rg1) (put 4) (gSeq (gIfE (gB (gBin (fB2 pEq) ((gVar 0).bind fun a => ((gVar 1).bind asIm).bind fun l => ((gBin (fAdd false) (gVar 1) (gC (.int 1))).bind asIm).bind fun h => fSl false a l h) (gC (.str ")")))) (gSeq (gRet ((gCons ((gCons (gVar 3) (M.ret [])).bind cTup) (gCons (gBin (fAdd false) (gVar 1) (gC (.int 1))) (M.ret []))).bind (mkL false)))
    gNext) gNext)
    (gSeq (gIfE (gTru (gVar 3)) (gSeq (gIfE (gB (gBin (fB2 pNe) ((gVar 0).bind fun a => ((gVar 1).bind asIm).bind fun l => ((gBin (fAdd false) (gVar 1) (gC (.int 1))).bind asIm).bind fun h => fSl false a l h) (gC (.str " ")))) (gSeq (gRet ((gCons (gC (.str "bad")) (gCons (gVar 1) (M.ret []))).bind (mkL false)))
    gNext) gNext)
    (gSeq (gAsg (gBin (fAdd false) (gVar 1) (gC (.int 1))) (put 1))
    gNext)) gNext)
    (gSeq (gAsg ((gCons (gVar 0) (gCons (gVar 1) (gCons (gVar 2) (M.ret [])))).bind (callM 3 r__law_read)) (gSeqG 2 (gsCons (put 5) (gsCons (put 6) gsNil))))
    (gSeq (gIfE (gAnd (gB (gBin (fB2 pEq) (gVar 5) (gC (.str "bad")))) (gTru ((gVar 5).bind (fIsa PyData.isStr)))) (gSeq (gRet ((gCons (gVar 5) (gCons (gVar 6) (M.ret []))).bind (mkL false)))
    gNext) gNext)
    (gSeq (gExpr (gM (gVar 3) (gCons (gVar 5) (M.ret [])) mAppend))
    (gSeq (gAsg (gVar 6) (put 1))
    gNext)))))))
    (gSeq (gRet ((gCons (gC (.str "bad")) (gCons (gVar 1) (M.ret []))).bind (mkL false)))
    gNext)))
mutual
def F__law_read : Nat → FS
  | 0 => badF
  | n + 1 => fnF 3 6 (g__law_read (F__law_entries n))
def F__law_entries : Nat → FS
  | 0 => badF
  | n + 1 => fnF 3 7 (g__law_entries (F__law_read n))
end
def g__law_due : M Fl := (gSeq (gAsg ((gCons (gVar 0) (gCons (gC (.int 0)) (gCons (gC (.int 0)) (M.ret [])))).bind (callM 3 (F__law_read 60))) (gSeqG 2 (gsCons (put 1) (gsCons (put 2) gsNil))))
    (gSeq (gIfE (gAnd (gTru ((gVar 1).bind (fIsa PyData.isStr))) (gB (gBin (fB2 pEq) (gVar 1) (gC (.str "bad"))))) (gSeq (gRet ((gCons (gC (.str "bad")) (gCons (gVar 2) (M.ret []))).bind (mkL false)))
    gNext) gNext)
    (gSeq (gRet (gIfE (gB (gBin (fB2 pLt) (gVar 2) ((gCons (gVar 0) (M.ret [])).bind (c1 pLen)))) ((gCons (gC (.str "bad")) (gCons (gVar 2) (M.ret []))).bind (mkL false)) ((gCons (gC (.str "term")) (gCons (gVar 1) (M.ret []))).bind (mkL false))))
    gNext)))
def F__law_due : FS := fnF 1 3 g__law_due
def g__law_told : M Fl := (gSeq (gTryAs 1 (gSeq (gRet ((gCons (gC (.str "term")) (gCons ((gCons (gVar 0) (M.ret [])).bind (callM 1 F_read_term)) (M.ret []))).bind (mkL false)))
    gNext) (fun e => if e = "Malformed" then some true else none) (hTextFld "Malformed" "at" "bad"))
    gNext)
def F__law_told : FS := fnF 1 2 g__law_told
def g__law_refused : M Fl := (gSeq (gTry (gSeq (gExpr ((gCons (gVar 0) (M.ret [])).bind (callM 1 (F_term_text 60))))
    (gSeq (gRet (gC (.bool false)))
    gNext)) (fun e => if e = "BadNumber" then some true else none) (fun _ => (gSeq (gRet (gC (.bool true)))
    gNext)))
    gNext)
def F__law_refused : FS := fnF 1 1 g__law_refused
def g_law : M Fl := (gSeq (gAsg ((gCons (gVar 0) (M.ret [])).bind (callM 1 F__law_draws)) (put 1))
    (gSeq (gAsg ((gCons (gVar 1) (gCons (gC (.int 120)) (M.ret []))).bind (callM 2 F__law_more)) (put 1))
    (gSeq (gAsg ((gCons ((gCons (gC (.int 1)) (gCons (gC (.int 2)) (M.ret []))).bind mkT) (gCons ((gCons (gC (.int 1)) (gCons (gC (.int 1)) (M.ret []))).bind mkT) (M.ret []))).bind mkT) (put 2))
    (gSeq (gIfE (gOr (gB (gBin (fB2 pNe) ((gCons (gVar 2) (M.ret [])).bind (callM 1 (F_term_text 60))) (gC (.str "((1 2) (1 1))")))) (gB (gBin (fB2 pNe) ((gCons ((gCons (gC (.str "(. none (-5))")) (M.ret [])).bind (callM 1 F_read_term)) (M.ret [])).bind cRepr) ((gCons ((gCons (gC (.str "")) (gCons (gC .none) (gCons ((gCons ((gC (.int 5)).bind fNeg) (M.ret [])).bind mkT) (M.ret [])))).bind mkT) (M.ret [])).bind cRepr)))) (gSeq (gRet (gC (.bool false)))
    gNext) gNext)
    (gSeq (gFor ((gCons (gC (.int 4)) (M.ret [])).bind rg1) (put 3) (gSeq (gAsg ((gCons (gVar 1) (gCons (gC (.int 0)) (M.ret []))).bind (callM 2 (F__law_term 60))) (put 4))
    (gSeq (gAsg ((gCons (gVar 4) (M.ret [])).bind (callM 1 (F__law_text 60))) (put 5))
    (gSeq (gIfE (gOr (gB (gBin (fB2 pNe) ((gCons (gVar 4) (M.ret [])).bind (callM 1 (F_term_text 60))) (gVar 5))) (gB (gBin (fB2 pNe) ((gCons ((gCons (gVar 5) (M.ret [])).bind (callM 1 F__law_told)) (M.ret [])).bind cRepr) ((gCons ((gCons (gC (.str "term")) (gCons (gVar 4) (M.ret []))).bind (mkL false)) (M.ret [])).bind cRepr)))) (gSeq (gRet (gC (.bool false)))
    gNext) gNext)
    (gSeq (gIfE (gAnd (gTru ((gVar 4).bind (fIsa PyData.isTuple))) (gB (gBin (fB2 pNe) ((gCons ((gCons (gVar 4) (M.ret [])).bind (cLst false)) (M.ret [])).bind (callM 1 (F_term_text 60))) (gVar 5)))) (gSeq (gRet (gC (.bool false)))
    gNext) gNext)
    (gSeq (gFor ((gCons (gC (.int 5)) (M.ret [])).bind rg1) (put 6) (gSeq (gAsg (gBin fMod ((gCons ((gCons (gVar 1) (M.ret [])).bind (callM 1 F__law_next)) (M.ret [])).bind (c1 pInt)) (gBin (fAdd false) ((gCons (gVar 5) (M.ret [])).bind (c1 pLen)) (gC (.int 1)))) (put 7))
    (gSeq (gAsg (gBin fMod ((gCons ((gCons (gVar 1) (M.ret [])).bind (callM 1 F__law_next)) (M.ret [])).bind (c1 pInt)) (gC (.int 2))) (put 8))
    (gSeq (gAsg ((gCons (gVar 1) (gCons ((gCons (gC (.str "")) (gCons (gC (.str " ")) (gCons (gC (.str "(")) (gCons (gC (.str ")")) (gCons (gC (.str "-")) (gCons (gC (.str "0")) (gCons (gC (.str "7")) (gCons (gC (.str "a")) (gCons (gC (.str ".")) (gCons (gC (.str "A")) (gCons (gC (.str "_")) (gCons (gC (.str "\t")) (M.ret []))))))))))))).bind (mkL false)) (M.ret []))).bind (callM 2 F__law_pick)) (put 9))
    (gSeq (gAsg (gBin (fAdd false) (gBin (fAdd false) ((gVar 5).bind fun a => (M.ret none).bind fun l => ((gVar 7).bind asIm).bind fun h => fSl false a l h) (gVar 9)) ((gVar 5).bind fun a => ((gBin (fAdd false) (gVar 7) (gVar 8)).bind asIm).bind fun l => (M.ret none).bind fun h => fSl false a l h)) (put 10))
    (gSeq (gIfE (gAnd (gB (gBin (fB2 pNotIn) (gC (.str "bad")) (gVar 10))) (gB (gBin (fB2 pNe) ((gCons ((gCons (gVar 10) (M.ret [])).bind (callM 1 F__law_told)) (M.ret [])).bind cRepr) ((gCons ((gCons (gVar 10) (M.ret [])).bind (callM 1 F__law_due)) (M.ret [])).bind cRepr)))) (gSeq (gRet (gC (.bool false)))
    gNext) gNext)
    gNext))))))
    gNext))))))
    (gSeq (gAsg (gBin (fAdd false) (gBin (fAdd false) (gBin (fMul false) (gC (.str "(")) (gC (.int 24))) (gC (.str "5"))) (gBin (fMul false) (gC (.str ")")) (gC (.int 24)))) (put 11))
    (gSeq (gAsg ((gCons (gC (.str "")) (gCons (gC (.str "(")) (gCons (gC (.str "()")) (gCons (gC (.str "( )")) (gCons (gC (.str "(1 )")) (gCons (gC (.str "(1  2)")) (gCons (gC (.str "(1 2")) (gCons (gC (.str "1 2")) (gCons (gC (.str "-0")) (gCons (gC (.str "00")) (gCons (gC (.str "01")) (gCons (gC (.str "-")) (gCons (gBin (fMul false) (gC (.str "1")) (gC (.int 20))) (gCons (gBin (fMul false) (gC (.str "1")) (gC (.int 21))) (gCons (gBin (fAdd false) (gC (.str "-")) (gBin (fMul false) (gC (.str "9")) (gC (.int 21)))) (gCons (gVar 11) (gCons (gBin (fAdd false) (gBin (fAdd false) (gC (.str "(")) (gVar 11)) (gC (.str ")"))) (gCons (gC (.str "()()")) (gCons (gC (.str "(a.)")) (gCons (gC (.str "5a")) (gCons (gC (.str "a5")) (M.ret [])))))))))))))))))))))).bind (mkL false)) (put 12))
    (gSeq (gAsg (gBin (fAdd false) (gVar 12) ((gCons (gC (.str "none")) (gCons (gC (.str "..")) (gCons (gC (.str ")")) (M.ret [])))).bind (mkL false))) (put 12))
    (gSeq (gIfE (gB (gBin (fB2 pNe) (gLc false [5] ((gVar 12).bind itA) (put 5) (M.ret true) ((gCons ((gCons (gVar 5) (M.ret [])).bind (callM 1 F__law_told)) (M.ret [])).bind cRepr)) (gLc false [5] ((gVar 12).bind itA) (put 5) (M.ret true) ((gCons ((gCons (gVar 5) (M.ret [])).bind (callM 1 F__law_due)) (M.ret [])).bind cRepr)))) (gSeq (gRet (gC (.bool false)))
    gNext) gNext)
    (gSeq (gAsg (gC (.int 1)) (put 13))
    (gSeq (gFor ((gCons (gC (.int 4000)) (M.ret [])).bind rg1) (put 3) (gSeq (gAsg (gBin (fMul false) (gC (.int 10)) (gVar 13)) (put 13))
    gNext))
    (gSeq (gIfE (gOr (gB (gBin (fB2 pNe) ((gCons (gBin fSub (gVar 13) (gC (.int 1))) (M.ret [])).bind (callM 1 (F_term_text 60))) (gBin (fMul false) (gC (.str "9")) (gC (.int 4000))))) (gOr (gB (gBin (fB2 pNe) ((gCons (gBin fSub (gC (.int 1)) (gVar 13)) (M.ret [])).bind (callM 1 (F_term_text 60))) (gBin (fAdd false) (gC (.str "-")) (gBin (fMul false) (gC (.str "9")) (gC (.int 4000)))))) (gNot (gTru ((gCons (gVar 13) (M.ret [])).bind (callM 1 F__law_refused)))))) (gSeq (gRet (gC (.bool false)))
    gNext) gNext)
    (gSeq (gRet (gBin (fB2 pEq) (gLc false [4] (((gCons (gC (.str "none")) (gCons (gC (.str "A")) (gCons (gC (.str "a b")) (gCons ((gCons (gC (.str "ok")) (gCons (gC (.str "x1")) (M.ret []))).bind mkT) (gCons ((gCons ((gCons (gC (.str "none")) (M.ret [])).bind mkT) (M.ret [])).bind mkT) (M.ret [])))))).bind (mkL false)).bind itA) (put 4) (M.ret true) ((gCons (gVar 4) (M.ret [])).bind (callM 1 F__law_refused))) (gBin (fMul false) ((gCons (gC (.bool true)) (M.ret [])).bind (mkL false)) (gC (.int 5)))))
    gNext)))))))))))))
def F_law : FS := fnF 1 14 g_law
structure Fa (K : PySem.W.Frag) (mg : Str → Option Value) : Prop where
  digits : PySem.W.nsIn K cStatics "sys.int_max_str_digits" = some none
  n_abs : mg "abs" = none
  n_all : mg "all" = none
  n_int : mg "int" = none
  n_isinstance : mg "isinstance" = none
  n_len : mg "len" = none
  n_list : mg "list" = none
  n_range : mg "range" = none
  n_repr : mg "repr" = none
  n_str : mg "str" = none
  n_tuple : mg "tuple" = none
  c_FIGURES : GlK K mg "FIGURES" (.str "0123456789")
  c_MOST_BITS : GlK K mg "MOST_BITS" (.int 13287)
  c_MOST_FIGURES : GlK K mg "MOST_FIGURES" (.int 20)
  c_MOST_OPEN : GlK K mg "MOST_OPEN" (.int 24)
  c_MOST_TEXT : GlK K mg "MOST_TEXT" (.int 4000)
  c_NOBODY : GlK K mg "NOBODY" (.str ".")
  c_NOTHING : GlK K mg "NOTHING" (.str "none")
  c_SMALL : GlK K mg "SMALL" (.str "abcdefghijklmnopqrstuvwxyz")
  e_FitError : ∃ C, mg "FitError" = some (.ref C)
  t_FitError : ∀ C, mg "FitError" = some (.ref C) → ∀ e b, (fun e : Str => if e = "FitError" then some true else none) e = some b → ∀ Ce, mg e = some (.ref Ce) → PySem.W.exmOne K (.ref Ce) (.ref C) = some b
  x_FitError : ExK K mg "FitError"
  e_BadNumber : ∃ C, mg "BadNumber" = some (.ref C)
  t_BadNumber : ∀ C, mg "BadNumber" = some (.ref C) → ∀ e b, (fun e : Str => if e = "BadNumber" then some true else none) e = some b → ∀ Ce, mg e = some (.ref Ce) → PySem.W.exmOne K (.ref Ce) (.ref C) = some b
  x_BadNumber : ExK K mg "BadNumber"
  e_Malformed : ∃ C, mg "Malformed" = some (.ref C)
  t_Malformed : ∀ C, mg "Malformed" = some (.ref C) → ∀ e b, (fun e : Str => if e = "Malformed" then some true else none) e = some b → ∀ Ce, mg e = some (.ref Ce) → PySem.W.exmOne K (.ref Ce) (.ref C) = some b
  y_Malformed : ∀ C, mg "Malformed" = some (.ref C) → XfC K C ∧ PySem.W.findIn K (.ref C) "at" = some none
  i_Malformed : EiF K mg "Malformed" "Malformed.__init__" "FitError" "at" s_Malformed_init
  k_Reading : ClK K mg "Reading" ["at", "text"]
  f_has_text : ∃ f fd, mg "has_text" = some (.ref f) ∧ Fun K "has_text" "has_text" s_has_text f fd
  f_term_text : ∃ f fd, mg "term_text" = some (.ref f) ∧ Fun K "term_text" "term_text" s_term_text f fd
  f_Reading_init : ∃ C f fd, mg "Reading" = some (.ref C) ∧ Fun K "__init__" "Reading.__init__" s_Reading_init f fd ∧ Mk K C f
  f_Reading_next_sign : ∃ C f fd, mg "Reading" = some (.ref C) ∧ Fun K "next_sign" "Reading.next_sign" s_Reading_next_sign f fd ∧ Meth K C "next_sign" f
  f_Reading_is_at : ∃ C f fd, mg "Reading" = some (.ref C) ∧ Fun K "is_at" "Reading.is_at" s_Reading_is_at f fd ∧ Meth K C "is_at" f
  f_Reading_take : ∃ C f fd, mg "Reading" = some (.ref C) ∧ Fun K "take" "Reading.take" s_Reading_take f fd ∧ Meth K C "take" f
  f_Reading_integer : ∃ C f fd, mg "Reading" = some (.ref C) ∧ Fun K "integer" "Reading.integer" s_Reading_integer f fd ∧ Meth K C "integer" f
  f_Reading_term : ∃ C f fd, mg "Reading" = some (.ref C) ∧ Fun K "term" "Reading.term" s_Reading_term f fd ∧ Meth K C "term" f
  f_Reading_told_rows : ∃ C f fd, mg "Reading" = some (.ref C) ∧ Fun K "told_rows" "Reading.told_rows" s_Reading_told_rows f fd ∧ Meth K C "told_rows" f
  f_read_term : ∃ f fd, mg "read_term" = some (.ref f) ∧ Fun K "read_term" "read_term" s_read_term f fd
  f__law_number : ∃ f fd, mg "_law_number" = some (.ref f) ∧ Fun K "_law_number" "_law_number" s__law_number f fd
  f__law_draws : ∃ f fd, mg "_law_draws" = some (.ref f) ∧ Fun K "_law_draws" "_law_draws" s__law_draws f fd
  f__law_next : ∃ f fd, mg "_law_next" = some (.ref f) ∧ Fun K "_law_next" "_law_next" s__law_next f fd
  f__law_more : ∃ f fd, mg "_law_more" = some (.ref f) ∧ Fun K "_law_more" "_law_more" s__law_more f fd
  f__law_pick : ∃ f fd, mg "_law_pick" = some (.ref f) ∧ Fun K "_law_pick" "_law_pick" s__law_pick f fd
  f__law_term : ∃ f fd, mg "_law_term" = some (.ref f) ∧ Fun K "_law_term" "_law_term" s__law_term f fd
  f__law_text : ∃ f fd, mg "_law_text" = some (.ref f) ∧ Fun K "_law_text" "_law_text" s__law_text f fd
  f__law_integer : ∃ f fd, mg "_law_integer" = some (.ref f) ∧ Fun K "_law_integer" "_law_integer" s__law_integer f fd
  f__law_read : ∃ f fd, mg "_law_read" = some (.ref f) ∧ Fun K "_law_read" "_law_read" s__law_read f fd
  f__law_entries : ∃ f fd, mg "_law_entries" = some (.ref f) ∧ Fun K "_law_entries" "_law_entries" s__law_entries f fd
  f__law_due : ∃ f fd, mg "_law_due" = some (.ref f) ∧ Fun K "_law_due" "_law_due" s__law_due f fd
  f__law_told : ∃ f fd, mg "_law_told" = some (.ref f) ∧ Fun K "_law_told" "_law_told" s__law_told f fd
  f__law_refused : ∃ f fd, mg "_law_refused" = some (.ref f) ∧ Fun K "_law_refused" "_law_refused" s__law_refused f fd
  f_law : ∃ f fd, mg "law" = some (.ref f) ∧ Fun K "law" "law" s_law f fd
section
variable {P : Program} {w : World} {K : PySem.W.Frag} {mg : Str → Option Value} {base : Heap}
theorem d_Malformed_init (T : Fa K mg) : ExI0 P w K mg base "Malformed" "at" 1 := ⟨exi_mk (z := "the text cannot be read") T.i_Malformed sc_Malformed_init rfl (fun _ _ _ _ _ _ us hl => match us, hl with | [_, _], _ => rfl) fun C B mc hm r vV fI cdv A outer s H E => pss_cons (ps_expr (pe_baseinit rfl hm r vV (pa_cons (pv 0) (pa_cons pe_str pa_nil)))) (pss_cons (ps_ost (pv 0) (pv 1)) pss_nil)⟩
theorem d_has_text (T : Fa K mg) : DFn0 P w K mg base "has_text" 1 1 F_has_text :=
  dfn_mk (st := s_has_text) (N := ["number", "bound", "_"]) (ps := ["number"]) (k := 0) T.f_has_text sc_has_text (fun _ _ _ _ _ _ us hl => match us, hl with | [_], _ => rfl) (fun f cdv A outer s H E hr tk pp => by
  have hu := hr.room.units
  have hN := sc_has_text.nd
  exact (by
      refine dss_cons ?_ ?_
      · exact (ds_if (dt_not (dt_truth (de_op op_shr dop_shr (de_callB call_absP (dc_1 pAbs_v) T.n_abs (da_cons (de_name 0) da_nil)) (de_gk T.c_MOST_BITS)))) (dss_cons (ds_ret de_bl)
          dss_nil) dss_nil)
      refine dss_cons ?_ ?_
      · exact (ds_set 1 hN de_int)
      refine dss_cons ?_ ?_
      · exact (ds_for pp rfl (di_range1 T.n_range (da_cons (de_gk T.c_MOST_TEXT) da_nil)) (dg_name 2 hN) (dss_cons (ds_aug 1 hN ip_mul dop_mulI de_int)
          dss_nil))
      refine dss_cons ?_ ?_
      · exact (ds_ret (de_cmp (op_ltP hu) dop_B2 (de_callB call_absP (dc_1 pAbs_v) T.n_abs (da_cons (de_name 0) da_nil)) (de_name 1) (nomark _)))
      exact dss_nil))
theorem b_term_text (T : Fa K mg) {n : Nat} {r_term_text : FS} (h_term_text : DFn0 P w K mg base "term_text" 1 (1 + n) r_term_text) : DFn0 P w K mg base "term_text" 1 (1 + n + 1) (fnF 1 3 (g_term_text r_term_text)) :=
  dfn_mk (st := s_term_text) (N := ["term", "sign", "entry"]) (ps := ["term"]) (k := (1 + n)) T.f_term_text sc_term_text (fun _ _ _ _ _ _ us hl => match us, hl with | [_], _ => rfl) (fun f cdv A outer s H E hr tk pp => by
  have hu := hr.room.units
  have hN := sc_term_text.nd
  exact (by
      refine dss_cons ?_ ?_
      · exact (ds_if (dt_cmp op_isN dop_isN (de_name 0) de_non (nomark _)) (dss_cons (ds_ret (de_gk T.c_NOTHING))
          dss_nil) dss_nil)
      refine dss_cons ?_ ?_
      · exact (ds_if (dt_truth (de_isa call_isa_int (de_name 0) T.n_isinstance T.n_int)) (dss_cons (ds_if (dt_not (dt_truth (de_call ((d_has_text T).at _) (PassW.of tk) (hr.mono (by omega)) (da_cons (de_name 0) da_nil)))) (dss_cons (ds_raise rfl tk T.x_BadNumber.at)
          dss_nil) dss_nil)
          (dss_cons (ds_ret (de_callTy (call_strBP rfl T.digits) (dc_1 pStrB_v) T.n_str (da_cons (de_name 0) da_nil)))
          dss_nil)) dss_nil)
      refine dss_cons ?_ ?_
      · exact (ds_if (dt_truth (de_isa call_isa_str (de_name 0) T.n_isinstance T.n_str)) (dss_cons (ds_if (DW.dt (dw_or (dt_cmp (op_eqP hu) dop_B2 (de_name 0) (de_gk T.c_NOTHING) (nomark _)) (dw_or1 (dt_not (dt_truth (de_callB (cr_all rfl) dc_all T.n_all (da_cons (de_lc false rfl hN (di_any (de_name 0)) (blkOk_by (own := [("sign", 1)]) (by first | rfl | decide +kernel)) (fun _ _ _ _ _ => (pg_name hN (by rfl) (by first | exact Or.inl rfl | exact Or.inr rfl))) (tg_name 1) (fun _ _ _ _ _ => dts_nil) (fun _ _ _ _ _ => (de_cmp (op_inP hu) dop_B2 (de_name 1) (de_gk T.c_SMALL) (by rfl)))) da_nil))))))) (dss_cons (ds_raise rfl tk T.x_BadNumber.at)
          dss_nil) dss_nil)
          (dss_cons (ds_ret (de_orT (de_name 0) (de_one (de_gk T.c_NOBODY))))
          dss_nil)) dss_nil)
      refine dss_cons ?_ ?_
      · exact (ds_ret (de_op op_addAll (dop_add false) (de_op op_addAll (dop_add false) de_str (de_join de_str (de_lcE false rfl hN rfl rfl tk (di_any (de_name 0)) (blkOk_by (own := [("entry", 2)]) (by first | rfl | decide +kernel)) (fun _ _ _ _ _ => (pg_name hN (by rfl) (by first | exact Or.inl rfl | exact Or.inr rfl))) (tg_name 2) (fun _ _ _ _ _ => dts_nil) (fun _ _ _ _ _ => (de_call ((h_term_text).at _) passB (hr.mono (by omega)) (da_cons (de_name 2) da_nil)))))) de_str))
      exact dss_nil))
theorem d_term_text (T : Fa K mg) : ∀ n, DFn0 P w K mg base "term_text" 1 (1 + n) (F_term_text n)
  | 0 => dfn_bad (st := s_term_text) (ps := ["term"]) T.f_term_text (fun _ _ _ _ _ _ us hl => match us, hl with | [_], _ => rfl)
  | n + 1 => b_term_text T (d_term_text T n)
theorem d_Reading_init (T : Fa K mg) : MkF0 P w K mg base "Reading" 2 1 F_Reading_init :=
  mkf_mk (st := s_Reading_init) (N := ["self", "text"]) (ps := ["self", "text"]) (k := 0) T.f_Reading_init sc_Reading_init (fun _ _ _ _ _ _ us hl => match us, hl with | [_, _], _ => rfl) (fun f cdv A outer s H E hr tk pp => by
  have hu := hr.room.units
  have hN := sc_Reading_init.nd
  exact (dss_cons (ds_fld T.k_Reading.cls T.k_Reading.att (de_name 0) (de_name 1))
      (dss_cons (ds_fld T.k_Reading.cls T.k_Reading.att (de_name 0) de_int)
      dss_nil)))
theorem d_Reading_next_sign (T : Fa K mg) : MFn0 P w K mg base "Reading" "next_sign" 1 1 F_Reading_next_sign :=
  mfn_mk (st := s_Reading_next_sign) (N := ["self"]) (ps := ["self"]) (k := 0) T.f_Reading_next_sign sc_Reading_next_sign (fun _ _ _ _ _ _ us hl => match us, hl with | [_], _ => rfl) (fun f cdv A outer s H E hr tk pp => by
  have hu := hr.room.units
  have hN := sc_Reading_next_sign.nd
  exact (dss_cons (ds_ret (de_sl false (de_fld T.k_Reading.cls T.k_Reading.att (de_name 0)) (do_some (de_fld T.k_Reading.cls T.k_Reading.att (de_name 0))) (do_some (de_op op_addAll (dop_add false) (de_fld T.k_Reading.cls T.k_Reading.att (de_name 0)) de_int))))
      dss_nil))
theorem d_Reading_is_at (T : Fa K mg) : MFn0 P w K mg base "Reading" "is_at" 2 2 F_Reading_is_at :=
  mfn_mk (st := s_Reading_is_at) (N := ["self", "signs"]) (ps := ["self", "signs"]) (k := 1) T.f_Reading_is_at sc_Reading_is_at (fun _ _ _ _ _ _ us hl => match us, hl with | [_, _], _ => rfl) (fun f cdv A outer s H E hr tk pp => by
  have hu := hr.room.units
  have hN := sc_Reading_is_at.nd
  exact (dss_cons (ds_ret (de_andT (de_cmp (op_neP hu) dop_B2 (de_meth0 T.k_Reading.cls ((d_Reading_next_sign T).at _) (PassW.of tk) (hr.mono (by decide)) (de_name 0)) de_str (nomark _)) (de_one (de_cmp (op_inP hu) dop_B2 (de_meth0 T.k_Reading.cls ((d_Reading_next_sign T).at _) (PassW.of tk) (hr.mono (by decide)) (de_name 0)) (de_name 1) (by rfl)))))
      dss_nil))
theorem d_Reading_take (T : Fa K mg) : MFn0 P w K mg base "Reading" "take" 2 3 F_Reading_take :=
  mfn_mk (st := s_Reading_take) (N := ["self", "signs", "start"]) (ps := ["self", "signs"]) (k := 2) T.f_Reading_take sc_Reading_take (fun _ _ _ _ _ _ us hl => match us, hl with | [_, _], _ => rfl) (fun f cdv A outer s H E hr tk pp => by
  have hu := hr.room.units
  have hN := sc_Reading_take.nd
  exact (dss_cons (ds_set 2 hN (de_fld T.k_Reading.cls T.k_Reading.att (de_name 0)))
      (dss_cons (ds_whileN 100000 pp (dt_truth (de_meth T.k_Reading.cls ((d_Reading_is_at T).at _) (PassW.of tk) (hr.mono (by decide)) (de_name 0) (da_cons (de_name 1) da_nil))) (dss_cons (ds_fldAdd T.k_Reading.cls T.k_Reading.att (de_name 0) de_int)
      dss_nil))
      (dss_cons (ds_ret (de_sl false (de_fld T.k_Reading.cls T.k_Reading.att (de_name 0)) (do_some (de_name 2)) (do_some (de_fld T.k_Reading.cls T.k_Reading.att (de_name 0)))))
      dss_nil))))
theorem d_Reading_integer (T : Fa K mg) : MFn0 P w K mg base "Reading" "integer" 1 4 F_Reading_integer :=
  mfn_mk (st := s_Reading_integer) (N := ["self", "minus", "start", "zero", "figures"]) (ps := ["self"]) (k := 3) T.f_Reading_integer sc_Reading_integer (fun _ _ _ _ _ _ us hl => match us, hl with | [_], _ => rfl) (fun f cdv A outer s H E hr tk pp => by
  have hu := hr.room.units
  have hN := sc_Reading_integer.nd
  exact (by
      refine dss_cons ?_ ?_
      · exact (ds_set 1 hN (de_meth T.k_Reading.cls ((d_Reading_is_at T).at _) (PassW.of tk) (hr.mono (by decide)) (de_name 0) (da_cons de_str da_nil)))
      refine dss_cons ?_ ?_
      · exact (ds_if (dt_truth (de_name 1)) (dss_cons (ds_fldAdd T.k_Reading.cls T.k_Reading.att (de_name 0) de_int)
          dss_nil) dss_nil)
      refine dss_cons ?_ ?_
      · exact (ds_set 2 hN (de_fld T.k_Reading.cls T.k_Reading.att (de_name 0)))
      refine dss_cons ?_ ?_
      · exact (ds_if (DW.dt (dw_or (dt_not (dt_truth (de_meth T.k_Reading.cls ((d_Reading_is_at T).at _) (PassW.of tk) (hr.mono (by decide)) (de_name 0) (da_cons (de_gk T.c_FIGURES) da_nil)))) (dw_or1 (DW.dt (dw_and (dt_truth (de_name 1)) (dw_and1 (dt_truth (de_meth T.k_Reading.cls ((d_Reading_is_at T).at _) (PassW.of tk) (hr.mono (by decide)) (de_name 0) (da_cons de_str da_nil))))))))) (dss_cons (ds_raise1 rfl tk ((d_Malformed_init T).at _) (hr.mono (by decide)) (de_fld T.k_Reading.cls T.k_Reading.att (de_name 0)))
          dss_nil) dss_nil)
      refine dss_cons ?_ ?_
      · exact (ds_set 3 hN (de_meth T.k_Reading.cls ((d_Reading_is_at T).at _) (PassW.of tk) (hr.mono (by decide)) (de_name 0) (da_cons de_str da_nil)))
      refine dss_cons ?_ ?_
      · exact (ds_set 4 hN (de_meth T.k_Reading.cls ((d_Reading_take T).at _) (PassW.of tk) (hr.mono (by decide)) (de_name 0) (da_cons (de_gk T.c_FIGURES) da_nil)))
      refine dss_cons ?_ ?_
      · exact (ds_if (DW.dt (dw_and (dt_truth (de_name 3)) (dw_and1 (dt_cmp (op_gtP hu) dop_B2 (de_callB call_lenP (dc_1 pLen_v) T.n_len (da_cons (de_name 4) da_nil)) de_int (nomark _))))) (dss_cons (ds_raise1 rfl tk ((d_Malformed_init T).at _) (hr.mono (by decide)) (de_op op_addAll (dop_add false) (de_name 2) de_int))
          dss_nil) dss_nil)
      refine dss_cons ?_ ?_
      · exact (ds_if (dt_cmp (op_gtP hu) dop_B2 (de_callB call_lenP (dc_1 pLen_v) T.n_len (da_cons (de_name 4) da_nil)) (de_gk T.c_MOST_FIGURES) (nomark _)) (dss_cons (ds_raise1 rfl tk ((d_Malformed_init T).at _) (hr.mono (by decide)) (de_op op_addAll (dop_add false) (de_name 2) (de_gk T.c_MOST_FIGURES)))
          dss_nil) dss_nil)
      refine dss_cons ?_ ?_
      · exact (ds_ret (de_if (dt_truth (de_name 1)) (de_neg (de_callTy call_intP (dc_1 pInt_v) T.n_int (da_cons (de_name 4) da_nil))) (de_callTy call_intP (dc_1 pInt_v) T.n_int (da_cons (de_name 4) da_nil))))
      exact dss_nil))
theorem b_Reading_term (T : Fa K mg) {n : Nat} {r_Reading_told_rows : FS} (h_Reading_told_rows : MFn0 P w K mg base "Reading" "told_rows" 2 (4 + n) r_Reading_told_rows) : MFn0 P w K mg base "Reading" "term" 2 (4 + n + 1) (fnF 2 3 (g_Reading_term r_Reading_told_rows)) :=
  mfn_mk (st := s_Reading_term) (N := ["self", "depth", "word"]) (ps := ["self", "depth"]) (k := (4 + n)) T.f_Reading_term sc_Reading_term (fun _ _ _ _ _ _ us hl => match us, hl with | [_, _], _ => rfl) (fun f cdv A outer s H E hr tk pp => by
  have hu := hr.room.units
  have hN := sc_Reading_term.nd
  exact (by
      refine dss_cons ?_ ?_
      · exact (ds_if (dt_truth (de_meth T.k_Reading.cls ((d_Reading_is_at T).at _) (PassW.of tk) (hr.mono (by omega)) (de_name 0) (da_cons de_str da_nil))) (dss_cons (ds_if (dt_cmp (op_eqP hu) dop_B2 (de_name 1) (de_gk T.c_MOST_OPEN) (nomark _)) (dss_cons (ds_raise1 rfl tk ((d_Malformed_init T).at _) (hr.mono (by omega)) (de_fld T.k_Reading.cls T.k_Reading.att (de_name 0)))
          dss_nil) dss_nil)
          (dss_cons (ds_ret (de_meth T.k_Reading.cls ((h_Reading_told_rows).at _) (PassW.of tk) (hr.mono (by omega)) (de_name 0) (da_cons (de_op op_addAll (dop_add false) (de_name 1) de_int) da_nil)))
          dss_nil)) dss_nil)
      refine dss_cons ?_ ?_
      · exact (ds_if (dt_truth (de_meth T.k_Reading.cls ((d_Reading_is_at T).at _) (PassW.of tk) (hr.mono (by omega)) (de_name 0) (da_cons (de_gk T.c_NOBODY) da_nil))) (dss_cons (ds_fldAdd T.k_Reading.cls T.k_Reading.att (de_name 0) de_int)
          (dss_cons (ds_ret de_str)
          dss_nil)) dss_nil)
      refine dss_cons ?_ ?_
      · exact (ds_if (dt_truth (de_meth T.k_Reading.cls ((d_Reading_is_at T).at _) (PassW.of tk) (hr.mono (by omega)) (de_name 0) (da_cons (de_gk T.c_SMALL) da_nil))) (dss_cons (ds_set 2 hN (de_meth T.k_Reading.cls ((d_Reading_take T).at _) (PassW.of tk) (hr.mono (by omega)) (de_name 0) (da_cons (de_gk T.c_SMALL) da_nil)))
          (dss_cons (ds_ret (de_if (dt_cmp (op_eqP hu) dop_B2 (de_name 2) (de_gk T.c_NOTHING) (nomark _)) de_non (de_name 2)))
          dss_nil)) dss_nil)
      refine dss_cons ?_ ?_
      · exact (ds_ret (de_meth0 T.k_Reading.cls ((d_Reading_integer T).at _) (PassW.of tk) (hr.mono (by omega)) (de_name 0)))
      exact dss_nil))
theorem b_Reading_told_rows (T : Fa K mg) {n : Nat} {r_Reading_term : FS} (h_Reading_term : MFn0 P w K mg base "Reading" "term" 2 (4 + n) r_Reading_term) : MFn0 P w K mg base "Reading" "told_rows" 2 (4 + n + 1) (fnF 2 3 (g_Reading_told_rows r_Reading_term)) :=
  mfn_mk (st := s_Reading_told_rows) (N := ["self", "depth", "found"]) (ps := ["self", "depth"]) (k := (4 + n)) T.f_Reading_told_rows sc_Reading_told_rows (fun _ _ _ _ _ _ us hl => match us, hl with | [_, _], _ => rfl) (fun f cdv A outer s H E hr tk pp => by
  have hu := hr.room.units
  have hN := sc_Reading_told_rows.nd
  exact (by
      refine dss_cons ?_ ?_
      · exact (ds_fldAdd T.k_Reading.cls T.k_Reading.att (de_name 0) de_int)
      refine dss_cons ?_ ?_
      · exact (ds_set 2 hN (de_lst true da_nil))
      refine dss_cons ?_ ?_
      · exact (ds_whileN 100000 pp (dt_not (dt_truth (de_meth T.k_Reading.cls ((d_Reading_is_at T).at _) (PassW.of tk) (hr.mono (by omega)) (de_name 0) (da_cons de_str da_nil)))) (dss_cons (ds_if (dt_truth (de_name 2)) (dss_cons (ds_if (dt_not (dt_truth (de_meth T.k_Reading.cls ((d_Reading_is_at T).at _) (PassW.of tk) (hr.mono (by omega)) (de_name 0) (da_cons de_str da_nil)))) (dss_cons (ds_raise1 rfl tk ((d_Malformed_init T).at _) (hr.mono (by omega)) (de_fld T.k_Reading.cls T.k_Reading.att (de_name 0)))
          dss_nil) dss_nil)
          (dss_cons (ds_fldAdd T.k_Reading.cls T.k_Reading.att (de_name 0) de_int)
          dss_nil)) dss_nil)
          (dss_cons (ds_expr (de_append (de_name 2) (de_meth T.k_Reading.cls ((h_Reading_term).at _) (PassW.of tk) (hr.mono (by omega)) (de_name 0) (da_cons (de_name 1) da_nil))))
          dss_nil)))
      refine dss_cons ?_ ?_
      · exact (ds_fldAdd T.k_Reading.cls T.k_Reading.att (de_name 0) de_int)
      refine dss_cons ?_ ?_
      · exact (ds_ret (de_callTy call_tuple_of dc_tup T.n_tuple (da_cons (de_name 2) da_nil)))
      exact dss_nil))
theorem dd_Reading_term_Reading_told_rows (T : Fa K mg) : ∀ n, (MFn0 P w K mg base "Reading" "term" 2 (4 + n) (F_Reading_term n)) ∧ (MFn0 P w K mg base "Reading" "told_rows" 2 (4 + n) (F_Reading_told_rows n))
  | 0 => ⟨mfn_bad (st := s_Reading_term) (ps := ["self", "depth"]) T.f_Reading_term (fun _ _ _ _ _ _ us hl => match us, hl with | [_, _], _ => rfl), mfn_bad (st := s_Reading_told_rows) (ps := ["self", "depth"]) T.f_Reading_told_rows (fun _ _ _ _ _ _ us hl => match us, hl with | [_, _], _ => rfl)⟩
  | n + 1 => ⟨b_Reading_term T (dd_Reading_term_Reading_told_rows T n).2, b_Reading_told_rows T (dd_Reading_term_Reading_told_rows T n).1⟩
theorem d_Reading_term (T : Fa K mg) (n : Nat) : MFn0 P w K mg base "Reading" "term" 2 (4 + n) (F_Reading_term n) := (dd_Reading_term_Reading_told_rows T n).1
theorem d_Reading_told_rows (T : Fa K mg) (n : Nat) : MFn0 P w K mg base "Reading" "told_rows" 2 (4 + n) (F_Reading_told_rows n) := (dd_Reading_term_Reading_told_rows T n).2
theorem d_read_term (T : Fa K mg) : DFn0 P w K mg base "read_term" 1 65 F_read_term :=
  dfn_mk (st := s_read_term) (N := ["text", "reading", "term"]) (ps := ["text"]) (k := 64) T.f_read_term sc_read_term (fun _ _ _ _ _ _ us hl => match us, hl with | [_], _ => rfl) (fun f cdv A outer s H E hr tk pp => by
  have hu := hr.room.units
  have hN := sc_read_term.nd
  exact (by
      refine dss_cons ?_ ?_
      · exact (ds_set 1 hN (de_make ((d_Reading_init T).at _) (PassW.of tk) (hr.mono (by decide)) (da_cons (de_name 0) da_nil)))
      refine dss_cons ?_ ?_
      · exact (ds_set 2 hN (de_meth T.k_Reading.cls ((d_Reading_term T 60).at _) (PassW.of tk) (hr.mono (by decide)) (de_name 1) (da_cons de_int da_nil)))
      refine dss_cons ?_ ?_
      · exact (ds_if (dt_cmp (op_ltP hu) dop_B2 (de_fld T.k_Reading.cls T.k_Reading.att (de_name 1)) (de_callB call_lenP (dc_1 pLen_v) T.n_len (da_cons (de_name 0) da_nil)) (nomark _)) (dss_cons (ds_raise1 rfl tk ((d_Malformed_init T).at _) (hr.mono (by decide)) (de_fld T.k_Reading.cls T.k_Reading.att (de_name 1)))
          dss_nil) dss_nil)
      refine dss_cons ?_ ?_
      · exact (ds_ret (de_name 2))
      exact dss_nil))
theorem d__law_number (T : Fa K mg) : DFn0 P w K mg base "_law_number" 1 1 F__law_number :=
  dfn_mk (st := s__law_number) (N := ["cell"]) (ps := ["cell"]) (k := 0) T.f__law_number sc__law_number (fun _ _ _ _ _ _ us hl => match us, hl with | [_], _ => rfl) (fun f cdv A outer s H E hr tk pp => by
  have hu := hr.room.units
  have hN := sc__law_number.nd
  exact (dss_cons (ds_if (dt_cmp (op_ltP hu) dop_B2 (de_name 0) de_int (nomark _)) (dss_cons (ds_ret (de_op op_sub dop_sub de_int (de_name 0)))
      dss_nil) dss_nil)
      (dss_cons (ds_ret (de_name 0))
      dss_nil)))
theorem d__law_draws (T : Fa K mg) : DFn0 P w K mg base "_law_draws" 1 2 F__law_draws :=
  dfn_mk (st := s__law_draws) (N := ["script", "draws", "cell", "rest", "k", "once", "twice"]) (ps := ["script"]) (k := 1) T.f__law_draws sc__law_draws (fun _ _ _ _ _ _ us hl => match us, hl with | [_], _ => rfl) (fun f cdv A outer s H E hr tk pp => by
  have hu := hr.room.units
  have hN := sc__law_draws.nd
  exact (by
      refine dss_cons ?_ ?_
      · exact (ds_set 1 hN (de_lst true da_nil))
      refine dss_cons ?_ ?_
      · exact (ds_for pp rfl (di_any (de_name 0)) (dg_name 2 hN) (dss_cons (ds_set 3 hN (de_call ((d__law_number T).at _) (PassW.of tk) (hr.mono (by decide)) (da_cons (de_name 2) da_nil)))
          (dss_cons (ds_if (dt_cmp (op_geP hu) dop_B2 (de_name 3) de_int (nomark _)) (dss_cons (ds_for pp rfl (di_range1 T.n_range (da_cons de_int da_nil)) (dg_name 4 hN) (dss_cons (ds_if (dt_cmp (op_eqP hu) dop_B2 (de_name 3) de_int (nomark _)) (dss_cons ds_break
          dss_nil) dss_nil)
          (dss_cons (ds_expr (de_append (de_name 1) (de_op op_modN dop_mod (de_callTy call_intP (dc_1 pInt_v) T.n_int (da_cons (de_name 3) da_nil)) de_int)))
          (dss_cons (ds_set 3 hN (de_op op_fdivN dop_fdiv (de_name 3) de_int))
          dss_nil))))
          dss_nil) (dss_cons (ds_set 5 hN (de_op op_modN dop_mod (de_callTy call_intP (dc_1 pInt_v) T.n_int (da_cons (de_op op_addAll (dop_add false) (de_op op_mulAll (dop_mul false) (de_name 3) de_int) de_int) da_nil)) de_int))
          (dss_cons (ds_set 6 hN (de_op op_modN dop_mod (de_callTy call_intP (dc_1 pInt_v) T.n_int (da_cons (de_op op_addAll (dop_add false) (de_op op_mulAll (dop_mul false) (de_name 5) de_int) (de_name 3)) da_nil)) de_int))
          (dss_cons (ds_expr (de_extend (de_name 1) (de_lst false (da_cons (de_op op_modN dop_mod (de_callTy call_intP (dc_1 pInt_v) T.n_int (da_cons (de_name 3) da_nil)) de_int) (da_cons (de_op op_modN dop_mod (de_callTy call_intP (dc_1 pInt_v) T.n_int (da_cons (de_name 5) da_nil)) de_int) (da_cons (de_op op_modN dop_mod (de_callTy call_intP (dc_1 pInt_v) T.n_int (da_cons (de_name 6) da_nil)) de_int) da_nil))))))
          dss_nil))))
          dss_nil)))
      refine dss_cons ?_ ?_
      · exact (ds_expr (de_reverse (de_name 1)))
      refine dss_cons ?_ ?_
      · exact (ds_ret (de_name 1))
      exact dss_nil))
theorem d__law_next (T : Fa K mg) : DFn0 P w K mg base "_law_next" 1 1 F__law_next :=
  dfn_mk (st := s__law_next) (N := ["draws"]) (ps := ["draws"]) (k := 0) T.f__law_next sc__law_next (fun _ _ _ _ _ _ us hl => match us, hl with | [_], _ => rfl) (fun f cdv A outer s H E hr tk pp => by
  have hu := hr.room.units
  have hN := sc__law_next.nd
  exact (dss_cons (ds_if (dt_truth (de_name 0)) (dss_cons (ds_ret (de_pop (de_name 0)))
      dss_nil) dss_nil)
      (dss_cons (ds_ret de_int)
      dss_nil)))
theorem d__law_more (T : Fa K mg) : DFn0 P w K mg base "_law_more" 2 2 F__law_more :=
  dfn_mk (st := s__law_more) (N := ["draws", "many", "seed", "more", "k"]) (ps := ["draws", "many"]) (k := 1) T.f__law_more sc__law_more (fun _ _ _ _ _ _ us hl => match us, hl with | [_, _], _ => rfl) (fun f cdv A outer s H E hr tk pp => by
  have hu := hr.room.units
  have hN := sc__law_more.nd
  exact (by
      refine dss_cons ?_ ?_
      · exact (ds_set 2 hN (de_op op_addAll (dop_add false) (de_op op_addAll (dop_add false) (de_op op_mulAll (dop_mul false) de_int (de_call ((d__law_next T).at _) (PassW.of tk) (hr.mono (by decide)) (da_cons (de_name 0) da_nil))) (de_call ((d__law_next T).at _) (PassW.of tk) (hr.mono (by decide)) (da_cons (de_name 0) da_nil))) de_int))
      refine dss_cons ?_ ?_
      · exact (ds_set 3 hN (de_lst true da_nil))
      refine dss_cons ?_ ?_
      · exact (ds_for pp rfl (di_range1 T.n_range (da_cons (de_name 1) da_nil)) (dg_name 4 hN) (dss_cons (ds_set 2 hN (de_op op_modN dop_mod (de_callTy call_intP (dc_1 pInt_v) T.n_int (da_cons (de_op op_addAll (dop_add false) (de_op op_mulAll (dop_mul false) (de_name 2) de_int) de_int) da_nil)) de_int))
          (dss_cons (ds_expr (de_append (de_name 3) (de_op op_modN dop_mod (de_callTy call_intP (dc_1 pInt_v) T.n_int (da_cons (de_op op_fdivN dop_fdiv (de_name 2) de_int) da_nil)) de_int)))
          dss_nil)))
      refine dss_cons ?_ ?_
      · exact (ds_ret (de_op op_addAll (dop_add true) (de_name 3) (de_name 0)))
      exact dss_nil))
theorem d__law_pick (T : Fa K mg) : DFn0 P w K mg base "_law_pick" 2 2 F__law_pick :=
  dfn_mk (st := s__law_pick) (N := ["draws", "some"]) (ps := ["draws", "some"]) (k := 1) T.f__law_pick sc__law_pick (fun _ _ _ _ _ _ us hl => match us, hl with | [_, _], _ => rfl) (fun f cdv A outer s H E hr tk pp => by
  have hu := hr.room.units
  have hN := sc__law_pick.nd
  exact (dss_cons (ds_ret (de_ix ix_seq dop_ix (de_name 1) (de_op op_modN dop_mod (de_callTy call_intP (dc_1 pInt_v) T.n_int (da_cons (de_call ((d__law_next T).at _) (PassW.of tk) (hr.mono (by decide)) (da_cons (de_name 0) da_nil)) da_nil)) (de_callB call_lenP (dc_1 pLen_v) T.n_len (da_cons (de_name 1) da_nil)))))
      dss_nil))
theorem b__law_term (T : Fa K mg) {n : Nat} {r__law_term : FS} (h__law_term : DFn0 P w K mg base "_law_term" 2 (2 + n) r__law_term) : DFn0 P w K mg base "_law_term" 2 (2 + n + 1) (fnF 2 5 (g__law_term r__law_term)) :=
  dfn_mk (st := s__law_term) (N := ["draws", "depth", "kind", "word", "k"]) (ps := ["draws", "depth"]) (k := (2 + n)) T.f__law_term sc__law_term (fun _ _ _ _ _ _ us hl => match us, hl with | [_, _], _ => rfl) (fun f cdv A outer s H E hr tk pp => by
  have hu := hr.room.units
  have hN := sc__law_term.nd
  exact (by
      refine dss_cons ?_ ?_
      · exact (ds_set 2 hN (de_op op_modN dop_mod (de_callTy call_intP (dc_1 pInt_v) T.n_int (da_cons (de_call ((d__law_next T).at _) (PassW.of tk) (hr.mono (by omega)) (da_cons (de_name 0) da_nil)) da_nil)) (de_if (dt_cmp (op_ltP hu) dop_B2 (de_name 1) de_int (nomark _)) de_int de_int)))
      refine dss_cons ?_ ?_
      · exact (ds_if (dt_cmp (op_eqP hu) dop_B2 (de_name 2) de_int (nomark _)) (dss_cons (ds_set 3 hN (de_join de_str (de_lc false rfl hN (di_range1 T.n_range (da_cons (de_op op_modN dop_mod (de_callTy call_intP (dc_1 pInt_v) T.n_int (da_cons (de_call ((d__law_next T).at _) (PassW.of tk) (hr.mono (by omega)) (da_cons (de_name 0) da_nil)) da_nil)) de_int) da_nil)) (blkOk_by (own := [("k", 4)]) (by first | rfl | decide +kernel)) (fun _ _ _ _ _ => (pg_name hN (by rfl) (by first | exact Or.inl rfl | exact Or.inr rfl))) (tg_name 4) (fun _ _ _ _ _ => dts_nil) (fun _ _ _ _ _ => (de_ix ix_seq dop_ix de_str (de_op op_modN dop_mod (de_callTy call_intP (dc_1 pInt_v) T.n_int (da_cons (de_call ((d__law_next T).at _) pw0 (hr.mono (by omega)) (da_cons (de_name 0) da_nil)) da_nil)) de_int))))))
          (dss_cons (ds_ret (de_if (dt_cmp (op_eqP hu) dop_B2 (de_name 3) de_str (nomark _)) de_str (de_name 3)))
          dss_nil)) dss_nil)
      refine dss_cons ?_ ?_
      · exact (ds_if (dt_cmp (op_eqP hu) dop_B2 (de_name 2) de_int (nomark _)) (dss_cons (ds_ret (de_call ((d__law_pick T).at _) (PassW.of tk) (hr.mono (by omega)) (da_cons (de_name 0) (da_cons (de_lst false (da_cons de_non (da_cons de_int (da_cons (de_neg de_int) (da_cons (de_op op_pow dop_pow de_int de_int) (da_cons (de_op op_addAll (dop_add false) (de_op op_sub dop_sub de_int (de_op op_pow dop_pow de_int de_int)) de_int) da_nil)))))) da_nil))))
          dss_nil) dss_nil)
      refine dss_cons ?_ ?_
      · exact (ds_if (dt_cmp (op_ltP hu) dop_B2 (de_name 2) de_int (nomark _)) (dss_cons (ds_ret (de_op op_sub dop_sub (de_callTy call_intP (dc_1 pInt_v) T.n_int (da_cons (de_call ((d__law_next T).at _) (PassW.of tk) (hr.mono (by omega)) (da_cons (de_name 0) da_nil)) da_nil)) (de_op op_mulAll (dop_mul false) de_int (de_op op_modN dop_mod (de_callTy call_intP (dc_1 pInt_v) T.n_int (da_cons (de_call ((d__law_next T).at _) (PassW.of tk) (hr.mono (by omega)) (da_cons (de_name 0) da_nil)) da_nil)) de_int))))
          dss_nil) dss_nil)
      refine dss_cons ?_ ?_
      · exact (ds_ret (de_callTy call_tuple_of dc_tup T.n_tuple (da_cons (de_lc false rfl hN (di_range1 T.n_range (da_cons (de_op op_modN dop_mod (de_callTy call_intP (dc_1 pInt_v) T.n_int (da_cons (de_call ((d__law_next T).at _) (PassW.of tk) (hr.mono (by omega)) (da_cons (de_name 0) da_nil)) da_nil)) de_int) da_nil)) (blkOk_by (own := [("k", 4)]) (by first | rfl | decide +kernel)) (fun _ _ _ _ _ => (pg_name hN (by rfl) (by first | exact Or.inl rfl | exact Or.inr rfl))) (tg_name 4) (fun _ _ _ _ _ => dts_nil) (fun _ _ _ _ _ => (de_call ((h__law_term).at _) pw0 (hr.mono (by omega)) (da_cons (de_name 0) (da_cons (de_op op_addAll (dop_add false) (de_name 1) de_int) da_nil))))) da_nil)))
      exact dss_nil))
theorem d__law_term (T : Fa K mg) : ∀ n, DFn0 P w K mg base "_law_term" 2 (2 + n) (F__law_term n)
  | 0 => dfn_bad (st := s__law_term) (ps := ["draws", "depth"]) T.f__law_term (fun _ _ _ _ _ _ us hl => match us, hl with | [_, _], _ => rfl)
  | n + 1 => b__law_term T (d__law_term T n)
theorem b__law_text (T : Fa K mg) {n : Nat} {r__law_text : FS} (h__law_text : DFn0 P w K mg base "_law_text" 1 (0 + n) r__law_text) : DFn0 P w K mg base "_law_text" 1 (0 + n + 1) (fnF 1 2 (g__law_text r__law_text)) :=
  dfn_mk (st := s__law_text) (N := ["term", "entry"]) (ps := ["term"]) (k := (0 + n)) T.f__law_text sc__law_text (fun _ _ _ _ _ _ us hl => match us, hl with | [_], _ => rfl) (fun f cdv A outer s H E hr tk pp => by
  have hu := hr.room.units
  have hN := sc__law_text.nd
  exact (by
      refine dss_cons ?_ ?_
      · exact (ds_if (dt_cmp op_isN dop_isN (de_name 0) de_non (nomark _)) (dss_cons (ds_ret de_str)
          dss_nil) dss_nil)
      refine dss_cons ?_ ?_
      · exact (ds_if (dt_truth (de_isa call_isa_int (de_name 0) T.n_isinstance T.n_int)) (dss_cons (ds_ret (de_callTy (call_strBP rfl T.digits) (dc_1 pStrB_v) T.n_str (da_cons (de_name 0) da_nil)))
          dss_nil) dss_nil)
      refine dss_cons ?_ ?_
      · exact (ds_if (dt_truth (de_isa call_isa_str (de_name 0) T.n_isinstance T.n_str)) (dss_cons (ds_ret (de_if (dt_cmp (op_neP hu) dop_B2 (de_name 0) de_str (nomark _)) (de_name 0) de_str))
          dss_nil) dss_nil)
      refine dss_cons ?_ ?_
      · exact (ds_ret (de_op op_addAll (dop_add false) (de_op op_addAll (dop_add false) de_str (de_join de_str (de_lc false rfl hN (di_any (de_name 0)) (blkOk_by (own := [("entry", 1)]) (by first | rfl | decide +kernel)) (fun _ _ _ _ _ => (pg_name hN (by rfl) (by first | exact Or.inl rfl | exact Or.inr rfl))) (tg_name 1) (fun _ _ _ _ _ => dts_nil) (fun _ _ _ _ _ => (de_call ((h__law_text).at _) pw0 (hr.mono (by omega)) (da_cons (de_name 1) da_nil)))))) de_str))
      exact dss_nil))
theorem d__law_text (T : Fa K mg) : ∀ n, DFn0 P w K mg base "_law_text" 1 (0 + n) (F__law_text n)
  | 0 => dfn_bad (st := s__law_text) (ps := ["term"]) T.f__law_text (fun _ _ _ _ _ _ us hl => match us, hl with | [_], _ => rfl)
  | n + 1 => b__law_text T (d__law_text T n)
theorem d__law_integer (T : Fa K mg) : DFn0 P w K mg base "_law_integer" 2 1 F__law_integer :=
  dfn_mk (st := s__law_integer) (N := ["text", "at", "start", "first", "k"]) (ps := ["text", "at"]) (k := 0) T.f__law_integer sc__law_integer (fun _ _ _ _ _ _ us hl => match us, hl with | [_, _], _ => rfl) (fun f cdv A outer s H E hr tk pp => by
  have hu := hr.room.units
  have hN := sc__law_integer.nd
  exact (by
      refine dss_cons ?_ ?_
      · exact (ds_set 2 hN (de_name 1))
      refine dss_cons ?_ ?_
      · exact (ds_if (dt_cmp (op_eqP hu) dop_B2 (de_sl false (de_name 0) (do_some (de_name 1)) (do_some (de_op op_addAll (dop_add false) (de_name 1) de_int))) de_str (nomark _)) (dss_cons (ds_set 1 hN (de_op op_addAll (dop_add false) (de_name 1) de_int))
          (dss_cons (ds_if (dt_cmp (op_eqP hu) dop_B2 (de_sl false (de_name 0) (do_some (de_name 1)) (do_some (de_op op_addAll (dop_add false) (de_name 1) de_int))) de_str (nomark _)) (dss_cons (ds_ret (de_lst false (da_cons de_str (da_cons (de_name 1) da_nil))))
          dss_nil) dss_nil)
          dss_nil)) dss_nil)
      refine dss_cons ?_ ?_
      · exact (ds_set 3 hN (de_name 1))
      refine dss_cons ?_ ?_
      · exact (ds_for pp rfl (di_range1 T.n_range (da_cons (de_callB call_lenP (dc_1 pLen_v) T.n_len (da_cons (de_name 0) da_nil)) da_nil)) (dg_name 4 hN) (dss_cons (ds_if (DW.dt (dw_and (dt_cmp (op_ltP hu) dop_B2 (de_name 1) (de_callB call_lenP (dc_1 pLen_v) T.n_len (da_cons (de_name 0) da_nil)) (nomark _)) (dw_and1 (dt_cmp (op_inP hu) dop_B2 (de_ix ix_seq dop_ix (de_name 0) (de_name 1)) de_str (by rfl))))) (dss_cons (ds_set 1 hN (de_op op_addAll (dop_add false) (de_name 1) de_int))
          dss_nil) dss_nil)
          dss_nil))
      refine dss_cons ?_ ?_
      · exact (ds_if (dt_cmp (op_eqP hu) dop_B2 (de_name 1) (de_name 3) (nomark _)) (dss_cons (ds_ret (de_lst false (da_cons de_str (da_cons (de_name 1) da_nil))))
          dss_nil) dss_nil)
      refine dss_cons ?_ ?_
      · exact (ds_if (DW.dt (dw_and (dt_cmp (op_eqP hu) dop_B2 (de_ix ix_seq dop_ix (de_name 0) (de_name 3)) de_str (nomark _)) (dw_and1 (dt_cmp (op_gtP hu) dop_B2 (de_name 1) (de_op op_addAll (dop_add false) (de_name 3) de_int) (nomark _))))) (dss_cons (ds_ret (de_lst false (da_cons de_str (da_cons (de_op op_addAll (dop_add false) (de_name 3) de_int) da_nil))))
          dss_nil) dss_nil)
      refine dss_cons ?_ ?_
      · exact (ds_if (dt_cmp (op_gtP hu) dop_B2 (de_op op_sub dop_sub (de_name 1) (de_name 3)) de_int (nomark _)) (dss_cons (ds_ret (de_lst false (da_cons de_str (da_cons (de_op op_addAll (dop_add false) (de_name 3) de_int) da_nil))))
          dss_nil) dss_nil)
      refine dss_cons ?_ ?_
      · exact (ds_ret (de_lst false (da_cons (de_callTy call_intP (dc_1 pInt_v) T.n_int (da_cons (de_sl false (de_name 0) (do_some (de_name 2)) (do_some (de_name 1))) da_nil)) (da_cons (de_name 1) da_nil))))
      exact dss_nil))
theorem b__law_read (T : Fa K mg) {n : Nat} {r__law_entries : FS} (h__law_entries : DFn0 P w K mg base "_law_entries" 3 (1 + n) r__law_entries) : DFn0 P w K mg base "_law_read" 3 (1 + n + 1) (fnF 3 6 (g__law_read r__law_entries)) :=
  dfn_mk (st := s__law_read) (N := ["text", "at", "depth", "sign", "end", "k"]) (ps := ["text", "at", "depth"]) (k := (1 + n)) T.f__law_read sc__law_read (fun _ _ _ _ _ _ us hl => match us, hl with | [_, _, _], _ => rfl) (fun f cdv A outer s H E hr tk pp => by
  have hu := hr.room.units
  have hN := sc__law_read.nd
  exact (by
      refine dss_cons ?_ ?_
      · exact (ds_set 3 hN (de_sl false (de_name 0) (do_some (de_name 1)) (do_some (de_op op_addAll (dop_add false) (de_name 1) de_int))))
      refine dss_cons ?_ ?_
      · exact (ds_if (dt_cmp (op_eqP hu) dop_B2 (de_name 3) de_str (nomark _)) (dss_cons (ds_if (dt_cmp (op_eqP hu) dop_B2 (de_name 2) de_int (nomark _)) (dss_cons (ds_ret (de_lst false (da_cons de_str (da_cons (de_name 1) da_nil))))
          dss_nil) dss_nil)
          (dss_cons (ds_ret (de_call ((h__law_entries).at _) (PassW.of tk) (hr.mono (by omega)) (da_cons (de_name 0) (da_cons (de_op op_addAll (dop_add false) (de_name 1) de_int) (da_cons (de_op op_addAll (dop_add false) (de_name 2) de_int) da_nil)))))
          dss_nil)) dss_nil)
      refine dss_cons ?_ ?_
      · exact (ds_if (dt_cmp (op_eqP hu) dop_B2 (de_name 3) de_str (nomark _)) (dss_cons (ds_ret (de_lst false (da_cons de_str (da_cons (de_op op_addAll (dop_add false) (de_name 1) de_int) da_nil))))
          dss_nil) dss_nil)
      refine dss_cons ?_ ?_
      · exact (ds_if (DW.dt (dw_and (dt_cmp (op_neP hu) dop_B2 (de_name 3) de_str (nomark _)) (dw_and1 (dt_cmp (op_inP hu) dop_B2 (de_name 3) de_str (by rfl))))) (dss_cons (ds_set 4 hN (de_name 1))
          (dss_cons (ds_for pp rfl (di_range1 T.n_range (da_cons (de_callB call_lenP (dc_1 pLen_v) T.n_len (da_cons (de_name 0) da_nil)) da_nil)) (dg_name 5 hN) (dss_cons (ds_if (DW.dt (dw_and (dt_cmp (op_ltP hu) dop_B2 (de_name 4) (de_callB call_lenP (dc_1 pLen_v) T.n_len (da_cons (de_name 0) da_nil)) (nomark _)) (dw_and1 (dt_cmp (op_inP hu) dop_B2 (de_ix ix_seq dop_ix (de_name 0) (de_name 4)) de_str (by rfl))))) (dss_cons (ds_set 4 hN (de_op op_addAll (dop_add false) (de_name 4) de_int))
          dss_nil) dss_nil)
          dss_nil))
          (dss_cons (ds_ret (de_lst false (da_cons (de_if (dt_cmp (op_eqP hu) dop_B2 (de_sl false (de_name 0) (do_some (de_name 1)) (do_some (de_name 4))) de_str (nomark _)) de_non (de_sl false (de_name 0) (do_some (de_name 1)) (do_some (de_name 4)))) (da_cons (de_name 4) da_nil))))
          dss_nil))) dss_nil)
      refine dss_cons ?_ ?_
      · exact (ds_ret (de_call ((d__law_integer T).at _) (PassW.of tk) (hr.mono (by omega)) (da_cons (de_name 0) (da_cons (de_name 1) da_nil))))
      exact dss_nil))
theorem b__law_entries (T : Fa K mg) {n : Nat} {r__law_read : FS} (h__law_read : DFn0 P w K mg base "_law_read" 3 (1 + n) r__law_read) : DFn0 P w K mg base "_law_entries" 3 (1 + n + 1) (fnF 3 7 (g__law_entries r__law_read)) :=
  dfn_mk (st := s__law_entries) (N := ["text", "at", "depth", "found", "turn", "term", "end"]) (ps := ["text", "at", "depth"]) (k := (1 + n)) T.f__law_entries sc__law_entries (fun _ _ _ _ _ _ us hl => match us, hl with | [_, _, _], _ => rfl) (fun f cdv A outer s H E hr tk pp => by
  have hu := hr.room.units
  have hN := sc__law_entries.nd
  exact (dss_cons (ds_set 3 hN (de_lst true da_nil))
      (dss_cons (ds_for pp rfl (di_range1 T.n_range (da_cons (de_op op_addAll (dop_add false) (de_callB call_lenP (dc_1 pLen_v) T.n_len (da_cons (de_name 0) da_nil)) de_int) da_nil)) (dg_name 4 hN) (by
      refine dss_cons ?_ ?_
      · exact (ds_if (dt_cmp (op_eqP hu) dop_B2 (de_sl false (de_name 0) (do_some (de_name 1)) (do_some (de_op op_addAll (dop_add false) (de_name 1) de_int))) de_str (nomark _)) (dss_cons (ds_ret (de_lst false (da_cons (de_callTy call_tuple_of dc_tup T.n_tuple (da_cons (de_name 3) da_nil)) (da_cons (de_op op_addAll (dop_add false) (de_name 1) de_int) da_nil))))
          dss_nil) dss_nil)
      refine dss_cons ?_ ?_
      · exact (ds_if (dt_truth (de_name 3)) (dss_cons (ds_if (dt_cmp (op_neP hu) dop_B2 (de_sl false (de_name 0) (do_some (de_name 1)) (do_some (de_op op_addAll (dop_add false) (de_name 1) de_int))) de_str (nomark _)) (dss_cons (ds_ret (de_lst false (da_cons de_str (da_cons (de_name 1) da_nil))))
          dss_nil) dss_nil)
          (dss_cons (ds_set 1 hN (de_op op_addAll (dop_add false) (de_name 1) de_int))
          dss_nil)) dss_nil)
      refine dss_cons ?_ ?_
      · exact (ds_asg (de_call ((h__law_read).at _) (PassW.of tk) (hr.mono (by omega)) (da_cons (de_name 0) (da_cons (de_name 1) (da_cons (de_name 2) da_nil)))) (dg_seq (n := 2) rfl (dgs_cons (dg_name 5 hN) (dgs_cons (dg_name 6 hN) dgs_nil))))
      refine dss_cons ?_ ?_
      · exact (ds_if (DW.dt (dw_and (dt_cmp (op_eqP hu) dop_B2 (de_name 5) de_str (nomark _)) (dw_and1 (dt_truth (de_isa call_isa_str (de_name 5) T.n_isinstance T.n_str))))) (dss_cons (ds_ret (de_lst false (da_cons (de_name 5) (da_cons (de_name 6) da_nil))))
          dss_nil) dss_nil)
      refine dss_cons ?_ ?_
      · exact (ds_expr (de_append (de_name 3) (de_name 5)))
      refine dss_cons ?_ ?_
      · exact (ds_set 1 hN (de_name 6))
      exact dss_nil))
      (dss_cons (ds_ret (de_lst false (da_cons de_str (da_cons (de_name 1) da_nil))))
      dss_nil))))
theorem dd__law_read__law_entries (T : Fa K mg) : ∀ n, (DFn0 P w K mg base "_law_read" 3 (1 + n) (F__law_read n)) ∧ (DFn0 P w K mg base "_law_entries" 3 (1 + n) (F__law_entries n))
  | 0 => ⟨dfn_bad (st := s__law_read) (ps := ["text", "at", "depth"]) T.f__law_read (fun _ _ _ _ _ _ us hl => match us, hl with | [_, _, _], _ => rfl), dfn_bad (st := s__law_entries) (ps := ["text", "at", "depth"]) T.f__law_entries (fun _ _ _ _ _ _ us hl => match us, hl with | [_, _, _], _ => rfl)⟩
  | n + 1 => ⟨b__law_read T (dd__law_read__law_entries T n).2, b__law_entries T (dd__law_read__law_entries T n).1⟩
theorem d__law_read (T : Fa K mg) (n : Nat) : DFn0 P w K mg base "_law_read" 3 (1 + n) (F__law_read n) := (dd__law_read__law_entries T n).1
theorem d__law_entries (T : Fa K mg) (n : Nat) : DFn0 P w K mg base "_law_entries" 3 (1 + n) (F__law_entries n) := (dd__law_read__law_entries T n).2
theorem d__law_due (T : Fa K mg) : DFn0 P w K mg base "_law_due" 1 62 F__law_due :=
  dfn_mk (st := s__law_due) (N := ["text", "term", "at"]) (ps := ["text"]) (k := 61) T.f__law_due sc__law_due (fun _ _ _ _ _ _ us hl => match us, hl with | [_], _ => rfl) (fun f cdv A outer s H E hr tk pp => by
  have hu := hr.room.units
  have hN := sc__law_due.nd
  exact (dss_cons (ds_asg (de_call ((d__law_read T 60).at _) (PassW.of tk) (hr.mono (by decide)) (da_cons (de_name 0) (da_cons de_int (da_cons de_int da_nil)))) (dg_seq (n := 2) rfl (dgs_cons (dg_name 1 hN) (dgs_cons (dg_name 2 hN) dgs_nil))))
      (dss_cons (ds_if (DW.dt (dw_and (dt_truth (de_isa call_isa_str (de_name 1) T.n_isinstance T.n_str)) (dw_and1 (dt_cmp (op_eqP hu) dop_B2 (de_name 1) de_str (nomark _))))) (dss_cons (ds_ret (de_lst false (da_cons de_str (da_cons (de_name 2) da_nil))))
      dss_nil) dss_nil)
      (dss_cons (ds_ret (de_if (dt_cmp (op_ltP hu) dop_B2 (de_name 2) (de_callB call_lenP (dc_1 pLen_v) T.n_len (da_cons (de_name 0) da_nil)) (nomark _)) (de_lst false (da_cons de_str (da_cons (de_name 2) da_nil))) (de_lst false (da_cons de_str (da_cons (de_name 1) da_nil)))))
      dss_nil))))
theorem d__law_told (T : Fa K mg) : DFn0 P w K mg base "_law_told" 1 66 F__law_told :=
  dfn_mk (st := s__law_told) (N := ["text", "error"]) (ps := ["text"]) (k := 65) T.f__law_told sc__law_told (fun _ _ _ _ _ _ us hl => match us, hl with | [_], _ => rfl) (fun f cdv A outer s H E hr tk pp => by
  have hu := hr.room.units
  have hN := sc__law_told.nd
  exact (dss_cons (ds_tryAs 1 rfl rfl hN T.e_Malformed T.t_Malformed tk (fun W' pn xe t' p' => (dss_cons (ds_ret (de_lst false (da_cons de_str (da_cons (de_call ((d_read_term T).at _) (PassW.of t') (hr.mono (by decide)) (da_cons (de_name 0) da_nil)) da_nil))))
      dss_nil)) (su_textFld T.y_Malformed rfl (hcc := T.e_Malformed)))
      dss_nil))
theorem d__law_refused (T : Fa K mg) : DFn0 P w K mg base "_law_refused" 1 62 F__law_refused :=
  dfn_mk (st := s__law_refused) (N := ["term"]) (ps := ["term"]) (k := 61) T.f__law_refused sc__law_refused (fun _ _ _ _ _ _ us hl => match us, hl with | [_], _ => rfl) (fun f cdv A outer s H E hr tk pp => by
  have hu := hr.room.units
  have hN := sc__law_refused.nd
  exact (dss_cons (ds_try rfl rfl T.e_BadNumber T.t_BadNumber tk (fun W' pn xe t' p' => (dss_cons (ds_expr (de_call ((d_term_text T 60).at _) (PassW.of t') (hr.mono (by decide)) (da_cons (de_name 0) da_nil)))
      (dss_cons (ds_ret de_bl)
      dss_nil))) (su_of fun _ _ _ => (dss_cons (ds_ret de_bl)
      dss_nil)))
      dss_nil))
theorem d_law (T : Fa K mg) {f : Addr} {fd : FuncData} (Fu : Fun K "law" "law" s_law f fd) : FnG P w K mg base (L2.CX P w) 67 f fd ["script"] (spD K mg 1 F_law) :=
  ok_fn Fu sc_law (fun cdv A outer s H E hr tk pp => by
  have hu := hr.room.units
  have hN := sc_law.nd
  exact (by
      refine dss_cons ?_ ?_
      · exact (ds_set 1 hN (de_call ((d__law_draws T).at _) (PassW.of tk) (hr.mono (by decide)) (da_cons (de_name 0) da_nil)))
      refine dss_cons ?_ ?_
      · exact (ds_set 1 hN (de_call ((d__law_more T).at _) (PassW.of tk) (hr.mono (by decide)) (da_cons (de_name 1) (da_cons de_int da_nil))))
      refine dss_cons ?_ ?_
      · exact (ds_set 2 hN (de_tup (da_cons (de_tup (da_cons de_int (da_cons de_int da_nil))) (da_cons (de_tup (da_cons de_int (da_cons de_int da_nil))) da_nil))))
      refine dss_cons ?_ ?_
      · exact (ds_if (DW.dt (dw_or (dt_cmp (op_neP hu) dop_B2 (de_call ((d_term_text T 60).at _) (PassW.of tk) (hr.mono (by decide)) (da_cons (de_name 2) da_nil)) de_str (nomark _)) (dw_or1 (dt_cmp (op_neP hu) dop_B2 (de_callB (call_reprP hr.grd hu) dc_repr T.n_repr (da_cons (de_call ((d_read_term T).at _) (PassW.of tk) (hr.mono (by decide)) (da_cons de_str da_nil)) da_nil)) (de_callB (call_reprP hr.grd hu) dc_repr T.n_repr (da_cons (de_tup (da_cons de_str (da_cons de_non (da_cons (de_tup (da_cons (de_neg de_int) da_nil)) da_nil)))) da_nil)) (nomark _))))) (dss_cons (ds_ret de_bl)
          dss_nil) dss_nil)
      refine dss_cons ?_ ?_
      · exact (ds_for pp rfl (di_range1 T.n_range (da_cons de_int da_nil)) (dg_name 3 hN) (by
          refine dss_cons ?_ ?_
          · exact (ds_set 4 hN (de_call ((d__law_term T 60).at _) (PassW.of tk) (hr.mono (by decide)) (da_cons (de_name 1) (da_cons de_int da_nil))))
          refine dss_cons ?_ ?_
          · exact (ds_set 5 hN (de_call ((d__law_text T 60).at _) (PassW.of tk) (hr.mono (by decide)) (da_cons (de_name 4) da_nil)))
          refine dss_cons ?_ ?_
          · exact (ds_if (DW.dt (dw_or (dt_cmp (op_neP hu) dop_B2 (de_call ((d_term_text T 60).at _) (PassW.of tk) (hr.mono (by decide)) (da_cons (de_name 4) da_nil)) (de_name 5) (nomark _)) (dw_or1 (dt_cmp (op_neP hu) dop_B2 (de_callB (call_reprP hr.grd hu) dc_repr T.n_repr (da_cons (de_call ((d__law_told T).at _) (PassW.of tk) (hr.mono (by decide)) (da_cons (de_name 5) da_nil)) da_nil)) (de_callB (call_reprP hr.grd hu) dc_repr T.n_repr (da_cons (de_lst false (da_cons de_str (da_cons (de_name 4) da_nil))) da_nil)) (nomark _))))) (dss_cons (ds_ret de_bl)
              dss_nil) dss_nil)
          refine dss_cons ?_ ?_
          · exact (ds_if (DW.dt (dw_and (dt_truth (de_isa call_isa_tuple (de_name 4) T.n_isinstance T.n_tuple)) (dw_and1 (dt_cmp (op_neP hu) dop_B2 (de_call ((d_term_text T 60).at _) (PassW.of tk) (hr.mono (by decide)) (da_cons (de_callTy call_list_of (dc_lst false) T.n_list (da_cons (de_name 4) da_nil)) da_nil)) (de_name 5) (nomark _))))) (dss_cons (ds_ret de_bl)
              dss_nil) dss_nil)
          refine dss_cons ?_ ?_
          · exact (ds_for pp rfl (di_range1 T.n_range (da_cons de_int da_nil)) (dg_name 6 hN) (by
              refine dss_cons ?_ ?_
              · exact (ds_set 7 hN (de_op op_modN dop_mod (de_callTy call_intP (dc_1 pInt_v) T.n_int (da_cons (de_call ((d__law_next T).at _) (PassW.of tk) (hr.mono (by decide)) (da_cons (de_name 1) da_nil)) da_nil)) (de_op op_addAll (dop_add false) (de_callB call_lenP (dc_1 pLen_v) T.n_len (da_cons (de_name 5) da_nil)) de_int)))
              refine dss_cons ?_ ?_
              · exact (ds_set 8 hN (de_op op_modN dop_mod (de_callTy call_intP (dc_1 pInt_v) T.n_int (da_cons (de_call ((d__law_next T).at _) (PassW.of tk) (hr.mono (by decide)) (da_cons (de_name 1) da_nil)) da_nil)) de_int))
              refine dss_cons ?_ ?_
              · exact (ds_set 9 hN (de_call ((d__law_pick T).at _) (PassW.of tk) (hr.mono (by decide)) (da_cons (de_name 1) (da_cons (de_lst false (da_cons de_str (da_cons de_str (da_cons de_str (da_cons de_str (da_cons de_str (da_cons de_str (da_cons de_str (da_cons de_str (da_cons de_str (da_cons de_str (da_cons de_str (da_cons de_str da_nil))))))))))))) da_nil))))
              refine dss_cons ?_ ?_
              · exact (ds_set 10 hN (de_op op_addAll (dop_add false) (de_op op_addAll (dop_add false) (de_sl false (de_name 5) do_none (do_some (de_name 7))) (de_name 9)) (de_sl false (de_name 5) (do_some (de_op op_addAll (dop_add false) (de_name 7) (de_name 8))) do_none)))
              refine dss_cons ?_ ?_
              · exact (ds_if (DW.dt (dw_and (dt_cmp (op_notInP hu) dop_B2 de_str (de_name 10) (by rfl)) (dw_and1 (dt_cmp (op_neP hu) dop_B2 (de_callB (call_reprP hr.grd hu) dc_repr T.n_repr (da_cons (de_call ((d__law_told T).at _) (PassW.of tk) (hr.mono (by decide)) (da_cons (de_name 10) da_nil)) da_nil)) (de_callB (call_reprP hr.grd hu) dc_repr T.n_repr (da_cons (de_call ((d__law_due T).at _) (PassW.of tk) (hr.mono (by decide)) (da_cons (de_name 10) da_nil)) da_nil)) (nomark _))))) (dss_cons (ds_ret de_bl)
                  dss_nil) dss_nil)
              exact dss_nil))
          exact dss_nil))
      refine dss_cons ?_ ?_
      · exact (ds_set 11 hN (de_op op_addAll (dop_add false) (de_op op_addAll (dop_add false) (de_op op_mulAll (dop_mul false) de_str de_int) de_str) (de_op op_mulAll (dop_mul false) de_str de_int)))
      refine dss_cons ?_ ?_
      · exact (ds_set 12 hN (de_lst false (da_cons de_str (da_cons de_str (da_cons de_str (da_cons de_str (da_cons de_str (da_cons de_str (da_cons de_str (da_cons de_str (da_cons de_str (da_cons de_str (da_cons de_str (da_cons de_str (da_cons (de_op op_mulAll (dop_mul false) de_str de_int) (da_cons (de_op op_mulAll (dop_mul false) de_str de_int) (da_cons (de_op op_addAll (dop_add false) de_str (de_op op_mulAll (dop_mul false) de_str de_int)) (da_cons (de_name 11) (da_cons (de_op op_addAll (dop_add false) (de_op op_addAll (dop_add false) de_str (de_name 11)) de_str) (da_cons de_str (da_cons de_str (da_cons de_str (da_cons de_str da_nil)))))))))))))))))))))))
      refine dss_cons ?_ ?_
      · exact (ds_set 12 hN (de_op op_addAll (dop_add false) (de_name 12) (de_lst false (da_cons de_str (da_cons de_str (da_cons de_str da_nil))))))
      refine dss_cons ?_ ?_
      · exact (ds_if (dt_cmp (op_neP hu) dop_B2 (de_lc false rfl hN (di_any (de_name 12)) (blkOk_by (own := [("text", 5)]) (by first | rfl | decide +kernel)) (fun _ _ _ _ _ => (pg_name hN (by rfl) (by first | exact Or.inl rfl | exact Or.inr rfl))) (tg_name 5) (fun _ _ _ _ _ => dts_nil) (fun _ _ _ _ _ => (de_callB (call_reprP hr.grd hu) dc_repr T.n_repr (da_cons (de_call ((d__law_told T).at _) pw0 (hr.mono (by decide)) (da_cons (de_name 5) da_nil)) da_nil)))) (de_lc false rfl hN (di_any (de_name 12)) (blkOk_by (own := [("text", 5)]) (by first | rfl | decide +kernel)) (fun _ _ _ _ _ => (pg_name hN (by rfl) (by first | exact Or.inl rfl | exact Or.inr rfl))) (tg_name 5) (fun _ _ _ _ _ => dts_nil) (fun _ _ _ _ _ => (de_callB (call_reprP hr.grd hu) dc_repr T.n_repr (da_cons (de_call ((d__law_due T).at _) pw0 (hr.mono (by decide)) (da_cons (de_name 5) da_nil)) da_nil)))) (nomark _)) (dss_cons (ds_ret de_bl)
          dss_nil) dss_nil)
      refine dss_cons ?_ ?_
      · exact (ds_set 13 hN de_int)
      refine dss_cons ?_ ?_
      · exact (ds_for pp rfl (di_range1 T.n_range (da_cons de_int da_nil)) (dg_name 3 hN) (dss_cons (ds_set 13 hN (de_op op_mulAll (dop_mul false) de_int (de_name 13)))
          dss_nil))
      refine dss_cons ?_ ?_
      · exact (ds_if (DW.dt (dw_or (dt_cmp (op_neP hu) dop_B2 (de_call ((d_term_text T 60).at _) (PassW.of tk) (hr.mono (by decide)) (da_cons (de_op op_sub dop_sub (de_name 13) de_int) da_nil)) (de_op op_mulAll (dop_mul false) de_str de_int) (nomark _)) (dw_or (dt_cmp (op_neP hu) dop_B2 (de_call ((d_term_text T 60).at _) (PassW.of tk) (hr.mono (by decide)) (da_cons (de_op op_sub dop_sub de_int (de_name 13)) da_nil)) (de_op op_addAll (dop_add false) de_str (de_op op_mulAll (dop_mul false) de_str de_int)) (nomark _)) (dw_or1 (dt_not (dt_truth (de_call ((d__law_refused T).at _) (PassW.of tk) (hr.mono (by decide)) (da_cons (de_name 13) da_nil)))))))) (dss_cons (ds_ret de_bl)
          dss_nil) dss_nil)
      refine dss_cons ?_ ?_
      · exact (ds_ret (de_cmp (op_eqP hu) dop_B2 (de_lc false rfl hN (by exact di_any (de_lst false (da_cons de_str (da_cons de_str (da_cons de_str (da_cons (de_tup (da_cons de_str (da_cons de_str da_nil))) (da_cons (de_tup (da_cons (de_tup (da_cons de_str da_nil)) da_nil)) da_nil))))))) (blkOk_by (own := [("term", 4)]) (by first | rfl | decide +kernel)) (fun _ _ _ _ _ => (pg_name hN (by rfl) (by first | exact Or.inl rfl | exact Or.inr rfl))) (tg_name 4) (fun _ _ _ _ _ => dts_nil) (fun _ _ _ _ _ => (de_call ((d__law_refused T).at _) pw0 (hr.mono (by decide)) (da_cons (de_name 4) da_nil)))) (de_op op_mulAll (dop_mul false) (de_lst false (da_cons de_bl da_nil)) de_int) (nomark _)))
      exact dss_nil)) (fun ds m h => fnF_le h)
end
end K20
namespace K20
open PySem PySem.Spec PyProof.Rows L2 DL
theorem exm_self {K : PySem.W.Frag} {S : Addr} (h1 : PySem.W.subIn K (.ref S) (.type "BaseException") = some true) (h2 : PySem.W.isClsIn K S = true) (h3 : PySem.W.typeIn K (.ref S) = some (.type "type")) (h4 : PySem.W.subIn K (.ref S) (.ref S) = some true) : PySem.W.exmOne K (.ref S) (.ref S) = some true := by
  have h2 : (PySem.W.clsIn K S).isSome = true := h2
  unfold PySem.W.exmOne
  simp [h1, h2, h3, h4, PySem.W.kitCls]
theorem exm_t {K : PySem.W.Frag} {mg : Str → Option Value} {c : Str} {C : Addr} (hm : mg c = some (.ref C)) (h : PySem.W.exmOne K (.ref C) (.ref C) = some true) : ∀ D, mg c = some (.ref D) → ∀ e b, (fun e : Str => if e = c then some true else none) e = some b → ∀ Ce, mg e = some (.ref Ce) → PySem.W.exmOne K (.ref Ce) (.ref D) = some b := by
  intro D hD e b hb Ce he
  by_cases q : e = c
  · subst q
    rw [hm] at hD he
    cases hD; cases he
    have hb : some true = some b := by simpa using hb
    cases hb; exact h
  · have hb : (if e = c then some true else none) = some b := hb
    rw [if_neg q] at hb; cases hb
theorem all_mk {K : PySem.W.Frag} {h : Heap} {mg : Str → Option Value} (X : K.In h) (G : h.Ns mainGlobals mg)
    (dg : PySem.W.nsIn K cStatics "sys.int_max_str_digits" = some none)
    (z_abs : PySem.W.nsIn K mainGlobals "abs" = some none)
    (z_all : PySem.W.nsIn K mainGlobals "all" = some none)
    (z_int : PySem.W.nsIn K mainGlobals "int" = some none)
    (z_isinstance : PySem.W.nsIn K mainGlobals "isinstance" = some none)
    (z_len : PySem.W.nsIn K mainGlobals "len" = some none)
    (z_list : PySem.W.nsIn K mainGlobals "list" = some none)
    (z_range : PySem.W.nsIn K mainGlobals "range" = some none)
    (z_repr : PySem.W.nsIn K mainGlobals "repr" = some none)
    (z_str : PySem.W.nsIn K mainGlobals "str" = some none)
    (z_tuple : PySem.W.nsIn K mainGlobals "tuple" = some none)
    {t_FIGURES : Tok} (v_FIGURES : PySem.W.nsIn K mainGlobals "FIGURES" = some (some (.str "0123456789" t_FIGURES)))
    {t_MOST_BITS : Tok} (v_MOST_BITS : PySem.W.nsIn K mainGlobals "MOST_BITS" = some (some (.int 13287 t_MOST_BITS)))
    {t_MOST_FIGURES : Tok} (v_MOST_FIGURES : PySem.W.nsIn K mainGlobals "MOST_FIGURES" = some (some (.int 20 t_MOST_FIGURES)))
    {t_MOST_OPEN : Tok} (v_MOST_OPEN : PySem.W.nsIn K mainGlobals "MOST_OPEN" = some (some (.int 24 t_MOST_OPEN)))
    {t_MOST_TEXT : Tok} (v_MOST_TEXT : PySem.W.nsIn K mainGlobals "MOST_TEXT" = some (some (.int 4000 t_MOST_TEXT)))
    {t_NOBODY : Tok} (v_NOBODY : PySem.W.nsIn K mainGlobals "NOBODY" = some (some (.str "." t_NOBODY)))
    {t_NOTHING : Tok} (v_NOTHING : PySem.W.nsIn K mainGlobals "NOTHING" = some (some (.str "none" t_NOTHING)))
    {t_SMALL : Tok} (v_SMALL : PySem.W.nsIn K mainGlobals "SMALL" = some (some (.str "abcdefghijklmnopqrstuvwxyz" t_SMALL)))
    {C_FitError : Addr} (a_FitError : PySem.W.nsIn K mainGlobals "FitError" = some (some (.ref C_FitError)))
    (eC_FitError : PySem.W.subIn K (.ref C_FitError) (.type "BaseException") = some true)
    (iC_FitError : PySem.W.isClsIn K C_FitError = true)
    (tC_FitError : PySem.W.typeIn K (.ref C_FitError) = some (.type "type"))
    (sC_FitError : PySem.W.subIn K (.ref C_FitError) (.ref C_FitError) = some true)
    (kC_FitError : PySem.W.keepIn K (.ref C_FitError) = true)
    (ex_FitError : PySem.W.excIn K C_FitError [.type "ValueError", .type "Exception", .type "BaseException", .type "object"] "ValueError.__new__" = true)
    {C_BadNumber : Addr} (a_BadNumber : PySem.W.nsIn K mainGlobals "BadNumber" = some (some (.ref C_BadNumber)))
    (eC_BadNumber : PySem.W.subIn K (.ref C_BadNumber) (.type "BaseException") = some true)
    (iC_BadNumber : PySem.W.isClsIn K C_BadNumber = true)
    (tC_BadNumber : PySem.W.typeIn K (.ref C_BadNumber) = some (.type "type"))
    (sC_BadNumber : PySem.W.subIn K (.ref C_BadNumber) (.ref C_BadNumber) = some true)
    (kC_BadNumber : PySem.W.keepIn K (.ref C_BadNumber) = true)
    (ex_BadNumber : PySem.W.excIn K C_BadNumber [.type "ValueError", .type "Exception", .type "BaseException", .type "object"] "ValueError.__new__" = true)
    {C_Malformed : Addr} (a_Malformed : PySem.W.nsIn K mainGlobals "Malformed" = some (some (.ref C_Malformed)))
    (eC_Malformed : PySem.W.subIn K (.ref C_Malformed) (.type "BaseException") = some true)
    (iC_Malformed : PySem.W.isClsIn K C_Malformed = true)
    (tC_Malformed : PySem.W.typeIn K (.ref C_Malformed) = some (.type "type"))
    (sC_Malformed : PySem.W.subIn K (.ref C_Malformed) (.ref C_Malformed) = some true)
    (kC_Malformed : PySem.W.keepIn K (.ref C_Malformed) = true)
    {nm_Malformed qn_Malformed : Str} {N_Malformed : Addr} {bs_Malformed : List Value} {sn_Malformed : List Str} {sub_Malformed : List Value} {ab_Malformed : Bool} {col_Malformed : Option Bool} {dd_Malformed : Option Addr} {m0_Malformed m1_Malformed m2_Malformed m3_Malformed m5_Malformed : Option Value} {bm_Malformed : List Value}
    (x_Malformed : K.lookup C_Malformed = some (excClassObj nm_Malformed qn_Malformed C_Malformed N_Malformed bs_Malformed bm_Malformed true sn_Malformed sub_Malformed ab_Malformed col_Malformed dd_Malformed m0_Malformed m1_Malformed m2_Malformed m3_Malformed m5_Malformed "ValueError.__new__"))
    (rv_Malformed : PySem.HandSPX.refsVE bm_Malformed = true)
    (sa_Malformed : PySem.W.findIn K (.ref C_Malformed) "__setattr__" = some (some (.builtin "object.__setattr__")))
    (ga_Malformed : PySem.W.findIn K (.ref C_Malformed) "__getattribute__" = some (some (.builtin "BaseException.__getattribute__")))
    (gg_Malformed : PySem.W.findIn K (.ref C_Malformed) "__getattr__" = some none)
    (no_Malformed : PySem.W.findIn K (.ref C_Malformed) "at" = some none)
    (hd_Malformed : PySem.W.hasDictIn K C_Malformed = true)
    {f_Malformed_init : Addr} (ii_Malformed : PySem.W.findIn K (.ref C_Malformed) "__init__" = some (some (.ref f_Malformed_init)))
    (ti_Malformed : PySem.W.typeIn K (.ref f_Malformed_init) = some (.type "function"))
    {oc_Malformed_init kV_Malformed_init dc_Malformed_init pm_Malformed_init cd_Malformed_init ct_Malformed_init : Value} {od_Malformed_init an_Malformed_init : Option Addr} {sl_Malformed_init : Array (Option Value)}
    (l_Malformed_init : K.lookup f_Malformed_init = some ⟨oc_Malformed_init, od_Malformed_init, .func (PySem.W.fnOf "__init__" "Malformed.__init__" (defArgs s_Malformed_init) (defBody s_Malformed_init) (defScope s_Malformed_init) .none kV_Malformed_init dc_Malformed_init pm_Malformed_init an_Malformed_init cd_Malformed_init ct_Malformed_init), sl_Malformed_init⟩)
    (cc_Malformed_init : PySem.W.codeIn K cd_Malformed_init "Malformed.__init__" = true)
    (q_Malformed_init : PySem.W.keepIn K (.ref f_Malformed_init) = true)
    (rd_FitError : PySem.W.readsIn K C_FitError (.type "type") = true)
    (sg_FitError : PySem.W.specialIn K (.ref C_FitError) "__getattribute__" = some (some (.builtin "type.__getattribute__")))
    (fi_FitError : PySem.W.findCls K (.ref C_FitError) (.type "type") "__init__" = some (.val (.builtin "ValueError.__init__")))
    {C_Reading : Addr} (a_Reading : PySem.W.nsIn K mainGlobals "Reading" = some (some (.ref C_Reading)))
    (pg_Reading : PySem.W.plainGet K C_Reading Str.empty = true)
    (hd_Reading : PySem.W.hasDictIn K C_Reading = true)
    (po_Reading : PySem.W.plainOver K C_Reading = true)
    (sa_Reading : PySem.W.findIn K (.ref C_Reading) "__setattr__" = some (some (.builtin "object.__setattr__")))
    (mk_Reading : PySem.W.makesIn K C_Reading = true)
    (kC_Reading : PySem.W.keepIn K (.ref C_Reading) = true)
    (na_Reading_at : PySem.W.findIn K (.ref C_Reading) "at" = some none)
    (na_Reading_text : PySem.W.findIn K (.ref C_Reading) "text" = some none)
    {f_has_text : Addr} (a_has_text : PySem.W.nsIn K mainGlobals "has_text" = some (some (.ref f_has_text)))
    {oc_has_text kV_has_text dc_has_text pm_has_text cd_has_text ct_has_text : Value} {od_has_text an_has_text : Option Addr} {sl_has_text : Array (Option Value)}
    (l_has_text : K.lookup f_has_text = some ⟨oc_has_text, od_has_text, .func (PySem.W.fnOf "has_text" "has_text" (defArgs s_has_text) (defBody s_has_text) (defScope s_has_text) .none kV_has_text dc_has_text pm_has_text an_has_text cd_has_text ct_has_text), sl_has_text⟩)
    (cc_has_text : PySem.W.codeIn K cd_has_text "has_text" = true)
    (q_has_text : PySem.W.keepIn K (.ref f_has_text) = true)
    {f_term_text : Addr} (a_term_text : PySem.W.nsIn K mainGlobals "term_text" = some (some (.ref f_term_text)))
    {oc_term_text kV_term_text dc_term_text pm_term_text cd_term_text ct_term_text : Value} {od_term_text an_term_text : Option Addr} {sl_term_text : Array (Option Value)}
    (l_term_text : K.lookup f_term_text = some ⟨oc_term_text, od_term_text, .func (PySem.W.fnOf "term_text" "term_text" (defArgs s_term_text) (defBody s_term_text) (defScope s_term_text) .none kV_term_text dc_term_text pm_term_text an_term_text cd_term_text ct_term_text), sl_term_text⟩)
    (cc_term_text : PySem.W.codeIn K cd_term_text "term_text" = true)
    (q_term_text : PySem.W.keepIn K (.ref f_term_text) = true)
    {f_Reading_init : Addr} (ii_Reading_init : PySem.W.findIn K (.ref C_Reading) "__init__" = some (some (.ref f_Reading_init)))
    {oc_Reading_init kV_Reading_init dc_Reading_init pm_Reading_init cd_Reading_init ct_Reading_init : Value} {od_Reading_init an_Reading_init : Option Addr} {sl_Reading_init : Array (Option Value)}
    (l_Reading_init : K.lookup f_Reading_init = some ⟨oc_Reading_init, od_Reading_init, .func (PySem.W.fnOf "__init__" "Reading.__init__" (defArgs s_Reading_init) (defBody s_Reading_init) (defScope s_Reading_init) .none kV_Reading_init dc_Reading_init pm_Reading_init an_Reading_init cd_Reading_init ct_Reading_init), sl_Reading_init⟩)
    (cc_Reading_init : PySem.W.codeIn K cd_Reading_init "Reading.__init__" = true)
    (q_Reading_init : PySem.W.keepIn K (.ref f_Reading_init) = true)
    (fn_Reading_init : PySem.W.isFn K (.ref f_Reading_init) = true)
    {f_Reading_next_sign : Addr} (ii_Reading_next_sign : PySem.W.findIn K (.ref C_Reading) "next_sign" = some (some (.ref f_Reading_next_sign)))
    {oc_Reading_next_sign kV_Reading_next_sign dc_Reading_next_sign pm_Reading_next_sign cd_Reading_next_sign ct_Reading_next_sign : Value} {od_Reading_next_sign an_Reading_next_sign : Option Addr} {sl_Reading_next_sign : Array (Option Value)}
    (l_Reading_next_sign : K.lookup f_Reading_next_sign = some ⟨oc_Reading_next_sign, od_Reading_next_sign, .func (PySem.W.fnOf "next_sign" "Reading.next_sign" (defArgs s_Reading_next_sign) (defBody s_Reading_next_sign) (defScope s_Reading_next_sign) .none kV_Reading_next_sign dc_Reading_next_sign pm_Reading_next_sign an_Reading_next_sign cd_Reading_next_sign ct_Reading_next_sign), sl_Reading_next_sign⟩)
    (cc_Reading_next_sign : PySem.W.codeIn K cd_Reading_next_sign "Reading.next_sign" = true)
    (q_Reading_next_sign : PySem.W.keepIn K (.ref f_Reading_next_sign) = true)
    (fn_Reading_next_sign : PySem.W.isFn K (.ref f_Reading_next_sign) = true)
    {f_Reading_is_at : Addr} (ii_Reading_is_at : PySem.W.findIn K (.ref C_Reading) "is_at" = some (some (.ref f_Reading_is_at)))
    {oc_Reading_is_at kV_Reading_is_at dc_Reading_is_at pm_Reading_is_at cd_Reading_is_at ct_Reading_is_at : Value} {od_Reading_is_at an_Reading_is_at : Option Addr} {sl_Reading_is_at : Array (Option Value)}
    (l_Reading_is_at : K.lookup f_Reading_is_at = some ⟨oc_Reading_is_at, od_Reading_is_at, .func (PySem.W.fnOf "is_at" "Reading.is_at" (defArgs s_Reading_is_at) (defBody s_Reading_is_at) (defScope s_Reading_is_at) .none kV_Reading_is_at dc_Reading_is_at pm_Reading_is_at an_Reading_is_at cd_Reading_is_at ct_Reading_is_at), sl_Reading_is_at⟩)
    (cc_Reading_is_at : PySem.W.codeIn K cd_Reading_is_at "Reading.is_at" = true)
    (q_Reading_is_at : PySem.W.keepIn K (.ref f_Reading_is_at) = true)
    (fn_Reading_is_at : PySem.W.isFn K (.ref f_Reading_is_at) = true)
    {f_Reading_take : Addr} (ii_Reading_take : PySem.W.findIn K (.ref C_Reading) "take" = some (some (.ref f_Reading_take)))
    {oc_Reading_take kV_Reading_take dc_Reading_take pm_Reading_take cd_Reading_take ct_Reading_take : Value} {od_Reading_take an_Reading_take : Option Addr} {sl_Reading_take : Array (Option Value)}
    (l_Reading_take : K.lookup f_Reading_take = some ⟨oc_Reading_take, od_Reading_take, .func (PySem.W.fnOf "take" "Reading.take" (defArgs s_Reading_take) (defBody s_Reading_take) (defScope s_Reading_take) .none kV_Reading_take dc_Reading_take pm_Reading_take an_Reading_take cd_Reading_take ct_Reading_take), sl_Reading_take⟩)
    (cc_Reading_take : PySem.W.codeIn K cd_Reading_take "Reading.take" = true)
    (q_Reading_take : PySem.W.keepIn K (.ref f_Reading_take) = true)
    (fn_Reading_take : PySem.W.isFn K (.ref f_Reading_take) = true)
    {f_Reading_integer : Addr} (ii_Reading_integer : PySem.W.findIn K (.ref C_Reading) "integer" = some (some (.ref f_Reading_integer)))
    {oc_Reading_integer kV_Reading_integer dc_Reading_integer pm_Reading_integer cd_Reading_integer ct_Reading_integer : Value} {od_Reading_integer an_Reading_integer : Option Addr} {sl_Reading_integer : Array (Option Value)}
    (l_Reading_integer : K.lookup f_Reading_integer = some ⟨oc_Reading_integer, od_Reading_integer, .func (PySem.W.fnOf "integer" "Reading.integer" (defArgs s_Reading_integer) (defBody s_Reading_integer) (defScope s_Reading_integer) .none kV_Reading_integer dc_Reading_integer pm_Reading_integer an_Reading_integer cd_Reading_integer ct_Reading_integer), sl_Reading_integer⟩)
    (cc_Reading_integer : PySem.W.codeIn K cd_Reading_integer "Reading.integer" = true)
    (q_Reading_integer : PySem.W.keepIn K (.ref f_Reading_integer) = true)
    (fn_Reading_integer : PySem.W.isFn K (.ref f_Reading_integer) = true)
    {f_Reading_term : Addr} (ii_Reading_term : PySem.W.findIn K (.ref C_Reading) "term" = some (some (.ref f_Reading_term)))
    {oc_Reading_term kV_Reading_term dc_Reading_term pm_Reading_term cd_Reading_term ct_Reading_term : Value} {od_Reading_term an_Reading_term : Option Addr} {sl_Reading_term : Array (Option Value)}
    (l_Reading_term : K.lookup f_Reading_term = some ⟨oc_Reading_term, od_Reading_term, .func (PySem.W.fnOf "term" "Reading.term" (defArgs s_Reading_term) (defBody s_Reading_term) (defScope s_Reading_term) .none kV_Reading_term dc_Reading_term pm_Reading_term an_Reading_term cd_Reading_term ct_Reading_term), sl_Reading_term⟩)
    (cc_Reading_term : PySem.W.codeIn K cd_Reading_term "Reading.term" = true)
    (q_Reading_term : PySem.W.keepIn K (.ref f_Reading_term) = true)
    (fn_Reading_term : PySem.W.isFn K (.ref f_Reading_term) = true)
    {f_Reading_told_rows : Addr} (ii_Reading_told_rows : PySem.W.findIn K (.ref C_Reading) "told_rows" = some (some (.ref f_Reading_told_rows)))
    {oc_Reading_told_rows kV_Reading_told_rows dc_Reading_told_rows pm_Reading_told_rows cd_Reading_told_rows ct_Reading_told_rows : Value} {od_Reading_told_rows an_Reading_told_rows : Option Addr} {sl_Reading_told_rows : Array (Option Value)}
    (l_Reading_told_rows : K.lookup f_Reading_told_rows = some ⟨oc_Reading_told_rows, od_Reading_told_rows, .func (PySem.W.fnOf "told_rows" "Reading.told_rows" (defArgs s_Reading_told_rows) (defBody s_Reading_told_rows) (defScope s_Reading_told_rows) .none kV_Reading_told_rows dc_Reading_told_rows pm_Reading_told_rows an_Reading_told_rows cd_Reading_told_rows ct_Reading_told_rows), sl_Reading_told_rows⟩)
    (cc_Reading_told_rows : PySem.W.codeIn K cd_Reading_told_rows "Reading.told_rows" = true)
    (q_Reading_told_rows : PySem.W.keepIn K (.ref f_Reading_told_rows) = true)
    (fn_Reading_told_rows : PySem.W.isFn K (.ref f_Reading_told_rows) = true)
    {f_read_term : Addr} (a_read_term : PySem.W.nsIn K mainGlobals "read_term" = some (some (.ref f_read_term)))
    {oc_read_term kV_read_term dc_read_term pm_read_term cd_read_term ct_read_term : Value} {od_read_term an_read_term : Option Addr} {sl_read_term : Array (Option Value)}
    (l_read_term : K.lookup f_read_term = some ⟨oc_read_term, od_read_term, .func (PySem.W.fnOf "read_term" "read_term" (defArgs s_read_term) (defBody s_read_term) (defScope s_read_term) .none kV_read_term dc_read_term pm_read_term an_read_term cd_read_term ct_read_term), sl_read_term⟩)
    (cc_read_term : PySem.W.codeIn K cd_read_term "read_term" = true)
    (q_read_term : PySem.W.keepIn K (.ref f_read_term) = true)
    {f__law_number : Addr} (a__law_number : PySem.W.nsIn K mainGlobals "_law_number" = some (some (.ref f__law_number)))
    {oc__law_number kV__law_number dc__law_number pm__law_number cd__law_number ct__law_number : Value} {od__law_number an__law_number : Option Addr} {sl__law_number : Array (Option Value)}
    (l__law_number : K.lookup f__law_number = some ⟨oc__law_number, od__law_number, .func (PySem.W.fnOf "_law_number" "_law_number" (defArgs s__law_number) (defBody s__law_number) (defScope s__law_number) .none kV__law_number dc__law_number pm__law_number an__law_number cd__law_number ct__law_number), sl__law_number⟩)
    (cc__law_number : PySem.W.codeIn K cd__law_number "_law_number" = true)
    (q__law_number : PySem.W.keepIn K (.ref f__law_number) = true)
    {f__law_draws : Addr} (a__law_draws : PySem.W.nsIn K mainGlobals "_law_draws" = some (some (.ref f__law_draws)))
    {oc__law_draws kV__law_draws dc__law_draws pm__law_draws cd__law_draws ct__law_draws : Value} {od__law_draws an__law_draws : Option Addr} {sl__law_draws : Array (Option Value)}
    (l__law_draws : K.lookup f__law_draws = some ⟨oc__law_draws, od__law_draws, .func (PySem.W.fnOf "_law_draws" "_law_draws" (defArgs s__law_draws) (defBody s__law_draws) (defScope s__law_draws) .none kV__law_draws dc__law_draws pm__law_draws an__law_draws cd__law_draws ct__law_draws), sl__law_draws⟩)
    (cc__law_draws : PySem.W.codeIn K cd__law_draws "_law_draws" = true)
    (q__law_draws : PySem.W.keepIn K (.ref f__law_draws) = true)
    {f__law_next : Addr} (a__law_next : PySem.W.nsIn K mainGlobals "_law_next" = some (some (.ref f__law_next)))
    {oc__law_next kV__law_next dc__law_next pm__law_next cd__law_next ct__law_next : Value} {od__law_next an__law_next : Option Addr} {sl__law_next : Array (Option Value)}
    (l__law_next : K.lookup f__law_next = some ⟨oc__law_next, od__law_next, .func (PySem.W.fnOf "_law_next" "_law_next" (defArgs s__law_next) (defBody s__law_next) (defScope s__law_next) .none kV__law_next dc__law_next pm__law_next an__law_next cd__law_next ct__law_next), sl__law_next⟩)
    (cc__law_next : PySem.W.codeIn K cd__law_next "_law_next" = true)
    (q__law_next : PySem.W.keepIn K (.ref f__law_next) = true)
    {f__law_more : Addr} (a__law_more : PySem.W.nsIn K mainGlobals "_law_more" = some (some (.ref f__law_more)))
    {oc__law_more kV__law_more dc__law_more pm__law_more cd__law_more ct__law_more : Value} {od__law_more an__law_more : Option Addr} {sl__law_more : Array (Option Value)}
    (l__law_more : K.lookup f__law_more = some ⟨oc__law_more, od__law_more, .func (PySem.W.fnOf "_law_more" "_law_more" (defArgs s__law_more) (defBody s__law_more) (defScope s__law_more) .none kV__law_more dc__law_more pm__law_more an__law_more cd__law_more ct__law_more), sl__law_more⟩)
    (cc__law_more : PySem.W.codeIn K cd__law_more "_law_more" = true)
    (q__law_more : PySem.W.keepIn K (.ref f__law_more) = true)
    {f__law_pick : Addr} (a__law_pick : PySem.W.nsIn K mainGlobals "_law_pick" = some (some (.ref f__law_pick)))
    {oc__law_pick kV__law_pick dc__law_pick pm__law_pick cd__law_pick ct__law_pick : Value} {od__law_pick an__law_pick : Option Addr} {sl__law_pick : Array (Option Value)}
    (l__law_pick : K.lookup f__law_pick = some ⟨oc__law_pick, od__law_pick, .func (PySem.W.fnOf "_law_pick" "_law_pick" (defArgs s__law_pick) (defBody s__law_pick) (defScope s__law_pick) .none kV__law_pick dc__law_pick pm__law_pick an__law_pick cd__law_pick ct__law_pick), sl__law_pick⟩)
    (cc__law_pick : PySem.W.codeIn K cd__law_pick "_law_pick" = true)
    (q__law_pick : PySem.W.keepIn K (.ref f__law_pick) = true)
    {f__law_term : Addr} (a__law_term : PySem.W.nsIn K mainGlobals "_law_term" = some (some (.ref f__law_term)))
    {oc__law_term kV__law_term dc__law_term pm__law_term cd__law_term ct__law_term : Value} {od__law_term an__law_term : Option Addr} {sl__law_term : Array (Option Value)}
    (l__law_term : K.lookup f__law_term = some ⟨oc__law_term, od__law_term, .func (PySem.W.fnOf "_law_term" "_law_term" (defArgs s__law_term) (defBody s__law_term) (defScope s__law_term) .none kV__law_term dc__law_term pm__law_term an__law_term cd__law_term ct__law_term), sl__law_term⟩)
    (cc__law_term : PySem.W.codeIn K cd__law_term "_law_term" = true)
    (q__law_term : PySem.W.keepIn K (.ref f__law_term) = true)
    {f__law_text : Addr} (a__law_text : PySem.W.nsIn K mainGlobals "_law_text" = some (some (.ref f__law_text)))
    {oc__law_text kV__law_text dc__law_text pm__law_text cd__law_text ct__law_text : Value} {od__law_text an__law_text : Option Addr} {sl__law_text : Array (Option Value)}
    (l__law_text : K.lookup f__law_text = some ⟨oc__law_text, od__law_text, .func (PySem.W.fnOf "_law_text" "_law_text" (defArgs s__law_text) (defBody s__law_text) (defScope s__law_text) .none kV__law_text dc__law_text pm__law_text an__law_text cd__law_text ct__law_text), sl__law_text⟩)
    (cc__law_text : PySem.W.codeIn K cd__law_text "_law_text" = true)
    (q__law_text : PySem.W.keepIn K (.ref f__law_text) = true)
    {f__law_integer : Addr} (a__law_integer : PySem.W.nsIn K mainGlobals "_law_integer" = some (some (.ref f__law_integer)))
    {oc__law_integer kV__law_integer dc__law_integer pm__law_integer cd__law_integer ct__law_integer : Value} {od__law_integer an__law_integer : Option Addr} {sl__law_integer : Array (Option Value)}
    (l__law_integer : K.lookup f__law_integer = some ⟨oc__law_integer, od__law_integer, .func (PySem.W.fnOf "_law_integer" "_law_integer" (defArgs s__law_integer) (defBody s__law_integer) (defScope s__law_integer) .none kV__law_integer dc__law_integer pm__law_integer an__law_integer cd__law_integer ct__law_integer), sl__law_integer⟩)
    (cc__law_integer : PySem.W.codeIn K cd__law_integer "_law_integer" = true)
    (q__law_integer : PySem.W.keepIn K (.ref f__law_integer) = true)
    {f__law_read : Addr} (a__law_read : PySem.W.nsIn K mainGlobals "_law_read" = some (some (.ref f__law_read)))
    {oc__law_read kV__law_read dc__law_read pm__law_read cd__law_read ct__law_read : Value} {od__law_read an__law_read : Option Addr} {sl__law_read : Array (Option Value)}
    (l__law_read : K.lookup f__law_read = some ⟨oc__law_read, od__law_read, .func (PySem.W.fnOf "_law_read" "_law_read" (defArgs s__law_read) (defBody s__law_read) (defScope s__law_read) .none kV__law_read dc__law_read pm__law_read an__law_read cd__law_read ct__law_read), sl__law_read⟩)
    (cc__law_read : PySem.W.codeIn K cd__law_read "_law_read" = true)
    (q__law_read : PySem.W.keepIn K (.ref f__law_read) = true)
    {f__law_entries : Addr} (a__law_entries : PySem.W.nsIn K mainGlobals "_law_entries" = some (some (.ref f__law_entries)))
    {oc__law_entries kV__law_entries dc__law_entries pm__law_entries cd__law_entries ct__law_entries : Value} {od__law_entries an__law_entries : Option Addr} {sl__law_entries : Array (Option Value)}
    (l__law_entries : K.lookup f__law_entries = some ⟨oc__law_entries, od__law_entries, .func (PySem.W.fnOf "_law_entries" "_law_entries" (defArgs s__law_entries) (defBody s__law_entries) (defScope s__law_entries) .none kV__law_entries dc__law_entries pm__law_entries an__law_entries cd__law_entries ct__law_entries), sl__law_entries⟩)
    (cc__law_entries : PySem.W.codeIn K cd__law_entries "_law_entries" = true)
    (q__law_entries : PySem.W.keepIn K (.ref f__law_entries) = true)
    {f__law_due : Addr} (a__law_due : PySem.W.nsIn K mainGlobals "_law_due" = some (some (.ref f__law_due)))
    {oc__law_due kV__law_due dc__law_due pm__law_due cd__law_due ct__law_due : Value} {od__law_due an__law_due : Option Addr} {sl__law_due : Array (Option Value)}
    (l__law_due : K.lookup f__law_due = some ⟨oc__law_due, od__law_due, .func (PySem.W.fnOf "_law_due" "_law_due" (defArgs s__law_due) (defBody s__law_due) (defScope s__law_due) .none kV__law_due dc__law_due pm__law_due an__law_due cd__law_due ct__law_due), sl__law_due⟩)
    (cc__law_due : PySem.W.codeIn K cd__law_due "_law_due" = true)
    (q__law_due : PySem.W.keepIn K (.ref f__law_due) = true)
    {f__law_told : Addr} (a__law_told : PySem.W.nsIn K mainGlobals "_law_told" = some (some (.ref f__law_told)))
    {oc__law_told kV__law_told dc__law_told pm__law_told cd__law_told ct__law_told : Value} {od__law_told an__law_told : Option Addr} {sl__law_told : Array (Option Value)}
    (l__law_told : K.lookup f__law_told = some ⟨oc__law_told, od__law_told, .func (PySem.W.fnOf "_law_told" "_law_told" (defArgs s__law_told) (defBody s__law_told) (defScope s__law_told) .none kV__law_told dc__law_told pm__law_told an__law_told cd__law_told ct__law_told), sl__law_told⟩)
    (cc__law_told : PySem.W.codeIn K cd__law_told "_law_told" = true)
    (q__law_told : PySem.W.keepIn K (.ref f__law_told) = true)
    {f__law_refused : Addr} (a__law_refused : PySem.W.nsIn K mainGlobals "_law_refused" = some (some (.ref f__law_refused)))
    {oc__law_refused kV__law_refused dc__law_refused pm__law_refused cd__law_refused ct__law_refused : Value} {od__law_refused an__law_refused : Option Addr} {sl__law_refused : Array (Option Value)}
    (l__law_refused : K.lookup f__law_refused = some ⟨oc__law_refused, od__law_refused, .func (PySem.W.fnOf "_law_refused" "_law_refused" (defArgs s__law_refused) (defBody s__law_refused) (defScope s__law_refused) .none kV__law_refused dc__law_refused pm__law_refused an__law_refused cd__law_refused ct__law_refused), sl__law_refused⟩)
    (cc__law_refused : PySem.W.codeIn K cd__law_refused "_law_refused" = true)
    (q__law_refused : PySem.W.keepIn K (.ref f__law_refused) = true)
    {f_law : Addr} (a_law : PySem.W.nsIn K mainGlobals "law" = some (some (.ref f_law)))
    {oc_law kV_law dc_law pm_law cd_law ct_law : Value} {od_law an_law : Option Addr} {sl_law : Array (Option Value)}
    (l_law : K.lookup f_law = some ⟨oc_law, od_law, .func (PySem.W.fnOf "law" "law" (defArgs s_law) (defBody s_law) (defScope s_law) .none kV_law dc_law pm_law an_law cd_law ct_law), sl_law⟩)
    (cc_law : PySem.W.codeIn K cd_law "law" = true)
    (q_law : PySem.W.keepIn K (.ref f_law) = true) : Fa K mg where
  digits := dg
  n_abs := PySem.W.mg_none_of X G z_abs
  n_all := PySem.W.mg_none_of X G z_all
  n_int := PySem.W.mg_none_of X G z_int
  n_isinstance := PySem.W.mg_none_of X G z_isinstance
  n_len := PySem.W.mg_none_of X G z_len
  n_list := PySem.W.mg_none_of X G z_list
  n_range := PySem.W.mg_none_of X G z_range
  n_repr := PySem.W.mg_none_of X G z_repr
  n_str := PySem.W.mg_none_of X G z_str
  n_tuple := PySem.W.mg_none_of X G z_tuple
  c_FIGURES := .str (PySem.W.mg_of X G v_FIGURES)
  c_MOST_BITS := .int (PySem.W.mg_of X G v_MOST_BITS)
  c_MOST_FIGURES := .int (PySem.W.mg_of X G v_MOST_FIGURES)
  c_MOST_OPEN := .int (PySem.W.mg_of X G v_MOST_OPEN)
  c_MOST_TEXT := .int (PySem.W.mg_of X G v_MOST_TEXT)
  c_NOBODY := .str (PySem.W.mg_of X G v_NOBODY)
  c_NOTHING := .str (PySem.W.mg_of X G v_NOTHING)
  c_SMALL := .str (PySem.W.mg_of X G v_SMALL)
  e_FitError := ⟨_, PySem.W.mg_of X G a_FitError⟩
  t_FitError := exm_t (PySem.W.mg_of X G a_FitError) (exm_self eC_FitError iC_FitError tC_FitError sC_FitError)
  x_FitError := ⟨_, _, PySem.F.excBase_ValueError, PySem.W.mg_of X G a_FitError, ex_FitError, kC_FitError, eC_FitError, tC_FitError⟩
  e_BadNumber := ⟨_, PySem.W.mg_of X G a_BadNumber⟩
  t_BadNumber := exm_t (PySem.W.mg_of X G a_BadNumber) (exm_self eC_BadNumber iC_BadNumber tC_BadNumber sC_BadNumber)
  x_BadNumber := ⟨_, _, PySem.F.excBase_ValueError, PySem.W.mg_of X G a_BadNumber, ex_BadNumber, kC_BadNumber, eC_BadNumber, tC_BadNumber⟩
  e_Malformed := ⟨_, PySem.W.mg_of X G a_Malformed⟩
  t_Malformed := exm_t (PySem.W.mg_of X G a_Malformed) (exm_self eC_Malformed iC_Malformed tC_Malformed sC_Malformed)
  y_Malformed := fun D e => by
      have q := (PySem.W.mg_of X G a_Malformed).symm.trans e
      cases q
      exact ⟨⟨ga_Malformed, gg_Malformed, eC_Malformed, hd_Malformed⟩, no_Malformed⟩
  i_Malformed := ⟨⟨_, _, _, _, _, PySem.W.mg_of X G a_Malformed, ⟨⟨_, _, _, _, _, _, _, _, _, _, _, _, _, _, _, x_Malformed, rv_Malformed⟩, sa_Malformed, eC_Malformed, tC_Malformed, kC_Malformed⟩, ii_Malformed, ti_Malformed, fun_mk (st := s_Malformed_init) l_Malformed_init cc_Malformed_init q_Malformed_init, no_Malformed, PySem.W.mg_of X G a_FitError, ⟨rd_FitError, sg_FitError⟩, fi_FitError⟩⟩
  k_Reading := ⟨C_Reading, PySem.W.mg_of X G a_Reading, ⟨pg_Reading, hd_Reading, po_Reading, sa_Reading⟩, fun f hf => by
      simp only [List.mem_cons, List.mem_nil_iff, or_false] at hf
      rcases hf with rfl | rfl
      · exact na_Reading_at
      · exact na_Reading_text⟩
  f_has_text := ⟨_, _, PySem.W.mg_of X G a_has_text, fun_mk (st := s_has_text) l_has_text cc_has_text q_has_text⟩
  f_term_text := ⟨_, _, PySem.W.mg_of X G a_term_text, fun_mk (st := s_term_text) l_term_text cc_term_text q_term_text⟩
  f_Reading_init := ⟨_, _, _, PySem.W.mg_of X G a_Reading, fun_mk (st := s_Reading_init) l_Reading_init cc_Reading_init q_Reading_init, ⟨mk_Reading, ii_Reading_init, fn_Reading_init, kC_Reading⟩⟩
  f_Reading_next_sign := ⟨_, _, _, PySem.W.mg_of X G a_Reading, fun_mk (st := s_Reading_next_sign) l_Reading_next_sign cc_Reading_next_sign q_Reading_next_sign, ⟨ii_Reading_next_sign, fn_Reading_next_sign, q_Reading_next_sign⟩⟩
  f_Reading_is_at := ⟨_, _, _, PySem.W.mg_of X G a_Reading, fun_mk (st := s_Reading_is_at) l_Reading_is_at cc_Reading_is_at q_Reading_is_at, ⟨ii_Reading_is_at, fn_Reading_is_at, q_Reading_is_at⟩⟩
  f_Reading_take := ⟨_, _, _, PySem.W.mg_of X G a_Reading, fun_mk (st := s_Reading_take) l_Reading_take cc_Reading_take q_Reading_take, ⟨ii_Reading_take, fn_Reading_take, q_Reading_take⟩⟩
  f_Reading_integer := ⟨_, _, _, PySem.W.mg_of X G a_Reading, fun_mk (st := s_Reading_integer) l_Reading_integer cc_Reading_integer q_Reading_integer, ⟨ii_Reading_integer, fn_Reading_integer, q_Reading_integer⟩⟩
  f_Reading_term := ⟨_, _, _, PySem.W.mg_of X G a_Reading, fun_mk (st := s_Reading_term) l_Reading_term cc_Reading_term q_Reading_term, ⟨ii_Reading_term, fn_Reading_term, q_Reading_term⟩⟩
  f_Reading_told_rows := ⟨_, _, _, PySem.W.mg_of X G a_Reading, fun_mk (st := s_Reading_told_rows) l_Reading_told_rows cc_Reading_told_rows q_Reading_told_rows, ⟨ii_Reading_told_rows, fn_Reading_told_rows, q_Reading_told_rows⟩⟩
  f_read_term := ⟨_, _, PySem.W.mg_of X G a_read_term, fun_mk (st := s_read_term) l_read_term cc_read_term q_read_term⟩
  f__law_number := ⟨_, _, PySem.W.mg_of X G a__law_number, fun_mk (st := s__law_number) l__law_number cc__law_number q__law_number⟩
  f__law_draws := ⟨_, _, PySem.W.mg_of X G a__law_draws, fun_mk (st := s__law_draws) l__law_draws cc__law_draws q__law_draws⟩
  f__law_next := ⟨_, _, PySem.W.mg_of X G a__law_next, fun_mk (st := s__law_next) l__law_next cc__law_next q__law_next⟩
  f__law_more := ⟨_, _, PySem.W.mg_of X G a__law_more, fun_mk (st := s__law_more) l__law_more cc__law_more q__law_more⟩
  f__law_pick := ⟨_, _, PySem.W.mg_of X G a__law_pick, fun_mk (st := s__law_pick) l__law_pick cc__law_pick q__law_pick⟩
  f__law_term := ⟨_, _, PySem.W.mg_of X G a__law_term, fun_mk (st := s__law_term) l__law_term cc__law_term q__law_term⟩
  f__law_text := ⟨_, _, PySem.W.mg_of X G a__law_text, fun_mk (st := s__law_text) l__law_text cc__law_text q__law_text⟩
  f__law_integer := ⟨_, _, PySem.W.mg_of X G a__law_integer, fun_mk (st := s__law_integer) l__law_integer cc__law_integer q__law_integer⟩
  f__law_read := ⟨_, _, PySem.W.mg_of X G a__law_read, fun_mk (st := s__law_read) l__law_read cc__law_read q__law_read⟩
  f__law_entries := ⟨_, _, PySem.W.mg_of X G a__law_entries, fun_mk (st := s__law_entries) l__law_entries cc__law_entries q__law_entries⟩
  f__law_due := ⟨_, _, PySem.W.mg_of X G a__law_due, fun_mk (st := s__law_due) l__law_due cc__law_due q__law_due⟩
  f__law_told := ⟨_, _, PySem.W.mg_of X G a__law_told, fun_mk (st := s__law_told) l__law_told cc__law_told q__law_told⟩
  f__law_refused := ⟨_, _, PySem.W.mg_of X G a__law_refused, fun_mk (st := s__law_refused) l__law_refused cc__law_refused q__law_refused⟩
  f_law := ⟨_, _, PySem.W.mg_of X G a_law, fun_mk (st := s_law) l_law cc_law q_law⟩
theorem law_fn {P : Program} {w : World} {K : PySem.W.Frag} {mg : Str → Option Value} {fa : Addr} (T : Fa K mg) (hmg : mg "law" = some (.ref fa)) : ∃ fd : FuncData, (∀ (s : Shared) (u : Value), BindsTo s fd ⟨[u], []⟩ [("script", u)]) ∧
    ∀ base : Heap, K.In base → base.Ns mainGlobals mg → FnG P w K mg base (L2.CX P w) 67 fa fd ["script"] (spD K mg 1 F_law) := by
  obtain ⟨f, fd, hm, Fu⟩ := T.f_law
  cases hmg.symm.trans hm
  refine ⟨fd, fun s u => ?_, fun base h1 h2 => d_law T Fu⟩
  obtain ⟨oc, od, kV, doc, pm, an, cdv, ct, osl, rfl, _⟩ := Fu.ex
  exact .of_eq rfl
end K20
namespace K20
open PySem PySem.Spec PyProof.Rows L2 DL
abbrev I (i : Int) : DL.D := .p (.int i)

section
@[simp] theorem bind_eq {α β : Type} (x : M α) (f : α → M β) (ρ : Sg) : (x.bind f) ρ = (x ρ).bind f := rfl
@[simp] theorem rbind_ok {α β : Type} (a : α) (ρ : Sg) (f : α → M β) : (Rs.ok a ρ).bind f = f a ρ := rfl
@[simp] theorem rbind_bad {α β : Type} (f : α → M β) : (Rs.bad : Rs α).bind f = .bad := rfl
@[simp] theorem rbind_er {α β : Type} (e : Er) (ρ : Sg) (f : α → M β) : (Rs.er e ρ : Rs α).bind f = .er e ρ := rfl
@[simp] theorem ret_eq {α : Type} (a : α) (ρ : Sg) : M.ret a ρ = .ok a ρ := rfl
@[simp] theorem bad_eq {α : Type} (ρ : Sg) : (M.bad : M α) ρ = .bad := rfl
@[simp] theorem gVar_def (i : Nat) (ρ : Sg) : gVar i ρ = match ρ.s[i]? with | some (some d) => .ok d ρ | _ => .bad := rfl
def sq2 (h : M Fl) (f : Fl) : M Fl := match f with
  | .nx => h
  | f => M.ret f
@[simp] theorem sq2_nx (h : M Fl) : sq2 h .nx = h := rfl
@[simp] theorem sq2_rt (h : M Fl) (d : DL.D) : sq2 h (.rt d) = M.ret (.rt d) := rfl
@[simp] theorem sq2_bk (h : M Fl) : sq2 h .bk = M.ret .bk := rfl
@[simp] theorem sq2_ct (h : M Fl) : sq2 h .ct = M.ret .ct := rfl
@[simp] theorem gSeq_eq (g h : M Fl) (ρ : Sg) : gSeq g h ρ = (g ρ).bind (sq2 h) := rfl
@[simp] theorem put_eq (i : Nat) (d : DL.D) (ρ : Sg) : put i d ρ = .ok () ⟨ρ.s.set i (some d), ρ.m⟩ := rfl
@[simp] theorem gIfE_eq {α : Type} (c : M Bool) (a b : M α) (ρ : Sg) : gIfE c a b ρ = (c ρ).bind fun t => if t = true then a else b := rfl
@[simp] theorem gC_eq (x : PyData) : gC x = M.ret (.p x) := rfl
@[simp] theorem gRet_eq (g : M DL.D) : gRet g = g.bind fun d => M.ret (.rt d) := rfl
@[simp] theorem gNext_eq : gNext = M.ret .nx := rfl
@[simp] theorem gAsg_eq (g : M DL.D) (t : DL.D → M Unit) : gAsg g t = g.bind fun d => (t d).bind fun _ => M.ret .nx := rfl
@[simp] theorem gExpr_eq (g : M DL.D) : gExpr g = g.bind fun _ => M.ret .nx := rfl
@[simp] theorem gBin_eq (f : DL.D → DL.D → M DL.D) (ga gb : M DL.D) : gBin f ga gb = ga.bind fun a => gb.bind fun b => f a b := rfl
@[simp] theorem gCons_eq (g : M DL.D) (gs : M (List DL.D)) : DL.gCons g gs = g.bind fun a => gs.bind fun as => M.ret (a :: as) := rfl
@[simp] theorem gB_eq (g : M DL.D) : gB g = g.bind asB := rfl
@[simp] theorem asB_b (b : Bool) : asB (.p (.bool b)) = M.ret b := rfl
@[simp] theorem gTru_eq (g : M DL.D) : gTru g = g.bind tru := rfl
@[simp] theorem peek_p (x : PyData) : peek (.p x) = M.ret x := rfl
@[simp] theorem asI_i (i : Int) : asI (I i) = some i := rfl
@[simp] theorem c1_p (f : PyData → Option PyData) (x : PyData) : c1 f [.p x] = (match f x with | some z => M.ret (.p z) | none => M.bad) := rfl
@[simp] theorem fB2_p (f : PyData → PyData → Option Bool) (x y : PyData) : fB2 f (.p x) (.p y) = (match f x y with | some z => M.ret (.p (.bool z)) | none => M.bad) := rfl
@[simp] theorem fInt_i (C : Int → Int → Bool) (g : Int → Int → Int) (i j : Int) : fInt C g (I i) (I j) = ifI (C i j) (g i j) := rfl
@[simp] theorem ifI_t (z : Int) : ifI true z = M.ret (I z) := rfl
@[simp] theorem ifM_t {α : Type} (g : M α) : ifM true g = g := rfl
theorem dlt_i (i j : Int) : PySem.W.dataLt (.int i) (.int j) = decide (i < j) := by
  unfold PySem.W.dataLt
  rw [show PySem.W.keyToks (.int i) = [.inl i] from by simp [PySem.W.keyToks], show PySem.W.keyToks (.int j) = [.inl j] from by simp [PySem.W.keyToks], PyProof.Rows.lex_cons]
  show (decide (i < j) || (!decide (j < i) && false)) = _
  simp
theorem low_i (i j : Int) : min (PyData.int i).depth (PyData.int j).depth ≤ lowD := by simp [PyData.depth]
theorem alike_i (i j : Int) : PySem.W.alike (.int i) (.int j) = true := by simp [PySem.W.alike]
@[simp] theorem lt_i (i j : Int) : pLt (.int i) (.int j) = some (decide (i < j)) := by
  unfold pLt; rw [if_pos ⟨low_i i j, alike_i i j, rfl⟩, dlt_i]
@[simp] theorem ge_i (i j : Int) : pGe (.int i) (.int j) = some (!decide (i < j)) := by
  unfold pGe; rw [if_pos ⟨low_i i j, alike_i i j, rfl⟩, dlt_i]
@[simp] theorem gt_i (i j : Int) : pGt (.int i) (.int j) = some (decide (j < i)) := by
  unfold pGt; rw [if_pos ⟨low_i i j, alike_i i j, rfl⟩, dlt_i]
@[simp] theorem le_i (i j : Int) : pLe (.int i) (.int j) = some (!decide (j < i)) := by
  unfold pLe; rw [if_pos ⟨low_i i j, alike_i i j, rfl⟩, dlt_i]
@[simp] theorem sub_i (i j : Int) : fSub (I i) (I j) = M.ret (I (i - j)) := rfl
@[simp] theorem fdiv_i (i j : Int) (h : j ≠ 0 ∧ j.natAbs < 1073741824) : fFdiv (I i) (I j) = M.ret (I (i.fdiv j)) := by
  show ifI (decide (j ≠ 0 ∧ j.natAbs < 1073741824)) _ = _
  rw [decide_eq_true h]; rfl
@[simp] theorem mod_i (i j : Int) (h : j ≠ 0) : fMod (I i) (I j) = M.ret (I (i.fmod j)) := by
  show ifI (decide (j ≠ 0)) _ = _
  rw [decide_eq_true h]; rfl
@[simp] theorem addI (o : Bool) (i j : Int) : fAdd o (I i) (I j) = M.ret (I (i + j)) := rfl
theorem law_number_eq (i : Int) : F__law_number [I i] [] = .ok (I (if i < 0 then 0 - i else i)) ⟨[], []⟩ := by
  unfold F__law_number
  by_cases h : i < 0
  · simp [fnF, g__law_number, startD, fin, finD, h]
  · simp [fnF, g__law_number, startD, fin, finD, h]
theorem law_next_eq (xs : List PyData) : F__law_next [.loc 0] [.lst xs] = match xs.getLast? with
    | some x => .ok (.p x) ⟨[], [.lst xs.dropLast]⟩
    | none => .ok (I 0) ⟨[], [.lst xs]⟩ := by
  unfold F__law_next
  cases h : xs.getLast? with
  | none =>
    have : xs = [] := List.getLast?_eq_none_iff.mp h
    subst this
    simp [fnF, g__law_next, startD, fin, finD, tru, Cell.below]
  | some x =>
    have : xs ≠ [] := fun z => by subst z; cases h
    simp [fnF, g__law_next, startD, fin, finD, tru, Cell.below, gM, isL, cellL, mPop, setC, h, this]
/-! ### the draws -/
/-- a datum of the draws -/
def Dr (x : PyData) : Prop := ∃ i : Int, x = .int i ∧ 0 ≤ i ∧ i < 1000
def Drs (xs : List PyData) : Prop := ∀ x ∈ xs, Dr x
theorem callM_next (xs : List PyData) (j : Nat) (ρ : Sg) (h : ρ.m[j]? = some (.lst xs)) : callM 1 F__law_next [.loc j] ρ = match xs.getLast? with
    | some x => .ok (.p x) ⟨ρ.s, ρ.m.set j (.lst xs.dropLast)⟩
    | none => .ok (I 0) ⟨ρ.s, ρ.m.set j (.lst xs)⟩ := by
  have e : (locsOf [DL.D.loc j]) = [j] := rfl
  unfold callM
  simp only [e, cellsAt, h, Cell.live, Cell.flat]
  cases hx : xs.getLast? with
  | none => simp [renD, law_next_eq, hx, backD, setAll, Cell.flat]
  | some x => simp [renD, law_next_eq, hx, backD, setAll, Cell.flat]
/-- one draw: a number below 1000 -/
theorem next_of {xs : List PyData} (hd : Drs xs) (j : Nat) (ρ : Sg) (h : ρ.m[j]? = some (.lst xs)) : ∃ (i : Int) (ys : List PyData), 0 ≤ i ∧ i < 1000 ∧ Drs ys ∧ ys.length ≤ xs.length ∧ callM 1 F__law_next [.loc j] ρ = .ok (I i) ⟨ρ.s, ρ.m.set j (.lst ys)⟩ := by
  rw [callM_next xs j ρ h]
  cases hx : xs.getLast? with
  | none => exact ⟨0, xs, by omega, by omega, hd, Nat.le_refl _, rfl⟩
  | some x =>
    obtain ⟨i, rfl, h1, h2⟩ := hd x (List.mem_of_getLast? hx)
    exact ⟨i, xs.dropLast, h1, h2, fun y hy => hd y ((List.dropLast_sublist xs).subset hy), by simp, rfl⟩
end
end K20
namespace K20
open PySem PySem.Spec PyProof.Rows L2 DL
section
theorem cm (i j : Int) (h : -(2 ^ 64) < j ∧ j < 2 ^ 64) : cMul i j = true := by
  unfold cMul; rw [decide_eq_true h.1, decide_eq_true h.2]; simp
@[simp] theorem mul_48271 (o : Bool) (i : Int) : fMul o (I i) (I 48271) = M.ret (I (i * 48271)) := by
  show ifI (cMul i 48271) _ = _
  rw [cm i 48271 (by decide)]; rfl
@[simp] theorem mul_69621 (o : Bool) (i : Int) : fMul o (I i) (I 69621) = M.ret (I (i * 69621)) := by
  show ifI (cMul i 69621) _ = _
  rw [cm i 69621 (by decide)]; rfl
theorem cm' (i j : Int) (h : -(2 ^ 64) < i ∧ i < 2 ^ 64) : cMul i j = true := by
  unfold cMul; rw [decide_eq_true h.1, decide_eq_true h.2]; simp
@[simp] theorem mul_1000 (o : Bool) (i : Int) : fMul o (I 1000) (I i) = M.ret (I (1000 * i)) := by
  show ifI (cMul 1000 i) _ = _
  rw [cm' 1000 i (by decide)]; rfl
theorem fmod_rng (i : Int) (k : Int) (h : 0 < k) : 0 ≤ i.fmod k ∧ i.fmod k < k := by
  rw [Int.fmod_eq_emod_of_nonneg i (by omega)]
  exact ⟨Int.emod_nonneg i (by omega), Int.emod_lt_of_pos i h⟩
@[simp] theorem pInt_i (i : Int) : pInt (.int i) = some (.int i) := rfl
theorem dr_mod (i : Int) : Dr (.int (i.fmod 1000)) := ⟨_, rfl, (fmod_rng i 1000 (by decide)).1, (fmod_rng i 1000 (by decide)).2⟩
/-- list.append on a local list -/
theorem gM_append {g ge : M DL.D} {ρ ρ1 : Sg} {j : Nat} {xs : List PyData} {x : PyData} (h1 : g ρ = .ok (.loc j) ρ) (h2 : ρ.m[j]? = some (.lst xs)) (h3 : ge ρ = .ok (.p x) ρ) (hl : xs.length < sizeLine) :
    gM g (DL.gCons ge (M.ret [])) mAppend ρ = .ok (.p .none) ⟨ρ.s, ρ.m.set j (.lst (xs ++ [x]))⟩ := by
  simp [gM, h1, isL, cellL, h2, h3, mAppend, ifM, hl, setC]
def moreB : M Fl := gSeq (gAsg (gBin fMod ((DL.gCons (gBin (fAdd false) (gBin (fMul false) (gVar 2) (gC (.int 48271))) (gC (.int 12345))) (M.ret [])).bind (c1 pInt)) (gC (.int 2147483647))) (put 2))
    (gSeq (gExpr (gM (gVar 3) (DL.gCons (gBin fMod ((DL.gCons (gBin fFdiv (gVar 2) (gC (.int 7))) (M.ret [])).bind (c1 pInt)) (gC (.int 1000))) (M.ret [])) mAppend)) gNext)
theorem more_turn (a b : Option DL.D) (k : Option DL.D) (seed : Int) (c : Cell) (xs : List PyData) (hl : xs.length < sizeLine) :
    moreB ⟨[a, b, some (I seed), some (.loc 1), k], [c, .lst xs]⟩ = .ok .nx ⟨[a, b, some (I ((seed * 48271 + 12345).fmod 2147483647)), some (.loc 1), k], [c, .lst (xs ++ [.int ((((seed * 48271 + 12345).fmod 2147483647).fdiv 7).fmod 1000)])]⟩ := by
  unfold moreB
  simp [gM, isL, cellL, mAppend, ifM, hl, setC]
theorem more_loop (a b : Option DL.D) (c : Cell) : ∀ (is : List PyData) (k : Option DL.D) (seed : Int) (xs : List PyData), xs.length + is.length < sizeLine → Drs xs →
    ∃ seed' k' ys, forL (put 4) moreB is ⟨[a, b, some (I seed), some (.loc 1), k], [c, .lst xs]⟩ = .ok .nx ⟨[a, b, some (I seed'), some (.loc 1), k'], [c, .lst ys]⟩ ∧ Drs ys ∧ ys.length = xs.length + is.length
  | [], k, seed, xs, hl, hd => ⟨seed, k, xs, rfl, hd, rfl⟩
  | i :: is, k, seed, xs, hl, hd => by
    simp only [List.length_cons] at hl
    obtain ⟨s', k', ys, h1, h2, h3⟩ := more_loop a b c is (some (.p i)) ((seed * 48271 + 12345).fmod 2147483647) (xs ++ [.int ((((seed * 48271 + 12345).fmod 2147483647).fdiv 7).fmod 1000)]) (by simp; omega) (by
      intro x hx
      rcases List.mem_append.mp hx with h | h
      · exact hd x h
      · rw [List.mem_singleton.mp h]; exact dr_mod _)
    refine ⟨s', k', ys, ?_, h2, by rw [h3]; simp; omega⟩
    rw [← h1]
    show (((put 4 (.p i)).bind fun _ => moreB.bind _) _) = _
    simp [more_turn _ _ _ _ _ _ (show xs.length < sizeLine by omega)]
@[simp] theorem newL_t (xs : List PyData) (ρ : Sg) : newL true xs ρ = .ok (.loc ρ.m.length) ⟨ρ.s, ρ.m ++ [.lst xs]⟩ := rfl
@[simp] theorem mkL_nil (o : Bool) : mkL o [] = newL o [] := by simp [mkL, asPs, ifM]
theorem gFor_eq (gi : M (List PyData)) (t : DL.D → M Unit) (b : M Fl) (ρ : Sg) : gFor gi t b ρ = (gi ρ).bind fun xs => forL t b xs := rfl
theorem small_n (n : Nat) (h : n < 1000000) : smallI (n : Int) = true := by
  unfold smallI
  rw [Bool.and_eq_true, decide_eq_true_eq, decide_eq_true_eq]
  have e : (2 : Int) ^ 62 = 4611686018427387904 := by decide
  rw [e]; omega
theorem rg1_n (n : Nat) (h : n < 1000000) : rg1 [I n] = M.ret (rangeL 0 n) := by
  show (ifM (smallI (n : Int)) (M.ret (rangeL 0 (n : Int).toNat))) = _
  rw [small_n n h]; rfl
theorem rangeL_len (lo : Int) (n : Nat) : (rangeL lo n).length = n := by simp [rangeL]
theorem add_loc {i j : Nat} {xs ys : List PyData} {ρ : Sg} (h1 : ρ.m[i]? = some (.lst xs)) (h2 : ρ.m[j]? = some (.lst ys)) (h : xs.length + ys.length ≤ sizeLine) : fAdd true (.loc i) (.loc j) ρ = .ok (.loc ρ.m.length) ⟨ρ.s, ρ.m ++ [.lst (xs ++ ys)]⟩ := by
  show fAddS true (.loc i) (.loc j) ρ = _
  unfold fAddS
  have e1 : sq (.loc i) ρ = .ok (true, xs) ρ := by simp [sq, h1]
  have e2 : sq (.loc j) ρ = .ok (true, ys) ρ := by simp [sq, h2]
  rw [bind_eq, e1, rbind_ok, bind_eq, e2, rbind_ok]
  show (if xs.length + ys.length ≤ sizeLine then addK true true true (xs ++ ys) else M.bad) ρ = _
  rw [if_pos h]; rfl
theorem more_eq {xs : List PyData} (hd : Drs xs) (hl : xs.length < 1000000) : ∃ ys zs, Drs ys ∧ zs.length < 2000000 ∧ F__law_more [.loc 0, I 120] [.lst xs] = .ok (.loc 1) ⟨[], [.lst ys, .lst zs]⟩ ∧ Drs zs := by
  have e : g__law_more = gSeq (gAsg (gBin (fAdd false) (gBin (fAdd false) (gBin (fMul false) (gC (.int 1000)) ((DL.gCons (gVar 0) (M.ret [])).bind (callM 1 F__law_next))) ((DL.gCons (gVar 0) (M.ret [])).bind (callM 1 F__law_next))) (gC (.int 1))) (put 2))
    (gSeq (gAsg ((M.ret []).bind (mkL true)) (put 3)) (gSeq (gFor ((DL.gCons (gVar 1) (M.ret [])).bind rg1) (put 4) moreB) (gSeq (gRet (gBin (fAdd true) (gVar 3) (gVar 0))) gNext))) := rfl
  obtain ⟨i1, x1, _, _, d1, l1, n1⟩ := next_of hd 0 ⟨[some (.loc 0), some (I 120), none, none, none], [.lst xs]⟩ rfl
  obtain ⟨i2, x2, _, _, d2, l2, n2⟩ := next_of d1 0 ⟨[some (.loc 0), some (I 120), none, none, none], [.lst x1]⟩ rfl
  obtain ⟨s', k', ys, h1, h2, h3⟩ := more_loop (some (.loc 0)) (some (I 120)) (.lst x2) (rangeL 0 120) none (1000 * i1 + i2 + 1) [] (by rw [rangeL_len, sizeLine_eq]; simp) (fun x hx => nomatch hx)
  rw [rangeL_len] at h3
  have hr : rg1 [I 120] = M.ret (rangeL 0 120) := rg1_n 120 (by decide)
  have sz : ys.length + x2.length ≤ sizeLine := by rw [sizeLine_eq]; simp at h3; omega
  refine ⟨x2, ys ++ x2, d2, by simp at h3 ⊢; omega, ?_, fun x hx => (List.mem_append.mp hx).elim (h2 x) (d2 x)⟩
  simp at n1 n2
  have s1 : gAsg (gBin (fAdd false) (gBin (fAdd false) (gBin (fMul false) (gC (.int 1000)) ((DL.gCons (gVar 0) (M.ret [])).bind (callM 1 F__law_next))) ((DL.gCons (gVar 0) (M.ret [])).bind (callM 1 F__law_next))) (gC (.int 1))) (put 2) ⟨[some (.loc 0), some (I 120), none, none, none], [.lst xs]⟩ =
      .ok .nx ⟨[some (.loc 0), some (I 120), some (I (1000 * i1 + i2 + 1)), none, none], [.lst x2]⟩ := by simp [n1, n2]
  have s2 : gAsg ((M.ret []).bind (mkL true)) (put 3) ⟨[some (.loc 0), some (I 120), some (I (1000 * i1 + i2 + 1)), none, none], [.lst x2]⟩ = .ok .nx ⟨[some (.loc 0), some (I 120), some (I (1000 * i1 + i2 + 1)), some (.loc 1), none], [.lst x2, .lst []]⟩ := by simp
  have s3 : gFor ((DL.gCons (gVar 1) (M.ret [])).bind rg1) (put 4) moreB ⟨[some (.loc 0), some (I 120), some (I (1000 * i1 + i2 + 1)), some (.loc 1), none], [.lst x2, .lst []]⟩ = .ok .nx ⟨[some (.loc 0), some (I 120), some (I s'), some (.loc 1), k'], [.lst x2, .lst ys]⟩ := by
    rw [gFor_eq]; simp [hr, h1]
  have s4 : gSeq (gRet (gBin (fAdd true) (gVar 3) (gVar 0))) gNext ⟨[some (.loc 0), some (I 120), some (I s'), some (.loc 1), k'], [.lst x2, .lst ys]⟩ = .ok (.rt (.loc 2)) ⟨[some (.loc 0), some (I 120), some (I s'), some (.loc 1), k'], [.lst x2, .lst ys, .lst (ys ++ x2)]⟩ := by
    have := add_loc (i := 1) (j := 0) (ρ := ⟨[some (.loc 0), some (I 120), some (I s'), some (.loc 1), k'], [.lst x2, .lst ys]⟩) rfl rfl sz
    simp at this
    simp [this]
  have hg : g__law_more ⟨[some (.loc 0), some (I 120), none, none, none], [.lst xs]⟩ = .ok (.rt (.loc 2)) ⟨[some (.loc 0), some (I 120), some (I s'), some (.loc 1), k'], [.lst x2, .lst ys, .lst (ys ++ x2)]⟩ := by
    rw [e, gSeq_eq, s1, rbind_ok, sq2_nx, gSeq_eq, s2, rbind_ok, sq2_nx, gSeq_eq, s3, rbind_ok, sq2_nx, s4]
  show (if [DL.D.loc 0, I 120].length = 2 then fin 1 (g__law_more ⟨[some (.loc 0), some (I 120), none, none, none], [.lst xs]⟩) else .bad) = _
  rw [hg]
  simp [fin, finD, Cell.below, Cell.live, Cell.flat]
end
end K20
namespace K20
open PySem PySem.Spec PyProof.Rows L2 DL
section
@[simp] theorem eq_i (i j : Int) : pEq (.int i) (.int j) = some (decide (i = j)) := by
  unfold pEq; rw [if_pos (low_i i j)]
  have : PyData.eqv (.int i) (.int j) = (i == j) := by simp [PyData.eqv]
  rw [this]; congr 1
def inB : M Fl := gSeq (gIfE (gB (gBin (fB2 pEq) (gVar 3) (gC (.int 0)))) (gSeq (M.ret .bk) gNext) gNext)
    (gSeq (gExpr (gM (gVar 1) (DL.gCons (gBin fMod ((DL.gCons (gVar 3) (M.ret [])).bind (c1 pInt)) (gC (.int 1000))) (M.ret [])) mAppend))
    (gSeq (gAsg (gBin fFdiv (gVar 3) (gC (.int 1000))) (put 3)) gNext))
theorem in_stop (a c k o t : Option DL.D) (xs : List PyData) : inB ⟨[a, some (.loc 0), c, some (I 0), k, o, t], [.lst xs]⟩ = .ok .bk ⟨[a, some (.loc 0), c, some (I 0), k, o, t], [.lst xs]⟩ := by
  unfold inB; simp
theorem in_turn (a c k o t : Option DL.D) (r : Int) (h : r ≠ 0) (xs : List PyData) (hl : xs.length < sizeLine) : inB ⟨[a, some (.loc 0), c, some (I r), k, o, t], [.lst xs]⟩ = .ok .nx ⟨[a, some (.loc 0), c, some (I (r.fdiv 1000)), k, o, t], [.lst (xs ++ [.int (r.fmod 1000)])]⟩ := by
  unfold inB; simp [h, gM, isL, cellL, mAppend, ifM, hl, setC]
theorem drs_app {xs : List PyData} {x : PyData} (h : Drs xs) (hx : Dr x) : Drs (xs ++ [x]) := fun y hy => (List.mem_append.mp hy).elim (h y) fun z => by rw [List.mem_singleton.mp z]; exact hx
theorem in_loop (a c o t : Option DL.D) : ∀ (is : List PyData) (k : Option DL.D) (r : Int) (xs : List PyData), xs.length + is.length < sizeLine → Drs xs →
    ∃ r' k' ys, forL (put 4) inB is ⟨[a, some (.loc 0), c, some (I r), k, o, t], [.lst xs]⟩ = .ok .nx ⟨[a, some (.loc 0), c, some (I r'), k', o, t], [.lst ys]⟩ ∧ Drs ys ∧ ys.length ≤ xs.length + is.length
  | [], k, r, xs, hl, hd => ⟨r, k, xs, rfl, hd, by simp⟩
  | i :: is, k, r, xs, hl, hd => by
    simp only [List.length_cons] at hl
    have st : ∀ r xs, forL (put 4) inB (i :: is) ⟨[a, some (.loc 0), c, some (I r), k, o, t], [.lst xs]⟩ = (inB ⟨[a, some (.loc 0), c, some (I r), some (.p i), o, t], [.lst xs]⟩).bind fun f => match f with
        | .nx => forL (put 4) inB is
        | .ct => forL (put 4) inB is
        | .bk => M.ret .nx
        | .rt d => M.ret (.rt d) := fun r xs => rfl
    by_cases h : r = 0
    · subst h
      refine ⟨0, some (.p i), xs, ?_, hd, by simp⟩
      rw [st, in_stop]; rfl
    · obtain ⟨r', k', ys, h1, h2, h3⟩ := in_loop a c o t is (some (.p i)) (r.fdiv 1000) (xs ++ [.int (r.fmod 1000)]) (by simp; omega) (drs_app hd (dr_mod r))
      refine ⟨r', k', ys, ?_, h2, by simp at h3 ⊢; omega⟩
      rw [st, in_turn a c (some (.p i)) o t r h xs (by omega)]
      exact h1
@[simp] theorem eq_law_number (i : Int) (ρ : Sg) : callM 1 F__law_number [I i] ρ = .ok (I (if i < 0 then 0 - i else i)) ρ := by
  unfold callM
  have e : (locsOf [I i]) = [] := rfl
  simp [e, cellsAt, renD, law_number_eq, backD, setAll]
def outB : M Fl := gSeq (gAsg ((DL.gCons (gVar 2) (M.ret [])).bind (callM 1 F__law_number)) (put 3))
    (gSeq (gIfE (gB (gBin (fB2 pGe) (gVar 3) (gC (.int 1000000000000000000)))) (gSeq (gFor ((DL.gCons (gC (.int 60)) (M.ret [])).bind rg1) (put 4) inB) gNext)
     (gSeq (gAsg (gBin fMod ((DL.gCons (gBin (fAdd false) (gBin (fMul false) (gVar 3) (gC (.int 48271))) (gC (.int 11))) (M.ret [])).bind (c1 pInt)) (gC (.int 2147483647))) (put 5))
    (gSeq (gAsg (gBin fMod ((DL.gCons (gBin (fAdd false) (gBin (fMul false) (gVar 5) (gC (.int 69621))) (gVar 3)) (M.ret [])).bind (c1 pInt)) (gC (.int 2147483629))) (put 6))
    (gSeq (gExpr (gM (gVar 1) (DL.gCons ((DL.gCons (gBin fMod ((DL.gCons (gVar 3) (M.ret [])).bind (c1 pInt)) (gC (.int 1000))) (DL.gCons (gBin fMod ((DL.gCons (gVar 5) (M.ret [])).bind (c1 pInt)) (gC (.int 1000))) (DL.gCons (gBin fMod ((DL.gCons (gVar 6) (M.ret [])).bind (c1 pInt)) (gC (.int 1000))) (M.ret [])))).bind (mkL false)) (M.ret [])) mExtend)) gNext)))) gNext)
theorem mkL_false (a b c : PyData) : mkL false [.p a, .p b, .p c] = M.ret (.p (.list [a, b, c])) := by
  have : decide (([a, b, c] : List PyData).length ≤ sizeLine) = true := decide_eq_true (by rw [sizeLine_eq]; show 3 ≤ 16777216; decide)
  show ifM (decide (([a, b, c] : List PyData).length ≤ sizeLine)) (newL false [a, b, c]) = _
  rw [this]; rfl
theorem out_turn (a k o t r0 : Option DL.D) (i : Int) (xs : List PyData) (hl : xs.length + 60 < sizeLine) (hd : Drs xs) : ∃ r k' o' t' ys, outB ⟨[a, some (.loc 0), some (I i), r0, k, o, t], [.lst xs]⟩ = .ok .nx ⟨[a, some (.loc 0), some (I i), r, k', o', t'], [.lst ys]⟩ ∧ Drs ys ∧ ys.length ≤ xs.length + 60 := by
  have s1 : gAsg ((DL.gCons (gVar 2) (M.ret [])).bind (callM 1 F__law_number)) (put 3) ⟨[a, some (.loc 0), some (I i), r0, k, o, t], [.lst xs]⟩ = .ok .nx ⟨[a, some (.loc 0), some (I i), some (I (if i < 0 then 0 - i else i)), k, o, t], [.lst xs]⟩ := by simp
  generalize (if i < 0 then 0 - i else i) = n at s1
  by_cases h : n < 1000000000000000000
  · have l3 : xs.length + 3 ≤ sizeLine := by rw [sizeLine_eq] at hl ⊢; omega
    refine ⟨some (I n), k, some (I ((n * 48271 + 11).fmod 2147483647)), some (I (((n * 48271 + 11).fmod 2147483647 * 69621 + n).fmod 2147483629)), xs ++ [.int (n.fmod 1000), .int (((n * 48271 + 11).fmod 2147483647).fmod 1000), .int ((((n * 48271 + 11).fmod 2147483647 * 69621 + n).fmod 2147483629).fmod 1000)], ?_, ?_, by simp⟩
    · unfold outB
      rw [gSeq_eq, s1, rbind_ok, sq2_nx]
      simp [h, gM, isL, cellL, mExtend, ifM, setC, mkL_false, sq, l3]
    · intro y hy
      rcases List.mem_append.mp hy with z | z
      · exact hd y z
      · simp only [List.mem_cons, List.mem_nil_iff, or_false] at z
        rcases z with rfl | rfl | rfl <;> exact dr_mod _
  · obtain ⟨r', k', ys, h1, h2, h3⟩ := in_loop a (some (I i)) o t (rangeL 0 60) k n xs (by rw [rangeL_len]; omega) hd
    rw [rangeL_len] at h3
    refine ⟨some (I r'), k', o, t, ys, ?_, h2, h3⟩
    have hr : rg1 [I 60] = M.ret (rangeL 0 60) := rg1_n 60 (by decide)
    have s2 : gFor ((DL.gCons (gC (.int 60)) (M.ret [])).bind rg1) (put 4) inB ⟨[a, some (.loc 0), some (I i), some (I n), k, o, t], [.lst xs]⟩ = .ok .nx ⟨[a, some (.loc 0), some (I i), some (I r'), k', o, t], [.lst ys]⟩ := by
      rw [gFor_eq]; simp [hr, h1]
    unfold outB
    rw [gSeq_eq, s1, rbind_ok, sq2_nx]
    simp at s2
    simp [h, s2]
theorem out_loop (a : Option DL.D) : ∀ (ns : List Int) (c r k o t : Option DL.D) (xs : List PyData), xs.length + 60 * ns.length < 1000000 → Drs xs →
    ∃ c' r' k' o' t' ys, forL (put 2) outB (ns.map PyData.int) ⟨[a, some (.loc 0), c, r, k, o, t], [.lst xs]⟩ = .ok .nx ⟨[a, some (.loc 0), c', r', k', o', t'], [.lst ys]⟩ ∧ Drs ys ∧ ys.length ≤ xs.length + 60 * ns.length
  | [], c, r, k, o, t, xs, hl, hd => ⟨c, r, k, o, t, xs, rfl, hd, by simp⟩
  | n :: ns, c, r, k, o, t, xs, hl, hd => by
    simp only [List.length_cons] at hl
    obtain ⟨r1, k1, o1, t1, y1, h1, d1, l1⟩ := out_turn a k o t r n xs (by rw [sizeLine_eq]; omega) hd
    obtain ⟨c', r', k', o', t', ys, h2, d2, l2⟩ := out_loop a ns (some (I n)) r1 k1 o1 t1 y1 (by omega) d1
    refine ⟨c', r', k', o', t', ys, ?_, d2, by simp only [List.length_cons]; omega⟩
    rw [← h2]
    show (((put 2 (I n)).bind fun _ => outB.bind _) _) = _
    simp [h1]
theorem draws_eq {ns : List Int} (hn : ns.length ≤ 63) : ∃ xs, Drs xs ∧ xs.length < 10000 ∧ F__law_draws [.scr ns] [] = .ok (.loc 0) ⟨[], [.lst xs]⟩ := by
  have e : g__law_draws = gSeq (gAsg ((M.ret []).bind (mkL true)) (put 1)) (gSeq (gFor ((gVar 0).bind itA) (put 2) outB) (gSeq (gExpr (gM (gVar 1) (M.ret []) mReverse)) (gSeq (gRet (gVar 1)) gNext))) := rfl
  obtain ⟨c', r', k', o', t', ys, h1, h2, h3⟩ := out_loop (some (.scr ns)) ns none none none none none [] (by simp; omega) (fun x hx => nomatch hx)
  have s1 : gAsg ((M.ret []).bind (mkL true)) (put 1) ⟨[some (.scr ns), none, none, none, none, none, none], []⟩ = .ok .nx ⟨[some (.scr ns), some (.loc 0), none, none, none, none, none], [.lst []]⟩ := by simp
  have s2 : gFor ((gVar 0).bind itA) (put 2) outB ⟨[some (.scr ns), some (.loc 0), none, none, none, none, none], [.lst []]⟩ = .ok .nx ⟨[some (.scr ns), some (.loc 0), c', r', k', o', t'], [.lst ys]⟩ := by
    rw [gFor_eq]; simp [itA, h1]
  have s3 : gExpr (gM (gVar 1) (M.ret []) mReverse) ⟨[some (.scr ns), some (.loc 0), c', r', k', o', t'], [.lst ys]⟩ = .ok .nx ⟨[some (.scr ns), some (.loc 0), c', r', k', o', t'], [.lst ys.reverse]⟩ := by
    simp [gM, isL, cellL, mReverse, setC]
  refine ⟨ys.reverse, fun x hx => h2 x (List.mem_reverse.mp hx), by simp at h3 ⊢; omega, ?_⟩
  have hg : g__law_draws ⟨[some (.scr ns), none, none, none, none, none, none], []⟩ = .ok (.rt (.loc 0)) ⟨[some (.scr ns), some (.loc 0), c', r', k', o', t'], [.lst ys.reverse]⟩ := by
    rw [e, gSeq_eq, s1, rbind_ok, sq2_nx, gSeq_eq, s2, rbind_ok, sq2_nx, gSeq_eq, s3, rbind_ok, sq2_nx]
    simp
  show (if [DL.D.scr ns].length = 1 then fin 0 (g__law_draws ⟨[some (.scr ns), none, none, none, none, none, none], []⟩) else .bad) = _
  rw [hg]
  simp [fin, finD, Cell.live, Cell.flat]
end
end K20
namespace K20
open PySem PySem.Spec PyProof.Rows L2 DL
section
@[simp] theorem opt_some {α : Type} (a : α) : M.opt (some a) = M.ret a := rfl
/-- a text by its signs -/
abbrev Tx (a : List Nat) : Str := ⟨a.toArray⟩
theorem tx_len (a : List Nat) : (Tx a).length = a.length := by simp [Tx, Str.length]
theorem tx_inj {a b : List Nat} : Tx a = Tx b ↔ a = b := by
  constructor
  · intro h
    have : a.toArray = b.toArray := congrArg Str.cps h
    simpa using this
  · rintro rfl; rfl
theorem tx_cut (a : List Nat) (i j : Nat) : cutS (Tx a) (some (i : Int)) (some (j : Int)) = Tx ((a.drop (min i a.length)).take (min j a.length - min i a.length)) := by
  show (⟨(((Tx a).cps.toList.drop (HT.sIx a.length 0 (some (i : Int)))).take (HT.sIx a.length a.length (some (j : Int)) - HT.sIx a.length 0 (some (i : Int)))).toArray⟩ : Str) = _
  rw [HT.sIx_nat, HT.sIx_nat]
theorem tx_next (a : List Nat) (i : Nat) : cutS (Tx a) (some (i : Int)) (some ((i : Int) + 1)) = Tx ((a.drop i).take 1) := by
  have := tx_cut a i (i + 1)
  rw [show ((i + 1 : Nat) : Int) = (i : Int) + 1 by omega] at this
  rw [this]
  by_cases h : i < a.length
  · rw [show min i a.length = i by omega, show min (i + 1) a.length - i = 1 by omega]
  · rw [List.drop_of_length_le (by omega), List.drop_of_length_le (show a.length ≤ i by omega)]; simp
/-- the reader at its place -/
def RC (a : List Nat) (i : Nat) : Cell := .obj "Reading" [("text", .p (.str (Tx a))), ("at", .p (.int (i : Int)))]
theorem fld_text {ρ : Sg} {j : Nat} {a : List Nat} {i : Nat} (h : ρ.m[j]? = some (RC a i)) : fFld "Reading" "text" (.loc j) ρ = .ok (.p (.str (Tx a))) ρ := by
  unfold fFld
  rw [bind_eq]
  have : cellO "Reading" (.loc j) ρ = .ok (j, [("text", .p (.str (Tx a))), ("at", .p (.int (i : Int)))]) ρ := by unfold cellO; simp [h, RC]
  rw [this]; rfl
theorem fld_at {ρ : Sg} {j : Nat} {a : List Nat} {i : Nat} (h : ρ.m[j]? = some (RC a i)) : fFld "Reading" "at" (.loc j) ρ = .ok (.p (.int (i : Int))) ρ := by
  unfold fFld
  rw [bind_eq]
  have : cellO "Reading" (.loc j) ρ = .ok (j, [("text", .p (.str (Tx a))), ("at", .p (.int (i : Int)))]) ρ := by unfold cellO; simp [h, RC]
  rw [this]; rfl
theorem next_sign_eq (a : List Nat) (i : Nat) (ha : a.length ≤ 1000000) : F_Reading_next_sign [.loc 0] [RC a i] = .ok (.p (.str (Tx ((a.drop i).take 1)))) ⟨[], [RC a i]⟩ := by
  have e1 := fld_text (ρ := ⟨[some (.loc 0)], [RC a i]⟩) (j := 0) (a := a) (i := i) rfl
  have e2 := fld_at (ρ := ⟨[some (.loc 0)], [RC a i]⟩) (j := 0) (a := a) (i := i) rfl
  have hl : decide ((Tx a).length ≤ sizeLine) = true := decide_eq_true (by rw [tx_len, sizeLine_eq]; omega)
  have e3 : fSl false (.p (.str (Tx a))) (some (i : Int)) (some ((i : Int) + 1)) = M.ret (DL.D.p (.str (Tx ((a.drop i).take 1)))) := by
    show ifM (decide ((Tx a).length ≤ sizeLine)) (M.ret (DL.D.p (.str (cutS (Tx a) (some (i : Int)) (some ((i : Int) + 1)))))) = _
    rw [hl, tx_next]; rfl
  have hg : g_Reading_next_sign ⟨[some (.loc 0)], [RC a i]⟩ = .ok (.rt (.p (.str (Tx ((a.drop i).take 1))))) ⟨[some (.loc 0)], [RC a i]⟩ := by
    unfold g_Reading_next_sign
    simp [e1, e2, e3, asIm]
  show (if [DL.D.loc 0].length = 1 then fin 1 (g_Reading_next_sign ⟨[some (.loc 0)], [RC a i]⟩) else .bad) = _
  rw [hg]
  simp [fin, finD, RC, Cell.below, D.below]
theorem locs_p : ∀ ps : List PyData, locsOf (ps.map DL.D.p) = []
  | [] => rfl
  | _ :: r => locs_p r
theorem ren_p (ls : List Nat) : ∀ ps : List PyData, (ps.map DL.D.p).map (renD ls) = ps.map DL.D.p
  | [] => rfl
  | x :: r => by rw [List.map_cons, List.map_cons, ren_p ls r]; rfl
theorem call_loc {F : FS} {n j : Nat} {c c' : Cell} {x : PyData} {ρ : Sg} (ps : List PyData) (hn : ps.length + 1 = n) (h : ρ.m[j]? = some c) (hc : (c.live && c.flat) = true) (hc' : c'.flat = true) (hF : F (.loc 0 :: ps.map DL.D.p) [c] = .ok (.p x) ⟨[], [c']⟩) :
    callM n F (.loc j :: ps.map DL.D.p) ρ = .ok (.p x) ⟨ρ.s, ρ.m.set j c'⟩ := by
  have e : locsOf (.loc j :: ps.map DL.D.p) = [j] := by show j :: locsOf (ps.map DL.D.p) = _; rw [locs_p]
  have e2 : (DL.D.loc j :: ps.map DL.D.p).map (renD [j]) = .loc 0 :: ps.map DL.D.p := by rw [List.map_cons, ren_p]; simp [renD]
  unfold callM
  rw [if_pos (by simp; omega), e]
  simp only [cellsAt, h, hc, if_true]
  rw [e2]
  simp [hF, hc', backD, setAll]
theorem call_locE {F : FS} {n j : Nat} {c c' : Cell} {ε : Er} {ρ : Sg} (ps : List PyData) (hn : ps.length + 1 = n) (h : ρ.m[j]? = some c) (hc : (c.live && c.flat) = true) (hc' : c'.flat = true) (hF : F (.loc 0 :: ps.map DL.D.p) [c] = .er ε ⟨[], [c']⟩) :
    callM n F (.loc j :: ps.map DL.D.p) ρ = .er ε ⟨ρ.s, ρ.m.set j c'⟩ := by
  have e : locsOf (.loc j :: ps.map DL.D.p) = [j] := by show j :: locsOf (ps.map DL.D.p) = _; rw [locs_p]
  have e2 : (DL.D.loc j :: ps.map DL.D.p).map (renD [j]) = .loc 0 :: ps.map DL.D.p := by rw [List.map_cons, ren_p]; simp [renD]
  unfold callM
  rw [if_pos (by simp; omega), e]
  simp only [cellsAt, h, hc, if_true]
  rw [e2]
  simp [hF, hc', setAll]
theorem set_same {α : Type} {l : List α} {j : Nat} {c : α} (h : l[j]? = some c) : l.set j c = l := by
  apply List.ext_getElem?
  intro k
  by_cases e : j = k
  · subst e; rw [List.getElem?_set_self (List.getElem?_eq_some_iff.mp h).1, h]
  · rw [List.getElem?_set_ne e]
theorem rc_ok (a : List Nat) (i : Nat) : ((RC a i).live && (RC a i).flat) = true := by simp [RC, Cell.live, Cell.flat, D.noloc]
theorem rc_flat (a : List Nat) (i : Nat) : (RC a i).flat = true := by simp [RC, Cell.flat, D.noloc]
/-- a method of the reader -/
theorem meth_eq {F : FS} {m : Str} {n : Nat} {j i : Nat} {a : List Nat} {g : M DL.D} {gs : M (List DL.D)} {ρ : Sg} {ds : List DL.D} (hm : (m == ("text" : Str)) = false ∧ (m == ("at" : Str)) = false) (hg : g ρ = .ok (.loc j) ρ) (h : ρ.m[j]? = some (RC a i)) (hs : gs ρ = .ok ds ρ) :
    gMeth "Reading" m n F g gs ρ = callM n F (.loc j :: ds) ρ := by
  unfold gMeth
  have : cellO "Reading" (.loc j) ρ = .ok (j, [("text", .p (.str (Tx a))), ("at", .p (.int (i : Int)))]) ρ := by unfold cellO; simp [h, RC]
  rw [bind_eq, hg, rbind_ok, bind_eq, this, rbind_ok]
  have e : (List.lookup m [(("text" : Str), DL.D.p (.str (Tx a))), (("at" : Str), .p (.int (i : Int)))]).isNone = true := by simp [List.lookup, hm.1, hm.2]
  show ifM (List.lookup m [(("text" : Str), DL.D.p (.str (Tx a))), (("at" : Str), .p (.int (i : Int)))]).isNone _ ρ = _
  rw [e, ifM_t, bind_eq, hs, rbind_ok]
theorem meth_next {j i : Nat} {a : List Nat} {g : M DL.D} {ρ : Sg} (ha : a.length ≤ 1000000) (hg : g ρ = .ok (.loc j) ρ) (h : ρ.m[j]? = some (RC a i)) : gMeth "Reading" "next_sign" 1 F_Reading_next_sign g (M.ret []) ρ = .ok (.p (.str (Tx ((a.drop i).take 1)))) ρ := by
  rw [meth_eq (gs := M.ret []) (ds := []) (by decide) hg h rfl]
  have := call_loc (F := F_Reading_next_sign) (n := 1) (ρ := ρ) [] rfl h (rc_ok a i) (rc_flat a i) (next_sign_eq a i ha)
  rw [set_same h] at this
  exact this
/-- does a sign of b stand at i -/
def isAt (a : List Nat) (i : Nat) (b : List Nat) : Bool := match a[i]? with
  | some c => decide (c ∈ b)
  | none => false
theorem take1 (a : List Nat) (i : Nat) : (a.drop i).take 1 = match a[i]? with | some c => [c] | none => [] := by
  cases h : a[i]? with
  | none => rw [List.drop_of_length_le (List.getElem?_eq_none_iff.mp h)]; rfl
  | some c =>
    obtain ⟨hl, rfl⟩ := List.getElem?_eq_some_iff.mp h
    rw [List.drop_eq_getElem_cons hl]; rfl
theorem is_at_eq (a b : List Nat) (i : Nat) (ha : a.length ≤ 1000000) : F_Reading_is_at [.loc 0, .p (.str (Tx b))] [RC a i] = .ok (.p (.bool (isAt a i b))) ⟨[], [RC a i]⟩ := by
  have e1 := meth_next (j := 0) (i := i) (a := a) (g := gVar 0) (ρ := ⟨[some (.loc 0), some (.p (.str (Tx b)))], [RC a i]⟩) ha rfl rfl
  have hne : ∀ l : List Nat, pNe (.str (Tx l)) (.str "") = some (!decide (l = [])) := fun l => by
    unfold pNe
    rw [if_pos (by simp [PyData.depth])]
    congr 2
    have : PyData.eqv (.str (Tx l)) (.str "") = (Tx l == "") := by simp [PyData.eqv]
    rw [this]
    exact SX.S_beq_eq (a := l) (b := [])
  have hg : g_Reading_is_at ⟨[some (.loc 0), some (.p (.str (Tx b)))], [RC a i]⟩ = .ok (.rt (.p (.bool (isAt a i b)))) ⟨[some (.loc 0), some (.p (.str (Tx b)))], [RC a i]⟩ := by
    unfold g_Reading_is_at gAndT
    simp only [gRet_eq, gBin_eq, gC_eq, gNext_eq, gSeq_eq, bind_eq, e1, rbind_ok, ret_eq, fB2_p, hne]
    rw [take1]
    unfold isAt
    cases h : a[i]? with
    | none => simp [tru, truD]
    | some c =>
      have : pIn (.str (Tx [c])) (.str (Tx b)) = some (decide (c ∈ b)) := congrArg some (SX.in_one b c)
      rw [take1, h] at e1
      simp only at e1
      simp [tru, truD, e1, this]
  show (if [DL.D.loc 0, .p (.str (Tx b))].length = 2 then fin 1 (g_Reading_is_at ⟨[some (.loc 0), some (.p (.str (Tx b)))], [RC a i]⟩) else .bad) = _
  rw [hg]
  simp [fin, finD, RC, Cell.below, D.below]
end
end K20
namespace K20
open PySem PySem.Spec PyProof.Rows L2 DL
section
theorem meth_is_at {j i : Nat} {a b : List Nat} {g : M DL.D} {gs : M (List DL.D)} {ρ : Sg} (ha : a.length ≤ 1000000) (hg : g ρ = .ok (.loc j) ρ) (h : ρ.m[j]? = some (RC a i)) (hs : gs ρ = .ok [.p (.str (Tx b))] ρ) :
    gMeth "Reading" "is_at" 2 F_Reading_is_at g gs ρ = .ok (.p (.bool (isAt a i b))) ρ := by
  rw [meth_eq (gs := gs) (by decide) hg h hs]
  have := call_loc (F := F_Reading_is_at) (n := 2) (ρ := ρ) [.str (Tx b)] rfl h (rc_ok a i) (rc_flat a i) (is_at_eq a b i ha)
  rw [set_same h] at this
  exact this
theorem inc_at {j i : Nat} {a : List Nat} {g : M DL.D} {ρ : Sg} (hg : g ρ = .ok (.loc j) ρ) (h : ρ.m[j]? = some (RC a i)) : sFldAdd "Reading" "at" g (gC (.int 1)) ρ = .ok .nx ⟨ρ.s, ρ.m.set j (RC a (i + 1))⟩ := by
  unfold sFldAdd
  have e : cellO "Reading" (.loc j) ρ = .ok (j, [("text", .p (.str (Tx a))), ("at", .p (.int (i : Int)))]) ρ := by unfold cellO; simp [h, RC]
  rw [bind_eq, hg, rbind_ok, bind_eq, fld_at h, rbind_ok, gC_eq, bind_eq, ret_eq, rbind_ok]
  have e2 : fInt0 (· + ·) (.p (.int (i : Int))) (.p (.int 1)) = M.ret (.p (.int ((i : Int) + 1))) := rfl
  rw [e2, bind_eq, ret_eq, rbind_ok, bind_eq, e, rbind_ok]
  have ne : ¬ ("text" : Str) = "at" := by decide
  simp [ifM, setC, putD, RC, ne]
theorem isAt_cons {a : List Nat} {i : Nat} {b : List Nat} {c : Nat} {r : List Nat} (h : a.drop i = c :: r) : isAt a i b = decide (c ∈ b) ∧ a.drop (i + 1) = r := by
  have h1 : a[i]? = some c := by
    have := List.getElem?_drop (xs := a) (i := i) (j := 0)
    rw [h] at this; simpa using this.symm
  refine ⟨by unfold isAt; rw [h1], ?_⟩
  rw [← List.drop_drop, h]; rfl
theorem isAt_nil {a : List Nat} {i : Nat} {b : List Nat} (h : a.drop i = []) : isAt a i b = false := by
  unfold isAt; rw [List.getElem?_eq_none (List.drop_eq_nil_iff.mp h)]
def takeC : M Bool := gTru (gMeth "Reading" "is_at" 2 F_Reading_is_at (gVar 0) (DL.gCons (gVar 1) (M.ret [])))
def takeB : M Fl := gSeq (sFldAdd "Reading" "at" (gVar 0) (gC (.int 1))) gNext
theorem take_loop {a b : List Nat} (ha : a.length ≤ 1000000) (x : Option DL.D) : ∀ (r : List Nat) (i n : Nat), a.drop i = r → r.length < n →
    whN n takeC takeB ⟨[some (.loc 0), some (.p (.str (Tx b))), x], [RC a i]⟩ = .ok .nx ⟨[some (.loc 0), some (.p (.str (Tx b))), x], [RC a (i + (r.takeWhile (· ∈ b)).length)]⟩
  | [], i, n, h, hn => by
    obtain ⟨n, rfl⟩ : ∃ k, n = k + 1 := ⟨n - 1, by simp at hn; omega⟩
    have e := meth_is_at (j := 0) (i := i) (a := a) (b := b) (g := gVar 0) (gs := DL.gCons (gVar 1) (M.ret [])) (ρ := ⟨[some (.loc 0), some (.p (.str (Tx b))), x], [RC a i]⟩) ha rfl rfl rfl
    rw [isAt_nil h] at e
    rw [whN]
    unfold takeC
    simp only [gTru_eq, bind_eq, e, rbind_ok]
    simp [tru, truD]
  | c :: r, i, n, h, hn => by
    obtain ⟨n, rfl⟩ : ∃ k, n = k + 1 := ⟨n - 1, by simp at hn; omega⟩
    have e := meth_is_at (j := 0) (i := i) (a := a) (b := b) (g := gVar 0) (gs := DL.gCons (gVar 1) (M.ret [])) (ρ := ⟨[some (.loc 0), some (.p (.str (Tx b))), x], [RC a i]⟩) ha rfl rfl rfl
    obtain ⟨h1, h2⟩ := isAt_cons (b := b) h
    rw [h1] at e
    have ec : takeC ⟨[some (.loc 0), some (.p (.str (Tx b))), x], [RC a i]⟩ = .ok (decide (c ∈ b)) ⟨[some (.loc 0), some (.p (.str (Tx b))), x], [RC a i]⟩ := by
      unfold takeC
      rw [gTru_eq, bind_eq, e, rbind_ok]
      rfl
    rw [whN, bind_eq, ec, rbind_ok]
    by_cases hc : c ∈ b
    · have eb : takeB ⟨[some (.loc 0), some (.p (.str (Tx b))), x], [RC a i]⟩ = .ok .nx ⟨[some (.loc 0), some (.p (.str (Tx b))), x], [RC a (i + 1)]⟩ := by
        unfold takeB
        rw [gSeq_eq, inc_at (j := 0) (i := i) (a := a) (g := gVar 0) (ρ := ⟨[some (.loc 0), some (.p (.str (Tx b))), x], [RC a i]⟩) rfl rfl]
        rfl
      rw [if_pos (decide_eq_true hc), bind_eq, eb, rbind_ok]
      show whN n takeC takeB _ = _
      rw [take_loop ha x r (i + 1) n h2 (by simp at hn; omega)]
      have : (c :: r).takeWhile (· ∈ b) = c :: r.takeWhile (· ∈ b) := by simp [List.takeWhile_cons, hc]
      rw [this, List.length_cons, show i + 1 + (r.takeWhile (· ∈ b)).length = i + ((r.takeWhile (· ∈ b)).length + 1) by omega]
    · have : (c :: r).takeWhile (· ∈ b) = [] := by simp [List.takeWhile_cons, hc]
      rw [if_neg (by simp [hc]), this]
      rfl
/-- the run of signs of b at i -/
def run (a b : List Nat) (i : Nat) : List Nat := (a.drop i).takeWhile (· ∈ b)
theorem run_le (a b : List Nat) (i : Nat) (h : i ≤ a.length) : i + (run a b i).length ≤ a.length := by
  have := (List.takeWhile_sublist (l := a.drop i) (· ∈ b)).length_le
  unfold run; simp at this; omega
theorem run_cut (a b : List Nat) (i : Nat) (h : i ≤ a.length) : cutS (Tx a) (some (i : Int)) (some ((i + (run a b i).length : Nat) : Int)) = Tx (run a b i) := by
  have hl := run_le a b i h
  rw [tx_cut, show min i a.length = i by omega, show min (i + (run a b i).length) a.length - i = (run a b i).length by omega]
  congr 2
  exact (List.prefix_iff_eq_take.mp (List.takeWhile_prefix (l := a.drop i) (· ∈ b))).symm
theorem take_eq (a b : List Nat) (i : Nat) (ha : a.length < 90000) (hi : i ≤ a.length) : F_Reading_take [.loc 0, .p (.str (Tx b))] [RC a i] = .ok (.p (.str (Tx (run a b i)))) ⟨[], [RC a (i + (run a b i).length)]⟩ := by
  have e : g_Reading_take = gSeq (gAsg ((gVar 0).bind (fFld "Reading" "at")) (put 2)) (gSeq (whN 100000 takeC takeB) (gSeq (gRet (((gVar 0).bind (fFld "Reading" "text")).bind fun a => ((gVar 2).bind asIm).bind fun l => (((gVar 0).bind (fFld "Reading" "at")).bind asIm).bind fun h => fSl false a l h)) gNext)) := rfl
  have s1 : gAsg ((gVar 0).bind (fFld "Reading" "at")) (put 2) ⟨[some (.loc 0), some (.p (.str (Tx b))), none], [RC a i]⟩ = .ok .nx ⟨[some (.loc 0), some (.p (.str (Tx b))), some (.p (.int (i : Int)))], [RC a i]⟩ := by
    have := fld_at (ρ := ⟨[some (.loc 0), some (.p (.str (Tx b))), none], [RC a i]⟩) (j := 0) (a := a) (i := i) rfl
    simp [this]
  have s2 := take_loop (a := a) (b := b) (by omega) (some (.p (.int (i : Int)))) (a.drop i) i 100000 rfl (by simp; omega)
  have e1 := fld_text (ρ := ⟨[some (.loc 0), some (.p (.str (Tx b))), some (.p (.int (i : Int)))], [RC a (i + (run a b i).length)]⟩) (j := 0) (a := a) (i := i + (run a b i).length) rfl
  have e2 := fld_at (ρ := ⟨[some (.loc 0), some (.p (.str (Tx b))), some (.p (.int (i : Int)))], [RC a (i + (run a b i).length)]⟩) (j := 0) (a := a) (i := i + (run a b i).length) rfl
  have hl : decide ((Tx a).length ≤ sizeLine) = true := decide_eq_true (by rw [tx_len, sizeLine_eq]; omega)
  have e3 : fSl false (.p (.str (Tx a))) (some (i : Int)) (some ((i + (run a b i).length : Nat) : Int)) = M.ret (DL.D.p (.str (Tx (run a b i)))) := by
    show ifM (decide ((Tx a).length ≤ sizeLine)) (M.ret (DL.D.p (.str (cutS (Tx a) (some (i : Int)) (some ((i + (run a b i).length : Nat) : Int)))))) = _
    rw [hl, run_cut a b i hi]; rfl
  have s3 : gSeq (gRet (((gVar 0).bind (fFld "Reading" "text")).bind fun a => ((gVar 2).bind asIm).bind fun l => (((gVar 0).bind (fFld "Reading" "at")).bind asIm).bind fun h => fSl false a l h)) gNext ⟨[some (.loc 0), some (.p (.str (Tx b))), some (.p (.int (i : Int)))], [RC a (i + (run a b i).length)]⟩ =
      .ok (.rt (.p (.str (Tx (run a b i))))) ⟨[some (.loc 0), some (.p (.str (Tx b))), some (.p (.int (i : Int)))], [RC a (i + (run a b i).length)]⟩ := by
    have i1 : ∀ (z : Int) (ρ : Sg), asIm (.p (.int z)) ρ = .ok (some z) ρ := fun _ _ => rfl
    simp only [gRet_eq, gNext_eq, gSeq_eq, bind_eq, gVar_def, List.getElem?_cons_zero, List.getElem?_cons_succ, rbind_ok, e1, e2, i1, e3, ret_eq, sq2_rt]
  have hg : g_Reading_take ⟨[some (.loc 0), some (.p (.str (Tx b))), none], [RC a i]⟩ = .ok (.rt (.p (.str (Tx (run a b i))))) ⟨[some (.loc 0), some (.p (.str (Tx b))), some (.p (.int (i : Int)))], [RC a (i + (run a b i).length)]⟩ := by
    rw [e, gSeq_eq, s1, rbind_ok, sq2_nx, gSeq_eq, s2, rbind_ok, sq2_nx]
    exact s3
  show (if [DL.D.loc 0, .p (.str (Tx b))].length = 2 then fin 1 (g_Reading_take ⟨[some (.loc 0), some (.p (.str (Tx b))), none], [RC a i]⟩) else .bad) = _
  rw [hg]
  simp [fin, finD, RC, Cell.below, D.below]
end
end K20
namespace K20
open PySem PySem.Spec PyProof.Rows L2 DL
section
def dig : List Nat := [48, 49, 50, 51, 52, 53, 54, 55, 56, 57]
def sml : List Nat := [97, 98, 99, 100, 101, 102, 103, 104, 105, 106, 107, 108, 109, 110, 111, 112, 113, 114, 115, 116, 117, 118, 119, 120, 121, 122]
theorem s_dig : ("0123456789" : Str) = Tx dig := by decide +kernel
theorem s_sml : ("abcdefghijklmnopqrstuvwxyz" : Str) = Tx sml := by decide +kernel
theorem s_min : ("-" : Str) = Tx [45] := by decide +kernel
theorem s_0 : ("0" : Str) = Tx [48] := by decide +kernel
theorem s_op : ("(" : Str) = Tx [40] := by decide +kernel
theorem s_cl : (")" : Str) = Tx [41] := by decide +kernel
theorem s_sp : (" " : Str) = Tx [32] := by decide +kernel
theorem s_dot : ("." : Str) = Tx [46] := by decide +kernel
theorem s_none : ("none" : Str) = Tx [110, 111, 110, 101] := by decide +kernel
def val (w : List Nat) : Int := ((NumText.digitsVal w : Nat) : Int)
/-- where the figures begin -/
def at1 (a : List Nat) (i : Nat) : Nat := if isAt a i [45] then i + 1 else i
def intP (a : List Nat) (i : Nat) : Except Nat (Int × Nat) :=
  if (!isAt a (at1 a i) dig || (isAt a i [45] && isAt a (at1 a i) [48])) = true then .error (at1 a i)
  else if (isAt a (at1 a i) [48] && decide (1 < (run a dig (at1 a i)).length)) = true then .error (at1 a i + 1)
  else if 20 < (run a dig (at1 a i)).length then .error (at1 a i + 20)
  else .ok (if isAt a i [45] then - val (run a dig (at1 a i)) else val (run a dig (at1 a i)), at1 a i + (run a dig (at1 a i)).length)
theorem meth_take {j i : Nat} {a b : List Nat} {g : M DL.D} {gs : M (List DL.D)} {ρ : Sg} (ha : a.length < 90000) (hi : i ≤ a.length) (hg : g ρ = .ok (.loc j) ρ) (h : ρ.m[j]? = some (RC a i)) (hs : gs ρ = .ok [.p (.str (Tx b))] ρ) :
    gMeth "Reading" "take" 2 F_Reading_take g gs ρ = .ok (.p (.str (Tx (run a b i)))) ⟨ρ.s, ρ.m.set j (RC a (i + (run a b i).length))⟩ := by
  rw [meth_eq (gs := gs) (by decide) hg h hs]
  exact call_loc (F := F_Reading_take) (n := 2) (ρ := ρ) [.str (Tx b)] rfl h (rc_ok a i) (rc_flat a _) (take_eq a b i ha hi)
theorem len_tx (w : List Nat) (h : w.length < 90000) : pLen (.str (Tx w)) = some (.int (w.length : Int)) := by
  show (if (Tx w).length ≤ sizeLine then some (PyData.int ((Tx w).length : Int)) else none) = _
  rw [if_pos (by rw [tx_len, sizeLine_eq]; omega), tx_len]
theorem run_all (a b : List Nat) (i : Nat) : ∀ c ∈ run a b i, c ∈ b := fun c hc => by
  have := List.all_eq_true.mp (List.all_takeWhile (p := fun c => decide (c ∈ b)) (l := a.drop i)) c hc
  simpa using this
theorem run_ne {a b : List Nat} {i : Nat} (h : isAt a i b = true) : run a b i ≠ [] := by
  cases hd : a.drop i with
  | nil => rw [isAt_nil hd] at h; cases h
  | cons c r =>
    rw [(isAt_cons hd).1] at h
    unfold run; rw [hd]
    simp [List.takeWhile_cons, of_decide_eq_true h]
theorem int_dig {w : List Nat} (h : ∀ c ∈ w, c ∈ dig) (hne : w ≠ []) (hl : w.length ≤ 20) : pInt (.str (Tx w)) = some (.int (val w)) := by
  show (if (Tx w).length ≤ 640 then (intText? (Tx w)).map PyData.int else none) = _
  rw [if_pos (by rw [tx_len]; omega), SX.int_S (a := w) (List.all_eq_true.mpr fun c hc => ?_) hne (by omega)]
  · rfl
  · have := h c hc
    simp only [dig, List.mem_cons, List.mem_nil_iff, or_false] at this
    simp only [Bool.and_eq_true, decide_eq_true_eq]
    omega
theorem isAt_lt {a b : List Nat} {i : Nat} (h : isAt a i b = true) : i < a.length := by
  unfold isAt at h
  cases e : a[i]? with
  | none => rw [e] at h; cases h
  | some c => exact (List.getElem?_eq_some_iff.mp e).1
theorem at1_le {a : List Nat} {i : Nat} (hi : i ≤ a.length) : at1 a i ≤ a.length := by
  unfold at1
  split
  · rename_i h; have := isAt_lt h; omega
  · exact hi
def errM (e : Nat) : Er := ⟨"Malformed", some ("at", .int (e : Int))⟩
theorem isat_c {ρ : Sg} {a b : List Nat} {i : Nat} {z : Str} (ha : a.length ≤ 1000000) (h0 : ρ.s[0]? = some (some (.loc 0))) (h : ρ.m[0]? = some (RC a i)) (hz : z = Tx b) :
    gMeth "Reading" "is_at" 2 F_Reading_is_at (gVar 0) (DL.gCons (gC (.str z)) (M.ret [])) ρ = .ok (.p (.bool (isAt a i b))) ρ := by
  subst hz
  exact meth_is_at ha (by rw [gVar_def, h0]) h rfl
theorem gn (ρ : Sg) : gNext ρ = .ok .nx ρ := rfl
theorem tru_b (b : Bool) : tru (.p (.bool b)) = M.ret b := rfl
theorem raise_at {ρ : Sg} {a : List Nat} {i : Nat} (h0 : ρ.s[0]? = some (some (.loc 0))) (h : ρ.m[0]? = some (RC a i)) : gRaise1 "Malformed" "at" ((gVar 0).bind (fFld "Reading" "at")) ρ = .er (errM i) ρ := by
  unfold gRaise1
  rw [bind_eq, bind_eq, gVar_def, h0]
  simp only [rbind_ok]
  rw [fld_at h]
  rfl
theorem integer_eq (a : List Nat) (i : Nat) (ha : a.length < 90000) (hi : i ≤ a.length) : match intP a i with
    | .ok (n, e) => F_Reading_integer [.loc 0] [RC a i] = .ok (.p (.int n)) ⟨[], [RC a e]⟩ ∧ e ≤ a.length ∧ i < e
    | .error e => ∃ e', F_Reading_integer [.loc 0] [RC a i] = .er (errM e) ⟨[], [RC a e']⟩ := by
  have ha6 : a.length ≤ 1000000 := by omega
  have hi1 := at1_le (a := a) (i := i) hi
  have e : g_Reading_integer = gSeq (gAsg (gMeth "Reading" "is_at" 2 F_Reading_is_at (gVar 0) (DL.gCons (gC (.str "-")) (M.ret []))) (put 1))
    (gSeq (gIfE (gTru (gVar 1)) (gSeq (sFldAdd "Reading" "at" (gVar 0) (gC (.int 1))) gNext) gNext)
    (gSeq (gAsg ((gVar 0).bind (fFld "Reading" "at")) (put 2))
    (gSeq (gIfE (gOr (gNot (gTru (gMeth "Reading" "is_at" 2 F_Reading_is_at (gVar 0) (DL.gCons (gC (.str "0123456789")) (M.ret []))))) (gAnd (gTru (gVar 1)) (gTru (gMeth "Reading" "is_at" 2 F_Reading_is_at (gVar 0) (DL.gCons (gC (.str "0")) (M.ret [])))))) (gSeq (gRaise1 "Malformed" "at" ((gVar 0).bind (fFld "Reading" "at"))) gNext) gNext)
    (gSeq (gAsg (gMeth "Reading" "is_at" 2 F_Reading_is_at (gVar 0) (DL.gCons (gC (.str "0")) (M.ret []))) (put 3))
    (gSeq (gAsg (gMeth "Reading" "take" 2 F_Reading_take (gVar 0) (DL.gCons (gC (.str "0123456789")) (M.ret []))) (put 4))
    (gSeq (gIfE (gAnd (gTru (gVar 3)) (gB (gBin (fB2 pGt) ((DL.gCons (gVar 4) (M.ret [])).bind (c1 pLen)) (gC (.int 1))))) (gSeq (gRaise1 "Malformed" "at" (gBin (fAdd false) (gVar 2) (gC (.int 1)))) gNext) gNext)
    (gSeq (gIfE (gB (gBin (fB2 pGt) ((DL.gCons (gVar 4) (M.ret [])).bind (c1 pLen)) (gC (.int 20)))) (gSeq (gRaise1 "Malformed" "at" (gBin (fAdd false) (gVar 2) (gC (.int 20)))) gNext) gNext)
    (gSeq (gRet (gIfE (gTru (gVar 1)) (((DL.gCons (gVar 4) (M.ret [])).bind (c1 pInt)).bind fNeg) ((DL.gCons (gVar 4) (M.ret [])).bind (c1 pInt)))) gNext)))))))) := rfl
  obtain ⟨mi, hm⟩ : ∃ b, b = isAt a i [45] := ⟨_, rfl⟩
  obtain ⟨i1, h1⟩ : ∃ k, k = at1 a i := ⟨_, rfl⟩
  obtain ⟨w, hw⟩ : ∃ l, l = run a dig i1 := ⟨_, rfl⟩
  have wl : w.length < 90000 := by have := run_le a dig i1 (by rw [h1]; exact hi1); rw [← hw] at this; omega
  have s1 : gAsg (gMeth "Reading" "is_at" 2 F_Reading_is_at (gVar 0) (DL.gCons (gC (.str "-")) (M.ret []))) (put 1) ⟨[some (.loc 0), none, none, none, none], [RC a i]⟩ = .ok .nx ⟨[some (.loc 0), some (.p (.bool mi)), none, none, none], [RC a i]⟩ := by
    rw [gAsg_eq, bind_eq, isat_c ha6 rfl rfl s_min, ← hm]; rfl
  have s2 : gIfE (gTru (gVar 1)) (gSeq (sFldAdd "Reading" "at" (gVar 0) (gC (.int 1))) gNext) gNext ⟨[some (.loc 0), some (.p (.bool mi)), none, none, none], [RC a i]⟩ = .ok .nx ⟨[some (.loc 0), some (.p (.bool mi)), none, none, none], [RC a i1]⟩ := by
    rw [gIfE_eq, gTru_eq, bind_eq]
    show ((tru (.p (.bool mi)) _).bind _) = _
    rw [tru_b, ret_eq, rbind_ok]
    unfold at1 at h1
    rw [← hm] at h1
    cases mi with
    | true =>
      rw [if_pos rfl, gSeq_eq, inc_at (j := 0) (i := i) (a := a) (g := gVar 0) (ρ := ⟨[some (.loc 0), some (.p (.bool true)), none, none, none], [RC a i]⟩) rfl rfl, h1]
      rfl
    | false => rw [if_neg (by decide), h1]; rfl
  have s3 : gAsg ((gVar 0).bind (fFld "Reading" "at")) (put 2) ⟨[some (.loc 0), some (.p (.bool mi)), none, none, none], [RC a i1]⟩ = .ok .nx ⟨[some (.loc 0), some (.p (.bool mi)), some (.p (.int (i1 : Int))), none, none], [RC a i1]⟩ := by
    have := fld_at (ρ := ⟨[some (.loc 0), some (.p (.bool mi)), none, none, none], [RC a i1]⟩) (j := 0) (a := a) (i := i1) rfl
    rw [gAsg_eq, bind_eq, bind_eq]
    show ((fFld "Reading" "at" (.loc 0) ⟨[some (.loc 0), some (.p (.bool mi)), none, none, none], [RC a i1]⟩).bind _) = _
    rw [this]; rfl
  have body : ∀ r, g_Reading_integer ⟨[some (.loc 0), none, none, none, none], [RC a i]⟩ = r → F_Reading_integer [.loc 0] [RC a i] = fin 1 r := fun r h => by
    show (if [DL.D.loc 0].length = 1 then fin 1 (g_Reading_integer ⟨[some (.loc 0), none, none, none, none], [RC a i]⟩) else .bad) = _
    rw [h]; rfl
  obtain ⟨zd, hzd⟩ : ∃ b, b = isAt a i1 dig := ⟨_, rfl⟩
  obtain ⟨z, hz⟩ : ∃ b, b = isAt a i1 [48] := ⟨_, rfl⟩
  have q1 := isat_c (ρ := ⟨[some (.loc 0), some (.p (.bool mi)), some (.p (.int (i1 : Int))), none, none], [RC a i1]⟩) (a := a) (i := i1) ha6 rfl rfl s_dig
  have q2 := isat_c (ρ := ⟨[some (.loc 0), some (.p (.bool mi)), some (.p (.int (i1 : Int))), none, none], [RC a i1]⟩) (a := a) (i := i1) ha6 rfl rfl s_0
  rw [← hzd] at q1
  rw [← hz] at q2
  have v1 : gVar 1 ⟨[some (.loc 0), some (.p (.bool mi)), some (.p (.int (i1 : Int))), none, none], [RC a i1]⟩ = .ok (.p (.bool mi)) ⟨[some (.loc 0), some (.p (.bool mi)), some (.p (.int (i1 : Int))), none, none], [RC a i1]⟩ := rfl
  have c4 : gOr (gNot (gTru (gMeth "Reading" "is_at" 2 F_Reading_is_at (gVar 0) (DL.gCons (gC (.str "0123456789")) (M.ret []))))) (gAnd (gTru (gVar 1)) (gTru (gMeth "Reading" "is_at" 2 F_Reading_is_at (gVar 0) (DL.gCons (gC (.str "0")) (M.ret []))))) ⟨[some (.loc 0), some (.p (.bool mi)), some (.p (.int (i1 : Int))), none, none], [RC a i1]⟩ =
      .ok (!zd || (mi && z)) ⟨[some (.loc 0), some (.p (.bool mi)), some (.p (.int (i1 : Int))), none, none], [RC a i1]⟩ := by
    unfold gOr gNot gAnd
    rw [bind_eq, bind_eq, gTru_eq, bind_eq, q1, rbind_ok, tru_b, ret_eq, rbind_ok, ret_eq, rbind_ok]
    cases zd with
    | false => rfl
    | true =>
      rw [if_neg (by decide), bind_eq, gTru_eq, bind_eq, v1, rbind_ok, tru_b, ret_eq, rbind_ok]
      cases mi with
      | false => rfl
      | true =>
        rw [if_pos rfl, gTru_eq, bind_eq, q2, rbind_ok, tru_b, ret_eq]; rfl
  have ec : (!isAt a (at1 a i) dig || (isAt a i [45] && isAt a (at1 a i) [48])) = (!zd || (mi && z)) := by rw [hzd, hm, hz, h1]
  have pre : ∀ r, (gSeq (gIfE (gOr (gNot (gTru (gMeth "Reading" "is_at" 2 F_Reading_is_at (gVar 0) (DL.gCons (gC (.str "0123456789")) (M.ret []))))) (gAnd (gTru (gVar 1)) (gTru (gMeth "Reading" "is_at" 2 F_Reading_is_at (gVar 0) (DL.gCons (gC (.str "0")) (M.ret [])))))) (gSeq (gRaise1 "Malformed" "at" ((gVar 0).bind (fFld "Reading" "at"))) gNext) gNext)
    (gSeq (gAsg (gMeth "Reading" "is_at" 2 F_Reading_is_at (gVar 0) (DL.gCons (gC (.str "0")) (M.ret []))) (put 3))
    (gSeq (gAsg (gMeth "Reading" "take" 2 F_Reading_take (gVar 0) (DL.gCons (gC (.str "0123456789")) (M.ret []))) (put 4))
    (gSeq (gIfE (gAnd (gTru (gVar 3)) (gB (gBin (fB2 pGt) ((DL.gCons (gVar 4) (M.ret [])).bind (c1 pLen)) (gC (.int 1))))) (gSeq (gRaise1 "Malformed" "at" (gBin (fAdd false) (gVar 2) (gC (.int 1)))) gNext) gNext)
    (gSeq (gIfE (gB (gBin (fB2 pGt) ((DL.gCons (gVar 4) (M.ret [])).bind (c1 pLen)) (gC (.int 20)))) (gSeq (gRaise1 "Malformed" "at" (gBin (fAdd false) (gVar 2) (gC (.int 20)))) gNext) gNext)
    (gSeq (gRet (gIfE (gTru (gVar 1)) (((DL.gCons (gVar 4) (M.ret [])).bind (c1 pInt)).bind fNeg) ((DL.gCons (gVar 4) (M.ret [])).bind (c1 pInt)))) gNext)))))) ⟨[some (.loc 0), some (.p (.bool mi)), some (.p (.int (i1 : Int))), none, none], [RC a i1]⟩ = r → F_Reading_integer [.loc 0] [RC a i] = fin 1 r := fun r h => by
    refine body r ?_
    rw [e, gSeq_eq, s1, rbind_ok, sq2_nx, gSeq_eq, s2, rbind_ok, sq2_nx, gSeq_eq, s3, rbind_ok, sq2_nx]
    exact h
  unfold intP
  rw [ec, ← h1, ← hz, ← hw, ← hm]
  by_cases k4 : (!zd || (mi && z)) = true
  · rw [if_pos k4]
    refine ⟨i1, ?_⟩
    rw [pre _ (by rw [gSeq_eq, gIfE_eq, c4, rbind_ok, if_pos k4, gSeq_eq, raise_at (a := a) (i := i1) rfl rfl, rbind_er, rbind_er])]
    simp [fin, RC, Cell.below, D.below]
  rw [if_neg k4]
  have zt : zd = true := by cases zd <;> simp_all
  have wne : w ≠ [] := by rw [hw]; exact run_ne (by rw [← hzd]; exact zt)
  have s5 : gAsg (gMeth "Reading" "is_at" 2 F_Reading_is_at (gVar 0) (DL.gCons (gC (.str "0")) (M.ret []))) (put 3) ⟨[some (.loc 0), some (.p (.bool mi)), some (.p (.int (i1 : Int))), none, none], [RC a i1]⟩ = .ok .nx ⟨[some (.loc 0), some (.p (.bool mi)), some (.p (.int (i1 : Int))), some (.p (.bool z)), none], [RC a i1]⟩ := by
    rw [gAsg_eq, bind_eq, q2]; rfl
  have s6 : gAsg (gMeth "Reading" "take" 2 F_Reading_take (gVar 0) (DL.gCons (gC (.str "0123456789")) (M.ret []))) (put 4) ⟨[some (.loc 0), some (.p (.bool mi)), some (.p (.int (i1 : Int))), some (.p (.bool z)), none], [RC a i1]⟩ = .ok .nx ⟨[some (.loc 0), some (.p (.bool mi)), some (.p (.int (i1 : Int))), some (.p (.bool z)), some (.p (.str (Tx w)))], [RC a (i1 + w.length)]⟩ := by
    have := meth_take (j := 0) (i := i1) (a := a) (b := dig) (g := gVar 0) (gs := DL.gCons (gC (.str "0123456789")) (M.ret [])) (ρ := ⟨[some (.loc 0), some (.p (.bool mi)), some (.p (.int (i1 : Int))), some (.p (.bool z)), none], [RC a i1]⟩) ha (by rw [h1]; exact hi1) rfl rfl (by rw [s_dig]; rfl)
    rw [gAsg_eq, bind_eq, this, ← hw]; rfl
  have cl : ∀ k : Int, gB (gBin (fB2 pGt) ((DL.gCons (gVar 4) (M.ret [])).bind (c1 pLen)) (gC (.int k))) ⟨[some (.loc 0), some (.p (.bool mi)), some (.p (.int (i1 : Int))), some (.p (.bool z)), some (.p (.str (Tx w)))], [RC a (i1 + w.length)]⟩ =
      .ok (decide (k < (w.length : Int))) ⟨[some (.loc 0), some (.p (.bool mi)), some (.p (.int (i1 : Int))), some (.p (.bool z)), some (.p (.str (Tx w)))], [RC a (i1 + w.length)]⟩ := fun k => by
    have := len_tx w wl
    simp [this]
  have c7 : gAnd (gTru (gVar 3)) (gB (gBin (fB2 pGt) ((DL.gCons (gVar 4) (M.ret [])).bind (c1 pLen)) (gC (.int 1)))) ⟨[some (.loc 0), some (.p (.bool mi)), some (.p (.int (i1 : Int))), some (.p (.bool z)), some (.p (.str (Tx w)))], [RC a (i1 + w.length)]⟩ =
      .ok (z && decide (1 < w.length)) ⟨[some (.loc 0), some (.p (.bool mi)), some (.p (.int (i1 : Int))), some (.p (.bool z)), some (.p (.str (Tx w)))], [RC a (i1 + w.length)]⟩ := by
    unfold gAnd
    rw [bind_eq, gTru_eq, bind_eq]
    show ((tru (.p (.bool z)) _).bind _) = _
    rw [tru_b, ret_eq, rbind_ok]
    cases z with
    | false => rfl
    | true =>
      rw [if_pos rfl, cl 1]
      have : decide ((1 : Int) < (w.length : Int)) = decide (1 < w.length) := by
        rw [Bool.eq_iff_iff, decide_eq_true_eq, decide_eq_true_eq]; omega
      rw [this]; rfl
  have up4 : ∀ (r : Rs Fl), (gSeq (gIfE (gAnd (gTru (gVar 3)) (gB (gBin (fB2 pGt) ((DL.gCons (gVar 4) (M.ret [])).bind (c1 pLen)) (gC (.int 1))))) (gSeq (gRaise1 "Malformed" "at" (gBin (fAdd false) (gVar 2) (gC (.int 1)))) gNext) gNext)
    (gSeq (gIfE (gB (gBin (fB2 pGt) ((DL.gCons (gVar 4) (M.ret [])).bind (c1 pLen)) (gC (.int 20)))) (gSeq (gRaise1 "Malformed" "at" (gBin (fAdd false) (gVar 2) (gC (.int 20)))) gNext) gNext)
    (gSeq (gRet (gIfE (gTru (gVar 1)) (((DL.gCons (gVar 4) (M.ret [])).bind (c1 pInt)).bind fNeg) ((DL.gCons (gVar 4) (M.ret [])).bind (c1 pInt)))) gNext))) ⟨[some (.loc 0), some (.p (.bool mi)), some (.p (.int (i1 : Int))), some (.p (.bool z)), some (.p (.str (Tx w)))], [RC a (i1 + w.length)]⟩ = r → F_Reading_integer [.loc 0] [RC a i] = fin 1 r := fun r h => by
    refine pre r ?_
    rw [gSeq_eq, gIfE_eq, c4, rbind_ok, if_neg k4]
    rw [gn, rbind_ok, sq2_nx, gSeq_eq, s5, rbind_ok, sq2_nx, gSeq_eq, s6, rbind_ok, sq2_nx]
    exact h
  by_cases k7 : (z && decide (1 < w.length)) = true
  · rw [if_pos k7]
    refine ⟨i1 + w.length, ?_⟩
    have er : gRaise1 "Malformed" "at" (gBin (fAdd false) (gVar 2) (gC (.int 1))) ⟨[some (.loc 0), some (.p (.bool mi)), some (.p (.int (i1 : Int))), some (.p (.bool z)), some (.p (.str (Tx w)))], [RC a (i1 + w.length)]⟩ = .er (errM (i1 + 1)) ⟨[some (.loc 0), some (.p (.bool mi)), some (.p (.int (i1 : Int))), some (.p (.bool z)), some (.p (.str (Tx w)))], [RC a (i1 + w.length)]⟩ := rfl
    rw [up4 _ (by rw [gSeq_eq, gIfE_eq, c7, rbind_ok, if_pos k7, gSeq_eq, er, rbind_er, rbind_er])]
    simp [fin, RC, Cell.below, D.below]
  rw [if_neg k7]
  have c8 := cl 20
  by_cases k8 : 20 < w.length
  · rw [if_pos k8]
    refine ⟨i1 + w.length, ?_⟩
    have er : gRaise1 "Malformed" "at" (gBin (fAdd false) (gVar 2) (gC (.int 20))) ⟨[some (.loc 0), some (.p (.bool mi)), some (.p (.int (i1 : Int))), some (.p (.bool z)), some (.p (.str (Tx w)))], [RC a (i1 + w.length)]⟩ = .er (errM (i1 + 20)) ⟨[some (.loc 0), some (.p (.bool mi)), some (.p (.int (i1 : Int))), some (.p (.bool z)), some (.p (.str (Tx w)))], [RC a (i1 + w.length)]⟩ := rfl
    rw [up4 _ (by rw [gSeq_eq, gIfE_eq, c7, rbind_ok, if_neg k7, gn, rbind_ok, sq2_nx, gSeq_eq, gIfE_eq, c8, rbind_ok, if_pos (decide_eq_true (by omega)), gSeq_eq, er, rbind_er, rbind_er])]
    simp [fin, RC, Cell.below, D.below]
  rw [if_neg k8]
  have hv : pInt (.str (Tx w)) = some (.int (val w)) := int_dig (by rw [hw]; exact run_all a dig i1) wne (by omega)
  have last : gSeq (gRet (gIfE (gTru (gVar 1)) (((DL.gCons (gVar 4) (M.ret [])).bind (c1 pInt)).bind fNeg) ((DL.gCons (gVar 4) (M.ret [])).bind (c1 pInt)))) gNext ⟨[some (.loc 0), some (.p (.bool mi)), some (.p (.int (i1 : Int))), some (.p (.bool z)), some (.p (.str (Tx w)))], [RC a (i1 + w.length)]⟩ =
      .ok (.rt (.p (.int (if mi = true then - val w else val w)))) ⟨[some (.loc 0), some (.p (.bool mi)), some (.p (.int (i1 : Int))), some (.p (.bool z)), some (.p (.str (Tx w)))], [RC a (i1 + w.length)]⟩ := by
    have fn : ∀ x : Int, fNeg (.p (.int x)) = M.ret (.p (.int (-x))) := fun _ => rfl
    cases mi <;> simp [hv, tru_b, fn]
  have hle := run_le a dig i1 (by rw [h1]; exact hi1)
  rw [← hw] at hle
  refine ⟨?_, hle, ?_⟩
  · rw [up4 _ (by rw [gSeq_eq, gIfE_eq, c7, rbind_ok, if_neg k7, gn, rbind_ok, sq2_nx, gSeq_eq, gIfE_eq, c8, rbind_ok, if_neg (by simp only [decide_eq_true_eq]; omega), gn, rbind_ok, sq2_nx, last])]
    simp [fin, finD, RC, Cell.below, D.below]
  · have : 0 < w.length := List.length_pos_iff.mpr wne
    have : i ≤ i1 := by rw [h1]; unfold at1; split <;> omega
    omega
end
end K20
namespace K20
open PySem PySem.Spec PyProof.Rows L2 DL
section
/-! ### the parser, plainly -/
def wordP (w : List Nat) : PyData := if w = [110, 111, 110, 101] then .none else .str (Tx w)
def simpleP (a : List Nat) (i : Nat) : Except Nat (PyData × Nat) :=
  if isAt a i [46] = true then .ok (.str "", i + 1)
  else if isAt a i sml = true then .ok (wordP (run a sml i), i + (run a sml i).length)
  else match intP a i with
    | .ok (n, e) => .ok (.int n, e)
    | .error e => .error e
def rowsP (T : Nat → Except Nat (PyData × Nat)) (a : List Nat) : Nat → Nat → List PyData → Except Nat (PyData × Nat)
  | 0, i, _ => .error i
  | n + 1, i, found => if isAt a i [41] = true then .ok (.tuple found, i + 1)
    else if found ≠ [] ∧ isAt a i [32] = false then .error i
    else match T (if found = [] then i else i + 1) with
      | .ok (t, e) => rowsP T a n e (found ++ [t])
      | .error e => .error e
def termP (a : List Nat) : Nat → Nat → Except Nat (PyData × Nat)
  | 0, i => if isAt a i [40] = true then .error i else simpleP a i
  | d + 1, i => if isAt a i [40] = true then rowsP (termP a d) a (a.length + 1) (i + 1) [] else simpleP a i
/-- a def of the reader answers as the plain parser -/
def Ans (r : Except Nat (PyData × Nat)) (a : List Nat) (i : Nat) (x : Rs DL.D) : Prop := match r with
  | .ok (t, e) => x = .ok (.p t) ⟨[], [RC a e]⟩ ∧ e ≤ a.length ∧ i < e
  | .error e => ∃ e', x = .er (errM e) ⟨[], [RC a e']⟩
/-- one turn of the rows' loop -/
def rowC : M Bool := gNot (gTru (gMeth "Reading" "is_at" 2 F_Reading_is_at (gVar 0) (DL.gCons (gC (.str ")")) (M.ret []))))
def rowB (F : FS) : M Fl := gSeq (gIfE (gTru (gVar 2)) (gSeq (gIfE (gNot (gTru (gMeth "Reading" "is_at" 2 F_Reading_is_at (gVar 0) (DL.gCons (gC (.str " ")) (M.ret []))))) (gSeq (gRaise1 "Malformed" "at" ((gVar 0).bind (fFld "Reading" "at"))) gNext) gNext)
    (gSeq (sFldAdd "Reading" "at" (gVar 0) (gC (.int 1))) gNext)) gNext)
    (gSeq (gExpr (gM (gVar 2) (DL.gCons (gMeth "Reading" "term" 2 F (gVar 0) (DL.gCons (gVar 1) (M.ret []))) (M.ret [])) mAppend)) gNext)
theorem rowC_eq (a : List Nat) (i : Nat) (k : Int) (xs : List PyData) (ha : a.length ≤ 1000000) : rowC ⟨[some (.loc 0), some (.p (.int k)), some (.loc 1)], [RC a i, .lst xs]⟩ = .ok (!isAt a i [41]) ⟨[some (.loc 0), some (.p (.int k)), some (.loc 1)], [RC a i, .lst xs]⟩ := by
  have := isat_c (ρ := ⟨[some (.loc 0), some (.p (.int k)), some (.loc 1)], [RC a i, .lst xs]⟩) (a := a) (i := i) ha rfl rfl s_cl
  unfold rowC gNot
  rw [bind_eq, gTru_eq, bind_eq, this, rbind_ok, tru_b, ret_eq, rbind_ok, ret_eq]
theorem gM_app2 {g ge : M DL.D} {ρ ρ1 : Sg} {j : Nat} {xs ys : List PyData} {x : PyData} (h1 : g ρ = .ok (.loc j) ρ) (h2 : ρ.m[j]? = some (.lst xs)) (h3 : ge ρ = .ok (.p x) ρ1) (h4 : ρ1.m[j]? = some (.lst ys)) (hl : ys.length < sizeLine) :
    gM g (DL.gCons ge (M.ret [])) mAppend ρ = .ok (.p .none) ⟨ρ1.s, ρ1.m.set j (.lst (ys ++ [x]))⟩ := by
  simp [gM, h1, isL, cellL, h2, h3, h4, mAppend, ifM, hl, setC]
theorem gM_er2 {g ge : M DL.D} {ρ ρ1 : Sg} {j : Nat} {xs : List PyData} {ε : Er} {f : DL.D → List DL.D → M DL.D} (h1 : g ρ = .ok (.loc j) ρ) (h2 : ρ.m[j]? = some (.lst xs)) (h3 : ge ρ = .er ε ρ1) : gM g (DL.gCons ge (M.ret [])) f ρ = .er ε ρ1 := by
  simp [gM, h1, isL, cellL, h2, h3]
/-- the term's call and the append -/
theorem row_term {F : FS} {a : List Nat} {i : Nat} {k : Int} {xs : List PyData} {r : Except Nat (PyData × Nat)} (hx : xs.length < sizeLine) (hF : Ans r a i (F [.loc 0, .p (.int k)] [RC a i])) :
    gSeq (gExpr (gM (gVar 2) (DL.gCons (gMeth "Reading" "term" 2 F (gVar 0) (DL.gCons (gVar 1) (M.ret []))) (M.ret [])) mAppend)) gNext ⟨[some (.loc 0), some (.p (.int k)), some (.loc 1)], [RC a i, .lst xs]⟩ = match (generalizing := false) r with
      | .ok (t, e) => .ok .nx ⟨[some (.loc 0), some (.p (.int k)), some (.loc 1)], [RC a e, .lst (xs ++ [t])]⟩
      | .error e => .er (errM e) ⟨[some (.loc 0), some (.p (.int k)), some (.loc 1)], (match F [.loc 0, .p (.int k)] [RC a i] with | .er _ ρ => ρ.m ++ [.lst xs] | _ => [])⟩ := by
  have em : gMeth "Reading" "term" 2 F (gVar 0) (DL.gCons (gVar 1) (M.ret [])) ⟨[some (.loc 0), some (.p (.int k)), some (.loc 1)], [RC a i, .lst xs]⟩ = callM 2 F [.loc 0, .p (.int k)] ⟨[some (.loc 0), some (.p (.int k)), some (.loc 1)], [RC a i, .lst xs]⟩ :=
    meth_eq (a := a) (i := i) (by decide) rfl rfl rfl
  cases r with
  | ok q =>
    obtain ⟨t, e⟩ := q
    obtain ⟨h1, h2, h3⟩ := hF
    have c := call_loc (F := F) (n := 2) (j := 0) (ρ := ⟨[some (.loc 0), some (.p (.int k)), some (.loc 1)], [RC a i, .lst xs]⟩) [.int k] rfl rfl (rc_ok a i) (rc_flat a e) h1
    have c : callM 2 F [.loc 0, .p (.int k)] ⟨[some (.loc 0), some (.p (.int k)), some (.loc 1)], [RC a i, .lst xs]⟩ = .ok (.p t) ⟨[some (.loc 0), some (.p (.int k)), some (.loc 1)], [RC a e, .lst xs]⟩ := c
    rw [c] at em
    rw [gSeq_eq, gExpr_eq, bind_eq, gM_app2 (g := gVar 2) (j := 1) (xs := xs) (ys := xs) (x := t) rfl rfl em rfl hx]
    rfl
  | error e =>
    obtain ⟨e', h1⟩ := hF
    have c := call_locE (F := F) (n := 2) (j := 0) (ρ := ⟨[some (.loc 0), some (.p (.int k)), some (.loc 1)], [RC a i, .lst xs]⟩) [.int k] rfl rfl (rc_ok a i) (rc_flat a e') h1
    have c : callM 2 F [.loc 0, .p (.int k)] ⟨[some (.loc 0), some (.p (.int k)), some (.loc 1)], [RC a i, .lst xs]⟩ = .er (errM e) ⟨[some (.loc 0), some (.p (.int k)), some (.loc 1)], [RC a e', .lst xs]⟩ := c
    rw [c] at em
    rw [gSeq_eq, gExpr_eq, bind_eq, gM_er2 (g := gVar 2) (j := 1) (xs := xs) rfl rfl em, h1]
    rfl
theorem tru_loc {ρ : Sg} {j : Nat} {xs : List PyData} (h : ρ.m[j]? = some (.lst xs)) : tru (.loc j) ρ = .ok (!xs.isEmpty) ρ := by
  unfold tru
  simp [h]
theorem rowB_eq (F : FS) (a : List Nat) (i : Nat) (k : Int) (xs : List PyData) (ha : a.length ≤ 1000000) : rowB F ⟨[some (.loc 0), some (.p (.int k)), some (.loc 1)], [RC a i, .lst xs]⟩ =
    if xs ≠ [] ∧ isAt a i [32] = false then .er (errM i) ⟨[some (.loc 0), some (.p (.int k)), some (.loc 1)], [RC a i, .lst xs]⟩
    else gSeq (gExpr (gM (gVar 2) (DL.gCons (gMeth "Reading" "term" 2 F (gVar 0) (DL.gCons (gVar 1) (M.ret []))) (M.ret [])) mAppend)) gNext ⟨[some (.loc 0), some (.p (.int k)), some (.loc 1)], [RC a (if xs = [] then i else i + 1), .lst xs]⟩ := by
  have q := isat_c (ρ := ⟨[some (.loc 0), some (.p (.int k)), some (.loc 1)], [RC a i, .lst xs]⟩) (a := a) (i := i) ha rfl rfl s_sp
  have v : gTru (gVar 2) ⟨[some (.loc 0), some (.p (.int k)), some (.loc 1)], [RC a i, .lst xs]⟩ = .ok (!xs.isEmpty) ⟨[some (.loc 0), some (.p (.int k)), some (.loc 1)], [RC a i, .lst xs]⟩ := tru_loc (ρ := ⟨[some (.loc 0), some (.p (.int k)), some (.loc 1)], [RC a i, .lst xs]⟩) (j := 1) (xs := xs) rfl
  have c : gNot (gTru (gMeth "Reading" "is_at" 2 F_Reading_is_at (gVar 0) (DL.gCons (gC (.str " ")) (M.ret [])))) ⟨[some (.loc 0), some (.p (.int k)), some (.loc 1)], [RC a i, .lst xs]⟩ = .ok (!isAt a i [32]) ⟨[some (.loc 0), some (.p (.int k)), some (.loc 1)], [RC a i, .lst xs]⟩ := by
    unfold gNot
    rw [bind_eq, gTru_eq, bind_eq, q, rbind_ok, tru_b, ret_eq, rbind_ok, ret_eq]
  unfold rowB
  rw [gSeq_eq, gIfE_eq, v, rbind_ok]
  cases xs with
  | nil => rw [if_neg (by simp), if_neg (by simp), gn, rbind_ok, sq2_nx, if_pos rfl]
  | cons x xs =>
    rw [if_pos (by simp), gSeq_eq, gIfE_eq, c, rbind_ok]
    cases hb : isAt a i [32] with
    | false =>
      rw [if_pos (by simp), if_pos ⟨by simp, rfl⟩, gSeq_eq, raise_at (a := a) (i := i) rfl rfl]
      rfl
    | true =>
      rw [if_neg (by simp), if_neg (by simp), gn, rbind_ok, sq2_nx, gSeq_eq, inc_at (j := 0) (i := i) (a := a) (g := gVar 0) (ρ := ⟨[some (.loc 0), some (.p (.int k)), some (.loc 1)], [RC a i, .lst (x :: xs)]⟩) rfl rfl, rbind_ok, sq2_nx, gn, rbind_ok, sq2_nx, if_neg (by simp)]
      rfl
theorem rows_loop {F : FS} {T : Nat → Except Nat (PyData × Nat)} {a : List Nat} {k : Int} (ha : a.length < 90000) (hT : ∀ i, i ≤ a.length → Ans (T i) a i (F [.loc 0, .p (.int k)] [RC a i])) : ∀ (n i N : Nat) (xs : List PyData), a.length - i < n → n ≤ N → i ≤ a.length → xs.length + (a.length - i) < 100000 →
    match rowsP T a n i xs with
    | .ok (t, e) => ∃ ys, t = .tuple ys ∧ 1 ≤ e ∧ whN N rowC (rowB F) ⟨[some (.loc 0), some (.p (.int k)), some (.loc 1)], [RC a i, .lst xs]⟩ = .ok .nx ⟨[some (.loc 0), some (.p (.int k)), some (.loc 1)], [RC a (e - 1), .lst ys]⟩ ∧ e ≤ a.length ∧ i < e
    | .error e => ∃ ρ' e', whN N rowC (rowB F) ⟨[some (.loc 0), some (.p (.int k)), some (.loc 1)], [RC a i, .lst xs]⟩ = .er (errM e) ρ' ∧ ρ'.m.take 1 = [RC a e']
  | 0, i, N, xs, h, _, _, _ => by omega
  | n + 1, i, N, xs, h, hN, hi, hx => by
    obtain ⟨N, rfl⟩ : ∃ M, N = M + 1 := ⟨N - 1, by omega⟩
    have c := rowC_eq a i k xs (by omega)
    have b := rowB_eq F a i k xs (by omega)
    rw [rowsP]
    by_cases h1 : isAt a i [41] = true
    · rw [if_pos h1]
      refine ⟨xs, rfl, by omega, ?_, by have := isAt_lt h1; omega, by omega⟩
      rw [whN, bind_eq, c, rbind_ok, if_neg (by simp [h1])]
      rfl
    · rw [if_neg h1]
      have go : ∀ r, (rowB F ⟨[some (.loc 0), some (.p (.int k)), some (.loc 1)], [RC a i, .lst xs]⟩).bind (fun f => match f with
          | .nx => whN N rowC (rowB F)
          | .ct => whN N rowC (rowB F)
          | .bk => M.ret .nx
          | .rt d => M.ret (.rt d)) = r → whN (N + 1) rowC (rowB F) ⟨[some (.loc 0), some (.p (.int k)), some (.loc 1)], [RC a i, .lst xs]⟩ = r := fun r hr => by
        rw [whN, bind_eq, c, rbind_ok, if_pos (by simpa using h1)]
        exact hr
      by_cases h2 : xs ≠ [] ∧ isAt a i [32] = false
      · rw [if_pos h2]
        rw [if_pos h2] at b
        exact ⟨_, i, go _ (by rw [b]; rfl), rfl⟩
      · rw [if_neg h2]
        rw [if_neg h2] at b
        have hi' : (if xs = [] then i else i + 1) ≤ a.length ∧ i ≤ (if xs = [] then i else i + 1) := by
          by_cases hx : xs = []
          · rw [if_pos hx]; exact ⟨hi, Nat.le_refl _⟩
          · rw [if_neg hx]
            have : isAt a i [32] = true := by
              cases hb : isAt a i [32] with
              | true => rfl
              | false => exact absurd ⟨hx, hb⟩ h2
            have := isAt_lt this
            omega
        generalize (if xs = [] then i else i + 1) = i' at hi' b ⊢
        have hA := hT i' hi'.1
        rw [row_term (by rw [sizeLine_eq]; omega) hA] at b
        cases hr : T i' with
        | ok q =>
          obtain ⟨t, e⟩ := q
          rw [hr] at b hA
          obtain ⟨_, he1, he2⟩ := hA
          have ih := rows_loop ha hT n e N (xs ++ [t]) (by omega) (by omega) he1 (by simp; omega)
          have st : whN (N + 1) rowC (rowB F) ⟨[some (.loc 0), some (.p (.int k)), some (.loc 1)], [RC a i, .lst xs]⟩ = whN N rowC (rowB F) ⟨[some (.loc 0), some (.p (.int k)), some (.loc 1)], [RC a e, .lst (xs ++ [t])]⟩ := go _ (by rw [b]; rfl)
          show match rowsP T a n e (xs ++ [t]) with
            | .ok (t, e) => ∃ ys, t = .tuple ys ∧ 1 ≤ e ∧ whN (N + 1) rowC (rowB F) ⟨[some (.loc 0), some (.p (.int k)), some (.loc 1)], [RC a i, .lst xs]⟩ = .ok .nx ⟨[some (.loc 0), some (.p (.int k)), some (.loc 1)], [RC a (e - 1), .lst ys]⟩ ∧ e ≤ a.length ∧ i < e
            | .error e => ∃ ρ' e', whN (N + 1) rowC (rowB F) ⟨[some (.loc 0), some (.p (.int k)), some (.loc 1)], [RC a i, .lst xs]⟩ = .er (errM e) ρ' ∧ ρ'.m.take 1 = [RC a e']
          rw [st]
          revert ih
          cases rowsP T a n e (xs ++ [t]) with
          | ok q =>
            obtain ⟨t2, e2⟩ := q
            rintro ⟨ys, q1, q2, q3, q4, q5⟩
            exact ⟨ys, q1, q2, q3, q4, by omega⟩
          | error e2 => exact id
        | error e =>
          rw [hr] at b hA
          obtain ⟨e', hF⟩ := hA
          exact ⟨_, e', go _ (by rw [b]; rfl), by rw [hF]; rfl⟩
end
end K20
namespace K20
open PySem PySem.Spec PyProof.Rows L2 DL
section
theorem fnF_eq {n len : Nat} {g : M Fl} {ds : List DL.D} {m : List Cell} {r : Rs Fl} (h : ds.length = n) (hg : g (startD len ds m) = r) : fnF n len g ds m = fin m.length r := by
  unfold fnF; rw [if_pos h, hg]
theorem fin_rc {a : List Nat} {e : Nat} {x : PyData} {s : List (Option DL.D)} {m : List Cell} (h : m.take 1 = [RC a e]) : fin 1 (.ok (.rt (.p x)) ⟨s, m⟩) = .ok (.p x) ⟨[], [RC a e]⟩ := by
  show finD 1 (.p x) m = _
  unfold finD
  rw [h, if_pos (by simp [RC, Cell.below, D.below])]
theorem fin_rcE {a : List Nat} {e : Nat} {ε : Er} {s : List (Option DL.D)} {m : List Cell} (h : m.take 1 = [RC a e]) : fin 1 (.er ε ⟨s, m⟩) = .er ε ⟨[], [RC a e]⟩ := by
  show (if (m.take 1).all (·.below 1) = true then _ else _) = _
  rw [h, if_pos (by simp [RC, Cell.below, D.below])]
theorem rows_eq {F : FS} {T : Nat → Except Nat (PyData × Nat)} {a : List Nat} {k : Int} {i : Nat} (ha : a.length < 90000) (hi : i < a.length) (hT : ∀ i, i ≤ a.length → Ans (T i) a i (F [.loc 0, .p (.int k)] [RC a i])) :
    Ans (rowsP T a (a.length + 1) (i + 1) []) a i (fnF 2 3 (g_Reading_told_rows F) [.loc 0, .p (.int k)] [RC a i]) := by
  have e : g_Reading_told_rows F = gSeq (sFldAdd "Reading" "at" (gVar 0) (gC (.int 1))) (gSeq (gAsg ((M.ret []).bind (mkL true)) (put 2)) (gSeq (whN 100000 rowC (rowB F)) (gSeq (sFldAdd "Reading" "at" (gVar 0) (gC (.int 1))) (gSeq (gRet ((DL.gCons (gVar 2) (M.ret [])).bind cTup)) gNext)))) := rfl
  have s1 := inc_at (j := 0) (i := i) (a := a) (g := gVar 0) (ρ := ⟨[some (.loc 0), some (.p (.int k)), none], [RC a i]⟩) rfl rfl
  have s2 : gAsg ((M.ret []).bind (mkL true)) (put 2) ⟨[some (.loc 0), some (.p (.int k)), none], [RC a (i + 1)]⟩ = .ok .nx ⟨[some (.loc 0), some (.p (.int k)), some (.loc 1)], [RC a (i + 1), .lst []]⟩ := by simp
  have st : startD 3 [.loc 0, .p (.int k)] [RC a i] = ⟨[some (.loc 0), some (.p (.int k)), none], [RC a i]⟩ := rfl
  have lp := rows_loop ha hT (a.length + 1) (i + 1) 100000 [] (by omega) (by omega) (by omega) (by simp; omega)
  cases hr : rowsP T a (a.length + 1) (i + 1) [] with
  | ok q =>
    obtain ⟨t, e'⟩ := q
    rw [hr] at lp
    obtain ⟨ys, rfl, h1, h2, h3, h4⟩ := lp
    refine ⟨?_, h3, by omega⟩
    have s4 := inc_at (j := 0) (i := e' - 1) (a := a) (g := gVar 0) (ρ := ⟨[some (.loc 0), some (.p (.int k)), some (.loc 1)], [RC a (e' - 1), .lst ys]⟩) rfl rfl
    have s5 : gSeq (gRet ((DL.gCons (gVar 2) (M.ret [])).bind cTup)) gNext ⟨[some (.loc 0), some (.p (.int k)), some (.loc 1)], [RC a (e' - 1 + 1), .lst ys]⟩ = .ok (.rt (.p (.tuple ys))) ⟨[some (.loc 0), some (.p (.int k)), some (.loc 1)], [RC a (e' - 1 + 1), .lst ys]⟩ := by
      simp [cTup, sq, newT]
    refine (fnF_eq (r := .ok (.rt (.p (.tuple ys))) ⟨[some (.loc 0), some (.p (.int k)), some (.loc 1)], [RC a (e' - 1 + 1), .lst ys]⟩) rfl ?_).trans (fin_rc (a := a) (e := e') (by rw [show e' - 1 + 1 = e' by omega]; rfl))
    · rw [st, e, gSeq_eq, s1, rbind_ok, sq2_nx]
      show (gSeq (gAsg ((M.ret []).bind (mkL true)) (put 2)) _) ⟨[some (.loc 0), some (.p (.int k)), none], [RC a (i + 1)]⟩ = _
      rw [gSeq_eq, s2, rbind_ok, sq2_nx, gSeq_eq, h2, rbind_ok, sq2_nx, gSeq_eq, s4, rbind_ok, sq2_nx]
      exact s5
  | error e' =>
    rw [hr] at lp
    obtain ⟨ρ', e2, h1, h2⟩ := lp
    refine ⟨e2, ?_⟩
    obtain ⟨s, m⟩ := ρ'
    refine (fnF_eq (r := .er (errM e') ⟨s, m⟩) rfl ?_).trans (fin_rcE h2)
    · rw [st, e, gSeq_eq, s1, rbind_ok, sq2_nx]
      show (gSeq (gAsg ((M.ret []).bind (mkL true)) (put 2)) _) ⟨[some (.loc 0), some (.p (.int k)), none], [RC a (i + 1)]⟩ = _
      rw [gSeq_eq, s2, rbind_ok, sq2_nx, gSeq_eq, h1]
      rfl
/-- the reader's term, one level -/
def termR (R : Except Nat (PyData × Nat)) (a : List Nat) (k : Int) (i : Nat) : Except Nat (PyData × Nat) :=
  if isAt a i [40] = true then (if k = 24 then .error i else R) else simpleP a i
theorem term_step {F : FS} {R : Except Nat (PyData × Nat)} {a : List Nat} {k : Int} {i : Nat} (ha : a.length < 90000) (hi : i ≤ a.length) (hR : isAt a i [40] = true → k ≠ 24 → Ans R a i (F [.loc 0, .p (.int (k + 1))] [RC a i])) :
    Ans (termR R a k i) a i (fnF 2 3 (g_Reading_term F) [.loc 0, .p (.int k)] [RC a i]) := by
  have e : g_Reading_term F = gSeq (gIfE (gTru (gMeth "Reading" "is_at" 2 F_Reading_is_at (gVar 0) (DL.gCons (gC (.str "(")) (M.ret [])))) (gSeq (gIfE (gB (gBin (fB2 pEq) (gVar 1) (gC (.int 24)))) (gSeq (gRaise1 "Malformed" "at" ((gVar 0).bind (fFld "Reading" "at"))) gNext) gNext)
    (gSeq (gRet (gMeth "Reading" "told_rows" 2 F (gVar 0) (DL.gCons (gBin (fAdd false) (gVar 1) (gC (.int 1))) (M.ret [])))) gNext)) gNext)
    (gSeq (gIfE (gTru (gMeth "Reading" "is_at" 2 F_Reading_is_at (gVar 0) (DL.gCons (gC (.str ".")) (M.ret [])))) (gSeq (sFldAdd "Reading" "at" (gVar 0) (gC (.int 1))) (gSeq (gRet (gC (.str ""))) gNext)) gNext)
    (gSeq (gIfE (gTru (gMeth "Reading" "is_at" 2 F_Reading_is_at (gVar 0) (DL.gCons (gC (.str "abcdefghijklmnopqrstuvwxyz")) (M.ret [])))) (gSeq (gAsg (gMeth "Reading" "take" 2 F_Reading_take (gVar 0) (DL.gCons (gC (.str "abcdefghijklmnopqrstuvwxyz")) (M.ret []))) (put 2))
    (gSeq (gRet (gIfE (gB (gBin (fB2 pEq) (gVar 2) (gC (.str "none")))) (gC .none) (gVar 2))) gNext)) gNext)
    (gSeq (gRet (gMeth "Reading" "integer" 1 F_Reading_integer (gVar 0) (M.ret []))) gNext))) := rfl
  have st : startD 3 [.loc 0, .p (.int k)] [RC a i] = ⟨[some (.loc 0), some (.p (.int k)), none], [RC a i]⟩ := rfl
  have ha6 : a.length ≤ 1000000 := by omega
  have ct : ∀ (z : Str) (b : List Nat), z = Tx b → gTru (gMeth "Reading" "is_at" 2 F_Reading_is_at (gVar 0) (DL.gCons (gC (.str z)) (M.ret []))) ⟨[some (.loc 0), some (.p (.int k)), none], [RC a i]⟩ = .ok (isAt a i b) ⟨[some (.loc 0), some (.p (.int k)), none], [RC a i]⟩ := fun z b hz => by
    rw [gTru_eq, bind_eq, isat_c (ρ := ⟨[some (.loc 0), some (.p (.int k)), none], [RC a i]⟩) ha6 rfl rfl hz, rbind_ok, tru_b, ret_eq]
  have c1 := ct _ _ s_op
  have c2 := ct _ _ s_dot
  have c3 := ct _ _ s_sml
  have fs : ∀ r, g_Reading_term F ⟨[some (.loc 0), some (.p (.int k)), none], [RC a i]⟩ = r → fnF 2 3 (g_Reading_term F) [.loc 0, .p (.int k)] [RC a i] = fin 1 r := fun r h => fnF_eq rfl (by rw [st]; exact h)
  unfold termR
  by_cases h1 : isAt a i [40] = true
  · rw [if_pos h1]
    have ck : gB (gBin (fB2 pEq) (gVar 1) (gC (.int 24))) ⟨[some (.loc 0), some (.p (.int k)), none], [RC a i]⟩ = .ok (decide (k = 24)) ⟨[some (.loc 0), some (.p (.int k)), none], [RC a i]⟩ := by simp
    by_cases h2 : k = 24
    · rw [if_pos h2]
      refine ⟨i, (fs (.er (errM i) ⟨[some (.loc 0), some (.p (.int k)), none], [RC a i]⟩) ?_).trans (fin_rcE rfl)⟩
      rw [e, gSeq_eq, gIfE_eq, c1, rbind_ok, if_pos h1, gSeq_eq, gIfE_eq, ck, rbind_ok, if_pos (decide_eq_true h2), gSeq_eq, raise_at (a := a) (i := i) rfl rfl]
      rfl
    · rw [if_neg h2]
      have hA := hR h1 h2
      have em : gMeth "Reading" "told_rows" 2 F (gVar 0) (DL.gCons (gBin (fAdd false) (gVar 1) (gC (.int 1))) (M.ret [])) ⟨[some (.loc 0), some (.p (.int k)), none], [RC a i]⟩ = callM 2 F [.loc 0, .p (.int (k + 1))] ⟨[some (.loc 0), some (.p (.int k)), none], [RC a i]⟩ :=
        meth_eq (a := a) (i := i) (by decide) rfl rfl rfl
      cases hr : R with
      | ok q =>
        obtain ⟨t, e'⟩ := q
        rw [hr] at hA
        obtain ⟨q1, q2, q3⟩ := hA
        have c : callM 2 F [.loc 0, .p (.int (k + 1))] ⟨[some (.loc 0), some (.p (.int k)), none], [RC a i]⟩ = .ok (.p t) ⟨[some (.loc 0), some (.p (.int k)), none], [RC a e']⟩ :=
          call_loc (F := F) (n := 2) (j := 0) (ρ := ⟨[some (.loc 0), some (.p (.int k)), none], [RC a i]⟩) [.int (k + 1)] rfl rfl (rc_ok a i) (rc_flat a e') q1
        rw [c] at em
        refine ⟨(fs (.ok (.rt (.p t)) ⟨[some (.loc 0), some (.p (.int k)), none], [RC a e']⟩) ?_).trans (fin_rc rfl), q2, q3⟩
        rw [e, gSeq_eq, gIfE_eq, c1, rbind_ok, if_pos h1, gSeq_eq, gIfE_eq, ck, rbind_ok, if_neg (by simpa using h2), gn, rbind_ok, sq2_nx, gSeq_eq, gRet_eq, bind_eq, em]
        rfl
      | error e' =>
        rw [hr] at hA
        obtain ⟨e2, q1⟩ := hA
        have c : callM 2 F [.loc 0, .p (.int (k + 1))] ⟨[some (.loc 0), some (.p (.int k)), none], [RC a i]⟩ = .er (errM e') ⟨[some (.loc 0), some (.p (.int k)), none], [RC a e2]⟩ :=
          call_locE (F := F) (n := 2) (j := 0) (ρ := ⟨[some (.loc 0), some (.p (.int k)), none], [RC a i]⟩) [.int (k + 1)] rfl rfl (rc_ok a i) (rc_flat a e2) q1
        rw [c] at em
        refine ⟨e2, (fs (.er (errM e') ⟨[some (.loc 0), some (.p (.int k)), none], [RC a e2]⟩) ?_).trans (fin_rcE rfl)⟩
        rw [e, gSeq_eq, gIfE_eq, c1, rbind_ok, if_pos h1, gSeq_eq, gIfE_eq, ck, rbind_ok, if_neg (by simpa using h2), gn, rbind_ok, sq2_nx, gSeq_eq, gRet_eq, bind_eq, em]
        rfl
  rw [if_neg h1]
  unfold simpleP
  by_cases h2 : isAt a i [46] = true
  · rw [if_pos h2]
    refine ⟨(fs (.ok (.rt (.p (.str ""))) ⟨[some (.loc 0), some (.p (.int k)), none], [RC a (i + 1)]⟩) ?_).trans (fin_rc rfl), isAt_lt h2, by omega⟩
    rw [e, gSeq_eq, gIfE_eq, c1, rbind_ok, if_neg h1, gn, rbind_ok, sq2_nx, gSeq_eq, gIfE_eq, c2, rbind_ok, if_pos h2, gSeq_eq, inc_at (j := 0) (i := i) (a := a) (g := gVar 0) (ρ := ⟨[some (.loc 0), some (.p (.int k)), none], [RC a i]⟩) rfl rfl]
    rfl
  rw [if_neg h2]
  by_cases h3 : isAt a i sml = true
  · rw [if_pos h3]
    obtain ⟨w, hw⟩ : ∃ l, l = run a sml i := ⟨_, rfl⟩
    have hle := run_le a sml i hi
    have wne := run_ne h3
    rw [← hw] at hle wne ⊢
    have s6 : gAsg (gMeth "Reading" "take" 2 F_Reading_take (gVar 0) (DL.gCons (gC (.str "abcdefghijklmnopqrstuvwxyz")) (M.ret []))) (put 2) ⟨[some (.loc 0), some (.p (.int k)), none], [RC a i]⟩ = .ok .nx ⟨[some (.loc 0), some (.p (.int k)), some (.p (.str (Tx w)))], [RC a (i + w.length)]⟩ := by
      have := meth_take (j := 0) (i := i) (a := a) (b := sml) (g := gVar 0) (gs := DL.gCons (gC (.str "abcdefghijklmnopqrstuvwxyz")) (M.ret [])) (ρ := ⟨[some (.loc 0), some (.p (.int k)), none], [RC a i]⟩) ha hi rfl rfl (by rw [s_sml]; rfl)
      rw [gAsg_eq, bind_eq, this, ← hw]; rfl
    have heq : pEq (.str (Tx w)) (.str "none") = some (decide (w = [110, 111, 110, 101])) := by
      unfold pEq
      rw [if_pos (by simp [PyData.depth])]
      congr 1
      have : PyData.eqv (.str (Tx w)) (.str "none") = (Tx w == "none") := by simp [PyData.eqv]
      rw [this, s_none]
      exact SX.S_beq_eq
    have s7 : gSeq (gRet (gIfE (gB (gBin (fB2 pEq) (gVar 2) (gC (.str "none")))) (gC .none) (gVar 2))) gNext ⟨[some (.loc 0), some (.p (.int k)), some (.p (.str (Tx w)))], [RC a (i + w.length)]⟩ = .ok (.rt (.p (wordP w))) ⟨[some (.loc 0), some (.p (.int k)), some (.p (.str (Tx w)))], [RC a (i + w.length)]⟩ := by
      unfold wordP
      by_cases hn : w = [110, 111, 110, 101]
      · rw [if_pos hn]
        rw [decide_eq_true hn] at heq
        simp [heq]
      · rw [if_neg hn]
        rw [decide_eq_false hn] at heq
        simp [heq]
    refine ⟨(fs (.ok (.rt (.p (wordP w))) ⟨[some (.loc 0), some (.p (.int k)), some (.p (.str (Tx w)))], [RC a (i + w.length)]⟩) ?_).trans (fin_rc rfl), hle, by have := List.length_pos_iff.mpr wne; omega⟩
    rw [e, gSeq_eq, gIfE_eq, c1, rbind_ok, if_neg h1, gn, rbind_ok, sq2_nx, gSeq_eq, gIfE_eq, c2, rbind_ok, if_neg h2, gn, rbind_ok, sq2_nx, gSeq_eq, gIfE_eq, c3, rbind_ok, if_pos h3, gSeq_eq, s6, rbind_ok, sq2_nx, s7]
    rfl
  rw [if_neg h3]
  have em : gMeth "Reading" "integer" 1 F_Reading_integer (gVar 0) (M.ret []) ⟨[some (.loc 0), some (.p (.int k)), none], [RC a i]⟩ = callM 1 F_Reading_integer [.loc 0] ⟨[some (.loc 0), some (.p (.int k)), none], [RC a i]⟩ :=
    meth_eq (a := a) (i := i) (gs := M.ret []) (ds := []) (by decide) rfl rfl rfl
  have hI := integer_eq a i ha hi
  have up : ∀ r, ((callM 1 F_Reading_integer [.loc 0] ⟨[some (.loc 0), some (.p (.int k)), none], [RC a i]⟩).bind fun d => M.ret (.rt d)).bind (sq2 gNext) = r → g_Reading_term F ⟨[some (.loc 0), some (.p (.int k)), none], [RC a i]⟩ = r := fun r hr => by
    rw [e, gSeq_eq, gIfE_eq, c1, rbind_ok, if_neg h1, gn, rbind_ok, sq2_nx, gSeq_eq, gIfE_eq, c2, rbind_ok, if_neg h2, gn, rbind_ok, sq2_nx, gSeq_eq, gIfE_eq, c3, rbind_ok, if_neg h3, gn, rbind_ok, sq2_nx, gSeq_eq, gRet_eq, bind_eq, em]
    exact hr
  cases hr : intP a i with
  | ok q =>
    obtain ⟨n, e'⟩ := q
    rw [hr] at hI
    obtain ⟨q1, q2, q3⟩ := hI
    have c : callM 1 F_Reading_integer [.loc 0] ⟨[some (.loc 0), some (.p (.int k)), none], [RC a i]⟩ = .ok (.p (.int n)) ⟨[some (.loc 0), some (.p (.int k)), none], [RC a e']⟩ :=
      call_loc (F := F_Reading_integer) (n := 1) (j := 0) (ρ := ⟨[some (.loc 0), some (.p (.int k)), none], [RC a i]⟩) [] rfl rfl (rc_ok a i) (rc_flat a e') q1
    exact ⟨(fs (.ok (.rt (.p (.int n))) ⟨[some (.loc 0), some (.p (.int k)), none], [RC a e']⟩) (up _ (by rw [c]; rfl))).trans (fin_rc rfl), q2, q3⟩
  | error e' =>
    rw [hr] at hI
    obtain ⟨e2, q1⟩ := hI
    have c : callM 1 F_Reading_integer [.loc 0] ⟨[some (.loc 0), some (.p (.int k)), none], [RC a i]⟩ = .er (errM e') ⟨[some (.loc 0), some (.p (.int k)), none], [RC a e2]⟩ :=
      call_locE (F := F_Reading_integer) (n := 1) (j := 0) (ρ := ⟨[some (.loc 0), some (.p (.int k)), none], [RC a i]⟩) [] rfl rfl (rc_ok a i) (rc_flat a e2) q1
    exact ⟨e2, (fs (.er (errM e') ⟨[some (.loc 0), some (.p (.int k)), none], [RC a e2]⟩) (up _ (by rw [c]; rfl))).trans (fin_rcE rfl)⟩
end
end K20
namespace K20
open PySem PySem.Spec PyProof.Rows L2 DL
section
theorem term_all {a : List Nat} (ha : a.length < 90000) : ∀ (d n i : Nat), d ≤ 24 → 2 * d + 1 ≤ n → i ≤ a.length → Ans (termP a d i) a i (F_Reading_term n [.loc 0, .p (.int (24 - (d : Int)))] [RC a i])
  | 0, n, i, _, hn, hi => by
    obtain ⟨m, rfl⟩ : ∃ m, n = m + 1 := ⟨n - 1, by omega⟩
    rw [F_Reading_term]
    have := term_step (F := F_Reading_told_rows m) (R := .error i) (k := 24) ha hi (fun _ h => absurd rfl h)
    unfold termR at this
    rw [if_pos rfl] at this
    unfold termP
    exact this
  | d + 1, n, i, hd, hn, hi => by
    obtain ⟨m, rfl⟩ : ∃ m, n = m + 1 + 1 := ⟨n - 2, by omega⟩
    rw [F_Reading_term]
    have hk : (24 - ((d + 1 : Nat) : Int)) + 1 = 24 - (d : Int) := by omega
    have hk2 : (24 - ((d + 1 : Nat) : Int)) ≠ 24 := by omega
    have := term_step (F := F_Reading_told_rows (m + 1)) (R := rowsP (termP a d) a (a.length + 1) (i + 1) []) (k := 24 - ((d + 1 : Nat) : Int)) ha hi (fun h _ => by
      rw [F_Reading_told_rows, hk]
      exact rows_eq ha (isAt_lt h) fun j hj => term_all ha d m j (by omega) (by omega) hj)
    unfold termR at this
    rw [if_neg hk2] at this
    unfold termP
    exact this
/-- reading a whole text -/
def readP (a : List Nat) : Except Nat PyData := match termP a 24 0 with
  | .ok (t, e) => if e < a.length then .error e else .ok t
  | .error e => .error e
theorem init_eq (a : List Nat) : F_Reading_init [.loc 0, .p (.str (Tx a))] [.obj "Reading" []] = .ok (.p .none) ⟨[], [RC a 0]⟩ := by
  have ne : ¬ ("text" : Str) = "at" := by decide
  have s1 : sFldG "Reading" "text" (gVar 1) (gVar 0) ⟨[some (.loc 0), some (.p (.str (Tx a)))], [.obj "Reading" []]⟩ = .ok .nx ⟨[some (.loc 0), some (.p (.str (Tx a)))], [.obj "Reading" [("text", .p (.str (Tx a)))]]⟩ := by
    simp [sFldG, cellO, ifM, setC, putD]
  have s2 : sFldG "Reading" "at" (gC (.int 0)) (gVar 0) ⟨[some (.loc 0), some (.p (.str (Tx a)))], [.obj "Reading" [("text", .p (.str (Tx a)))]]⟩ = .ok .nx ⟨[some (.loc 0), some (.p (.str (Tx a)))], [RC a 0]⟩ := by
    simp [sFldG, cellO, ifM, setC, putD, ne, RC]
  have hg : g_Reading_init ⟨[some (.loc 0), some (.p (.str (Tx a)))], [.obj "Reading" []]⟩ = .ok .nx ⟨[some (.loc 0), some (.p (.str (Tx a)))], [RC a 0]⟩ := by
    unfold g_Reading_init
    rw [gSeq_eq, s1, rbind_ok, sq2_nx, gSeq_eq, s2]; rfl
  show (if [DL.D.loc 0, .p (.str (Tx a))].length = 2 then fin 1 (g_Reading_init ⟨[some (.loc 0), some (.p (.str (Tx a)))], [.obj "Reading" []]⟩) else .bad) = _
  rw [hg]
  simp [fin, finD, RC, Cell.below, D.below]
theorem read_term_eq (a : List Nat) (ha : a.length < 90000) : match readP a with
    | .ok t => F_read_term [.p (.str (Tx a))] [] = .ok (.p t) ⟨[], []⟩
    | .error e => F_read_term [.p (.str (Tx a))] [] = .er (errM e) ⟨[], []⟩ := by
  have e : g_read_term = gSeq (gAsg (gMake "Reading" 2 F_Reading_init (DL.gCons (gVar 0) (M.ret []))) (put 1)) (gSeq (gAsg (gMeth "Reading" "term" 2 (F_Reading_term 60) (gVar 1) (DL.gCons (gC (.int 0)) (M.ret []))) (put 2))
    (gSeq (gIfE (gB (gBin (fB2 pLt) ((gVar 1).bind (fFld "Reading" "at")) ((DL.gCons (gVar 0) (M.ret [])).bind (c1 pLen)))) (gSeq (gRaise1 "Malformed" "at" ((gVar 1).bind (fFld "Reading" "at"))) gNext) gNext) (gSeq (gRet (gVar 2)) gNext))) := rfl
  have c0 : callM 2 F_Reading_init [.loc 0, .p (.str (Tx a))] ⟨[some (.p (.str (Tx a))), none, none], [.obj "Reading" []]⟩ = .ok (.p .none) ⟨[some (.p (.str (Tx a))), none, none], [RC a 0]⟩ :=
    call_loc (F := F_Reading_init) (n := 2) (j := 0) (c := .obj "Reading" []) (ρ := ⟨[some (.p (.str (Tx a))), none, none], [.obj "Reading" []]⟩) [.str (Tx a)] rfl rfl rfl (rc_flat a 0) (init_eq a)
  have s1 : gAsg (gMake "Reading" 2 F_Reading_init (DL.gCons (gVar 0) (M.ret []))) (put 1) ⟨[some (.p (.str (Tx a))), none, none], []⟩ = .ok .nx ⟨[some (.p (.str (Tx a))), some (.loc 0), none], [RC a 0]⟩ := by
    rw [gAsg_eq, bind_eq]
    have : gMake "Reading" 2 F_Reading_init (DL.gCons (gVar 0) (M.ret [])) ⟨[some (.p (.str (Tx a))), none, none], []⟩ = .ok (.loc 0) ⟨[some (.p (.str (Tx a))), none, none], [RC a 0]⟩ := by
      show ((callM 2 F_Reading_init [.loc 0, .p (.str (Tx a))] ⟨[some (.p (.str (Tx a))), none, none], [.obj "Reading" []]⟩).bind (madeO 0)) = _
      rw [c0]; rfl
    rw [this]; rfl
  have em : gMeth "Reading" "term" 2 (F_Reading_term 60) (gVar 1) (DL.gCons (gC (.int 0)) (M.ret [])) ⟨[some (.p (.str (Tx a))), some (.loc 0), none], [RC a 0]⟩ = callM 2 (F_Reading_term 60) [.loc 0, .p (.int 0)] ⟨[some (.p (.str (Tx a))), some (.loc 0), none], [RC a 0]⟩ :=
    meth_eq (a := a) (i := 0) (by decide) rfl rfl rfl
  have hA := term_all ha 24 60 0 (by omega) (by omega) (by omega)
  have hk : (24 - ((24 : Nat) : Int)) = 0 := by omega
  rw [hk] at hA
  have out : ∀ r, g_read_term ⟨[some (.p (.str (Tx a))), none, none], []⟩ = r → F_read_term [.p (.str (Tx a))] [] = fin 0 r := fun r h => fnF_eq rfl h
  unfold readP
  cases hr : termP a 24 0 with
  | error e' =>
    rw [hr] at hA
    obtain ⟨e2, q1⟩ := hA
    have c : callM 2 (F_Reading_term 60) [.loc 0, .p (.int 0)] ⟨[some (.p (.str (Tx a))), some (.loc 0), none], [RC a 0]⟩ = .er (errM e') ⟨[some (.p (.str (Tx a))), some (.loc 0), none], [RC a e2]⟩ :=
      call_locE (F := F_Reading_term 60) (n := 2) (j := 0) (ρ := ⟨[some (.p (.str (Tx a))), some (.loc 0), none], [RC a 0]⟩) [.int 0] rfl rfl (rc_ok a 0) (rc_flat a e2) q1
    rw [c] at em
    show F_read_term [.p (.str (Tx a))] [] = .er (errM e') ⟨[], []⟩
    rw [out (.er (errM e') ⟨[some (.p (.str (Tx a))), some (.loc 0), none], [RC a e2]⟩) (by rw [e, gSeq_eq, s1, rbind_ok, sq2_nx, gSeq_eq, gAsg_eq, bind_eq, em]; rfl)]
    rfl
  | ok q =>
    obtain ⟨t, e'⟩ := q
    rw [hr] at hA
    obtain ⟨q1, q2, q3⟩ := hA
    have c : callM 2 (F_Reading_term 60) [.loc 0, .p (.int 0)] ⟨[some (.p (.str (Tx a))), some (.loc 0), none], [RC a 0]⟩ = .ok (.p t) ⟨[some (.p (.str (Tx a))), some (.loc 0), none], [RC a e']⟩ :=
      call_loc (F := F_Reading_term 60) (n := 2) (j := 0) (ρ := ⟨[some (.p (.str (Tx a))), some (.loc 0), none], [RC a 0]⟩) [.int 0] rfl rfl (rc_ok a 0) (rc_flat a e') q1
    rw [c] at em
    have s2 : gAsg (gMeth "Reading" "term" 2 (F_Reading_term 60) (gVar 1) (DL.gCons (gC (.int 0)) (M.ret []))) (put 2) ⟨[some (.p (.str (Tx a))), some (.loc 0), none], [RC a 0]⟩ = .ok .nx ⟨[some (.p (.str (Tx a))), some (.loc 0), some (.p t)], [RC a e']⟩ := by
      rw [gAsg_eq, bind_eq, em]; rfl
    have fa := fld_at (ρ := ⟨[some (.p (.str (Tx a))), some (.loc 0), some (.p t)], [RC a e']⟩) (j := 0) (a := a) (i := e') rfl
    have ck : gB (gBin (fB2 pLt) ((gVar 1).bind (fFld "Reading" "at")) ((DL.gCons (gVar 0) (M.ret [])).bind (c1 pLen))) ⟨[some (.p (.str (Tx a))), some (.loc 0), some (.p t)], [RC a e']⟩ = .ok (decide ((e' : Int) < (a.length : Int))) ⟨[some (.p (.str (Tx a))), some (.loc 0), some (.p t)], [RC a e']⟩ := by
      have := len_tx a ha
      simp [fa, this]
    show (match (if e' < a.length then Except.error e' else Except.ok t) with
      | .ok t => F_read_term [.p (.str (Tx a))] [] = .ok (.p t) ⟨[], []⟩
      | .error e => F_read_term [.p (.str (Tx a))] [] = .er (errM e) ⟨[], []⟩)
    by_cases hl : e' < a.length
    · rw [if_pos hl]
      show F_read_term [.p (.str (Tx a))] [] = .er (errM e') ⟨[], []⟩
      have er : gRaise1 "Malformed" "at" ((gVar 1).bind (fFld "Reading" "at")) ⟨[some (.p (.str (Tx a))), some (.loc 0), some (.p t)], [RC a e']⟩ = .er (errM e') ⟨[some (.p (.str (Tx a))), some (.loc 0), some (.p t)], [RC a e']⟩ := by
        unfold gRaise1
        rw [bind_eq, bind_eq]
        show (((fFld "Reading" "at" (.loc 0) ⟨[some (.p (.str (Tx a))), some (.loc 0), some (.p t)], [RC a e']⟩)).bind _) = _
        rw [fa]; rfl
      rw [out (.er (errM e') ⟨[some (.p (.str (Tx a))), some (.loc 0), some (.p t)], [RC a e']⟩) (by rw [e, gSeq_eq, s1, rbind_ok, sq2_nx, gSeq_eq, s2, rbind_ok, sq2_nx, gSeq_eq, gIfE_eq, ck, rbind_ok, if_pos (decide_eq_true (by omega)), gSeq_eq, er]; rfl)]
      rfl
    · rw [if_neg hl]
      show F_read_term [.p (.str (Tx a))] [] = .ok (.p t) ⟨[], []⟩
      rw [out (.ok (.rt (.p t)) ⟨[some (.p (.str (Tx a))), some (.loc 0), some (.p t)], [RC a e']⟩) (by rw [e, gSeq_eq, s1, rbind_ok, sq2_nx, gSeq_eq, s2, rbind_ok, sq2_nx, gSeq_eq, gIfE_eq, ck, rbind_ok, if_neg (by simp only [decide_eq_true_eq]; omega), gn, rbind_ok, sq2_nx]; rfl)]
      rfl
end
end K20
namespace K20
open PySem PySem.Spec PyProof.Rows L2 DL
section
/-! ### the law's own reader -/
/-- one more sign of z, if it stands at the j-th slot's place -/
def eatB (j : Nat) (z : Str) : M Fl := gSeq (gIfE (gAnd (gB (gBin (fB2 pLt) (gVar j) ((DL.gCons (gVar 0) (M.ret [])).bind (c1 pLen)))) (gB (gBin (fB2 pIn) (gBin fIx (gVar 0) (gVar j)) (gC (.str z))))) (gSeq (gAsg (gBin (fAdd false) (gVar j) (gC (.int 1))) (put j)) gNext) gNext) gNext
theorem ix_tx {a : List Nat} {i : Nat} {c : Nat} (ha : a.length ≤ 1000000) (h : a[i]? = some c) (ρ : Sg) : fIx (.p (.str (Tx a))) (.p (.int (i : Int))) ρ = .ok (.p (.str (Tx [c]))) ρ := by
  show fIxT (Tx a) (i : Int) ρ = _
  unfold fIxT
  rw [if_pos (by rw [tx_len, sizeLine_eq]; omega)]
  have : atI (Tx a).cps.toList (i : Int) = some c := atI_nat (by simpa using h)
  rw [this]
  rfl
theorem eat_turn {a b : List Nat} {z : Str} {i j : Nat} {s : List (Option DL.D)} {m : List Cell} (ha : a.length < 90000) (hz : z = Tx b) (h0 : s[0]? = some (some (.p (.str (Tx a))))) (hj : s[j]? = some (some (.p (.int (i : Int))))) :
    eatB j z ⟨s, m⟩ = .ok .nx ⟨if isAt a i b = true then s.set j (some (.p (.int ((i : Int) + 1)))) else s, m⟩ := by
  have v0 : gVar 0 ⟨s, m⟩ = .ok (.p (.str (Tx a))) ⟨s, m⟩ := by rw [gVar_def]; simp [h0]
  have vj : gVar j ⟨s, m⟩ = .ok (.p (.int (i : Int))) ⟨s, m⟩ := by rw [gVar_def]; simp [hj]
  have c1' : gB (gBin (fB2 pLt) (gVar j) ((DL.gCons (gVar 0) (M.ret [])).bind (c1 pLen))) ⟨s, m⟩ = .ok (decide ((i : Int) < (a.length : Int))) ⟨s, m⟩ := by
    have := len_tx a ha
    rw [gB_eq, bind_eq, gBin_eq, bind_eq, vj, rbind_ok, bind_eq, bind_eq, gCons_eq, bind_eq, v0, rbind_ok, bind_eq, ret_eq, rbind_ok, ret_eq, rbind_ok, c1_p, this]
    show ((fB2 pLt (.p (.int (i : Int))) (.p (.int (a.length : Int))) ⟨s, m⟩).bind asB) = _
    rw [fB2_p, lt_i]; rfl
  have cc : gAnd (gB (gBin (fB2 pLt) (gVar j) ((DL.gCons (gVar 0) (M.ret [])).bind (c1 pLen)))) (gB (gBin (fB2 pIn) (gBin fIx (gVar 0) (gVar j)) (gC (.str z)))) ⟨s, m⟩ = .ok (isAt a i b) ⟨s, m⟩ := by
    unfold gAnd
    rw [bind_eq, c1', rbind_ok]
    cases h : a[i]? with
    | none =>
      have : a.length ≤ i := List.getElem?_eq_none_iff.mp h
      rw [if_neg (by simp only [decide_eq_true_eq]; omega)]
      unfold isAt; rw [h]; rfl
    | some c =>
      have := (List.getElem?_eq_some_iff.mp h).1
      rw [if_pos (decide_eq_true (by omega)), gB_eq, bind_eq, gBin_eq, bind_eq, gBin_eq, bind_eq, v0, rbind_ok, bind_eq, vj, rbind_ok, ix_tx (by omega) h, rbind_ok, gC_eq, bind_eq, ret_eq, rbind_ok, hz]
      have hin : pIn (.str (Tx [c])) (.str (Tx b)) = some (decide (c ∈ b)) := congrArg some (SX.in_one b c)
      rw [fB2_p, hin]
      unfold isAt; rw [h]; rfl
  unfold eatB
  rw [gSeq_eq, gIfE_eq, cc, rbind_ok]
  cases hb : isAt a i b with
  | false => rfl
  | true =>
    rw [if_pos rfl, if_pos rfl, gSeq_eq, gAsg_eq, bind_eq, gBin_eq, bind_eq, vj, rbind_ok]
    rfl
theorem eat_loop {a b : List Nat} {z : Str} {j q : Nat} {m : List Cell} (ha : a.length < 90000) (hz : z = Tx b) (hjq : j ≠ q) (h0q : q ≠ 0) (h0j : j ≠ 0) : ∀ (is : List PyData) (i : Nat) (s : List (Option DL.D)), s[0]? = some (some (.p (.str (Tx a)))) → s[j]? = some (some (.p (.int (i : Int)))) → 
    ∃ s', forL (put q) (eatB j z) is ⟨s, m⟩ = .ok .nx ⟨s', m⟩ ∧ s'.length = s.length ∧ s'[j]? = some (some (.p (.int ((i + min is.length (run a b i).length : Nat) : Int)))) ∧ ∀ k, k ≠ j → k ≠ q → s'[k]? = s[k]?
  | [], i, s, h0, hj => ⟨s, rfl, rfl, by simpa using hj, fun _ _ _ => rfl⟩
  | x :: is, i, s, h0, hj => by
    have e0 : (s.set q (some (.p x)))[0]? = some (some (.p (.str (Tx a)))) := by rw [List.getElem?_set_ne h0q]; exact h0
    have ej : (s.set q (some (.p x)))[j]? = some (some (.p (.int (i : Int)))) := by rw [List.getElem?_set_ne (Ne.symm hjq)]; exact hj
    have t := eat_turn (m := m) ha hz e0 ej
    have hjl : j < s.length := (List.getElem?_eq_some_iff.mp hj).1
    have st : forL (put q) (eatB j z) (x :: is) ⟨s, m⟩ = forL (put q) (eatB j z) is ⟨if isAt a i b = true then (s.set q (some (.p x))).set j (some (.p (.int ((i : Int) + 1)))) else s.set q (some (.p x)), m⟩ := by
      show ((eatB j z ⟨s.set q (some (.p x)), m⟩).bind _) = _
      rw [t]; rfl
    rw [st]
    cases hb : isAt a i b with
    | false =>
      rw [if_neg (by decide)]
      obtain ⟨s', q1, q2, q3, q4⟩ := eat_loop ha hz hjq h0q h0j is i _ e0 ej
      have r0 : run a b i = [] := by
        cases hd : a.drop i with
        | nil => unfold run; rw [hd]; rfl
        | cons c r =>
          have := (isAt_cons (b := b) hd).1
          rw [hb] at this
          unfold run; rw [hd]
          have hc : c ∉ b := by simpa using this.symm
          simp [List.takeWhile_cons, hc]
      refine ⟨s', q1, by rw [q2, List.length_set], ?_, fun k h1 h2 => by rw [q4 k h1 h2, List.getElem?_set_ne (Ne.symm h2)]⟩
      rw [q3, r0]; simp
    | true =>
      rw [if_pos rfl]
      obtain ⟨s', q1, q2, q3, q4⟩ := eat_loop ha hz hjq h0q h0j is (i + 1) ((s.set q (some (.p x))).set j (some (.p (.int ((i : Int) + 1))))) (by rw [List.getElem?_set_ne h0j]; exact e0) (by rw [List.getElem?_set_self (by simpa using hjl)]; rfl)
      have r1 : (run a b i).length = (run a b (i + 1)).length + 1 := by
        cases hd : a.drop i with
        | nil => rw [isAt_nil hd] at hb; cases hb
        | cons c r =>
          obtain ⟨h1, h2⟩ := isAt_cons (b := b) hd
          rw [hb] at h1
          have hc : c ∈ b := by simpa using h1.symm
          unfold run; rw [hd, h2]
          simp [List.takeWhile_cons, hc]
      refine ⟨s', q1, by rw [q2, List.length_set, List.length_set], ?_, fun k h1 h2 => by rw [q4 k h1 h2, List.getElem?_set_ne (Ne.symm h1), List.getElem?_set_ne (Ne.symm h2)]⟩
      rw [q3, r1]
      congr 4
      simp only [List.length_cons]
      omega
end
end K20
namespace K20
open PySem PySem.Spec PyProof.Rows L2 DL
section
/-- text[at:at + 1] -/
def oneE (j : Nat) : M DL.D := (gVar 0).bind fun a => ((gVar j).bind asIm).bind fun l => ((gBin (fAdd false) (gVar j) (gC (.int 1))).bind asIm).bind fun h => fSl false a l h
theorem oneE_eq {a : List Nat} {i j : Nat} {s : List (Option DL.D)} {m : List Cell} (ha : a.length ≤ 1000000) (h0 : s[0]? = some (some (.p (.str (Tx a))))) (hj : s[j]? = some (some (.p (.int (i : Int))))) : oneE j ⟨s, m⟩ = .ok (.p (.str (Tx ((a.drop i).take 1)))) ⟨s, m⟩ := by
  have v0 : gVar 0 ⟨s, m⟩ = .ok (.p (.str (Tx a))) ⟨s, m⟩ := by rw [gVar_def]; simp [h0]
  have vj : gVar j ⟨s, m⟩ = .ok (.p (.int (i : Int))) ⟨s, m⟩ := by rw [gVar_def]; simp [hj]
  have hl : decide ((Tx a).length ≤ sizeLine) = true := decide_eq_true (by rw [tx_len, sizeLine_eq]; omega)
  unfold oneE
  rw [bind_eq, v0, rbind_ok, bind_eq, bind_eq, vj, rbind_ok]
  show (((gBin (fAdd false) (gVar j) (gC (.int 1))).bind asIm).bind fun h => fSl false (.p (.str (Tx a))) (some (i : Int)) h) ⟨s, m⟩ = _
  rw [bind_eq, bind_eq, gBin_eq, bind_eq, vj, rbind_ok]
  show fSl false (.p (.str (Tx a))) (some (i : Int)) (some ((i : Int) + 1)) ⟨s, m⟩ = _
  show ifM (decide ((Tx a).length ≤ sizeLine)) (M.ret (DL.D.p (.str (cutS (Tx a) (some (i : Int)) (some ((i : Int) + 1)))))) _ = _
  rw [hl, tx_next]; rfl
theorem eq_tx (w v : List Nat) : pEq (.str (Tx w)) (.str (Tx v)) = some (decide (w = v)) := by
  unfold pEq
  rw [if_pos (by simp [PyData.depth])]
  congr 1
  have : PyData.eqv (.str (Tx w)) (.str (Tx v)) = (Tx w == Tx v) := by simp [PyData.eqv]
  rw [this]
  exact SX.S_beq_eq
theorem one_is (a : List Nat) (i c : Nat) : decide ((a.drop i).take 1 = [c]) = isAt a i [c] := by
  rw [take1]; unfold isAt
  cases a[i]? with
  | none => rfl
  | some d => simp [List.mem_singleton]
/-- is the sign at the slot's place c -/
theorem cond_one {a : List Nat} {i j c : Nat} {z : Str} {s : List (Option DL.D)} {m : List Cell} (ha : a.length ≤ 1000000) (hz : z = Tx [c]) (h0 : s[0]? = some (some (.p (.str (Tx a))))) (hj : s[j]? = some (some (.p (.int (i : Int))))) :
    gB (gBin (fB2 pEq) (oneE j) (gC (.str z))) ⟨s, m⟩ = .ok (isAt a i [c]) ⟨s, m⟩ := by
  rw [gB_eq, bind_eq, gBin_eq, bind_eq, oneE_eq ha h0 hj, rbind_ok, gC_eq, bind_eq, ret_eq, rbind_ok, hz, fB2_p, eq_tx, one_is]
  rfl
/-- the two entries that the law's reader hands back -/
def two (x : PyData) (e : Int) : PyData := .list [x, .int e]
def lst2 : Except Nat (PyData × Nat) → PyData
  | .ok (t, e) => two t e
  | .error e => two (.str "bad") e
theorem mk2 (x : PyData) (e : Int) : mkL false [.p x, .p (.int e)] = M.ret (.p (two x e)) := by
  have : decide (([x, .int e] : List PyData).length ≤ sizeLine) = true := decide_eq_true (by rw [sizeLine_eq]; show 2 ≤ 16777216; decide)
  show ifM (decide (([x, .int e] : List PyData).length ≤ sizeLine)) (newL false [x, .int e]) = _
  rw [this]; rfl
theorem ret_two {g ge : M DL.D} {x : PyData} {e : Int} {ρ : Sg} (h1 : g ρ = .ok (.p x) ρ) (h2 : ge ρ = .ok (.p (.int e)) ρ) : gSeq (gRet ((DL.gCons g (DL.gCons ge (M.ret []))).bind (mkL false))) gNext ρ = .ok (.rt (.p (two x e))) ρ := by
  rw [gSeq_eq, gRet_eq, bind_eq, bind_eq, gCons_eq, bind_eq, h1, rbind_ok, bind_eq, gCons_eq, bind_eq, h2, rbind_ok, bind_eq, ret_eq, rbind_ok, ret_eq, rbind_ok, ret_eq, rbind_ok, mk2]
  rfl
theorem int_neg {w : List Nat} (h : ∀ c ∈ w, c ∈ dig) (hne : w ≠ []) (hl : w.length ≤ 20) : pInt (.str (Tx (45 :: w))) = some (.int (- val w)) := by
  show (if (Tx (45 :: w)).length ≤ 640 then (intText? (Tx (45 :: w))).map PyData.int else none) = _
  rw [if_pos (by rw [tx_len, List.length_cons]; omega), intText_neg (x := Tx (45 :: w)) (cs := w) rfl (fun c hc => ?_) hne (by rw [tx_len, List.length_cons]; omega)]
  · rfl
  · have := h c hc
    simp only [dig, List.mem_cons, List.mem_nil_iff, or_false] at this
    omega
theorem range_in {a : List Nat} (ha : a.length < 90000) {ρ : Sg} (v : gVar 0 ρ = .ok (.p (.str (Tx a))) ρ) : DL.gCons ((DL.gCons (gVar 0) (M.ret [])).bind (c1 pLen)) (M.ret []) ρ = .ok [.p (.int (a.length : Int))] ρ := by
  have hl := len_tx a ha
  rw [gCons_eq, bind_eq, bind_eq, gCons_eq, bind_eq, v, rbind_ok, bind_eq, ret_eq, rbind_ok, ret_eq, rbind_ok, c1_p, hl]
  rfl
theorem range_at (n : Nat) (h : n < 1000000) (ρ : Sg) : rg1 [.p (.int (n : Int))] ρ = .ok (rangeL 0 n) ρ := by
  rw [rg1_n n h]; rfl
theorem range_len {a : List Nat} (ha : a.length < 90000) {ρ : Sg} (v : gVar 0 ρ = .ok (.p (.str (Tx a))) ρ) : ((DL.gCons ((DL.gCons (gVar 0) (M.ret [])).bind (c1 pLen)) (M.ret [])).bind rg1) ρ = .ok (rangeL 0 a.length) ρ := by
  rw [bind_eq, range_in ha v, rbind_ok, range_at a.length (by omega)]
theorem slot_v {s : List (Option DL.D)} {m : List Cell} {j : Nat} {d : DL.D} (h : s[j]? = some (some d)) : gVar j ⟨s, m⟩ = .ok d ⟨s, m⟩ := by rw [gVar_def]; simp [h]
theorem cut_run {a b : List Nat} {i i1 : Nat} (h : i ≤ i1) (h1 : i1 ≤ a.length) : cutS (Tx a) (some (i : Int)) (some ((i1 + (run a b i1).length : Nat) : Int)) = Tx ((a.drop i).take (i1 - i) ++ run a b i1) := by
  have hl := run_le a b i1 h1
  rw [tx_cut, show min i a.length = i by omega, show min (i1 + (run a b i1).length) a.length - i = (i1 - i) + (run a b i1).length by omega]
  congr 2
  rw [List.take_add, List.drop_drop, show i + (i1 - i) = i1 by omega]
  congr 1
  exact (List.prefix_iff_eq_take.mp (List.takeWhile_prefix (l := a.drop i1) (· ∈ b))).symm
theorem law_integer_eq (a : List Nat) (i : Nat) (ha : a.length < 90000) (hi : i ≤ a.length) : F__law_integer [.p (.str (Tx a)), .p (.int (i : Int))] [] = .ok (.p (lst2 (match intP a i with
    | .ok (n, e) => .ok (.int n, e)
    | .error e => .error e))) ⟨[], []⟩ := by
  have ha6 : a.length ≤ 1000000 := by omega
  have e : g__law_integer = gSeq (gAsg (gVar 1) (put 2)) (gSeq (gIfE (gB (gBin (fB2 pEq) (oneE 1) (gC (.str "-")))) (gSeq (gAsg (gBin (fAdd false) (gVar 1) (gC (.int 1))) (put 1)) (gSeq (gIfE (gB (gBin (fB2 pEq) (oneE 1) (gC (.str "0")))) (gSeq (gRet ((DL.gCons (gC (.str "bad")) (DL.gCons (gVar 1) (M.ret []))).bind (mkL false))) gNext) gNext) gNext)) gNext)
    (gSeq (gAsg (gVar 1) (put 3)) (gSeq (gFor ((DL.gCons ((DL.gCons (gVar 0) (M.ret [])).bind (c1 pLen)) (M.ret [])).bind rg1) (put 4) (eatB 1 "0123456789"))
    (gSeq (gIfE (gB (gBin (fB2 pEq) (gVar 1) (gVar 3))) (gSeq (gRet ((DL.gCons (gC (.str "bad")) (DL.gCons (gVar 1) (M.ret []))).bind (mkL false))) gNext) gNext)
    (gSeq (gIfE (gAnd (gB (gBin (fB2 pEq) (gBin fIx (gVar 0) (gVar 3)) (gC (.str "0")))) (gB (gBin (fB2 pGt) (gVar 1) (gBin (fAdd false) (gVar 3) (gC (.int 1)))))) (gSeq (gRet ((DL.gCons (gC (.str "bad")) (DL.gCons (gBin (fAdd false) (gVar 3) (gC (.int 1))) (M.ret []))).bind (mkL false))) gNext) gNext)
    (gSeq (gIfE (gB (gBin (fB2 pGt) (gBin fSub (gVar 1) (gVar 3)) (gC (.int 20)))) (gSeq (gRet ((DL.gCons (gC (.str "bad")) (DL.gCons (gBin (fAdd false) (gVar 3) (gC (.int 20))) (M.ret []))).bind (mkL false))) gNext) gNext)
    (gSeq (gRet ((DL.gCons ((DL.gCons ((gVar 0).bind fun a => ((gVar 2).bind asIm).bind fun l => ((gVar 1).bind asIm).bind fun h => fSl false a l h) (M.ret [])).bind (c1 pInt)) (DL.gCons (gVar 1) (M.ret []))).bind (mkL false))) gNext))))))) := rfl
  obtain ⟨mi, hm⟩ : ∃ b, b = isAt a i [45] := ⟨_, rfl⟩
  obtain ⟨i1, h1⟩ : ∃ k, k = at1 a i := ⟨_, rfl⟩
  have hi1 : i1 ≤ a.length := by rw [h1]; exact at1_le hi
  obtain ⟨w, hw⟩ : ∃ l, l = run a dig i1 := ⟨_, rfl⟩
  have hle := run_le a dig i1 hi1
  rw [← hw] at hle
  have out : ∀ x s m, g__law_integer ⟨[some (.p (.str (Tx a))), some (.p (.int (i : Int))), none, none, none], []⟩ = .ok (.rt (.p x)) ⟨s, m⟩ → F__law_integer [.p (.str (Tx a)), .p (.int (i : Int))] [] = .ok (.p x) ⟨[], []⟩ := fun x s m h => (fnF_eq rfl h).trans (by simp [fin, finD])
  have s1 : gAsg (gVar 1) (put 2) ⟨[some (.p (.str (Tx a))), some (.p (.int (i : Int))), none, none, none], []⟩ = .ok .nx ⟨[some (.p (.str (Tx a))), some (.p (.int (i : Int))), some (.p (.int (i : Int))), none, none], []⟩ := rfl
  have c2 := cond_one (a := a) (i := i) (j := 1) (c := 45) (s := [some (.p (.str (Tx a))), some (.p (.int (i : Int))), some (.p (.int (i : Int))), none, none]) (m := []) ha6 s_min rfl rfl
  rw [← hm] at c2
  unfold intP
  rw [← h1, ← hm, ← hw]
  -- the minus, and a zero behind it
  by_cases kz : (mi && isAt a i1 [48]) = true
  · rw [if_pos (by rw [kz]; simp)]
    rw [Bool.and_eq_true] at kz
    have hi2 : i1 = i + 1 := by rw [h1]; unfold at1; rw [← hm, if_pos kz.1]
    have c3 := cond_one (a := a) (i := i + 1) (j := 1) (c := 48) (s := [some (.p (.str (Tx a))), some (.p (.int ((i + 1 : Nat) : Int))), some (.p (.int (i : Int))), none, none]) (m := []) ha6 s_0 rfl rfl
    rw [← hi2, kz.2] at c3
    refine out _ [some (.p (.str (Tx a))), some (.p (.int (i1 : Int))), some (.p (.int (i : Int))), none, none] [] ?_
    · rw [e, gSeq_eq, s1, rbind_ok, sq2_nx, gSeq_eq, gIfE_eq, c2, rbind_ok, if_pos kz.1, gSeq_eq]
      have s2 : gAsg (gBin (fAdd false) (gVar 1) (gC (.int 1))) (put 1) ⟨[some (.p (.str (Tx a))), some (.p (.int (i : Int))), some (.p (.int (i : Int))), none, none], []⟩ = .ok .nx ⟨[some (.p (.str (Tx a))), some (.p (.int (i1 : Int))), some (.p (.int (i : Int))), none, none], []⟩ := by
        rw [hi2]; rfl
      rw [s2, rbind_ok, sq2_nx, gSeq_eq, gIfE_eq, c3, rbind_ok, if_pos rfl, ret_two (g := gC (.str "bad")) (ge := gVar 1) (ρ := ⟨[some (.p (.str (Tx a))), some (.p (.int (i1 : Int))), some (.p (.int (i : Int))), none, none], []⟩) (x := .str "bad") (e := (i1 : Int)) rfl rfl]
      rfl
  have s2 : gIfE (gB (gBin (fB2 pEq) (oneE 1) (gC (.str "-")))) (gSeq (gAsg (gBin (fAdd false) (gVar 1) (gC (.int 1))) (put 1)) (gSeq (gIfE (gB (gBin (fB2 pEq) (oneE 1) (gC (.str "0")))) (gSeq (gRet ((DL.gCons (gC (.str "bad")) (DL.gCons (gVar 1) (M.ret []))).bind (mkL false))) gNext) gNext) gNext)) gNext ⟨[some (.p (.str (Tx a))), some (.p (.int (i : Int))), some (.p (.int (i : Int))), none, none], []⟩ =
      .ok .nx ⟨[some (.p (.str (Tx a))), some (.p (.int (i1 : Int))), some (.p (.int (i : Int))), none, none], []⟩ := by
    rw [gIfE_eq, c2, rbind_ok]
    cases hmi : mi with
    | false =>
      have : i1 = i := by rw [h1]; unfold at1; rw [← hm, hmi, if_neg (by decide)]
      rw [if_neg (by decide), this]; rfl
    | true =>
      have hi2 : i1 = i + 1 := by rw [h1]; unfold at1; rw [← hm, hmi, if_pos rfl]
      rw [hmi] at kz
      have z0 : isAt a i1 [48] = false := by simpa using kz
      have c3 := cond_one (a := a) (i := i1) (j := 1) (c := 48) (s := [some (.p (.str (Tx a))), some (.p (.int (i1 : Int))), some (.p (.int (i : Int))), none, none]) (m := []) ha6 s_0 rfl rfl
      rw [z0] at c3
      have s2 : gAsg (gBin (fAdd false) (gVar 1) (gC (.int 1))) (put 1) ⟨[some (.p (.str (Tx a))), some (.p (.int (i : Int))), some (.p (.int (i : Int))), none, none], []⟩ = .ok .nx ⟨[some (.p (.str (Tx a))), some (.p (.int (i1 : Int))), some (.p (.int (i : Int))), none, none], []⟩ := by
        rw [hi2]; rfl
      rw [if_pos rfl, gSeq_eq, s2, rbind_ok, sq2_nx, gSeq_eq, gIfE_eq, c3, rbind_ok, if_neg (by decide)]
      rfl
  have s3 : gAsg (gVar 1) (put 3) ⟨[some (.p (.str (Tx a))), some (.p (.int (i1 : Int))), some (.p (.int (i : Int))), none, none], []⟩ = .ok .nx ⟨[some (.p (.str (Tx a))), some (.p (.int (i1 : Int))), some (.p (.int (i : Int))), some (.p (.int (i1 : Int))), none], []⟩ := rfl
  obtain ⟨s', q1, q2, q3, q4⟩ := eat_loop (a := a) (b := dig) (z := "0123456789") (j := 1) (q := 4) (m := []) ha s_dig (by decide) (by decide) (by decide) (rangeL 0 a.length) i1 [some (.p (.str (Tx a))), some (.p (.int (i1 : Int))), some (.p (.int (i : Int))), some (.p (.int (i1 : Int))), none] rfl rfl
  rw [rangeL_len, ← hw, show min a.length w.length = w.length by omega] at q3
  have t0 : s'[0]? = some (some (.p (.str (Tx a)))) := by rw [q4 0 (by decide) (by decide)]; rfl
  have t2 : s'[2]? = some (some (.p (.int (i : Int)))) := by rw [q4 2 (by decide) (by decide)]; rfl
  have t3 : s'[3]? = some (some (.p (.int (i1 : Int)))) := by rw [q4 3 (by decide) (by decide)]; rfl
  have s4 : gFor ((DL.gCons ((DL.gCons (gVar 0) (M.ret [])).bind (c1 pLen)) (M.ret [])).bind rg1) (put 4) (eatB 1 "0123456789") ⟨[some (.p (.str (Tx a))), some (.p (.int (i1 : Int))), some (.p (.int (i : Int))), some (.p (.int (i1 : Int))), none], []⟩ = .ok .nx ⟨s', []⟩ := by
    rw [gFor_eq, range_len ha (ρ := ⟨[some (.p (.str (Tx a))), some (.p (.int (i1 : Int))), some (.p (.int (i : Int))), some (.p (.int (i1 : Int))), none], []⟩) rfl, rbind_ok]
    exact q1
  have v0 := slot_v (m := []) t0
  have v1 := slot_v (m := []) q3
  have v2 := slot_v (m := []) t2
  have v3 := slot_v (m := []) t3
  have body : ∀ r, (gSeq (gIfE (gB (gBin (fB2 pEq) (gVar 1) (gVar 3))) (gSeq (gRet ((DL.gCons (gC (.str "bad")) (DL.gCons (gVar 1) (M.ret []))).bind (mkL false))) gNext) gNext)
    (gSeq (gIfE (gAnd (gB (gBin (fB2 pEq) (gBin fIx (gVar 0) (gVar 3)) (gC (.str "0")))) (gB (gBin (fB2 pGt) (gVar 1) (gBin (fAdd false) (gVar 3) (gC (.int 1)))))) (gSeq (gRet ((DL.gCons (gC (.str "bad")) (DL.gCons (gBin (fAdd false) (gVar 3) (gC (.int 1))) (M.ret []))).bind (mkL false))) gNext) gNext)
    (gSeq (gIfE (gB (gBin (fB2 pGt) (gBin fSub (gVar 1) (gVar 3)) (gC (.int 20)))) (gSeq (gRet ((DL.gCons (gC (.str "bad")) (DL.gCons (gBin (fAdd false) (gVar 3) (gC (.int 20))) (M.ret []))).bind (mkL false))) gNext) gNext)
    (gSeq (gRet ((DL.gCons ((DL.gCons ((gVar 0).bind fun a => ((gVar 2).bind asIm).bind fun l => ((gVar 1).bind asIm).bind fun h => fSl false a l h) (M.ret [])).bind (c1 pInt)) (DL.gCons (gVar 1) (M.ret []))).bind (mkL false))) gNext)))) ⟨s', []⟩ = r → g__law_integer ⟨[some (.p (.str (Tx a))), some (.p (.int (i : Int))), none, none, none], []⟩ = r := fun r h => by
    rw [e, gSeq_eq, s1, rbind_ok, sq2_nx, gSeq_eq, s2, rbind_ok, sq2_nx, gSeq_eq, s3, rbind_ok, sq2_nx, gSeq_eq, s4, rbind_ok, sq2_nx]
    exact h
  have wne : (w = []) ↔ isAt a i1 dig = false := by
    constructor
    · intro h
      cases hh : isAt a i1 dig with
      | false => rfl
      | true => exact absurd (hw ▸ h) (run_ne hh)
    · intro h
      rw [hw]
      cases hd : a.drop i1 with
      | nil => unfold run; rw [hd]; rfl
      | cons c r =>
        rw [(isAt_cons hd).1] at h
        unfold run; rw [hd]
        have : ¬ c ∈ dig := by simpa using h
        simp [List.takeWhile_cons, this]
  have d1 : gB (gBin (fB2 pEq) (gVar 1) (gVar 3)) ⟨s', []⟩ = .ok (decide (w = [])) ⟨s', []⟩ := by
    rw [gB_eq, bind_eq, gBin_eq, bind_eq, v1, rbind_ok, bind_eq, v3, rbind_ok, fB2_p, eq_i]
    have : decide (((i1 + w.length : Nat) : Int) = (i1 : Int)) = decide (w = []) := by
      rw [Bool.eq_iff_iff, decide_eq_true_eq, decide_eq_true_eq, ← List.length_eq_zero_iff]; omega
    rw [this]; rfl
  by_cases k1 : w = []
  · rw [if_pos (by rw [wne.mp k1]; rfl)]
    refine out _ s' [] (body _ ?_)
    rw [gSeq_eq, gIfE_eq, d1, rbind_ok, if_pos (decide_eq_true k1), ret_two (g := gC (.str "bad")) (ge := gVar 1) (ρ := ⟨s', []⟩) (x := .str "bad") (e := (i1 : Int)) rfl (by rw [v1, k1]; rfl)]
    rfl
  have zt : isAt a i1 dig = true := by
    cases hh : isAt a i1 dig with
    | true => rfl
    | false => exact absurd (wne.mpr hh) k1
  have mz : (mi && isAt a i1 [48]) = false := by simpa using kz
  rw [zt, mz, if_neg (by decide)]
  have i1lt := isAt_lt zt
  obtain ⟨c, hc⟩ : ∃ c, a[i1]? = some c := ⟨_, List.getElem?_eq_getElem i1lt⟩
  have g1 : ∀ (x y : Int), fB2 pGt (.p (.int x)) (.p (.int y)) = M.ret (.p (.bool (decide (y < x)))) := fun x y => by
    rw [fB2_p, gt_i]
  have p1 : gB (gBin (fB2 pEq) (gBin fIx (gVar 0) (gVar 3)) (gC (.str "0"))) ⟨s', []⟩ = .ok (isAt a i1 [48]) ⟨s', []⟩ := by
    have hin : pEq (.str (Tx [c])) (.str "0") = some (isAt a i1 [48]) := by
      rw [s_0, eq_tx]; unfold isAt; rw [hc]; simp
    rw [gB_eq, bind_eq, gBin_eq, bind_eq, gBin_eq, bind_eq, v0, rbind_ok, bind_eq, v3, rbind_ok, ix_tx (by omega) hc, rbind_ok, gC_eq, bind_eq, ret_eq, rbind_ok, fB2_p, hin]
    rfl
  have p2 : gB (gBin (fB2 pGt) (gVar 1) (gBin (fAdd false) (gVar 3) (gC (.int 1)))) ⟨s', []⟩ = .ok (decide (1 < w.length)) ⟨s', []⟩ := by
    have : decide ((i1 : Int) + 1 < ((i1 + w.length : Nat) : Int)) = decide (1 < w.length) := by
      rw [Bool.eq_iff_iff, decide_eq_true_eq, decide_eq_true_eq]; omega
    rw [gB_eq, bind_eq, gBin_eq, bind_eq, v1, rbind_ok, gBin_eq, bind_eq, bind_eq, v3, rbind_ok]
    show ((fB2 pGt (.p (.int ((i1 + w.length : Nat) : Int))) (.p (.int ((i1 : Int) + 1))) ⟨s', []⟩).bind asB) = _
    rw [g1, this]; rfl
  have d2 : gAnd (gB (gBin (fB2 pEq) (gBin fIx (gVar 0) (gVar 3)) (gC (.str "0")))) (gB (gBin (fB2 pGt) (gVar 1) (gBin (fAdd false) (gVar 3) (gC (.int 1))))) ⟨s', []⟩ = .ok (isAt a i1 [48] && decide (1 < w.length)) ⟨s', []⟩ := by
    unfold gAnd
    rw [bind_eq, p1, rbind_ok]
    cases isAt a i1 [48] with
    | false => rfl
    | true => rw [if_pos rfl, p2]; rfl
  have d3 : gB (gBin (fB2 pGt) (gBin fSub (gVar 1) (gVar 3)) (gC (.int 20))) ⟨s', []⟩ = .ok (decide (20 < w.length)) ⟨s', []⟩ := by
    have : decide ((20 : Int) < ((i1 + w.length : Nat) : Int) - (i1 : Int)) = decide (20 < w.length) := by
      rw [Bool.eq_iff_iff, decide_eq_true_eq, decide_eq_true_eq]; omega
    rw [gB_eq, bind_eq, gBin_eq, bind_eq, gBin_eq, bind_eq, v1, rbind_ok, bind_eq, v3, rbind_ok]
    show ((fB2 pGt (.p (.int (((i1 + w.length : Nat) : Int) - (i1 : Int)))) (.p (.int 20)) ⟨s', []⟩).bind asB) = _
    rw [g1, this]; rfl
  by_cases k2 : (isAt a i1 [48] && decide (1 < w.length)) = true
  · rw [if_pos k2]
    refine out _ s' [] (body _ ?_)
    have ge : gBin (fAdd false) (gVar 3) (gC (.int 1)) ⟨s', []⟩ = .ok (.p (.int ((i1 + 1 : Nat) : Int))) ⟨s', []⟩ := by
      rw [gBin_eq, bind_eq, v3]; rfl
    rw [gSeq_eq, gIfE_eq, d1, rbind_ok, if_neg (by simpa using k1), gn, rbind_ok, sq2_nx, gSeq_eq, gIfE_eq, d2, rbind_ok, if_pos k2, ret_two (g := gC (.str "bad")) (ρ := ⟨s', []⟩) (x := .str "bad") rfl ge]
    rfl
  rw [if_neg k2]
  by_cases k3 : 20 < w.length
  · rw [if_pos k3]
    refine out _ s' [] (body _ ?_)
    have ge : gBin (fAdd false) (gVar 3) (gC (.int 20)) ⟨s', []⟩ = .ok (.p (.int ((i1 + 20 : Nat) : Int))) ⟨s', []⟩ := by
      rw [gBin_eq, bind_eq, v3]; rfl
    rw [gSeq_eq, gIfE_eq, d1, rbind_ok, if_neg (by simpa using k1), gn, rbind_ok, sq2_nx, gSeq_eq, gIfE_eq, d2, rbind_ok, if_neg k2, gn, rbind_ok, sq2_nx, gSeq_eq, gIfE_eq, d3, rbind_ok, if_pos (decide_eq_true k3), ret_two (g := gC (.str "bad")) (ρ := ⟨s', []⟩) (x := .str "bad") rfl ge]
    rfl
  rw [if_neg k3]
  have wd : ∀ c ∈ w, c ∈ dig := by rw [hw]; exact run_all a dig i1
  have cut : cutS (Tx a) (some (i : Int)) (some ((i1 + w.length : Nat) : Int)) = Tx (if mi = true then 45 :: w else w) := by
    have := cut_run (a := a) (b := dig) (i := i) (i1 := i1) (by rw [h1]; unfold at1; split <;> omega) hi1
    rw [← hw] at this
    rw [this]
    cases hmi : mi with
    | false =>
      have : i1 = i := by rw [h1]; unfold at1; rw [← hm, hmi, if_neg (by decide)]
      rw [this, Nat.sub_self]; rfl
    | true =>
      have hi2 : i1 = i + 1 := by rw [h1]; unfold at1; rw [← hm, hmi, if_pos rfl]
      have o := one_is a i 45
      rw [← hm, hmi, decide_eq_true_eq] at o
      rw [hi2, show i + 1 - i = 1 by omega, o]; rfl
  have iv : pInt (.str (Tx (if mi = true then 45 :: w else w))) = some (.int (if mi = true then - val w else val w)) := by
    cases mi with
    | false => exact int_dig (w := w) wd k1 (by omega)
    | true => exact int_neg (w := w) wd k1 (by omega)
  have gs : ((DL.gCons ((gVar 0).bind fun a => ((gVar 2).bind asIm).bind fun l => ((gVar 1).bind asIm).bind fun h => fSl false a l h) (M.ret [])).bind (c1 pInt)) ⟨s', []⟩ = .ok (.p (.int (if mi = true then - val w else val w))) ⟨s', []⟩ := by
    have hl : decide ((Tx a).length ≤ sizeLine) = true := decide_eq_true (by rw [tx_len, sizeLine_eq]; omega)
    have f : fSl false (.p (.str (Tx a))) (some (i : Int)) (some ((i1 + w.length : Nat) : Int)) ⟨s', []⟩ = .ok (.p (.str (Tx (if mi = true then 45 :: w else w)))) ⟨s', []⟩ := by
      show ifM (decide ((Tx a).length ≤ sizeLine)) (M.ret (DL.D.p (.str (cutS (Tx a) (some (i : Int)) (some ((i1 + w.length : Nat) : Int)))))) _ = _
      rw [hl, cut]; rfl
    rw [bind_eq, gCons_eq, bind_eq, bind_eq, v0, rbind_ok, bind_eq, bind_eq, v2, rbind_ok]
    show ((((gVar 1).bind asIm).bind fun h => fSl false (.p (.str (Tx a))) (some (i : Int)) h) ⟨s', []⟩ |>.bind _).bind _ = _
    rw [bind_eq, bind_eq, v1, rbind_ok]
    show ((fSl false (.p (.str (Tx a))) (some (i : Int)) (some ((i1 + w.length : Nat) : Int)) ⟨s', []⟩).bind _).bind _ = _
    rw [f, rbind_ok, bind_eq, ret_eq, rbind_ok, ret_eq, rbind_ok, c1_p, iv]
    rfl
  refine out _ s' [] (body _ ?_)
  rw [gSeq_eq, gIfE_eq, d1, rbind_ok, if_neg (by simpa using k1), gn, rbind_ok, sq2_nx, gSeq_eq, gIfE_eq, d2, rbind_ok, if_neg k2, gn, rbind_ok, sq2_nx, gSeq_eq, gIfE_eq, d3, rbind_ok, if_neg (by simpa using k3), gn, rbind_ok, sq2_nx, ret_two (ge := gVar 1) (ρ := ⟨s', []⟩) gs v1]
  rfl
end
end K20
namespace K20
open PySem PySem.Spec PyProof.Rows L2 DL
section
theorem cond_v {j : Nat} {w c : List Nat} {z : Str} {s : List (Option DL.D)} {m : List Cell} (hz : z = Tx c) (hj : s[j]? = some (some (.p (.str (Tx w))))) :
    gB (gBin (fB2 pEq) (gVar j) (gC (.str z))) ⟨s, m⟩ = .ok (decide (w = c)) ⟨s, m⟩ := by
  rw [gB_eq, bind_eq, gBin_eq, bind_eq, slot_v hj, rbind_ok, gC_eq, bind_eq, ret_eq, rbind_ok, hz, fB2_p, eq_tx]
  rfl
theorem cond_i {j : Nat} {x y : Int} {s : List (Option DL.D)} {m : List Cell} (hj : s[j]? = some (some (.p (.int x)))) :
    gB (gBin (fB2 pEq) (gVar j) (gC (.int y))) ⟨s, m⟩ = .ok (decide (x = y)) ⟨s, m⟩ := by
  rw [gB_eq, bind_eq, gBin_eq, bind_eq, slot_v hj, rbind_ok, gC_eq, bind_eq, ret_eq, rbind_ok, fB2_p, eq_i]
  rfl
theorem inc_v {j : Nat} {x : Nat} {k : Nat} {s : List (Option DL.D)} {m : List Cell} (hj : s[j]? = some (some (.p (.int (x : Int))))) :
    gBin (fAdd false) (gVar j) (gC (.int (k : Int))) ⟨s, m⟩ = .ok (.p (.int ((x + k : Nat) : Int))) ⟨s, m⟩ := by
  rw [gBin_eq, bind_eq, slot_v hj]; rfl
/-- the law's cut of a text between two slots -/
def cutE (j k : Nat) : M DL.D := (gVar 0).bind fun a => ((gVar j).bind asIm).bind fun l => ((gVar k).bind asIm).bind fun h => fSl false a l h
theorem cutE_eq {a : List Nat} {i e j k : Nat} {s : List (Option DL.D)} {m : List Cell} (ha : a.length ≤ 1000000) (h0 : s[0]? = some (some (.p (.str (Tx a))))) (hj : s[j]? = some (some (.p (.int (i : Int))))) (hk : s[k]? = some (some (.p (.int (e : Int))))) :
    cutE j k ⟨s, m⟩ = .ok (.p (.str (cutS (Tx a) (some (i : Int)) (some (e : Int))))) ⟨s, m⟩ := by
  have hl : decide ((Tx a).length ≤ sizeLine) = true := decide_eq_true (by rw [tx_len, sizeLine_eq]; omega)
  unfold cutE
  rw [bind_eq, slot_v h0, rbind_ok, bind_eq, bind_eq, slot_v hj, rbind_ok]
  show (((gVar k).bind asIm).bind fun h => fSl false (.p (.str (Tx a))) (some (i : Int)) h) ⟨s, m⟩ = _
  rw [bind_eq, bind_eq, slot_v hk, rbind_ok]
  show ifM (decide ((Tx a).length ≤ sizeLine)) (M.ret (DL.D.p (.str (cutS (Tx a) (some (i : Int)) (some (e : Int)))))) _ = _
  rw [hl]; rfl
theorem call_pure {F : FS} {n : Nat} {x : PyData} {ρ : Sg} (ps : List PyData) (hn : ps.length = n) (hF : F (ps.map DL.D.p) [] = .ok (.p x) ⟨[], []⟩) :
    callM n F (ps.map DL.D.p) ρ = .ok (.p x) ρ := by
  unfold callM
  rw [if_pos (by simp; omega), locs_p]
  simp only [cellsAt]
  rw [ren_p]
  simp [hF, backD, setAll]
theorem ret_call {F : FS} {gs : M (List DL.D)} {n : Nat} {x : PyData} {ρ : Sg} (ps : List PyData) (hn : ps.length = n) (hg : gs ρ = .ok (ps.map DL.D.p) ρ) (hF : F (ps.map DL.D.p) [] = .ok (.p x) ⟨[], []⟩) :
    gSeq (gRet (gs.bind (callM n F))) gNext ρ = .ok (.rt (.p x)) ρ := by
  rw [gSeq_eq, gRet_eq, bind_eq, bind_eq, hg, rbind_ok, call_pure ps hn hF]; rfl
theorem law_read_eq {F : FS} (a : List Nat) (i d : Nat) (ha : a.length < 90000) (hi : i ≤ a.length) (hd : d ≤ 24)
    (hF : isAt a i [40] = true → d < 24 → F [.p (.str (Tx a)), .p (.int ((i + 1 : Nat) : Int)), .p (.int ((d + 1 : Nat) : Int))] [] = .ok (.p (lst2 (rowsP (termP a (24 - (d + 1))) a (a.length + 1) (i + 1) []))) ⟨[], []⟩) :
    fnF 3 6 (g__law_read F) [.p (.str (Tx a)), .p (.int (i : Int)), .p (.int (d : Int))] [] = .ok (.p (lst2 (termP a (24 - d) i))) ⟨[], []⟩ := by
  have ha6 : a.length ≤ 1000000 := by omega
  have e : g__law_read F = gSeq (gAsg (oneE 1) (put 3)) (gSeq (gIfE (gB (gBin (fB2 pEq) (gVar 3) (gC (.str "(")))) (gSeq (gIfE (gB (gBin (fB2 pEq) (gVar 2) (gC (.int 24)))) (gSeq (gRet ((DL.gCons (gC (.str "bad")) (DL.gCons (gVar 1) (M.ret []))).bind (mkL false))) gNext) gNext)
    (gSeq (gRet ((DL.gCons (gVar 0) (DL.gCons (gBin (fAdd false) (gVar 1) (gC (.int 1))) (DL.gCons (gBin (fAdd false) (gVar 2) (gC (.int 1))) (M.ret [])))).bind (callM 3 F))) gNext)) gNext)
    (gSeq (gIfE (gB (gBin (fB2 pEq) (gVar 3) (gC (.str ".")))) (gSeq (gRet ((DL.gCons (gC (.str "")) (DL.gCons (gBin (fAdd false) (gVar 1) (gC (.int 1))) (M.ret []))).bind (mkL false))) gNext) gNext)
    (gSeq (gIfE (gAnd (gB (gBin (fB2 pNe) (gVar 3) (gC (.str "")))) (gB (gBin (fB2 pIn) (gVar 3) (gC (.str "abcdefghijklmnopqrstuvwxyz"))))) (gSeq (gAsg (gVar 1) (put 4))
    (gSeq (gFor ((DL.gCons ((DL.gCons (gVar 0) (M.ret [])).bind (c1 pLen)) (M.ret [])).bind rg1) (put 5) (eatB 4 "abcdefghijklmnopqrstuvwxyz"))
    (gSeq (gRet ((DL.gCons (gIfE (gB (gBin (fB2 pEq) (cutE 1 4) (gC (.str "none")))) (gC .none) (cutE 1 4)) (DL.gCons (gVar 4) (M.ret []))).bind (mkL false))) gNext))) gNext)
    (gSeq (gRet ((DL.gCons (gVar 0) (DL.gCons (gVar 1) (M.ret []))).bind (callM 2 F__law_integer))) gNext)))) := rfl
  obtain ⟨f, hf⟩ : ∃ l, l = (a.drop i).take 1 := ⟨_, rfl⟩
  have fi : ∀ c, decide (f = [c]) = isAt a i [c] := fun c => by rw [hf]; exact one_is a i c
  have out : ∀ x s m, g__law_read F ⟨[some (.p (.str (Tx a))), some (.p (.int (i : Int))), some (.p (.int (d : Int))), none, none, none], []⟩ = .ok (.rt (.p x)) ⟨s, m⟩ → fnF 3 6 (g__law_read F) [.p (.str (Tx a)), .p (.int (i : Int)), .p (.int (d : Int))] [] = .ok (.p x) ⟨[], []⟩ := fun x s m h => (fnF_eq rfl h).trans (by simp [fin, finD])
  obtain ⟨s0, hs0⟩ : ∃ s : List (Option DL.D), s = [some (.p (.str (Tx a))), some (.p (.int (i : Int))), some (.p (.int (d : Int))), some (.p (.str (Tx f))), none, none] := ⟨_, rfl⟩
  have s1 : gAsg (oneE 1) (put 3) ⟨[some (.p (.str (Tx a))), some (.p (.int (i : Int))), some (.p (.int (d : Int))), none, none, none], []⟩ = .ok .nx ⟨s0, []⟩ := by
    rw [gAsg_eq, bind_eq, oneE_eq ha6 rfl rfl, rbind_ok, ← hf, hs0]; rfl
  have t0 : s0[0]? = some (some (.p (.str (Tx a)))) := by rw [hs0]; rfl
  have t1 : s0[1]? = some (some (.p (.int (i : Int)))) := by rw [hs0]; rfl
  have t2 : s0[2]? = some (some (.p (.int (d : Int)))) := by rw [hs0]; rfl
  have t3 : s0[3]? = some (some (.p (.str (Tx f)))) := by rw [hs0]; rfl
  have c2 := cond_v (m := []) s_op t3
  rw [fi] at c2
  by_cases k1 : isAt a i [40] = true
  · have c3 := cond_i (m := []) (y := 24) t2
    by_cases kd : d = 24
    · have hr : termP a (24 - d) i = .error i := by rw [kd]; show (if isAt a i [40] = true then _ else _) = _; rw [if_pos k1]
      rw [hr]
      refine out _ s0 [] ?_
      rw [e, gSeq_eq, s1, rbind_ok, sq2_nx, gSeq_eq, gIfE_eq, c2, rbind_ok, if_pos k1, gSeq_eq, gIfE_eq, c3, rbind_ok, if_pos (decide_eq_true (by omega)), ret_two (g := gC (.str "bad")) (ge := gVar 1) (ρ := ⟨s0, []⟩) (x := .str "bad") (e := (i : Int)) rfl (slot_v t1)]
      rfl
    · have hr : termP a (24 - d) i = rowsP (termP a (24 - (d + 1))) a (a.length + 1) (i + 1) [] := by
        rw [show 24 - d = (24 - (d + 1)) + 1 by omega]
        show (if isAt a i [40] = true then _ else _) = _; rw [if_pos k1]
      rw [hr]
      refine out _ s0 [] ?_
      have rc := ret_call (F := F) (gs := DL.gCons (gVar 0) (DL.gCons (gBin (fAdd false) (gVar 1) (gC (.int 1))) (DL.gCons (gBin (fAdd false) (gVar 2) (gC (.int 1))) (M.ret [])))) (n := 3) (ρ := ⟨s0, []⟩) [.str (Tx a), .int ((i + 1 : Nat) : Int), .int ((d + 1 : Nat) : Int)] rfl (by rw [hs0]; rfl) (hF k1 (by omega))
      rw [e, gSeq_eq, s1, rbind_ok, sq2_nx, gSeq_eq, gIfE_eq, c2, rbind_ok, if_pos k1, gSeq_eq, gIfE_eq, c3, rbind_ok, if_neg (by simp only [decide_eq_true_eq]; omega), gn, rbind_ok, sq2_nx, rc]
      rfl
  have hr : termP a (24 - d) i = simpleP a i := by
    cases 24 - d with
    | zero => show (if isAt a i [40] = true then _ else _) = _; rw [if_neg k1]
    | succ n => show (if isAt a i [40] = true then _ else _) = _; rw [if_neg k1]
  rw [hr]
  have c4 := cond_v (m := []) s_dot t3
  rw [fi] at c4
  unfold simpleP
  by_cases k2 : isAt a i [46] = true
  · rw [if_pos k2]
    refine out _ s0 [] ?_
    have ge : gBin (fAdd false) (gVar 1) (gC (.int 1)) ⟨s0, []⟩ = .ok (.p (.int ((i + 1 : Nat) : Int))) ⟨s0, []⟩ := inc_v (k := 1) t1
    rw [e, gSeq_eq, s1, rbind_ok, sq2_nx, gSeq_eq, gIfE_eq, c2, rbind_ok, if_neg k1, gn, rbind_ok, sq2_nx, gSeq_eq, gIfE_eq, c4, rbind_ok, if_pos k2, ret_two (g := gC (.str "")) (ρ := ⟨s0, []⟩) (x := .str "") (e := ((i + 1 : Nat) : Int)) rfl ge]
    rfl
  rw [if_neg k2]
  have c5 : gAnd (gB (gBin (fB2 pNe) (gVar 3) (gC (.str "")))) (gB (gBin (fB2 pIn) (gVar 3) (gC (.str "abcdefghijklmnopqrstuvwxyz")))) ⟨s0, []⟩ = .ok (isAt a i sml) ⟨s0, []⟩ := by
    have n1 : pNe (.str (Tx f)) (.str "") = some (!decide (f = [])) := by
      have : ("" : Str) = Tx [] := rfl
      have q := eq_tx f []
      unfold pEq at q; unfold pNe
      rw [this]
      simp_all [PyData.depth]
    have b1 : gB (gBin (fB2 pNe) (gVar 3) (gC (.str ""))) ⟨s0, []⟩ = .ok (!decide (f = [])) ⟨s0, []⟩ := by
      rw [gB_eq, bind_eq, gBin_eq, bind_eq, slot_v t3, rbind_ok, gC_eq, bind_eq, ret_eq, rbind_ok, fB2_p, n1]; rfl
    unfold gAnd
    rw [bind_eq, b1, rbind_ok]
    rw [take1] at hf
    unfold isAt
    cases h : a[i]? with
    | none => rw [h] at hf; rw [hf]; rfl
    | some c =>
      rw [h] at hf
      have hin : pIn (.str (Tx [c])) (.str (Tx sml)) = some (decide (c ∈ sml)) := congrArg some (SX.in_one sml c)
      have hf : f = [c] := hf
      rw [hf, if_pos (by rfl), gB_eq, bind_eq, gBin_eq, bind_eq, slot_v t3, rbind_ok, gC_eq, bind_eq, ret_eq, rbind_ok, hf, s_sml, fB2_p, hin]; rfl
  by_cases k3 : isAt a i sml = true
  · rw [if_pos k3]
    obtain ⟨w, hw⟩ : ∃ l, l = run a sml i := ⟨_, rfl⟩
    rw [← hw]
    have hle := run_le a sml i hi
    rw [← hw] at hle
    have s2 : gAsg (gVar 1) (put 4) ⟨s0, []⟩ = .ok .nx ⟨s0.set 4 (some (.p (.int (i : Int)))), []⟩ := by rw [hs0]; rfl
    have u0 : (s0.set 4 (some (.p (.int (i : Int)))))[0]? = some (some (.p (.str (Tx a)))) := by rw [hs0]; rfl
    have u4 : (s0.set 4 (some (.p (.int (i : Int)))))[4]? = some (some (.p (.int (i : Int)))) := by rw [hs0]; rfl
    have u1 : (s0.set 4 (some (.p (.int (i : Int)))))[1]? = some (some (.p (.int (i : Int)))) := by rw [hs0]; rfl
    obtain ⟨s', q1, q2, q3, q4⟩ := eat_loop (a := a) (b := sml) (z := "abcdefghijklmnopqrstuvwxyz") (j := 4) (q := 5) (m := []) ha s_sml (by decide) (by decide) (by decide) (rangeL 0 a.length) i (s0.set 4 (some (.p (.int (i : Int))))) u0 u4
    rw [rangeL_len, ← hw, show min a.length w.length = w.length by omega] at q3
    have w0 : s'[0]? = some (some (.p (.str (Tx a)))) := by rw [q4 0 (by decide) (by decide)]; exact u0
    have w1 : s'[1]? = some (some (.p (.int (i : Int)))) := by rw [q4 1 (by decide) (by decide)]; exact u1
    have s3 : gFor ((DL.gCons ((DL.gCons (gVar 0) (M.ret [])).bind (c1 pLen)) (M.ret [])).bind rg1) (put 5) (eatB 4 "abcdefghijklmnopqrstuvwxyz") ⟨s0.set 4 (some (.p (.int (i : Int)))), []⟩ = .ok .nx ⟨s', []⟩ := by
      rw [gFor_eq, range_len ha (slot_v u0), rbind_ok]
      exact q1
    have ct : cutS (Tx a) (some (i : Int)) (some ((i + w.length : Nat) : Int)) = Tx w := by
      have := cut_run (a := a) (b := sml) (i := i) (i1 := i) (by omega) hi
      rw [← hw] at this
      rw [this, Nat.sub_self]; rfl
    have v := cutE_eq (m := []) ha6 w0 w1 q3
    rw [ct] at v
    have cn : gB (gBin (fB2 pEq) (cutE 1 4) (gC (.str "none"))) ⟨s', []⟩ = .ok (decide (w = [110, 111, 110, 101])) ⟨s', []⟩ := by
      rw [gB_eq, bind_eq, gBin_eq, bind_eq, v, rbind_ok, gC_eq, bind_eq, ret_eq, rbind_ok, s_none, fB2_p, eq_tx]; rfl
    have gi : gIfE (gB (gBin (fB2 pEq) (cutE 1 4) (gC (.str "none")))) (gC .none) (cutE 1 4) ⟨s', []⟩ = .ok (.p (wordP w)) ⟨s', []⟩ := by
      rw [gIfE_eq, cn, rbind_ok]
      unfold wordP
      by_cases kn : w = [110, 111, 110, 101]
      · rw [if_pos (decide_eq_true kn), if_pos kn]; rfl
      · rw [if_neg (by simpa using kn), if_neg kn, v]
    refine out _ s' [] ?_
    rw [e, gSeq_eq, s1, rbind_ok, sq2_nx, gSeq_eq, gIfE_eq, c2, rbind_ok, if_neg k1, gn, rbind_ok, sq2_nx, gSeq_eq, gIfE_eq, c4, rbind_ok, if_neg k2, gn, rbind_ok, sq2_nx, gSeq_eq, gIfE_eq, c5, rbind_ok, if_pos k3, gSeq_eq, s2, rbind_ok, sq2_nx, gSeq_eq, s3, rbind_ok, sq2_nx, ret_two gi (slot_v q3)]
    rfl
  rw [if_neg k3]
  refine out _ s0 [] ?_
  have rc := ret_call (F := F__law_integer) (gs := DL.gCons (gVar 0) (DL.gCons (gVar 1) (M.ret []))) (n := 2) (ρ := ⟨s0, []⟩) [.str (Tx a), .int (i : Int)] rfl (by rw [hs0]; rfl) (law_integer_eq a i ha hi)
  rw [e, gSeq_eq, s1, rbind_ok, sq2_nx, gSeq_eq, gIfE_eq, c2, rbind_ok, if_neg k1, gn, rbind_ok, sq2_nx, gSeq_eq, gIfE_eq, c4, rbind_ok, if_neg k2, gn, rbind_ok, sq2_nx, gSeq_eq, gIfE_eq, c5, rbind_ok, if_neg k3, gn, rbind_ok, sq2_nx, rc]
  try (cases intP a i <;> rfl)
end
end K20
namespace K20
open PySem PySem.Spec PyProof.Rows L2 DL
section
theorem ne_tx (w v : List Nat) : pNe (.str (Tx w)) (.str (Tx v)) = some (!decide (w = v)) := by
  have q := eq_tx w v
  unfold pEq at q; unfold pNe
  simp_all [PyData.depth]
theorem condn_one {a : List Nat} {i j c : Nat} {z : Str} {s : List (Option DL.D)} {m : List Cell} (ha : a.length ≤ 1000000) (hz : z = Tx [c]) (h0 : s[0]? = some (some (.p (.str (Tx a))))) (hj : s[j]? = some (some (.p (.int (i : Int))))) :
    gB (gBin (fB2 pNe) (oneE j) (gC (.str z))) ⟨s, m⟩ = .ok (!isAt a i [c]) ⟨s, m⟩ := by
  rw [gB_eq, bind_eq, gBin_eq, bind_eq, oneE_eq ha h0 hj, rbind_ok, gC_eq, bind_eq, ret_eq, rbind_ok, hz, fB2_p, ne_tx, one_is]
  rfl
def bad1 : M Fl := gSeq (gRet ((DL.gCons (gC (.str "bad")) (DL.gCons (gVar 1) (M.ret []))).bind (mkL false))) gNext
def entB (F : FS) : M Fl := gSeq (gIfE (gB (gBin (fB2 pEq) (oneE 1) (gC (.str ")")))) (gSeq (gRet ((DL.gCons ((DL.gCons (gVar 3) (M.ret [])).bind cTup) (DL.gCons (gBin (fAdd false) (gVar 1) (gC (.int 1))) (M.ret []))).bind (mkL false))) gNext) gNext)
 (gSeq (gIfE (gTru (gVar 3)) (gSeq (gIfE (gB (gBin (fB2 pNe) (oneE 1) (gC (.str " ")))) bad1 gNext) (gSeq (gAsg (gBin (fAdd false) (gVar 1) (gC (.int 1))) (put 1)) gNext)) gNext)
 (gSeq (gAsg ((DL.gCons (gVar 0) (DL.gCons (gVar 1) (DL.gCons (gVar 2) (M.ret [])))).bind (callM 3 F)) (gSeqG 2 (gsCons (put 5) (gsCons (put 6) gsNil))))
 (gSeq (gIfE (gAnd (gB (gBin (fB2 pEq) (gVar 5) (gC (.str "bad")))) (gTru ((gVar 5).bind (fIsa PyData.isStr)))) (gSeq (gRet ((DL.gCons (gVar 5) (DL.gCons (gVar 6) (M.ret []))).bind (mkL false))) gNext) gNext)
 (gSeq (gExpr (gM (gVar 3) (DL.gCons (gVar 5) (M.ret [])) mAppend))
 (gSeq (gAsg (gVar 6) (put 1)) gNext)))))
theorem s_bad : ("bad" : Str) = Tx [98, 97, 100] := by decide +kernel
theorem depth_str (x : Str) : (PyData.str x).depth ≤ 60 := by simp [PyData.depth]
def isBad : PyData → Bool
  | .str x => decide (x = "bad")
  | _ => false
theorem isBad_bad : isBad (.str "bad") = true := by unfold isBad; simp
theorem eq_bad (t : PyData) : ∃ b, pEq t (.str "bad") = some b ∧ (b && t.isStr) = isBad t := by
  unfold pEq
  have h : min t.depth (PyData.str "bad").depth ≤ lowD := Nat.le_trans (Nat.min_le_right _ _) (depth_str _)
  rw [if_pos h]
  refine ⟨_, rfl, ?_⟩
  cases t with
  | str x =>
    have : PyData.eqv (.str x) (.str "bad") = (x == "bad") := by simp [PyData.eqv]
    have e : (x == "bad") = decide (x = "bad") := by
      have q := SX.S_beq_eq (a := x.cps.toList) (b := [98, 97, 100])
      rw [SX.S_tl x] at q
      rw [s_bad]
      rw [q, Bool.eq_iff_iff, decide_eq_true_eq, decide_eq_true_eq]
      constructor
      · intro h; rw [← SX.S_tl x, h]
      · intro h; rw [h]
    rw [this, e]
    simp [PyData.isStr, isBad]
  | _ => simp [PyData.isStr, isBad]
theorem gAnd_bad {ρ : Sg} {t : PyData} (h : gVar 5 ρ = .ok (.p t) ρ) : gAnd (gB (gBin (fB2 pEq) (gVar 5) (gC (.str "bad")))) (gTru ((gVar 5).bind (fIsa PyData.isStr))) ρ = .ok (isBad t) ρ := by
  obtain ⟨b, h1, h2⟩ := eq_bad t
  unfold gAnd
  rw [bind_eq, gB_eq, bind_eq, gBin_eq, bind_eq, h, rbind_ok, gC_eq, bind_eq, ret_eq, rbind_ok, fB2_p, h1]
  rw [← h2]
  cases b with
  | false => rfl
  | true =>
    show (if true = true then gTru ((gVar 5).bind (fIsa PyData.isStr)) else M.ret false) ρ = _
    rw [if_pos rfl, gTru_eq, bind_eq, bind_eq, h, rbind_ok]
    rfl
/-- no text "bad" -/
def NoBad (r : Except Nat (PyData × Nat)) : Prop := ∀ t e, r = .ok (t, e) → t ≠ .str "bad"
theorem call3 {F : FS} {a : List Nat} {i d : Nat} {x : PyData} {s : List (Option DL.D)} {m : List Cell} (h0 : s[0]? = some (some (.p (.str (Tx a))))) (h1 : s[1]? = some (some (.p (.int (i : Int))))) (h2 : s[2]? = some (some (.p (.int (d : Int)))))
    (hF : F [.p (.str (Tx a)), .p (.int (i : Int)), .p (.int (d : Int))] [] = .ok (.p x) ⟨[], []⟩) : ((DL.gCons (gVar 0) (DL.gCons (gVar 1) (DL.gCons (gVar 2) (M.ret [])))).bind (callM 3 F)) ⟨s, m⟩ = .ok (.p x) ⟨s, m⟩ := by
  have e : DL.gCons (gVar 0) (DL.gCons (gVar 1) (DL.gCons (gVar 2) (M.ret []))) ⟨s, m⟩ = .ok ([.str (Tx a), .int (i : Int), .int (d : Int)].map DL.D.p) ⟨s, m⟩ := by
    rw [gCons_eq, bind_eq, slot_v h0, rbind_ok, bind_eq, gCons_eq, bind_eq, slot_v h1, rbind_ok, bind_eq, gCons_eq, bind_eq, slot_v h2]
    rfl
  rw [bind_eq, e, rbind_ok, call_pure (F := F) (n := 3) [.str (Tx a), .int (i : Int), .int (d : Int)] rfl hF]
theorem two_g (x : PyData) (e : Int) (s : List (Option DL.D)) (m : List Cell) : gSeqG 2 (gsCons (put 5) (gsCons (put 6) gsNil)) (.p (two x e)) ⟨s, m⟩ = .ok () ⟨(s.set 5 (some (.p x))).set 6 (some (.p (.int e))), m⟩ := rfl
theorem ent_turn {F : FS} {T : Nat → Except Nat (PyData × Nat)} {a : List Nat} {d : Nat} (ha : a.length < 90000) (hF : ∀ j, j ≤ a.length → F [.p (.str (Tx a)), .p (.int (j : Int)), .p (.int (d : Int))] [] = .ok (.p (lst2 (T j))) ⟨[], []⟩) (hb : ∀ j, j ≤ a.length → NoBad (T j))
    (i : Nat) (hi : i ≤ a.length) (xs : List PyData) (hx : xs.length < 100000) (x4 x5 x6 : Option DL.D) :
    ∃ s, entB F ⟨[some (.p (.str (Tx a))), some (.p (.int (i : Int))), some (.p (.int (d : Int))), some (.loc 0), x4, x5, x6], [.lst xs]⟩ =
      if isAt a i [41] = true then .ok (.rt (.p (two (.tuple xs) ((i + 1 : Nat) : Int)))) ⟨s, [.lst xs]⟩
      else if xs ≠ [] ∧ isAt a i [32] = false then .ok (.rt (.p (two (.str "bad") (i : Int)))) ⟨s, [.lst xs]⟩
      else match T (if xs = [] then i else i + 1) with
        | .ok (t, e) => .ok .nx ⟨[some (.p (.str (Tx a))), some (.p (.int (e : Int))), some (.p (.int (d : Int))), some (.loc 0), x4, some (.p t), some (.p (.int (e : Int)))], [.lst (xs ++ [t])]⟩
        | .error e => .ok (.rt (.p (two (.str "bad") (e : Int)))) ⟨s, [.lst xs]⟩ := by
  have ha6 : a.length ≤ 1000000 := by omega
  obtain ⟨s0, hs0⟩ : ∃ s : Nat → List (Option DL.D), s = fun (i : Nat) => [some (.p (.str (Tx a))), some (.p (.int (i : Int))), some (.p (.int (d : Int))), some (.loc 0), x4, x5, x6] := ⟨_, rfl⟩
  have t0 : ∀ i, (s0 i)[0]? = some (some (.p (.str (Tx a)))) := fun i => by rw [hs0]; rfl
  have t1 : ∀ i, (s0 i)[1]? = some (some (.p (.int (i : Int)))) := fun i => by rw [hs0]; rfl
  have t2 : ∀ i, (s0 i)[2]? = some (some (.p (.int (d : Int)))) := fun i => by rw [hs0]; rfl
  have t3 : ∀ i, (s0 i)[3]? = some (some (.loc 0)) := fun i => by rw [hs0]; rfl
  have e0 : ([some (.p (.str (Tx a))), some (.p (.int (i : Int))), some (.p (.int (d : Int))), some (.loc 0), x4, x5, x6] : List (Option DL.D)) = s0 i := by rw [hs0]
  rw [e0]
  have c1 := cond_one (m := [.lst xs]) ha6 s_cl (t0 i) (t1 i)
  have c2 := condn_one (m := [.lst xs]) ha6 s_sp (t0 i) (t1 i)
  have cL : gTru (gVar 3) ⟨s0 i, [.lst xs]⟩ = .ok (!xs.isEmpty) ⟨s0 i, [.lst xs]⟩ := by
    rw [gTru_eq, bind_eq, slot_v (t3 i), rbind_ok]; exact tru_loc rfl
  have hi1 : gBin (fAdd false) (gVar 1) (gC (.int 1)) ⟨s0 i, [.lst xs]⟩ = .ok (.p (.int ((i + 1 : Nat) : Int))) ⟨s0 i, [.lst xs]⟩ := inc_v (k := 1) (t1 i)
  by_cases k1 : isAt a i [41] = true
  · refine ⟨s0 i, ?_⟩
    rw [if_pos k1]
    have hc : ((DL.gCons (gVar 3) (M.ret [])).bind cTup) ⟨s0 i, [.lst xs]⟩ = .ok (.p (.tuple xs)) ⟨s0 i, [.lst xs]⟩ := by
      rw [bind_eq, gCons_eq, bind_eq, slot_v (t3 i)]; rfl
    unfold entB
    rw [gSeq_eq, gIfE_eq, c1, rbind_ok, if_pos k1, ret_two hc hi1]
    rfl
  · by_cases k2 : xs ≠ [] ∧ isAt a i [32] = false
    · refine ⟨s0 i, ?_⟩
      rw [if_neg k1, if_pos k2]
      have hl : xs.isEmpty = false := by
        cases xs with
        | nil => exact absurd rfl k2.1
        | cons _ _ => rfl
      unfold entB bad1
      rw [gSeq_eq, gIfE_eq, c1, rbind_ok, if_neg k1, gn, rbind_ok, sq2_nx, gSeq_eq, gIfE_eq, cL, rbind_ok, if_pos (by rw [hl]; rfl), gSeq_eq, gIfE_eq, c2, rbind_ok, if_pos (by rw [k2.2]; rfl), ret_two (g := gC (.str "bad")) (ge := gVar 1) (ρ := ⟨s0 i, [.lst xs]⟩) (x := .str "bad") (e := (i : Int)) rfl (slot_v (t1 i))]
      rfl
    · obtain ⟨i', hi'⟩ : ∃ j, j = if xs = [] then i else i + 1 := ⟨_, rfl⟩
      have hle : i' ≤ a.length := by
        rw [hi']
        by_cases hx : xs = []
        · rw [if_pos hx]; exact hi
        · rw [if_neg hx]
          have : isAt a i [32] = true := by
            cases hb : isAt a i [32] with
            | true => rfl
            | false => exact absurd ⟨hx, hb⟩ k2
          have := isAt_lt this
          omega
      have st2 : gIfE (gTru (gVar 3)) (gSeq (gIfE (gB (gBin (fB2 pNe) (oneE 1) (gC (.str " ")))) bad1 gNext) (gSeq (gAsg (gBin (fAdd false) (gVar 1) (gC (.int 1))) (put 1)) gNext)) gNext ⟨s0 i, [.lst xs]⟩ = .ok .nx ⟨s0 i', [.lst xs]⟩ := by
        rw [gIfE_eq, cL, rbind_ok]
        by_cases hx : xs = []
        · subst hx
          rw [if_pos rfl] at hi'
          rw [hi']; rfl
        · have hl : xs.isEmpty = false := by
            cases xs with
            | nil => exact absurd rfl hx
            | cons _ _ => rfl
          have k3 : isAt a i [32] = true := by
            cases hb : isAt a i [32] with
            | true => rfl
            | false => exact absurd ⟨hx, hb⟩ k2
          rw [if_neg hx] at hi'
          rw [if_pos (by rw [hl]; rfl), gSeq_eq, gIfE_eq, c2, rbind_ok, if_neg (by rw [k3]; decide), gn, rbind_ok, sq2_nx, gSeq_eq, gAsg_eq, bind_eq, hi1, hi', hs0]
          rfl
      have cl := call3 (F := F) (m := [.lst xs]) (t0 i') (t1 i') (t2 i') (hF i' hle)
      have hs1 : ∀ t e, gAsg ((DL.gCons (gVar 0) (DL.gCons (gVar 1) (DL.gCons (gVar 2) (M.ret [])))).bind (callM 3 F)) (gSeqG 2 (gsCons (put 5) (gsCons (put 6) gsNil))) ⟨s0 i', [.lst xs]⟩ = .ok .nx ⟨[some (.p (.str (Tx a))), some (.p (.int (i' : Int))), some (.p (.int (d : Int))), some (.loc 0), x4, some (.p t), some (.p (.int e))], [.lst xs]⟩ ∨ lst2 (T i') ≠ two t e := fun t e => by
        by_cases h : lst2 (T i') = two t e
        · refine .inl ?_
          rw [h] at cl
          rw [gAsg_eq, bind_eq, cl, rbind_ok, bind_eq, two_g, hs0]
          rfl
        · exact .inr h
      have hnb := hb i' hle
      rw [← hi']
      cases hT : T i' with
      | error e =>
        have h1 := (hs1 (.str "bad") e).resolve_right (by rw [hT]; exact fun h => h rfl)
        refine ⟨[some (.p (.str (Tx a))), some (.p (.int (i' : Int))), some (.p (.int (d : Int))), some (.loc 0), x4, some (.p (.str "bad")), some (.p (.int e))], ?_⟩
        rw [if_neg k1, if_neg k2]
        have cb := gAnd_bad (ρ := ⟨[some (.p (.str (Tx a))), some (.p (.int (i' : Int))), some (.p (.int (d : Int))), some (.loc 0), x4, some (.p (.str "bad")), some (.p (.int e))], [.lst xs]⟩) (t := .str "bad") rfl
        unfold entB
        rw [gSeq_eq, gIfE_eq, c1, rbind_ok, if_neg k1, gn, rbind_ok, sq2_nx, gSeq_eq, st2, rbind_ok, sq2_nx, gSeq_eq, h1, rbind_ok, sq2_nx, gSeq_eq, gIfE_eq, cb, rbind_ok, if_pos isBad_bad,
          ret_two (g := gVar 5) (ge := gVar 6) (x := .str "bad") (e := (e : Int)) rfl rfl]
        rfl
      | ok q =>
        obtain ⟨t, e⟩ := q
        have h1 := (hs1 t e).resolve_right (by rw [hT]; exact fun h => h rfl)
        refine ⟨[], ?_⟩
        rw [if_neg k1, if_neg k2]
        have cb := gAnd_bad (ρ := ⟨[some (.p (.str (Tx a))), some (.p (.int (i' : Int))), some (.p (.int (d : Int))), some (.loc 0), x4, some (.p t), some (.p (.int e))], [.lst xs]⟩) (t := t) rfl
        have nb : isBad t = false := by
          cases t with
          | str x =>
            have := hnb _ _ hT
            simp only [ne_eq, PyData.str.injEq] at this
            exact decide_eq_false this
          | _ => rfl
        rw [nb] at cb
        have ap : gExpr (gM (gVar 3) (DL.gCons (gVar 5) (M.ret [])) mAppend) ⟨[some (.p (.str (Tx a))), some (.p (.int (i' : Int))), some (.p (.int (d : Int))), some (.loc 0), x4, some (.p t), some (.p (.int e))], [.lst xs]⟩ = .ok .nx ⟨[some (.p (.str (Tx a))), some (.p (.int (i' : Int))), some (.p (.int (d : Int))), some (.loc 0), x4, some (.p t), some (.p (.int e))], [.lst (xs ++ [t])]⟩ := by
          have := gM_append (g := gVar 3) (ge := gVar 5) (j := 0) (xs := xs) (x := t) (ρ := ⟨[some (.p (.str (Tx a))), some (.p (.int (i' : Int))), some (.p (.int (d : Int))), some (.loc 0), x4, some (.p t), some (.p (.int e))], [.lst xs]⟩) (ρ1 := ⟨[], []⟩) rfl rfl rfl (by rw [sizeLine_eq]; omega)
          rw [gExpr_eq, bind_eq, this]; rfl
        unfold entB
        rw [gSeq_eq, gIfE_eq, c1, rbind_ok, if_neg k1, gn, rbind_ok, sq2_nx, gSeq_eq, st2, rbind_ok, sq2_nx, gSeq_eq, h1, rbind_ok, sq2_nx, gSeq_eq, gIfE_eq, cb, rbind_ok, if_neg (by decide), gn, rbind_ok, sq2_nx, gSeq_eq, ap, rbind_ok, sq2_nx]
        rfl
theorem ent_loop {F : FS} {T : Nat → Except Nat (PyData × Nat)} {a : List Nat} {d : Nat} (ha : a.length < 90000) (hF : ∀ j, j ≤ a.length → F [.p (.str (Tx a)), .p (.int (j : Int)), .p (.int (d : Int))] [] = .ok (.p (lst2 (T j))) ⟨[], []⟩) (hb : ∀ j, j ≤ a.length → NoBad (T j))
    (hle : ∀ j t e, j ≤ a.length → T j = .ok (t, e) → e ≤ a.length) : ∀ (is : List PyData) (i : Nat) (hi : i ≤ a.length) (xs : List PyData) (hx : xs.length + is.length < 100000) (x4 x5 x6 : Option DL.D),
    ∃ s m, ((forL (put 4) (entB F) is ⟨[some (.p (.str (Tx a))), some (.p (.int (i : Int))), some (.p (.int (d : Int))), some (.loc 0), x4, x5, x6], [.lst xs]⟩).bind (sq2 bad1)) = .ok (.rt (.p (lst2 (rowsP T a is.length i xs)))) ⟨s, m⟩
  | [], i, hi, xs, hx, x4, x5, x6 => by
    refine ⟨[some (.p (.str (Tx a))), some (.p (.int (i : Int))), some (.p (.int (d : Int))), some (.loc 0), x4, x5, x6], [.lst xs], ?_⟩
    have e0 : ∀ ρ, forL (put 4) (entB F) [] ρ = .ok .nx ρ := fun _ => rfl
    rw [e0, rbind_ok, sq2_nx]
    unfold bad1
    rw [ret_two (g := gC (.str "bad")) (ge := gVar 1) (x := .str "bad") (e := (i : Int)) rfl rfl]
    rfl
  | y :: is, i, hi, xs, hx, x4, x5, x6 => by
    simp only [List.length_cons] at hx
    obtain ⟨s, ht⟩ := ent_turn ha hF hb i hi xs (by omega) (some (.p y)) x5 x6
    have st : forL (put 4) (entB F) (y :: is) ⟨[some (.p (.str (Tx a))), some (.p (.int (i : Int))), some (.p (.int (d : Int))), some (.loc 0), x4, x5, x6], [.lst xs]⟩ = (entB F ⟨[some (.p (.str (Tx a))), some (.p (.int (i : Int))), some (.p (.int (d : Int))), some (.loc 0), some (.p y), x5, x6], [.lst xs]⟩).bind fun f => match f with
        | .nx => forL (put 4) (entB F) is
        | .ct => forL (put 4) (entB F) is
        | .bk => M.ret .nx
        | .rt d => M.ret (.rt d) := rfl
    rw [st, ht, List.length_cons, rowsP]
    by_cases k1 : isAt a i [41] = true
    · rw [if_pos k1, if_pos k1]; exact ⟨_, _, rfl⟩
    rw [if_neg k1, if_neg k1]
    by_cases k2 : xs ≠ [] ∧ isAt a i [32] = false
    · rw [if_pos k2, if_pos k2]; exact ⟨_, _, rfl⟩
    rw [if_neg k2, if_neg k2]
    have hi' : (if xs = [] then i else i + 1) ≤ a.length := by
      by_cases hx : xs = []
      · rw [if_pos hx]; exact hi
      · rw [if_neg hx]
        have : isAt a i [32] = true := by
          cases hb : isAt a i [32] with
          | true => rfl
          | false => exact absurd ⟨hx, hb⟩ k2
        have := isAt_lt this
        omega
    cases hT : T (if xs = [] then i else i + 1) with
    | error e => exact ⟨_, _, rfl⟩
    | ok q =>
      obtain ⟨t, e⟩ := q
      exact ent_loop ha hF hb hle is e (hle _ _ _ hi' hT) (xs ++ [t]) (by simp; omega) (some (.p y)) (some (.p t)) (some (.p (.int (e : Int))))
end
end K20
namespace K20
open PySem PySem.Spec PyProof.Rows L2 DL
section
theorem law_entries_eq {F : FS} {T : Nat → Except Nat (PyData × Nat)} {a : List Nat} {d : Nat} (ha : a.length < 90000) (hF : ∀ j, j ≤ a.length → F [.p (.str (Tx a)), .p (.int (j : Int)), .p (.int (d : Int))] [] = .ok (.p (lst2 (T j))) ⟨[], []⟩) (hb : ∀ j, j ≤ a.length → NoBad (T j))
    (hle : ∀ j t e, j ≤ a.length → T j = .ok (t, e) → e ≤ a.length) (i : Nat) (hi : i ≤ a.length) :
    fnF 3 7 (g__law_entries F) [.p (.str (Tx a)), .p (.int (i : Int)), .p (.int (d : Int))] [] = .ok (.p (lst2 (rowsP T a (a.length + 1) i []))) ⟨[], []⟩ := by
  have e : g__law_entries F = gSeq (gAsg ((M.ret []).bind (mkL true)) (put 3)) (gSeq (gFor ((DL.gCons (gBin (fAdd false) ((DL.gCons (gVar 0) (M.ret [])).bind (c1 pLen)) (gC (.int 1))) (M.ret [])).bind rg1) (put 4) (entB F)) bad1) := rfl
  obtain ⟨s, m, h⟩ := ent_loop ha hF hb hle (rangeL 0 (a.length + 1)) i hi [] (by rw [rangeL_len]; simp; omega) none none none
  rw [rangeL_len] at h
  have s1 : gAsg ((M.ret []).bind (mkL true)) (put 3) ⟨[some (.p (.str (Tx a))), some (.p (.int (i : Int))), some (.p (.int (d : Int))), none, none, none, none], []⟩ = .ok .nx ⟨[some (.p (.str (Tx a))), some (.p (.int (i : Int))), some (.p (.int (d : Int))), some (.loc 0), none, none, none], [.lst []]⟩ := by simp
  have rl : ((DL.gCons (gBin (fAdd false) ((DL.gCons (gVar 0) (M.ret [])).bind (c1 pLen)) (gC (.int 1))) (M.ret [])).bind rg1) ⟨[some (.p (.str (Tx a))), some (.p (.int (i : Int))), some (.p (.int (d : Int))), some (.loc 0), none, none, none], [.lst []]⟩ = .ok (rangeL 0 (a.length + 1)) ⟨[some (.p (.str (Tx a))), some (.p (.int (i : Int))), some (.p (.int (d : Int))), some (.loc 0), none, none, none], [.lst []]⟩ := by
    have hl := len_tx a ha
    have hc : DL.gCons (gBin (fAdd false) ((DL.gCons (gVar 0) (M.ret [])).bind (c1 pLen)) (gC (.int 1))) (M.ret []) ⟨[some (.p (.str (Tx a))), some (.p (.int (i : Int))), some (.p (.int (d : Int))), some (.loc 0), none, none, none], [.lst []]⟩ = .ok [.p (.int ((a.length + 1 : Nat) : Int))] ⟨[some (.p (.str (Tx a))), some (.p (.int (i : Int))), some (.p (.int (d : Int))), some (.loc 0), none, none, none], [.lst []]⟩ := by
      rw [gCons_eq, bind_eq, gBin_eq, bind_eq, bind_eq, gCons_eq, bind_eq, slot_v (j := 0) (d := .p (.str (Tx a))) rfl, rbind_ok, bind_eq, ret_eq, rbind_ok, ret_eq, rbind_ok, c1_p, hl]
      rfl
    rw [bind_eq, hc, rbind_ok, range_at (a.length + 1) (by omega)]
  have hg : ∀ r, ((forL (put 4) (entB F) (rangeL 0 (a.length + 1)) ⟨[some (.p (.str (Tx a))), some (.p (.int (i : Int))), some (.p (.int (d : Int))), some (.loc 0), none, none, none], [.lst []]⟩).bind (sq2 bad1)) = r → g__law_entries F ⟨[some (.p (.str (Tx a))), some (.p (.int (i : Int))), some (.p (.int (d : Int))), none, none, none, none], []⟩ = r := fun r hr => by
    rw [e, gSeq_eq, s1, rbind_ok, sq2_nx, gSeq_eq, gFor_eq, rl, rbind_ok]
    exact hr
  refine (fnF_eq rfl (hg _ h)).trans ?_
  simp [fin, finD]
/-- a text without the letter run bad -/
def noBad (a : List Nat) : Prop := ∀ i, run a sml i ≠ [98, 97, 100]
theorem simple_nb {a : List Nat} (h : noBad a) (i : Nat) : NoBad (simpleP a i) := by
  intro t e hr
  unfold simpleP at hr
  split at hr
  · cases hr; rw [show ("" : Str) = Tx [] from rfl, s_bad]; intro q
    have := tx_inj.mp (PyData.str.inj q); cases this
  · split at hr
    · cases hr
      unfold wordP
      split
      · intro q; cases q
      · rw [s_bad]; intro q
        exact h i (tx_inj.mp (PyData.str.inj q))
    · split at hr
      · cases hr; intro q; cases q
      · cases hr
theorem rows_tup {T : Nat → Except Nat (PyData × Nat)} {a : List Nat} : ∀ (n i : Nat) (xs : List PyData) (t : PyData) (e : Nat), rowsP T a n i xs = .ok (t, e) → ∃ ys, t = .tuple ys
  | 0, i, xs, t, e, h => by cases h
  | n + 1, i, xs, t, e, h => by
    rw [rowsP] at h
    split at h
    · cases h; exact ⟨_, rfl⟩
    · split at h
      · cases h
      · split at h
        · exact rows_tup n _ _ t e h
        · cases h
theorem term_nb {a : List Nat} (h : noBad a) (d i : Nat) : NoBad (termP a d i) := by
  intro t e hr
  cases d with
  | zero =>
    rw [termP] at hr
    split at hr
    · cases hr
    · exact simple_nb h i t e hr
  | succ d =>
    rw [termP] at hr
    split at hr
    · obtain ⟨ys, rfl⟩ := rows_tup _ _ _ _ _ hr
      intro q; cases q
    · exact simple_nb h i t e hr
theorem int_end {a : List Nat} {i : Nat} (hi : i ≤ a.length) {n : Int} {e : Nat} (h : intP a i = .ok (n, e)) : e ≤ a.length := by
  unfold intP at h
  have h1 := at1_le hi
  split at h
  · cases h
  · split at h
    · cases h
    · split at h
      · cases h
      · injection h with h; injection h with h h'
        rw [← h']
        exact run_le a dig _ h1
theorem simple_end {a : List Nat} {i : Nat} (hi : i ≤ a.length) {t : PyData} {e : Nat} (h : simpleP a i = .ok (t, e)) : e ≤ a.length := by
  unfold simpleP at h
  split at h
  · rename_i k; cases h; exact isAt_lt k
  · split at h
    · cases h; exact run_le a sml i hi
    · split at h
      · rename_i n e' hq; cases h; exact int_end hi hq
      · cases h
theorem rows_end {T : Nat → Except Nat (PyData × Nat)} {a : List Nat} (hT : ∀ j t e, j ≤ a.length → T j = .ok (t, e) → e ≤ a.length) : ∀ (n i : Nat) (xs : List PyData) (t : PyData) (e : Nat), i ≤ a.length → rowsP T a n i xs = .ok (t, e) → e ≤ a.length
  | 0, i, xs, t, e, _, h => by cases h
  | n + 1, i, xs, t, e, hi, h => by
    rw [rowsP] at h
    split at h
    · rename_i k; cases h; exact isAt_lt k
    · split at h
      · cases h
      · rename_i k1 k2
        have hi' : (if xs = [] then i else i + 1) ≤ a.length := by
          by_cases hx : xs = []
          · rw [if_pos hx]; exact hi
          · rw [if_neg hx]
            have : isAt a i [32] = true := by
              cases hb : isAt a i [32] with
              | true => rfl
              | false => exact absurd ⟨hx, hb⟩ k2
            have := isAt_lt this
            omega
        split at h
        · rename_i q
          exact rows_end hT n _ _ t e (hT _ _ _ hi' q) h
        · cases h
theorem term_end {a : List Nat} : ∀ (d i : Nat) (t : PyData) (e : Nat), i ≤ a.length → termP a d i = .ok (t, e) → e ≤ a.length
  | 0, i, t, e, hi, h => by
    rw [termP] at h
    split at h
    · cases h
    · exact simple_end hi h
  | d + 1, i, t, e, hi, h => by
    rw [termP] at h
    split at h
    · rename_i k
      exact rows_end (fun j t e hj => term_end d j t e hj) _ _ _ t e (isAt_lt k) h
    · exact simple_end hi h
theorem law_read_all {a : List Nat} (ha : a.length < 90000) (hn : noBad a) : ∀ (k d n i : Nat), d + k = 24 → 2 * k + 1 ≤ n → i ≤ a.length →
    F__law_read n [.p (.str (Tx a)), .p (.int (i : Int)), .p (.int (d : Int))] [] = .ok (.p (lst2 (termP a k i))) ⟨[], []⟩
  | 0, d, n, i, hd, hk, hi => by
    obtain ⟨m, rfl⟩ : ∃ m, n = m + 1 := ⟨n - 1, by omega⟩
    rw [F__law_read]
    have := law_read_eq (F := F__law_entries m) a i d ha hi (by omega) (fun _ h => by omega)
    rw [show 24 - d = 0 by omega] at this
    exact this
  | k + 1, d, n, i, hd, hk, hi => by
    obtain ⟨m, rfl⟩ : ∃ m, n = m + 1 + 1 := ⟨n - 2, by omega⟩
    rw [F__law_read]
    have := law_read_eq (F := F__law_entries (m + 1)) a i d ha hi (by omega)
    rw [show 24 - d = k + 1 by omega] at this
    refine this fun k1 _ => ?_
    rw [F__law_entries]
    rw [show 24 - (d + 1) = k by omega]
    exact law_entries_eq ha (fun j hj => law_read_all ha hn k (d + 1) m j (by omega) (by omega) hj) (fun j _ => term_nb hn k j) (fun j t e hj => term_end k j t e hj) (i + 1) (isAt_lt k1)
end
end K20
namespace K20
open PySem PySem.Spec PyProof.Rows L2 DL
section
/-! ### whole numbers as texts -/
def intT (i : Int) : List Nat := if i < 0 then 45 :: TL.numL i.natAbs else TL.numL i.natAbs
theorem toString_tx (i : Int) : Str.ofString (toString i) = Tx (intT i) := by
  unfold intT
  cases i with
  | ofNat n =>
    have h : ¬ (Int.ofNat n < 0) := by simp
    rw [if_neg h]
    exact SX.num_S n
  | negSucc n =>
    have h : Int.negSucc n < 0 := Int.negSucc_lt_zero n
    rw [if_pos h]
    have e : toString (Int.negSucc n) = "-" ++ Nat.repr (n + 1) := rfl
    have e2 := SX.num_S (n + 1)
    rw [Str.ofString_eq_toList] at e2 ⊢
    have e3 : toString (((n + 1 : Nat)) : Int) = Nat.repr (n + 1) := rfl
    rw [e3] at e2
    have e4 : ((Nat.repr (n + 1)).toList.map Char.toNat) = TL.numL (n + 1) := tx_inj.mp e2
    rw [e, String.toList_append, List.map_append, e4]
    rfl
theorem numL_dig (n : Nat) : ∀ c ∈ TL.numL n, c ∈ dig := fun c hc => by
  have := TL.numL_digits n c hc
  simp only [dig, List.mem_cons, List.mem_nil_iff, or_false]
  omega
/-! ### has_text -/
theorem hz_loop (d : Option DL.D) : ∀ (is : List PyData) (b : Int) (x : Option DL.D), ∃ x', forL (put 2) (gSeq (gAug 1 fMulI (gC (.int 10))) gNext) is ⟨[d, some (I b), x], []⟩ = .ok .nx ⟨[d, some (I (b * 10 ^ is.length)), x'], []⟩
  | [], b, x => ⟨x, by simp [forL]⟩
  | y :: is, b, x => by
    obtain ⟨x', h⟩ := hz_loop d is (b * 10) (some (.p y))
    refine ⟨x', ?_⟩
    have e : gSeq (gAug 1 fMulI (gC (.int 10))) gNext ⟨[d, some (I b), some (.p y)], []⟩ = .ok .nx ⟨[d, some (I (b * 10)), some (.p y)], []⟩ := by
      have : fMulI (I b) (I 10) = M.ret (I (b * 10)) := by
        show ifI (cMul b 10) _ = _
        rw [cm b 10 (by decide)]; rfl
      simp [gAug, this]
    have st : forL (put 2) (gSeq (gAug 1 fMulI (gC (.int 10))) gNext) (y :: is) ⟨[d, some (I b), x], []⟩ = forL (put 2) (gSeq (gAug 1 fMulI (gC (.int 10))) gNext) is ⟨[d, some (I (b * 10)), some (.p y)], []⟩ := by
      show ((gSeq (gAug 1 fMulI (gC (.int 10))) gNext ⟨[d, some (I b), some (.p y)], []⟩).bind _) = _
      rw [e]; rfl
    rw [st, h, List.length_cons, Int.pow_succ]
    congr 6
    rw [Int.mul_assoc, Int.mul_comm 10]
theorem two_pow : (2 : Int) ^ 13287 < 10 ^ 4000 := by decide +kernel
theorem abs_i (n : Int) : pAbs (.int n) = some (.int (n.natAbs : Int)) := by
  show some (PyData.int (if n < 0 then -n else n)) = _
  congr 2
  split <;> omega
theorem has_text_eq (n : Int) : F_has_text [I n] [] = .ok (.p (.bool (decide ((n.natAbs : Int) < 10 ^ 4000)))) ⟨[], []⟩ := by
  have e : g_has_text = gSeq (gIfE (gNot (gTru (gBin fShr ((DL.gCons (gVar 0) (M.ret [])).bind (c1 pAbs)) (gC (.int 13287))))) (gSeq (gRet (gC (.bool true))) gNext) gNext)
    (gSeq (gAsg (gC (.int 1)) (put 1)) (gSeq (gFor ((DL.gCons (gC (.int 4000)) (M.ret [])).bind rg1) (put 2) (gSeq (gAug 1 fMulI (gC (.int 10))) gNext))
    (gSeq (gRet (gBin (fB2 pLt) ((DL.gCons (gVar 0) (M.ret [])).bind (c1 pAbs)) (gVar 1))) gNext))) := rfl
  have hs : fShr (I (n.natAbs : Int)) (I 13287) = M.ret (I ((n.natAbs : Int) / 2 ^ 13287)) := by
    show ifI (decide ((0 : Int) ≤ 13287)) ((n.natAbs : Int) / 2 ^ (13287 : Int).toNat) = _
    rw [decide_eq_true (by decide)]; rfl
  have c : gNot (gTru (gBin fShr ((DL.gCons (gVar 0) (M.ret [])).bind (c1 pAbs)) (gC (.int 13287)))) ⟨[some (I n), none, none], []⟩ = .ok (!((n.natAbs : Int) / 2 ^ 13287 != 0)) ⟨[some (I n), none, none], []⟩ := by
    generalize (2 : Int) ^ 13287 = B at hs ⊢
    simp [gNot, abs_i, hs, tru, truD]
  have hp := two_pow
  have ci : ((n.natAbs : Int) / 2 ^ 13287 = 0) ↔ (n.natAbs : Int) < 2 ^ 13287 := by
    have h0 : (0 : Int) < 2 ^ 13287 := Int.pow_pos (by decide)
    generalize (2 : Int) ^ 13287 = B at h0
    constructor
    · intro h
      have := Int.lt_mul_ediv_self_add (x := (n.natAbs : Int)) h0
      rw [h] at this
      simpa using this
    · intro h
      exact Int.ediv_eq_zero_of_lt (by omega) h
  have out : ∀ x s m, g_has_text ⟨[some (I n), none, none], []⟩ = .ok (.rt (.p x)) ⟨s, m⟩ → F_has_text [I n] [] = .ok (.p x) ⟨[], []⟩ := fun x s m h => (fnF_eq rfl h).trans (by simp [fin, finD])
  by_cases h : (n.natAbs : Int) / 2 ^ 13287 = 0
  · have h2 := ci.mp h
    rw [decide_eq_true (Int.lt_trans h2 hp)]
    refine out _ [some (I n), none, none] [] ?_
    have hb : (!((n.natAbs : Int) / 2 ^ 13287 != 0)) = true := by rw [h]; rfl
    rw [hb] at c
    rw [e, gSeq_eq, gIfE_eq, c, rbind_ok, if_pos rfl]
    rfl
  · have hb : (!((n.natAbs : Int) / 2 ^ 13287 != 0)) = false := by
      generalize (n.natAbs : Int) / 2 ^ 13287 = q at h
      simp [h]
    rw [hb] at c
    obtain ⟨x', hl⟩ := hz_loop (some (I n)) (rangeL 0 4000) 1 none
    rw [rangeL_len, Int.one_mul] at hl
    have hr : ((DL.gCons (gC (.int 4000)) (M.ret [])).bind rg1) ⟨[some (I n), some (I 1), none], []⟩ = .ok (rangeL 0 4000) ⟨[some (I n), some (I 1), none], []⟩ := by
      rw [bind_eq, gCons_eq]
      exact range_at 4000 (by decide) _
    refine out _ [some (I n), some (I (10 ^ 4000)), x'] [] ?_
    have s2 : gAsg (gC (.int 1)) (put 1) ⟨[some (I n), none, none], []⟩ = .ok .nx ⟨[some (I n), some (I 1), none], []⟩ := rfl
    have s3 : gFor ((DL.gCons (gC (.int 4000)) (M.ret [])).bind rg1) (put 2) (gSeq (gAug 1 fMulI (gC (.int 10))) gNext) ⟨[some (I n), some (I 1), none], []⟩ = .ok .nx ⟨[some (I n), some (I (10 ^ 4000)), x'], []⟩ := by
      rw [gFor_eq, hr, rbind_ok]; exact hl
    rw [e, gSeq_eq, gIfE_eq, c, rbind_ok, if_neg (by decide), gn, rbind_ok, sq2_nx, gSeq_eq, s2, rbind_ok, sq2_nx, gSeq_eq, s3, rbind_ok, sq2_nx]
    generalize (10 : Int) ^ 4000 = B
    simp [abs_i]
/-! ### comprehensions -/
theorem compL_ok {gt : DL.D → M Unit} {ge : M DL.D} {m : List Cell} {s1 : List (Option DL.D)} (f : PyData → PyData) : ∀ (xs : List PyData), (∀ x ∈ xs, ∃ s', gt (.p x) ⟨s1, m⟩ = .ok () ⟨s', m⟩ ∧ ge ⟨s', m⟩ = .ok (.p (f x)) ⟨s', m⟩) →
    ∀ s, ∃ s'', compL s1 gt (M.ret true) ge xs ⟨s, m⟩ = .ok (xs.map f) ⟨s'', m⟩
  | [], h, s => ⟨s, rfl⟩
  | x :: xs, h, s => by
    obtain ⟨s', h1, h2⟩ := h x List.mem_cons_self
    obtain ⟨s'', h3⟩ := compL_ok f xs (fun y hy => h y (List.mem_cons_of_mem _ hy)) s'
    refine ⟨s'', ?_⟩
    rw [compL]
    simp [setS, noEr, h1, h2, h3, asP]
theorem gLcE_ok {gi : M (List PyData)} {i : Nat} {ge : M DL.D} {vs : List Nat} {s : List (Option DL.D)} {m : List Cell} {xs : List PyData} (f : PyData → PyData) (hi : gi ⟨s, m⟩ = .ok xs ⟨s, m⟩) (hl : xs.length ≤ sizeLine)
    (h : ∀ x ∈ xs, ge ⟨(wipeD s vs).set i (some (.p x)), m⟩ = .ok (.p (f x)) ⟨(wipeD s vs).set i (some (.p x)), m⟩) : gLcE false vs gi (put i) (M.ret true) ge ⟨s, m⟩ = .ok (.p (.list (xs.map f))) ⟨s, m⟩ := by
  obtain ⟨s'', h3⟩ := compL_ok (gt := put i) (ge := ge) (m := m) (s1 := wipeD s vs) f xs (fun x hx => ⟨_, rfl, h x hx⟩) s
  unfold gLcE
  rw [bind_eq, hi, rbind_ok, decide_eq_true hl, ifM_t]
  show resE s ((compL (wipeD s vs) (put i) (M.ret true) ge xs ⟨s, m⟩).bind _) = _
  rw [h3]
  rfl
theorem noEr_ok {α : Type} {g : M α} {ρ ρ' : Sg} {a : α} (h : g ρ = .ok a ρ') : noEr g ρ = .ok a ρ' := by
  unfold noEr; rw [h]
theorem gLc_ok {gi : M (List PyData)} {i : Nat} {ge : M DL.D} {vs : List Nat} {s : List (Option DL.D)} {m : List Cell} {xs : List PyData} (f : PyData → PyData) (hi : gi ⟨s, m⟩ = .ok xs ⟨s, m⟩) (hl : xs.length ≤ sizeLine)
    (h : ∀ x ∈ xs, ge ⟨(wipeD s vs).set i (some (.p x)), m⟩ = .ok (.p (f x)) ⟨(wipeD s vs).set i (some (.p x)), m⟩) : gLc false vs gi (put i) (M.ret true) ge ⟨s, m⟩ = .ok (.p (.list (xs.map f))) ⟨s, m⟩ :=
  gLcE_ok f hi hl fun x hx => noEr_ok (h x hx)
theorem strsD_tx : ∀ ls : List (List Nat), strsD (ls.map fun l => PyData.str (Tx l)) = some (ls.map Tx)
  | [] => rfl
  | l :: r => by rw [List.map_cons, strsD, strsD_tx r]; rfl
/-- the texts joined by blanks -/
def joinL (z : List Nat) : List (List Nat) → List Nat
  | [] => []
  | [l] => l
  | l :: r => l ++ z ++ joinL z r
end
end K20
namespace K20
open PySem PySem.Spec PyProof.Rows L2 DL
section
def bnE : Er := ⟨"BadNumber", none⟩
theorem call1 {F : FS} {i : Nat} {x y : PyData} {ρ : Sg} (hv : gVar i ρ = .ok (.p x) ρ) (hF : F [.p x] [] = .ok (.p y) ⟨[], []⟩) : ((DL.gCons (gVar i) (M.ret [])).bind (callM 1 F)) ρ = .ok (.p y) ρ := by
  rw [bind_eq, gCons_eq, bind_eq, hv, rbind_ok, bind_eq, ret_eq, rbind_ok, ret_eq, rbind_ok]
  exact call_pure (F := F) [x] rfl hF
theorem call1E {F : FS} {i : Nat} {x : PyData} {ε : Er} {ρ : Sg} (hv : gVar i ρ = .ok (.p x) ρ) (hF : F [.p x] [] = .er ε ⟨[], []⟩) : ((DL.gCons (gVar i) (M.ret [])).bind (callM 1 F)) ρ = .er ε ρ := by
  rw [bind_eq, gCons_eq, bind_eq, hv, rbind_ok, bind_eq, ret_eq, rbind_ok, ret_eq, rbind_ok]
  unfold callM
  have e : locsOf [DL.D.p x] = [] := rfl
  simp [e, cellsAt, renD, hF, setAll]
theorem isN_c {x : PyData} {ρ : Sg} (hv : gVar 0 ρ = .ok (.p x) ρ) : gB (gBin (fIsN false) (gVar 0) (gC .none)) ρ = .ok (DL.isNon x) ρ := by
  rw [gB_eq, bind_eq, gBin_eq, bind_eq, hv, rbind_ok, gC_eq, bind_eq, ret_eq, rbind_ok]
  show ((M.ret (DL.D.p (.bool (DL.isNon x != false))) ρ).bind asB) = _
  rw [Bool.bne_false]; rfl
theorem isa_c {f : PyData → Bool} {x : PyData} {ρ : Sg} (hv : gVar 0 ρ = .ok (.p x) ρ) : gTru ((gVar 0).bind (fIsa f)) ρ = .ok (f x) ρ := by
  rw [gTru_eq, bind_eq, bind_eq, hv, rbind_ok]; rfl
def tGo (F : FS) : M DL.D := (gC (.str " ")).bind fun a => (asSm a).bind fun z => (gLcE false [2] ((gVar 0).bind itA) (put 2) (M.ret true) ((DL.gCons (gVar 2) (M.ret [])).bind (callM 1 F))).bind fun d => fJoin z d
def tAll : M Bool := gOr (gB (gBin (fB2 pEq) (gVar 0) (gC (.str "none")))) (gNot (gTru ((DL.gCons (gLc false [1] ((gVar 0).bind itA) (put 1) (M.ret true) (gBin (fB2 pIn) (gVar 1) (gC (.str "abcdefghijklmnopqrstuvwxyz")))) (M.ret [])).bind (cBs fun bs => bs.all id))))
theorem g_term_text_e (F : FS) : g_term_text F = gSeq (gIfE (gB (gBin (fIsN false) (gVar 0) (gC .none))) (gSeq (gRet (gC (.str "none"))) gNext) gNext)
    (gSeq (gIfE (gTru ((gVar 0).bind (fIsa PyData.isInt))) (gSeq (gIfE (gNot (gTru ((DL.gCons (gVar 0) (M.ret [])).bind (callM 1 F_has_text)))) (gSeq (gRaise "BadNumber") gNext) gNext) (gSeq (gRet ((DL.gCons (gVar 0) (M.ret [])).bind (c1 pStrB))) gNext)) gNext)
    (gSeq (gIfE (gTru ((gVar 0).bind (fIsa PyData.isStr))) (gSeq (gIfE tAll (gSeq (gRaise "BadNumber") gNext) gNext) (gSeq (gRet (gOrT (gVar 0) (gC (.str ".")))) gNext)) gNext)
    (gSeq (gRet (gBin (fAdd false) (gBin (fAdd false) (gC (.str "(")) (tGo F)) (gC (.str ")")))) gNext))) := rfl
theorem out1 {g : M Fl} {len : Nat} {d : DL.D} {x : PyData} {s : List (Option DL.D)} {m : List Cell} (h : g (startD len [d] []) = .ok (.rt (.p x)) ⟨s, m⟩) : fnF 1 len g [d] [] = .ok (.p x) ⟨[], []⟩ := (fnF_eq rfl h).trans (by simp [fin, finD])
theorem out1E {g : M Fl} {len : Nat} {d : DL.D} {ε : Er} {s : List (Option DL.D)} {m : List Cell} (h : g (startD len [d] []) = .er ε ⟨s, m⟩) : fnF 1 len g [d] [] = .er ε ⟨[], []⟩ := (fnF_eq rfl h).trans (by simp [fin])
theorem st3 (t : PyData) : startD 3 [.p t] [] = ⟨[some (.p t), none, none], []⟩ := rfl
theorem term_text_none (F : FS) : fnF 1 3 (g_term_text F) [.p .none] [] = .ok (.p (.str (Tx [110, 111, 110, 101]))) ⟨[], []⟩ := by
  refine out1 (s := [some (.p .none), none, none]) (m := []) ?_
  rw [st3, g_term_text_e, gSeq_eq, gIfE_eq, isN_c (x := .none) rfl, rbind_ok, ← s_none]
  rfl
theorem str_i (n : Int) (h : n.natAbs < 10 ^ 4300) : pStrB (.int n) = some (.str (Tx (intT n))) := by
  show (if n.natAbs < 10 ^ 4300 then some (PyData.str (Str.ofString (toString n))) else none) = _
  rw [if_pos h, toString_tx]
theorem pow_43 : (10 : Nat) ^ 4000 < 10 ^ 4300 := Nat.pow_lt_pow_right (by decide) (by decide)
theorem term_text_int (F : FS) (n : Int) : fnF 1 3 (g_term_text F) [.p (.int n)] [] = if n.natAbs < 10 ^ 4000 then .ok (.p (.str (Tx (intT n)))) ⟨[], []⟩ else .er bnE ⟨[], []⟩ := by
  have c := call1 (F := F_has_text) (i := 0) (x := .int n) (ρ := ⟨[some (.p (.int n)), none, none], []⟩) rfl (has_text_eq n)
  have hd : decide ((n.natAbs : Int) < 10 ^ 4000) = decide (n.natAbs < 10 ^ 4000) := by
    have e : ((10 : Int) ^ 4000) = ((10 ^ 4000 : Nat) : Int) := (Int.natCast_pow 10 4000).symm
    rw [e]
    generalize (10 : Nat) ^ 4000 = B
    rw [Bool.eq_iff_iff, decide_eq_true_eq, decide_eq_true_eq]; omega
  rw [hd] at c
  have cc : gNot (gTru ((DL.gCons (gVar 0) (M.ret [])).bind (callM 1 F_has_text))) ⟨[some (.p (.int n)), none, none], []⟩ = .ok (!decide (n.natAbs < 10 ^ 4000)) ⟨[some (.p (.int n)), none, none], []⟩ := by
    unfold gNot
    rw [bind_eq, gTru_eq, bind_eq, c, rbind_ok]
    generalize decide (n.natAbs < 10 ^ 4000) = b
    rfl
  have pw := pow_43
  have hs := str_i n
  generalize (10 : Nat) ^ 4000 = B at *
  generalize (10 : Nat) ^ 4300 = B2 at *
  by_cases h : n.natAbs < B
  · rw [if_pos h]
    have hs := hs (by omega)
    refine out1 (s := [some (.p (.int n)), none, none]) (m := []) ?_
    rw [decide_eq_true h] at cc
    rw [st3, g_term_text_e, gSeq_eq, gIfE_eq, isN_c (x := .int n) rfl, rbind_ok, if_neg (by simp [DL.isNon]), gn, rbind_ok, sq2_nx, gSeq_eq, gIfE_eq, isa_c (x := .int n) rfl, rbind_ok, if_pos (show PyData.isInt (.int n) = true from rfl), gSeq_eq, gIfE_eq, cc, rbind_ok, if_neg (by decide), gn, rbind_ok, sq2_nx]
    simp [hs]
  · rw [if_neg h]
    refine out1E (s := [some (.p (.int n)), none, none]) (m := []) ?_
    rw [decide_eq_false h] at cc
    rw [st3, g_term_text_e, gSeq_eq, gIfE_eq, isN_c (x := .int n) rfl, rbind_ok, if_neg (by simp [DL.isNon]), gn, rbind_ok, sq2_nx, gSeq_eq, gIfE_eq, isa_c (x := .int n) rfl, rbind_ok, if_pos (show PyData.isInt (.int n) = true from rfl), gSeq_eq, gIfE_eq, cc, rbind_ok, if_pos (show (!false) = true from rfl)]
    rfl
/-- a text as term_text writes it -/
def strT (w : List Nat) : List Nat := if w = [] then [46] else w
def BadS (w : List Nat) : Prop := w = [110, 111, 110, 101] ∨ ¬ (∀ c ∈ w, c ∈ sml)
instance (w : List Nat) : Decidable (BadS w) := inferInstanceAs (Decidable (_ ∨ _))
theorem bools_b : ∀ bs : List Bool, bools (bs.map PyData.bool) = some bs
  | [] => rfl
  | b :: r => by rw [List.map_cons, bools, bools_b r]; rfl
def inSml (x : PyData) : PyData := match pIn x (.str (Tx sml)) with
  | some b => .bool b
  | none => .none
theorem inSml_c (c : Nat) : inSml (.str (Tx [c])) = .bool (decide (c ∈ sml)) := by
  have hin : pIn (.str (Tx [c])) (.str (Tx sml)) = some (decide (c ∈ sml)) := congrArg some (SX.in_one sml c)
  unfold inSml; rw [hin]
theorem signs_tx (w : List Nat) : DL.signs (Tx w) = w.map fun c => PyData.str (Tx [c]) := by simp [DL.signs, Tx]
theorem tAll_eq (w : List Nat) (hw : w.length ≤ 1000) : tAll ⟨[some (.p (.str (Tx w))), none, none], []⟩ = .ok (decide (BadS w)) ⟨[some (.p (.str (Tx w))), none, none], []⟩ := by
  have c1' := cond_v (j := 0) (w := w) (s := [some (.p (.str (Tx w))), none, none]) (m := []) s_none rfl
  unfold tAll gOr
  rw [bind_eq, c1', rbind_ok]
  by_cases h : w = [110, 111, 110, 101]
  · rw [if_pos (decide_eq_true h), decide_eq_true (show BadS w from .inl h)]; rfl
  · rw [if_neg (by simpa using h)]
    have hi : ((gVar 0).bind itA) ⟨[some (.p (.str (Tx w))), none, none], []⟩ = .ok (w.map fun c => PyData.str (Tx [c])) ⟨[some (.p (.str (Tx w))), none, none], []⟩ := by
      rw [← signs_tx]; rfl
    have gl := gLc_ok (i := 1) (vs := [1]) (ge := gBin (fB2 pIn) (gVar 1) (gC (.str "abcdefghijklmnopqrstuvwxyz"))) inSml hi (by rw [List.length_map, sizeLine_eq]; omega) (by
      intro x hx
      obtain ⟨c, hc, rfl⟩ := List.mem_map.mp hx
      have hin : pIn (.str (Tx [c])) (.str (Tx sml)) = some (decide (c ∈ sml)) := congrArg some (SX.in_one sml c)
      rw [inSml_c, s_sml]
      show ((fB2 pIn (.p (.str (Tx [c]))) (.p (.str (Tx sml)))) _) = _
      rw [fB2_p, hin]; rfl)
    have em : (w.map fun c => PyData.str (Tx [c])).map inSml = (w.map fun c => decide (c ∈ sml)).map PyData.bool := by
      rw [List.map_map, List.map_map]
      exact List.map_congr_left fun c _ => inSml_c c
    rw [em] at gl
    have ca : ((DL.gCons (gLc false [1] ((gVar 0).bind itA) (put 1) (M.ret true) (gBin (fB2 pIn) (gVar 1) (gC (.str "abcdefghijklmnopqrstuvwxyz")))) (M.ret [])).bind (cBs fun bs => bs.all id)) ⟨[some (.p (.str (Tx w))), none, none], []⟩ = .ok (.p (.bool ((w.map fun c => decide (c ∈ sml)).all id))) ⟨[some (.p (.str (Tx w))), none, none], []⟩ := by
      rw [bind_eq, gCons_eq, bind_eq, gl, rbind_ok, bind_eq, ret_eq, rbind_ok, ret_eq, rbind_ok]
      show ((cBs fun bs => bs.all id) [DL.D.p (.list ((w.map fun c => decide (c ∈ sml)).map PyData.bool))]) _ = _
      unfold cBs
      simp only [sq, bind_eq, ret_eq, rbind_ok, bools_b]
      rfl
    unfold gNot
    rw [bind_eq, gTru_eq, bind_eq, ca, rbind_ok, tru_b, ret_eq, rbind_ok, ret_eq]
    have h1 : (w.map fun c => decide (c ∈ sml)).all id = decide (∀ c ∈ w, c ∈ sml) := by
      rw [Bool.eq_iff_iff]; simp
    have h2 : decide (BadS w) = !decide (∀ c ∈ w, c ∈ sml) := by
      by_cases q : ∀ c ∈ w, c ∈ sml
      · rw [decide_eq_true q, decide_eq_false (show ¬ BadS w from fun z => z.elim h fun y => y q)]; rfl
      · rw [decide_eq_false q, decide_eq_true (show BadS w from .inr q)]; rfl
    rw [h1, h2]
theorem term_text_str (F : FS) (w : List Nat) (hw : w.length ≤ 1000) : fnF 1 3 (g_term_text F) [.p (.str (Tx w))] [] = if BadS w then .er bnE ⟨[], []⟩ else .ok (.p (.str (Tx (strT w)))) ⟨[], []⟩ := by
  have ca := tAll_eq w hw
  by_cases h : BadS w
  · rw [if_pos h]
    refine out1E (s := [some (.p (.str (Tx w))), none, none]) (m := []) ?_
    rw [decide_eq_true h] at ca
    rw [st3, g_term_text_e, gSeq_eq, gIfE_eq, isN_c (x := .str (Tx w)) rfl, rbind_ok, if_neg (by simp [DL.isNon]), gn, rbind_ok, sq2_nx, gSeq_eq, gIfE_eq, isa_c (x := .str (Tx w)) rfl, rbind_ok, if_neg (by simp [PyData.isInt]), gn, rbind_ok, sq2_nx, gSeq_eq, gIfE_eq, isa_c (x := .str (Tx w)) rfl, rbind_ok, if_pos (show PyData.isStr (.str (Tx w)) = true from rfl), gSeq_eq, gIfE_eq, ca, rbind_ok, if_pos rfl]
    rfl
  · rw [if_neg h]
    refine out1 (s := [some (.p (.str (Tx w))), none, none]) (m := []) ?_
    rw [decide_eq_false h] at ca
    have go : gOrT (gVar 0) (gC (.str ".")) ⟨[some (.p (.str (Tx w))), none, none], []⟩ = .ok (.p (.str (Tx (strT w)))) ⟨[some (.p (.str (Tx w))), none, none], []⟩ := by
      unfold gOrT
      rw [bind_eq]
      show ((((tru (.p (.str (Tx w)))).bind fun b => match b with | true => M.ret (DL.D.p (.str (Tx w))) | false => gC (.str ".")) ⟨[some (.p (.str (Tx w))), none, none], []⟩)) = _
      have : tru (.p (.str (Tx w))) = M.ret (((w.length : Int) != 0)) := by
        show M.opt (if (Tx w).length ≤ sizeLine then some (((Tx w).length : Int) != 0) else none) = _
        rw [if_pos (by rw [tx_len, sizeLine_eq]; omega), tx_len]; rfl
      rw [this]
      unfold strT
      cases w with
      | nil => rw [if_pos rfl, ← s_dot]; rfl
      | cons c r => rw [if_neg (by simp)]; rfl
    rw [st3, g_term_text_e, gSeq_eq, gIfE_eq, isN_c (x := .str (Tx w)) rfl, rbind_ok, if_neg (by simp [DL.isNon]), gn, rbind_ok, sq2_nx, gSeq_eq, gIfE_eq, isa_c (x := .str (Tx w)) rfl, rbind_ok, if_neg (by simp [PyData.isInt]), gn, rbind_ok, sq2_nx, gSeq_eq, gIfE_eq, isa_c (x := .str (Tx w)) rfl, rbind_ok, if_pos (show PyData.isStr (.str (Tx w)) = true from rfl), gSeq_eq, gIfE_eq, ca, rbind_ok, if_neg (by decide), gn, rbind_ok, sq2_nx, gSeq_eq, gRet_eq, bind_eq, go]
    rfl
/-! ### a tuple's text -/
def seqT (ls : List (List Nat)) : List Nat := 40 :: (TL.joinL [32] ls ++ [41])
theorem joinL_len : ∀ ls : List (List Nat), (TL.joinL [32] ls).length ≤ (ls.map List.length).sum + ls.length
  | [] => by simp [TL.joinL]
  | [p] => by simp [TL.joinL]
  | p :: q :: r => by
    have := joinL_len (q :: r)
    simp only [TL.joinL, List.length_append, List.map_cons, List.sum_cons, List.length_cons, List.length_nil] at this ⊢
    omega
theorem add_tx (o : Bool) (a b : List Nat) (h : a.length + b.length ≤ 1000000) : fAdd o (.p (.str (Tx a))) (.p (.str (Tx b))) = M.ret (.p (.str (Tx (a ++ b)))) := by
  show (if (Tx a).length + (Tx b).length ≤ sizeLine then M.ret (DL.D.p (.str (Tx a ++ Tx b))) else M.bad) = _
  rw [if_pos (by rw [tx_len, tx_len, sizeLine_eq]; omega)]
  rw [show Tx a ++ Tx b = Tx (a ++ b) from SX.S_cat a b]
theorem join_p {ls : List (List Nat)} (h : (ls.map List.length).sum + ls.length ≤ 100000) (ρ : Sg) : fJoin (Tx [32]) (.p (.list (ls.map fun l => PyData.str (Tx l)))) ρ = .ok (.p (.str (Tx (TL.joinL [32] ls)))) ρ := by
  unfold fJoin
  simp only [sq, bind_eq, ret_eq, rbind_ok, strsD_tx, joinK]
  have e1 : ((ls.map Tx).map fun y : Str => y.length) = ls.map List.length := SX.lens ls
  rw [e1, List.length_map, decide_eq_true (by rw [tx_len]; simp only [List.length_cons, List.length_nil]; omega), ifM_t, show Txt.join (Tx [32]) (ls.map Tx) = Tx (TL.joinL [32] ls) from SX.join_S [32] ls]
  rfl
theorem term_text_seq {F : FS} {t : PyData} {xs : List PyData} {f : PyData → List Nat} (hi : itA (.p t) = M.ret xs) (h1 : DL.isNon t = false) (h2 : t.isInt = false) (h3 : t.isStr = false) (hF : ∀ x ∈ xs, F [.p x] [] = .ok (.p (.str (Tx (f x)))) ⟨[], []⟩)
    (hz : ((xs.map f).map List.length).sum + (xs.map f).length ≤ 100000) : fnF 1 3 (g_term_text F) [.p t] [] = .ok (.p (.str (Tx (seqT (xs.map f))))) ⟨[], []⟩ := by
  refine out1 (s := [some (.p t), none, none]) (m := []) ?_
  have gl := gLcE_ok (s := [some (.p t), none, none]) (m := []) (gi := (gVar 0).bind itA) (i := 2) (vs := [2]) (ge := (DL.gCons (gVar 2) (M.ret [])).bind (callM 1 F)) (xs := xs) (fun x => .str (Tx (f x))) (by rw [bind_eq]; show itA (.p t) _ = _; rw [hi]; rfl)
    (by rw [sizeLine_eq]; rw [List.length_map] at hz; omega) (fun x hx => call1 (F := F) (i := 2) (x := x) rfl (hF x hx))
  have em : xs.map (fun x => PyData.str (Tx (f x))) = (xs.map f).map fun l => PyData.str (Tx l) := by rw [List.map_map]; rfl
  rw [em] at gl
  have hj : tGo F ⟨[some (.p t), none, none], []⟩ = .ok (.p (.str (Tx (TL.joinL [32] (xs.map f))))) ⟨[some (.p t), none, none], []⟩ := by
    unfold tGo
    rw [gC_eq, bind_eq, ret_eq, rbind_ok, bind_eq]
    show ((gLcE false [2] ((gVar 0).bind itA) (put 2) (M.ret true) ((DL.gCons (gVar 2) (M.ret [])).bind (callM 1 F)) _).bind fun d => fJoin (" " : Str) d) = _
    rw [gl, rbind_ok, s_sp]
    exact join_p hz _
  have hl := joinL_len (xs.map f)
  rw [st3, g_term_text_e, gSeq_eq, gIfE_eq, isN_c (x := t) rfl, rbind_ok, if_neg (by simp [h1]), gn, rbind_ok, sq2_nx, gSeq_eq, gIfE_eq, isa_c (x := t) rfl, rbind_ok, if_neg (by simp [h2]), gn, rbind_ok, sq2_nx, gSeq_eq, gIfE_eq, isa_c (x := t) rfl, rbind_ok, if_neg (by simp [h3]), gn, rbind_ok, sq2_nx,
    gSeq_eq, gRet_eq, bind_eq, gBin_eq, bind_eq, gBin_eq, bind_eq, gC_eq, ret_eq, rbind_ok, bind_eq, hj, rbind_ok, s_op, add_tx _ _ _ (by simp; omega), ret_eq, rbind_ok, gC_eq, bind_eq, ret_eq, rbind_ok, s_cl, add_tx _ _ _ (by simp; omega)]
  rfl
theorem compL_er {gt : DL.D → M Unit} {ge : M DL.D} {m : List Cell} {s1 : List (Option DL.D)} {ε : Er} {x : PyData} {post : List PyData} (f : PyData → PyData) (hx : ∃ s', gt (.p x) ⟨s1, m⟩ = .ok () ⟨s', m⟩ ∧ ge ⟨s', m⟩ = .er ε ⟨s', m⟩) : ∀ (pre : List PyData), (∀ x ∈ pre, ∃ s', gt (.p x) ⟨s1, m⟩ = .ok () ⟨s', m⟩ ∧ ge ⟨s', m⟩ = .ok (.p (f x)) ⟨s', m⟩) →
    ∀ s, ∃ s'', compL s1 gt (M.ret true) ge (pre ++ x :: post) ⟨s, m⟩ = .er ε ⟨s'', m⟩
  | [], h, s => by
    obtain ⟨s', h1, h2⟩ := hx
    refine ⟨s', ?_⟩
    rw [List.nil_append, compL]
    simp [setS, noEr, h1, h2]
  | y :: pre, h, s => by
    obtain ⟨s', h1, h2⟩ := h y List.mem_cons_self
    obtain ⟨s'', h3⟩ := compL_er (post := post) f hx pre (fun y hy => h y (List.mem_cons_of_mem _ hy)) s'
    refine ⟨s'', ?_⟩
    rw [List.cons_append, compL]
    simp [setS, noEr, h1, h2, h3, asP]
theorem term_text_seqE {F : FS} {t x : PyData} {pre post : List PyData} {f : PyData → List Nat} {ε : Er} (hi : itA (.p t) = M.ret (pre ++ x :: post)) (h1 : DL.isNon t = false) (h2 : t.isInt = false) (h3 : t.isStr = false) (hF : ∀ x ∈ pre, F [.p x] [] = .ok (.p (.str (Tx (f x)))) ⟨[], []⟩)
    (hx : F [.p x] [] = .er ε ⟨[], []⟩) (hz : (pre ++ x :: post).length ≤ 100000) : fnF 1 3 (g_term_text F) [.p t] [] = .er ε ⟨[], []⟩ := by
  refine out1E (s := [some (.p t), none, none]) (m := []) ?_
  obtain ⟨s'', hc⟩ := compL_er (s1 := [some (.p t), none, none]) (gt := put 2) (ge := (DL.gCons (gVar 2) (M.ret [])).bind (callM 1 F)) (m := []) (post := post) (x := x) (ε := ε) (fun x => .str (Tx (f x))) ⟨_, rfl, call1E (F := F) (i := 2) (x := x) rfl hx⟩ pre (fun y hy => ⟨_, rfl, call1 (F := F) (i := 2) (x := y) rfl (hF y hy)⟩) [some (.p t), none, none]
  have gl : gLcE false [2] ((gVar 0).bind itA) (put 2) (M.ret true) ((DL.gCons (gVar 2) (M.ret [])).bind (callM 1 F)) ⟨[some (.p t), none, none], []⟩ = .er ε ⟨[some (.p t), none, none], []⟩ := by
    unfold gLcE
    have : ((gVar 0).bind itA) ⟨[some (.p t), none, none], []⟩ = .ok (pre ++ x :: post) ⟨[some (.p t), none, none], []⟩ := by rw [bind_eq]; show itA (.p t) _ = _; rw [hi]; rfl
    rw [bind_eq, this, rbind_ok, decide_eq_true (by rw [sizeLine_eq]; omega), ifM_t]
    show resE _ ((compL [some (.p t), none, none] (put 2) (M.ret true) ((DL.gCons (gVar 2) (M.ret [])).bind (callM 1 F)) (pre ++ x :: post) ⟨[some (.p t), none, none], []⟩).bind _) = _
    rw [hc]; rfl
  have hj : tGo F ⟨[some (.p t), none, none], []⟩ = .er ε ⟨[some (.p t), none, none], []⟩ := by
    unfold tGo
    rw [gC_eq, bind_eq, ret_eq, rbind_ok, bind_eq]
    show ((gLcE false [2] ((gVar 0).bind itA) (put 2) (M.ret true) ((DL.gCons (gVar 2) (M.ret [])).bind (callM 1 F)) _).bind fun d => fJoin (" " : Str) d) = _
    rw [gl]; rfl
  rw [st3, g_term_text_e, gSeq_eq, gIfE_eq, isN_c (x := t) rfl, rbind_ok, if_neg (by simp [h1]), gn, rbind_ok, sq2_nx, gSeq_eq, gIfE_eq, isa_c (x := t) rfl, rbind_ok, if_neg (by simp [h2]), gn, rbind_ok, sq2_nx, gSeq_eq, gIfE_eq, isa_c (x := t) rfl, rbind_ok, if_neg (by simp [h3]), gn, rbind_ok, sq2_nx,
    gSeq_eq, gRet_eq, bind_eq, gBin_eq, bind_eq, gBin_eq, bind_eq, gC_eq, ret_eq, rbind_ok, bind_eq, hj]
  rfl
/-! ### the law's own text -/
def lGo (F : FS) : M DL.D := (gC (.str " ")).bind fun a => (asSm a).bind fun z => (gLc false [1] ((gVar 0).bind itA) (put 1) (M.ret true) ((DL.gCons (gVar 1) (M.ret [])).bind (callM 1 F))).bind fun d => fJoin z d
theorem g_law_text_e (F : FS) : g__law_text F = gSeq (gIfE (gB (gBin (fIsN false) (gVar 0) (gC .none))) (gSeq (gRet (gC (.str "none"))) gNext) gNext)
    (gSeq (gIfE (gTru ((gVar 0).bind (fIsa PyData.isInt))) (gSeq (gRet ((DL.gCons (gVar 0) (M.ret [])).bind (c1 pStrB))) gNext) gNext)
    (gSeq (gIfE (gTru ((gVar 0).bind (fIsa PyData.isStr))) (gSeq (gRet (gIfE (gB (gBin (fB2 pNe) (gVar 0) (gC (.str "")))) (gVar 0) (gC (.str ".")))) gNext) gNext)
    (gSeq (gRet (gBin (fAdd false) (gBin (fAdd false) (gC (.str "(")) (lGo F)) (gC (.str ")")))) gNext))) := rfl
theorem st2 (t : PyData) : startD 2 [.p t] [] = ⟨[some (.p t), none], []⟩ := rfl
theorem law_text_none (F : FS) : fnF 1 2 (g__law_text F) [.p .none] [] = .ok (.p (.str (Tx [110, 111, 110, 101]))) ⟨[], []⟩ := by
  refine out1 (s := [some (.p .none), none]) (m := []) ?_
  rw [st2, g_law_text_e, gSeq_eq, gIfE_eq, isN_c (x := .none) rfl, rbind_ok, ← s_none]
  rfl
theorem law_text_int (F : FS) (n : Int) (h : n.natAbs < 10 ^ 20) : fnF 1 2 (g__law_text F) [.p (.int n)] [] = .ok (.p (.str (Tx (intT n)))) ⟨[], []⟩ := by
  have hs := str_i n (Nat.lt_trans h (Nat.pow_lt_pow_right (by decide) (by decide)))
  refine out1 (s := [some (.p (.int n)), none]) (m := []) ?_
  rw [st2, g_law_text_e, gSeq_eq, gIfE_eq, isN_c (x := .int n) rfl, rbind_ok, if_neg (by simp [DL.isNon]), gn, rbind_ok, sq2_nx, gSeq_eq, gIfE_eq, isa_c (x := .int n) rfl, rbind_ok, if_pos (show PyData.isInt (.int n) = true from rfl)]
  simp [hs]
theorem law_text_str (F : FS) (w : List Nat) : fnF 1 2 (g__law_text F) [.p (.str (Tx w))] [] = .ok (.p (.str (Tx (strT w)))) ⟨[], []⟩ := by
  refine out1 (s := [some (.p (.str (Tx w))), none]) (m := []) ?_
  have c : gB (gBin (fB2 pNe) (gVar 0) (gC (.str ""))) ⟨[some (.p (.str (Tx w))), none], []⟩ = .ok (!decide (w = [])) ⟨[some (.p (.str (Tx w))), none], []⟩ := by
    rw [gB_eq, bind_eq, gBin_eq, bind_eq]
    show ((fB2 pNe (.p (.str (Tx w))) (.p (.str (Tx []))) _).bind asB) = _
    rw [fB2_p, ne_tx]; rfl
  have gi : gIfE (gB (gBin (fB2 pNe) (gVar 0) (gC (.str "")))) (gVar 0) (gC (.str ".")) ⟨[some (.p (.str (Tx w))), none], []⟩ = .ok (.p (.str (Tx (strT w)))) ⟨[some (.p (.str (Tx w))), none], []⟩ := by
    rw [gIfE_eq, c, rbind_ok]
    unfold strT
    cases w with
    | nil => rw [if_neg (by simp), if_pos rfl, ← s_dot]; rfl
    | cons c r => rw [if_pos (by simp), if_neg (by simp)]; rfl
  rw [st2, g_law_text_e, gSeq_eq, gIfE_eq, isN_c (x := .str (Tx w)) rfl, rbind_ok, if_neg (by simp [DL.isNon]), gn, rbind_ok, sq2_nx, gSeq_eq, gIfE_eq, isa_c (x := .str (Tx w)) rfl, rbind_ok, if_neg (by simp [PyData.isInt]), gn, rbind_ok, sq2_nx, gSeq_eq, gIfE_eq, isa_c (x := .str (Tx w)) rfl, rbind_ok, if_pos (show PyData.isStr (.str (Tx w)) = true from rfl), gSeq_eq, gRet_eq, bind_eq, gi]
  rfl
theorem law_text_seq {F : FS} {t : PyData} {xs : List PyData} {f : PyData → List Nat} (hi : itA (.p t) = M.ret xs) (h1 : DL.isNon t = false) (h2 : t.isInt = false) (h3 : t.isStr = false) (hF : ∀ x ∈ xs, F [.p x] [] = .ok (.p (.str (Tx (f x)))) ⟨[], []⟩)
    (hz : ((xs.map f).map List.length).sum + (xs.map f).length ≤ 100000) : fnF 1 2 (g__law_text F) [.p t] [] = .ok (.p (.str (Tx (seqT (xs.map f))))) ⟨[], []⟩ := by
  refine out1 (s := [some (.p t), none]) (m := []) ?_
  have gl := gLc_ok (s := [some (.p t), none]) (m := []) (gi := (gVar 0).bind itA) (i := 1) (vs := [1]) (ge := (DL.gCons (gVar 1) (M.ret [])).bind (callM 1 F)) (xs := xs) (fun x => .str (Tx (f x))) (by rw [bind_eq]; show itA (.p t) _ = _; rw [hi]; rfl)
    (by rw [sizeLine_eq]; rw [List.length_map] at hz; omega) (fun x hx => call1 (F := F) (i := 1) (x := x) rfl (hF x hx))
  have em : xs.map (fun x => PyData.str (Tx (f x))) = (xs.map f).map fun l => PyData.str (Tx l) := by rw [List.map_map]; rfl
  rw [em] at gl
  have hj : lGo F ⟨[some (.p t), none], []⟩ = .ok (.p (.str (Tx (TL.joinL [32] (xs.map f))))) ⟨[some (.p t), none], []⟩ := by
    unfold lGo
    rw [gC_eq, bind_eq, ret_eq, rbind_ok, bind_eq]
    show ((gLc false [1] ((gVar 0).bind itA) (put 1) (M.ret true) ((DL.gCons (gVar 1) (M.ret [])).bind (callM 1 F)) _).bind fun d => fJoin (" " : Str) d) = _
    rw [gl, rbind_ok, s_sp]
    exact join_p hz _
  have hl := joinL_len (xs.map f)
  rw [st2, g_law_text_e, gSeq_eq, gIfE_eq, isN_c (x := t) rfl, rbind_ok, if_neg (by simp [h1]), gn, rbind_ok, sq2_nx, gSeq_eq, gIfE_eq, isa_c (x := t) rfl, rbind_ok, if_neg (by simp [h2]), gn, rbind_ok, sq2_nx, gSeq_eq, gIfE_eq, isa_c (x := t) rfl, rbind_ok, if_neg (by simp [h3]), gn, rbind_ok, sq2_nx,
    gSeq_eq, gRet_eq, bind_eq, gBin_eq, bind_eq, gBin_eq, bind_eq, gC_eq, ret_eq, rbind_ok, bind_eq, hj, rbind_ok, s_op, add_tx _ _ _ (by simp; omega), ret_eq, rbind_ok, gC_eq, bind_eq, ret_eq, rbind_ok, s_cl, add_tx _ _ _ (by simp; omega)]
  rfl
end
end K20
namespace K20
open PySem PySem.Spec PyProof.Rows L2 DL
section
mutual
def txt : PyData → List Nat
  | .none => [110, 111, 110, 101]
  | .bool _ => []
  | .int i => intT i
  | .str x => strT x.cps.toList
  | .list xs => seqT (txtAll xs)
  | .tuple xs => seqT (txtAll xs)
  | .dict _ => []
def txtAll : List PyData → List (List Nat)
  | [] => []
  | x :: xs => txt x :: txtAll xs
end
theorem txtAll_map : ∀ xs, txtAll xs = xs.map txt
  | [] => by rw [txtAll]; rfl
  | x :: xs => by rw [txtAll, txtAll_map xs]; rfl
/-- the law's terms -/
def Tm : Nat → PyData → Prop
  | _, .none => True
  | _, .int i => i.natAbs < 10 ^ 20
  | _, .str x => ¬ BadS x.cps.toList ∧ x.cps.toList.length ≤ 5
  | k + 1, .tuple xs => xs.length ≤ 3 ∧ ∀ x ∈ xs, Tm k x
  | 0, .tuple _ => False
  | _, .bool _ => False
  | _, .list _ => False
  | _, .dict _ => False
def Lk : Nat → Nat
  | 0 => 21
  | k + 1 => 3 * Lk k + 5
theorem lk_21 : ∀ k, 21 ≤ Lk k
  | 0 => Nat.le_refl _
  | k + 1 => by have := lk_21 k; show 21 ≤ 3 * Lk k + 5; omega
theorem intT_len {i : Int} (h : i.natAbs < 10 ^ 20) : (intT i).length ≤ 21 := by
  have := TL.numL_len (k := 20) (by decide) h
  unfold intT
  split
  · simp only [List.length_cons]; omega
  · omega
theorem sum_le {b : Nat} : ∀ ls : List (List Nat), (∀ l ∈ ls, l.length ≤ b) → (ls.map List.length).sum ≤ ls.length * b
  | [], _ => by simp
  | l :: r, h => by
    have h1 := h l List.mem_cons_self
    have h2 := sum_le r fun x hx => h x (List.mem_cons_of_mem _ hx)
    simp only [List.map_cons, List.sum_cons, List.length_cons, Nat.add_mul]
    omega
theorem txt_len : ∀ (k : Nat) (t : PyData), Tm k t → (txt t).length ≤ Lk k
  | k, .none, _ => by have := lk_21 k; rw [txt]; show 4 ≤ _; omega
  | k, .int i, h => by
    have := lk_21 k
    have h : i.natAbs < 10 ^ 20 := by cases k <;> exact h
    have := intT_len h
    rw [txt]; omega
  | k, .str x, h => by
    have := lk_21 k
    have h : ¬ BadS x.cps.toList ∧ x.cps.toList.length ≤ 5 := by cases k <;> exact h
    rw [txt]; unfold strT
    split
    · show 1 ≤ _; omega
    · omega
  | k + 1, .tuple xs, h => by
    have h : xs.length ≤ 3 ∧ ∀ x ∈ xs, Tm k x := h
    rw [txt, txtAll_map]
    unfold seqT
    have h1 := joinL_len (xs.map txt)
    have h2 := sum_le (b := Lk k) (xs.map txt) (by
      intro l hl
      obtain ⟨x, hx, rfl⟩ := List.mem_map.mp hl
      exact txt_len k x (h.2 x hx))
    rw [List.length_map] at h1 h2
    have h3 : xs.length * Lk k ≤ 3 * Lk k := Nat.mul_le_mul_right _ h.1
    show _ ≤ 3 * Lk k + 5
    simp only [List.length_cons, List.length_append, List.length_nil]
    have := h.1
    omega
  | 0, .tuple _, h => h.elim
  | 0, .bool _, h => h.elim
  | k + 1, .bool _, h => h.elim
  | 0, .list _, h => h.elim
  | k + 1, .list _, h => h.elim
  | 0, .dict _, h => h.elim
  | k + 1, .dict _, h => h.elim
theorem tm_str {k : Nat} {x : Str} (h : Tm k (.str x)) : ¬ BadS x.cps.toList ∧ x.cps.toList.length ≤ 5 := by cases k <;> exact h
theorem tm_int {k : Nat} {i : Int} (h : Tm k (.int i)) : i.natAbs < 10 ^ 20 := by cases k <;> exact h
theorem items_sum {k : Nat} {xs : List PyData} (hk : Lk k ≤ 10000) (h : xs.length ≤ 3 ∧ ∀ x ∈ xs, Tm k x) : ((xs.map txt).map List.length).sum + (xs.map txt).length ≤ 100000 := by
  have h2 := sum_le (b := Lk k) (xs.map txt) (by
    intro l hl
    obtain ⟨x, hx, rfl⟩ := List.mem_map.mp hl
    exact txt_len k x (h.2 x hx))
  rw [List.length_map] at h2 ⊢
  have h3 : xs.length * Lk k ≤ 3 * Lk k := Nat.mul_le_mul_right _ h.1
  have := h.1
  omega
theorem lk_mono {k : Nat} (h : Lk (k + 1) ≤ 10000) : Lk k ≤ 10000 := by
  have : Lk (k + 1) = 3 * Lk k + 5 := rfl
  omega
theorem tx_tl (x : Str) : Tx x.cps.toList = x := SX.S_tl x
theorem term_text_tm : ∀ (k n : Nat) (t : PyData), Lk k ≤ 10000 → k < n → Tm k t → F_term_text n [.p t] [] = .ok (.p (.str (Tx (txt t)))) ⟨[], []⟩
  | k, 0, t, _, hn, _ => by omega
  | k, n + 1, .none, _, _, _ => by rw [F_term_text, txt]; exact term_text_none _
  | k, n + 1, .int i, _, _, h => by
    rw [F_term_text, term_text_int, txt]
    have := tm_int h
    have p : (10 : Nat) ^ 20 < 10 ^ 4000 := Nat.pow_lt_pow_right (by decide) (by decide)
    generalize (10 : Nat) ^ 4000 = B at *
    generalize (10 : Nat) ^ 20 = B at *
    rw [if_pos (by omega)]
  | k, n + 1, .str x, _, _, h => by
    obtain ⟨h1, h2⟩ := tm_str h
    rw [F_term_text, txt]
    have := term_text_str (F_term_text n) x.cps.toList (by omega)
    rw [if_neg h1, tx_tl] at this
    exact this
  | k + 1, n + 1, .tuple xs, hk, hn, h => by
    have h : xs.length ≤ 3 ∧ ∀ x ∈ xs, Tm k x := h
    rw [F_term_text, txt, txtAll_map]
    exact term_text_seq (xs := xs) (f := txt) rfl rfl rfl rfl (fun x hx => term_text_tm k n x (lk_mono hk) (by omega) (h.2 x hx)) (items_sum (lk_mono hk) h)
  | 0, _, .tuple _, _, _, h => h.elim
  | 0, _, .bool _, _, _, h => h.elim
  | k + 1, _, .bool _, _, _, h => h.elim
  | 0, _, .list _, _, _, h => h.elim
  | k + 1, _, .list _, _, _, h => h.elim
  | 0, _, .dict _, _, _, h => h.elim
  | k + 1, _, .dict _, _, _, h => h.elim
/-- the term's list -/
theorem term_text_list {k n : Nat} {xs : List PyData} (hk : Lk k ≤ 10000) (hn : k < n) (h : Tm k (.tuple xs)) : F_term_text n [.p (.list xs)] [] = .ok (.p (.str (Tx (txt (.tuple xs))))) ⟨[], []⟩ := by
  cases n with
  | zero => omega
  | succ n =>
    cases k with
    | zero => exact h.elim
    | succ k =>
      have h : xs.length ≤ 3 ∧ ∀ x ∈ xs, Tm k x := h
      rw [F_term_text, txt, txtAll_map]
      exact term_text_seq (xs := xs) (f := txt) rfl rfl rfl rfl (fun x hx => term_text_tm k n x (lk_mono hk) (by omega) (h.2 x hx)) (items_sum (lk_mono hk) h)
theorem law_text_tm : ∀ (k n : Nat) (t : PyData), Lk k ≤ 10000 → k < n → Tm k t → F__law_text n [.p t] [] = .ok (.p (.str (Tx (txt t)))) ⟨[], []⟩
  | k, 0, t, _, hn, _ => by omega
  | k, n + 1, .none, _, _, _ => by rw [F__law_text, txt]; exact law_text_none _
  | k, n + 1, .int i, _, _, h => by
    rw [F__law_text, txt]
    exact law_text_int _ i (tm_int h)
  | k, n + 1, .str x, _, _, h => by
    rw [F__law_text, txt]
    have := law_text_str (F__law_text n) x.cps.toList
    rw [tx_tl] at this
    exact this
  | k + 1, n + 1, .tuple xs, hk, hn, h => by
    have h : xs.length ≤ 3 ∧ ∀ x ∈ xs, Tm k x := h
    rw [F__law_text, txt, txtAll_map]
    exact law_text_seq (xs := xs) (f := txt) rfl rfl rfl rfl (fun x hx => law_text_tm k n x (lk_mono hk) (by omega) (h.2 x hx)) (items_sum (lk_mono hk) h)
  | 0, _, .tuple _, _, _, h => h.elim
  | 0, _, .bool _, _, _, h => h.elim
  | k + 1, _, .bool _, _, _, h => h.elim
  | 0, _, .list _, _, _, h => h.elim
  | k + 1, _, .list _, _, _, h => h.elim
  | 0, _, .dict _, _, _, h => h.elim
  | k + 1, _, .dict _, _, _, h => h.elim
/-! ### back again -/
/-- what may stand behind a term -/
def Post (p : List Nat) : Prop := p = [] ∨ ∃ c r, p = c :: r ∧ (c = 32 ∨ c = 41)
theorem tw {b : List Nat} (hb : 32 ∉ b ∧ 41 ∉ b) {p : List Nat} (hp : Post p) : ∀ w : List Nat, (∀ c ∈ w, c ∈ b) → (w ++ p).takeWhile (· ∈ b) = w
  | [], _ => by
    rcases hp with rfl | ⟨c, r, rfl, h | h⟩
    · rfl
    · subst h; simp [List.takeWhile_cons, hb.1]
    · subst h; simp [List.takeWhile_cons, hb.2]
  | c :: w, h => by
    have h1 := h c List.mem_cons_self
    rw [List.cons_append, List.takeWhile_cons, if_pos (decide_eq_true h1), tw hb hp w fun x hx => h x (List.mem_cons_of_mem _ hx)]
theorem isAt_h {a : List Nat} {i : Nat} {c : Nat} {r b : List Nat} (h : a.drop i = c :: r) : isAt a i b = decide (c ∈ b) := (isAt_cons h).1
theorem numL_h {n : Nat} {c : Nat} {r : List Nat} (h : TL.numL n = c :: r) (hc : c = 48) : n = 0 := by
  induction n using Nat.strongRecOn generalizing r with
  | _ n ih =>
    by_cases h10 : n < 10
    · rw [TL.numL_lt h10] at h
      have := (List.cons.inj h).1
      omega
    · rw [TL.numL_step (by omega)] at h
      cases hq : TL.numL (n / 10) with
      | nil => exact absurd hq (TL.numL_ne _)
      | cons d q =>
        rw [hq, List.cons_append] at h
        have e := (List.cons.inj h).1
        have := ih (n / 10) (by omega) (by rw [hq, e])
        omega
theorem dropAdd {a : List Nat} {i : Nat} {w p : List Nat} (h : a.drop i = w ++ p) : a.drop (i + w.length) = p := by
  rw [← List.drop_drop, h]
  simp
theorem int_back {a : List Nat} {i : Nat} {n : Int} {p : List Nat} (hn : n.natAbs < 10 ^ 20) (hp : Post p) (h : a.drop i = intT n ++ p) : intP a i = .ok (n, i + (intT n).length) := by
  have hl := TL.numL_len (k := 20) (by decide) hn
  have hd := numL_dig n.natAbs
  obtain ⟨w, hw⟩ : ∃ w, w = TL.numL n.natAbs := ⟨_, rfl⟩
  have hv : val w = (n.natAbs : Int) := by rw [hw]; unfold val; rw [TL.numL_val]
  have hne := TL.numL_ne n.natAbs
  have hh : ∀ c r, w = c :: r → c = 48 → n.natAbs = 0 := fun c r e => numL_h (by rw [← hw]; exact e)
  unfold intT at h ⊢
  rw [← hw] at hl hd hne h ⊢
  have run_w : ∀ j, a.drop j = w ++ p → run a dig j = w := fun j hj => by
    unfold run; rw [hj]; exact tw (by decide) hp w hd
  cases hc : w with
  | nil => exact absurd hc hne
  | cons c r =>
    have hcd : c ∈ dig := hd c (by rw [hc]; exact List.mem_cons_self)
    have hdr : ∀ c ∈ dig, c ≠ 45 := by decide
    have c45 : c ≠ 45 := hdr c hcd
    by_cases hneg : n < 0
    · rw [if_pos hneg] at h ⊢
      have h1 : isAt a i [45] = true := by rw [isAt_h (c := 45) (r := w ++ p) h]; decide
      have h2 : a.drop (i + 1) = w ++ p := (isAt_cons (b := []) (c := 45) (r := w ++ p) h).2
      have a1 : at1 a i = i + 1 := by unfold at1; rw [if_pos h1]
      have hc0 : c ≠ 48 := fun z => by have := hh c r hc z; omega
      have h3 : isAt a (i + 1) dig = true := by rw [isAt_h (c := c) (r := r ++ p) (by rw [h2, hc]; rfl)]; exact decide_eq_true hcd
      have h4 : isAt a (i + 1) [48] = false := by rw [isAt_h (c := c) (r := r ++ p) (by rw [h2, hc]; rfl)]; simpa using hc0
      unfold intP
      rw [a1, run_w _ h2, h1, h3, h4]
      simp only [Bool.not_true, Bool.and_false, Bool.or_false, Bool.false_and, Bool.false_eq_true, if_false, if_true]
      rw [if_neg (by omega), hv, hc]
      congr 2
      · omega
      · simp only [List.length_cons]; omega
    · rw [if_neg hneg] at h ⊢
      have hc1 : a.drop i = c :: (r ++ p) := by rw [h, hc]; rfl
      have h1 : isAt a i [45] = false := by rw [isAt_h hc1]; simpa using c45
      have a1 : at1 a i = i := by unfold at1; rw [h1]; rfl
      have h3 : isAt a i dig = true := by rw [isAt_h hc1]; exact decide_eq_true hcd
      have h4 : (isAt a i [48] && decide (1 < w.length)) = false := by
        rw [isAt_h hc1]
        by_cases z : c = 48
        · have z0 := hh c r hc z
          have : w = [48] := by rw [hw, z0]; rw [TL.numL_lt (by decide)]
          rw [this]; simp
        · simp [z]
      unfold intP
      rw [a1, run_w _ h, h1, h3, h4]
      simp only [Bool.not_true, Bool.false_and, Bool.or_false, Bool.false_eq_true, if_false]
      rw [if_neg (by omega), hv, hc]
      congr 2
      omega
theorem sml_no : ∀ c ∈ sml, c ≠ 40 ∧ c ≠ 46 ∧ c ≠ 41 ∧ c ≠ 32 := by decide
theorem dig_no : ∀ c ∈ dig, c ≠ 40 ∧ c ≠ 46 ∧ c ≠ 41 ∧ c ≠ 32 ∧ c ∉ sml := by decide
theorem word_back {a : List Nat} {i : Nat} {w p : List Nat} (hne : w ≠ []) (hw : ∀ c ∈ w, c ∈ sml) (hp : Post p) (h : a.drop i = w ++ p) : isAt a i [40] = false ∧ simpleP a i = .ok (wordP w, i + w.length) := by
  have hr : run a sml i = w := by unfold run; rw [h]; exact tw (by decide) hp w hw
  cases hc : w with
  | nil => exact absurd hc hne
  | cons c r =>
    have hcs := hw c (by rw [hc]; exact List.mem_cons_self)
    obtain ⟨n1, n2, _, _⟩ := sml_no c hcs
    have hc1 : a.drop i = c :: (r ++ p) := by rw [h, hc]; rfl
    have h1 : isAt a i [40] = false := by rw [isAt_h hc1]; simpa using n1
    have h2 : isAt a i [46] = false := by rw [isAt_h hc1]; simpa using n2
    have h3 : isAt a i sml = true := by rw [isAt_h hc1]; exact decide_eq_true hcs
    refine ⟨h1, ?_⟩
    unfold simpleP
    rw [if_neg (by rw [h2]; decide), if_pos h3, hr, hc]
theorem simple_int {a : List Nat} {i : Nat} {n : Int} {p : List Nat} (hn : n.natAbs < 10 ^ 20) (hp : Post p) (h : a.drop i = intT n ++ p) : isAt a i [40] = false ∧ simpleP a i = .ok (.int n, i + (intT n).length) := by
  have hb := int_back hn hp h
  obtain ⟨c, r, hc, hcd⟩ : ∃ c r, intT n = c :: r ∧ (c = 45 ∨ c ∈ dig) := by
    unfold intT
    split
    · exact ⟨45, _, rfl, .inl rfl⟩
    · cases hq : TL.numL n.natAbs with
      | nil => exact absurd hq (TL.numL_ne _)
      | cons c r => exact ⟨c, r, rfl, .inr (numL_dig n.natAbs c (by rw [hq]; exact List.mem_cons_self))⟩
  have hno : c ≠ 40 ∧ c ≠ 46 ∧ c ∉ sml := by
    rcases hcd with rfl | hcd
    · decide
    · have := dig_no c hcd; exact ⟨this.1, this.2.1, this.2.2.2.2⟩
  have hc1 : a.drop i = c :: (r ++ p) := by rw [h, hc]; rfl
  have h1 : isAt a i [40] = false := by rw [isAt_h hc1]; simpa using hno.1
  have h2 : isAt a i [46] = false := by rw [isAt_h hc1]; simpa using hno.2.1
  have h3 : isAt a i sml = false := by rw [isAt_h hc1]; exact decide_eq_false hno.2.2
  refine ⟨h1, ?_⟩
  unfold simpleP
  rw [if_neg (by rw [h2]; decide), if_neg (by rw [h3]; decide), hb]
theorem dot_back {a : List Nat} {i : Nat} {p : List Nat} (h : a.drop i = 46 :: p) : isAt a i [40] = false ∧ simpleP a i = .ok (.str "", i + 1) := by
  have h1 : isAt a i [40] = false := by rw [isAt_h h]; decide
  have h2 : isAt a i [46] = true := by rw [isAt_h h]; decide
  refine ⟨h1, ?_⟩
  unfold simpleP
  rw [if_pos h2]
/-- the texts behind the first, each with its blank -/
def tailL : List PyData → List Nat
  | [] => []
  | x :: xs => 32 :: (txt x ++ tailL xs)
theorem join_tail (x : PyData) : ∀ xs : List PyData, TL.joinL [32] ((x :: xs).map txt) = txt x ++ tailL xs
  | [] => by simp [TL.joinL, tailL]
  | y :: xs => by
    have := join_tail y xs
    rw [List.map_cons] at this
    rw [List.map_cons, List.map_cons, TL.joinL, this]
    simp [tailL]
  termination_by xs => xs.length
theorem tail_post {p : List Nat} : ∀ xs, Post (tailL xs ++ 41 :: p)
  | [] => .inr ⟨41, p, rfl, .inr rfl⟩
  | x :: xs => .inr ⟨32, _, rfl, .inl rfl⟩
theorem tail_len : ∀ xs, xs.length ≤ (tailL xs).length
  | [] => Nat.le_refl _
  | x :: xs => by have := tail_len xs; simp only [tailL, List.length_cons, List.length_append]; omega
theorem rows_tail {T : Nat → Except Nat (PyData × Nat)} {a p : List Nat} : ∀ (xs : List PyData), (∀ x ∈ xs, ∀ j p', a.drop j = txt x ++ p' → Post p' → T j = .ok (x, j + (txt x).length)) → ∀ (n i : Nat) (found : List PyData), found ≠ [] → xs.length < n → a.drop i = tailL xs ++ 41 :: p →
    rowsP T a n i found = .ok (.tuple (found ++ xs), i + (tailL xs).length + 1)
  | [], hT, n, i, found, hf, hn, h => by
    obtain ⟨n, rfl⟩ : ∃ m, n = m + 1 := ⟨n - 1, by simp at hn; omega⟩
    have h : a.drop i = 41 :: p := h
    rw [rowsP, if_pos (by rw [isAt_h h]; decide), List.append_nil]
    rfl
  | x :: xs, hT, n, i, found, hf, hn, h => by
    obtain ⟨n, rfl⟩ : ∃ m, n = m + 1 := ⟨n - 1, by simp at hn; omega⟩
    have h : a.drop i = 32 :: (txt x ++ (tailL xs ++ 41 :: p)) := by rw [h]; simp [tailL]
    have h32 : isAt a i [32] = true := by rw [isAt_h h]; decide
    have h41 : isAt a i [41] = false := by rw [isAt_h h]; decide
    have h2 := (isAt_cons (b := []) h).2
    have e := hT x List.mem_cons_self (i + 1) _ h2 (tail_post xs)
    have ih := rows_tail xs (fun y hy => hT y (List.mem_cons_of_mem _ hy)) n (i + 1 + (txt x).length) (found ++ [x]) (by simp) (by simp only [List.length_cons] at hn; omega) (dropAdd h2)
    rw [rowsP, if_neg (by rw [h41]; decide), if_neg (by rw [h32]; simp), if_neg hf, e]
    show rowsP T a n (i + 1 + (txt x).length) (found ++ [x]) = _
    rw [ih, List.append_assoc]
    congr 2
    simp only [tailL, List.length_cons, List.length_append]
    omega
theorem txt_head {k : Nat} {t : PyData} (h : Tm k t) : ∃ c r, txt t = c :: r ∧ c ≠ 41 := by
  cases t with
  | none => exact ⟨110, [111, 110, 101], by rw [txt], by decide⟩
  | int i =>
    rw [txt]; unfold intT
    split
    · exact ⟨45, _, rfl, by decide⟩
    · cases hq : TL.numL i.natAbs with
      | nil => exact absurd hq (TL.numL_ne _)
      | cons c r => exact ⟨c, r, rfl, (dig_no c (numL_dig i.natAbs c (by rw [hq]; exact List.mem_cons_self))).2.2.1⟩
  | str x =>
    obtain ⟨h1, h2⟩ := tm_str h
    rw [txt]; unfold strT
    cases hq : x.cps.toList with
    | nil => exact ⟨46, [], rfl, by decide⟩
    | cons c r =>
      rw [if_neg (by simp)]
      refine ⟨c, r, rfl, ?_⟩
      have : ∀ c ∈ x.cps.toList, c ∈ sml := Classical.byContradiction fun z => h1 (.inr z)
      exact (sml_no c (this c (by rw [hq]; exact List.mem_cons_self))).2.2.1
  | tuple xs => exact ⟨40, _, by rw [txt]; rfl, by decide⟩
  | bool b => cases k <;> exact h.elim
  | list b => cases k <;> exact h.elim
  | dict b => cases k <;> exact h.elim
theorem term_simple {a : List Nat} {d i : Nat} {r : Except Nat (PyData × Nat)} (h : isAt a i [40] = false ∧ simpleP a i = r) : termP a d i = r := by
  cases d with
  | zero => rw [termP, if_neg (by rw [h.1]; decide), h.2]
  | succ d => rw [termP, if_neg (by rw [h.1]; decide), h.2]
theorem term_back : ∀ (k : Nat) (t : PyData), Tm k t → ∀ (a : List Nat) (d i : Nat) (p : List Nat), k ≤ d → a.drop i = txt t ++ p → Post p → termP a d i = .ok (t, i + (txt t).length)
  | k, .none, _, a, d, i, p, _, h, hp => by
    rw [txt] at h ⊢
    exact term_simple (word_back (by decide) (by decide) hp h)
  | k, .int n, ht, a, d, i, p, _, h, hp => by
    rw [txt] at h ⊢
    exact term_simple (simple_int (tm_int ht) hp h)
  | k, .str x, ht, a, d, i, p, _, h, hp => by
    obtain ⟨h1, h2⟩ := tm_str ht
    rw [txt] at h ⊢
    unfold strT at h ⊢
    by_cases hx : x.cps.toList = []
    · rw [if_pos hx] at h ⊢
      have ex : x = "" := by
        have := tx_tl x
        rw [hx] at this; exact this.symm
      rw [ex]
      exact term_simple (dot_back h)
    · rw [if_neg hx] at h ⊢
      have hs : ∀ c ∈ x.cps.toList, c ∈ sml := Classical.byContradiction fun z => h1 (.inr z)
      have := word_back hx hs hp h
      have hw : wordP x.cps.toList = .str x := by
        unfold wordP
        rw [if_neg fun z => h1 (.inl z), tx_tl]
      rw [hw] at this
      exact term_simple this
  | k + 1, .tuple xs, ht, a, d, i, p, hd, h, hp => by
    have ht : xs.length ≤ 3 ∧ ∀ x ∈ xs, Tm k x := ht
    obtain ⟨d, rfl⟩ : ∃ e, d = e + 1 := ⟨d - 1, by omega⟩
    rw [txt, txtAll_map] at h ⊢
    unfold seqT at h ⊢
    have h0 : a.drop i = 40 :: (TL.joinL [32] (xs.map txt) ++ 41 :: p) := by rw [h]; simp
    have h1 : isAt a i [40] = true := by rw [isAt_h h0]; decide
    have h2 := (isAt_cons (b := []) h0).2
    rw [termP, if_pos h1]
    have hT : ∀ x ∈ xs, ∀ j p', a.drop j = txt x ++ p' → Post p' → termP a d j = .ok (x, j + (txt x).length) := fun x hx j p' hj hp' => term_back k x (ht.2 x hx) a d j p' (by omega) hj hp'
    cases xs with
    | nil =>
      have h2 : a.drop (i + 1) = 41 :: p := h2
      rw [rowsP, if_pos (by rw [isAt_h h2]; decide)]
      rfl
    | cons x xs =>
      rw [join_tail, List.append_assoc] at h2
      obtain ⟨c, r, hc, hc41⟩ := txt_head (ht.2 x List.mem_cons_self)
      have h41 : isAt a (i + 1) [41] = false := by
        have : a.drop (i + 1) = c :: (r ++ (tailL xs ++ 41 :: p)) := by rw [h2, hc]; rfl
        rw [isAt_h this]; simpa using hc41
      have e := hT x List.mem_cons_self (i + 1) _ h2 (tail_post xs)
      have hlen : xs.length < a.length := by
        have q1 := congrArg List.length (dropAdd h2)
        have q2 := tail_len xs
        simp only [List.length_drop, List.length_append, List.length_cons] at q1
        omega
      have rt := rows_tail xs (fun y hy => hT y (List.mem_cons_of_mem _ hy)) a.length (i + 1 + (txt x).length) [x] (by simp) hlen (dropAdd h2)
      rw [rowsP, if_neg (by rw [h41]; decide), if_neg (by simp), if_pos rfl, e]
      show rowsP (termP a d) a a.length (i + 1 + (txt x).length) ([] ++ [x]) = _
      rw [List.nil_append, rt, join_tail]
      congr 2
      simp only [List.length_cons, List.length_append, List.length_nil]
      omega
  | 0, .tuple _, h, _, _, _, _, _, _, _ => h.elim
  | 0, .bool _, h, _, _, _, _, _, _, _ => h.elim
  | k + 1, .bool _, h, _, _, _, _, _, _, _ => h.elim
  | 0, .list _, h, _, _, _, _, _, _, _ => h.elim
  | k + 1, .list _, h, _, _, _, _, _, _, _ => h.elim
  | 0, .dict _, h, _, _, _, _, _, _, _ => h.elim
  | k + 1, .dict _, h, _, _, _, _, _, _, _ => h.elim
theorem read_back {k : Nat} (hk : k ≤ 24) {t : PyData} (h : Tm k t) : readP (txt t) = .ok t := by
  have := term_back k t h (txt t) 24 0 [] hk (by simp) (.inl rfl)
  unfold readP
  rw [this]
  show (if 0 + (txt t).length < (txt t).length then _ else _) = _
  rw [if_neg (by omega)]
end
end K20
namespace K20
open PySem PySem.Spec PyProof.Rows L2 DL
section
/-! ### what repr can show -/
structure OkT (D : Nat) (t : PyData) (c : Nat) : Prop where
  lv : t.leavesShort 22 = true
  sh : t.showable = true
  nd : t.hasDict = false
  dp : t.depth ≤ D
  wt : t.weight + 1 ≤ 71 * c
structure OkL (D : Nat) (xs : List PyData) (c : Nat) : Prop where
  lv : PyData.leavesShortAll 22 xs = true
  sh : PyData.showableAll xs = true
  nd : PyData.hasDictAll xs = false
  dp : PyData.depthAll xs ≤ D
  wt : PyData.weightAll xs ≤ 71 * c
theorem okl_nil (D c : Nat) : OkL D [] c := ⟨by simp [PyData.leavesShortAll], by simp [PyData.showableAll], by simp [PyData.hasDictAll], by simp [PyData.depthAll], by simp [PyData.weightAll]⟩
theorem lv_app (t : PyData) : ∀ xs, PyData.leavesShortAll 22 (xs ++ [t]) = (PyData.leavesShortAll 22 xs && t.leavesShort 22)
  | [] => by simp [PyData.leavesShortAll]
  | x :: xs => by simp only [List.cons_append, PyData.leavesShortAll, lv_app t xs, Bool.and_assoc]
theorem sh_app (t : PyData) : ∀ xs, PyData.showableAll (xs ++ [t]) = (PyData.showableAll xs && t.showable)
  | [] => by simp [PyData.showableAll]
  | x :: xs => by simp only [List.cons_append, PyData.showableAll, sh_app t xs, Bool.and_assoc]
theorem nd_app (t : PyData) : ∀ xs, PyData.hasDictAll (xs ++ [t]) = (PyData.hasDictAll xs || t.hasDict)
  | [] => by simp [PyData.hasDictAll]
  | x :: xs => by simp only [List.cons_append, PyData.hasDictAll, nd_app t xs, Bool.or_assoc]
theorem dp_app (t : PyData) : ∀ xs, PyData.depthAll (xs ++ [t]) = max (PyData.depthAll xs) t.depth
  | [] => by simp [PyData.depthAll]
  | x :: xs => by simp only [List.cons_append, PyData.depthAll, dp_app t xs, Nat.max_assoc]
theorem wt_app (t : PyData) : ∀ xs, PyData.weightAll (xs ++ [t]) = PyData.weightAll xs + (t.weight + 1)
  | [] => by simp [PyData.weightAll]
  | x :: xs => by simp only [List.cons_append, PyData.weightAll, wt_app t xs]; omega
theorem OkL.app {D : Nat} {xs : List PyData} {t : PyData} {c e : Nat} (h : OkL D xs c) (g : OkT D t e) : OkL D (xs ++ [t]) (c + e) := by
  refine ⟨?_, ?_, ?_, ?_, ?_⟩
  · rw [lv_app, h.lv, g.lv]; rfl
  · rw [sh_app, h.sh, g.sh]; rfl
  · rw [nd_app, h.nd, g.nd]; rfl
  · rw [dp_app]; have := h.dp; have := g.dp; omega
  · rw [wt_app]; have := h.wt; have := g.wt; omega
theorem OkL.mono {D : Nat} {xs : List PyData} {c e : Nat} (h : OkL D xs c) (he : c ≤ e) : OkL D xs e := ⟨h.lv, h.sh, h.nd, h.dp, by have := h.wt; omega⟩
theorem rows_ok {T : Nat → Except Nat (PyData × Nat)} {a : List Nat} {D : Nat} (hT : ∀ j t e, T j = .ok (t, e) → j < e ∧ OkT D t (e - j)) : ∀ (n i i0 : Nat) (xs : List PyData) (t : PyData) (e : Nat), i0 ≤ i → OkL D xs (i - i0) → rowsP T a n i xs = .ok (t, e) → ∃ ys, t = .tuple ys ∧ OkL D ys (e - i0) ∧ i < e
  | 0, i, i0, xs, t, e, _, _, h => by cases h
  | n + 1, i, i0, xs, t, e, hi, hx, h => by
    rw [rowsP] at h
    split at h
    · cases h; exact ⟨xs, rfl, hx.mono (by omega), by omega⟩
    · split at h
      · cases h
      · split at h
        · rename_i t' e' q
          obtain ⟨h1, h2⟩ := hT _ _ _ q
          have hle : i ≤ (if xs = [] then i else i + 1) := by split <;> omega
          obtain ⟨ys, e1, e2, e3⟩ := rows_ok hT n e' i0 (xs ++ [t']) t e (by omega) ((hx.app h2).mono (by omega)) h
          exact ⟨ys, e1, e2, by omega⟩
        · cases h
theorem val_lt : ∀ (w : List Nat) (acc k : Nat), (∀ c ∈ w, c ∈ dig) → acc < 10 ^ k → w.foldl (fun acc c => acc * 10 + (c - 48)) acc < 10 ^ (k + w.length)
  | [], acc, k, _, h => h
  | c :: w, acc, k, hw, h => by
    have hc : c - 48 ≤ 9 := by
      have : ∀ c ∈ dig, c - 48 ≤ 9 := by decide
      exact this c (hw c List.mem_cons_self)
    have := val_lt w (acc * 10 + (c - 48)) (k + 1) (fun x hx => hw x (List.mem_cons_of_mem _ hx)) (by rw [Nat.pow_succ]; omega)
    rw [List.foldl_cons, List.length_cons, show k + (w.length + 1) = k + 1 + w.length by omega]
    exact this
theorem val_20 {w : List Nat} (hw : ∀ c ∈ w, c ∈ dig) (hl : w.length ≤ 20) : (val w).natAbs < 10 ^ 20 := by
  have h := val_lt w 0 0 hw (by decide)
  have h2 : (10 : Nat) ^ (0 + w.length) ≤ 10 ^ 20 := Nat.pow_le_pow_right (by decide) (by omega)
  unfold val NumText.digitsVal
  rw [Int.natAbs_natCast]
  exact Nat.lt_of_lt_of_le h h2
theorem int_ok {i : Int} (h : i.natAbs < 10 ^ 20) (c : Nat) (hc : 0 < c) (D : Nat) : OkT D (.int i) c := by
  have hlog : i.natAbs.log2 ≤ 67 := by
    by_cases h0 : i.natAbs = 0
    · rw [h0]; decide
    · have := (Nat.log2_lt h0 (k := 68)).mpr (Nat.lt_trans h (by decide))
      omega
  refine ⟨?_, ?_, by simp [PyData.hasDict], by simp [PyData.depth], ?_⟩
  · simp only [PyData.leavesShort, decide_eq_true_eq]
    have : PyData.shown (.int i) = Str.ofString (toString i) := by simp only [PyData.shown]
    rw [this, toString_tx, tx_len]
    have := intT_len h
    omega
  · simp only [PyData.showable, decide_eq_true_eq]; omega
  · simp only [PyData.weight]
    split <;> omega
theorem str_ok {w : List Nat} (hw : ∀ c ∈ w, c < 16 ^ 8) (c : Nat) (hc : 0 < c) (hl : w.length ≤ c) (D : Nat) : OkT D (.str (Tx w)) c := by
  refine ⟨?_, by simp [PyData.showable], by simp [PyData.hasDict], by simp [PyData.depth], ?_⟩
  · simp only [PyData.leavesShort, List.all_eq_true, decide_eq_true_eq]
    exact hw
  · simp only [PyData.weight]
    have : w.toArray.size = w.length := by simp
    omega
theorem none_ok (c : Nat) (hc : 0 < c) (D : Nat) : OkT D .none c := ⟨by simp [PyData.leavesShort], by simp [PyData.showable], by simp [PyData.hasDict], by simp [PyData.depth], by simp [PyData.weight]; omega⟩
theorem intP_ok {a : List Nat} {i : Nat} {n : Int} {e : Nat} (h : intP a i = .ok (n, e)) : n.natAbs < 10 ^ 20 ∧ i < e := by
  unfold intP at h
  have h1 : i ≤ at1 a i := by unfold at1; split <;> omega
  split at h
  · cases h
  · rename_i k1
    split at h
    · cases h
    · split at h
      · cases h
      · rename_i k3
        injection h with h; injection h with h h'
        have hv := val_20 (run_all a dig (at1 a i)) (by omega)
        refine ⟨by rw [← h]; split <;> omega, ?_⟩
        have hd : isAt a (at1 a i) dig = true := by
          cases hq : isAt a (at1 a i) dig with
          | true => rfl
          | false => rw [hq] at k1; exact absurd rfl k1
        have := List.length_pos_iff.mpr (run_ne hd)
        omega
theorem simple_ok {a : List Nat} {i D : Nat} {t : PyData} {e : Nat} (h : simpleP a i = .ok (t, e)) : i < e ∧ OkT D t (e - i) := by
  unfold simpleP at h
  split at h
  · cases h
    exact ⟨by omega, str_ok (w := []) (by simp) _ (by omega) (by simp) D⟩
  · split at h
    · rename_i k
      cases h
      have hn := List.length_pos_iff.mpr (run_ne k)
      refine ⟨by omega, ?_⟩
      unfold wordP
      split
      · exact none_ok _ (by omega) D
      · refine str_ok (fun c hc => ?_) _ (by omega) (by omega) D
        have h1 := run_all a sml i c hc
        have h2 : ∀ c ∈ sml, c < 16 ^ 8 := by decide
        exact h2 c h1
    · split at h
      · rename_i n e' q
        cases h
        obtain ⟨h1, h2⟩ := intP_ok q
        exact ⟨h2, int_ok h1 _ (by omega) D⟩
      · cases h
theorem tup_ok {D c : Nat} {ys : List PyData} (h : OkL D ys c) : OkT (D + 1) (.tuple ys) (c + 1) := by
  refine ⟨?_, ?_, ?_, ?_, ?_⟩
  · simp only [PyData.leavesShort]; exact h.lv
  · simp only [PyData.showable]; exact h.sh
  · simp only [PyData.hasDict]; exact h.nd
  · simp only [PyData.depth]; have := h.dp; omega
  · simp only [PyData.weight]; have := h.wt; omega
theorem OkT.mono {D E : Nat} {t : PyData} {c e : Nat} (h : OkT D t c) (hD : D ≤ E) (he : c ≤ e) : OkT E t e := ⟨h.lv, h.sh, h.nd, Nat.le_trans h.dp hD, by have := h.wt; omega⟩
theorem term_ok {a : List Nat} : ∀ (d i : Nat) (t : PyData) (e : Nat), termP a d i = .ok (t, e) → i < e ∧ OkT d t (e - i)
  | 0, i, t, e, h => by
    rw [termP] at h
    split at h
    · cases h
    · exact simple_ok h
  | d + 1, i, t, e, h => by
    rw [termP] at h
    split at h
    · obtain ⟨ys, rfl, h1, h2⟩ := rows_ok (fun j t e q => term_ok d j t e q) _ (i + 1) (i + 1) [] t e (Nat.le_refl _) (okl_nil _ _) h
      exact ⟨by omega, (tup_ok h1).mono (Nat.le_refl _) (by omega)⟩
    · exact simple_ok h
/-- what may be shown -/
def Shy (x : PyData) : Prop := (!x.hasDict && x.showable && decide (x.depth ≤ lowD) && decide (x.shown.length ≤ sizeLine)) = true
theorem shy_two {z : List Nat} {t : PyData} {c : Nat} (hz : ∀ x ∈ z, x < 16 ^ 8) (hzl : z.length ≤ 10) (h : OkT 24 t c) (hc : c ≤ 5000) : Shy (.list [.str (Tx z), t]) := by
  have ok : OkL 24 [.str (Tx z), t] (11 + c) := by
    have := ((okl_nil 24 0).app (str_ok hz 11 (by decide) (by omega) 24)).app h
    rw [Nat.zero_add] at this
    exact this
  have lv : (PyData.list [.str (Tx z), t]).leavesShort 22 = true := by simp only [PyData.leavesShort]; exact ok.lv
  have w := PyData.shown_le 22 (by decide) _ lv
  have wt := ok.wt
  have e : (PyData.list [.str (Tx z), t]).weight = PyData.weightAll [.str (Tx z), t] := by simp only [PyData.weight]
  rw [e] at w
  have dp := ok.dp
  unfold Shy
  have h1 : (PyData.list [.str (Tx z), t]).hasDict = false := by simp only [PyData.hasDict]; exact ok.nd
  have h2 : (PyData.list [.str (Tx z), t]).showable = true := by simp only [PyData.showable]; exact ok.sh
  have h3 : (PyData.list [.str (Tx z), t]).depth ≤ lowD := by
    have : (PyData.list [.str (Tx z), t]).depth = PyData.depthAll [.str (Tx z), t] + 1 := by simp only [PyData.depth]
    rw [this]; show _ ≤ 60; omega
  have h4 : (PyData.list [.str (Tx z), t]).shown.length ≤ sizeLine := by rw [sizeLine_eq]; omega
  rw [h1, h2, decide_eq_true h3, decide_eq_true h4]; rfl
theorem repr_eq {x : PyData} (h : Shy x) (ρ : Sg) : cRepr [.p x] ρ = .ok (.p (.str x.shown)) ρ := by
  show ((M.ret x).bind shownM) ρ = _
  rw [bind_eq, ret_eq, rbind_ok]
  unfold shownM
  rw [show (!x.hasDict && x.showable && decide (x.depth ≤ lowD) && decide (x.shown.length ≤ sizeLine)) = true from h]
  rfl
/-! ### told and due -/
def dueV (a : List Nat) : PyData := match readP a with
  | .ok t => .list [.str "term", t]
  | .error e => .list [.str "bad", .int (e : Int)]
theorem mkL2 (x y : PyData) : mkL false [.p x, .p y] = M.ret (.p (.list [x, y])) := by
  have : decide (([x, y] : List PyData).length ≤ sizeLine) = true := decide_eq_true (by rw [sizeLine_eq]; show 2 ≤ 16777216; decide)
  show ifM (decide (([x, y] : List PyData).length ≤ sizeLine)) (newL false [x, y]) = _
  rw [this]; rfl
theorem told_eq (a : List Nat) (ha : a.length < 90000) : F__law_told [.p (.str (Tx a))] [] = .ok (.p (dueV a)) ⟨[], []⟩ := by
  have hr := read_term_eq a ha
  have e : g__law_told = gSeq (gTryAs 1 (gSeq (gRet ((DL.gCons (gC (.str "term")) (DL.gCons ((DL.gCons (gVar 0) (M.ret [])).bind (callM 1 F_read_term)) (M.ret []))).bind (mkL false))) gNext) (fun e => if e = "Malformed" then some true else none) (hTextFld "Malformed" "at" "bad")) gNext := rfl
  unfold dueV
  cases hq : readP a with
  | ok t =>
    rw [hq] at hr
    have c := call1 (F := F_read_term) (i := 0) (x := .str (Tx a)) (ρ := ⟨[some (.p (.str (Tx a))), none], []⟩) rfl hr
    refine out1 (s := [some (.p (.str (Tx a))), none]) (m := []) ?_
    rw [st2, e, gSeq_eq]
    have : gTryAs 1 (gSeq (gRet ((DL.gCons (gC (.str "term")) (DL.gCons ((DL.gCons (gVar 0) (M.ret [])).bind (callM 1 F_read_term)) (M.ret []))).bind (mkL false))) gNext) (fun e => if e = "Malformed" then some true else none) (hTextFld "Malformed" "at" "bad") ⟨[some (.p (.str (Tx a))), none], []⟩ = .ok (.rt (.p (.list [.str "term", t]))) ⟨[some (.p (.str (Tx a))), none], []⟩ := by
      unfold gTryAs
      rw [gSeq_eq, gRet_eq, bind_eq, bind_eq, gCons_eq, bind_eq, gC_eq, ret_eq, rbind_ok, bind_eq, gCons_eq, bind_eq, c, rbind_ok, bind_eq, ret_eq, rbind_ok, ret_eq, rbind_ok, ret_eq, rbind_ok, mkL2]
      rfl
    rw [this]
    rfl
  | error n =>
    rw [hq] at hr
    have c := call1E (F := F_read_term) (i := 0) (x := .str (Tx a)) (ρ := ⟨[some (.p (.str (Tx a))), none], []⟩) rfl hr
    refine out1 (s := [some (.p (.str (Tx a))), none]) (m := []) ?_
    rw [st2, e, gSeq_eq]
    have : gTryAs 1 (gSeq (gRet ((DL.gCons (gC (.str "term")) (DL.gCons ((DL.gCons (gVar 0) (M.ret [])).bind (callM 1 F_read_term)) (M.ret []))).bind (mkL false))) gNext) (fun e => if e = "Malformed" then some true else none) (hTextFld "Malformed" "at" "bad") ⟨[some (.p (.str (Tx a))), none], []⟩ = .ok (.rt (.p (.list [.str "bad", .int (n : Int)]))) ⟨[some (.p (.str (Tx a))), none], []⟩ := by
      unfold gTryAs
      rw [gSeq_eq, gRet_eq, bind_eq, bind_eq, gCons_eq, bind_eq, gC_eq, ret_eq, rbind_ok, bind_eq, gCons_eq, bind_eq, c, rbind_er]
      rfl
    rw [this]
    rfl
theorem gAnd_bad2 {ρ : Sg} {t : PyData} (h : gVar 1 ρ = .ok (.p t) ρ) : gAnd (gTru ((gVar 1).bind (fIsa PyData.isStr))) (gB (gBin (fB2 pEq) (gVar 1) (gC (.str "bad")))) ρ = .ok (isBad t) ρ := by
  obtain ⟨b, h1, h2⟩ := eq_bad t
  unfold gAnd
  rw [bind_eq, gTru_eq, bind_eq, bind_eq, h, rbind_ok]
  show ((if t.isStr = true then gB (gBin (fB2 pEq) (gVar 1) (gC (.str "bad"))) else M.ret false) ρ) = _
  rw [← h2]
  cases hs : t.isStr with
  | false => rw [if_neg (by decide), Bool.and_false]; rfl
  | true =>
    rw [if_pos rfl, gB_eq, bind_eq, gBin_eq, bind_eq, h, rbind_ok, gC_eq, bind_eq, ret_eq, rbind_ok, fB2_p, h1, Bool.and_true]
    rfl
theorem two_g12 (x : PyData) (e : Int) (s : List (Option DL.D)) (m : List Cell) : gSeqG 2 (gsCons (put 1) (gsCons (put 2) gsNil)) (.p (two x e)) ⟨s, m⟩ = .ok () ⟨(s.set 1 (some (.p x))).set 2 (some (.p (.int e))), m⟩ := rfl
theorem due_eq (a : List Nat) (ha : a.length < 90000) (hn : noBad a) : F__law_due [.p (.str (Tx a))] [] = .ok (.p (dueV a)) ⟨[], []⟩ := by
  have e : g__law_due = gSeq (gAsg ((DL.gCons (gVar 0) (DL.gCons (gC (.int 0)) (DL.gCons (gC (.int 0)) (M.ret [])))).bind (callM 3 (F__law_read 60))) (gSeqG 2 (gsCons (put 1) (gsCons (put 2) gsNil))))
    (gSeq (gIfE (gAnd (gTru ((gVar 1).bind (fIsa PyData.isStr))) (gB (gBin (fB2 pEq) (gVar 1) (gC (.str "bad"))))) (gSeq (gRet ((DL.gCons (gC (.str "bad")) (DL.gCons (gVar 2) (M.ret []))).bind (mkL false))) gNext) gNext)
    (gSeq (gRet (gIfE (gB (gBin (fB2 pLt) (gVar 2) ((DL.gCons (gVar 0) (M.ret [])).bind (c1 pLen)))) ((DL.gCons (gC (.str "bad")) (DL.gCons (gVar 2) (M.ret []))).bind (mkL false)) ((DL.gCons (gC (.str "term")) (DL.gCons (gVar 1) (M.ret []))).bind (mkL false)))) gNext)) := rfl
  have hr := law_read_all ha hn 24 0 60 0 (by omega) (by omega) (by omega)
  have hnb := term_nb hn 24 0
  have c : ((DL.gCons (gVar 0) (DL.gCons (gC (.int 0)) (DL.gCons (gC (.int 0)) (M.ret [])))).bind (callM 3 (F__law_read 60))) ⟨[some (.p (.str (Tx a))), none, none], []⟩ = .ok (.p (lst2 (termP a 24 0))) ⟨[some (.p (.str (Tx a))), none, none], []⟩ := by
    have eg : DL.gCons (gVar 0) (DL.gCons (gC (.int 0)) (DL.gCons (gC (.int 0)) (M.ret []))) ⟨[some (.p (.str (Tx a))), none, none], []⟩ = .ok ([.str (Tx a), .int ((0 : Nat) : Int), .int ((0 : Nat) : Int)].map DL.D.p) ⟨[some (.p (.str (Tx a))), none, none], []⟩ := rfl
    rw [bind_eq, eg, rbind_ok, call_pure (F := F__law_read 60) (n := 3) [.str (Tx a), .int ((0 : Nat) : Int), .int ((0 : Nat) : Int)] rfl hr]
  have s1 : ∀ t e', lst2 (termP a 24 0) = two t e' → gAsg ((DL.gCons (gVar 0) (DL.gCons (gC (.int 0)) (DL.gCons (gC (.int 0)) (M.ret [])))).bind (callM 3 (F__law_read 60))) (gSeqG 2 (gsCons (put 1) (gsCons (put 2) gsNil))) ⟨[some (.p (.str (Tx a))), none, none], []⟩ = .ok .nx ⟨[some (.p (.str (Tx a))), some (.p t), some (.p (.int e'))], []⟩ := fun t e' h => by
    rw [h] at c
    rw [gAsg_eq, bind_eq, c, rbind_ok, bind_eq, two_g12]
    rfl
  unfold dueV readP
  cases hq : termP a 24 0 with
  | error n =>
    have s1 := s1 (.str "bad") n (by rw [hq]; rfl)
    have cb := gAnd_bad2 (ρ := ⟨[some (.p (.str (Tx a))), some (.p (.str "bad")), some (.p (.int (n : Int)))], []⟩) (t := .str "bad") rfl
    refine out1 (s := [some (.p (.str (Tx a))), some (.p (.str "bad")), some (.p (.int (n : Int)))]) (m := []) ?_
    rw [st3, e, gSeq_eq, s1, rbind_ok, sq2_nx, gSeq_eq, gIfE_eq, cb, rbind_ok, if_pos isBad_bad, ret_two (g := gC (.str "bad")) (ge := gVar 2) (x := .str "bad") (e := (n : Int)) rfl rfl]
    rfl
  | ok q =>
    obtain ⟨t, n⟩ := q
    have s1 := s1 t n (by rw [hq]; rfl)
    have cb := gAnd_bad2 (ρ := ⟨[some (.p (.str (Tx a))), some (.p t), some (.p (.int (n : Int)))], []⟩) (t := t) rfl
    have nb : isBad t = false := by
      cases t with
      | str x =>
        have := hnb _ _ hq
        simp only [ne_eq, PyData.str.injEq] at this
        exact decide_eq_false this
      | _ => rfl
    rw [nb] at cb
    have cl : gB (gBin (fB2 pLt) (gVar 2) ((DL.gCons (gVar 0) (M.ret [])).bind (c1 pLen))) ⟨[some (.p (.str (Tx a))), some (.p t), some (.p (.int (n : Int)))], []⟩ = .ok (decide ((n : Int) < (a.length : Int))) ⟨[some (.p (.str (Tx a))), some (.p t), some (.p (.int (n : Int)))], []⟩ := by
      have := len_tx a ha
      simp [this]
    have fin1 : ∀ r, gIfE (gB (gBin (fB2 pLt) (gVar 2) ((DL.gCons (gVar 0) (M.ret [])).bind (c1 pLen)))) ((DL.gCons (gC (.str "bad")) (DL.gCons (gVar 2) (M.ret []))).bind (mkL false)) ((DL.gCons (gC (.str "term")) (DL.gCons (gVar 1) (M.ret []))).bind (mkL false)) ⟨[some (.p (.str (Tx a))), some (.p t), some (.p (.int (n : Int)))], []⟩ = .ok (.p r) ⟨[some (.p (.str (Tx a))), some (.p t), some (.p (.int (n : Int)))], []⟩ → F__law_due [.p (.str (Tx a))] [] = .ok (.p r) ⟨[], []⟩ := fun r hr => by
      refine out1 (s := [some (.p (.str (Tx a))), some (.p t), some (.p (.int (n : Int)))]) (m := []) ?_
      rw [st3, e, gSeq_eq, s1, rbind_ok, sq2_nx, gSeq_eq, gIfE_eq, cb, rbind_ok, if_neg (by decide), gn, rbind_ok, sq2_nx, gSeq_eq, gRet_eq, bind_eq, hr]
      rfl
    refine fin1 _ ?_
    rw [gIfE_eq, cl, rbind_ok]
    by_cases hl : n < a.length
    · rw [if_pos (decide_eq_true (by omega))]
      show _ = Rs.ok (DL.D.p (match (if n < a.length then Except.error n else Except.ok t) with | .ok t => .list [.str "term", t] | .error e => .list [.str "bad", .int (e : Int)])) _
      rw [if_pos hl, bind_eq]
      show mkL false [.p (.str "bad"), .p (.int (n : Int))] _ = _
      rw [mkL2]; rfl
    · rw [if_neg (by simp only [decide_eq_true_eq]; omega)]
      show _ = Rs.ok (DL.D.p (match (if n < a.length then Except.error n else Except.ok t) with | .ok t => .list [.str "term", t] | .error e => .list [.str "bad", .int (e : Int)])) _
      rw [if_neg hl, bind_eq]
      show mkL false [.p (.str "term"), .p t] _ = _
      rw [mkL2]; rfl
theorem at1_up (a : List Nat) (i : Nat) : i ≤ at1 a i := by unfold at1; split <;> omega
theorem int_err {a : List Nat} {i n : Nat} (hi : i ≤ a.length) (h : intP a i = .error n) : n ≤ a.length := by
  have h1 := at1_le hi
  have h2 := run_le a dig (at1 a i) h1
  unfold intP at h
  split at h
  · cases h; exact h1
  · split at h
    · rename_i k
      rw [Bool.and_eq_true, decide_eq_true_eq] at k
      cases h; omega
    · split at h
      · cases h; omega
      · cases h
theorem simple_err {a : List Nat} {i n : Nat} (hi : i ≤ a.length) (h : simpleP a i = .error n) : n ≤ a.length := by
  unfold simpleP at h
  split at h
  · cases h
  · split at h
    · cases h
    · split at h
      · cases h
      · rename_i q
        cases h; exact int_err hi q
theorem rows_err {T : Nat → Except Nat (PyData × Nat)} {a : List Nat} (hT : ∀ j n, j ≤ a.length → T j = .error n → n ≤ a.length) (hE : ∀ j t e, j ≤ a.length → T j = .ok (t, e) → e ≤ a.length) : ∀ (n i : Nat) (xs : List PyData) (e : Nat), i ≤ a.length → rowsP T a n i xs = .error e → e ≤ a.length
  | 0, i, xs, e, hi, h => by cases h; exact hi
  | n + 1, i, xs, e, hi, h => by
    rw [rowsP] at h
    split at h
    · cases h
    · split at h
      · cases h; exact hi
      · rename_i k1 k2
        have hi' : (if xs = [] then i else i + 1) ≤ a.length := by
          by_cases hx : xs = []
          · rw [if_pos hx]; exact hi
          · rw [if_neg hx]
            have : isAt a i [32] = true := by
              cases hb : isAt a i [32] with
              | true => rfl
              | false => exact absurd ⟨hx, hb⟩ k2
            have := isAt_lt this
            omega
        split at h
        · rename_i q
          exact rows_err hT hE n _ _ e (hE _ _ _ hi' q) h
        · rename_i q
          cases h; exact hT _ _ hi' q
theorem term_err {a : List Nat} : ∀ (d i n : Nat), i ≤ a.length → termP a d i = .error n → n ≤ a.length
  | 0, i, n, hi, h => by
    rw [termP] at h
    split at h
    · cases h; exact hi
    · exact simple_err hi h
  | d + 1, i, n, hi, h => by
    rw [termP] at h
    split at h
    · rename_i k
      exact rows_err (fun j n hj => term_err d j n hj) (fun j t e hj => term_end d j t e hj) _ _ _ n (isAt_lt k) h
    · exact simple_err hi h
theorem s_term : ("term" : Str) = Tx [116, 101, 114, 109] := by decide +kernel
theorem nat_ok (n : Nat) (h : n ≤ 4000) : OkT 24 (.int (n : Int)) 1 := int_ok (by rw [Int.natAbs_natCast]; exact Nat.lt_of_le_of_lt h (by decide)) 1 (by decide) 24
theorem due_shy (a : List Nat) (ha : a.length ≤ 4000) : Shy (dueV a) := by
  unfold dueV readP
  rw [s_bad, s_term]
  cases hq : termP a 24 0 with
  | error n =>
    have := term_err 24 0 n (by omega) hq
    exact shy_two (by decide) (by decide) (nat_ok n (by omega)) (by decide)
  | ok q =>
    obtain ⟨t, n⟩ := q
    have h1 := term_end 24 0 t n (by omega) hq
    obtain ⟨h2, h3⟩ := term_ok 24 0 t n hq
    show Shy (match (if n < a.length then Except.error n else Except.ok t) with | .ok t => .list [.str (Tx [116, 101, 114, 109]), t] | .error e => .list [.str (Tx [98, 97, 100]), .int (e : Int)])
    by_cases hl : n < a.length
    · rw [if_pos hl]
      exact shy_two (by decide) (by decide) (nat_ok n (by omega)) (by decide)
    · rw [if_neg hl]
      exact shy_two (by decide) (by decide) h3 (by omega)
end
end K20
namespace K20
open PySem PySem.Spec PyProof.Rows L2 DL
section
/-! ### draws in the law's own terms -/
def NX : M DL.D := (DL.gCons (gVar 0) (M.ret [])).bind (callM 1 F__law_next)
def IN : M DL.D := (DL.gCons NX (M.ret [])).bind (c1 pInt)
theorem nx_of {s : List (Option DL.D)} {xs : List PyData} (hd : Drs xs) (h0 : s[0]? = some (some (.loc 0))) : ∃ (i : Int) (ys : List PyData), 0 ≤ i ∧ i < 1000 ∧ Drs ys ∧ NX ⟨s, [.lst xs]⟩ = .ok (I i) ⟨s, [.lst ys]⟩ := by
  obtain ⟨i, ys, h1, h2, h3, _, h5⟩ := next_of hd 0 ⟨s, [.lst xs]⟩ rfl
  refine ⟨i, ys, h1, h2, h3, ?_⟩
  unfold NX
  rw [bind_eq, gCons_eq, bind_eq, slot_v h0, rbind_ok, bind_eq, ret_eq, rbind_ok, ret_eq, rbind_ok, h5]
  rfl
theorem in_of {s : List (Option DL.D)} {xs : List PyData} (hd : Drs xs) (h0 : s[0]? = some (some (.loc 0))) : ∃ (i : Int) (ys : List PyData), 0 ≤ i ∧ i < 1000 ∧ Drs ys ∧ IN ⟨s, [.lst xs]⟩ = .ok (I i) ⟨s, [.lst ys]⟩ := by
  obtain ⟨i, ys, h1, h2, h3, h4⟩ := nx_of hd h0
  refine ⟨i, ys, h1, h2, h3, ?_⟩
  unfold IN
  rw [bind_eq, gCons_eq, bind_eq, h4]
  rfl
theorem md_of {s : List (Option DL.D)} {xs : List PyData} (k : Int) (hk : 0 < k) (hd : Drs xs) (h0 : s[0]? = some (some (.loc 0))) : ∃ (i : Int) (ys : List PyData), 0 ≤ i ∧ i < k ∧ Drs ys ∧ gBin fMod IN (gC (.int k)) ⟨s, [.lst xs]⟩ = .ok (I i) ⟨s, [.lst ys]⟩ := by
  obtain ⟨i, ys, h1, h2, h3, h4⟩ := in_of hd h0
  obtain ⟨r1, r2⟩ := fmod_rng i k hk
  refine ⟨i.fmod k, ys, r1, r2, h3, ?_⟩
  rw [gBin_eq, bind_eq, h4, rbind_ok, gC_eq, bind_eq, ret_eq, rbind_ok, mod_i _ _ (by omega)]
  rfl
theorem compL_inv {i : Nat} {ge : M DL.D} {s1 : List (Option DL.D)} (Q : PyData → Prop) (h : ∀ (x : PyData) (xs : List PyData), Drs xs → ∃ y ys, ge ⟨s1.set i (some (.p x)), [.lst xs]⟩ = .ok (.p y) ⟨s1.set i (some (.p x)), [.lst ys]⟩ ∧ Drs ys ∧ Q y) :
    ∀ (is : List PyData) (s : List (Option DL.D)) (xs : List PyData), Drs xs → ∃ zs s' ys, compL s1 (put i) (M.ret true) (noEr ge) is ⟨s, [.lst xs]⟩ = .ok zs ⟨s', [.lst ys]⟩ ∧ Drs ys ∧ (∀ z ∈ zs, Q z) ∧ zs.length = is.length
  | [], s, xs, hd => ⟨[], s, xs, rfl, hd, by simp, rfl⟩
  | x :: is, s, xs, hd => by
    obtain ⟨y, ys, h1, h2, h3⟩ := h x xs hd
    obtain ⟨zs, s', ys', h4, h5, h6, h7⟩ := compL_inv Q h is (s1.set i (some (.p x))) ys h2
    refine ⟨y :: zs, s', ys', ?_, h5, ?_, by simp [h7]⟩
    · have h1' := noEr_ok h1
      rw [compL]
      have n0 : noEr ((put i (.p x)).bind fun _ => M.ret true) ⟨s1, [.lst xs]⟩ = .ok true ⟨s1.set i (some (.p x)), [.lst xs]⟩ := rfl
      simp only [bind_eq, setS, rbind_ok, n0, h1', h4, asP, ret_eq]
    · intro z hz
      rcases List.mem_cons.mp hz with rfl | hz
      · exact h3
      · exact h6 z hz
theorem gLc_inv {i : Nat} {ge : M DL.D} {gi : M (List PyData)} {vs : List Nat} {s : List (Option DL.D)} {xs ys0 is : List PyData} (Q : PyData → Prop) (hi : gi ⟨s, [.lst xs]⟩ = .ok is ⟨s, [.lst ys0]⟩) (hd : Drs ys0) (hl : is.length ≤ sizeLine)
    (h : ∀ (x : PyData) (xs : List PyData), Drs xs → ∃ y ys, ge ⟨(wipeD s vs).set i (some (.p x)), [.lst xs]⟩ = .ok (.p y) ⟨(wipeD s vs).set i (some (.p x)), [.lst ys]⟩ ∧ Drs ys ∧ Q y) :
    ∃ zs ys, gLc false vs gi (put i) (M.ret true) ge ⟨s, [.lst xs]⟩ = .ok (.p (.list zs)) ⟨s, [.lst ys]⟩ ∧ Drs ys ∧ (∀ z ∈ zs, Q z) ∧ zs.length = is.length := by
  obtain ⟨zs, s', ys, h1, h2, h3, h4⟩ := compL_inv Q h is s ys0 hd
  refine ⟨zs, ys, ?_, h2, h3, h4⟩
  unfold gLc gLcE
  rw [bind_eq, hi, rbind_ok, decide_eq_true hl, ifM_t]
  show resE s ((compL (wipeD s vs) (put i) (M.ret true) (noEr ge) is ⟨s, [.lst ys0]⟩).bind _) = _
  rw [h1]
  rfl
/-! ### _law_pick -/
theorem pick_eq {xs zs : List PyData} (hd : Drs xs) (hz : zs ≠ []) (hl : zs.length ≤ 1000) : ∃ z ys, z ∈ zs ∧ Drs ys ∧ F__law_pick [.loc 0, .p (.list zs)] [.lst xs] = .ok (.p z) ⟨[], [.lst ys]⟩ := by
  have e : g__law_pick = gSeq (gRet (gBin fIx (gVar 1) (gBin fMod IN ((DL.gCons (gVar 1) (M.ret [])).bind (c1 pLen))))) gNext := rfl
  obtain ⟨i, ys, h1, h2, h3, h4⟩ := in_of (s := [some (.loc 0), some (.p (.list zs))]) hd rfl
  have hp := List.length_pos_iff.mpr hz
  obtain ⟨r1, r2⟩ := fmod_rng i (zs.length : Int) (by omega)
  obtain ⟨k, hk⟩ := Int.eq_ofNat_of_zero_le r1
  have hkl : k < zs.length := by omega
  refine ⟨zs[k], ys, List.getElem_mem hkl, h3, ?_⟩
  have hm : gBin fMod IN ((DL.gCons (gVar 1) (M.ret [])).bind (c1 pLen)) ⟨[some (.loc 0), some (.p (.list zs))], [.lst xs]⟩ = .ok (I (k : Int)) ⟨[some (.loc 0), some (.p (.list zs))], [.lst ys]⟩ := by
    have hl : ((DL.gCons (gVar 1) (M.ret [])).bind (c1 pLen)) ⟨[some (.loc 0), some (.p (.list zs))], [.lst ys]⟩ = .ok (I (zs.length : Int)) ⟨[some (.loc 0), some (.p (.list zs))], [.lst ys]⟩ := rfl
    rw [gBin_eq, bind_eq, h4, rbind_ok, bind_eq, hl, rbind_ok, mod_i _ _ (by omega), hk]
    rfl
  have hx : fIx (.p (.list zs)) (I (k : Int)) ⟨[some (.loc 0), some (.p (.list zs))], [.lst ys]⟩ = .ok (.p zs[k]) ⟨[some (.loc 0), some (.p (.list zs))], [.lst ys]⟩ := by
    show fIxS (.p (.list zs)) (k : Int) _ = _
    unfold fIxS
    rw [bind_eq]
    show retO (atI zs (k : Int)) _ = _
    rw [atI_nat (List.getElem?_eq_getElem hkl)]
    rfl
  have hg : g__law_pick ⟨[some (.loc 0), some (.p (.list zs))], [.lst xs]⟩ = .ok (.rt (.p zs[k])) ⟨[some (.loc 0), some (.p (.list zs))], [.lst ys]⟩ := by
    rw [e, gSeq_eq, gRet_eq, bind_eq, gBin_eq, bind_eq]
    show ((((gBin fMod IN ((DL.gCons (gVar 1) (M.ret [])).bind (c1 pLen)) ⟨[some (.loc 0), some (.p (.list zs))], [.lst xs]⟩).bind fun b => fIx (.p (.list zs)) b).bind _).bind _) = _
    rw [hm, rbind_ok, hx]
    rfl
  refine (fnF_eq rfl hg).trans ?_
  simp [fin, finD, Cell.below]
/-! ### _law_term -/
def alph : List Nat := [97, 98, 99, 110, 111, 122, 101]
theorem s_alph : ("abcnoze" : Str) = Tx alph := by decide +kernel
theorem s_zone : ("zone" : Str) = Tx [122, 111, 110, 101] := by decide +kernel
theorem joinL_one : ∀ cs : List Nat, TL.joinL [] (cs.map fun c => [c]) = cs
  | [] => rfl
  | [c] => rfl
  | c :: d :: r => by
    have := joinL_one (d :: r)
    rw [List.map_cons] at this
    rw [List.map_cons, List.map_cons, TL.joinL, this]
    rfl
theorem strs_of {Z : Nat → Prop} : ∀ zs : List PyData, (∀ z ∈ zs, ∃ c, Z c ∧ z = .str (Tx [c])) → ∃ cs : List Nat, (∀ c ∈ cs, Z c) ∧ cs.length = zs.length ∧ zs = (cs.map fun c => [c]).map fun l => PyData.str (Tx l)
  | [], _ => ⟨[], by simp, rfl, rfl⟩
  | z :: zs, h => by
    obtain ⟨c, h1, h2⟩ := h z List.mem_cons_self
    obtain ⟨cs, h3, h4, h5⟩ := strs_of zs fun y hy => h y (List.mem_cons_of_mem _ hy)
    refine ⟨c :: cs, fun x hx => ?_, by simp [h4], by rw [h2]; simp [h5]⟩
    rcases List.mem_cons.mp hx with rfl | hx
    · exact h1
    · exact h3 x hx
theorem join_one {cs : List Nat} (h : cs.length ≤ 1000) (ρ : Sg) : fJoin (Tx []) (.p (.list ((cs.map fun c => [c]).map fun l => PyData.str (Tx l)))) ρ = .ok (.p (.str (Tx cs))) ρ := by
  unfold fJoin
  simp only [sq, bind_eq, ret_eq, rbind_ok, strsD_tx, joinK]
  have e1 : (((cs.map fun c => [c]).map Tx).map fun y : Str => y.length) = (cs.map fun c => [c]).map List.length := SX.lens _
  have e2 : ((cs.map fun c => [c]).map List.length).sum ≤ cs.length * 1 := by
    have := sum_le (b := 1) (cs.map fun c => [c]) (by
      intro l hl
      obtain ⟨c, _, rfl⟩ := List.mem_map.mp hl
      exact Nat.le_refl _)
    rw [List.length_map] at this
    exact this
  rw [e1, decide_eq_true (by rw [tx_len]; simp only [List.length_nil]; omega), ifM_t, show Txt.join (Tx []) ((cs.map fun c => [c]).map Tx) = Tx (TL.joinL [] (cs.map fun c => [c])) from SX.join_S [] _, joinL_one]
  rfl
theorem rg_of {s : List (Option DL.D)} {xs : List PyData} (k : Int) (hk : 0 < k ∧ k < 1000) (hd : Drs xs) (h0 : s[0]? = some (some (.loc 0))) : ∃ (n : Nat) (ys : List PyData), (n : Int) < k ∧ Drs ys ∧ ((DL.gCons (gBin fMod IN (gC (.int k))) (M.ret [])).bind rg1) ⟨s, [.lst xs]⟩ = .ok (rangeL 0 n) ⟨s, [.lst ys]⟩ := by
  obtain ⟨i, ys, h1, h2, h3, h4⟩ := md_of k hk.1 hd h0
  obtain ⟨n, hn⟩ := Int.eq_ofNat_of_zero_le h1
  refine ⟨n, ys, by omega, h3, ?_⟩
  rw [bind_eq, gCons_eq, bind_eq, h4, rbind_ok, bind_eq, ret_eq, rbind_ok, ret_eq, rbind_ok, hn]
  exact range_at n (by omega) _
def fiveE : M DL.D := (DL.gCons (gC .none) (DL.gCons (gC (.int 0)) (DL.gCons ((gC (.int 1)).bind fNeg) (DL.gCons (gBin fPow (gC (.int 10)) (gC (.int 19))) (DL.gCons (gBin (fAdd false) (gBin fSub (gC (.int 0)) (gBin fPow (gC (.int 10)) (gC (.int 20)))) (gC (.int 1))) (M.ret [])))))).bind (mkL false)
def five : List PyData := [.none, .int 0, .int (-1), .int (10 ^ 19), .int (0 - 10 ^ 20 + 1)]
theorem five_eq (ρ : Sg) : fiveE ρ = .ok (.p (.list five)) ρ := by
  have p1 : fPow (I 10) (I 19) = M.ret (I (10 ^ 19)) := rfl
  have p2 : fPow (I 10) (I 20) = M.ret (I (10 ^ 20)) := rfl
  have n1 : fNeg (I 1) = M.ret (I (-1)) := rfl
  have l : mkL false [.p .none, I 0, I (-1), I (10 ^ 19), I (0 - 10 ^ 20 + 1)] = M.ret (.p (.list five)) := by
    have : decide (five.length ≤ sizeLine) = true := decide_eq_true (by rw [sizeLine_eq]; show 5 ≤ 16777216; decide)
    show ifM (decide (five.length ≤ sizeLine)) (newL false five) = _
    rw [this]; rfl
  unfold fiveE
  simp only [bind_eq, gCons_eq, gC_eq, ret_eq, rbind_ok, gBin_eq, p1, p2, n1, sub_i, addI, l]
def zipE : M DL.D := (gC (.str "")).bind fun a => (asSm a).bind fun z => (gLc false [4] ((DL.gCons (gBin fMod IN (gC (.int 6))) (M.ret [])).bind rg1) (put 4) (M.ret true) (gBin fIx (gC (.str "abcnoze")) (gBin fMod IN (gC (.int 7))))).bind fun d => fJoin z d
theorem zip_eq {s : List (Option DL.D)} {xs : List PyData} (hd : Drs xs) (h0 : s[0]? = some (some (.loc 0))) : ∃ cs ys, zipE ⟨s, [.lst xs]⟩ = .ok (.p (.str (Tx cs))) ⟨s, [.lst ys]⟩ ∧ Drs ys ∧ (∀ c ∈ cs, c ∈ sml) ∧ cs.length ≤ 5 := by
  obtain ⟨n, ys0, hn, hd0, hr⟩ := rg_of 6 (by decide) hd h0
  obtain ⟨zs, ys, h1, h2, h3, h4⟩ := gLc_inv (i := 4) (vs := [4]) (ge := gBin fIx (gC (.str "abcnoze")) (gBin fMod IN (gC (.int 7)))) (fun z => ∃ c, c ∈ alph ∧ z = .str (Tx [c])) hr hd0 (by rw [rangeL_len, sizeLine_eq]; omega) (by
    intro x xs hx
    obtain ⟨i, ys, g1, g2, g3, g4⟩ := md_of (s := (wipeD s [4]).set 4 (some (.p x))) 7 (by decide) hx (by
      rw [List.getElem?_set_ne (by decide)]
      show (s.set 4 none)[0]? = _
      rw [List.getElem?_set_ne (by decide)]; exact h0)
    obtain ⟨k, hk⟩ := Int.eq_ofNat_of_zero_le g1
    have hkl : k < alph.length := by show k < 7; omega
    refine ⟨.str (Tx [alph[k]]), ys, ?_, g3, alph[k], List.getElem_mem hkl, rfl⟩
    rw [gBin_eq, bind_eq, gC_eq, ret_eq, rbind_ok, bind_eq, g4, rbind_ok, hk, s_alph]
    exact ix_tx (by decide) (List.getElem?_eq_getElem hkl) _)
  obtain ⟨cs, c1, c2, c3⟩ := strs_of zs h3
  rw [rangeL_len] at h4
  refine ⟨cs, ys, ?_, h2, fun c hc => ?_, by omega⟩
  · unfold zipE
    rw [gC_eq, bind_eq, ret_eq, rbind_ok, bind_eq]
    show ((gLc false [4] ((DL.gCons (gBin fMod IN (gC (.int 6))) (M.ret [])).bind rg1) (put 4) (M.ret true) (gBin fIx (gC (.str "abcnoze")) (gBin fMod IN (gC (.int 7)))) ⟨s, [.lst xs]⟩).bind fun d => fJoin ("" : Str) d) = _
    rw [h1, rbind_ok, c3]
    exact join_one (by omega) _
  · have : ∀ c ∈ alph, c ∈ sml := by decide
    exact this c (c1 c hc)
theorem tm_word (k : Nat) {w : List Nat} (h1 : ∀ c ∈ w, c ∈ sml) (h2 : w ≠ [110, 111, 110, 101]) (h3 : w.length ≤ 5) : Tm k (.str (Tx w)) := by
  have : ¬ BadS w ∧ w.length ≤ 5 := ⟨fun z => z.elim h2 fun y => y h1, h3⟩
  cases k <;> exact this
theorem tm_int' (k : Nat) {i : Int} (h : i.natAbs < 10 ^ 20) : Tm k (.int i) := by cases k <;> exact h
theorem tm_none (k : Nat) : Tm k .none := by cases k <;> exact True.intro
theorem tm_five (k : Nat) : ∀ z ∈ five, Tm k z := by
  intro z hz
  simp only [five, List.mem_cons, List.mem_nil_iff, or_false] at hz
  rcases hz with rfl | rfl | rfl | rfl | rfl
  · exact tm_none k
  · exact tm_int' k (by decide)
  · exact tm_int' k (by decide)
  · exact tm_int' k (by decide)
  · exact tm_int' k (by decide)
theorem fin_d {n : Nat} {len : Nat} {g : M Fl} {ds : List DL.D} {x : PyData} {c : Cell} {s : List (Option DL.D)} {ys : List PyData} (hn : ds.length = n) (h : g (startD len ds [c]) = .ok (.rt (.p x)) ⟨s, [.lst ys]⟩) : fnF n len g ds [c] = .ok (.p x) ⟨[], [.lst ys]⟩ :=
  (fnF_eq hn h).trans (by simp [fin, finD, Cell.below])
theorem law_term_step {F : FS} {δ : Nat} (hδ : δ ≤ 4) (hF : δ < 4 → ∀ xs, Drs xs → ∃ t ys, F [.loc 0, .p (.int ((δ + 1 : Nat) : Int))] [.lst xs] = .ok (.p t) ⟨[], [.lst ys]⟩ ∧ Drs ys ∧ Tm (3 - δ) t) (xs : List PyData) (hd : Drs xs) :
    ∃ t ys, fnF 2 5 (g__law_term F) [.loc 0, .p (.int (δ : Int))] [.lst xs] = .ok (.p t) ⟨[], [.lst ys]⟩ ∧ Drs ys ∧ Tm (4 - δ) t := by
  have e : g__law_term F = gSeq (gAsg (gBin fMod IN (gIfE (gB (gBin (fB2 pLt) (gVar 1) (gC (.int 4)))) (gC (.int 8)) (gC (.int 5)))) (put 2))
    (gSeq (gIfE (gB (gBin (fB2 pEq) (gVar 2) (gC (.int 0)))) (gSeq (gAsg zipE (put 3)) (gSeq (gRet (gIfE (gB (gBin (fB2 pEq) (gVar 3) (gC (.str "none")))) (gC (.str "zone")) (gVar 3))) gNext)) gNext)
    (gSeq (gIfE (gB (gBin (fB2 pEq) (gVar 2) (gC (.int 1)))) (gSeq (gRet ((DL.gCons (gVar 0) (DL.gCons fiveE (M.ret []))).bind (callM 2 F__law_pick))) gNext) gNext)
    (gSeq (gIfE (gB (gBin (fB2 pLt) (gVar 2) (gC (.int 5)))) (gSeq (gRet (gBin fSub IN (gBin (fMul false) (gC (.int 100)) (gBin fMod IN (gC (.int 7)))))) gNext) gNext)
    (gSeq (gRet ((DL.gCons (gLc false [4] ((DL.gCons (gBin fMod IN (gC (.int 4))) (M.ret [])).bind rg1) (put 4) (M.ret true) ((DL.gCons (gVar 0) (DL.gCons (gBin (fAdd false) (gVar 1) (gC (.int 1))) (M.ret []))).bind (callM 2 F))) (M.ret [])).bind cTup)) gNext)))) := rfl
  have st : startD 5 [.loc 0, .p (.int (δ : Int))] [.lst xs] = ⟨[some (.loc 0), some (.p (.int (δ : Int))), none, none, none], [.lst xs]⟩ := rfl
  obtain ⟨i, xs1, i1, i2, hd1, hi⟩ := in_of (s := [some (.loc 0), some (.p (.int (δ : Int))), none, none, none]) hd rfl
  obtain ⟨K, hK⟩ : ∃ K : Int, K = if δ < 4 then 8 else 5 := ⟨_, rfl⟩
  have hK0 : 0 < K := by rw [hK]; split <;> omega
  obtain ⟨r1, r2⟩ := fmod_rng i K hK0
  obtain ⟨kd, hkd⟩ : ∃ k, k = i.fmod K := ⟨_, rfl⟩
  rw [← hkd] at r1 r2
  obtain ⟨s0, hs0⟩ : ∃ s : List (Option DL.D), s = [some (.loc 0), some (.p (.int (δ : Int))), some (I kd), none, none] := ⟨_, rfl⟩
  have t0 : s0[0]? = some (some (.loc 0)) := by rw [hs0]; rfl
  have t1 : s0[1]? = some (some (I (δ : Int))) := by rw [hs0]; rfl
  have t2 : s0[2]? = some (some (I kd)) := by rw [hs0]; rfl
  have s1 : gAsg (gBin fMod IN (gIfE (gB (gBin (fB2 pLt) (gVar 1) (gC (.int 4)))) (gC (.int 8)) (gC (.int 5)))) (put 2) ⟨[some (.loc 0), some (.p (.int (δ : Int))), none, none, none], [.lst xs]⟩ = .ok .nx ⟨s0, [.lst xs1]⟩ := by
    have ck : gIfE (gB (gBin (fB2 pLt) (gVar 1) (gC (.int 4)))) (gC (.int 8)) (gC (.int 5)) ⟨[some (.loc 0), some (.p (.int (δ : Int))), none, none, none], [.lst xs1]⟩ = .ok (I K) ⟨[some (.loc 0), some (.p (.int (δ : Int))), none, none, none], [.lst xs1]⟩ := by
      have cb : gB (gBin (fB2 pLt) (gVar 1) (gC (.int 4))) ⟨[some (.loc 0), some (.p (.int (δ : Int))), none, none, none], [.lst xs1]⟩ = .ok (decide ((δ : Int) < 4)) ⟨[some (.loc 0), some (.p (.int (δ : Int))), none, none, none], [.lst xs1]⟩ := by simp
      rw [gIfE_eq, cb, rbind_ok, hK]
      by_cases hlt : δ < 4
      · rw [if_pos (decide_eq_true (by omega)), if_pos hlt]; rfl
      · rw [if_neg (by simp only [decide_eq_true_eq]; omega), if_neg hlt]; rfl
    rw [gAsg_eq, bind_eq, gBin_eq, bind_eq, hi, rbind_ok, bind_eq, ck, rbind_ok, mod_i _ _ (by omega), ← hkd, hs0]
    rfl
  have go : ∀ (t : PyData) (s : List (Option DL.D)) (ys : List PyData), (gSeq (gIfE (gB (gBin (fB2 pEq) (gVar 2) (gC (.int 0)))) (gSeq (gAsg zipE (put 3)) (gSeq (gRet (gIfE (gB (gBin (fB2 pEq) (gVar 3) (gC (.str "none")))) (gC (.str "zone")) (gVar 3))) gNext)) gNext)
    (gSeq (gIfE (gB (gBin (fB2 pEq) (gVar 2) (gC (.int 1)))) (gSeq (gRet ((DL.gCons (gVar 0) (DL.gCons fiveE (M.ret []))).bind (callM 2 F__law_pick))) gNext) gNext)
    (gSeq (gIfE (gB (gBin (fB2 pLt) (gVar 2) (gC (.int 5)))) (gSeq (gRet (gBin fSub IN (gBin (fMul false) (gC (.int 100)) (gBin fMod IN (gC (.int 7)))))) gNext) gNext)
    (gSeq (gRet ((DL.gCons (gLc false [4] ((DL.gCons (gBin fMod IN (gC (.int 4))) (M.ret [])).bind rg1) (put 4) (M.ret true) ((DL.gCons (gVar 0) (DL.gCons (gBin (fAdd false) (gVar 1) (gC (.int 1))) (M.ret []))).bind (callM 2 F))) (M.ret [])).bind cTup)) gNext)))) ⟨s0, [.lst xs1]⟩ = .ok (.rt (.p t)) ⟨s, [.lst ys]⟩ → fnF 2 5 (g__law_term F) [.loc 0, .p (.int (δ : Int))] [.lst xs] = .ok (.p t) ⟨[], [.lst ys]⟩ := fun t s ys h => by
    refine fin_d rfl ((?_ : _ = _).trans h)
    rw [st, e, gSeq_eq, s1, rbind_ok, sq2_nx]
  have c0 := cond_i (y := 0) (m := [.lst xs1]) t2
  by_cases k0 : kd = 0
  · obtain ⟨cs, ys, h1, h2, h3, h4⟩ := zip_eq hd1 t0
    obtain ⟨w, hw⟩ : ∃ w, w = if cs = [110, 111, 110, 101] then [122, 111, 110, 101] else cs := ⟨_, rfl⟩
    have sz : (s0.set 3 (some (.p (.str (Tx cs)))))[3]? = some (some (.p (.str (Tx cs)))) := by rw [hs0]; rfl
    have cn := cond_v (m := [.lst ys]) s_none sz
    refine ⟨.str (Tx w), ys, go _ (s0.set 3 (some (.p (.str (Tx cs))))) ys ?_, h2, tm_word _ ?_ ?_ ?_⟩
    · rw [gSeq_eq, gIfE_eq, c0, rbind_ok, if_pos (decide_eq_true k0), gSeq_eq, gAsg_eq, bind_eq, h1, rbind_ok]
      show (((gSeq (gRet (gIfE (gB (gBin (fB2 pEq) (gVar 3) (gC (.str "none")))) (gC (.str "zone")) (gVar 3))) gNext) ⟨s0.set 3 (some (.p (.str (Tx cs)))), [.lst ys]⟩).bind _) = _
      have gi : gIfE (gB (gBin (fB2 pEq) (gVar 3) (gC (.str "none")))) (gC (.str "zone")) (gVar 3) ⟨s0.set 3 (some (.p (.str (Tx cs)))), [.lst ys]⟩ = .ok (.p (.str (Tx w))) ⟨s0.set 3 (some (.p (.str (Tx cs)))), [.lst ys]⟩ := by
        rw [gIfE_eq, cn, rbind_ok, hw]
        by_cases z : cs = [110, 111, 110, 101]
        · rw [if_pos (decide_eq_true z), if_pos z, s_zone]; rfl
        · rw [if_neg (by simpa using z), if_neg z, slot_v sz]
      rw [gSeq_eq, gRet_eq, bind_eq, gi]
      rfl
    · rw [hw]; split
      · decide
      · exact h3
    · rw [hw]; split
      · decide
      · rename_i z; exact z
    · rw [hw]; split
      · decide
      · exact h4
  have pre0 : ∀ {g h : M Fl}, gSeq (gIfE (gB (gBin (fB2 pEq) (gVar 2) (gC (.int 0)))) g gNext) h ⟨s0, [.lst xs1]⟩ = h ⟨s0, [.lst xs1]⟩ := fun {g h} => by
    rw [gSeq_eq, gIfE_eq, c0, rbind_ok, if_neg (by simpa using k0), gn, rbind_ok, sq2_nx]
  have c1' := cond_i (y := 1) (m := [.lst xs1]) t2
  by_cases k1 : kd = 1
  · obtain ⟨z, ys, h1, h2, h3⟩ := pick_eq (zs := five) hd1 (by decide) (by decide)
    refine ⟨z, ys, go _ s0 ys ?_, h2, tm_five _ z h1⟩
    have cl : ((DL.gCons (gVar 0) (DL.gCons fiveE (M.ret []))).bind (callM 2 F__law_pick)) ⟨s0, [.lst xs1]⟩ = .ok (.p z) ⟨s0, [.lst ys]⟩ := by
      rw [bind_eq, gCons_eq, bind_eq, slot_v t0, rbind_ok, bind_eq, gCons_eq, bind_eq, five_eq, rbind_ok, bind_eq, ret_eq, rbind_ok, ret_eq, rbind_ok, ret_eq, rbind_ok]
      exact call_loc (F := F__law_pick) (n := 2) (j := 0) (ρ := ⟨s0, [.lst xs1]⟩) [.list five] rfl rfl rfl rfl h3
    rw [pre0, gSeq_eq, gIfE_eq, c1', rbind_ok, if_pos (decide_eq_true k1), gSeq_eq, gRet_eq, bind_eq, cl]
    rfl
  have pre1 : ∀ {g h : M Fl}, gSeq (gIfE (gB (gBin (fB2 pEq) (gVar 2) (gC (.int 1)))) g gNext) h ⟨s0, [.lst xs1]⟩ = h ⟨s0, [.lst xs1]⟩ := fun {g h} => by
    rw [gSeq_eq, gIfE_eq, c1', rbind_ok, if_neg (by simpa using k1), gn, rbind_ok, sq2_nx]
  have c5 : gB (gBin (fB2 pLt) (gVar 2) (gC (.int 5))) ⟨s0, [.lst xs1]⟩ = .ok (decide (kd < 5)) ⟨s0, [.lst xs1]⟩ := by
    rw [gB_eq, bind_eq, gBin_eq, bind_eq, slot_v t2, rbind_ok, gC_eq, bind_eq, ret_eq, rbind_ok, fB2_p, lt_i]; rfl
  by_cases k5 : kd < 5
  · obtain ⟨p, xs2, p1, p2, hd2, hp⟩ := in_of hd1 t0
    obtain ⟨q, xs3, q1, q2, hd3, hq⟩ := md_of 7 (by decide) hd2 t0
    refine ⟨.int (p - 100 * q), xs3, go _ s0 xs3 ?_, hd3, tm_int' _ (by
      have : (p - 100 * q).natAbs < 10000 := by omega
      exact Nat.lt_trans this (by decide))⟩
    have hm : fMul false (I 100) (I q) = M.ret (I (100 * q)) := by
      show ifI (cMul 100 q) _ = _
      rw [cm' 100 q (by decide)]; rfl
    have cl : gBin fSub IN (gBin (fMul false) (gC (.int 100)) (gBin fMod IN (gC (.int 7)))) ⟨s0, [.lst xs1]⟩ = .ok (I (p - 100 * q)) ⟨s0, [.lst xs3]⟩ := by
      rw [gBin_eq, bind_eq, hp, rbind_ok, bind_eq, gBin_eq, bind_eq, gC_eq, ret_eq, rbind_ok, bind_eq, hq, rbind_ok, hm, ret_eq, rbind_ok, sub_i]
      rfl
    rw [pre0, pre1, gSeq_eq, gIfE_eq, c5, rbind_ok, if_pos (decide_eq_true k5), gSeq_eq, gRet_eq, bind_eq, cl]
    rfl
  have hlt : δ < 4 := by
    rw [hK] at r2
    by_cases z : δ < 4
    · exact z
    · rw [if_neg z] at r2; omega
  obtain ⟨n, ys0, hn, hd0, hr⟩ := rg_of 4 (by decide) hd1 t0
  obtain ⟨zs, ys, h1, h2, h3, h4⟩ := gLc_inv (i := 4) (vs := [4]) (ge := (DL.gCons (gVar 0) (DL.gCons (gBin (fAdd false) (gVar 1) (gC (.int 1))) (M.ret []))).bind (callM 2 F)) (Tm (3 - δ)) hr hd0 (by rw [rangeL_len, sizeLine_eq]; omega) (by
    intro x xs hx
    obtain ⟨t, ys, g1, g2, g3⟩ := hF hlt xs hx
    have u0 : ((wipeD s0 [4]).set 4 (some (.p x)))[0]? = some (some (.loc 0)) := by rw [hs0]; rfl
    have u1 : ((wipeD s0 [4]).set 4 (some (.p x)))[1]? = some (some (.p (.int (δ : Int)))) := by rw [hs0]; rfl
    refine ⟨t, ys, ?_, g2, g3⟩
    have ge : gBin (fAdd false) (gVar 1) (gC (.int 1)) ⟨(wipeD s0 [4]).set 4 (some (.p x)), [.lst xs]⟩ = .ok (.p (.int ((δ + 1 : Nat) : Int))) ⟨(wipeD s0 [4]).set 4 (some (.p x)), [.lst xs]⟩ := inc_v (k := 1) u1
    rw [bind_eq, gCons_eq, bind_eq, slot_v u0, rbind_ok, bind_eq, gCons_eq, bind_eq, ge, rbind_ok, bind_eq, ret_eq, rbind_ok, ret_eq, rbind_ok, ret_eq, rbind_ok]
    exact call_loc (F := F) (n := 2) (j := 0) (ρ := ⟨(wipeD s0 [4]).set 4 (some (.p x)), [.lst xs]⟩) [.int ((δ + 1 : Nat) : Int)] rfl rfl rfl rfl g1)
  rw [rangeL_len] at h4
  refine ⟨.tuple zs, ys, go _ s0 ys ?_, h2, ?_⟩
  · have cl : ((DL.gCons (gLc false [4] ((DL.gCons (gBin fMod IN (gC (.int 4))) (M.ret [])).bind rg1) (put 4) (M.ret true) ((DL.gCons (gVar 0) (DL.gCons (gBin (fAdd false) (gVar 1) (gC (.int 1))) (M.ret []))).bind (callM 2 F))) (M.ret [])).bind cTup) ⟨s0, [.lst xs1]⟩ = .ok (.p (.tuple zs)) ⟨s0, [.lst ys]⟩ := by
      rw [bind_eq, gCons_eq, bind_eq, h1]
      rfl
    rw [pre0, pre1, gSeq_eq, gIfE_eq, c5, rbind_ok, if_neg (by simpa using k5), gn, rbind_ok, sq2_nx, gSeq_eq, gRet_eq, bind_eq, cl]
    rfl
  · rw [show 4 - δ = (3 - δ) + 1 by omega]
    exact ⟨by omega, h3⟩
theorem law_term_all : ∀ (n δ : Nat), δ ≤ 4 → 5 ≤ n + δ → ∀ xs, Drs xs → ∃ t ys, F__law_term n [.loc 0, .p (.int (δ : Int))] [.lst xs] = .ok (.p t) ⟨[], [.lst ys]⟩ ∧ Drs ys ∧ Tm (4 - δ) t
  | 0, δ, h, hn, xs, hd => by omega
  | n + 1, δ, h, hn, xs, hd => by
    rw [F__law_term]
    refine law_term_step h (fun hlt xs hx => ?_) xs hd
    have := law_term_all n (δ + 1) (by omega) (by omega) xs hx
    rw [show 4 - (δ + 1) = 3 - δ by omega] at this
    exact this
end
end K20
namespace K20
open PySem PySem.Spec PyProof.Rows L2 DL
section
/-! ### texts without bad -/
def nb (a : List Nat) : Bool := (List.range a.length).all fun i => (a.drop i).take 3 != [98, 97, 100]
theorem run_bad {a : List Nat} {i : Nat} (h : run a sml i = [98, 97, 100]) : i + 3 ≤ a.length ∧ (a.drop i).take 3 = [98, 97, 100] := by
  have hp : [98, 97, 100] <+: a.drop i := by
    rw [← h]; exact List.takeWhile_prefix _
  have hl := hp.length_le
  simp only [List.length_cons, List.length_nil, List.length_drop] at hl
  refine ⟨by omega, ?_⟩
  have := List.prefix_iff_eq_take.mp hp
  exact this.symm
theorem noBad_of {a : List Nat} (h : nb a = true) : noBad a := fun i hr => by
  obtain ⟨h1, h2⟩ := run_bad hr
  have := List.all_eq_true.mp h i (List.mem_range.mpr (by omega))
  rw [h2] at this
  exact absurd this (by decide)
theorem noBad_in {a : List Nat} (h : (Builtin.Str.occurrences (Tx a) (Tx [98, 97, 100]) 0 (Tx a).length 1).isEmpty = true) : noBad a := fun i hr => by
  obtain ⟨h1, h2⟩ := run_bad hr
  have := (StrLaws.found_iff (Tx a) (Tx [98, 97, 100])).mpr ⟨i, by rw [tx_len, tx_len]; exact h1, by
    show ((a.toArray.extract i (i + 3)) == [98, 97, 100].toArray) = true
    have e : a.toArray.extract i (i + 3) = [98, 97, 100].toArray := by
      apply Array.toList_inj.mp
      rw [Array.toList_extract]
      show (a.drop i).take (i + 3 - i) = _
      rw [show i + 3 - i = 3 by omega, h2]
    rw [e]
    exact beq_self_eq_true _⟩
  rw [h] at this
  exact absurd this (by decide)
theorem shy_one {t : PyData} {c : Nat} (h : OkT 24 t c) (hc : c ≤ 5000) : Shy t := by
  have w := PyData.shown_le 22 (by decide) _ h.lv
  have wt := h.wt
  unfold Shy
  have h3 : t.depth ≤ lowD := by have := h.dp; show _ ≤ 60; omega
  have h4 : t.shown.length ≤ sizeLine := by rw [sizeLine_eq]; omega
  rw [h.nd, h.sh, decide_eq_true h3, decide_eq_true h4]; rfl
theorem ne_str (x : Str) : pNe (.str x) (.str x) = some false := by
  have := ne_tx x.cps.toList x.cps.toList
  rw [tx_tl] at this
  rw [this]; simp
theorem ne_list (xs : List PyData) (hp : (PyData.list xs).plain = true) (hd : (PyData.list xs).depth ≤ 60) : pNe (.list xs) (.list xs) = some false := by
  unfold pNe
  rw [if_pos (by rw [Nat.min_self]; exact hd), PySem.SeqAt.eqv_refl_plain _ hp]
  rfl
theorem eq_list (xs : List PyData) (hp : (PyData.list xs).plain = true) (hd : (PyData.list xs).depth ≤ 60) : pEq (.list xs) (.list xs) = some true := by
  unfold pEq
  rw [if_pos (by rw [Nat.min_self]; exact hd), PySem.SeqAt.eqv_refl_plain _ hp]
/-! ### the draws as they stand in the law -/
def NX1 : M DL.D := (DL.gCons (gVar 1) (M.ret [])).bind (callM 1 F__law_next)
def IN1 : M DL.D := (DL.gCons NX1 (M.ret [])).bind (c1 pInt)
/-- where the law's loops stand -/
structure Inv (Y : List PyData) (ρ : Sg) : Prop where
  len : ρ.s.length = 14
  h1 : ρ.s[1]? = some (some (.loc 1))
  dr : ∃ zs, Drs zs ∧ ρ.m = [.lst Y, .lst zs]
theorem Inv.put {Y : List PyData} {ρ : Sg} (h : Inv Y ρ) (i : Nat) (d : DL.D) (hi : i ≠ 1) : Inv Y ⟨ρ.s.set i (some d), ρ.m⟩ :=
  ⟨by simp [h.len], by rw [List.getElem?_set_ne hi]; exact h.h1, h.dr⟩
theorem Inv.mem {Y : List PyData} {ρ : Sg} (h : Inv Y ρ) (zs : List PyData) (hz : Drs zs) : Inv Y ⟨ρ.s, [.lst Y, .lst zs]⟩ := ⟨h.len, h.h1, ⟨zs, hz, rfl⟩⟩
theorem in1_of {Y zs : List PyData} {s : List (Option DL.D)} (hd : Drs zs) (h1 : s[1]? = some (some (.loc 1))) : ∃ (i : Int) (ys : List PyData), 0 ≤ i ∧ i < 1000 ∧ Drs ys ∧ IN1 ⟨s, [.lst Y, .lst zs]⟩ = .ok (I i) ⟨s, [.lst Y, .lst ys]⟩ := by
  obtain ⟨i, ys, q1, q2, q3, _, q5⟩ := next_of hd 1 ⟨s, [.lst Y, .lst zs]⟩ rfl
  refine ⟨i, ys, q1, q2, q3, ?_⟩
  unfold IN1 NX1
  rw [bind_eq, gCons_eq, bind_eq, bind_eq, gCons_eq, bind_eq, slot_v h1, rbind_ok, bind_eq, ret_eq, rbind_ok, ret_eq, rbind_ok, q5]
  rfl
theorem forL_inv {P : Sg → Prop} {i : Nat} {b : M Fl} (hp : ∀ ρ d, P ρ → P ⟨ρ.s.set i (some d), ρ.m⟩) (hb : ∀ ρ, P ρ → ∃ ρ', b ρ = .ok .nx ρ' ∧ P ρ') : ∀ (is : List PyData) (ρ : Sg), P ρ → ∃ ρ', forL (put i) b is ρ = .ok .nx ρ' ∧ P ρ'
  | [], ρ, h => ⟨ρ, rfl, h⟩
  | x :: is, ρ, h => by
    obtain ⟨ρ1, h1, h2⟩ := hb _ (hp ρ (.p x) h)
    obtain ⟨ρ2, h3, h4⟩ := forL_inv hp hb is ρ1 h2
    refine ⟨ρ2, ?_, h4⟩
    show ((b ⟨ρ.s.set i (some (.p x)), ρ.m⟩).bind _) = _
    rw [h1]
    exact h3
theorem cutS_len (z : Str) (lo hi : Option Int) : (cutS z lo hi).length ≤ z.length := by
  show ((z.cps.toList.drop _).take _).toArray.size ≤ z.cps.size
  rw [List.size_toArray, List.length_take, List.length_drop, Array.length_toList]
  omega
def twelve : List PyData := [.str "", .str " ", .str "(", .str ")", .str "-", .str "0", .str "7", .str "a", .str ".", .str "A", .str "_", .str "\t"]
def twelveE : M DL.D := (DL.gCons (gC (.str "")) (DL.gCons (gC (.str " ")) (DL.gCons (gC (.str "(")) (DL.gCons (gC (.str ")")) (DL.gCons (gC (.str "-")) (DL.gCons (gC (.str "0")) (DL.gCons (gC (.str "7")) (DL.gCons (gC (.str "a")) (DL.gCons (gC (.str ".")) (DL.gCons (gC (.str "A")) (DL.gCons (gC (.str "_")) (DL.gCons (gC (.str "\t")) (M.ret []))))))))))))).bind (mkL false)
theorem twelve_eq (ρ : Sg) : twelveE ρ = .ok (.p (.list twelve)) ρ := by
  have : decide (twelve.length ≤ sizeLine) = true := decide_eq_true (by rw [sizeLine_eq]; show 12 ≤ 16777216; decide)
  show ifM (decide (twelve.length ≤ sizeLine)) (newL false twelve) ρ = _
  rw [this]; rfl
theorem twelve_str : ∀ z ∈ twelve, ∃ x : Str, z = .str x ∧ x.length ≤ 1 := by
  intro z hz
  simp only [twelve, List.mem_cons, List.mem_nil_iff, or_false] at hz
  rcases hz with rfl | rfl | rfl | rfl | rfl | rfl | rfl | rfl | rfl | rfl | rfl | rfl <;> exact ⟨_, rfl, by decide +kernel⟩
def reprE (F : FS) (j : Nat) : M DL.D := (DL.gCons ((DL.gCons (gVar j) (M.ret [])).bind (callM 1 F)) (M.ret [])).bind cRepr
theorem reprE_eq {F : FS} {j : Nat} {x y : PyData} {ρ : Sg} (hv : gVar j ρ = .ok (.p x) ρ) (hF : F [.p x] [] = .ok (.p y) ⟨[], []⟩) (hy : Shy y) : reprE F j ρ = .ok (.p (.str y.shown)) ρ := by
  unfold reprE
  rw [bind_eq, gCons_eq, bind_eq, call1 hv hF, rbind_ok, bind_eq, ret_eq, rbind_ok, ret_eq, rbind_ok, repr_eq hy]
/-- two that are the same are not unlike -/
theorem cond_ne {g h : M DL.D} {x : Str} {ρ : Sg} (hg : g ρ = .ok (.p (.str x)) ρ) (hh : h ρ = .ok (.p (.str x)) ρ) : gB (gBin (fB2 pNe) g h) ρ = .ok false ρ := by
  rw [gB_eq, bind_eq, gBin_eq, bind_eq, hg, rbind_ok, bind_eq, hh, rbind_ok, fB2_p, ne_str]; rfl
/-! ### one spoilt text -/
def spoilB : M Fl := gSeq (gAsg (gBin fMod IN1 (gBin (fAdd false) ((DL.gCons (gVar 5) (M.ret [])).bind (c1 pLen)) (gC (.int 1)))) (put 7))
    (gSeq (gAsg (gBin fMod IN1 (gC (.int 2))) (put 8))
    (gSeq (gAsg ((DL.gCons (gVar 1) (DL.gCons twelveE (M.ret []))).bind (callM 2 F__law_pick)) (put 9))
    (gSeq (gAsg (gBin (fAdd false) (gBin (fAdd false) ((gVar 5).bind fun a => (M.ret none).bind fun l => ((gVar 7).bind asIm).bind fun h => fSl false a l h) (gVar 9)) ((gVar 5).bind fun a => ((gBin (fAdd false) (gVar 7) (gVar 8)).bind asIm).bind fun l => (M.ret none).bind fun h => fSl false a l h)) (put 10))
    (gSeq (gIfE (gAnd (gB (gBin (fB2 pNotIn) (gC (.str "bad")) (gVar 10))) (gB (gBin (fB2 pNe) (reprE F__law_told 10) (reprE F__law_due 10)))) (gSeq (gRet (gC (.bool false))) gNext) gNext) gNext))))
theorem get_set_eq {α : Type} {l : List (Option α)} {i : Nat} {d : α} (h : i < l.length) : (l.set i (some d))[i]? = some (some d) := by rw [List.getElem?_set_self h]
theorem spoil_turn {Y : List PyData} {a : List Nat} (ha : a.length ≤ 1901) (ρ : Sg) (h : Inv Y ρ ∧ ρ.s[5]? = some (some (.p (.str (Tx a))))) : ∃ ρ', spoilB ρ = .ok .nx ρ' ∧ (Inv Y ρ' ∧ ρ'.s[5]? = some (some (.p (.str (Tx a))))) := by
  obtain ⟨hI, h5⟩ := h
  obtain ⟨zs, hz, hm⟩ := hI.dr
  obtain ⟨s, m⟩ := ρ
  have hm : m = [.lst Y, .lst zs] := hm
  subst hm
  have h1 : s[1]? = some (some (.loc 1)) := hI.h1
  have hl : s.length = 14 := hI.len
  have h5 : s[5]? = some (some (.p (.str (Tx a)))) := h5
  obtain ⟨i, zs1, i1, i2, d1, e1⟩ := in1_of (Y := Y) hz h1
  obtain ⟨p, hp⟩ : ∃ p, p = i.fmod ((a.length : Int) + 1) := ⟨_, rfl⟩
  have s1 : gAsg (gBin fMod IN1 (gBin (fAdd false) ((DL.gCons (gVar 5) (M.ret [])).bind (c1 pLen)) (gC (.int 1)))) (put 7) ⟨s, [.lst Y, .lst zs]⟩ = .ok .nx ⟨s.set 7 (some (I p)), [.lst Y, .lst zs1]⟩ := by
    have cl : gBin (fAdd false) ((DL.gCons (gVar 5) (M.ret [])).bind (c1 pLen)) (gC (.int 1)) ⟨s, [.lst Y, .lst zs1]⟩ = .ok (I ((a.length : Int) + 1)) ⟨s, [.lst Y, .lst zs1]⟩ := by
      rw [gBin_eq, bind_eq, bind_eq, gCons_eq, bind_eq, slot_v h5, rbind_ok, bind_eq, ret_eq, rbind_ok, ret_eq, rbind_ok, c1_p, len_tx a (by omega)]
      rfl
    rw [gAsg_eq, bind_eq, gBin_eq, bind_eq, e1, rbind_ok, bind_eq, cl, rbind_ok, mod_i _ _ (by omega), ← hp]
    rfl
  have h1' : (s.set 7 (some (I p)))[1]? = some (some (.loc 1)) := by rw [List.getElem?_set_ne (by decide)]; exact h1
  obtain ⟨j, zs2, j1, j2, d2, e2⟩ := in1_of (Y := Y) (s := s.set 7 (some (I p))) d1 h1'
  obtain ⟨c, hc⟩ : ∃ c, c = j.fmod 2 := ⟨_, rfl⟩
  have s2 : gAsg (gBin fMod IN1 (gC (.int 2))) (put 8) ⟨s.set 7 (some (I p)), [.lst Y, .lst zs1]⟩ = .ok .nx ⟨(s.set 7 (some (I p))).set 8 (some (I c)), [.lst Y, .lst zs2]⟩ := by
    rw [gAsg_eq, bind_eq, gBin_eq, bind_eq, e2, rbind_ok, gC_eq, bind_eq, ret_eq, rbind_ok, mod_i _ _ (by omega), ← hc]
    rfl
  obtain ⟨z, zs3, z1, d3, e3⟩ := pick_eq (xs := zs2) (zs := twelve) d2 (by simp [twelve]) (by simp [twelve])
  obtain ⟨g, rfl, hg⟩ := twelve_str z z1
  obtain ⟨s3, hs3⟩ : ∃ t, t = (((s.set 7 (some (I p))).set 8 (some (I c))).set 9 (some (.p (.str g)))) := ⟨_, rfl⟩
  have h1'' : ((s.set 7 (some (I p))).set 8 (some (I c)))[1]? = some (some (.loc 1)) := by rw [List.getElem?_set_ne (by decide)]; exact h1'
  have st3 : gAsg ((DL.gCons (gVar 1) (DL.gCons twelveE (M.ret []))).bind (callM 2 F__law_pick)) (put 9) ⟨(s.set 7 (some (I p))).set 8 (some (I c)), [.lst Y, .lst zs2]⟩ = .ok .nx ⟨s3, [.lst Y, .lst zs3]⟩ := by
    have cl := call_loc (F := F__law_pick) (n := 2) (j := 1) (ρ := ⟨(s.set 7 (some (I p))).set 8 (some (I c)), [.lst Y, .lst zs2]⟩) [.list twelve] rfl rfl rfl rfl e3
    rw [gAsg_eq, bind_eq, bind_eq, gCons_eq, bind_eq, slot_v h1'', rbind_ok, bind_eq, gCons_eq, bind_eq, twelve_eq, rbind_ok, bind_eq, ret_eq, rbind_ok, ret_eq, rbind_ok, ret_eq, rbind_ok]
    show ((callM 2 F__law_pick (.loc 1 :: [PyData.list twelve].map DL.D.p) ⟨(s.set 7 (some (I p))).set 8 (some (I c)), [.lst Y, .lst zs2]⟩).bind _) = _
    rw [cl, hs3]
    rfl
  have t5 : s3[5]? = some (some (.p (.str (Tx a)))) := by rw [hs3, List.getElem?_set_ne (by decide), List.getElem?_set_ne (by decide), List.getElem?_set_ne (by decide)]; exact h5
  have t7 : s3[7]? = some (some (I p)) := by rw [hs3, List.getElem?_set_ne (by decide), List.getElem?_set_ne (by decide)]; exact get_set_eq (by omega)
  have t8 : s3[8]? = some (some (I c)) := by rw [hs3, List.getElem?_set_ne (by decide)]; exact get_set_eq (by simp [hl])
  have t9 : s3[9]? = some (some (.p (.str g))) := by rw [hs3]; exact get_set_eq (by simp [hl])
  have hsl : decide ((Tx a).length ≤ sizeLine) = true := decide_eq_true (by rw [tx_len, sizeLine_eq]; omega)
  have c1' := cutS_len (Tx a) none (some p)
  have c2' := cutS_len (Tx a) (some (p + c)) none
  rw [tx_len a] at c1' c2'
  obtain ⟨w, hw⟩ : ∃ w : List Nat, w = (cutS (Tx a) none (some p) ++ g ++ cutS (Tx a) (some (p + c)) none).cps.toList := ⟨_, rfl⟩
  have wl : w.length ≤ 4000 := by
    have e1 : w.length = (cutS (Tx a) none (some p) ++ g ++ cutS (Tx a) (some (p + c)) none).length := by rw [hw]; simp [Str.length]
    rw [e1, PySem.strLen_append, PySem.strLen_append]
    omega
  have s4 : gAsg (gBin (fAdd false) (gBin (fAdd false) ((gVar 5).bind fun a => (M.ret none).bind fun l => ((gVar 7).bind asIm).bind fun h => fSl false a l h) (gVar 9)) ((gVar 5).bind fun a => ((gBin (fAdd false) (gVar 7) (gVar 8)).bind asIm).bind fun l => (M.ret none).bind fun h => fSl false a l h)) (put 10) ⟨s3, [.lst Y, .lst zs3]⟩ = .ok .nx ⟨s3.set 10 (some (.p (.str (Tx w)))), [.lst Y, .lst zs3]⟩ := by
    have f1 : ((gVar 5).bind fun a => (M.ret none).bind fun l => ((gVar 7).bind asIm).bind fun h => fSl false a l h) ⟨s3, [.lst Y, .lst zs3]⟩ = .ok (.p (.str (cutS (Tx a) none (some p)))) ⟨s3, [.lst Y, .lst zs3]⟩ := by
      rw [bind_eq, slot_v t5, rbind_ok, bind_eq, ret_eq, rbind_ok, bind_eq, bind_eq, slot_v t7, rbind_ok]
      show ifM (decide ((Tx a).length ≤ sizeLine)) (M.ret (DL.D.p (.str (cutS (Tx a) none (some p))))) _ = _
      rw [hsl]; rfl
    have f2 : ((gVar 5).bind fun a => ((gBin (fAdd false) (gVar 7) (gVar 8)).bind asIm).bind fun l => (M.ret none).bind fun h => fSl false a l h) ⟨s3, [.lst Y, .lst zs3]⟩ = .ok (.p (.str (cutS (Tx a) (some (p + c)) none))) ⟨s3, [.lst Y, .lst zs3]⟩ := by
      rw [bind_eq, slot_v t5, rbind_ok, bind_eq, bind_eq, gBin_eq, bind_eq, slot_v t7, rbind_ok, bind_eq, slot_v t8, rbind_ok, addI, ret_eq, rbind_ok]
      show ifM (decide ((Tx a).length ≤ sizeLine)) (M.ret (DL.D.p (.str (cutS (Tx a) (some (p + c)) none)))) _ = _
      rw [hsl]; rfl
    have ad : ∀ x y : Str, x.length + y.length ≤ 100000 → fAdd false (.p (.str x)) (.p (.str y)) = M.ret (.p (.str (x ++ y))) := fun x y hxy => by
      show (if x.length + y.length ≤ sizeLine then M.ret (DL.D.p (.str (x ++ y))) else M.bad) = _
      rw [if_pos (by rw [sizeLine_eq]; omega)]
    rw [gAsg_eq, bind_eq, gBin_eq, bind_eq, gBin_eq, bind_eq, f1, rbind_ok, bind_eq, slot_v t9, rbind_ok, ad _ _ (by omega), ret_eq, rbind_ok, bind_eq, f2, rbind_ok, ad _ _ (by rw [PySem.strLen_append]; omega), ret_eq, rbind_ok, hw, tx_tl]
    rfl
  have u10 : (s3.set 10 (some (.p (.str (Tx w)))))[10]? = some (some (.p (.str (Tx w)))) := get_set_eq (by rw [hs3]; simp [hl])
  have v10 : gVar 10 ⟨s3.set 10 (some (.p (.str (Tx w)))), [.lst Y, .lst zs3]⟩ = .ok (.p (.str (Tx w))) ⟨s3.set 10 (some (.p (.str (Tx w)))), [.lst Y, .lst zs3]⟩ := slot_v u10
  have cc : gAnd (gB (gBin (fB2 pNotIn) (gC (.str "bad")) (gVar 10))) (gB (gBin (fB2 pNe) (reprE F__law_told 10) (reprE F__law_due 10))) ⟨s3.set 10 (some (.p (.str (Tx w)))), [.lst Y, .lst zs3]⟩ = .ok false ⟨s3.set 10 (some (.p (.str (Tx w)))), [.lst Y, .lst zs3]⟩ := by
    obtain ⟨b, hb⟩ : ∃ b, b = (Builtin.Str.occurrences (Tx w) (Tx [98, 97, 100]) 0 (Tx w).length 1).isEmpty := ⟨_, rfl⟩
    have hn : pNotIn (.str "bad") (.str (Tx w)) = some b := by
      rw [s_bad]
      show some (!(!(Builtin.Str.occurrences (Tx w) (Tx [98, 97, 100]) 0 (Tx w).length 1).isEmpty)) = _
      rw [← hb, Bool.not_not]
    unfold gAnd
    rw [bind_eq, gB_eq, bind_eq, gBin_eq, bind_eq, gC_eq, ret_eq, rbind_ok, bind_eq, v10, rbind_ok, fB2_p, hn]
    show ((if b = true then gB (gBin (fB2 pNe) (reprE F__law_told 10) (reprE F__law_due 10)) else M.ret false) _) = _
    cases b with
    | false => rfl
    | true =>
      rw [if_pos rfl]
      have hnb := noBad_in hb.symm
      exact cond_ne (reprE_eq v10 (told_eq w (by omega)) (due_shy w wl)) (reprE_eq v10 (due_eq w (by omega) hnb) (due_shy w wl))
  refine ⟨⟨s3.set 10 (some (.p (.str (Tx w)))), [.lst Y, .lst zs3]⟩, ?_, ⟨⟨by rw [hs3]; simp [hl], ?_, zs3, d3, rfl⟩, ?_⟩⟩
  · unfold spoilB
    rw [gSeq_eq, s1, rbind_ok, sq2_nx, gSeq_eq, s2, rbind_ok, sq2_nx, gSeq_eq, st3, rbind_ok, sq2_nx, gSeq_eq, s4, rbind_ok, sq2_nx, gSeq_eq, gIfE_eq, cc, rbind_ok, if_neg (by decide), gn, rbind_ok, sq2_nx, gn]
  · show (s3.set 10 (some (.p (.str (Tx w)))))[1]? = _
    rw [List.getElem?_set_ne (by decide), hs3, List.getElem?_set_ne (by decide)]; exact h1''
  · show (s3.set 10 (some (.p (.str (Tx w)))))[5]? = _
    rw [List.getElem?_set_ne (by decide)]; exact t5
end
end K20
namespace K20
open PySem PySem.Spec PyProof.Rows L2 DL
section
theorem call1g {F : FS} {g : M DL.D} {x y : PyData} {ρ : Sg} (hv : g ρ = .ok (.p x) ρ) (hF : F [.p x] [] = .ok (.p y) ⟨[], []⟩) : ((DL.gCons g (M.ret [])).bind (callM 1 F)) ρ = .ok (.p y) ρ := by
  rw [bind_eq, gCons_eq, bind_eq, hv, rbind_ok, bind_eq, ret_eq, rbind_ok, ret_eq, rbind_ok]
  exact call_pure (F := F) (n := 1) [x] rfl hF
/-! ### one turn with a term -/
def turnB : M Fl := gSeq (gAsg ((DL.gCons (gVar 1) (DL.gCons (gC (.int 0)) (M.ret []))).bind (callM 2 (F__law_term 60))) (put 4))
    (gSeq (gAsg ((DL.gCons (gVar 4) (M.ret [])).bind (callM 1 (F__law_text 60))) (put 5))
    (gSeq (gIfE (gOr (gB (gBin (fB2 pNe) ((DL.gCons (gVar 4) (M.ret [])).bind (callM 1 (F_term_text 60))) (gVar 5))) (gB (gBin (fB2 pNe) (reprE F__law_told 5) ((DL.gCons ((DL.gCons (gC (.str "term")) (DL.gCons (gVar 4) (M.ret []))).bind (mkL false)) (M.ret [])).bind cRepr)))) (gSeq (gRet (gC (.bool false))) gNext) gNext)
    (gSeq (gIfE (gAnd (gTru ((gVar 4).bind (fIsa PyData.isTuple))) (gB (gBin (fB2 pNe) ((DL.gCons ((DL.gCons (gVar 4) (M.ret [])).bind (cLst false)) (M.ret [])).bind (callM 1 (F_term_text 60))) (gVar 5)))) (gSeq (gRet (gC (.bool false))) gNext) gNext)
    (gSeq (gFor ((DL.gCons (gC (.int 5)) (M.ret [])).bind rg1) (put 6) spoilB) gNext))))
theorem lk4 : Lk 4 = 1901 := rfl
theorem turn_ok {Y : List PyData} (ρ : Sg) (hI : Inv Y ρ) : ∃ ρ', turnB ρ = .ok .nx ρ' ∧ Inv Y ρ' := by
  obtain ⟨zs, hz, hm⟩ := hI.dr
  obtain ⟨s, m⟩ := ρ
  have hm : m = [.lst Y, .lst zs] := hm
  subst hm
  have h1 : s[1]? = some (some (.loc 1)) := hI.h1
  have hl : s.length = 14 := hI.len
  obtain ⟨t, ys, e1, d1, ht⟩ := law_term_all 60 0 (by omega) (by omega) zs hz
  have ht : Tm 4 t := ht
  obtain ⟨s2, hs2⟩ : ∃ q, q = (s.set 4 (some (.p t))).set 5 (some (.p (.str (Tx (txt t))))) := ⟨_, rfl⟩
  have st1 : gAsg ((DL.gCons (gVar 1) (DL.gCons (gC (.int 0)) (M.ret []))).bind (callM 2 (F__law_term 60))) (put 4) ⟨s, [.lst Y, .lst zs]⟩ = .ok .nx ⟨s.set 4 (some (.p t)), [.lst Y, .lst ys]⟩ := by
    have cl := call_loc (F := F__law_term 60) (n := 2) (j := 1) (ρ := ⟨s, [.lst Y, .lst zs]⟩) [.int ((0 : Nat) : Int)] rfl rfl rfl rfl e1
    rw [gAsg_eq, bind_eq, bind_eq, gCons_eq, bind_eq, slot_v h1, rbind_ok, bind_eq, gCons_eq, bind_eq, gC_eq, ret_eq, rbind_ok, bind_eq, ret_eq, rbind_ok, ret_eq, rbind_ok, ret_eq, rbind_ok]
    show ((callM 2 (F__law_term 60) (.loc 1 :: [PyData.int ((0 : Nat) : Int)].map DL.D.p) ⟨s, [.lst Y, .lst zs]⟩).bind _) = _
    rw [cl]
    rfl
  have v4' : (s.set 4 (some (.p t)))[4]? = some (some (.p t)) := get_set_eq (by omega)
  have st2 : gAsg ((DL.gCons (gVar 4) (M.ret [])).bind (callM 1 (F__law_text 60))) (put 5) ⟨s.set 4 (some (.p t)), [.lst Y, .lst ys]⟩ = .ok .nx ⟨s2, [.lst Y, .lst ys]⟩ := by
    rw [gAsg_eq, bind_eq, call1g (slot_v v4') (law_text_tm 4 60 t (by decide) (by decide) ht), hs2]
    rfl
  have t4 : s2[4]? = some (some (.p t)) := by rw [hs2, List.getElem?_set_ne (by decide)]; exact v4'
  have t5 : s2[5]? = some (some (.p (.str (Tx (txt t))))) := by rw [hs2]; exact get_set_eq (by simp [hl])
  have hlen : (txt t).length ≤ 1901 := txt_len 4 t ht
  have hdue : dueV (txt t) = .list [.str "term", t] := by unfold dueV; rw [read_back (by decide) ht]
  have hsh := due_shy (txt t) (by omega)
  have htold := told_eq (txt t) (by omega)
  rw [hdue] at hsh htold
  have c3 : gOr (gB (gBin (fB2 pNe) ((DL.gCons (gVar 4) (M.ret [])).bind (callM 1 (F_term_text 60))) (gVar 5))) (gB (gBin (fB2 pNe) (reprE F__law_told 5) ((DL.gCons ((DL.gCons (gC (.str "term")) (DL.gCons (gVar 4) (M.ret []))).bind (mkL false)) (M.ret [])).bind cRepr))) ⟨s2, [.lst Y, .lst ys]⟩ = .ok false ⟨s2, [.lst Y, .lst ys]⟩ := by
    unfold gOr
    rw [bind_eq, cond_ne (call1g (slot_v t4) (term_text_tm 4 60 t (by decide) (by decide) ht)) (slot_v t5), rbind_ok, if_neg (by decide)]
    refine cond_ne (reprE_eq (slot_v t5) htold hsh) ?_
    have v4 : gVar 4 ⟨s2, [.lst Y, .lst ys]⟩ = .ok (.p t) ⟨s2, [.lst Y, .lst ys]⟩ := slot_v t4
    rw [bind_eq, gCons_eq, bind_eq, bind_eq, gCons_eq, bind_eq, gC_eq, ret_eq, rbind_ok, bind_eq, gCons_eq, bind_eq, v4, rbind_ok, bind_eq, ret_eq, rbind_ok, ret_eq, rbind_ok, ret_eq, rbind_ok, mkL2, ret_eq, rbind_ok, bind_eq, ret_eq, rbind_ok, ret_eq, rbind_ok, repr_eq hsh]
  have c4 : gAnd (gTru ((gVar 4).bind (fIsa PyData.isTuple))) (gB (gBin (fB2 pNe) ((DL.gCons ((DL.gCons (gVar 4) (M.ret [])).bind (cLst false)) (M.ret [])).bind (callM 1 (F_term_text 60))) (gVar 5))) ⟨s2, [.lst Y, .lst ys]⟩ = .ok false ⟨s2, [.lst Y, .lst ys]⟩ := by
    have v4 : gVar 4 ⟨s2, [.lst Y, .lst ys]⟩ = .ok (.p t) ⟨s2, [.lst Y, .lst ys]⟩ := slot_v t4
    have ci : gTru ((gVar 4).bind (fIsa PyData.isTuple)) ⟨s2, [.lst Y, .lst ys]⟩ = .ok t.isTuple ⟨s2, [.lst Y, .lst ys]⟩ := by
      rw [gTru_eq, bind_eq, bind_eq, v4, rbind_ok]; rfl
    unfold gAnd
    rw [bind_eq, ci, rbind_ok]
    cases t with
    | tuple xs =>
      rw [if_pos (show PyData.isTuple (.tuple xs) = true from rfl)]
      have cl : ((DL.gCons (gVar 4) (M.ret [])).bind (cLst false)) ⟨s2, [.lst Y, .lst ys]⟩ = .ok (.p (.list xs)) ⟨s2, [.lst Y, .lst ys]⟩ := by
        rw [bind_eq, gCons_eq, bind_eq, v4]; rfl
      exact cond_ne (call1g cl (term_text_list (by decide) (by decide) ht)) (slot_v t5)
    | none => rfl
    | bool b => rfl
    | int i => rfl
    | str x => rfl
    | list xs => rfl
    | dict kvs => rfl
  have I2 : Inv Y ⟨s2, [.lst Y, .lst ys]⟩ := ⟨by show s2.length = 14; rw [hs2]; simp [hl], by show s2[1]? = _; rw [hs2, List.getElem?_set_ne (by decide), List.getElem?_set_ne (by decide)]; exact h1, ys, d1, rfl⟩
  obtain ⟨ρ', f1, f2, f3⟩ := forL_inv (P := fun ρ => Inv Y ρ ∧ ρ.s[5]? = some (some (.p (.str (Tx (txt t)))))) (i := 6) (b := spoilB)
    (fun ρ d h => ⟨h.1.put 6 d (by decide), by show (ρ.s.set 6 (some d))[5]? = _; rw [List.getElem?_set_ne (by decide)]; exact h.2⟩) (fun ρ h => spoil_turn hlen ρ h) (rangeL 0 5) ⟨s2, [.lst Y, .lst ys]⟩ ⟨I2, t5⟩
  refine ⟨ρ', ?_, f2⟩
  have fr : gFor ((DL.gCons (gC (.int 5)) (M.ret [])).bind rg1) (put 6) spoilB ⟨s2, [.lst Y, .lst ys]⟩ = .ok .nx ρ' := by
    have hr : ((DL.gCons (gC (.int 5)) (M.ret [])).bind rg1) ⟨s2, [.lst Y, .lst ys]⟩ = .ok (rangeL 0 5) ⟨s2, [.lst Y, .lst ys]⟩ := by
      rw [bind_eq, gCons_eq]; exact range_at 5 (by decide) _
    rw [gFor_eq, hr, rbind_ok]; exact f1
  unfold turnB
  rw [gSeq_eq, st1, rbind_ok, sq2_nx, gSeq_eq, st2, rbind_ok, sq2_nx, gSeq_eq, gIfE_eq, c3, rbind_ok, if_neg (by decide), gn, rbind_ok, sq2_nx, gSeq_eq, gIfE_eq, c4, rbind_ok, if_neg (by decide), gn, rbind_ok, sq2_nx, gSeq_eq, fr, rbind_ok, sq2_nx, gn]
/-! ### the first test -/
def some0 : PyData := .tuple [.tuple [.int 1, .int 2], .tuple [.int 1, .int 1]]
def some1 : PyData := .tuple [.str "", .none, .tuple [.int (-5)]]
theorem tm0 : Tm 2 some0 := by
  refine ⟨by decide, fun x hx => ?_⟩
  simp only [List.mem_cons, List.mem_nil_iff, or_false] at hx
  rcases hx with rfl | rfl <;> refine ⟨by decide, fun y hy => ?_⟩ <;> simp only [List.mem_cons, List.mem_nil_iff, or_false] at hy <;> rcases hy with rfl | rfl <;> exact tm_int' _ (by decide)
theorem tm1 : Tm 2 some1 := by
  refine ⟨by decide, fun x hx => ?_⟩
  simp only [List.mem_cons, List.mem_nil_iff, or_false] at hx
  rcases hx with rfl | rfl | rfl
  · exact tm_word 1 (w := []) (by simp) (by decide) (by decide)
  · exact tm_none 1
  · refine ⟨by decide, fun y hy => ?_⟩
    simp only [List.mem_cons, List.mem_nil_iff, or_false] at hy
    subst hy
    exact tm_int' _ (by decide)
theorem n1 : intT 1 = [49] := by unfold intT; rw [if_neg (by decide)]; exact TL.numL_lt (by decide)
theorem n2 : intT 2 = [50] := by unfold intT; rw [if_neg (by decide)]; exact TL.numL_lt (by decide)
theorem n5 : intT (-5) = [45, 53] := by unfold intT; rw [if_pos (by decide)]; rw [show (-5 : Int).natAbs = 5 from rfl, TL.numL_lt (by decide)]
theorem txt0 : ("((1 2) (1 1))" : Str) = Tx (txt some0) := by
  have : txt some0 = [40, 40, 49, 32, 50, 41, 32, 40, 49, 32, 49, 41, 41] := by
    simp [some0, txt, txtAll, seqT, TL.joinL, n1, n2]
  rw [this]; decide +kernel
theorem txt1 : ("(. none (-5))" : Str) = Tx (txt some1) := by
  have : txt some1 = [40, 46, 32, 110, 111, 110, 101, 32, 40, 45, 53, 41, 41] := by
    have e2 : (Str.ofString "").cps = #[] := by decide +kernel
    simp [some1, txt, txtAll, seqT, TL.joinL, n5, strT, e2]
  rw [this]; decide +kernel
def someE : M DL.D := (DL.gCons ((DL.gCons (gC (.int 1)) (DL.gCons (gC (.int 2)) (M.ret []))).bind mkT) (DL.gCons ((DL.gCons (gC (.int 1)) (DL.gCons (gC (.int 1)) (M.ret []))).bind mkT) (M.ret []))).bind mkT
theorem asPs_p : ∀ L : List PyData, asPs (L.map DL.D.p) = some L
  | [] => rfl
  | x :: r => by rw [List.map_cons, asPs, asPs_p r]; rfl
theorem mkT_p (L : List PyData) (h : L.length ≤ 1000) : mkT (L.map DL.D.p) = M.ret (.p (.tuple L)) := by
  unfold mkT
  rw [asPs_p]
  show ifM (decide (L.length ≤ sizeLine)) (newT L) = _
  rw [decide_eq_true (by rw [sizeLine_eq]; omega)]; rfl
theorem mkL_p (L : List PyData) (h : L.length ≤ 1000) : mkL false (L.map DL.D.p) = M.ret (.p (.list L)) := by
  unfold mkL
  rw [asPs_p]
  show ifM (decide (L.length ≤ sizeLine)) (newL false L) = _
  rw [decide_eq_true (by rw [sizeLine_eq]; omega)]; rfl
theorem someE_eq (ρ : Sg) : someE ρ = .ok (.p some0) ρ := by
  have a1 : mkT [.p (.int 1), .p (.int 2)] = M.ret (.p (.tuple [.int 1, .int 2])) := mkT_p [.int 1, .int 2] (by decide)
  have a2 : mkT [.p (.int 1), .p (.int 1)] = M.ret (.p (.tuple [.int 1, .int 1])) := mkT_p [.int 1, .int 1] (by decide)
  have a3 : mkT [.p (.tuple [.int 1, .int 2]), .p (.tuple [.int 1, .int 1])] = M.ret (.p some0) := mkT_p [.tuple [.int 1, .int 2], .tuple [.int 1, .int 1]] (by decide)
  unfold someE
  simp only [bind_eq, gCons_eq, gC_eq, ret_eq, rbind_ok, a1, a2, a3]
theorem first_ok {ρ : Sg} (h : ρ.s[2]? = some (some (.p some0))) : gOr (gB (gBin (fB2 pNe) ((DL.gCons (gVar 2) (M.ret [])).bind (callM 1 (F_term_text 60))) (gC (.str "((1 2) (1 1))")))) (gB (gBin (fB2 pNe) ((DL.gCons ((DL.gCons (gC (.str "(. none (-5))")) (M.ret [])).bind (callM 1 F_read_term)) (M.ret [])).bind cRepr) ((DL.gCons ((DL.gCons (gC (.str "")) (DL.gCons (gC .none) (DL.gCons ((DL.gCons ((gC (.int 5)).bind fNeg) (M.ret [])).bind mkT) (M.ret [])))).bind mkT) (M.ret [])).bind cRepr))) ρ = .ok false ρ := by
  obtain ⟨s, m⟩ := ρ
  have hlen : (txt some1).length ≤ 1901 := Nat.le_trans (txt_len 2 some1 tm1) (by decide)
  have hr := read_term_eq (txt some1) (by omega)
  have hb := read_back (by decide) tm1
  rw [hb] at hr
  have ok : Shy some1 := by
    have tb := term_back 2 some1 tm1 (txt some1) 24 0 [] (by decide) (by simp) (.inl rfl)
    exact shy_one (term_ok 24 0 some1 _ tb).2 (by omega)
  unfold gOr
  rw [bind_eq, cond_ne (call1g (slot_v h) (term_text_tm 2 60 some0 (by decide) (by decide) tm0)) (by rw [gC_eq, txt0]; rfl), rbind_ok, if_neg (by decide)]
  refine cond_ne (x := some1.shown) ?_ ?_
  · rw [bind_eq, gCons_eq, bind_eq, call1g (g := gC (.str "(. none (-5))")) (x := .str (Tx (txt some1))) (by rw [gC_eq, txt1]; rfl) hr, rbind_ok, bind_eq, ret_eq, rbind_ok, ret_eq, rbind_ok, repr_eq ok]
  · have a1 : mkT [.p (.int (-5))] = M.ret (.p (.tuple [.int (-5)])) := mkT_p [.int (-5)] (by decide)
    have a2 : mkT [.p (.str ""), .p .none, .p (.tuple [.int (-5)])] = M.ret (.p some1) := mkT_p [.str "", .none, .tuple [.int (-5)]] (by decide)
    have ng : fNeg (.p (.int 5)) = M.ret (I (-5)) := rfl
    have rp := repr_eq ok ⟨s, m⟩
    simp only [bind_eq, gCons_eq, gC_eq, ret_eq, rbind_ok, ng, a1, a2, rp]
/-! ### the written texts -/
theorem mulS (z : Str) (k : Int) (h : decide (2 ≤ k ∧ k ≤ 100000 ∧ 0 < z.length ∧ z.length ≤ 100) = true) : fMul false (.p (.str z)) (I k) = M.ret (.p (.str (repS z k.toNat))) := by
  show ifM (decide (2 ≤ k ∧ k ≤ 100000 ∧ 0 < z.length ∧ z.length ≤ 100)) _ = _
  rw [h]; rfl
theorem addS (x y : Str) (h : decide (x.length + y.length ≤ 100000) = true) : fAdd false (.p (.str x)) (.p (.str y)) = M.ret (.p (.str (x ++ y))) := by
  have := of_decide_eq_true h
  show (if x.length + y.length ≤ sizeLine then M.ret (DL.D.p (.str (x ++ y))) else M.bad) = _
  rw [if_pos (by rw [sizeLine_eq]; omega)]
def deepS : Str := repS "(" 24 ++ "5" ++ repS ")" 24
def texts1 : List Str := ["", "(", "()", "( )", "(1 )", "(1  2)", "(1 2", "1 2", "-0", "00", "01", "-", repS "1" 20, repS "1" 21, "-" ++ repS "9" 21, deepS, "(" ++ deepS ++ ")", "()()", "(a.)", "5a", "a5"]
def texts2 : List Str := ["none", "..", ")"]
theorem texts_ok : ((texts1 ++ texts2).all fun x => decide (x.cps.toList.length ≤ 100) && nb x.cps.toList) = true := by decide +kernel
def deepE : M DL.D := gBin (fAdd false) (gBin (fAdd false) (gBin (fMul false) (gC (.str "(")) (gC (.int 24))) (gC (.str "5"))) (gBin (fMul false) (gC (.str ")")) (gC (.int 24)))
theorem deepE_eq (ρ : Sg) : deepE ρ = .ok (.p (.str deepS)) ρ := by
  have m1 := mulS "(" 24 (by decide +kernel)
  have m2 := mulS ")" 24 (by decide +kernel)
  have a1 := addS (repS "(" (24 : Int).toNat) "5" (by decide +kernel)
  have a2 := addS (repS "(" (24 : Int).toNat ++ "5") (repS ")" (24 : Int).toNat) (by decide +kernel)
  unfold deepE
  simp only [gBin_eq, bind_eq, gC_eq, ret_eq, rbind_ok, m1, m2, a1, a2]
  rfl
def listE : M DL.D := (DL.gCons (gC (.str "")) (DL.gCons (gC (.str "(")) (DL.gCons (gC (.str "()")) (DL.gCons (gC (.str "( )")) (DL.gCons (gC (.str "(1 )")) (DL.gCons (gC (.str "(1  2)")) (DL.gCons (gC (.str "(1 2")) (DL.gCons (gC (.str "1 2")) (DL.gCons (gC (.str "-0")) (DL.gCons (gC (.str "00")) (DL.gCons (gC (.str "01")) (DL.gCons (gC (.str "-")) (DL.gCons (gBin (fMul false) (gC (.str "1")) (gC (.int 20))) (DL.gCons (gBin (fMul false) (gC (.str "1")) (gC (.int 21))) (DL.gCons (gBin (fAdd false) (gC (.str "-")) (gBin (fMul false) (gC (.str "9")) (gC (.int 21)))) (DL.gCons (gVar 11) (DL.gCons (gBin (fAdd false) (gBin (fAdd false) (gC (.str "(")) (gVar 11)) (gC (.str ")"))) (DL.gCons (gC (.str "()()")) (DL.gCons (gC (.str "(a.)")) (DL.gCons (gC (.str "5a")) (DL.gCons (gC (.str "a5")) (M.ret [])))))))))))))))))))))).bind (mkL false)
theorem listE_eq {ρ : Sg} (h : gVar 11 ρ = .ok (.p (.str deepS)) ρ) : listE ρ = .ok (.p (.list (texts1.map PyData.str))) ρ := by
  have m1 := mulS "1" 20 (by decide +kernel)
  have m2 := mulS "1" 21 (by decide +kernel)
  have m3 := mulS "9" 21 (by decide +kernel)
  have a1 := addS "-" (repS "9" (21 : Int).toNat) (by decide +kernel)
  have a2 := addS "(" deepS (by decide +kernel)
  have a3 := addS ("(" ++ deepS) ")" (by decide +kernel)
  have l := mkL_p (texts1.map PyData.str) (by decide +kernel)
  simp only [texts1, List.map_cons, List.map_nil] at l
  unfold listE
  simp only [gBin_eq, bind_eq, gCons_eq, gC_eq, ret_eq, rbind_ok, m1, m2, m3, a1, a2, a3, h]
  show mkL false _ ρ = _
  exact congrFun l ρ
def addE : M DL.D := gBin (fAdd false) (gVar 12) ((DL.gCons (gC (.str "none")) (DL.gCons (gC (.str "..")) (DL.gCons (gC (.str ")")) (M.ret [])))).bind (mkL false))
theorem addE_eq {ρ : Sg} (h : gVar 12 ρ = .ok (.p (.list (texts1.map PyData.str))) ρ) : addE ρ = .ok (.p (.list ((texts1 ++ texts2).map PyData.str))) ρ := by
  have l : mkL false [.p (.str "none"), .p (.str ".."), .p (.str ")")] = M.ret (.p (.list (texts2.map PyData.str))) := mkL_p (texts2.map PyData.str) (by decide)
  have hl : (texts1.map PyData.str).length + (texts2.map PyData.str).length ≤ sizeLine := by
    rw [List.length_map, List.length_map, sizeLine_eq]; show 21 + 3 ≤ 16777216; decide
  have ad : fAdd false (.p (.list (texts1.map PyData.str))) (.p (.list (texts2.map PyData.str))) = M.ret (.p (.list ((texts1 ++ texts2).map PyData.str))) := by
    funext ρ
    show fAddS false (.p (.list (texts1.map PyData.str))) (.p (.list (texts2.map PyData.str))) ρ = _
    unfold fAddS
    rw [bind_eq]
    show (((sq (.p (.list (texts2.map PyData.str)))).bind fun y => if (texts1.map PyData.str).length + y.2.length ≤ sizeLine then addK false true y.1 ((texts1.map PyData.str) ++ y.2) else M.bad) ρ) = _
    rw [bind_eq]
    show ((if (texts1.map PyData.str).length + (texts2.map PyData.str).length ≤ sizeLine then addK false true true ((texts1.map PyData.str) ++ (texts2.map PyData.str)) else M.bad) ρ) = _
    rw [if_pos hl, ← List.map_append]; rfl
  unfold addE
  rw [gBin_eq, bind_eq, h, rbind_ok]
  simp only [bind_eq, gCons_eq, gC_eq, ret_eq, rbind_ok, l, ad]
def dueS : PyData → PyData
  | .str z => .str (dueV z.cps.toList).shown
  | _ => .str ""
theorem strs_plain (f : PyData → PyData) (hf : ∀ x, ∃ z, f x = .str z) : ∀ xs : List PyData, PyData.plainAll (xs.map f) = true ∧ PyData.depthAll (xs.map f) = 0
  | [] => ⟨rfl, rfl⟩
  | x :: xs => by
    obtain ⟨z, hz⟩ := hf x
    obtain ⟨h1, h2⟩ := strs_plain f hf xs
    rw [List.map_cons, hz, PyData.plainAll, PyData.depthAll, h1, h2]
    exact ⟨rfl, rfl⟩
theorem dueS_str (x : PyData) : ∃ z, dueS x = .str z := by
  cases x <;> exact ⟨_, rfl⟩
theorem texts_cond {s : List (Option DL.D)} {m : List Cell} (h : s[12]? = some (some (.p (.list ((texts1 ++ texts2).map PyData.str))))) (h5 : 5 < s.length) : gB (gBin (fB2 pNe) (gLc false [5] ((gVar 12).bind itA) (put 5) (M.ret true) (reprE F__law_told 5)) (gLc false [5] ((gVar 12).bind itA) (put 5) (M.ret true) (reprE F__law_due 5))) ⟨s, m⟩ = .ok false ⟨s, m⟩ := by
  have hi : ((gVar 12).bind itA) ⟨s, m⟩ = .ok ((texts1 ++ texts2).map PyData.str) ⟨s, m⟩ := by rw [bind_eq, slot_v h]; rfl
  have hl : ((texts1 ++ texts2).map PyData.str).length ≤ sizeLine := by rw [List.length_map, sizeLine_eq]; show 24 ≤ 16777216; decide
  have ev : ∀ x ∈ (texts1 ++ texts2).map PyData.str, ∃ z : Str, x = .str z ∧ z.cps.toList.length ≤ 100 ∧ noBad z.cps.toList := by
    intro x hx
    obtain ⟨z, hz, rfl⟩ := List.mem_map.mp hx
    have := List.all_eq_true.mp texts_ok z hz
    rw [Bool.and_eq_true, decide_eq_true_eq] at this
    exact ⟨z, rfl, this.1, noBad_of this.2⟩
  have sl : ∀ x : PyData, ((wipeD s [5]).set 5 (some (.p x)))[5]? = some (some (.p x)) := fun x => get_set_eq (by show 5 < (s.set 5 none).length; rw [List.length_set]; exact h5)
  have g1 := gLc_ok (i := 5) (vs := [5]) (ge := reprE F__law_told 5) (m := m) dueS hi hl (by
    intro x hx
    obtain ⟨z, rfl, z1, z2⟩ := ev x hx
    have ht := told_eq z.cps.toList (by omega)
    rw [tx_tl] at ht
    exact reprE_eq (slot_v (sl _)) ht (due_shy _ (by omega)))
  have g2 := gLc_ok (i := 5) (vs := [5]) (ge := reprE F__law_due 5) (m := m) dueS hi hl (by
    intro x hx
    obtain ⟨z, rfl, z1, z2⟩ := ev x hx
    have ht := due_eq z.cps.toList (by omega) z2
    rw [tx_tl] at ht
    exact reprE_eq (slot_v (sl _)) ht (due_shy _ (by omega)))
  obtain ⟨p1, p2⟩ := strs_plain dueS dueS_str ((texts1 ++ texts2).map PyData.str)
  have hn := ne_list (((texts1 ++ texts2).map PyData.str).map dueS) (by rw [PyData.plain]; exact p1) (by rw [PyData.depth, p2]; decide)
  generalize ((texts1 ++ texts2).map PyData.str).map dueS = L at g1 g2 hn
  rw [gB_eq, bind_eq, gBin_eq, bind_eq, g1, rbind_ok, bind_eq, g2, rbind_ok, fB2_p, hn]
  rfl
/-! ### the great numbers -/
theorem great_loop : ∀ (is : List PyData) (b : Int) (s : List (Option DL.D)) (m : List Cell), s.length = 14 → s[13]? = some (some (I b)) → ∃ s', forL (put 3) (gSeq (gAsg (gBin (fMul false) (gC (.int 10)) (gVar 13)) (put 13)) gNext) is ⟨s, m⟩ = .ok .nx ⟨s', m⟩ ∧ s'.length = 14 ∧ s'[13]? = some (some (I (b * 10 ^ is.length)))
  | [], b, s, m, hl, h => ⟨s, rfl, hl, by simpa using h⟩
  | x :: is, b, s, m, hl, h => by
    have h' : (s.set 3 (some (.p x)))[13]? = some (some (I b)) := by rw [List.getElem?_set_ne (by decide)]; exact h
    have hm : fMul false (I 10) (I b) = M.ret (I (10 * b)) := by
      show ifI (cMul 10 b) _ = _
      rw [cm' 10 b (by decide)]; rfl
    have e : gSeq (gAsg (gBin (fMul false) (gC (.int 10)) (gVar 13)) (put 13)) gNext ⟨s.set 3 (some (.p x)), m⟩ = .ok .nx ⟨(s.set 3 (some (.p x))).set 13 (some (I (10 * b))), m⟩ := by
      rw [gSeq_eq, gAsg_eq, bind_eq, gBin_eq, bind_eq, gC_eq, ret_eq, rbind_ok, bind_eq, slot_v h', rbind_ok, hm]
      rfl
    obtain ⟨s', h1, h2, h3⟩ := great_loop is (10 * b) ((s.set 3 (some (.p x))).set 13 (some (I (10 * b)))) m (by simp [hl]) (get_set_eq (by simp [hl]))
    refine ⟨s', ?_, h2, ?_⟩
    · show ((gSeq (gAsg (gBin (fMul false) (gC (.int 10)) (gVar 13)) (put 13)) gNext ⟨s.set 3 (some (.p x)), m⟩).bind _) = _
      rw [e]
      exact h1
    · rw [h3, List.length_cons, Int.pow_succ]
      congr 3
      rw [Int.mul_comm 10 b, Int.mul_assoc, Int.mul_comm 10]
theorem numL_nines : ∀ k : Nat, TL.numL (10 ^ (k + 1) - 1) = List.replicate (k + 1) 57
  | 0 => TL.numL_lt (by decide)
  | k + 1 => by
    have hp : 10 ^ (k + 1) ≥ 10 := by
      have : 10 ^ 1 ≤ 10 ^ (k + 1) := Nat.pow_le_pow_right (by decide) (by omega)
      omega
    have e1 : 10 ^ (k + 1 + 1) = 10 * 10 ^ (k + 1) := by rw [Nat.pow_succ, Nat.mul_comm]
    have ih := numL_nines k
    rw [TL.numL_step (by omega), show (10 ^ (k + 1 + 1) - 1) / 10 = 10 ^ (k + 1) - 1 by omega, show (10 ^ (k + 1 + 1) - 1) % 10 = 9 by omega, ih, List.replicate_succ' (n := k + 1)]
theorem rep_fold (c : Nat) : ∀ (n : Nat) (acc : Array Nat), (((List.replicate n (#[c] : Array Nat)).foldl (· ++ ·) acc)).toList = acc.toList ++ List.replicate n c
  | 0, acc => by simp
  | n + 1, acc => by
    rw [List.replicate_succ, List.foldl_cons, rep_fold c n, List.replicate_succ]
    simp
theorem rep9 (n : Nat) : repS "9" n = Tx (List.replicate n 57) := by
  have e : ("9" : Str).cps = #[57] := by decide +kernel
  unfold repS
  rw [e]
  have := rep_fold 57 n #[]
  have h2 : ((List.replicate n (#[57] : Array Nat)).foldl (· ++ ·) #[]) = (List.replicate n 57).toArray := by
    apply Array.toList_inj.mp
    rw [this]; simp
  rw [h2]
theorem nines (n : Int) (h : n.natAbs = 10 ^ 4000 - 1) : TL.numL n.natAbs = List.replicate 4000 57 := by
  rw [h]; exact numL_nines 3999
theorem refused_eq {x : PyData} (h : F_term_text 60 [.p x] [] = .er bnE ⟨[], []⟩) : F__law_refused [.p x] [] = .ok (.p (.bool true)) ⟨[], []⟩ := by
  have e : g__law_refused = gSeq (gTry (gSeq (gExpr ((DL.gCons (gVar 0) (M.ret [])).bind (callM 1 (F_term_text 60)))) (gSeq (gRet (gC (.bool false))) gNext)) (fun e => if e = "BadNumber" then some true else none) (fun _ => (gSeq (gRet (gC (.bool true))) gNext))) gNext := rfl
  refine out1 (s := [some (.p x)]) (m := []) ?_
  have c := call1E (F := F_term_text 60) (i := 0) (x := x) (ρ := ⟨[some (.p x)], []⟩) rfl h
  show g__law_refused ⟨[some (.p x)], []⟩ = _
  have : gTry (gSeq (gExpr ((DL.gCons (gVar 0) (M.ret [])).bind (callM 1 (F_term_text 60)))) (gSeq (gRet (gC (.bool false))) gNext)) (fun e => if e = "BadNumber" then some true else none) (fun _ => (gSeq (gRet (gC (.bool true))) gNext)) ⟨[some (.p x)], []⟩ = .ok (.rt (.p (.bool true))) ⟨[some (.p x)], []⟩ := by
    unfold gTry
    rw [gSeq_eq, gExpr_eq, bind_eq, c]
    rfl
  rw [e, gSeq_eq, this]
  rfl
theorem ref_str {w : List Nat} (h : BadS w) (hl : w.length ≤ 1000) (n : Nat) : F_term_text (n + 1) [.p (.str (Tx w))] [] = .er bnE ⟨[], []⟩ := by
  rw [F_term_text, term_text_str _ w hl, if_pos h]
def ends5 : List PyData := [.str "none", .str "A", .str "a b", .tuple [.str "ok", .str "x1"], .tuple [.tuple [.str "none"]]]
theorem s_A : ("A" : Str) = Tx [65] := by decide +kernel
theorem s_ab : ("a b" : Str) = Tx [97, 32, 98] := by decide +kernel
theorem s_ok : ("ok" : Str) = Tx [111, 107] := by decide +kernel
theorem s_x1 : ("x1" : Str) = Tx [120, 49] := by decide +kernel
theorem ref5 : ∀ x ∈ ends5, F__law_refused [.p x] [] = .ok (.p (.bool true)) ⟨[], []⟩ := by
  intro x hx
  refine refused_eq ?_
  simp only [ends5, List.mem_cons, List.mem_nil_iff, or_false] at hx
  rcases hx with rfl | rfl | rfl | rfl | rfl
  · rw [s_none]; exact ref_str (by decide) (by decide) 59
  · rw [s_A]; exact ref_str (by decide) (by decide) 59
  · rw [s_ab]; exact ref_str (by decide) (by decide) 59
  · rw [F_term_text]
    refine term_text_seqE (F := F_term_text 59) (t := .tuple [.str "ok", .str "x1"]) (x := .str "x1") (pre := [.str "ok"]) (post := []) (f := txt) rfl rfl rfl rfl ?_ ?_ (by decide)
    · intro y hy
      rw [List.mem_singleton.mp hy]
      exact term_text_tm 0 59 (.str "ok") (by decide) (by decide) (by rw [s_ok]; exact tm_word 0 (by decide) (by decide) (by decide))
    · rw [s_x1]; exact ref_str (by decide) (by decide) 58
  · rw [F_term_text]
    refine term_text_seqE (F := F_term_text 59) (t := .tuple [.tuple [.str "none"]]) (x := .tuple [.str "none"]) (pre := []) (post := []) (f := txt) rfl rfl rfl rfl (by simp) ?_ (by decide)
    rw [F_term_text]
    refine term_text_seqE (F := F_term_text 58) (t := .tuple [.str "none"]) (x := .str "none") (pre := []) (post := []) (f := txt) rfl rfl rfl rfl (by simp) ?_ (by decide)
    rw [s_none]; exact ref_str (by decide) (by decide) 57
end
end K20
namespace K20
open PySem PySem.Spec PyProof.Rows L2 DL
section
def retF0 : M Fl := gSeq (gRet (gC (.bool false))) gNext
def greatC : M Bool := gOr (gB (gBin (fB2 pNe) ((DL.gCons (gBin fSub (gVar 13) (gC (.int 1))) (M.ret [])).bind (callM 1 (F_term_text 60))) (gBin (fMul false) (gC (.str "9")) (gC (.int 4000))))) (gOr (gB (gBin (fB2 pNe) ((DL.gCons (gBin fSub (gC (.int 1)) (gVar 13)) (M.ret [])).bind (callM 1 (F_term_text 60))) (gBin (fAdd false) (gC (.str "-")) (gBin (fMul false) (gC (.str "9")) (gC (.int 4000)))))) (gNot (gTru ((DL.gCons (gVar 13) (M.ret [])).bind (callM 1 F__law_refused)))))
def lastE : M DL.D := gBin (fB2 pEq) (gLc false [4] (((DL.gCons (gC (.str "none")) (DL.gCons (gC (.str "A")) (DL.gCons (gC (.str "a b")) (DL.gCons ((DL.gCons (gC (.str "ok")) (DL.gCons (gC (.str "x1")) (M.ret []))).bind mkT) (DL.gCons ((DL.gCons ((DL.gCons (gC (.str "none")) (M.ret [])).bind mkT) (M.ret [])).bind mkT) (M.ret [])))))).bind (mkL false)).bind itA) (put 4) (M.ret true) ((DL.gCons (gVar 4) (M.ret [])).bind (callM 1 F__law_refused))) (gBin (fMul false) ((DL.gCons (gC (.bool true)) (M.ret [])).bind (mkL false)) (gC (.int 5)))
theorem g_law_e : g_law = gSeq (gAsg ((DL.gCons (gVar 0) (M.ret [])).bind (callM 1 F__law_draws)) (put 1))
    (gSeq (gAsg ((DL.gCons (gVar 1) (DL.gCons (gC (.int 120)) (M.ret []))).bind (callM 2 F__law_more)) (put 1))
    (gSeq (gAsg someE (put 2))
    (gSeq (gIfE (gOr (gB (gBin (fB2 pNe) ((DL.gCons (gVar 2) (M.ret [])).bind (callM 1 (F_term_text 60))) (gC (.str "((1 2) (1 1))")))) (gB (gBin (fB2 pNe) ((DL.gCons ((DL.gCons (gC (.str "(. none (-5))")) (M.ret [])).bind (callM 1 F_read_term)) (M.ret [])).bind cRepr) ((DL.gCons ((DL.gCons (gC (.str "")) (DL.gCons (gC .none) (DL.gCons ((DL.gCons ((gC (.int 5)).bind fNeg) (M.ret [])).bind mkT) (M.ret [])))).bind mkT) (M.ret [])).bind cRepr)))) retF0 gNext)
    (gSeq (gFor ((DL.gCons (gC (.int 4)) (M.ret [])).bind rg1) (put 3) turnB)
    (gSeq (gAsg deepE (put 11))
    (gSeq (gAsg listE (put 12))
    (gSeq (gAsg addE (put 12))
    (gSeq (gIfE (gB (gBin (fB2 pNe) (gLc false [5] ((gVar 12).bind itA) (put 5) (M.ret true) (reprE F__law_told 5)) (gLc false [5] ((gVar 12).bind itA) (put 5) (M.ret true) (reprE F__law_due 5)))) retF0 gNext)
    (gSeq (gAsg (gC (.int 1)) (put 13))
    (gSeq (gFor ((DL.gCons (gC (.int 4000)) (M.ret [])).bind rg1) (put 3) (gSeq (gAsg (gBin (fMul false) (gC (.int 10)) (gVar 13)) (put 13)) gNext))
    (gSeq (gIfE greatC retF0 gNext)
    (gSeq (gRet lastE) gNext)))))))))))) := rfl
theorem great_c {s : List (Option DL.D)} {m : List Cell} (h : s[13]? = some (some (I (10 ^ 4000)))) : greatC ⟨s, m⟩ = .ok false ⟨s, m⟩ := by
  obtain ⟨B, hB⟩ : ∃ B : Nat, B = 10 ^ 4000 := ⟨_, rfl⟩
  have eB : ((10 : Int) ^ 4000) = (B : Int) := by rw [hB]; exact (Int.natCast_pow 10 4000).symm
  have hpos : 1 < B := by rw [hB]; exact Nat.one_lt_pow (by decide) (by decide)
  have v : gVar 13 ⟨s, m⟩ = .ok (I (B : Int)) ⟨s, m⟩ := by rw [← eB]; exact slot_v h
  have tt : ∀ n : Int, F_term_text 60 [.p (.int n)] [] = if n.natAbs < B then .ok (.p (.str (Tx (intT n)))) ⟨[], []⟩ else .er bnE ⟨[], []⟩ := fun n => by
    rw [F_term_text, term_text_int, hB]
  have i1 : intT ((B : Int) - 1) = List.replicate 4000 57 := by
    unfold intT
    rw [if_neg (by omega)]
    exact nines _ (by rw [← hB]; omega)
  have i2 : intT (1 - (B : Int)) = 45 :: List.replicate 4000 57 := by
    unfold intT
    rw [if_pos (by omega), nines _ (by rw [← hB]; omega)]
  have t1 := tt ((B : Int) - 1)
  rw [if_pos (by omega), i1, ← rep9] at t1
  have t2 := tt (1 - (B : Int))
  rw [if_pos (by omega), i2] at t2
  have t3 := tt (B : Int)
  rw [if_neg (by omega)] at t3
  have m9 := mulS "9" 4000 (by decide +kernel)
  have g9 : gBin (fMul false) (gC (.str "9")) (gC (.int 4000)) ⟨s, m⟩ = .ok (.p (.str (repS "9" 4000))) ⟨s, m⟩ := by
    rw [gBin_eq, bind_eq, gC_eq, ret_eq, rbind_ok, gC_eq, bind_eq, ret_eq, rbind_ok, m9]; rfl
  have g9m : gBin (fAdd false) (gC (.str "-")) (gBin (fMul false) (gC (.str "9")) (gC (.int 4000))) ⟨s, m⟩ = .ok (.p (.str (Tx (45 :: List.replicate 4000 57)))) ⟨s, m⟩ := by
    rw [gBin_eq, bind_eq, gC_eq, ret_eq, rbind_ok, bind_eq, g9, rbind_ok, rep9, s_min, add_tx _ _ _ (by rw [List.length_replicate]; decide)]
    rfl
  have a1 : gBin fSub (gVar 13) (gC (.int 1)) ⟨s, m⟩ = .ok (.p (.int ((B : Int) - 1))) ⟨s, m⟩ := by
    rw [gBin_eq, bind_eq, v]; rfl
  have a2 : gBin fSub (gC (.int 1)) (gVar 13) ⟨s, m⟩ = .ok (.p (.int (1 - (B : Int)))) ⟨s, m⟩ := by
    rw [gBin_eq, bind_eq, gC_eq, ret_eq, rbind_ok, bind_eq, v]; rfl
  unfold greatC gOr
  rw [bind_eq, cond_ne (call1g a1 t1) g9, rbind_ok, if_neg (by decide), bind_eq, cond_ne (call1g a2 t2) g9m, rbind_ok, if_neg (by decide)]
  unfold gNot
  rw [bind_eq, gTru_eq, bind_eq, call1g v (refused_eq t3)]
  rfl
theorem last_e {s : List (Option DL.D)} {m : List Cell} (hl : s.length = 14) : lastE ⟨s, m⟩ = .ok (.p (.bool true)) ⟨s, m⟩ := by
  have q1 : mkT [.p (.str "ok"), .p (.str "x1")] = M.ret (.p (.tuple [.str "ok", .str "x1"])) := mkT_p [.str "ok", .str "x1"] (by decide)
  have q2 : mkT [.p (.str "none")] = M.ret (.p (.tuple [.str "none"])) := mkT_p [.str "none"] (by decide)
  have q3 : mkT [.p (.tuple [.str "none"])] = M.ret (.p (.tuple [.tuple [.str "none"]])) := mkT_p [.tuple [.str "none"]] (by decide)
  have q4 : mkL false [.p (.str "none"), .p (.str "A"), .p (.str "a b"), .p (.tuple [.str "ok", .str "x1"]), .p (.tuple [.tuple [.str "none"]])] = M.ret (.p (.list ends5)) := mkL_p ends5 (by decide)
  have q5 : mkL false [.p (.bool true)] = M.ret (.p (.list [.bool true])) := mkL_p [.bool true] (by decide)
  have hi : (((DL.gCons (gC (.str "none")) (DL.gCons (gC (.str "A")) (DL.gCons (gC (.str "a b")) (DL.gCons ((DL.gCons (gC (.str "ok")) (DL.gCons (gC (.str "x1")) (M.ret []))).bind mkT) (DL.gCons ((DL.gCons ((DL.gCons (gC (.str "none")) (M.ret [])).bind mkT) (M.ret [])).bind mkT) (M.ret [])))))).bind (mkL false)).bind itA) ⟨s, m⟩ = .ok ends5 ⟨s, m⟩ := by
    simp only [bind_eq, gCons_eq, gC_eq, ret_eq, rbind_ok, q1, q2, q3, q4]
    rfl
  have gl := gLc_ok (i := 4) (vs := [4]) (ge := (DL.gCons (gVar 4) (M.ret [])).bind (callM 1 F__law_refused)) (fun _ => .bool true) hi (by rw [sizeLine_eq]; show 5 ≤ 16777216; decide) (fun x hx => call1g (slot_v (get_set_eq (by show 4 < (s.set 4 none).length; rw [List.length_set, hl]; decide))) (ref5 x hx))
  have mm : fMul false (.p (.list [.bool true])) (I 5) = M.ret (.p (.list [.bool true, .bool true, .bool true, .bool true, .bool true])) := by
    funext ρ
    show ifM (decide (-(2 ^ 63) ≤ (5 : Int) ∧ (5 : Int) < 2 ^ 63 ∧ 1 * (5 : Int).toNat ≤ sizeLine)) (newL false (repL [.bool true] (5 : Int).toNat)) ρ = _
    rw [decide_eq_true (by refine ⟨by decide, by decide, ?_⟩; rw [sizeLine_eq]; decide)]
    rfl
  have gm : gBin (fMul false) ((DL.gCons (gC (.bool true)) (M.ret [])).bind (mkL false)) (gC (.int 5)) ⟨s, m⟩ = .ok (.p (.list (ends5.map fun _ => PyData.bool true))) ⟨s, m⟩ := by
    simp only [gBin_eq, bind_eq, gCons_eq, gC_eq, ret_eq, rbind_ok, q5, mm]
    rfl
  have eq := eq_list (ends5.map fun _ => PyData.bool true) (by rfl) (by decide)
  unfold lastE
  rw [gBin_eq, bind_eq, gl, rbind_ok, bind_eq, gm, rbind_ok, fB2_p, eq]
  rfl
theorem plain_law (ns : List Int) (hn : ns.length ≤ 63) : F_law [.scr ns] [] = .ok (.p (.bool true)) ⟨[], []⟩ := by
  obtain ⟨xs, d0, l0, e0⟩ := draws_eq hn
  obtain ⟨Y, zs, dY, lz, e1, dz⟩ := more_eq d0 (by omega)
  obtain ⟨S0, hS0⟩ : ∃ s : List (Option DL.D), s = some (.scr ns) :: List.replicate 13 none := ⟨_, rfl⟩
  have st : startD 14 [.scr ns] [] = ⟨S0, []⟩ := by rw [hS0]; rfl
  have l0 : S0.length = 14 := by rw [hS0]; rfl
  have v0 : gVar 0 ⟨S0, []⟩ = .ok (.scr ns) ⟨S0, []⟩ := by rw [hS0]; rfl
  have a1 : gAsg ((DL.gCons (gVar 0) (M.ret [])).bind (callM 1 F__law_draws)) (put 1) ⟨S0, []⟩ = .ok .nx ⟨S0.set 1 (some (.loc 0)), [.lst xs]⟩ := by
    have c : callM 1 F__law_draws [.scr ns] ⟨S0, []⟩ = .ok (.loc 0) ⟨S0, [.lst xs]⟩ := by
      unfold callM
      have e : locsOf [DL.D.scr ns] = [] := rfl
      simp [e, cellsAt, renD, e0, setAll, backD, Cell.flat]
    rw [gAsg_eq, bind_eq, bind_eq, gCons_eq, bind_eq, v0, rbind_ok, bind_eq, ret_eq, rbind_ok, ret_eq, rbind_ok, c]
    rfl
  have h1 : (S0.set 1 (some (DL.D.loc 0)))[1]? = some (some (.loc 0)) := get_set_eq (by omega)
  have a2 : gAsg ((DL.gCons (gVar 1) (DL.gCons (gC (.int 120)) (M.ret []))).bind (callM 2 F__law_more)) (put 1) ⟨S0.set 1 (some (.loc 0)), [.lst xs]⟩ = .ok .nx ⟨(S0.set 1 (some (.loc 0))).set 1 (some (.loc 1)), [.lst Y, .lst zs]⟩ := by
    have c : callM 2 F__law_more [.loc 0, I 120] ⟨S0.set 1 (some (.loc 0)), [.lst xs]⟩ = .ok (.loc 1) ⟨S0.set 1 (some (.loc 0)), [.lst Y, .lst zs]⟩ := by
      unfold callM
      have e : locsOf [DL.D.loc 0, I 120] = [0] := rfl
      simp [e, cellsAt, renD, e1, setAll, backD, Cell.flat, Cell.live]
    rw [gAsg_eq, bind_eq, bind_eq, gCons_eq, bind_eq, slot_v h1, rbind_ok, bind_eq, gCons_eq, bind_eq, gC_eq, ret_eq, rbind_ok, bind_eq, ret_eq, rbind_ok, ret_eq, rbind_ok, ret_eq, rbind_ok, c]
    rfl
  obtain ⟨s2, hs2⟩ : ∃ q, q = (((S0.set 1 (some (DL.D.loc 0))).set 1 (some (.loc 1))).set 2 (some (.p some0))) := ⟨_, rfl⟩
  have a3 : gAsg someE (put 2) ⟨(S0.set 1 (some (.loc 0))).set 1 (some (.loc 1)), [.lst Y, .lst zs]⟩ = .ok .nx ⟨s2, [.lst Y, .lst zs]⟩ := by
    rw [gAsg_eq, bind_eq, someE_eq, hs2]; rfl
  have I2 : Inv Y ⟨s2, [.lst Y, .lst zs]⟩ := ⟨by show s2.length = 14; rw [hs2]; simp [l0], by show s2[1]? = _; rw [hs2, List.getElem?_set_ne (by decide)]; exact get_set_eq (by simp [l0]), zs, dz, rfl⟩
  have c4 := first_ok (ρ := ⟨s2, [.lst Y, .lst zs]⟩) (by show s2[2]? = _; rw [hs2]; exact get_set_eq (by simp [l0]))
  obtain ⟨ρ3, f3, I3⟩ := forL_inv (P := Inv Y) (i := 3) (b := turnB) (fun ρ d h => h.put 3 d (by decide)) (fun ρ h => turn_ok ρ h) (rangeL 0 4) ⟨s2, [.lst Y, .lst zs]⟩ I2
  obtain ⟨s3, m3⟩ := ρ3
  have l3 : s3.length = 14 := I3.len
  have a5 : gFor ((DL.gCons (gC (.int 4)) (M.ret [])).bind rg1) (put 3) turnB ⟨s2, [.lst Y, .lst zs]⟩ = .ok .nx ⟨s3, m3⟩ := by
    have hr : ((DL.gCons (gC (.int 4)) (M.ret [])).bind rg1) ⟨s2, [.lst Y, .lst zs]⟩ = .ok (rangeL 0 4) ⟨s2, [.lst Y, .lst zs]⟩ := by
      rw [bind_eq, gCons_eq]; exact range_at 4 (by decide) _
    rw [gFor_eq, hr, rbind_ok]; exact f3
  have a6 : gAsg deepE (put 11) ⟨s3, m3⟩ = .ok .nx ⟨s3.set 11 (some (.p (.str deepS))), m3⟩ := by rw [gAsg_eq, bind_eq, deepE_eq]; rfl
  have v11 : gVar 11 ⟨s3.set 11 (some (.p (.str deepS))), m3⟩ = .ok (.p (.str deepS)) ⟨s3.set 11 (some (.p (.str deepS))), m3⟩ := slot_v (get_set_eq (by omega))
  obtain ⟨s4, hs4⟩ : ∃ q, q = (s3.set 11 (some (.p (.str deepS)))).set 12 (some (.p (.list (texts1.map PyData.str)))) := ⟨_, rfl⟩
  have a7 : gAsg listE (put 12) ⟨s3.set 11 (some (.p (.str deepS))), m3⟩ = .ok .nx ⟨s4, m3⟩ := by rw [gAsg_eq, bind_eq, listE_eq v11, hs4]; rfl
  have l4 : s4.length = 14 := by rw [hs4]; simp [l3]
  have v12 : gVar 12 ⟨s4, m3⟩ = .ok (.p (.list (texts1.map PyData.str))) ⟨s4, m3⟩ := slot_v (by rw [hs4]; exact get_set_eq (by simp [l3]))
  obtain ⟨s5, hs5⟩ : ∃ q, q = s4.set 12 (some (.p (.list ((texts1 ++ texts2).map PyData.str)))) := ⟨_, rfl⟩
  have a8 : gAsg addE (put 12) ⟨s4, m3⟩ = .ok .nx ⟨s5, m3⟩ := by rw [gAsg_eq, bind_eq, addE_eq v12, hs5]; rfl
  have l5 : s5.length = 14 := by rw [hs5]; simp [l4]
  have c9 := texts_cond (s := s5) (m := m3) (by rw [hs5]; exact get_set_eq (by omega)) (by omega)
  have a10 : gAsg (gC (.int 1)) (put 13) ⟨s5, m3⟩ = .ok .nx ⟨s5.set 13 (some (I 1)), m3⟩ := rfl
  obtain ⟨s6, f6, l6, h6⟩ := great_loop (rangeL 0 4000) 1 (s5.set 13 (some (I 1))) m3 (by simp [l5]) (get_set_eq (by omega))
  rw [rangeL_len, Int.one_mul] at h6
  have a11 : gFor ((DL.gCons (gC (.int 4000)) (M.ret [])).bind rg1) (put 3) (gSeq (gAsg (gBin (fMul false) (gC (.int 10)) (gVar 13)) (put 13)) gNext) ⟨s5.set 13 (some (I 1)), m3⟩ = .ok .nx ⟨s6, m3⟩ := by
    have hr : ((DL.gCons (gC (.int 4000)) (M.ret [])).bind rg1) ⟨s5.set 13 (some (I 1)), m3⟩ = .ok (rangeL 0 4000) ⟨s5.set 13 (some (I 1)), m3⟩ := by
      rw [bind_eq, gCons_eq]; exact range_at 4000 (by decide) _
    rw [gFor_eq, hr, rbind_ok]; exact f6
  have c12 := great_c (m := m3) h6
  have hg : g_law ⟨S0, []⟩ = .ok (.rt (.p (.bool true))) ⟨s6, m3⟩ := by
    rw [g_law_e, gSeq_eq, a1, rbind_ok, sq2_nx, gSeq_eq, a2, rbind_ok, sq2_nx, gSeq_eq, a3, rbind_ok, sq2_nx, gSeq_eq, gIfE_eq, c4, rbind_ok, if_neg (by decide), gn, rbind_ok, sq2_nx, gSeq_eq, a5, rbind_ok, sq2_nx, gSeq_eq, a6, rbind_ok, sq2_nx, gSeq_eq, a7, rbind_ok, sq2_nx, gSeq_eq, a8, rbind_ok, sq2_nx,
      gSeq_eq, gIfE_eq, c9, rbind_ok, if_neg (by decide), gn, rbind_ok, sq2_nx, gSeq_eq, a10, rbind_ok, sq2_nx, gSeq_eq, a11, rbind_ok, sq2_nx, gSeq_eq, gIfE_eq, c12, rbind_ok, if_neg (by decide), gn, rbind_ok, sq2_nx, gSeq_eq, gRet_eq, bind_eq, last_e l6]
    rfl
  refine (fnF_eq rfl ((congrArg g_law st).trans hg)).trans ?_
  simp [fin, finD]
end
end K20
open PySem PySem.W PyProof.Rows
set_option maxHeartbeats 0 in
open_top hd_k20 for PySem.Challenge.rw_fitbypapers_k20_texts_of_tuples
open PySem PySem.W PyProof.Rows
set_option maxHeartbeats 0 in
theorem K20.ends (hT : ∀ ns : List Int, ns.length ≤ 63 → K20.F_law [.scr ns] [] = .ok (.p (.bool true)) ⟨[], []⟩) : PySem.Challenge.rw_fitbypapers_k20_texts_of_tuples.Holds := hd_k20 (by
  refine DL.walk_G (l := PySem.Challenge.rw_fitbypapers_k20_texts_of_tuples) (n := 63) (k := 67) (x := "script") (F := K20.F_law) rfl (by decide) rfl ⟨rfl, by decide, by decide⟩ (fun w h Y => PySem.W.kIn_of Y) ?F hT
  case F =>
    intro w mg fa h KX G hmg
    refine' K20.law_fn (K20.all_mk KX G ?dg ?z_abs ?z_all ?z_int ?z_isinstance ?z_len ?z_list ?z_range ?z_repr ?z_str ?z_tuple ?v_FIGURES ?v_MOST_BITS ?v_MOST_FIGURES ?v_MOST_OPEN ?v_MOST_TEXT ?v_NOBODY ?v_NOTHING ?v_SMALL ?a_FitError ?eC_FitError ?iC_FitError ?tC_FitError ?sC_FitError ?kC_FitError ?ex_FitError ?a_BadNumber ?eC_BadNumber ?iC_BadNumber ?tC_BadNumber ?sC_BadNumber ?kC_BadNumber ?ex_BadNumber ?a_Malformed ?eC_Malformed ?iC_Malformed ?tC_Malformed ?sC_Malformed ?kC_Malformed ?x_Malformed ?rv_Malformed ?sa_Malformed ?ga_Malformed ?gg_Malformed ?no_Malformed ?hd_Malformed ?ii_Malformed ?ti_Malformed ?l_Malformed_init ?cc_Malformed_init ?q_Malformed_init ?rd_FitError ?sg_FitError ?fi_FitError ?a_Reading ?pg_Reading ?hd_Reading ?po_Reading ?sa_Reading ?mk_Reading ?kC_Reading ?na_Reading_at ?na_Reading_text ?a_has_text ?l_has_text ?cc_has_text ?q_has_text ?a_term_text ?l_term_text ?cc_term_text ?q_term_text ?ii_Reading_init ?l_Reading_init ?cc_Reading_init ?q_Reading_init ?fn_Reading_init ?ii_Reading_next_sign ?l_Reading_next_sign ?cc_Reading_next_sign ?q_Reading_next_sign ?fn_Reading_next_sign ?ii_Reading_is_at ?l_Reading_is_at ?cc_Reading_is_at ?q_Reading_is_at ?fn_Reading_is_at ?ii_Reading_take ?l_Reading_take ?cc_Reading_take ?q_Reading_take ?fn_Reading_take ?ii_Reading_integer ?l_Reading_integer ?cc_Reading_integer ?q_Reading_integer ?fn_Reading_integer ?ii_Reading_term ?l_Reading_term ?cc_Reading_term ?q_Reading_term ?fn_Reading_term ?ii_Reading_told_rows ?l_Reading_told_rows ?cc_Reading_told_rows ?q_Reading_told_rows ?fn_Reading_told_rows ?a_read_term ?l_read_term ?cc_read_term ?q_read_term ?a__law_number ?l__law_number ?cc__law_number ?q__law_number ?a__law_draws ?l__law_draws ?cc__law_draws ?q__law_draws ?a__law_next ?l__law_next ?cc__law_next ?q__law_next ?a__law_more ?l__law_more ?cc__law_more ?q__law_more ?a__law_pick ?l__law_pick ?cc__law_pick ?q__law_pick ?a__law_term ?l__law_term ?cc__law_term ?q__law_term ?a__law_text ?l__law_text ?cc__law_text ?q__law_text ?a__law_integer ?l__law_integer ?cc__law_integer ?q__law_integer ?a__law_read ?l__law_read ?cc__law_read ?q__law_read ?a__law_entries ?l__law_entries ?cc__law_entries ?q__law_entries ?a__law_due ?l__law_due ?cc__law_due ?q__law_due ?a__law_told ?l__law_told ?cc__law_told ?q__law_told ?a__law_refused ?l__law_refused ?cc__law_refused ?q__law_refused ?a_law ?l_law ?cc_law ?q_law) hmg
    (case dg => k_is)
    (case z_abs => k_is)
    (case z_all => k_is)
    (case z_int => k_is)
    (case z_isinstance => k_is)
    (case z_len => k_is)
    (case z_list => k_is)
    (case z_range => k_is)
    (case z_repr => k_is)
    (case z_str => k_is)
    (case z_tuple => k_is)
    (case v_FIGURES => k_is)
    (case v_MOST_BITS => k_is)
    (case v_MOST_FIGURES => k_is)
    (case v_MOST_OPEN => k_is)
    (case v_MOST_TEXT => k_is)
    (case v_NOBODY => k_is)
    (case v_NOTHING => k_is)
    (case v_SMALL => k_is)
    (case a_FitError => k_is)
    (case eC_FitError => k_is)
    (case iC_FitError => k_is)
    (case tC_FitError => k_is)
    (case sC_FitError => k_is)
    (case kC_FitError => k_is)
    (case ex_FitError => k_exc)
    (case a_BadNumber => k_is)
    (case eC_BadNumber => k_is)
    (case iC_BadNumber => k_is)
    (case tC_BadNumber => k_is)
    (case sC_BadNumber => k_is)
    (case kC_BadNumber => k_is)
    (case ex_BadNumber => k_exc)
    (case a_Malformed => k_is)
    (case eC_Malformed => k_is)
    (case iC_Malformed => k_is)
    (case tC_Malformed => k_is)
    (case sC_Malformed => k_is)
    (case kC_Malformed => k_is)
    (case x_Malformed => k_is)
    (case rv_Malformed => first | decide +kernel | rfl)
    (case sa_Malformed => k_is)
    (case ga_Malformed => k_is)
    (case gg_Malformed => k_is)
    (case no_Malformed => k_is)
    (case hd_Malformed => k_is)
    (case ii_Malformed => k_is)
    (case ti_Malformed => k_is)
    (case l_Malformed_init => k_is)
    (case cc_Malformed_init => k_is)
    (case q_Malformed_init => k_is)
    (case rd_FitError => k_is)
    (case sg_FitError => k_is)
    (case fi_FitError => k_is)
    (case a_Reading => k_is)
    (case pg_Reading => k_is)
    (case hd_Reading => k_is)
    (case po_Reading => k_is)
    (case sa_Reading => k_is)
    (case mk_Reading => k_is)
    (case kC_Reading => k_is)
    (case na_Reading_at => k_is)
    (case na_Reading_text => k_is)
    (case a_has_text => k_is)
    (case l_has_text => k_is)
    (case cc_has_text => k_is)
    (case q_has_text => k_is)
    (case a_term_text => k_is)
    (case l_term_text => k_is)
    (case cc_term_text => k_is)
    (case q_term_text => k_is)
    (case ii_Reading_init => k_is)
    (case l_Reading_init => k_is)
    (case cc_Reading_init => k_is)
    (case q_Reading_init => k_is)
    (case fn_Reading_init => k_is)
    (case ii_Reading_next_sign => k_is)
    (case l_Reading_next_sign => k_is)
    (case cc_Reading_next_sign => k_is)
    (case q_Reading_next_sign => k_is)
    (case fn_Reading_next_sign => k_is)
    (case ii_Reading_is_at => k_is)
    (case l_Reading_is_at => k_is)
    (case cc_Reading_is_at => k_is)
    (case q_Reading_is_at => k_is)
    (case fn_Reading_is_at => k_is)
    (case ii_Reading_take => k_is)
    (case l_Reading_take => k_is)
    (case cc_Reading_take => k_is)
    (case q_Reading_take => k_is)
    (case fn_Reading_take => k_is)
    (case ii_Reading_integer => k_is)
    (case l_Reading_integer => k_is)
    (case cc_Reading_integer => k_is)
    (case q_Reading_integer => k_is)
    (case fn_Reading_integer => k_is)
    (case ii_Reading_term => k_is)
    (case l_Reading_term => k_is)
    (case cc_Reading_term => k_is)
    (case q_Reading_term => k_is)
    (case fn_Reading_term => k_is)
    (case ii_Reading_told_rows => k_is)
    (case l_Reading_told_rows => k_is)
    (case cc_Reading_told_rows => k_is)
    (case q_Reading_told_rows => k_is)
    (case fn_Reading_told_rows => k_is)
    (case a_read_term => k_is)
    (case l_read_term => k_is)
    (case cc_read_term => k_is)
    (case q_read_term => k_is)
    (case a__law_number => k_is)
    (case l__law_number => k_is)
    (case cc__law_number => k_is)
    (case q__law_number => k_is)
    (case a__law_draws => k_is)
    (case l__law_draws => k_is)
    (case cc__law_draws => k_is)
    (case q__law_draws => k_is)
    (case a__law_next => k_is)
    (case l__law_next => k_is)
    (case cc__law_next => k_is)
    (case q__law_next => k_is)
    (case a__law_more => k_is)
    (case l__law_more => k_is)
    (case cc__law_more => k_is)
    (case q__law_more => k_is)
    (case a__law_pick => k_is)
    (case l__law_pick => k_is)
    (case cc__law_pick => k_is)
    (case q__law_pick => k_is)
    (case a__law_term => k_is)
    (case l__law_term => k_is)
    (case cc__law_term => k_is)
    (case q__law_term => k_is)
    (case a__law_text => k_is)
    (case l__law_text => k_is)
    (case cc__law_text => k_is)
    (case q__law_text => k_is)
    (case a__law_integer => k_is)
    (case l__law_integer => k_is)
    (case cc__law_integer => k_is)
    (case q__law_integer => k_is)
    (case a__law_read => k_is)
    (case l__law_read => k_is)
    (case cc__law_read => k_is)
    (case q__law_read => k_is)
    (case a__law_entries => k_is)
    (case l__law_entries => k_is)
    (case cc__law_entries => k_is)
    (case q__law_entries => k_is)
    (case a__law_due => k_is)
    (case l__law_due => k_is)
    (case cc__law_due => k_is)
    (case q__law_due => k_is)
    (case a__law_told => k_is)
    (case l__law_told => k_is)
    (case cc__law_told => k_is)
    (case q__law_told => k_is)
    (case a__law_refused => k_is)
    (case l__law_refused => k_is)
    (case cc__law_refused => k_is)
    (case q__law_refused => k_is)
    (case a_law => k_is)
    (case l_law => k_is)
    (case cc_law => k_is)
    (case q_law => k_is))

theorem PySem.Challenge.cw_fitbypapers_k20_texts_of_tuples_holds : PySem.Challenge.rw_fitbypapers_k20_texts_of_tuples.Holds := by
  exact K20.ends K20.plain_law
