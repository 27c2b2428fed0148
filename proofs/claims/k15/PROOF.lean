import PyProof.Rows.All
import Wide.All
import OpenK.AllK
import Wide.FinOn
import HandS.ForMost
import HandS.Lambda
import HandS.TupAny
import HandS.TupLe
import HandS.Wide
import HandS.TupMul
import KE.DataEq
import KE.DataCmp
import KE.DataAny
import KE.DataIsa
import HandS.Walk
import HandS.Exc
import HandS.ExcOwn
import HandS.CallSlots
import HandS.WordsExc
import HandS.Flow
import KE.GoesEnum
import KE.GoesNew
import KE.GoesMore
import HandS.Comp
import HandS.IsInst
import HandS.Text
import HandS.StrMore
import HandS.Star
import HandS.Style
import HandS.More
import HandS.Replace
import KE.KTup
import KE.KAssignIn
import HandS.ExcInit
import HandS.TryMany
import HandS.HeadHook4
import KE.KExcSuper
import KE.KSuper
import HandS.ExcField
import KE.GoesRaise
import HandS.HeadWalk
import HandS.HeadNt
import HandS.HeadEnd
import HandS.Head2
import HandS.EndTab
import KE.KStateDown
import PySem.Challenge.RW_shelforder_k15_data_as_bytes_and_back
set_option Elab.async false
set_option linter.all false
set_option maxRecDepth 100000
set_option maxHeartbeats 2000000
namespace DL
open PySem PySem.Spec PyProof.Rows L2
/-- data: plain values, tuples and lists that stand still by value; changing objects by address, classes by name (in the guise of dicts, which plain data never are) -/
abbrev D := PyData
def dref (a : Addr) : D := .dict [(.none, .int a)]
def dty (n : String) : D := .dict [(.bool true, .list (n.toList.map fun c => .int c.toNat))]
/-- a list that was given and only read (the script) -/
def dscr (ds : List D) : D := .dict [(.list ds, .none)]
theorem dref_inj {a b : Addr} (h : dref a = dref b) : a = b := by
  injection h with h
  injection h with h _
  injection h with _ h
  injection h with h
  exact Int.ofNat.inj h
theorem dty_inj {m n : String} (h : dty m = dty n) : m = n := by
  injection h with h
  injection h with h _
  injection h with _ h
  injection h with h
  have key : ∀ l k : List Char, (l.map fun c => (PyData.int c.toNat)) = k.map (fun c => PyData.int c.toNat) → l = k := by
    intro l
    induction l with
    | nil => intro k e; cases k with
      | nil => rfl
      | cons _ _ => cases e
    | cons c l ih => intro k e; cases k with
      | nil => cases e
      | cons c' k =>
        injection e with e1 e2
        injection e1 with e1
        rw [ih k e2, Char.toNat_inj.mp (Int.ofNat.inj e1)]
  exact String.toList_inj.mp (key _ _ h)
theorem dref_ne_dty {a : Addr} {n : String} : dref a ≠ dty n := fun h => by
  injection h with h
  injection h with h _
  injection h with h _
  cases h
mutual
/-- the value v is the data d, where S stands still -/
inductive Rp (K : PySem.W.Frag) (S : Hp) : V → D → Prop
  | non : Rp K S .non .none
  | bl (b : Bool) : Rp K S (.bl b) (.bool b)
  | int (i : Int) : Rp K S (.int i) (.int i)
  | str (x : Str) : Rp K S (.str x) (.str x)
  | ref (a : Addr) : Rp K S (.ref a) (dref a)
  | ty (n : String) : Rp K S (.ty n) (dty n)
  | tup {a : Addr} {vs : List V} {ds : List D} : SqT K S a vs → RpAll K S vs ds → Rp K S (.ref a) (.tuple ds)
  | lst {a : Addr} {vs : List V} {ds : List D} : S a = some (.lst vs) → RpAll K S vs ds → Rp K S (.ref a) (.list ds)
  | scr {a : Addr} {vs : List V} {ds : List D} : SqL K S a vs → RpAll K S vs ds → Rp K S (.ref a) (dscr ds)
inductive RpAll (K : PySem.W.Frag) (S : Hp) : List V → List D → Prop
  | nil : RpAll K S [] []
  | cons {v : V} {vs : List V} {d : D} {ds : List D} : Rp K S v d → RpAll K S vs ds → RpAll K S (v :: vs) (d :: ds)
end
theorem same_seqL {K : PySem.W.Frag} {H H' : Hp} {a : Addr} {xs : List V} (e : Same H H') (h : SqL K H a xs) : SqL K H' a xs := by
  rcases h with (h | ⟨o, h⟩) | h
  · exact .inl (.inl (e _ _ h))
  · exact .inl (.inr ⟨o, e _ _ h⟩)
  · exact .inr h
theorem same_seqT {K : PySem.W.Frag} {H H' : Hp} {a : Addr} {xs : List V} (e : Same H H') (h : SqT K H a xs) : SqT K H' a xs := by
  rcases h with (h | ⟨o, h⟩) | h
  · exact .inl (.inl (e _ _ h))
  · exact .inl (.inr ⟨o, e _ _ h⟩)
  · exact .inr h
section
variable {K : PySem.W.Frag} {S S' : Hp}
mutual
theorem Rp.mono (e : Same S S') : ∀ {v : V} {d : D}, Rp K S v d → Rp K S' v d
  | _, _, .non => .non
  | _, _, .bl b => .bl b
  | _, _, .int i => .int i
  | _, _, .str x => .str x
  | _, _, .ref a => .ref a
  | _, _, .ty n => .ty n
  | _, _, .tup h r => .tup (same_seqT e h) (RpAll.mono e r)
  | _, _, .lst h r => .lst (e _ _ h) (RpAll.mono e r)
  | _, _, .scr h r => .scr (same_seqL e h) (RpAll.mono e r)
theorem RpAll.mono (e : Same S S') : ∀ {vs : List V} {ds : List D}, RpAll K S vs ds → RpAll K S' vs ds
  | _, _, .nil => .nil
  | _, _, .cons h r => .cons (Rp.mono e h) (RpAll.mono e r)
end
theorem RpAll.length : ∀ {vs : List V} {ds : List D}, RpAll K S vs ds → vs.length = ds.length
  | _, _, .nil => rfl
  | _, _, .cons _ r => by simp [RpAll.length r]
theorem RpAll.append : ∀ {vs ws : List V} {ds es : List D}, RpAll K S vs ds → RpAll K S ws es → RpAll K S (vs ++ ws) (ds ++ es)
  | _, _, _, _, .nil, r => r
  | _, _, _, _, .cons h t, r => .cons h (RpAll.append t r)
theorem RpAll.take : ∀ {vs : List V} {ds : List D} (n : Nat), RpAll K S vs ds → RpAll K S (vs.take n) (ds.take n)
  | _, _, 0, _ => by simpa using RpAll.nil
  | _, _, _ + 1, .nil => .nil
  | _, _, n + 1, .cons h t => .cons h (RpAll.take n t)
theorem RpAll.drop : ∀ {vs : List V} {ds : List D} (n : Nat), RpAll K S vs ds → RpAll K S (vs.drop n) (ds.drop n)
  | _, _, 0, r => r
  | _, _, _ + 1, .nil => .nil
  | _, _, n + 1, .cons _ t => RpAll.drop n t
theorem RpAll.set : ∀ {vs : List V} {ds : List D} {v : V} {d : D} (n : Nat), RpAll K S vs ds → Rp K S v d → RpAll K S (vs.set n v) (ds.set n d)
  | _, _, _, _, _, .nil, _ => .nil
  | _, _, _, _, 0, .cons _ t, r => .cons r t
  | _, _, _, _, n + 1, .cons h t, r => .cons h (RpAll.set n t r)
theorem RpAll.get : ∀ {vs : List V} {ds : List D} {i : Nat} {v : V}, RpAll K S vs ds → vs[i]? = some v → ∃ d, ds[i]? = some d ∧ Rp K S v d
  | _, _, _, _, .nil, e => by simp at e
  | _, _, 0, _, .cons h _, e => by simp at e; subst e; exact ⟨_, rfl, h⟩
  | _, _, i + 1, _, .cons _ t, e => by
    obtain ⟨d, h1, h2⟩ := RpAll.get (i := i) t (by simpa using e)
    exact ⟨d, by simpa using h1, h2⟩
theorem RpAll.get' : ∀ {vs : List V} {ds : List D} {i : Nat} {d : D}, RpAll K S vs ds → ds[i]? = some d → ∃ v, vs[i]? = some v ∧ Rp K S v d
  | _, _, _, _, .nil, e => by simp at e
  | _, _, 0, _, .cons h _, e => by simp at e; subst e; exact ⟨_, rfl, h⟩
  | _, _, i + 1, _, .cons _ t, e => by
    obtain ⟨d, h1, h2⟩ := RpAll.get' (i := i) t (by simpa using e)
    exact ⟨d, by simpa using h1, h2⟩
theorem RpAll.dropLast : ∀ {vs : List V} {ds : List D}, RpAll K S vs ds → RpAll K S vs.dropLast ds.dropLast := fun {vs ds} r => by
  rw [List.dropLast_eq_take, List.dropLast_eq_take, r.length]
  exact r.take _
theorem RpAll.reverse : ∀ {vs : List V} {ds : List D}, RpAll K S vs ds → RpAll K S vs.reverse ds.reverse
  | _, _, .nil => .nil
  | _, _, .cons h t => by
    rw [List.reverse_cons, List.reverse_cons]
    exact RpAll.append (RpAll.reverse t) (.cons h .nil)
theorem RpAll.erase : ∀ {vs : List V} {ds : List D} (i : Nat), RpAll K S vs ds → RpAll K S (vs.eraseIdx i) (ds.eraseIdx i)
  | _, _, _, .nil => .nil
  | _, _, 0, .cons _ t => t
  | _, _, i + 1, .cons h t => .cons h (RpAll.erase i t)
end
/-- what a changing object holds -/
inductive M where
  | lst (xs : List D)
  | seq (xs : List D)
  | ins (C : Addr) (fs : List (Str × D))
  | dK (kvs : List (Key × D))
  | dT (kvs : List (List Key × D))
  | tab (q : Str)
/-- attributes (or entries), one by one -/
inductive RpKV (K : PySem.W.Frag) (S : Hp) {κ : Type} : List (κ × V) → List (κ × D) → Prop
  | nil : RpKV K S [] []
  | cons {k : κ} {v : V} {d : D} {vs : List (κ × V)} {ds : List (κ × D)} : Rp K S v d → RpKV K S vs ds → RpKV K S ((k, v) :: vs) ((k, d) :: ds)
theorem RpKV.mono {K : PySem.W.Frag} {S S' : Hp} {κ : Type} (e : Same S S') : ∀ {vs : List (κ × V)} {ds : List (κ × D)}, RpKV K S vs ds → RpKV K S' vs ds
  | _, _, .nil => .nil
  | _, _, .cons h t => .cons (h.mono e) (RpKV.mono e t)
def MRep (K : PySem.W.Frag) (S H : Hp) (a : Addr) : M → Prop
  | .lst xs => ∃ vs, H a = some (.lst vs) ∧ RpAll K S vs xs
  | .seq xs => ∃ o vs, H a = some (.frz o (.lst vs)) ∧ RpAll K S vs xs
  | .ins C fs => ∃ dx vs, H a = some (.ins C dx vs) ∧ RpKV K S vs fs
  | .dK kvs => ∃ vs, H a = some (.dK vs) ∧ RpKV K S vs kvs
  | .dT kvs => ∃ vs, H a = some (.dT vs) ∧ RpKV K S vs kvs
  | .tab q => ∃ ps, H a = some (.tbl ps) ∧ TriplesOk ps.toList ∧ ∀ pos cv, codeAmong pos ps.toList = some cv → ∃ c, cv = .ref c ∧ S c = some (LamX.CodeO c q)
/-- changing objects by their addresses -/
abbrev Mem := Addr → Option M
def mset (μ : Mem) (a : Addr) (m : M) : Mem := fun b => if b = a then some m else μ b
theorem mset_same {μ : Mem} {a : Addr} {m : M} : mset μ a m a = some m := if_pos rfl
theorem mset_ne {μ : Mem} {a b : Addr} {m : M} (h : b ≠ a) : mset μ a m b = μ b := if_neg h
theorem mset_mset {μ : Mem} {a : Addr} {m n : M} : mset (mset μ a m) a n = mset μ a n := by
  funext b; unfold mset; split <;> rfl
def mdel (μ : Mem) (a : Addr) : Mem := fun b => if b = a then none else μ b
/-- S stands still in H; F stands as it is, nobody else minds it; the memory is held, apart from both -/
structure WR (K : PySem.W.Frag) (F S H : Hp) (μ : Mem) : Prop where
  sub : Same S H
  frm : ∀ a o, F a = some o → H a = some o ∧ S a = none ∧ μ a = none
  mem : ∀ a m, μ a = some m → S a = none ∧ MRep K S H a m
  frl : ∀ a o, F a = some o → ∃ vs, o = .lst vs
  stt : ∀ a ps, S a ≠ some (.tbl ps)
/-- a slot: data, or a list of one's own -/
inductive Sl where
  | v (d : D)
  | o (xs : List D)
abbrev Rho := List (Option Sl)
/-- what stood at the entry -/
structure Act where
  F0 : Hp
  S0 : Hp
structure ER (K : PySem.W.Frag) (Γ : Act) (σ : L2.St) (ρ : Rho) (F S H : Hp) (μ : Mem) : Prop where
  wr : WR K F S H μ
  f0 : Same Γ.F0 F
  s0 : Same Γ.S0 S
  len : σ.length = ρ.length
  at_ : ∀ (i : Nat) (d : D), ρ[i]? = some (some (.v d)) → ∃ v, σ[i]? = some (some v) ∧ Rp K S v d
  own : ∀ (i : Nat) (xs : List D), ρ[i]? = some (some (.o xs)) → ∃ p vs, σ[i]? = some (some (.ref p)) ∧ F p = some (.lst vs) ∧ Γ.F0 p = none ∧ RpAll K S vs xs
  one : ∀ (i j : Nat) (xs ys : List D) (p : Addr), ρ[i]? = some (some (.o xs)) → ρ[j]? = some (some (.o ys)) → σ[i]? = some (some (.ref p)) → σ[j]? = some (some (.ref p)) → i = j
section
variable {K : PySem.W.Frag} {Γ : Act} {σ : L2.St} {ρ : Rho} {F S H S' H' : Hp} {μ μ' : Mem}
theorem ER.later (r : ER K Γ σ ρ F S H μ) (e : Same S S') (w : WR K F S' H' μ') : ER K Γ σ ρ F S' H' μ' :=
  ⟨w, r.f0, r.s0.trans e, r.len, fun i d h => let ⟨v, a, b⟩ := r.at_ i d h; ⟨v, a, b.mono e⟩, fun i xs h => let ⟨p, vs, a, b, c, d⟩ := r.own i xs h; ⟨p, vs, a, b, c, d.mono e⟩, r.one⟩
theorem set_none {α : Type} {l : List (Option α)} {i j : Nat} {x y : Option α} (h : (l.set i x)[j]? = some y) : (j = i ∧ i < l.length ∧ y = x) ∨ (j ≠ i ∧ l[j]? = some y) := by
  by_cases hj : i = j
  · subst hj
    by_cases hl : i < l.length
    · rw [List.getElem?_set_self hl] at h
      exact .inl ⟨rfl, hl, (Option.some.inj h).symm⟩
    · rw [List.getElem?_eq_none (by simpa using hl)] at h
      cases h
  · rw [List.getElem?_set_ne hj] at h
    exact .inr ⟨fun e => hj e.symm, h⟩
theorem ER.set {i : Nat} {v : V} {d : D} (r : ER K Γ σ ρ F S H μ) (q : Rp K S v d) : ER K Γ (σ.set i (some v)) (ρ.set i (some (.v d))) F S H μ := by
  refine ⟨r.wr, r.f0, r.s0, by simp [r.len], fun j e h => ?_, fun j xs h => ?_, fun j k xs ys p h1 h2 h3 h4 => ?_⟩
  · rcases set_none h with ⟨rfl, hl, e1⟩ | ⟨hj, h⟩
    · cases e1
      exact ⟨v, by rw [List.getElem?_set_self (by rw [r.len]; exact hl)], q⟩
    · obtain ⟨u, a, b⟩ := r.at_ j e h
      exact ⟨u, by rw [List.getElem?_set_ne (Ne.symm hj)]; exact a, b⟩
  · rcases set_none h with ⟨rfl, hl, e1⟩ | ⟨hj, h⟩
    · cases e1
    · obtain ⟨u, vs, a, b⟩ := r.own j xs h
      exact ⟨u, vs, by rw [List.getElem?_set_ne (Ne.symm hj)]; exact a, b⟩
  · rcases set_none h1 with ⟨rfl, hl, e1⟩ | ⟨hj, h1⟩
    · cases e1
    · rcases set_none h2 with ⟨rfl, hl, e1⟩ | ⟨hk, h2⟩
      · cases e1
      · rw [List.getElem?_set_ne (Ne.symm hj)] at h3
        rw [List.getElem?_set_ne (Ne.symm hk)] at h4
        exact r.one j k xs ys p h1 h2 h3 h4
theorem ER.drop {i : Nat} (r : ER K Γ σ ρ F S H μ) : ER K Γ σ (ρ.set i none) F S H μ := by
  refine ⟨r.wr, r.f0, r.s0, by simp [r.len], fun j e h => ?_, fun j xs h => ?_, fun j k xs ys p h1 h2 h3 h4 => ?_⟩
  · rcases set_none h with ⟨rfl, hl, e1⟩ | ⟨hj, h⟩
    · cases e1
    · exact r.at_ j e h
  · rcases set_none h with ⟨rfl, hl, e1⟩ | ⟨hj, h⟩
    · cases e1
    · exact r.own j xs h
  · rcases set_none h1 with ⟨rfl, hl, e1⟩ | ⟨hj, h1⟩
    · cases e1
    · rcases set_none h2 with ⟨rfl, hl, e1⟩ | ⟨hk, h2⟩
      · cases e1
      · exact r.one j k xs ys p h1 h2 h3 h4
end
section
variable {K : PySem.W.Frag} {F S H : Hp} {μ : Mem}
/-- a mark of a memory that an object is at an address -/
theorem MRep.there {a : Addr} {m : M} (h : MRep K S H a m) : ∃ o, H a = some o := by
  cases m with
  | lst xs => obtain ⟨vs, e, _⟩ := h; exact ⟨_, e⟩
  | seq xs => obtain ⟨o, vs, e, _⟩ := h; exact ⟨_, e⟩
  | ins C fs => obtain ⟨dx, vs, e, _⟩ := h; exact ⟨_, e⟩
  | dK kvs => obtain ⟨vs, e, _⟩ := h; exact ⟨_, e⟩
  | dT kvs => obtain ⟨vs, e, _⟩ := h; exact ⟨_, e⟩
  | tab q => obtain ⟨ps, e, _⟩ := h; exact ⟨_, e⟩
theorem MRep.mono {S' H' : Hp} {a : Addr} {m : M} (h : MRep K S H a m) (e : Same S S') (k : H' a = H a) : MRep K S' H' a m := by
  cases m with
  | lst xs => obtain ⟨vs, q, r⟩ := h; exact ⟨vs, k.trans q, r.mono e⟩
  | seq xs => obtain ⟨o, vs, q, r⟩ := h; exact ⟨o, vs, k.trans q, r.mono e⟩
  | ins C fs => obtain ⟨dx, vs, q, r⟩ := h; exact ⟨dx, vs, k.trans q, r.mono e⟩
  | dK kvs => obtain ⟨vs, q, r⟩ := h; exact ⟨vs, k.trans q, r.mono e⟩
  | dT kvs => obtain ⟨vs, q, r⟩ := h; exact ⟨vs, k.trans q, r.mono e⟩
  | tab q => obtain ⟨ps, z, t, r⟩ := h; exact ⟨ps, k.trans z, t, fun pos cv hc => let ⟨c, e1, e2⟩ := r pos cv hc; ⟨c, e1, e _ _ e2⟩⟩
theorem WR.free (w : WR K F S H μ) {p : Addr} (h : H p = none) : S p = none := by
  cases q : S p with
  | none => rfl
  | some o => rw [w.sub p o q] at h; cases h
theorem WR.freeM (w : WR K F S H μ) {p : Addr} (h : H p = none) : μ p = none := by
  cases q : μ p with
  | none => rfl
  | some m =>
    obtain ⟨o, e⟩ := (w.mem p m q).2.there
    rw [e] at h; cases h
theorem WR.freeF (w : WR K F S H μ) {p : Addr} (h : H p = none) : F p = none := by
  cases q : F p with
  | none => rfl
  | some m => rw [(w.frm p m q).1] at h; cases h
theorem same_upd {p : Addr} {o : HO} (h : S p = none) : Same S (upd S p o) := fun b u e => by
  rw [upd_ne (ne_of_none e h)]; exact e
/-- a new object that stands still -/
theorem WR.still (w : WR K F S H μ) {p : Addr} (h : H p = none) (o : HO) (ht : ∀ ps, o ≠ .tbl ps := by intro _ z; cases z) : Same S (upd S p o) ∧ WR K F (upd S p o) (upd H p o) μ := by
  have hs := w.free h
  refine ⟨same_upd hs, fun b u e => ?_, fun a u e => ?_, fun a m e => ?_, w.frl, fun a ps e => by
    by_cases ha : a = p
    · subst ha; rw [upd_same] at e; exact ht ps (Option.some.inj e)
    · rw [upd_ne ha] at e; exact w.stt a ps e⟩
  · by_cases hb : b = p
    · subst hb; rw [upd_same] at e ⊢; exact e
    · rw [upd_ne hb] at e ⊢; exact w.sub b u e
  · have ne : a ≠ p := fun z => by rw [z, w.freeF h] at e; cases e
    rw [upd_ne ne, upd_ne ne]
    exact w.frm a u e
  · have ne : a ≠ p := fun z => by rw [z, w.freeM h] at e; cases e
    rw [upd_ne ne]
    exact ⟨(w.mem a m e).1, (w.mem a m e).2.mono (same_upd hs) (upd_ne ne)⟩
/-- a new object that may change -/
theorem WR.fresh (w : WR K F S H μ) {p : Addr} (h : H p = none) (o : HO) (m : M) (hm : MRep K S (upd H p o) p m) : WR K F S (upd H p o) (mset μ p m) := by
  refine ⟨fun b u e => ?_, fun a u e => ?_, fun a n e => ?_, w.frl, w.stt⟩
  · rw [upd_ne (ne_of_none (w.sub b u e) h)]; exact w.sub b u e
  · have ne : a ≠ p := fun z => by rw [z, w.freeF h] at e; cases e
    rw [upd_ne ne, mset_ne ne]
    exact w.frm a u e
  · by_cases ha : a = p
    · subst ha
      rw [mset_same] at e; cases e
      exact ⟨w.free h, hm⟩
    · rw [mset_ne ha] at e
      exact ⟨(w.mem a n e).1, (w.mem a n e).2.mono (Same.refl _) (upd_ne ha)⟩
/-- a changing object is written -/
theorem WR.write (w : WR K F S H μ) {p : Addr} {m0 : M} (h : μ p = some m0) (o : HO) (m : M) (hm : MRep K S (upd H p o) p m) : WR K F S (upd H p o) (mset μ p m) := by
  have hs := (w.mem p m0 h).1
  refine ⟨fun b u e => ?_, fun a u e => ?_, fun a n e => ?_, w.frl, w.stt⟩
  · rw [upd_ne (ne_of_none e hs)]; exact w.sub b u e
  · have ne : a ≠ p := fun z => by rw [z] at e; rw [(w.frm p u e).2.2] at h; cases h
    rw [upd_ne ne, mset_ne ne]
    exact w.frm a u e
  · by_cases ha : a = p
    · subst ha
      rw [mset_same] at e; cases e
      exact ⟨hs, hm⟩
    · rw [mset_ne ha] at e
      exact ⟨(w.mem a n e).1, (w.mem a n e).2.mono (Same.refl _) (upd_ne ha)⟩
/-- a memory that says less -/
theorem WR.less {μ' : Mem} (w : WR K F S H μ) (h : ∀ a m, μ' a = some m → μ a = some m) : WR K F S H μ' := by
  refine ⟨w.sub, fun a o e => ⟨(w.frm a o e).1, (w.frm a o e).2.1, ?_⟩, fun a m e => w.mem a m (h a m e), w.frl, w.stt⟩
  cases q : μ' a with
  | none => rfl
  | some m =>
    have z := h a m q
    rw [(w.frm a o e).2.2] at z
    cases z
/-- a frame that says less -/
theorem WR.lessF {F' : Hp} (w : WR K F S H μ) (h : Same F' F) : WR K F' S H μ := ⟨w.sub, fun a o e => w.frm a o (h a o e), w.mem, fun a o e => w.frl a o (h a o e), w.stt⟩
/-- a list that stands still from now on -/
theorem WR.freeze (w : WR K F S H μ) {p : Addr} {xs : List D} (h : μ p = some (.lst xs)) : ∃ S', Same S S' ∧ WR K F S' H (mdel μ p) ∧ Rp K S' (.ref p) (.list xs) := by
  obtain ⟨hs, vs, e, r⟩ := w.mem p _ h
  have sm : Same S (upd S p (.lst vs)) := same_upd hs
  refine ⟨upd S p (.lst vs), sm, ⟨fun b u q => ?_, fun a u q => ?_, fun a m q => ?_, w.frl, fun a ps q => by
    by_cases ha : a = p
    · subst ha; rw [upd_same] at q; cases q
    · rw [upd_ne ha] at q; exact w.stt a ps q⟩, .lst upd_same (r.mono sm)⟩
  · by_cases hb : b = p
    · subst hb; rw [upd_same] at q; cases q; exact e
    · rw [upd_ne hb] at q; exact w.sub b u q
  · have ne : a ≠ p := fun z => by rw [z] at q; rw [(w.frm p u q).2.2] at h; cases h
    rw [upd_ne ne]
    refine ⟨(w.frm a u q).1, (w.frm a u q).2.1, ?_⟩
    unfold mdel
    rw [if_neg ne]
    exact (w.frm a u q).2.2
  · unfold mdel at q
    by_cases ha : a = p
    · rw [if_pos ha] at q; cases q
    · rw [if_neg ha] at q
      refine ⟨by rw [upd_ne ha]; exact (w.mem a m q).1, (w.mem a m q).2.mono sm rfl⟩
/-- a new list of one's own -/
theorem WR.ownNew (w : WR K F S H μ) {p : Addr} (h : H p = none) (vs : List V) : WR K (upd F p (.lst vs)) S (upd H p (.lst vs)) μ := by
  refine ⟨fun b u e => ?_, fun a u e => ?_, fun a n e => ?_, fun a u e => by
    by_cases ha : a = p
    · subst ha; rw [upd_same] at e; exact ⟨vs, (Option.some.inj e).symm⟩
    · rw [upd_ne ha] at e; exact w.frl a u e, w.stt⟩
  · rw [upd_ne (ne_of_none (w.sub b u e) h)]; exact w.sub b u e
  · by_cases ha : a = p
    · subst ha
      rw [upd_same] at e ⊢
      exact ⟨e, w.free h, w.freeM h⟩
    · rw [upd_ne ha] at e ⊢
      exact w.frm a u e
  · have ne : a ≠ p := fun z => by rw [z, w.freeM h] at e; cases e
    exact ⟨(w.mem a n e).1, (w.mem a n e).2.mono (Same.refl _) (upd_ne ne)⟩
/-- one's own is written -/
theorem WR.ownWrite (w : WR K F S H μ) {p : Addr} {o0 : HO} (h : F p = some o0) (vs : List V) : WR K (upd F p (.lst vs)) S (upd H p (.lst vs)) μ := by
  obtain ⟨h1, h2, h3⟩ := w.frm p o0 h
  refine ⟨fun b u e => ?_, fun a u e => ?_, fun a n e => ?_, fun a u e => by
    by_cases ha : a = p
    · subst ha; rw [upd_same] at e; exact ⟨vs, (Option.some.inj e).symm⟩
    · rw [upd_ne ha] at e; exact w.frl a u e, w.stt⟩
  · rw [upd_ne (ne_of_none e h2)]; exact w.sub b u e
  · by_cases ha : a = p
    · subst ha
      rw [upd_same] at e ⊢
      exact ⟨e, h2, h3⟩
    · rw [upd_ne ha] at e ⊢
      exact w.frm a u e
  · have ne : a ≠ p := fun z => by rw [z, h3] at e; cases e
    exact ⟨(w.mem a n e).1, (w.mem a n e).2.mono (Same.refl _) (upd_ne ne)⟩
def fdel (F : Hp) (a : Addr) : Hp := fun b => if b = a then none else F b
/-- one's own list stands still from now on -/
theorem WR.ownStill (w : WR K F S H μ) {p : Addr} {vs : List V} (h : F p = some (.lst vs)) : Same S (upd S p (.lst vs)) ∧ WR K (fdel F p) (upd S p (.lst vs)) H μ := by
  obtain ⟨h1, h2, h3⟩ := w.frm p _ h
  refine ⟨same_upd h2, fun b u e => ?_, fun a u e => ?_, fun a n e => ?_, fun a u e => by
    unfold fdel at e
    by_cases ha : a = p
    · rw [if_pos ha] at e; cases e
    · rw [if_neg ha] at e; exact w.frl a u e, fun a ps e => by
    by_cases ha : a = p
    · subst ha; rw [upd_same] at e; cases e
    · rw [upd_ne ha] at e; exact w.stt a ps e⟩
  · by_cases hb : b = p
    · subst hb; rw [upd_same] at e; cases e; exact h1
    · rw [upd_ne hb] at e; exact w.sub b u e
  · unfold fdel at e
    by_cases ha : a = p
    · rw [if_pos ha] at e; cases e
    · rw [if_neg ha] at e
      rw [upd_ne ha]
      exact w.frm a u e
  · have ne : a ≠ p := fun z => by rw [z, h3] at e; cases e
    rw [upd_ne ne]
    exact ⟨(w.mem a n e).1, (w.mem a n e).2.mono (same_upd h2) rfl⟩
end
end DL
set_option Elab.async false
set_option linter.all false
set_option maxRecDepth 100000
set_option maxHeartbeats 2000000
namespace DL
open PySem PySem.Spec PyProof.Rows L2
abbrev DQ := D → Mem → Prop
abbrev DTE := Rho → Mem → DQ → Prop
abbrev DTT := Rho → Mem → (Bool → Mem → Prop) → Prop
abbrev DTA := Rho → Mem → (List D → Mem → Prop) → Prop
/-- what is wanted of data gives what is wanted of values, from S on -/
def Aft (K : PySem.W.Frag) (F S : Hp) (R : DQ) (Q : VK) : Prop := ∀ d μ', R d μ' → ∀ v S' H', Same S S' → WR K F S' H' μ' → Rp K S' v d → Q v H'
def AftT (K : PySem.W.Frag) (F S : Hp) (R : Bool → Mem → Prop) (Q : Bool → Hp → Prop) : Prop := ∀ b μ', R b μ' → ∀ S' H', Same S S' → WR K F S' H' μ' → Q b H'
def AftA (K : PySem.W.Frag) (F S : Hp) (R : List D → Mem → Prop) (Q : List V → Hp → Prop) : Prop := ∀ ds μ', R ds μ' → ∀ vs S' H', Same S S' → WR K F S' H' μ' → RpAll K S' vs ds → Q vs H'
theorem Aft.from {K : PySem.W.Frag} {F S S1 : Hp} {R : DQ} {Q : VK} (h : Aft K F S R Q) (e : Same S S1) : Aft K F S1 R Q := fun d μ' r v S' H' s w q => h d μ' r v S' H' (e.trans s) w q
theorem AftT.from {K : PySem.W.Frag} {F S S1 : Hp} {R : Bool → Mem → Prop} {Q : Bool → Hp → Prop} (h : AftT K F S R Q) (e : Same S S1) : AftT K F S1 R Q := fun d μ' r S' H' s w => h d μ' r S' H' (e.trans s) w
theorem AftA.from {K : PySem.W.Frag} {F S S1 : Hp} {R : List D → Mem → Prop} {Q : List V → Hp → Prop} (h : AftA K F S R Q) (e : Same S S1) : AftA K F S1 R Q := fun d μ' r v S' H' s w q => h d μ' r v S' H' (e.trans s) w q
/-- the same state, a value -/
theorem Aft.now {K : PySem.W.Frag} {F S H : Hp} {μ : Mem} {R : DQ} {Q : VK} {v : V} {d : D} (h : Aft K F S R Q) (w : WR K F S H μ) (r : R d μ) (q : Rp K S v d) : Q v H := h d μ r v S H (Same.refl S) w q
def up (K : PySem.W.Frag) (Γ : Act) (t : DTE) : TE := fun σ H Q => ∃ F S μ ρ R, ER K Γ σ ρ F S H μ ∧ t ρ μ R ∧ Aft K F S R Q
def upT (K : PySem.W.Frag) (Γ : Act) (t : DTT) : TT := fun σ H Q => ∃ F S μ ρ R, ER K Γ σ ρ F S H μ ∧ t ρ μ R ∧ AftT K F S R Q
def upA (K : PySem.W.Frag) (Γ : Act) (t : DTA) : TA := fun σ H Q => ∃ F S μ ρ R, ER K Γ σ ρ F S H μ ∧ t ρ μ R ∧ AftA K F S R Q
structure DE (X : Cx) (Γ : Act) (e : Expr) (t : DTE) : Prop where
  pe : PE X e (up X.K Γ t)
structure DT (X : Cx) (Γ : Act) (e : Expr) (t : DTT) : Prop where
  pt : PT X e (upT X.K Γ t)
structure DW (X : Cx) (Γ : Act) (e : Expr) (t : DTT) : Prop where
  pw : PW X e (upT X.K Γ t)
structure DA (X : Cx) (Γ : Act) (es : List Expr) (t : DTA) : Prop where
  pa : PA X es (upA X.K Γ t)
section
variable {X : Cx} {Γ : Act}
theorem PE.imp {e : Expr} {t t' : TE} (h : PE X e t) (i : ∀ σ H Q, t' σ H Q → t σ H Q) : PE X e t' := ⟨fun pins s σ H Q I q => h.run pins s σ H Q I (i σ H Q q)⟩
theorem PT.imp {e : Expr} {t t' : TT} (h : PT X e t) (i : ∀ σ H Q, t' σ H Q → t σ H Q) : PT X e t' := ⟨fun pins s σ H Q I q => h.run pins s σ H Q I (i σ H Q q)⟩
theorem PW.imp {e : Expr} {t t' : TT} (h : PW X e t) (i : ∀ σ H Q, t' σ H Q → t σ H Q) : PW X e t' := ⟨fun wh pins s σ H Q I q => h.run wh pins s σ H Q I (i σ H Q q)⟩
theorem PA.imp {e : List Expr} {t t' : TA} (h : PA X e t) (i : ∀ σ H Q, t' σ H Q → t σ H Q) : PA X e t' := ⟨fun pos pins s σ H Q I q => h.run pos pins s σ H Q I (i σ H Q q)⟩
theorem PS.imp {e : Stmt} {t t' : TS} (h : PS X e t) (i : ∀ D σ H, t' D σ H → t D σ H) : PS X e t' := ⟨fun pins s σ H D I q => h.run pins s σ H D I (i D σ H q)⟩
theorem PSs.imp {e : List Stmt} {t t' : TS} (h : PSs X e t) (i : ∀ D σ H, t' D σ H → t D σ H) : PSs X e t' := ⟨fun pins s σ H D I q => h.run pins s σ H D I (i D σ H q)⟩
def dVar (i : Nat) : DTE := fun ρ μ Q => ∃ d, ρ[i]? = some (some (.v d)) ∧ Q d μ
def dC (d : D) : DTE := fun _ μ Q => Q d μ
theorem de_of_var {i : Nat} {e : Expr} (h : PE X e (tVar i)) : DE X Γ e (dVar i) := ⟨PE.imp h fun σ H Q ⟨F, S, μ, ρ, R, r, ⟨d, e, q⟩, a⟩ => by
  obtain ⟨v, e1, q1⟩ := r.at_ i d e
  exact ⟨v, e1, a.now r.wr q q1⟩⟩
theorem de_of_const {v : V} {d : D} {e : Expr} (h : PE X e (tC v)) (k : ∀ S, Rp X.K S v d) : DE X Γ e (dC d) := ⟨PE.imp h fun σ H Q ⟨F, S, μ, ρ, R, r, q, a⟩ => a.now r.wr q (k S)⟩
theorem de_var (i : Nat) {x : Str} {pos : Pos} (hN : X.N[i]? = some x := by rfl) (hv : Vis X.env.scope x := by first | exact Or.inl rfl | exact Or.inr (Or.inl rfl) | exact Or.inr (Or.inr rfl)) (hd : (x == ("__debug__" : Str)) = false := by decide)
    (hcd : (x == ("__classdict__" : Str)) = false := by decide) : DE X Γ (.Name x pos) (dVar i) := de_of_var (pe_var hN hv hd hcd)
theorem de_int {i : Int} {j pos} : DE X Γ (.Constant (.int i) j pos) (dC (.int i)) := de_of_const pe_int fun _ => .int i
theorem de_bl {b : Bool} {j pos} : DE X Γ (.Constant (.bool b) j pos) (dC (.bool b)) := de_of_const pe_bl fun _ => .bl b
theorem de_non {j pos} : DE X Γ (.Constant .none j pos) (dC .none) := de_of_const pe_non fun _ => .non
theorem de_str {x : Str} {j pos} : DE X Γ (.Constant (.str x) j pos) (dC (.str x)) := de_of_const pe_str fun _ => .str x
abbrev DR2 := D → D → Mem → DQ → Prop
def dBin (r : DR2) (ta tb : DTE) : DTE := fun ρ μ Q => ta ρ μ fun x μ1 => tb ρ μ1 fun y μ2 => r x y μ2 Q
/-- what an operator asks of data gives what it asks of values -/
def OpD (K : PySem.W.Frag) (r : R2) (rd : DR2) : Prop :=
  ∀ (F S H : Hp) (μ : Mem) (x y : V) (d e : D) (R : DQ) (Q : VK), WR K F S H μ → Rp K S x d → Rp K S y e → rd d e μ R → Aft K F S R Q → r x y H Q
theorem OpD.or {K : PySem.W.Frag} {r r' : R2} {rd rd' : DR2} (h : OpD K r rd) (h' : OpD K r' rd') : OpD K (fun x y H Q => r x y H Q ∨ r' x y H Q) (fun x y μ Q => rd x y μ Q ∨ rd' x y μ Q) :=
  fun F S H μ x y d e R Q w rx ry q a => q.elim (fun q => .inl (h F S H μ x y d e R Q w rx ry q a)) fun q => .inr (h' F S H μ x y d e R Q w rx ry q a)
theorem up_bin {K : PySem.W.Frag} {Γ : Act} {r : R2} {rd : DR2} {ta tb : DTE} (o : OpD K r rd) : ∀ σ H Q, up K Γ (dBin rd ta tb) σ H Q → tOp r (up K Γ ta) (up K Γ tb) σ H Q := fun σ H Q ⟨F, S, μ, ρ, R, r0, q, a⟩ =>
  ⟨F, S, μ, ρ, _, r0, q, fun x μ1 q1 v S1 H1 s1 w1 p1 => ⟨F, S1, μ1, ρ, _, r0.later s1 w1, q1, fun y μ2 q2 u S2 H2 s2 w2 p2 =>
    o F S2 H2 μ2 v u x y R Q w2 (p1.mono s2) p2 q2 (a.from (s1.trans s2))⟩⟩
variable {a b : Expr} {ta tb : DTE} {pos : Pos}
theorem de_op {op : Operator} {r : R2} {rd : DR2} (ho : OpR X (binaryOp op) r) (o : OpD X.K r rd) (ha : DE X Γ a ta) (hb : DE X Γ b tb) : DE X Γ (.BinOp a op b pos) (dBin rd ta tb) := ⟨PE.imp (pe_op ho ha.pe hb.pe) (up_bin o)⟩
theorem de_cmp {op : CmpOp} {r : R2} {rd : DR2} (ho : OpR X (compareOp op) r) (o : OpD X.K r rd) (ha : DE X Γ a ta) (hb : DE X Γ b tb) (hm : behindInMarks op b = false) : DE X Γ (.Compare a [op] [b] pos) (dBin rd ta tb) :=
  ⟨PE.imp (pe_cmpR ho ha.pe hb.pe hm) (up_bin o)⟩
/-- a value that is a truth, as a test -/
def dTest (t : DTE) : DTT := fun ρ μ Q => t ρ μ fun x μ1 => ∃ k, x = .bool k ∧ Q k μ1
theorem up_test {K : PySem.W.Frag} {Γ : Act} {t : DTE} : ∀ σ H Q, upT K Γ (dTest t) σ H Q → up K Γ t σ H fun x H' => ∃ k, x = .bl k ∧ Q k H' := fun σ H Q ⟨F, S, μ, ρ, R, r0, q, a⟩ =>
  ⟨F, S, μ, ρ, _, r0, q, fun x μ1 ⟨k, e, q1⟩ v S1 H1 s1 w1 p1 => by
    subst e
    cases p1
    exact ⟨k, rfl, a k μ1 q1 S1 H1 s1 w1⟩⟩
theorem dt_cmp {op : CmpOp} {r : R2} {rd : DR2} (ho : OpR X (compareOp op) r) (o : OpD X.K r rd) (ha : DE X Γ a ta) (hb : DE X Γ b tb) (hm : behindInMarks op b = false) : DT X Γ (.Compare a [op] [b] pos) (dTest (dBin rd ta tb)) :=
  ⟨PT.imp (pt_cmpR ho ha.pe hb.pe hm) fun σ H Q q => up_bin o _ _ _ (up_test σ H Q q)⟩
theorem dt_val {e : Expr} {t : DTE} (h : DE X Γ e t) (he : ∀ whole, isTrue e X.env whole = (do let v ← whole; standAt e.pos; holding [v] (truthy v)) := by intro _; rfl) : DT X Γ e (dTest t) :=
  ⟨PT.imp (pt_val h.pe he) fun σ H Q q => up_test σ H Q q⟩
variable {tA tB : DTT} {rest : List Expr}
def dAnd (t u : DTT) : DTT := fun ρ μ Q => t ρ μ fun c μ1 => if c = true then u ρ μ1 Q else Q false μ1
def dOr (t u : DTT) : DTT := fun ρ μ Q => t ρ μ fun c μ1 => if c = true then Q true μ1 else u ρ μ1 Q
def dNot (t : DTT) : DTT := fun ρ μ Q => t ρ μ fun c μ1 => Q (!c) μ1
theorem DW.dt {e : Expr} {t : DTT} (h : DW X Γ e t) : DT X Γ e t := ⟨h.pw.pt⟩
theorem dw_and1 (ha : DT X Γ a tA) : DW X Γ (.BoolOp .And [a] pos) tA := ⟨pw_and1 ha.pt⟩
theorem dw_or1 (ha : DT X Γ a tA) : DW X Γ (.BoolOp .Or [a] pos) tA := ⟨pw_or1 ha.pt⟩
theorem dw_and (ha : DT X Γ a tA) (hb : DW X Γ (.BoolOp .And (b :: rest) pos) tB) : DW X Γ (.BoolOp .And (a :: b :: rest) pos) (dAnd tA tB) :=
  ⟨PW.imp (pw_and ha.pt hb.pw) fun σ H Q ⟨F, S, μ, ρ, R, r0, q, af⟩ => ⟨F, S, μ, ρ, _, r0, q, fun c μ1 q1 S1 H1 s1 w1 => by
    cases c with
    | true => exact iteT ⟨F, S1, μ1, ρ, R, r0.later s1 w1, by simpa using q1, af.from s1⟩
    | false => exact iteF (af false μ1 (by simpa using q1) S1 H1 s1 w1)⟩⟩
theorem dw_or (ha : DT X Γ a tA) (hb : DW X Γ (.BoolOp .Or (b :: rest) pos) tB) : DW X Γ (.BoolOp .Or (a :: b :: rest) pos) (dOr tA tB) :=
  ⟨PW.imp (pw_or ha.pt hb.pw) fun σ H Q ⟨F, S, μ, ρ, R, r0, q, af⟩ => ⟨F, S, μ, ρ, _, r0, q, fun c μ1 q1 S1 H1 s1 w1 => by
    cases c with
    | true => exact iteT (af true μ1 (by simpa using q1) S1 H1 s1 w1)
    | false => exact iteF ⟨F, S1, μ1, ρ, R, r0.later s1 w1, by simpa using q1, af.from s1⟩⟩⟩
theorem dt_not (ha : DT X Γ a tA) : DT X Γ (.UnaryOp .Not a pos) (dNot tA) :=
  ⟨PT.imp (pt_not ha.pt) fun σ H Q ⟨F, S, μ, ρ, R, r0, q, af⟩ => ⟨F, S, μ, ρ, _, r0, q, fun c μ1 q1 S1 H1 s1 w1 => af (!c) μ1 q1 S1 H1 s1 w1⟩⟩
/-- .. as values (truths) -/
def dAndV (ta tb : DTE) : DTE := fun ρ μ Q => ta ρ μ fun x μ1 => ∃ c, x = .bool c ∧ if c = true then tb ρ μ1 Q else Q (.bool false) μ1
def dOrV (ta tb : DTE) : DTE := fun ρ μ Q => ta ρ μ fun x μ1 => ∃ c, x = .bool c ∧ if c = true then Q (.bool true) μ1 else tb ρ μ1 Q
def dNotV (ta : DTE) : DTE := fun ρ μ Q => ta ρ μ fun x μ1 => ∃ c, x = .bool c ∧ Q (.bool (!c)) μ1
theorem de_one {op} {t : DTE} (h : DE X Γ a t) : DE X Γ (.BoolOp op [a] pos) t := ⟨pe_one h.pe⟩
theorem de_and (ha : DE X Γ a ta) (hb : DE X Γ (.BoolOp .And (b :: rest) pos) tb) : DE X Γ (.BoolOp .And (a :: b :: rest) pos) (dAndV ta tb) :=
  ⟨PE.imp (pe_and ha.pe hb.pe) fun σ H Q ⟨F, S, μ, ρ, R, r0, q, af⟩ => ⟨F, S, μ, ρ, _, r0, q, fun x μ1 ⟨c, e, q1⟩ v S1 H1 s1 w1 p1 => by
    subst e
    cases p1
    refine ⟨c, rfl, ?_⟩
    cases c with
    | true => exact iteT ⟨F, S1, μ1, ρ, R, r0.later s1 w1, by simpa using q1, af.from s1⟩
    | false => exact iteF (af _ μ1 (by simpa using q1) _ S1 H1 s1 w1 (.bl false))⟩⟩
theorem de_or (ha : DE X Γ a ta) (hb : DE X Γ (.BoolOp .Or (b :: rest) pos) tb) : DE X Γ (.BoolOp .Or (a :: b :: rest) pos) (dOrV ta tb) :=
  ⟨PE.imp (pe_or ha.pe hb.pe) fun σ H Q ⟨F, S, μ, ρ, R, r0, q, af⟩ => ⟨F, S, μ, ρ, _, r0, q, fun x μ1 ⟨c, e, q1⟩ v S1 H1 s1 w1 p1 => by
    subst e
    cases p1
    refine ⟨c, rfl, ?_⟩
    cases c with
    | true => exact iteT (af _ μ1 (by simpa using q1) _ S1 H1 s1 w1 (.bl true))
    | false => exact iteF ⟨F, S1, μ1, ρ, R, r0.later s1 w1, by simpa using q1, af.from s1⟩⟩⟩
theorem de_not (ha : DE X Γ a ta) : DE X Γ (.UnaryOp .Not a pos) (dNotV ta) :=
  ⟨PE.imp (pe_not ha.pe) fun σ H Q ⟨F, S, μ, ρ, R, r0, q, af⟩ => ⟨F, S, μ, ρ, _, r0, q, fun x μ1 ⟨c, e, q1⟩ v S1 H1 s1 w1 p1 => by
    subst e
    cases p1
    exact ⟨c, rfl, af _ μ1 q1 _ S1 H1 s1 w1 (.bl _)⟩⟩⟩
/-- a if t else b -/
def dIf (t : DTT) (ta tb : DTE) : DTE := fun ρ μ Q => t ρ μ fun c μ1 => if c = true then ta ρ μ1 Q else tb ρ μ1 Q
theorem de_if {c : Expr} (hc : DT X Γ c tA) (ha : DE X Γ a ta) (hb : DE X Γ b tb) : DE X Γ (.IfExp c a b pos) (dIf tA ta tb) :=
  ⟨PE.imp (pe_ifExp hc.pt ha.pe hb.pe) fun σ H Q ⟨F, S, μ, ρ, R, r0, q, af⟩ => ⟨F, S, μ, ρ, _, r0, q, fun c μ1 q1 S1 H1 s1 w1 => by
    cases c with
    | true => exact iteT ⟨F, S1, μ1, ρ, R, r0.later s1 w1, by simpa using q1, af.from s1⟩
    | false => exact iteF ⟨F, S1, μ1, ρ, R, r0.later s1 w1, by simpa using q1, af.from s1⟩⟩⟩
/-- a < b < c -/
def dChain (r r' : DR2) (ta tb tc : DTE) : DTE := fun ρ μ Q => ta ρ μ fun x μ1 => tb ρ μ1 fun y μ2 => r x y μ2 fun z μ3 => ∃ k, z = .bool k ∧ if k = true then tc ρ μ3 fun u μ4 => r' y u μ4 Q else Q (.bool false) μ3
def dNil : DTA := fun _ μ Q => Q [] μ
def dCons (ta : DTE) (tr : DTA) : DTA := fun ρ μ Q => ta ρ μ fun x μ1 => tr ρ μ1 fun xs μ2 => Q (x :: xs) μ2
theorem da_nil : DA X Γ [] dNil := ⟨PA.imp pa_nil fun σ H Q ⟨F, S, μ, ρ, R, r0, q, af⟩ => af [] μ q [] S H (Same.refl S) r0.wr .nil⟩
theorem da_cons {es : List Expr} {t : DTA} (ha : DE X Γ a ta) (hr : DA X Γ es t) (hs : starEach (a :: es) X.env = (false, eval a X.env) :: starEach es X.env := by rfl) : DA X Γ (a :: es) (dCons ta t) :=
  ⟨PA.imp (pa_cons ha.pe hr.pa hs) fun σ H Q ⟨F, S, μ, ρ, R, r0, q, af⟩ => ⟨F, S, μ, ρ, _, r0, q, fun x μ1 q1 v S1 H1 s1 w1 p1 =>
    ⟨F, S1, μ1, ρ, _, r0.later s1 w1, q1, fun xs μ2 q2 vs S2 H2 s2 w2 p2 => af _ μ2 q2 _ S2 H2 (s1.trans s2) w2 (.cons (p1.mono s2) p2)⟩⟩⟩
def dTup (t : DTA) : DTE := fun ρ μ Q => t ρ μ fun xs μ1 => xs.length ≤ sizeLine ∧ Q (.tuple xs) μ1
theorem de_tup {es : List Expr} {t : DTA} {x1} (h : DA X Γ es t) : DE X Γ (.Tuple es x1 pos) (dTup t) :=
  ⟨PE.imp (pe_tup h.pa) fun σ H Q ⟨F, S, μ, ρ, R, r0, q, af⟩ => ⟨F, S, μ, ρ, _, r0, q, fun xs μ1 ⟨l, q1⟩ vs S1 H1 s1 w1 p1 => ⟨by rw [p1.length]; exact l, fun p hp => by
    obtain ⟨s2, w2⟩ := w1.still hp (.tup vs)
    exact af _ μ1 q1 _ _ _ (s1.trans s2) w2 (.tup (SqT.of upd_same) (p1.mono s2))⟩⟩⟩
/-- a list that stands still from its making on -/
def dLst (t : DTA) : DTE := fun ρ μ Q => t ρ μ fun xs μ1 => xs.length ≤ sizeLine ∧ Q (.list xs) μ1
theorem de_lst {es : List Expr} {t : DTA} (h : DA X Γ es t) : DE X Γ (.List es pos) (dLst t) :=
  ⟨PE.imp (pe_lst h.pa) fun σ H Q ⟨F, S, μ, ρ, R, r0, q, af⟩ => ⟨F, S, μ, ρ, _, r0, q, fun xs μ1 ⟨l, q1⟩ vs S1 H1 s1 w1 p1 => ⟨by rw [p1.length]; exact l, fun p hp => by
    obtain ⟨s2, w2⟩ := w1.still hp (.lst vs)
    exact af _ μ1 q1 _ _ _ (s1.trans s2) w2 (.lst upd_same (p1.mono s2))⟩⟩⟩
/-- a list that will change -/
def dLstM (t : DTA) : DTE := fun ρ μ Q => t ρ μ fun xs μ1 => xs.length ≤ sizeLine ∧ ∀ a, μ1 a = none → Q (dref a) (mset μ1 a (.lst xs))
theorem de_lstM {es : List Expr} {t : DTA} (h : DA X Γ es t) : DE X Γ (.List es pos) (dLstM t) :=
  ⟨PE.imp (pe_lst h.pa) fun σ H Q ⟨F, S, μ, ρ, R, r0, q, af⟩ => ⟨F, S, μ, ρ, _, r0, q, fun xs μ1 ⟨l, q1⟩ vs S1 H1 s1 w1 p1 => ⟨by rw [p1.length]; exact l, fun p hp =>
    af _ _ (q1 p (w1.freeM hp)) _ S1 _ s1 (w1.fresh hp (.lst vs) (.lst xs) ⟨vs, upd_same, p1⟩) (.ref p)⟩⟩⟩
end
end DL
set_option Elab.async false
set_option linter.all false
set_option maxRecDepth 100000
set_option maxHeartbeats 2000000
namespace DL
open PySem PySem.Spec PyProof.Rows L2
section
variable {X : Cx} {pins : List (Addr × Obj)} {σ : L2.St} {H : Hp} {s : Shared}
mutual
theorem Rp.dp {K : PySem.W.Frag} {H : Hp} : ∀ (d : D) (v : V), Rp K H v d → d.plain = true → Dp K H v d
  | .none, _, r, _ => by cases r; exact .non
  | .bool b, _, r, _ => by cases r; exact .bl b
  | .int i, _, r, _ => by cases r; exact .int i
  | .str x, _, r, _ => by cases r; exact .str x
  | .list ds, _, r, h => by
    cases r with
    | lst e q => exact .lst (SqL.of e) (RpAll.dp ds _ q (by simpa [PyData.plain] using h))
  | .tuple ds, _, r, h => by
    cases r with
    | tup e q => exact .tup e (RpAll.dp ds _ q (by simpa [PyData.plain] using h))
  | .dict _, _, _, h => by simp [PyData.plain] at h
theorem RpAll.dp {K : PySem.W.Frag} {H : Hp} : ∀ (ds : List D) (vs : List V), RpAll K H vs ds → PyData.plainAll ds = true → DpAll K H vs ds
  | [], _, r, _ => by cases r; exact .nil
  | d :: ds, _, r, h => by
    have h' : d.plain = true ∧ PyData.plainAll ds = true := by simpa [PyData.plainAll] using h
    cases r with
    | cons a b => exact .cons (Rp.dp d _ a h'.1) (RpAll.dp ds _ b h'.2)
end
theorem Rp.reads {v : V} {d : D} {u : Value} (I : Inv X pins σ H s) (r : Rp X.K H v d) (h : d.plain = true) (q : RelV v u) : ∃ as, Reads s.heap u d as := Dp.reads I d v u (r.dp d v h) q
theorem RpAll.reads {vs : List V} {ds : List D} {us : List Value} (I : Inv X pins σ H s) (r : RpAll X.K H vs ds) (h : PyData.plainAll ds = true) (q : Vals vs us) : ∃ as, ReadsAll s.heap us ds as := Dp.readsAll I ds vs us (r.dp ds vs h) q
end
/-- a changing list as it is now; all else as it is -/
def snap (μ : Mem) : D → D
  | .dict [(.none, .int a)] => match μ a.toNat with
    | some (.lst xs) => .list xs
    | _ => .dict [(.none, .int a)]
  | d => d
theorem snap_ref {μ : Mem} {a : Addr} {xs : List D} (h : μ a = some (.lst xs)) : snap μ (dref a) = .list xs := by simp [snap, dref, h]
theorem snap_none {μ : Mem} : snap μ .none = .none := rfl
theorem snap_bool {μ : Mem} {b : Bool} : snap μ (.bool b) = .bool b := rfl
theorem snap_int {μ : Mem} {i : Int} : snap μ (.int i) = .int i := rfl
theorem snap_str {μ : Mem} {x : Str} : snap μ (.str x) = .str x := rfl
theorem snap_list {μ : Mem} {xs : List D} : snap μ (.list xs) = .list xs := rfl
theorem snap_tuple {μ : Mem} {xs : List D} : snap μ (.tuple xs) = .tuple xs := rfl
theorem Rp.snap {K : PySem.W.Frag} {F S H : Hp} {μ : Mem} {v : V} {d : D} (w : WR K F S H μ) (r : Rp K S v d) : Rp K H v (snap μ d) := by
  have r' := r.mono w.sub
  cases r with
  | ref a =>
    unfold DL.snap dref
    simp only [Int.toNat_natCast]
    cases e : μ a with
    | none => exact r'
    | some m =>
      cases m with
      | lst xs =>
        obtain ⟨_, vs, q, q2⟩ := w.mem a _ e
        exact .lst q (q2.mono w.sub)
      | _ => exact r'
  | _ => exact r'
def cmpR (K : PySem.W.Frag) (P : D → D → Prop) (g : D → D → Bool) : R2 := fun x y H Q => ∃ d e, Rp K H x d ∧ Rp K H y e ∧ P d e ∧ Q (.bl (g d e)) H
def dCmp (P : D → D → Prop) (g : D → D → Bool) : DR2 := fun d e μ Q => P (snap μ d) (snap μ e) ∧ Q (.bool (g (snap μ d) (snap μ e))) μ
theorem opd_cmp {K : PySem.W.Frag} {P : D → D → Prop} {g : D → D → Bool} : OpD K (cmpR K P g) (dCmp P g) := fun F S H μ x y d e R Q w rx ry ⟨p, q⟩ a =>
  ⟨_, _, rx.snap w, ry.snap w, p, a.now w q (.bl _)⟩
def PEq (d e : D) : Prop := d.plain = true ∧ e.plain = true ∧ min d.depth e.depth ≤ 60
def PLt (d e : D) : Prop := PySem.W.alike d e = true ∧ d.plain = true ∧ e.plain = true ∧ d ≠ .none ∧ min d.depth e.depth ≤ 60
section
variable {X : Cx}
theorem op_eqP (hu : X.A.units + 64 < cLine) : OpR X (compareOp .Eq) (cmpR X.K PEq PyData.eqv) := by
  intro pins s σ H x y v u Q I rx ry ⟨d, e, hd, he, ⟨p1, p2, p3⟩, q⟩
  obtain ⟨as, r1⟩ := hd.reads I p1 rx
  obtain ⟨bs, r2⟩ := he.reads I p2 ry
  exact SeqAt.eq_plain r1 r2 p1 p2 (by omega) ⟨.bl _, H, I, rfl, q⟩
theorem op_neP (hu : X.A.units + 64 < cLine) : OpR X (compareOp .NotEq) (cmpR X.K PEq fun d e => !PyData.eqv d e) := by
  intro pins s σ H x y v u Q I rx ry ⟨d, e, hd, he, ⟨p1, p2, p3⟩, q⟩
  obtain ⟨as, r1⟩ := hd.reads I p1 rx
  obtain ⟨bs, r2⟩ := he.reads I p2 ry
  exact SeqAt.ne_plain r1 r2 p1 p2 (by omega) ⟨.bl _, H, I, rfl, q⟩
theorem op_ltP (hu : X.A.units + 64 < cLine) : OpR X (compareOp .Lt) (cmpR X.K PLt PySem.W.dataLt) := by
  intro pins s σ H x y v u Q I rx ry ⟨d, e, hd, he, ⟨p0, p1, p2, p3, p4⟩, q⟩
  obtain ⟨as, r1⟩ := hd.reads I p1 rx
  obtain ⟨bs, r2⟩ := he.reads I p2 ry
  exact PySem.W.lt_data r1 r2 p0 p3 (by omega) ⟨.bl _, H, I, rfl, q⟩
theorem op_gtP (hu : X.A.units + 64 < cLine) : OpR X (compareOp .Gt) (cmpR X.K PLt fun d e => PySem.W.dataLt e d) := by
  intro pins s σ H x y v u Q I rx ry ⟨d, e, hd, he, ⟨p0, p1, p2, p3, p4⟩, q⟩
  obtain ⟨as, r1⟩ := hd.reads I p1 rx
  obtain ⟨bs, r2⟩ := he.reads I p2 ry
  exact PySem.W.gt_data r1 r2 p0 p3 (by omega) ⟨.bl _, H, I, rfl, q⟩
theorem op_leP (hu : X.A.units + 64 < cLine) : OpR X (compareOp .LtE) (cmpR X.K PLt fun d e => !PySem.W.dataLt e d) := by
  intro pins s σ H x y v u Q I rx ry ⟨d, e, hd, he, ⟨p0, p1, p2, p3, p4⟩, q⟩
  obtain ⟨as, r1⟩ := hd.reads I p1 rx
  obtain ⟨bs, r2⟩ := he.reads I p2 ry
  exact PySem.W.le_data r1 r2 p0 p3 (by omega) ⟨.bl _, H, I, rfl, q⟩
theorem op_geP (hu : X.A.units + 64 < cLine) : OpR X (compareOp .GtE) (cmpR X.K PLt fun d e => !PySem.W.dataLt d e) := by
  intro pins s σ H x y v u Q I rx ry ⟨d, e, hd, he, ⟨p0, p1, p2, p3, p4⟩, q⟩
  obtain ⟨as, r1⟩ := hd.reads I p1 rx
  obtain ⟨bs, r2⟩ := he.reads I p2 ry
  exact PySem.W.ge_data r1 r2 p0 p3 (by omega) ⟨.bl _, H, I, rfl, q⟩
/-- x in c: a sign or a text in a text; any data in a list or tuple of data -/
def inD : D → D → Bool
  | .str i, .str j => !(Builtin.Str.occurrences j i 0 j.length 1).isEmpty
  | d, .list xs => xs.any fun y => PyData.eqv y d
  | d, .tuple xs => xs.any fun y => PyData.eqv y d
  | _, _ => false
def PIn (d e : D) : Prop := d.plain = true ∧ e.plain = true ∧ d.depth ≤ 60 ∧ ((∃ i j, d = .str i ∧ e = .str j) ∨ (∃ xs, e = .list xs) ∨ ∃ xs, e = .tuple xs)
theorem op_inP (hu : X.A.units + 64 < cLine) : OpR X (compareOp .In) (cmpR X.K PIn inD) := by
  intro pins s σ H x y v u Q I rx ry ⟨d, e, hd, he, ⟨p1, p2, p3, k⟩, q⟩
  rcases k with ⟨i, j, rfl, rfl⟩ | ⟨xs, rfl⟩ | ⟨xs, rfl⟩
  · cases hd
    cases he
    exact op_in_str pins s σ H _ _ v u Q I rx ry ⟨i, j, rfl, rfl, q⟩
  · obtain ⟨as, r1⟩ := hd.reads I p1 rx
    obtain ⟨bs, r2⟩ := he.reads I p2 ry
    have e : inD d (.list xs) = xs.any fun y => PyData.eqv y d := by cases d <;> rfl
    rw [e] at q
    exact SeqAt.in_list_data r2 r1 (by simpa [PyData.plain] using p2) p1 (by omega) ⟨.bl _, H, I, rfl, q⟩
  · obtain ⟨as, r1⟩ := hd.reads I p1 rx
    obtain ⟨bs, r2⟩ := he.reads I p2 ry
    have e : inD d (.tuple xs) = xs.any fun y => PyData.eqv y d := by cases d <;> rfl
    rw [e] at q
    exact SeqAt.in_tuple_data r2 r1 (by simpa [PyData.plain] using p2) p1 (by omega) ⟨.bl _, H, I, rfl, q⟩
theorem op_niP (hu : X.A.units + 64 < cLine) : OpR X (compareOp .NotIn) (cmpR X.K PIn fun d e => !inD d e) := by
  intro pins s σ H x y v u Q I rx ry ⟨d, e, hd, he, ⟨p1, p2, p3, k⟩, q⟩
  rcases k with ⟨i, j, rfl, rfl⟩ | ⟨xs, rfl⟩ | ⟨xs, rfl⟩
  · cases hd
    cases he
    exact op_notin_str pins s σ H _ _ v u Q I rx ry ⟨i, j, rfl, rfl, q⟩
  · obtain ⟨as, r1⟩ := hd.reads I p1 rx
    obtain ⟨bs, r2⟩ := he.reads I p2 ry
    have e : inD d (.list xs) = xs.any fun y => PyData.eqv y d := by cases d <;> rfl
    simp only [e] at q
    exact SeqAt.notIn_list_data r2 r1 (by simpa [PyData.plain] using p2) p1 (by omega) ⟨.bl _, H, I, rfl, q⟩
  · obtain ⟨as, r1⟩ := hd.reads I p1 rx
    obtain ⟨bs, r2⟩ := he.reads I p2 ry
    have e : inD d (.tuple xs) = xs.any fun y => PyData.eqv y d := by cases d <;> rfl
    simp only [e] at q
    exact SeqAt.notIn_tuple_data r2 r1 (by simpa [PyData.plain] using p2) p1 (by omega) ⟨.bl _, H, I, rfl, q⟩
def isN : D → Bool
  | .none => true
  | _ => false
def dIsN : DR2 := fun d e μ Q => e = .none ∧ Q (.bool (isN d)) μ
def dNotN : DR2 := fun d e μ Q => e = .none ∧ Q (.bool (!isN d)) μ
theorem isN_of {K : PySem.W.Frag} {S : Hp} {v : V} {d : D} (r : Rp K S v d) : decide (v = .non) = isN d := by cases r <;> rfl
theorem opd_isN {K : PySem.W.Frag} : OpD K (fun x y H Q => y = .non ∧ Q (.bl (decide (x = .non))) H) dIsN := fun F S H μ x y d e R Q w rx ry ⟨p, q⟩ a => by
  subst p
  cases ry
  rw [isN_of rx]
  exact ⟨rfl, a.now w q (.bl _)⟩
theorem opd_notN {K : PySem.W.Frag} : OpD K (fun x y H Q => y = .non ∧ Q (.bl (!decide (x = .non))) H) dNotN := fun F S H μ x y d e R Q w rx ry ⟨p, q⟩ a => by
  subst p
  cases ry
  rw [isN_of rx]
  exact ⟨rfl, a.now w q (.bl _)⟩
def dIsB : DR2 := fun d e μ Q => ∃ a b, d = .bool a ∧ e = .bool b ∧ Q (.bool (decide (a = b))) μ
def dNotB : DR2 := fun d e μ Q => ∃ a b, d = .bool a ∧ e = .bool b ∧ Q (.bool (!decide (a = b))) μ
theorem opd_isB {K : PySem.W.Frag} : OpD K (fun x y H Q => ∃ a b, x = .bl a ∧ y = .bl b ∧ Q (.bl (decide (a = b))) H) dIsB := fun F S H μ x y d e R Q w rx ry ⟨a, b, e1, e2, q⟩ af => by
  subst e1; subst e2
  cases rx; cases ry
  exact ⟨_, _, rfl, rfl, af.now w q (.bl _)⟩
theorem opd_notB {K : PySem.W.Frag} : OpD K (fun x y H Q => ∃ a b, x = .bl a ∧ y = .bl b ∧ Q (.bl (!decide (a = b))) H) dNotB := fun F S H μ x y d e R Q w rx ry ⟨a, b, e1, e2, q⟩ af => by
  subst e1; subst e2
  cases rx; cases ry
  exact ⟨_, _, rfl, rfl, af.now w q (.bl _)⟩
def dAdd : DR2 := fun x y μ Q => match x, y with
  | .int i, .int j => Q (.int (i + j)) μ
  | .str i, .str j => i.length + j.length ≤ sizeLine ∧ Q (.str (i ++ j)) μ
  | .tuple xs, .tuple ys => xs.length + ys.length ≤ sizeLine ∧ Q (.tuple (xs ++ ys)) μ
  | .list xs, .list ys => xs.length + ys.length ≤ sizeLine ∧ Q (.list (xs ++ ys)) μ
  | _, _ => False
def rAddD (K : PySem.W.Frag) : R2 := fun x y H Q => (rI0 fun i j => .int (i + j)) x y H Q ∨ (∃ i j, x = .str i ∧ y = .str j ∧ i.length + j.length ≤ sizeLine ∧ Q (.str (i ++ j)) H) ∨ rCatA K x y H Q ∨ rCat x y H Q
theorem op_addD : OpR X (binaryOp .Add) (rAddD X.K) := op_add.or (op_add_str.or (op_catA.or op_cat))
theorem opd_add {K : PySem.W.Frag} : OpD K (rAddD K) dAdd := fun F S H μ x y d e R Q w rx ry q a => by
  unfold dAdd at q
  split at q
  · cases rx; cases ry
    exact .inl ⟨_, _, rfl, rfl, a.now w q (.int _)⟩
  · cases rx; cases ry
    exact .inr (.inl ⟨_, _, rfl, rfl, q.1, a.now w q.2 (.str _)⟩)
  · rename_i xs ys
    cases rx with
    | tup h1 r1 =>
      cases ry with
      | tup h2 r2 =>
        refine .inr (.inr (.inl ⟨_, _, _, _, rfl, rfl, same_seqT w.sub h1, same_seqT w.sub h2, by rw [r1.length, r2.length]; exact q.1, fun e1 => ?_, fun n1 e2 => ?_, fun n1 n2 p hp => ?_⟩))
        · subst e1
          cases r1
          exact a.now w q.2 (.tup h2 r2)
        · subst e2
          cases r2
          rw [List.append_nil] at q
          exact a.now w q.2 (.tup h1 r1)
        · obtain ⟨s2, w2⟩ := w.still hp (.tup (_ ++ _))
          exact a _ μ q.2 _ _ _ s2 w2 (.tup (SqT.of upd_same) ((r1.append r2).mono s2))
  · rename_i xs ys
    cases rx with
    | lst h1 r1 =>
      cases ry with
      | lst h2 r2 =>
        refine .inr (.inr (.inr ⟨_, _, _, _, rfl, rfl, w.sub _ _ h1, w.sub _ _ h2, by rw [r1.length, r2.length]; exact q.1, fun p hp => ?_⟩))
        obtain ⟨s2, w2⟩ := w.still hp (.lst (_ ++ _))
        exact a _ μ q.2 _ _ _ s2 w2 (.lst upd_same ((r1.append r2).mono s2))
  · exact q.elim
def dI (g : Int → Int → Int) (C : Int → Int → Prop) : DR2 := fun x y μ Q => match x, y with
  | .int i, .int j => C i j ∧ Q (.int (g i j)) μ
  | _, _ => False
theorem opd_I {K : PySem.W.Frag} {g : Int → Int → Int} {C : Int → Int → Prop} : OpD K (rI C fun i j => .int (g i j)) (dI g C) := fun F S H μ x y d e R Q w rx ry q a => by
  unfold dI at q
  split at q
  · cases rx; cases ry
    exact ⟨_, _, rfl, rfl, q.1, a.now w q.2 (.int _)⟩
  · exact q.elim
theorem opd_I0 {K : PySem.W.Frag} {g : Int → Int → Int} : OpD K (rI0 fun i j => .int (g i j)) (dI g fun _ _ => True) := fun F S H μ x y d e R Q w rx ry q a => by
  unfold dI at q
  split at q
  · cases rx; cases ry
    exact ⟨_, _, rfl, rfl, a.now w q.2 (.int _)⟩
  · exact q.elim
/-- a list (that stands still) times a number -/
def dMul : DR2 := fun x y μ Q => match x, y with
  | .int i, .int j => CMul i j ∧ Q (.int (i * j)) μ
  | .list xs, .int k => (-(2 ^ 63) ≤ k ∧ k < 2 ^ 63 ∧ xs.length * k.toNat ≤ sizeLine) ∧ Q (.list (List.replicate k.toNat xs).flatten) μ
  | .tuple xs, .int k => (xs ≠ [] ∧ 2 ≤ k ∧ k ≤ 1000 ∧ xs.length ≤ 1000) ∧ Q (.tuple (List.replicate k.toNat xs).flatten) μ
  | _, _ => False
def rMulD (K : PySem.W.Frag) : R2 := fun x y H Q => (rI CMul fun i j => .int (i * j)) x y H Q ∨ rRep x y H Q ∨ rRepT K x y H Q
theorem op_mulD : OpR X (binaryOp .Mult) (rMulD X.K) := op_mul.or (op_rep.or op_repT)
theorem RpAll.rep {K : PySem.W.Frag} {S : Hp} {vs : List V} {ds : List D} (r : RpAll K S vs ds) : ∀ k : Nat, RpAll K S (List.replicate k vs).flatten (List.replicate k ds).flatten
  | 0 => .nil
  | k + 1 => by
    rw [List.replicate_succ, List.replicate_succ, List.flatten_cons, List.flatten_cons]
    exact r.append (RpAll.rep r k)
theorem opd_mul {K : PySem.W.Frag} : OpD K (rMulD K) dMul := fun F S H μ x y d e R Q w rx ry q a => by
  unfold dMul at q
  split at q
  · cases rx; cases ry
    exact .inl ⟨_, _, rfl, rfl, q.1, a.now w q.2 (.int _)⟩
  · cases ry
    cases rx with
    | lst h1 r1 =>
      refine .inr (.inl ⟨_, _, _, rfl, rfl, w.sub _ _ h1, q.1.1, q.1.2.1, by rw [r1.length]; exact q.1.2.2, fun p hp => ?_⟩)
      obtain ⟨s2, w2⟩ := w.still hp (.lst (List.replicate _ _).flatten)
      exact a _ μ q.2 _ _ _ s2 w2 (.lst upd_same ((r1.rep _).mono s2))
  · cases ry
    cases rx with
    | tup h1 r1 =>
      have hl := r1.length
      refine .inr (.inr ⟨_, _, _, rfl, rfl, same_seqT w.sub h1, fun z => q.1.1 (by subst z; cases r1; rfl), q.1.2.1, q.1.2.2.1, by rw [hl]; exact q.1.2.2.2, fun p hp => ?_⟩)
      obtain ⟨s2, w2⟩ := w.still hp (.tup (List.replicate _ _).flatten)
      exact a _ μ q.2 _ _ _ s2 w2 (.tup (SqT.of upd_same) ((r1.rep _).mono s2))
  · exact q.elim
end
section
variable {X : Cx} {Γ : Act} {a b : Expr} {ta tb : DTE} {pos : Pos} {k : Nat}
abbrev dEqE : DTE → DTE → DTE := dBin (dCmp PEq PyData.eqv)
abbrev dNeE : DTE → DTE → DTE := dBin (dCmp PEq fun d e => !PyData.eqv d e)
abbrev dLtE : DTE → DTE → DTE := dBin (dCmp PLt PySem.W.dataLt)
abbrev dGtE : DTE → DTE → DTE := dBin (dCmp PLt fun d e => PySem.W.dataLt e d)
abbrev dLeE : DTE → DTE → DTE := dBin (dCmp PLt fun d e => !PySem.W.dataLt e d)
abbrev dGeE : DTE → DTE → DTE := dBin (dCmp PLt fun d e => !PySem.W.dataLt d e)
abbrev dInE : DTE → DTE → DTE := dBin (dCmp PIn inD)
abbrev dNiE : DTE → DTE → DTE := dBin (dCmp PIn fun d e => !inD d e)
theorem de_eq (hr : Room k X.A) (ha : DE X Γ a ta) (hb : DE X Γ b tb) : DE X Γ (.Compare a [.Eq] [b] pos) (dEqE ta tb) := de_cmp (op_eqP hr.units) opd_cmp ha hb (nomark _)
theorem de_ne (hr : Room k X.A) (ha : DE X Γ a ta) (hb : DE X Γ b tb) : DE X Γ (.Compare a [.NotEq] [b] pos) (dNeE ta tb) := de_cmp (op_neP hr.units) opd_cmp ha hb (nomark _)
theorem de_lt (hr : Room k X.A) (ha : DE X Γ a ta) (hb : DE X Γ b tb) : DE X Γ (.Compare a [.Lt] [b] pos) (dLtE ta tb) := de_cmp (op_ltP hr.units) opd_cmp ha hb (nomark _)
theorem de_gt (hr : Room k X.A) (ha : DE X Γ a ta) (hb : DE X Γ b tb) : DE X Γ (.Compare a [.Gt] [b] pos) (dGtE ta tb) := de_cmp (op_gtP hr.units) opd_cmp ha hb (nomark _)
theorem de_le (hr : Room k X.A) (ha : DE X Γ a ta) (hb : DE X Γ b tb) : DE X Γ (.Compare a [.LtE] [b] pos) (dLeE ta tb) := de_cmp (op_leP hr.units) opd_cmp ha hb (nomark _)
theorem de_ge (hr : Room k X.A) (ha : DE X Γ a ta) (hb : DE X Γ b tb) : DE X Γ (.Compare a [.GtE] [b] pos) (dGeE ta tb) := de_cmp (op_geP hr.units) opd_cmp ha hb (nomark _)
theorem de_in (hr : Room k X.A) (ha : DE X Γ a ta) (hb : DE X Γ b tb) (hm : behindInMarks .In b = false := by rfl) : DE X Γ (.Compare a [.In] [b] pos) (dInE ta tb) := de_cmp (op_inP hr.units) opd_cmp ha hb hm
theorem de_ni (hr : Room k X.A) (ha : DE X Γ a ta) (hb : DE X Γ b tb) (hm : behindInMarks .NotIn b = false := by rfl) : DE X Γ (.Compare a [.NotIn] [b] pos) (dNiE ta tb) := de_cmp (op_niP hr.units) opd_cmp ha hb hm
theorem de_isN (ha : DE X Γ a ta) (hb : DE X Γ b tb) : DE X Γ (.Compare a [.Is] [b] pos) (dBin dIsN ta tb) := de_cmp op_isN opd_isN ha hb (nomark _)
theorem de_notN (ha : DE X Γ a ta) (hb : DE X Γ b tb) : DE X Γ (.Compare a [.IsNot] [b] pos) (dBin dNotN ta tb) := de_cmp op_notN opd_notN ha hb (nomark _)
theorem de_isB (ha : DE X Γ a ta) (hb : DE X Γ b tb) : DE X Γ (.Compare a [.Is] [b] pos) (dBin dIsB ta tb) := de_cmp op_is_bl opd_isB ha hb (nomark _)
theorem de_notB (ha : DE X Γ a ta) (hb : DE X Γ b tb) : DE X Γ (.Compare a [.IsNot] [b] pos) (dBin dNotB ta tb) := de_cmp op_isnot_bl opd_notB ha hb (nomark _)
theorem dt_eq (hr : Room k X.A) (ha : DE X Γ a ta) (hb : DE X Γ b tb) : DT X Γ (.Compare a [.Eq] [b] pos) (dTest (dEqE ta tb)) := dt_cmp (op_eqP hr.units) opd_cmp ha hb (nomark _)
theorem dt_ne (hr : Room k X.A) (ha : DE X Γ a ta) (hb : DE X Γ b tb) : DT X Γ (.Compare a [.NotEq] [b] pos) (dTest (dNeE ta tb)) := dt_cmp (op_neP hr.units) opd_cmp ha hb (nomark _)
theorem dt_lt (hr : Room k X.A) (ha : DE X Γ a ta) (hb : DE X Γ b tb) : DT X Γ (.Compare a [.Lt] [b] pos) (dTest (dLtE ta tb)) := dt_cmp (op_ltP hr.units) opd_cmp ha hb (nomark _)
theorem dt_gt (hr : Room k X.A) (ha : DE X Γ a ta) (hb : DE X Γ b tb) : DT X Γ (.Compare a [.Gt] [b] pos) (dTest (dGtE ta tb)) := dt_cmp (op_gtP hr.units) opd_cmp ha hb (nomark _)
theorem dt_le (hr : Room k X.A) (ha : DE X Γ a ta) (hb : DE X Γ b tb) : DT X Γ (.Compare a [.LtE] [b] pos) (dTest (dLeE ta tb)) := dt_cmp (op_leP hr.units) opd_cmp ha hb (nomark _)
theorem dt_ge (hr : Room k X.A) (ha : DE X Γ a ta) (hb : DE X Γ b tb) : DT X Γ (.Compare a [.GtE] [b] pos) (dTest (dGeE ta tb)) := dt_cmp (op_geP hr.units) opd_cmp ha hb (nomark _)
theorem dt_in (hr : Room k X.A) (ha : DE X Γ a ta) (hb : DE X Γ b tb) (hm : behindInMarks .In b = false := by rfl) : DT X Γ (.Compare a [.In] [b] pos) (dTest (dInE ta tb)) := dt_cmp (op_inP hr.units) opd_cmp ha hb hm
theorem dt_ni (hr : Room k X.A) (ha : DE X Γ a ta) (hb : DE X Γ b tb) (hm : behindInMarks .NotIn b = false := by rfl) : DT X Γ (.Compare a [.NotIn] [b] pos) (dTest (dNiE ta tb)) := dt_cmp (op_niP hr.units) opd_cmp ha hb hm
theorem dt_isN (ha : DE X Γ a ta) (hb : DE X Γ b tb) : DT X Γ (.Compare a [.Is] [b] pos) (dTest (dBin dIsN ta tb)) := dt_cmp op_isN opd_isN ha hb (nomark _)
theorem dt_notN (ha : DE X Γ a ta) (hb : DE X Γ b tb) : DT X Γ (.Compare a [.IsNot] [b] pos) (dTest (dBin dNotN ta tb)) := dt_cmp op_notN opd_notN ha hb (nomark _)
theorem dt_isB (ha : DE X Γ a ta) (hb : DE X Γ b tb) : DT X Γ (.Compare a [.Is] [b] pos) (dTest (dBin dIsB ta tb)) := dt_cmp op_is_bl opd_isB ha hb (nomark _)
theorem dt_notB (ha : DE X Γ a ta) (hb : DE X Γ b tb) : DT X Γ (.Compare a [.IsNot] [b] pos) (dTest (dBin dNotB ta tb)) := dt_cmp op_isnot_bl opd_notB ha hb (nomark _)
theorem de_add (ha : DE X Γ a ta) (hb : DE X Γ b tb) : DE X Γ (.BinOp a .Add b pos) (dBin dAdd ta tb) := de_op op_addD opd_add ha hb
theorem de_sub (ha : DE X Γ a ta) (hb : DE X Γ b tb) : DE X Γ (.BinOp a .Sub b pos) (dBin (dI (fun i j => i - j) fun _ _ => True) ta tb) := de_op op_sub opd_I0 ha hb
theorem de_mul (ha : DE X Γ a ta) (hb : DE X Γ b tb) : DE X Γ (.BinOp a .Mult b pos) (dBin dMul ta tb) := de_op op_mulD opd_mul ha hb
theorem de_fdiv (ha : DE X Γ a ta) (hb : DE X Γ b tb) : DE X Γ (.BinOp a .FloorDiv b pos) (dBin (dI (fun i j => i / j) CDiv) ta tb) := de_op op_fdiv opd_I ha hb
theorem de_mod (ha : DE X Γ a ta) (hb : DE X Γ b tb) : DE X Γ (.BinOp a .Mod b pos) (dBin (dI (fun i j => i % j) fun _ j => 0 < j) ta tb) := de_op op_mod opd_I ha hb
theorem de_pow (ha : DE X Γ a ta) (hb : DE X Γ b tb) : DE X Γ (.BinOp a .Pow b pos) (dBin (dI (fun i j => i ^ j.toNat) CPow) ta tb) := de_op op_pow opd_I ha hb
end
end DL
set_option Elab.async false
set_option linter.all false
set_option maxRecDepth 100000
set_option maxHeartbeats 2000000
namespace DL
open PySem PySem.Spec PyProof.Rows L2
structure DEnds where
  nx : Rho → Mem → Prop
  rt : DQ
  bk : Rho → Mem → Prop := fun _ _ => False
  ct : Rho → Mem → Prop := fun _ _ => False
abbrev DTS := DEnds → Rho → Mem → Prop
def AftN (K : PySem.W.Frag) (Γ : Act) (S : Hp) (R : Rho → Mem → Prop) (Q : L2.St → Hp → Prop) : Prop := ∀ ρ' μ', R ρ' μ' → ∀ σ' F' S' H', Same S S' → ER K Γ σ' ρ' F' S' H' μ' → Q σ' H'
structure AftS (K : PySem.W.Frag) (Γ : Act) (S : Hp) (En : DEnds) (Dn : Ends) : Prop where
  nx : AftN K Γ S En.nx Dn.nx
  rt : Aft K Γ.F0 S En.rt Dn.rt
  bk : AftN K Γ S En.bk Dn.bk
  ct : AftN K Γ S En.ct Dn.ct
theorem AftN.from {K : PySem.W.Frag} {Γ : Act} {S S1 : Hp} {R : Rho → Mem → Prop} {Q : L2.St → Hp → Prop} (h : AftN K Γ S R Q) (e : Same S S1) : AftN K Γ S1 R Q := fun ρ' μ' r σ' F' S' H' s w => h ρ' μ' r σ' F' S' H' (e.trans s) w
theorem AftS.from {K : PySem.W.Frag} {Γ : Act} {S S1 : Hp} {En : DEnds} {Dn : Ends} (h : AftS K Γ S En Dn) (e : Same S S1) : AftS K Γ S1 En Dn := ⟨h.nx.from e, h.rt.from e, h.bk.from e, h.ct.from e⟩
def upS (K : PySem.W.Frag) (Γ : Act) (t : DTS) : TS := fun Dn σ H => ∃ F S μ ρ En, ER K Γ σ ρ F S H μ ∧ t En ρ μ ∧ AftS K Γ S En Dn
structure DS (X : Cx) (Γ : Act) (st : Stmt) (t : DTS) : Prop where
  ps : PS X st (upS X.K Γ t)
structure DSs (X : Cx) (Γ : Act) (st : List Stmt) (t : DTS) : Prop where
  pss : PSs X st (upS X.K Γ t)
section
variable {X : Cx} {Γ : Act} {st : Stmt} {rest : List Stmt} {t u : DTS} {e : Expr} {te : DTE} {pos : Pos}
def dNext : DTS := fun En ρ μ => En.nx ρ μ
def dSeq (t u : DTS) : DTS := fun En ρ μ => t { En with nx := u En } ρ μ
theorem dss_nil : DSs X Γ [] dNext := ⟨PSs.imp pss_nil fun Dn σ H ⟨F, S, μ, ρ, En, r, q, a⟩ => a.nx ρ μ q σ F S H (Same.refl S) r⟩
theorem dss_cons (h1 : DS X Γ st t) (h2 : DSs X Γ rest u) : DSs X Γ (st :: rest) (dSeq t u) := ⟨PSs.imp (pss_cons h1.ps h2.pss) fun Dn σ H ⟨F, S, μ, ρ, En, r, q, a⟩ =>
  ⟨F, S, μ, ρ, _, r, q, fun ρ1 μ1 q1 σ1 F1 S1 H1 s1 r1 => ⟨F1, S1, μ1, ρ1, En, r1, q1, a.from s1⟩, a.rt, a.bk, a.ct⟩⟩
theorem dss_one (h1 : DS X Γ st t) : DSs X Γ [st] t := ⟨pss_one h1.ps⟩
theorem ds_pass : DS X Γ (.Pass pos) dNext := ⟨PS.imp ps_pass fun Dn σ H ⟨F, S, μ, ρ, En, r, q, a⟩ => a.nx ρ μ q σ F S H (Same.refl S) r⟩
def dBreak : DTS := fun En ρ μ => En.bk ρ μ
def dCont : DTS := fun En ρ μ => En.ct ρ μ
theorem ds_break : DS X Γ (.Break pos) dBreak := ⟨PS.imp ps_break fun Dn σ H ⟨F, S, μ, ρ, En, r, q, a⟩ => a.bk ρ μ q σ F S H (Same.refl S) r⟩
theorem ds_continue : DS X Γ (.Continue pos) dCont := ⟨PS.imp ps_continue fun Dn σ H ⟨F, S, μ, ρ, En, r, q, a⟩ => a.ct ρ μ q σ F S H (Same.refl S) r⟩
def dDrop (te : DTE) : DTS := fun En ρ μ => te ρ μ fun _ μ1 => En.nx ρ μ1
theorem ds_expr (he : DE X Γ e te) (hs : swapsWith e none pos.line X.env = pure false := by rfl) : DS X Γ (.Expr e pos) (dDrop te) := ⟨PS.imp (ps_expr he.pe hs) fun Dn σ H ⟨F, S, μ, ρ, En, r, q, a⟩ =>
  ⟨F, S, μ, ρ, _, r, q, fun d μ1 q1 v S1 H1 s1 w1 _ => a.nx ρ μ1 q1 σ F S1 H1 s1 (r.later s1 w1)⟩⟩
def dRet (te : DTE) : DTS := fun En ρ μ => te ρ μ En.rt
theorem ds_ret (he : DE X Γ e te) : DS X Γ (.Return (some e) pos) (dRet te) := ⟨PS.imp (ps_ret he.pe) fun Dn σ H ⟨F, S, μ, ρ, En, r, q, a⟩ =>
  ⟨F, S, μ, ρ, _, r, q, fun d μ1 q1 v S1 H1 s1 w1 p1 => a.rt d μ1 q1 v S1 H1 s1 (w1.lessF r.f0) p1⟩⟩
def dRetN : DTS := fun En _ μ => En.rt .none μ
theorem ds_retN : DS X Γ (.Return none pos) dRetN := ⟨PS.imp ps_retN fun Dn σ H ⟨F, S, μ, ρ, En, r, q, a⟩ => a.rt _ μ q _ S H (Same.refl S) (r.wr.lessF r.f0) .non⟩
def dIfS (c : DTT) (t u : DTS) : DTS := fun En ρ μ => c ρ μ fun b μ1 => if b = true then t En ρ μ1 else u En ρ μ1
theorem ds_if {c : Expr} {a b : List Stmt} {tc : DTT} (hc : DT X Γ c tc) (ha : DSs X Γ a t) (hb : DSs X Γ b u) : DS X Γ (.If c a b pos) (dIfS tc t u) := ⟨PS.imp (ps_if hc.pt ha.pss hb.pss) fun Dn σ H ⟨F, S, μ, ρ, En, r, q, a⟩ =>
  ⟨F, S, μ, ρ, _, r, q, fun c μ1 q1 S1 H1 s1 w1 => by
    cases c with
    | true => exact iteT ⟨F, S1, μ1, ρ, En, r.later s1 w1, by simpa using q1, a.from s1⟩
    | false => exact iteF ⟨F, S1, μ1, ρ, En, r.later s1 w1, by simpa using q1, a.from s1⟩⟩⟩
def dNever : DTS := fun _ _ _ => False
theorem ds_never : DS X Γ st dNever := ⟨PS.imp ps_never fun Dn σ H ⟨F, S, μ, ρ, En, r, q, a⟩ => q⟩
theorem dss_never {sts : List Stmt} : DSs X Γ sts dNever := ⟨PSs.imp pss_never fun Dn σ H ⟨F, S, μ, ρ, En, r, q, a⟩ => q⟩
/-- what is thought, not done: ahead of a statement the slots are told otherwise -/
def dGhost (g : Rho → Mem → (Rho → Mem → Prop) → Prop) (t : DTS) : DTS := fun En ρ μ => g ρ μ fun ρ1 μ1 => t En ρ1 μ1
/-- slot i forgotten -/
def gDrop (i : Nat) : Rho → Mem → (Rho → Mem → Prop) → Prop := fun ρ μ Q => Q (ρ.set i none) μ
theorem ds_drop (i : Nat) (h : DS X Γ st t) : DS X Γ st (dGhost (gDrop i) t) := ⟨PS.imp h.ps fun Dn σ H ⟨F, S, μ, ρ, En, r, q, a⟩ => ⟨F, S, μ, _, En, r.drop, q, a⟩⟩
/-- one's own list in slot i stands still from now on -/
def gStill (i : Nat) : Rho → Mem → (Rho → Mem → Prop) → Prop := fun ρ μ Q => ∃ xs, ρ[i]? = some (some (.o xs)) ∧ Q (ρ.set i (some (.v (.list xs)))) μ
theorem ER.still {K : PySem.W.Frag} {Γ : Act} {σ : L2.St} {ρ : Rho} {F S H : Hp} {μ : Mem} {i : Nat} {xs : List D} (r : ER K Γ σ ρ F S H μ) (h : ρ[i]? = some (some (.o xs))) :
    ∃ F' S', Same S S' ∧ ER K Γ σ (ρ.set i (some (.v (.list xs)))) F' S' H μ := by
  obtain ⟨p, vs, e1, e2, e3, e4⟩ := r.own i xs h
  obtain ⟨s1, w1⟩ := r.wr.ownStill e2
  have hl : i < ρ.length := (List.getElem?_eq_some_iff.mp h).1
  refine ⟨fdel F p, upd S p (.lst vs), s1, w1, fun b o q => ?_, r.s0.trans s1, by simp [r.len], fun j d q => ?_, fun j ys q => ?_, fun j k ys zs a h1 h2 h3 h4 => ?_⟩
  · unfold fdel
    rw [if_neg (ne_of_none q e3)]
    exact r.f0 b o q
  · rcases set_none q with ⟨rfl, _, e⟩ | ⟨hj, q⟩
    · cases e
      exact ⟨_, e1, .lst upd_same (e4.mono s1)⟩
    · obtain ⟨u, a, b⟩ := r.at_ j d q
      exact ⟨u, a, b.mono s1⟩
  · rcases set_none q with ⟨rfl, _, e⟩ | ⟨hj, q⟩
    · cases e
    · obtain ⟨a, us, b1, b2, b3, b4⟩ := r.own j ys q
      have ne : a ≠ p := fun z => by
        subst z
        exact hj (r.one j i ys xs a q h b1 e1)
      exact ⟨a, us, b1, by unfold fdel; rw [if_neg ne]; exact b2, b3, b4.mono s1⟩
  · rcases set_none h1 with ⟨rfl, _, e⟩ | ⟨hj, h1⟩
    · cases e
    · rcases set_none h2 with ⟨rfl, _, e⟩ | ⟨hk, h2⟩
      · cases e
      · exact r.one j k ys zs a h1 h2 h3 h4
theorem ds_still (i : Nat) (h : DS X Γ st t) : DS X Γ st (dGhost (gStill i) t) := ⟨PS.imp h.ps fun Dn σ H ⟨F, S, μ, ρ, En, r, ⟨xs, e, q⟩, a⟩ => by
  obtain ⟨F', S', s1, r1⟩ := r.still e
  exact ⟨F', S', μ, _, En, r1, q, a.from s1⟩⟩
end
abbrev DTG := D → Rho → Mem → (Rho → Mem → Prop) → Prop
abbrev DTGs := List D → Rho → Mem → (Rho → Mem → Prop) → Prop
def upG (K : PySem.W.Frag) (Γ : Act) (g : DTG) : TG := fun v σ H Q => ∃ F S μ ρ d R, ER K Γ σ ρ F S H μ ∧ Rp K S v d ∧ g d ρ μ R ∧ AftN K Γ S R Q
def upGs (K : PySem.W.Frag) (Γ : Act) (g : DTGs) : TGs := fun vs σ H Q => ∃ F S μ ρ ds R, ER K Γ σ ρ F S H μ ∧ RpAll K S vs ds ∧ g ds ρ μ R ∧ AftN K Γ S R Q
structure DG (X : Cx) (Γ : Act) (tg : Expr) (g : DTG) : Prop where
  pg : PG X tg (upG X.K Γ g)
structure DGs (X : Cx) (Γ : Act) (tgs : List Expr) (g : DTGs) : Prop where
  pgs : PGs X tgs (upGs X.K Γ g)
section
variable {X : Cx} {Γ : Act} {pos : Pos}
theorem PG.imp {e : Expr} {t t' : TG} (h : PG X e t) (i : ∀ v σ H Q, t' v σ H Q → t v σ H Q) : PG X e t' := ⟨fun pins s σ H v u Q I r q => h.run pins s σ H v u Q I r (i v σ H Q q)⟩
theorem PGs.imp {e : List Expr} {t t' : TGs} (h : PGs X e t) (i : ∀ v σ H Q, t' v σ H Q → t v σ H Q) : PGs X e t' := ⟨fun pins s σ H v u Q I r q => h.run pins s σ H v u Q I r (i v σ H Q q)⟩
def dgName (i : Nat) : DTG := fun d ρ μ Q => Q (ρ.set i (some (.v d))) μ
theorem dg_name {i : Nat} {x : Str} (hN : X.N.Nodup) (hi : X.N[i]? = some x := by rfl) (hx : Loc X.env.scope x := by first | exact Or.inl rfl | exact Or.inr rfl) (hf : X.fn x = true ∨ X.env.scope.names.lookup x = some .local := by first | exact .inl rfl | exact .inr rfl | assumption) : DG X Γ (.Name x pos) (dgName i) :=
  ⟨PG.imp (pg_name (i := i) hN hi hx hf) fun v σ H Q ⟨F, S, μ, ρ, d, R, r, p, q, a⟩ => a _ μ q _ F S H (Same.refl S) (r.set p)⟩
def dgNil : DTGs := fun ds ρ μ Q => ds = [] ∧ Q ρ μ
def dgCons (g : DTG) (gs : DTGs) : DTGs := fun ds ρ μ Q => ∃ d r, ds = d :: r ∧ g d ρ μ fun ρ1 μ1 => gs r ρ1 μ1 Q
theorem dgs_nil : DGs X Γ [] dgNil := ⟨PGs.imp pgs_nil fun vs σ H Q ⟨F, S, μ, ρ, ds, R, r, p, ⟨e, q⟩, a⟩ => by
  subst e
  cases p
  exact ⟨rfl, a ρ μ q σ F S H (Same.refl S) r⟩⟩
theorem dgs_cons {e : Expr} {es : List Expr} {g : DTG} {gs : DTGs} (h1 : DG X Γ e g) (h2 : DGs X Γ es gs) (hs : (assignEach (e :: es) X.env).map (·.2) = assign e X.env :: (assignEach es X.env).map (·.2) := by rfl) : DGs X Γ (e :: es) (dgCons g gs) :=
  ⟨PGs.imp (pgs_cons h1.pg h2.pgs hs) fun vs σ H Q ⟨F, S, μ, ρ, ds, R, r, p, ⟨d, dr, e, q⟩, a⟩ => by
    subst e
    cases p with
    | cons p1 p2 => exact ⟨_, _, rfl, F, S, μ, ρ, d, _, r, p1, q, fun ρ1 μ1 q1 σ1 F1 S1 H1 s1 r1 => ⟨F1, S1, μ1, ρ1, dr, R, r1, p2.mono s1, q1, a.from s1⟩⟩⟩
def dgTup (n : Nat) (gs : DTGs) : DTG := fun d ρ μ Q => ∃ ds, d = .tuple ds ∧ ds.length = n ∧ gs ds ρ μ Q
theorem dg_tup {es : List Expr} {k : Nat} {gs : DTGs} {n : Nat} (hc : X.calm = true) (h : DGs X Γ es gs) (hn : (assignEach es X.env).length = n := by rfl) (hst : (assignEach es X.env).findIdx? (·.1) = none := by rfl) : DG X Γ (.Tuple es k pos) (dgTup n gs) :=
  ⟨PG.imp (pg_tup hc h.pgs hn hst) fun v σ H Q ⟨F, S, μ, ρ, d, R, r, p, ⟨ds, e, hl, q⟩, a⟩ => by
    subst e
    cases p with
    | tup h1 h2 => exact ⟨_, _, rfl, same_seqT r.wr.sub h1, by rw [h2.length]; exact hl, F, S, μ, ρ, ds, R, r, h2, q, a⟩⟩
/-- target = value -/
def dAsg (te : DTE) (g : DTG) : DTS := fun En ρ μ => te ρ μ fun d μ1 => g d ρ μ1 En.nx
theorem ds_asg {tg e : Expr} {te : DTE} {g : DTG} (he : DE X Γ e te) (hg : DG X Γ tg g) (hs : swapsWithSole [tg] e pos.line X.env = pure false := by rfl) (hw : swappedStores [tg] e X.env = pure none := by rfl)
    (h1 : (assignEach [tg] X.env).map (·.2) = [assign tg X.env] := by rfl) : DS X Γ (.Assign [tg] e pos) (dAsg te g) := ⟨PS.imp (ps_asg he.pe hg.pg hs hw h1) fun Dn σ H ⟨F, S, μ, ρ, En, r, q, a⟩ =>
  ⟨F, S, μ, ρ, _, r, q, fun d μ1 q1 v S1 H1 s1 w1 p1 => ⟨F, S1, μ1, ρ, d, _, r.later s1 w1, p1, q1, a.nx.from s1⟩⟩⟩
def dSet (i : Nat) (te : DTE) : DTS := fun En ρ μ => te ρ μ fun d μ1 => En.nx (ρ.set i (some (.v d))) μ1
theorem ds_set {i : Nat} {x : Str} {e : Expr} {te : DTE} {pos' : Pos} (hN : X.N.Nodup) (he : DE X Γ e te) (hi : X.N[i]? = some x := by rfl) (hx : Loc X.env.scope x := by first | exact Or.inl rfl | exact Or.inr rfl) (hs : swapsWith e (some (.Name x pos')) pos.line X.env = pure false := by rfl) (hf : X.fn x = true ∨ X.env.scope.names.lookup x = some .local := by first | exact .inl rfl | exact .inr rfl | assumption) :
    DS X Γ (.Assign [.Name x pos'] e pos) (dSet i te) := ⟨PS.imp (ps_set (i := i) hN hi hx he.pe hs hf) fun Dn σ H ⟨F, S, μ, ρ, En, r, q, a⟩ =>
  ⟨F, S, μ, ρ, _, r, q, fun d μ1 q1 v S1 H1 s1 w1 p1 => a.nx _ μ1 q1 _ F S1 H1 s1 ((r.later s1 w1).set p1)⟩⟩
/-- a, b = x, y with plain local names -/
def dPar (i j : Nat) (ta : DTA) : DTS := fun En ρ μ => ta ρ μ fun ds μ1 => ∃ c d, ds = [c, d] ∧ En.nx ((ρ.set i (some (.v c))).set j (some (.v d))) μ1
theorem ds_par {i j : Nat} {x y : Str} {a b : Expr} {ta : DTA} {px py pt : Pos} {kt k2 pt2} (hc : X.calm = true) (hN : X.N.Nodup) (ha : DA X Γ [a, b] ta) (hi : X.N[i]? = some x := by rfl) (hj : X.N[j]? = some y := by rfl) (hij : i ≠ j := by decide)
    (hx : X.env.scope.names.lookup x = some .local := by rfl) (hy : X.env.scope.names.lookup y = some .local := by rfl)
    (hw : swappedStores [.Tuple [.Name x px, .Name y py] kt pt] (.Tuple [a, b] k2 pt2) X.env = pure (some [x, y]) := by rfl)
    (hs : swapsWithSole [.Tuple [.Name x px, .Name y py] kt pt] (.Tuple [a, b] k2 pt2) pos.line X.env = pure false := by rfl) :
    DS X Γ (.Assign [.Tuple [.Name x px, .Name y py] kt pt] (.Tuple [a, b] k2 pt2) pos) (dPar i j ta) := ⟨PS.imp (ps_par hc hN hi hj hij hx hy ha.pa hw hs) fun Dn σ H ⟨F, S, μ, ρ, En, r, q, af⟩ =>
  ⟨F, S, μ, ρ, _, r, q, fun ds μ1 ⟨c, d, e, q1⟩ vs S1 H1 s1 w1 p1 => by
    subst e
    cases p1 with
    | cons pa p2 =>
      cases p2 with
      | cons pb p3 =>
        cases p3
        exact ⟨_, _, rfl, af.nx _ μ1 q1 _ F S1 H1 s1 (((r.later s1 w1).set pa).set pb)⟩⟩⟩
end
/-- J yields the data ds, one by one, whatever comes between -/
def WalkD (K : PySem.W.Frag) (S : Hp) (J : It) (ds : List D) : Prop :=
  ∀ F' S' H' μ', Same S S' → WR K F' S' H' μ' → ∀ i, (ds.length = i → J.stop i H') ∧ ∀ d, ds[i]? = some d → J.go i H' ∧ ∀ x H'', J.yld i H' x H'' → ∃ S'', Same S' S'' ∧ WR K F' S'' H'' μ' ∧ Rp K S'' x d
abbrev DTI := Rho → Mem → (List D → Mem → Prop) → Prop
def upI (K : PySem.W.Frag) (Γ : Act) (t : DTI) : TI := fun σ H R => ∃ F S μ ρ T, ER K Γ σ ρ F S H μ ∧ t ρ μ T ∧ ∀ ds μ1, T ds μ1 → ∀ S1 H1 J, Same S S1 → WR K F S1 H1 μ1 → WalkD K S1 J ds → R J H1
structure DI (X : Cx) (Γ : Act) (tg iter : Expr) (t : DTI) : Prop where
  pi : PI X tg iter (upI X.K Γ t)
section
variable {X : Cx} {Γ : Act} {pos : Pos} {tg : Expr}
theorem PI.imp {tg e : Expr} {t t' : TI} (h : PI X tg e t) (i : ∀ σ H R, t' σ H R → t σ H R) : PI X tg e t' := ⟨fun pins s σ H R I q => h.run pins s σ H R I (i σ H R q)⟩
def dForL (g : DTG) (body : DTS) (En : DEnds) : List D → Rho → Mem → Prop
  | [], ρ, μ => En.nx ρ μ
  | d :: ds, ρ, μ => g d ρ μ fun ρ1 μ1 => body { En with nx := dForL g body En ds, ct := dForL g body En ds, bk := En.nx } ρ1 μ1
def dFor (t : DTI) (g : DTG) (body : DTS) : DTS := fun En ρ μ => t ρ μ fun ds μ1 => dForL g body En ds ρ μ1
theorem ds_for {iter : Expr} {body : List Stmt} {t : DTI} {g : DTG} {tb : DTS} (hp : PassesOwn (model X.prog X.w) X.A X.env X.xe) (hc : X.calm = true) (hi : DI X Γ tg iter t) (hg : DG X Γ tg g) (hb : DSs X Γ body tb)
    (hs : ∀ x, foldedSetIterable iter X.env x = pure x := by intro _; rfl) : DS X Γ (.For tg iter body [] pos) (dFor t g tb) := ⟨PS.imp (ps_for hp hc hi.pi hg.pg hb.pss hs) fun Dn σ H ⟨F, S, μ, ρ, En, r, q, a⟩ =>
  ⟨F, S, μ, ρ, _, r, q, fun ds μ1 q1 S1 H1 J s1 w1 wd => by
    refine ⟨fun i m σ' H' => (m = ds.length - i ∧ i ≤ ds.length) ∧ ∃ F' S' μ' ρ', Same S1 S' ∧ ER X.K Γ σ' ρ' F' S' H' μ' ∧ dForL g tb En (ds.drop i) ρ' μ', ⟨_, ⟨rfl, Nat.zero_le _⟩, F, S1, μ1, ρ, Same.refl _, r.later s1 w1, by simpa using q1⟩, ?_⟩
    rintro i m σ' H' ⟨⟨rfl, hle⟩, F', S', μ', ρ', s2, r2, q2⟩
    obtain ⟨hstop, hgo⟩ := wd F' S' H' μ' s2 r2.wr i
    cases e : ds[i]? with
    | none =>
      have hl : ds.length ≤ i := List.getElem?_eq_none_iff.mp e
      rw [List.drop_eq_nil_of_le hl] at q2
      exact .inl ⟨hstop (Nat.le_antisymm hl hle), a.nx ρ' μ' q2 σ' F' S' H' (s1.trans s2) r2⟩
    | some d =>
      obtain ⟨hlt, hd⟩ := List.getElem?_eq_some_iff.mp e
      obtain ⟨h1, h2⟩ := hgo d e
      have ed : ds.drop i = d :: ds.drop (i + 1) := by rw [← hd]; exact List.drop_eq_getElem_cons hlt
      rw [ed] at q2
      refine .inr ⟨h1, fun σ3 H3 => ∃ F3 S3 μ3 ρ3, Same S1 S3 ∧ ER X.K Γ σ3 ρ3 F3 S3 H3 μ3 ∧ dForL g tb En (ds.drop (i + 1)) ρ3 μ3, fun σ3 H3 ⟨F3, S3, μ3, ρ3, z1, z2, z3⟩ => ⟨ds.length - (i + 1), by omega, ⟨rfl, hlt⟩, F3, S3, μ3, ρ3, z1, z2, z3⟩, fun x H'' y => ?_⟩
      obtain ⟨S'', s3, w3, p3⟩ := h2 x H'' y
      refine ⟨F', S'', μ', ρ', d, _, r2.later s3 w3, p3, q2, fun ρ4 μ4 q4 σ4 F4 S4 H4 s4 r4 => ⟨F4, S4, μ4, ρ4, _, r4, q4, ?_, ?_, ?_, ?_⟩⟩
      · exact fun ρ5 μ5 q5 σ5 F5 S5 H5 s5 r5 => ⟨F5, S5, μ5, ρ5, s2.trans (s3.trans (s4.trans s5)), r5, q5⟩
      · exact a.rt.from (s1.trans (s2.trans (s3.trans s4)))
      · exact a.nx.from (s1.trans (s2.trans (s3.trans s4)))
      · exact fun ρ5 μ5 q5 σ5 F5 S5 H5 s5 r5 => ⟨F5, S5, μ5, ρ5, s2.trans (s3.trans (s4.trans s5)), r5, q5⟩⟩⟩
/-- while, by a word with a measure -/
def dWhile (c : DTT) (body : DTS) : DTS := fun En ρ μ => ∃ I : Nat → Rho → Mem → Prop, (∃ m, I m ρ μ) ∧ ∀ m ρ μ, I m ρ μ →
  c ρ μ fun b μ1 => if b = true then body { En with nx := fun ρ' μ' => ∃ m', m' < m ∧ I m' ρ' μ', ct := fun ρ' μ' => ∃ m', m' < m ∧ I m' ρ' μ', bk := En.nx } ρ μ1 else En.nx ρ μ1
theorem ds_while {c : Expr} {body : List Stmt} {tc : DTT} {tb : DTS} (hp : PassesOwn (model X.prog X.w) X.A X.env X.xe) (hc : DT X Γ c tc) (hb : DSs X Γ body tb) : DS X Γ (.While c body [] pos) (dWhile tc tb) := ⟨PS.imp (ps_while hp hc.pt hb.pss) fun Dn σ H ⟨F, S, μ, ρ, En, r, ⟨I, ⟨m0, i0⟩, q⟩, a⟩ => by
  refine ⟨fun m σ' H' => ∃ F' S' μ' ρ', Same S S' ∧ ER X.K Γ σ' ρ' F' S' H' μ' ∧ I m ρ' μ', ⟨m0, F, S, μ, ρ, Same.refl _, r, i0⟩, ?_⟩
  rintro m σ' H' ⟨F', S', μ', ρ', s1, r1, q1⟩
  refine ⟨F', S', μ', ρ', _, r1, q m ρ' μ' q1, fun b μ2 q2 S2 H2 s2 w2 => ?_⟩
  cases b with
  | false => exact iteF (a.nx ρ' μ2 (by simpa using q2) σ' F' S2 H2 (s1.trans s2) (r1.later s2 w2))
  | true =>
    rw [if_pos rfl] at q2 ⊢
    refine ⟨fun σ3 H3 => ∃ m', m' < m ∧ ∃ F3 S3 μ3 ρ3, Same S S3 ∧ ER X.K Γ σ3 ρ3 F3 S3 H3 μ3 ∧ I m' ρ3 μ3, fun σ3 H3 ⟨m', hm, z⟩ => ⟨m', hm, z⟩, F', S2, μ2, ρ', _, r1.later s2 w2, q2, ?_, ?_, ?_, ?_⟩
    · exact fun ρ5 μ5 ⟨m', hm, q5⟩ σ5 F5 S5 H5 s5 r5 => ⟨m', hm, F5, S5, μ5, ρ5, s1.trans (s2.trans s5), r5, q5⟩
    · exact a.rt.from (s1.trans s2)
    · exact a.nx.from (s1.trans s2)
    · exact fun ρ5 μ5 ⟨m', hm, q5⟩ σ5 F5 S5 H5 s5 r5 => ⟨m', hm, F5, S5, μ5, ρ5, s1.trans (s2.trans s5), r5, q5⟩⟩
end
structure Exc where
  cls : Addr
  fs : List (Str × D)
abbrev DXQ := Exc → Mem → Prop
def XRep (K : PySem.W.Frag) (S H : Hp) (c : Value) (od : Option Addr) (x : Exc) : Prop := c = .ref x.cls ∧ ((od = none ∧ x.fs = []) ∨ ∃ d vs, od = some d ∧ H d = some (.xd vs) ∧ RpKV K S vs x.fs)
abbrev FSp := List D → Mem → DQ → DXQ → Prop
/-- a def's promise, over data -/
def spD (K : PySem.W.Frag) (fs : FSp) : Sp := fun vs H Q E => ∃ F S μ ds R EX, WR K F S H μ ∧ RpAll K S vs ds ∧ fs ds μ R EX ∧ Aft K F S R Q ∧
  ∀ x μ', EX x μ' → ∀ c od S' H', Same S S' → WR K F S' H' μ' → XRep K S' H' c od x → E c od H'
/-- what is wanted of exceptions, over data -/
def LX (X : Cx) (Γ : Act) (CX : CXT) (EX : Exc → Rho → Mem → Prop) : Prop := ∃ E : L2.St → XK, (∀ σ, PassesAt CX X σ (E σ)) ∧
  ∀ x ρ μ, EX x ρ μ → ∀ σ F S H c od, ER X.K Γ σ ρ F S H μ → XRep X.K S H c od x → E σ c od H
theorem lx0 {X : Cx} {Γ : Act} : LX X Γ CX0 fun _ _ _ => False := ⟨fun _ => E0, fun _ _ _ _ _ _ _ h => h.elim, fun _ _ _ h => h.elim⟩
section
variable {X : Cx} {Γ : Act} {CX : CXT} {k : Nat} {f : Addr} {fd : FuncData} {ps : List Str} {fs : FSp} {x : Str} {p pos : Pos} {e : Expr} {es : List Expr} {t : DTA} {EX : Exc → Rho → Mem → Prop}
def dCall (fs : FSp) (EX : Exc → Rho → Mem → Prop) (t : DTA) : DTE := fun ρ μ Q => t ρ μ fun ds μ1 => fs ds μ1 Q fun x μ2 => EX x ρ μ2
theorem de_call (Fn : FnOk X.prog X.w X.K X.mg X.base CX k f fd ps (spD X.K fs)) (hr : Room k X.A) (hg : Gl X x) (hm : X.mg x = some (.ref f)) (hk : PySem.W.keepIn X.K (.ref f) = true) (hb : Binds X.K fd ps []) (lx : LX X Γ CX EX)
    (ha : DA X Γ (e :: es) t) (hdb : (x == ("__debug__" : Str)) = false := by decide) (he : starEach (e :: es) X.env = (false, eval e X.env) :: starEach es X.env := by rfl) (hpl : (backTo pos (starEach es X.env)).any (·.1) = false := by rfl) :
    DE X Γ (.Call (.Name x p) (e :: es) [] pos) (dCall fs EX t) := by
  obtain ⟨E, hE, hx⟩ := lx
  refine ⟨PE.imp (pe_callSD Fn hr hg hm hk hb .nil hE ha.pa hdb he hpl) fun σ H Q ⟨F, S, μ, ρ, R, r, q, a⟩ => ?_⟩
  refine ⟨F, S, μ, ρ, _, r, q, fun ds μ1 q1 vs S1 H1 s1 w1 p1 => ?_⟩
  show spD X.K fs (vs ++ []) H1 Q (E σ)
  rw [List.append_nil]
  exact ⟨F, S1, μ1, ds, _, _, w1, p1, q1, a.from s1, fun x μ2 q2 c od S2 H2 s2 w2 xr => hx x ρ μ2 q2 σ F S2 H2 c od ((r.later s1 w1).later s2 w2) xr⟩
end
def startD (N : List Str) (ds : List D) : Rho := ds.map (fun d => some (Sl.v d)) ++ List.replicate (N.length - ds.length) none
theorem er_start {K : PySem.W.Frag} {N : List Str} {vs : List V} {ds : List D} {F S H : Hp} {μ : Mem} (w : WR K F S H μ) (r : RpAll K S vs ds) : ER K ⟨F, S⟩ (L2.start N vs) (startD N ds) F S H μ := by
  have hl := r.length
  have key : ∀ (i : Nat) (s : Sl), (startD N ds)[i]? = some (some s) → ∃ d, s = .v d ∧ ds[i]? = some d := fun i s h => by
    unfold startD at h
    by_cases hi : i < ds.length
    · rw [List.getElem?_append_left (by simpa using hi), List.getElem?_map] at h
      cases q : ds[i]? with
      | none => rw [q] at h; cases h
      | some d => rw [q] at h; cases h; exact ⟨d, rfl, rfl⟩
    · rw [List.getElem?_append_right (by simpa using hi), List.getElem?_replicate] at h
      split at h <;> cases h
  refine ⟨w, Same.refl _, Same.refl _, by simp [L2.start, startD, hl], fun i d h => ?_, fun i xs h => ?_, fun i j xs ys q h => ?_⟩
  · obtain ⟨d', e, q⟩ := key i _ h
    cases e
    obtain ⟨v, e1, e2⟩ := r.get' q
    refine ⟨v, ?_, e2⟩
    have hi : i < vs.length := (List.getElem?_eq_some_iff.mp e1).1
    unfold L2.start
    rw [List.getElem?_append_left (by simpa using hi), List.getElem?_map, e1]
    rfl
  · obtain ⟨d', e, q⟩ := key i _ h
    cases e
  · obtain ⟨d', e, q⟩ := key i _ h
    cases e
section
variable {P : Program} {w : World} {K : PySem.W.Frag} {mg : Str → Option Value} {base : Heap}
/-- at a def's end: the memory may be told less of, a list that is given may stand still from now on -/
def Settle (μ μ2 : Mem) (d d2 : D) : Prop := (∀ a m, μ2 a = some m → μ a = some m) ∧ (d2 = d ∨ ∃ a xs, d = dref a ∧ μ a = some (.lst xs) ∧ μ2 a = none ∧ d2 = .list xs)
theorem Settle.refl {μ : Mem} {d : D} : Settle μ μ d d := ⟨fun _ _ e => e, .inl rfl⟩
theorem Settle.run {F S H : Hp} {μ μ2 : Mem} {v : V} {d d2 : D} (s : Settle μ μ2 d d2) (w : WR K F S H μ) (r : Rp K S v d) : ∃ S', Same S S' ∧ WR K F S' H μ2 ∧ Rp K S' v d2 := by
  obtain ⟨hm, rfl | ⟨a, xs, rfl, em, e2, rfl⟩⟩ := s
  · exact ⟨S, Same.refl S, w.less hm, r⟩
  · obtain ⟨S', s1, w1, r1⟩ := w.freeze em
    have ev : v = .ref a := by
      generalize e : dref a = d at r
      cases r with
      | ref b => rw [dref_inj e]
      | ty n => exact (dref_ne_dty e).elim
      | _ => cases e
    subst ev
    refine ⟨S', s1, w1.less fun b m e => ?_, r1⟩
    unfold mdel
    by_cases hb : b = a
    · subst hb; rw [e2] at e; cases e
    · rw [if_neg hb]; exact hm b m e
/-- what is wanted behind a def's end -/
def Sett (R : DQ) : DQ := fun d μ => ∃ d2 μ2, Settle μ μ2 d d2 ∧ R d2 μ2
theorem sett_now {R : DQ} {d : D} {μ : Mem} (h : R d μ) : Sett R d μ := ⟨d, μ, Settle.refl, h⟩
theorem Aft.sett {F S : Hp} {R : DQ} {Q : VK} (a : Aft K F S R Q) : Aft K F S (Sett R) Q := fun d μ' ⟨d2, μ2, st, q⟩ v S' H' s w r => by
  obtain ⟨S2, s2, w2, r2⟩ := st.run w r
  exact a d2 μ2 q v S2 H' (s.trans s2) w2 r2
/-- .. of an exception -/
def SetX (EX : DXQ) : DXQ := fun x μ => ∃ μ2 : Mem, (∀ a m, μ2 a = some m → μ a = some m) ∧ EX x μ2
theorem setX_now {EX : DXQ} {x : Exc} {μ : Mem} (h : EX x μ) : SetX EX x μ := ⟨μ, fun _ _ e => e, h⟩
/-- a def that lets no exception out -/
theorem fun_ok {x qual : Str} {st : Stmt} {f : Addr} {fd : FuncData} {N ps : List Str} {k : Nat} {fs : FSp} {t : DTS} (Fn : Fun K x qual st f fd) (Sc : FnScope N ps (defScope st)) (len : ∀ ds μ R EX, fs ds μ R EX → ds.length = ps.length)
    (body : ∀ (cdv : Value) (A : Around) (outer : List Env) (s : Shared) (H : Hp) (E : XK) (Γ : Act), fd.code = cdv → Room k (A.deeper (envOfC qual (defScope st) s.heap.objs.size f cdv)) → DSs (cxOf CX0 P w K mg base N qual (defScope st) f cdv A outer s H E).nox Γ (defBody st) t)
    (read : ∀ ds μ R EX, fs ds μ R EX → t { nx := fun _ μ' => Sett R .none μ', rt := Sett R } (startD N ds) μ) : FnOk P w K mg base CX0 (k + 1) f fd ps (spD K fs) := by
  obtain ⟨oc, od, kV, doc, pm, an, cdv, ct, osl, rfl, lk, hcd⟩ := Fn.ex
  refine fn_of lk hcd Sc (fun vs H Q E ⟨F, S, μ, ds, R, EX, _, r, q, _⟩ => by rw [r.length]; exact len ds μ R EX q) fun A outer s H vs Q E hr ⟨F, S, μ, ds, R, EX, wr, r, q, a, _⟩ => ?_
  refine ⟨_, (body cdv A outer s H E ⟨F, S⟩ rfl hr).pss.nox, F, S, μ, _, _, er_start wr r, read ds μ R EX q, ?_, a.sett, ?_, ?_⟩
  · exact fun ρ' μ' q' σ' F' S' H' s' r' => a.sett _ μ' q' .non S' H' s' (r'.wr.lessF r'.f0) .non
  · exact fun _ _ z => z.elim
  · exact fun _ _ z => z.elim
/-- a def that may raise -/
theorem fun_okX {x qual : Str} {st : Stmt} {f : Addr} {fd : FuncData} {N ps : List Str} {k : Nat} {fs : FSp} {t : DXQ → DTS} (Fn : Fun K x qual st f fd) (Sc : FnScope N ps (defScope st)) (len : ∀ ds μ R EX, fs ds μ R EX → ds.length = ps.length)
    (body : ∀ (cdv : Value) (A : Around) (outer : List Env) (s : Shared) (H : Hp) (E : XK) (Γ : Act) (EX : DXQ), fd.code = cdv → Room k (A.deeper (envOfC qual (defScope st) s.heap.objs.size f cdv)) →
      (∀ x μ', EX x μ' → ∀ c od F' S' H', Same Γ.F0 F' → Same Γ.S0 S' → WR K F' S' H' μ' → XRep K S' H' c od x → E c od H') → DSs (cxOf (L2.CX P w) P w K mg base N qual (defScope st) f cdv A outer s H E) Γ (defBody st) (t EX))
    (read : ∀ ds μ R EX, fs ds μ R EX → t (SetX EX) { nx := fun _ μ' => Sett R .none μ', rt := Sett R } (startD N ds) μ) : FnOk P w K mg base (L2.CX P w) (k + 1) f fd ps (spD K fs) := by
  obtain ⟨oc, od, kV, doc, pm, an, cdv, ct, osl, rfl, lk, hcd⟩ := Fn.ex
  refine fn_of lk hcd Sc (fun vs H Q E ⟨F, S, μ, ds, R, EX, _, r, q, _⟩ => by rw [r.length]; exact len ds μ R EX q) fun A outer s H vs Q E hr ⟨F, S, μ, ds, R, EX, wr, r, q, a, ax⟩ => ?_
  refine ⟨_, (body cdv A outer s H E ⟨F, S⟩ (SetX EX) rfl hr fun x μ' ⟨μ2, hm, q⟩ c od F' S' H' f' s' w' xr => ax x μ2 q c od S' H' s' ((w'.lessF f').less hm) xr).pss, F, S, μ, _, _, er_start wr r, read ds μ R EX q, ?_, a.sett, ?_, ?_⟩
  · exact fun ρ' μ' q' σ' F' S' H' s' r' => a.sett _ μ' q' .non S' H' s' (r'.wr.lessF r'.f0) .non
  · exact fun _ _ z => z.elim
  · exact fun _ _ z => z.elim
end
end DL
set_option Elab.async false
set_option linter.all false
set_option maxRecDepth 100000
set_option maxHeartbeats 2000000
namespace DL
open PySem PySem.Spec PyProof.Rows L2
inductive SK | txt | tup | lst
/-- the items of what is walked -/
inductive Src (K : PySem.W.Frag) (H : Hp) : SK → V → List V → Prop
  | txt (z : Str) : Src K H .txt (.str z) (z.cps.toList.map fun c => .str ⟨#[c]⟩)
  | tup {a : Addr} {vs : List V} (h : SqT K H a vs) : Src K H .tup (.ref a) vs
  | lst {a : Addr} {vs : List V} (h : H a = some (.lst vs)) : Src K H .lst (.ref a) vs
/-- its iterator, behind i items -/
def ist : SK → Value → Addr → Nat → Heap → Prop
  | .txt, .str z t, it, i, h => h.IsStrIter it (strIterType z) z t i
  | .tup, .ref a, it, i, h => h.IsTupleIter it a i
  | .lst, .ref a, it, i, h => h.IsListIter it a i
  | _, _, _, _, _ => False
theorem ist_obj {k : SK} {u : Value} {it : Addr} {i : Nat} {h : Heap} (x : ist k u it i h) : ∃ o, h.get? it = some o ∧ ∀ v, o.data ≠ .cell v := by
  cases k <;> cases u <;> first | exact x.elim | (obtain ⟨o, e, _, d⟩ := x; exact ⟨o, e, fun v z => by rw [d] at z; cases z⟩)
theorem ist_keep {k : SK} {u : Value} {it : Addr} {i : Nat} {h h' : Heap} (x : ist k u it i h) (q : ∀ o, h.get? it = some o → h'.get? it = some o) : ist k u it i h' := by
  cases k <;> cases u <;> first | exact x.elim | (obtain ⟨o, e, r⟩ := x; exact ⟨o, q o e, r⟩)
section
variable {X : Cx} {pins : List (Addr × Obj)} {σ : L2.St} {H : Hp} {s : Shared}
theorem src_begins {k : SK} {x : V} {vs : List V} {u : Value} (I : Inv X pins σ H s) (q : Src X.K H k x vs) (r : RelV x u) :
    ∃ o Hf, Begins u o Hf ∧ Hf s.heap ∧ ∀ (h' : Heap) (it : Addr), h'.get? it = some o → ist k u it 0 h' := by
  cases q with
  | txt z =>
    obtain ⟨t, rfl⟩ := r
    exact ⟨_, _, begins_text z t, trivial, fun h' it e => ⟨_, e, rfl, rfl⟩⟩
  | tup h =>
    cases r
    obtain ⟨its, rv, p, _⟩ := I.tuple h
    exact ⟨_, _, begins_tuple _ its.toArray, p, fun h' it e => ⟨_, e, rfl, rfl⟩⟩
  | lst h =>
    cases r
    obtain ⟨its, rv, p, _⟩ := I.list (SqL.of h)
    exact ⟨_, _, begins_list _ its.toArray, p.isList, fun h' it e => ⟨_, e, rfl, rfl⟩⟩
theorem fp_apart {a c : Addr} (I : Inv X pins σ H s) (h : (∃ o, H a = some o) ∨ ∃ o, X.K.lookup a = some o) (f : FpOk X pins H c) : a ≠ c := by
  obtain ⟨f0, _, _, f3, _⟩ := f
  rcases h with ⟨o, h⟩ | ⟨o, h⟩
  · intro z; subst z; rw [f0] at h; cases h
  · intro z
    subst z
    have e := I.ok.mod.kin a o h
    rcases f3 with q | q
    · exact I.ok.noex a o e q
    · exact absurd (Nat.lt_of_lt_of_le (Heap.lt_size e) (Nat.le_trans I.ok.bsz q)) (Nat.lt_irrefl _)
theorem sqt_there {K : PySem.W.Frag} {H : Hp} {a : Addr} {vs : List V} (h : SqT K H a vs) : (∃ o, H a = some o) ∨ ∃ o, K.lookup a = some o := by
  rcases h with (h | ⟨o, h⟩) | ⟨o, _, _, h, _⟩
  · exact .inl ⟨_, h⟩
  · exact .inl ⟨_, h⟩
  · exact .inr ⟨_, h⟩
theorem src_draws {A : Around} {k : SK} {x : V} {vs : List V} {u : Value} {it : Addr} (hh : A.handled = none) (I : Inv X pins σ H s) (q : Src X.K H k x vs) (r : RelV x u) (hit : FpOk X pins H it) :
    ∃ fp P St, Draws X.prog X.w A it fp vs.length P St ∧ it ∈ fp ∧ (∀ b ∈ fp, b = it ∨ ∀ c, FpOk X pins H c → b ≠ c) ∧ (∀ i, ist k u it i s.heap → St i s.heap) ∧ (∀ i h', St i h' → ist k u it i h') ∧ ∀ i y, P i y → ∃ v, vs[i]? = some v ∧ RelV v y := by
  cases q with
  | txt z =>
    obtain ⟨t, rfl⟩ := r
    have D := Draws.text (prog := X.prog) (w := X.w) hh it z t
    have hl : (z.cps.toList.map fun c => V.str ⟨#[c]⟩).length = z.cps.size := by simp
    rw [hl]
    refine ⟨_, _, _, D, by simp, fun b hb => .inl (by simpa using hb), fun i h => h, fun i h' h => h, fun i y ⟨c, w, e1, e2⟩ => ⟨.str ⟨#[c]⟩, ?_, w, e2⟩⟩
    rw [List.getElem?_map, Array.getElem?_toList, e1]
    rfl
  | @tup a vs h =>
    cases r
    obtain ⟨its, rv, p, _⟩ := I.tuple h
    have ne : a ≠ it := fp_apart I (sqt_there h) hit
    have D := Draws.tuple (prog := X.prog) (w := X.w) hh it a ne its.toArray
    have hl : vs.length = its.toArray.size := by simpa using rv.length
    rw [hl]
    refine ⟨_, _, _, D, by simp, fun b hb => ?_, fun i h' => ⟨h', p⟩, fun i h' h => h.1, fun i y e => ?_⟩
    · rcases List.mem_cons.mp hb with rfl | hb
      · exact .inl rfl
      · have e : b = a := by simpa using hb
        subst e
        exact .inr fun c f => fp_apart I (sqt_there h) f
    · have e' : its[i]? = some y := by simpa using e
      cases ev : vs[i]? with
      | none => rw [rv.none_of ev] at e'; cases e'
      | some v =>
        obtain ⟨y', e1, e2⟩ := rv.get ev
        rw [e'] at e1; cases e1
        exact ⟨v, rfl, e2⟩
  | @lst a vs h =>
    cases r
    obtain ⟨its, rv, p, _⟩ := I.list (SqL.of h)
    have ne : a ≠ it := fp_apart I (.inl ⟨_, h⟩) hit
    have D := Draws.list (prog := X.prog) (w := X.w) hh it a ne its.toArray
    have hl : vs.length = its.toArray.size := by simpa using rv.length
    rw [hl]
    refine ⟨_, _, _, D, by simp, fun b hb => ?_, fun i h' => ⟨h', p.isList⟩, fun i h' h => h.1, fun i y e => ?_⟩
    · rcases List.mem_cons.mp hb with rfl | hb
      · exact .inl rfl
      · have e : b = a := by simpa using hb
        subst e
        exact .inr fun c f => fp_apart I (.inl ⟨_, h⟩) f
    · have e' : its[i]? = some y := by simpa using e
      cases ev : vs[i]? with
      | none => rw [rv.none_of ev] at e'; cases e'
      | some v =>
        obtain ⟨y', e1, e2⟩ := rv.get ev
        rw [e'] at e1; cases e1
        exact ⟨v, rfl, e2⟩
end
/-- new rows, one a turn, while P holds -/
def Itn (P : Hp → Prop) (n : Nat) (row : Nat → List V → Prop) : It :=
  ⟨fun i H => i < n ∧ P H, fun i H x H' => ∃ T vs, x = .ref T ∧ H T = none ∧ H' = upd H T (.tup vs) ∧ row i vs, fun i H => i = n ∧ P H⟩
/-- for i, a in enumerate(v) -/
theorem turn_enumS {P : Program} {w : World} {K : PySem.W.Frag} {elts : List Expr} {kk : Nat} {tpos : Pos} {k : SK} {x : V} {vs : List V} {u : Value} (e it : Addr) (hx : RelV x u) :
    Turn P w K (.Tuple elts kk tpos) (Itn (fun H => Src K H k x vs) vs.length fun i r => ∃ v, vs[i]? = some v ∧ r = [.int (i : Nat), v]) [e, it] e (fun i h => (∃ old, IsEnum h e it (0 + (i : Int)) old) ∧ ist k u it i h ∧ e ≠ it) where
  mem := by simp
  obj := fun i h st b hb => by
    obtain ⟨⟨old, he⟩, hi, _⟩ := st
    rcases List.mem_cons.mp hb with rfl | hb
    · exact ⟨_, he, fun v q => nomatch q⟩
    · have e' : b = it := by simpa using hb
      subst e'
      exact ist_obj hi
  keep := fun i h h' st q => let ⟨⟨old, he⟩, hi, hne⟩ := st; ⟨⟨old, q e (by simp) _ he⟩, ist_keep hi (q it (by simp)), hne⟩
  item := by
    intro X hP hw hK hc i pins s σ H E I hf st hg
    subst hP hw hK
    obtain ⟨he, hi, hne⟩ := st
    obtain ⟨hlt, hs⟩ := hg
    obtain ⟨fp, Pd, St, D, m1, m2, m3, m4, m5⟩ := src_draws (A := X.A.in1) (I.ok.hd hc) I hs hx (hf it (by simp))
    have hef : e ∉ fp := fun hb => by
      rcases m2 e hb with z | z
      · exact hne z
      · exact z e (hf e (by simp)) rfl
    have G := GoesN.enumFrom (prog := X.prog) (w := X.w) (A := X.A) (elts := elts) (x1 := kk) (pos := tpos) 0 D e hne hef m1
    refine wpAny_mono (G.goes i s (fun z s2 => ∃ y H', Inv X pins σ H' s2 ∧ RelV y z ∧ (Itn (fun H => Src X.K H k x vs) vs.length fun i r => ∃ v, vs[i]? = some v ∧ r = [.int (i : Nat), v]).yld i H y H' ∧ ((∃ old, IsEnum s2.heap e it (0 + ((i + 1 : Nat) : Int)) old) ∧ ist k u it (i + 1) s2.heap ∧ e ≠ it) ∧ ∀ b ∈ [e, it], H' b = none) E hlt ⟨he, m3 i hi⟩ fun z h' tk hY st' hk htk => ?_) (fun r s1 q => q) fun _ _ q => q
    obtain ⟨T, t, y, rfl, hT0, hPy, hT⟩ := hY
    obtain ⟨v, ev, rv⟩ := m5 i y hPy
    have new : ObjOk X.prog X.w (upd H T (.tup [.int (i : Nat), v])) h' T (.tup [.int (i : Nat), v]) :=
      ⟨by show 2 ≤ sizeLine; decide, [.int (0 + (i : Int)) t, y], .cons ⟨t, by rw [Int.zero_add]⟩ (.cons rv .nil), hT⟩
    have hHT := I.hok.fresh hT0
    have I1 : Inv X pins σ (upd H T (.tup [.int (i : Nat), v])) { s with heap := h', toks := tk } :=
      I.turnedNew (ch := [e, it]) (fun b ob hb q => hk b ob (fun z => hb (by simpa using z)) q) (fun b hb => hf b hb) hT0 new
    refine ⟨.ref T, _, I1, rfl, ⟨T, _, rfl, hHT, rfl, v, ev, rfl⟩, ⟨st'.1, m4 (i + 1) h' st'.2, hne⟩, fun b hb => ?_⟩
    obtain ⟨o, eo, _⟩ : ∃ o, s.heap.get? b = some o ∧ True := by
      rcases List.mem_cons.mp hb with rfl | hb
      · obtain ⟨old, q⟩ := he; exact ⟨_, q, trivial⟩
      · have e' : b = it := by simpa using hb
        subst e'
        obtain ⟨o, q, _⟩ := ist_obj hi
        exact ⟨o, q, trivial⟩
    rw [upd_ne (Nat.ne_of_lt (Nat.lt_of_lt_of_le (Heap.lt_size eo) hT0))]
    exact (hf b hb).1
  done := by
    intro X hP hw hK hc i pins s σ H E I hf st hg
    subst hP hw hK
    obtain ⟨he, hi, hne⟩ := st
    obtain ⟨rfl, hs⟩ := hg
    obtain ⟨fp, Pd, St, D, m1, m2, m3, m4, m5⟩ := src_draws (A := X.A.in1) (I.ok.hd hc) I hs hx (hf it (by simp))
    have hef : e ∉ fp := fun hb => by
      rcases m2 e hb with z | z
      · exact hne z
      · exact z e (hf e (by simp)) rfl
    have G := GoesN.enumFrom (prog := X.prog) (w := X.w) (A := X.A) (elts := elts) (x1 := kk) (pos := tpos) 0 D e hne hef m1
    exact G.stops s _ E ⟨he, m3 _ hi⟩ fun h' tk hk htk => I.turnedL (ch := [e, it]) (fun b o hb q => hk b o (fun z => hb (by simpa using z)) q) (fun b hb => hf b hb)
  self := fun A i s Q E st h => let ⟨⟨_, he⟩, _⟩ := st; wpAny_pyIter_enum he h
/-- for a, b in zip(v, w) -/
theorem turn_zipS {P : Program} {w : World} {K : PySem.W.Frag} {elts : List Expr} {kk : Nat} {tpos : Pos} {k1 k2 : SK} {x1 x2 : V} {vs1 vs2 : List V} {u1 u2 : Value} (z TI TO i1 i2 : Addr) (hx1 : RelV x1 u1) (hx2 : RelV x2 u2)
    (d1 : TI ≠ z) (d2 : TO ≠ z) (d3 : TI ≠ TO) (d4 : TI ≠ i1) (d5 : TI ≠ i2) (d6 : z ≠ i1) (d7 : z ≠ i2) (d8 : TO ≠ i1) (d9 : TO ≠ i2) (d10 : i1 ≠ i2) :
    Turn P w K (.Tuple elts kk tpos) (Itn (fun H => Src K H k1 x1 vs1 ∧ Src K H k2 x2 vs2) (min vs1.length vs2.length) fun i r => ∃ v1 v2, vs1[i]? = some v1 ∧ vs2[i]? = some v2 ∧ r = [v1, v2]) [z, TI, TO, i1, i2] z
      (fun i h => IsZip h z TI TO .none ∧ IsTupOf2 h TI (.ref i1) (.ref i2) ∧ (∃ a1 a2, IsTupOf2 h TO a1 a2) ∧ ist k1 u1 i1 i h ∧ ist k2 u2 i2 i h) where
  mem := by simp
  obj := fun i h st b hb => by
    obtain ⟨hz, hTI, ⟨a1, a2, hTO⟩, h1, h2⟩ := st
    simp only [List.mem_cons, List.not_mem_nil, or_false] at hb
    rcases hb with rfl | rfl | rfl | rfl | rfl
    · exact ⟨_, hz, fun v q => nomatch q⟩
    · exact ⟨_, hTI, fun v q => nomatch q⟩
    · exact ⟨_, hTO, fun v q => nomatch q⟩
    · exact ist_obj h1
    · exact ist_obj h2
  keep := fun i h h' st q => let ⟨hz, hTI, ⟨a1, a2, hTO⟩, h1, h2⟩ := st
    ⟨q z (by simp) _ hz, q TI (by simp) _ hTI, ⟨a1, a2, q TO (by simp) _ hTO⟩, ist_keep h1 (q i1 (by simp)), ist_keep h2 (q i2 (by simp))⟩
  item := by
    intro X hP hw hK hc i pins s σ H E I hf st hg
    subst hP hw hK
    obtain ⟨hlt, hs1, hs2⟩ := hg
    obtain ⟨hz, hTI, hTO, h1, h2⟩ := st
    obtain ⟨fp1, P1, St1, D1, m1, m2, m3, m4, m5⟩ := src_draws (A := X.A.in1) (I.ok.hd hc) I hs1 hx1 (hf i1 (by simp))
    obtain ⟨fp2, P2, St2, D2, n1, n2, n3, n4, n5⟩ := src_draws (A := X.A.in1) (I.ok.hd hc) I hs2 hx2 (hf i2 (by simp))
    have out1 : ∀ c ∈ [z, TI, TO, i1, i2], c ≠ i1 → c ∉ fp1 := fun c hc ne hb => (m2 c hb).elim ne fun q => q c (hf c hc) rfl
    have out2 : ∀ c ∈ [z, TI, TO, i1, i2], c ≠ i2 → c ∉ fp2 := fun c hc ne hb => (n2 c hb).elim ne fun q => q c (hf c hc) rfl
    have G := GoesN.zip2 (prog := X.prog) (w := X.w) (A := X.A) (elts := elts) (x1 := kk) (pos := tpos) ⟨d1, d2, d3, d4, m1, out1 z (by simp) d6, out1 TO (by simp) d8, d5, n1, out2 z (by simp) d7, out2 TO (by simp) d9, out2 i1 (by simp) d10, out1 i2 (by simp) (Ne.symm d10)⟩ D1 D2
    refine wpAny_mono (G.goes i s (fun zz s2 => ∃ y H', Inv X pins σ H' s2 ∧ RelV y zz ∧ (Itn (fun H => Src X.K H k1 x1 vs1 ∧ Src X.K H k2 x2 vs2) (min vs1.length vs2.length) fun i r => ∃ v1 v2, vs1[i]? = some v1 ∧ vs2[i]? = some v2 ∧ r = [v1, v2]).yld i H y H' ∧
      (IsZip s2.heap z TI TO .none ∧ IsTupOf2 s2.heap TI (.ref i1) (.ref i2) ∧ (∃ a1 a2, IsTupOf2 s2.heap TO a1 a2) ∧ ist k1 u1 i1 (i + 1) s2.heap ∧ ist k2 u2 i2 (i + 1) s2.heap) ∧ ∀ b ∈ [z, TI, TO, i1, i2], H' b = none) E hlt ⟨hz, hTI, hTO, m3 i h1, n3 i h2⟩ fun zz h' tk hY st' hk htk => ?_) (fun r s1 q => q) fun _ _ q => q
    obtain ⟨T, a, b, rfl, hT0, hPa, hPb, hT⟩ := hY
    obtain ⟨v1, ev1, rv1⟩ := m5 i a hPa
    obtain ⟨v2, ev2, rv2⟩ := n5 i b hPb
    have new : ObjOk X.prog X.w (upd H T (.tup [v1, v2])) h' T (.tup [v1, v2]) := ⟨by show 2 ≤ sizeLine; decide, [a, b], .cons rv1 (.cons rv2 .nil), hT⟩
    have hHT := I.hok.fresh hT0
    have I1 : Inv X pins σ (upd H T (.tup [v1, v2])) { s with heap := h', toks := tk } :=
      I.turnedNew (ch := [z, TI, TO, i1, i2]) (fun c ob hc q => hk c ob (fun y => hc (by simp only [List.mem_cons, List.not_mem_nil, or_false] at y ⊢; rcases y with y | y | y | y <;> simp [y])) q) (fun c hc => hf c hc) hT0 new
    refine ⟨.ref T, _, I1, rfl, ⟨T, _, rfl, hHT, rfl, v1, v2, ev1, ev2, rfl⟩, ⟨st'.1, st'.2.1, st'.2.2.1, m4 _ _ st'.2.2.2.1, n4 _ _ st'.2.2.2.2⟩, fun c hc => ?_⟩
    have there : ∃ o, s.heap.get? c = some o := by
      simp only [List.mem_cons, List.not_mem_nil, or_false] at hc
      rcases hc with rfl | rfl | rfl | rfl | rfl
      · exact ⟨_, hz⟩
      · exact ⟨_, hTI⟩
      · obtain ⟨a1, a2, q⟩ := hTO; exact ⟨_, q⟩
      · obtain ⟨o, q, _⟩ := ist_obj h1; exact ⟨o, q⟩
      · obtain ⟨o, q, _⟩ := ist_obj h2; exact ⟨o, q⟩
    obtain ⟨o, eo⟩ := there
    rw [upd_ne (Nat.ne_of_lt (Nat.lt_of_lt_of_le (Heap.lt_size eo) hT0))]
    exact (hf c hc).1
  done := by
    intro X hP hw hK hc i pins s σ H E I hf st hg
    subst hP hw hK
    obtain ⟨rfl, hs1, hs2⟩ := hg
    obtain ⟨hz, hTI, hTO, h1, h2⟩ := st
    obtain ⟨fp1, P1, St1, D1, m1, m2, m3, m4, m5⟩ := src_draws (A := X.A.in1) (I.ok.hd hc) I hs1 hx1 (hf i1 (by simp))
    obtain ⟨fp2, P2, St2, D2, n1, n2, n3, n4, n5⟩ := src_draws (A := X.A.in1) (I.ok.hd hc) I hs2 hx2 (hf i2 (by simp))
    have out1 : ∀ c ∈ [z, TI, TO, i1, i2], c ≠ i1 → c ∉ fp1 := fun c hc ne hb => (m2 c hb).elim ne fun q => q c (hf c hc) rfl
    have out2 : ∀ c ∈ [z, TI, TO, i1, i2], c ≠ i2 → c ∉ fp2 := fun c hc ne hb => (n2 c hb).elim ne fun q => q c (hf c hc) rfl
    have G := GoesN.zip2 (prog := X.prog) (w := X.w) (A := X.A) (elts := elts) (x1 := kk) (pos := tpos) ⟨d1, d2, d3, d4, m1, out1 z (by simp) d6, out1 TO (by simp) d8, d5, n1, out2 z (by simp) d7, out2 TO (by simp) d9, out2 i1 (by simp) d10, out1 i2 (by simp) (Ne.symm d10)⟩ D1 D2
    exact G.stops s _ E ⟨hz, hTI, hTO, m3 _ h1, n3 _ h2⟩ fun h' tk hk htk => I.turnedL (ch := [z, TI, TO, i1, i2]) (fun c ob hc q => hk c ob (fun y => hc (by simp only [List.mem_cons, List.not_mem_nil, or_false] at y ⊢; rcases y with y | y | y | y <;> simp [y])) q) (fun c hc => hf c hc)
  self := fun A i s Q E st h => wpAny_pyIter_zip st.1 h
section
variable {prog : Program} {w : World} {A : Around} {E : Value → Shared → Prop} {s : Shared}
abbrev enumO (a : Addr) : Obj := { cls := .type "enumerate", data := .fields #[.none, .bool false, .ref a, rawInt 0, .none, .none] }
set_option maxHeartbeats 4000000 in
theorem enum_meets1 {v : Value} {o : Obj} {Hf : Heap → Prop} (B : Begins v o Hf) :
    Meets (Builtin.«enumerate.__new__» ⟨[.type "enumerate", v], []⟩) (fun _ R s => Hf s.heap ∧ R (.ok (.ret (.ref (s.heap.push o).objs.size))) { s with heap := (s.heap.push o).push (enumO s.heap.objs.size) }) :=
  .of_wp fun prog w A R s h => by
    obtain ⟨hp, g, d, tk, os⟩ := s
    obtain ⟨h1, h⟩ := h
    have _sb := sub_enumerate
    have stp : ∀ {A' : Around} {E : Value → Shared → Prop} {Q : Value → Shared → Prop}, Q (.ref hp.objs.size) ⟨hp.push o, g, d, tk, os⟩ → wpAny (model prog w) A' (pyIter v) Q E ⟨hp, g, d, tk, os⟩ := fun q =>
      B.iter prog w _ _ ⟨hp, g, d, tk, os⟩ _ h1 q
    wp_walk using stp
    refine wpAny_stack_any fun st => wpAny_pure ?_
    split
    · rename_i c _ _ _ _ _
      cases (c == Value.type "enumerate") <;> (wp_walk using stp; exact ⟨_, rfl, h⟩)
    · wp_walk using stp
      exact ⟨_, rfl, h⟩
theorem enum_begins1 {v : Value} {o : Obj} {Hf : Heap → Prop} {Q : Value → Shared → Prop} (B : Begins v o Hf) (h1 : Hf s.heap)
    (h : ∀ h', IsEnum h' (s.heap.objs.size + 1) s.heap.objs.size 0 .none → h'.get? s.heap.objs.size = some o → h'.objs.size = s.heap.objs.size + 2 →
      (∀ b ob, s.heap.get? b = some ob → h'.get? b = some ob) → Q (.ref (s.heap.objs.size + 1)) { s with heap := h' }) :
    wpAny (model prog w) A (call (.type "enumerate") [v]) Q E s := by
  refine callType_new F.called_enumerate (by decide) (F.typeCall_enumerate_1 _) (F.newCall_enumerate_1 _) (fun ob => F.args_object_init_2 ob _) F.entry_enumerate_new (enum_meets1 B) ⟨h1, ?_⟩
  have hz : (s.heap.push o).objs.size = s.heap.objs.size + 1 := Heap.size_push ..
  show _ ∧ _
  rw [hz]
  have he : IsEnum ((s.heap.push o).push (enumO s.heap.objs.size)) (s.heap.objs.size + 1) s.heap.objs.size 0 .none := by
    have e := Heap.get?_push_size (s.heap.push o) (o := enumO s.heap.objs.size) rfl
    rw [hz] at e
    exact e
  exact ⟨⟨_, he, rfl⟩, h _ he (Heap.get?_push_of_some _ (Heap.get?_push_size _ B.free)) (by rw [Heap.size_push, hz]) fun b ob q => Heap.get?_push_of_some _ (Heap.get?_push_of_some _ q)⟩
end
/-- a sign as a text -/
abbrev sgn (c : Nat) : D := .str ⟨#[c]⟩
def signs (z : Str) : List D := z.cps.toList.map sgn
/-- the items of data that are walked -/
def itemsD : D → Option (List D)
  | .str z => some (signs z)
  | .tuple ds => some ds
  | .list ds => some ds
  | _ => none
theorem src_of {K : PySem.W.Frag} {S : Hp} {v : V} {d : D} {ds : List D} (r : Rp K S v d) (h : itemsD d = some ds) : ∃ k vs, (∀ H, Same S H → Src K H k v vs) ∧ RpAll K S vs ds := by
  cases r with
  | str z =>
    cases h
    refine ⟨.txt, _, fun H e => .txt z, ?_⟩
    unfold signs
    generalize z.cps.toList = l
    induction l with
    | nil => exact .nil
    | cons c l ih => exact .cons (.str _) ih
  | tup h1 h2 => cases h; exact ⟨.tup, _, fun H e => .tup (same_seqT e h1), h2⟩
  | lst h1 h2 => cases h; exact ⟨.lst, _, fun H e => .lst (e _ _ h1), h2⟩
  | _ => cases h
section
variable {X : Cx} {Γ : Act} {pos : Pos} {tg : Expr}
/-- an iterator over what stands still -/
theorem src_iter {pins : List (Addr × Obj)} {σ : L2.St} {H : Hp} {s : Shared} {k : SK} {x : V} {vs : List V} {u : Value} {R : It → Hp → Prop} {E : Value → Shared → Prop} (I : Inv X pins σ H s) (q : Src X.K H k x vs) (r : RelV x u)
    (h : ∀ J, (∀ H', Src X.K H' k x vs → ∀ i, (vs.length = i → J.stop i H') ∧ ∀ v, vs[i]? = some v → J.go i H' ∧ ∀ y H'', J.yld i H' y H'' → H'' = H' ∧ y = v) → R J H) : wpAny (model X.prog X.w) X.A (pyIter u) (PIE X pins σ tg R) E s := by
  cases q with
  | txt z =>
    obtain ⟨t, rfl⟩ := r
    have q : R (Its z) H := h _ fun H' _ i => ⟨fun e => by show z.cps.size ≤ i; rw [← e]; simp, fun v e => by
      rw [List.getElem?_map, Array.getElem?_toList] at e
      cases ec : z.cps[i]? with
      | none => rw [ec] at e; cases e
      | some c =>
        rw [ec] at e; cases e
        exact ⟨(Array.getElem?_eq_some_iff.mp ec).1, fun y H'' ⟨e1, c', e2, e3⟩ => ⟨e1, by rw [ec] at e2; cases e2; exact e3⟩⟩⟩
    cases ha : z.cps.all (· < 128)
    · exact wpAny_pyIter_wide ha (pi_one (tk := s.toks) I _ (turn_str _ z t "str_iterator" (.inr rfl)) ⟨_, Heap.get?_push_size _ rfl, rfl, rfl⟩ q)
    · exact wpAny_pyIter_ascii ha (pi_one (tk := s.toks) I _ (turn_str _ z t "str_ascii_iterator" (.inl rfl)) ⟨_, Heap.get?_push_size _ rfl, rfl, rfl⟩ q)
  | @tup a vs hq =>
    cases r
    obtain ⟨its, rv, p, hz⟩ := I.tuple hq
    have q : R (Itt X.K a) H := h _ fun H' q i => by
      cases q with
      | tup q => exact ⟨fun e => ⟨vs, q, Nat.le_of_eq e⟩, fun v e => ⟨⟨vs, v, q, e⟩, fun y H'' ⟨e1, e2⟩ => ⟨e1, by have z := e2 vs q; rw [e] at z; cases z; rfl⟩⟩⟩
    exact wpAny_pyIter_tuple (show s.heap.IsTuple a its.toArray from p) (pi_one (tk := s.toks) I _ (turn_tuple a _) ⟨_, Heap.get?_push_size _ rfl, rfl, rfl⟩ q)
  | @lst a vs hq =>
    cases r
    obtain ⟨its, rv, p, hz⟩ := I.list (SqL.of hq)
    have q : R (Itl X.K a) H := h _ fun H' q i => by
      cases q with
      | lst q => exact ⟨fun e => ⟨vs, SqL.of q, Nat.le_of_eq e⟩, fun v e => ⟨⟨vs, v, SqL.of q, e⟩, fun y H'' ⟨e1, e2⟩ => ⟨e1, by have z := e2 vs (SqL.of q); rw [e] at z; cases z; rfl⟩⟩⟩
    exact wpAny_pyIter_list p.isList (pi_one (tk := s.toks) I _ (turn_list a _) ⟨_, Heap.get?_push_size _ rfl, rfl, rfl⟩ q)
/-- for x in a text, a tuple, a list that stands still -/
def diSrc (te : DTE) : DTI := fun ρ μ T => te ρ μ fun d μ1 => ∃ ds, itemsD d = some ds ∧ T ds μ1
theorem di_src {e : Expr} {te : DTE} (he : DE X Γ e te) : DI X Γ tg e (diSrc te) := ⟨⟨fun pins s σ H R I ⟨F, S, μ, ρ, T, r, q, a⟩ => by
  refine thn (he.pe.run pins s σ H (fun x H1 => ∃ S1 μ1 d ds, Same S S1 ∧ WR X.K F S1 H1 μ1 ∧ Rp X.K S1 x d ∧ itemsD d = some ds ∧ T ds μ1) I ⟨F, S, μ, ρ, _, r, q, fun d μ1 ⟨ds, e1, q1⟩ v S1 H1 s1 w1 p1 => ⟨S1, μ1, d, ds, s1, w1, p1, e1, q1⟩⟩) fun u s1 hq => ?_
  obtain ⟨x, H1, I1, r1, S1, μ1, d, ds, s1', w1, p1, e1, q1⟩ := hq
  obtain ⟨k, vs, hsrc, hall⟩ := src_of p1 e1
  refine src_iter I1 (hsrc H1 w1.sub) r1 fun J hJ => a ds μ1 q1 S1 H1 J s1' w1 fun F' S' H' μ' s2 w2 i => ?_
  obtain ⟨h1, h2⟩ := hJ H' (hsrc H' (s2.trans w2.sub)) i
  refine ⟨fun e => h1 (by rw [hall.length]; exact e), fun d' e => ?_⟩
  obtain ⟨v, ev, rv⟩ := hall.get' e
  obtain ⟨g1, g2⟩ := h2 v ev
  refine ⟨g1, fun y H'' hy => ?_⟩
  obtain ⟨e3, e4⟩ := g2 y H'' hy
  subst e3 e4
  exact ⟨S', Same.refl _, w2, rv.mono s2⟩⟩⟩
def intsD (lo : Int) (n : Nat) : List D := (List.range n).map fun i => .int (lo + (i : Nat))
theorem walkD_range {K : PySem.W.Frag} {S : Hp} (lo : Int) (n : Nat) : WalkD K S (Itr lo n) (intsD lo n) := fun F' S' H' μ' s w i => by
  refine ⟨fun e => by show n ≤ i; rw [← e]; simp [intsD], fun d e => ?_⟩
  unfold intsD at e
  rw [List.getElem?_map] at e
  cases q : (List.range n)[i]? with
  | none => rw [q] at e; cases e
  | some j =>
    rw [q] at e; cases e
    obtain ⟨h1, h2⟩ := List.getElem?_eq_some_iff.mp q
    rw [List.getElem_range] at h2
    subst h2
    exact ⟨by show i < n; simpa using h1, fun x H'' ⟨e1, e2⟩ => by subst e1 e2; exact ⟨S', Same.refl _, w, .int _⟩⟩
/-- for i in range(n) -/
def diRange1 (t : DTA) : DTI := fun ρ μ T => t ρ μ fun ds μ1 => ∃ j : Int, ds = [.int j] ∧ (-(2 ^ 62) ≤ j ∧ j < 2 ^ 62) ∧ T (intsD 0 j.toNat) μ1
theorem di_range1 {a : Expr} {t : DTA} {p : Pos} (hg : Gl X "range") (hm : X.mg "range" = none) (ha : DA X Γ [a] t) (hs : starEach [a] X.env = [(false, eval a X.env)] := by rfl) : DI X Γ tg (.Call (.Name "range" p) [a] [] pos) (diRange1 t) :=
  ⟨PI.imp (pi_range1 hg hm ha.pa hs) fun σ H R ⟨F, S, μ, ρ, T, r, q, a⟩ => ⟨F, S, μ, ρ, _, r, q, fun ds μ1 ⟨j, e, b, q1⟩ vs S1 H1 s1 w1 p1 => by
    subst e
    cases p1 with
    | cons p1 p2 =>
      cases p2
      cases p1
      exact ⟨j, rfl, b.1, b.2, a _ μ1 q1 S1 H1 _ s1 w1 (walkD_range 0 _)⟩⟩⟩
def diRange2 (t : DTA) : DTI := fun ρ μ T => t ρ μ fun ds μ1 => ∃ i j : Int, ds = [.int i, .int j] ∧ (-(2 ^ 62) ≤ i ∧ i < 2 ^ 62 ∧ -(2 ^ 62) ≤ j ∧ j < 2 ^ 62) ∧ T (intsD i (j - i).toNat) μ1
theorem di_range2 {a b : Expr} {t : DTA} {p : Pos} (hg : Gl X "range") (hm : X.mg "range" = none) (ha : DA X Γ [a, b] t) (hs : starEach [a, b] X.env = [(false, eval a X.env), (false, eval b X.env)] := by rfl) (hs2 : starEach [b] X.env = [(false, eval b X.env)] := by rfl) : DI X Γ tg (.Call (.Name "range" p) [a, b] [] pos) (diRange2 t) :=
  ⟨PI.imp (pi_range2 hg hm ha.pa hs hs2) fun σ H R ⟨F, S, μ, ρ, T, r, q, a⟩ => ⟨F, S, μ, ρ, _, r, q, fun ds μ1 ⟨i, j, e, b, q1⟩ vs S1 H1 s1 w1 p1 => by
    subst e
    cases p1 with
    | cons p1 p2 =>
      cases p2 with
      | cons p2 p3 =>
        cases p3
        cases p1
        cases p2
        exact ⟨i, j, rfl, b, a _ μ1 q1 S1 H1 _ s1 w1 (walkD_range i _)⟩⟩⟩
/-- new rows, over data -/
theorem walkD_rows {K : PySem.W.Frag} {S : Hp} {P : Hp → Prop} {n : Nat} {row : Nat → List V → Prop} {ds : List D} (hl : ds.length = n) (hP : ∀ H, Same S H → P H)
    (hr : ∀ i d vs, ds[i]? = some d → row i vs → ∃ es, d = .tuple es ∧ RpAll K S vs es) : WalkD K S (Itn P n row) ds := fun F' S' H' μ' s w i => by
  refine ⟨fun e => ⟨by rw [← hl]; exact e.symm, hP H' (s.trans w.sub)⟩, fun d e => ⟨⟨by rw [← hl]; exact (List.getElem?_eq_some_iff.mp e).1, hP H' (s.trans w.sub)⟩, fun x H'' ⟨T, vs, e1, e2, e3, e4⟩ => ?_⟩⟩
  obtain ⟨es, e5, q⟩ := hr i d vs e e4
  subst e1 e3 e5
  obtain ⟨s2, w2⟩ := w.still e2 (.tup vs)
  exact ⟨_, s2, w2, .tup (SqT.of upd_same) (q.mono (s.trans s2))⟩
def enumD (ds : List D) : List D := (intsD 0 ds.length).zipWith (fun i d => .tuple [i, d]) ds
/-- for i, x in enumerate(..) -/
def diEnum (t : DTA) : DTI := fun ρ μ T => t ρ μ fun as μ1 => ∃ d ds, as = [d] ∧ itemsD d = some ds ∧ T (enumD ds) μ1
theorem di_enum {e : Expr} {t : DTA} {p tpos : Pos} {elts : List Expr} {kk : Nat} (hg : Gl X "enumerate") (hm : X.mg "enumerate" = none) (ha : DA X Γ [e] t) (hs : starEach [e] X.env = [(false, eval e X.env)] := by rfl) :
    DI X Γ (.Tuple elts kk tpos) (.Call (.Name "enumerate" p) [e] [] pos) (diEnum t) := ⟨⟨fun pins s σ H R I ⟨F, S, μ, ρ, T, r, q, a⟩ => by
  refine Call_ (ld_blt I hg hm boot_enumerate (PyProof.Rows.callWith_type1 (thn (ha.pa.run pos pins s σ H (fun vs H1 => ∃ S1 μ1 as d ds, Same S S1 ∧ WR X.K F S1 H1 μ1 ∧ RpAll X.K S1 vs as ∧ as = [d] ∧ itemsD d = some ds ∧ T (enumD ds) μ1) I ⟨F, S, μ, ρ, _, r, q, fun as μ1 ⟨d, ds, e0, e1, q1⟩ vs S1 H1 s1 w1 p1 => ⟨S1, μ1, as, d, ds, s1, w1, p1, e0, e1, q1⟩⟩) fun us s1 hq => ?_) hs rfl))
  obtain ⟨vs, H1, I1, r1, S1, μ1, as, d, ds, s1', w1, p1, e0, e1, q1⟩ := hq
  subst e0
  cases p1 with
  | cons p1 p2 =>
    cases p2
    cases r1 with
    | cons rr r2 =>
      cases r2
      obtain ⟨k, vs, hsrc, hall⟩ := src_of p1 e1
      obtain ⟨o, Hf, B, hB, hi0⟩ := src_begins I1 (hsrc H1 w1.sub) rr
      refine enum_begins1 B hB fun h' he hit hsz hk => wpAny_pyIter_enum he ?_
      have I2 : Inv X pins σ H1 { s1 with heap := h' } := I1.kept (t' := s1.toks) hk
      refine ⟨s1.heap.objs.size + 1, [s1.heap.objs.size + 1, s1.heap.objs.size], _, _, H1, rfl, I2, turn_enumS (K := X.K) (k := k) (vs := vs) (s1.heap.objs.size + 1) s1.heap.objs.size rr, ⟨⟨.none, by simpa using he⟩, hi0 h' _ hit, Nat.succ_ne_self _⟩, fun b hb => ?_, a _ μ1 q1 S1 H1 _ s1' w1 (walkD_rows ?_ (fun H e => hsrc H e) fun i d' vs' ed ⟨v, ev, er⟩ => ?_)⟩
      · have e' : b = s1.heap.objs.size + 1 ∨ b = s1.heap.objs.size := by simpa using hb
        have hle : s1.heap.objs.size ≤ b := by
          rcases e' with z | z
          · rw [z]; exact Nat.le_add_right _ _
          · rw [z]; exact Nat.le_refl _
        exact I1.fpOk hle (I1.hok.fresh hle)
      · simp [enumD, intsD, hall.length]
      · subst er
        obtain ⟨d'', ed', rv⟩ := hall.get ev
        have hlt : i < ds.length := (List.getElem?_eq_some_iff.mp ed').1
        have e2 : (enumD ds)[i]? = some (.tuple [.int (i : Nat), d'']) := by
          simp [enumD, intsD, List.getElem?_zipWith, List.getElem?_range hlt, ed']
        rw [e2] at ed; cases ed
        exact ⟨_, rfl, .cons (.int _) (.cons rv .nil)⟩⟩⟩
def zipD (xs ys : List D) : List D := xs.zipWith (fun x y => .tuple [x, y]) ys
/-- for x, y in zip(.., ..) -/
def diZip (t : DTA) : DTI := fun ρ μ T => t ρ μ fun as μ1 => ∃ c d xs ys, as = [c, d] ∧ itemsD c = some xs ∧ itemsD d = some ys ∧ T (zipD xs ys) μ1
theorem di_zip {e e2 : Expr} {t : DTA} {p tpos : Pos} {elts : List Expr} {kk : Nat} (hg : Gl X "zip") (hm : X.mg "zip" = none) (ha : DA X Γ [e, e2] t)
    (hs : starEach [e, e2] X.env = (false, eval e X.env) :: starEach [e2] X.env := by rfl) (hpl : (backTo pos (starEach [e2] X.env)).any (·.1) = false := by rfl) :
    DI X Γ (.Tuple elts kk tpos) (.Call (.Name "zip" p) [e, e2] [] pos) (diZip t) := ⟨⟨fun pins s σ H R I ⟨F, S, μ, ρ, T, r, q, a⟩ => by
  refine Call_ (ld_blt I hg hm PyProof.Rows.boot_zip (PyProof.Rows.callWith_type1 (thn (ha.pa.run pos pins s σ H (fun vs H1 => ∃ S1 μ1 as c d xs ys, Same S S1 ∧ WR X.K F S1 H1 μ1 ∧ RpAll X.K S1 vs as ∧ as = [c, d] ∧ itemsD c = some xs ∧ itemsD d = some ys ∧ T (zipD xs ys) μ1) I ⟨F, S, μ, ρ, _, r, q, fun as μ1 ⟨c, d, xs, ys, e0, e1, e2, q1⟩ vs S1 H1 s1 w1 p1 => ⟨S1, μ1, as, c, d, xs, ys, s1, w1, p1, e0, e1, e2, q1⟩⟩) fun us s1 hq => ?_) hs hpl))
  obtain ⟨vs, H1, I1, r1, S1, μ1, as, c, d, xs, ys, s1', w1, p1, e0, e1, e2, q1⟩ := hq
  subst e0
  cases p1 with
  | cons p1 p2 =>
    cases p2 with
    | cons p2 p3 =>
    cases p3
    cases r1 with
    | cons rr r2 =>
      cases r2 with
      | cons rr2 r3 =>
      cases r3
      obtain ⟨k, vs, hsrc, hall⟩ := src_of p1 e1
      obtain ⟨k2, vs2, hsrc2, hall2⟩ := src_of p2 e2
      obtain ⟨o, Hf, B, hB, hi0⟩ := src_begins I1 (hsrc H1 w1.sub) rr
      obtain ⟨o2, Hf2, B2, hB2, hi2⟩ := src_begins I1 (hsrc2 H1 w1.sub) rr2
      refine zip_begins2 B B2 hB hB2 fun h' hz hTI hTO h1 h2 hsz hk => wpAny_pyIter_zip hz ?_
      have I2 : Inv X pins σ H1 { s1 with heap := h' } := I1.kept (t' := s1.toks) hk
      have nn : ∀ i j : Nat, i ≠ j → s1.heap.objs.size + i ≠ s1.heap.objs.size + j := fun i j h e => h (Nat.add_left_cancel e)
      refine ⟨s1.heap.objs.size + 4, [s1.heap.objs.size + 4, s1.heap.objs.size + 2, s1.heap.objs.size + 3, s1.heap.objs.size, s1.heap.objs.size + 1], _, _, H1, rfl, I2, turn_zipS (K := X.K) (k1 := k) (k2 := k2) (vs1 := vs) (vs2 := vs2) (s1.heap.objs.size + 4) (s1.heap.objs.size + 2) (s1.heap.objs.size + 3) s1.heap.objs.size (s1.heap.objs.size + 1) rr rr2 (nn _ _ (by decide)) (nn _ _ (by decide)) (nn _ _ (by decide)) (nn _ 0 (by decide)) (nn _ _ (by decide)) (nn _ 0 (by decide)) (nn _ _ (by decide)) (nn _ 0 (by decide)) (nn _ _ (by decide)) (nn 0 _ (by decide)), ⟨hz, hTI, ⟨_, _, hTO⟩, hi0 h' _ h1, hi2 h' _ h2⟩, fun b hb => ?_, a _ μ1 q1 S1 H1 _ s1' w1 (walkD_rows ?_ (fun H e => ⟨hsrc H e, hsrc2 H e⟩) fun i d' vs' ed ⟨v1, v2, ev1, ev2, er⟩ => ?_)⟩
      · have e' : b = s1.heap.objs.size + 4 ∨ b = s1.heap.objs.size + 2 ∨ b = s1.heap.objs.size + 3 ∨ b = s1.heap.objs.size ∨ b = s1.heap.objs.size + 1 := by simpa using hb
        have hle : s1.heap.objs.size ≤ b := by
          rcases e' with z | z | z | z | z
          · rw [z]; exact Nat.le_add_right _ _
          · rw [z]; exact Nat.le_add_right _ _
          · rw [z]; exact Nat.le_add_right _ _
          · rw [z]; exact Nat.le_refl _
          · rw [z]; exact Nat.le_add_right _ _
        exact I1.fpOk hle (I1.hok.fresh hle)
      · simp [zipD, hall.length, hall2.length]
      · subst er
        obtain ⟨d1, ed1, rv1⟩ := hall.get ev1
        obtain ⟨d2, ed2, rv2⟩ := hall2.get ev2
        have e3 : (zipD xs ys)[i]? = some (.tuple [d1, d2]) := by simp [zipD, List.getElem?_zipWith, ed1, ed2]
        rw [e3] at ed; cases ed
        exact ⟨_, rfl, .cons rv1 (.cons rv2 .nil)⟩⟩⟩
end
end DL
set_option Elab.async false
set_option linter.all false
set_option maxRecDepth 100000
set_option maxHeartbeats 2000000
namespace DL
open PySem PySem.Spec PyProof.Rows L2
def wipeR (ρ : Rho) : List Nat → Rho
  | [] => ρ
  | v :: vs => (wipeR ρ vs).set v none
section
variable {K : PySem.W.Frag} {Γ : Act} {σ : L2.St} {ρ : Rho} {F S H : Hp} {μ : Mem}
theorem ER.setNone {i : Nat} (r : ER K Γ σ ρ F S H μ) : ER K Γ (σ.set i none) (ρ.set i none) F S H μ := by
  refine ⟨r.wr, r.f0, r.s0, by simp [r.len], fun j e h => ?_, fun j xs h => ?_, fun j k xs ys p h1 h2 h3 h4 => ?_⟩
  · rcases set_none h with ⟨rfl, hl, e1⟩ | ⟨hj, h⟩
    · cases e1
    · obtain ⟨u, a, b⟩ := r.at_ j e h
      exact ⟨u, by rw [List.getElem?_set_ne (Ne.symm hj)]; exact a, b⟩
  · rcases set_none h with ⟨rfl, hl, e1⟩ | ⟨hj, h⟩
    · cases e1
    · obtain ⟨u, vs, a, b⟩ := r.own j xs h
      exact ⟨u, vs, by rw [List.getElem?_set_ne (Ne.symm hj)]; exact a, b⟩
  · rcases set_none h1 with ⟨rfl, hl, e1⟩ | ⟨hj, h1⟩
    · cases e1
    · rcases set_none h2 with ⟨rfl, hl, e1⟩ | ⟨hk, h2⟩
      · cases e1
      · rw [List.getElem?_set_ne (Ne.symm hj)] at h3
        rw [List.getElem?_set_ne (Ne.symm hk)] at h4
        exact r.one j k xs ys p h1 h2 h3 h4
theorem ER.wipe (r : ER K Γ σ ρ F S H μ) : ∀ vs : List Nat, ER K Γ (L2.wipe σ vs) (wipeR ρ vs) F S H μ
  | [] => r
  | v :: vs => (ER.wipe r vs).setNone
end
theorem wipe_set_eq {σ : L2.St} {i : Nat} {x : Option V} : ∀ {vs : List Nat}, i ∈ vs → L2.wipe (σ.set i x) vs = L2.wipe σ vs
  | v :: vs, h => by
    unfold L2.wipe
    by_cases e : i ∈ vs
    · rw [wipe_set_eq e]
    · have ev : i = v := by
        rcases List.mem_cons.mp h with h | h
        · exact h
        · exact absurd h e
      subst ev
      have key : ∀ (us : List Nat), i ∉ us → L2.wipe (σ.set i x) us = (L2.wipe σ us).set i x := by
        intro us
        induction us with
        | nil => intro _; rfl
        | cons u us ih =>
          intro hu
          unfold L2.wipe
          rw [ih fun z => hu (List.mem_cons_of_mem _ z), List.set_comm _ _ (fun z => hu (by rw [z]; exact List.mem_cons_self))]
      rw [key vs e, List.set_set]
theorem wipe_wipe {σ : L2.St} : ∀ {us vs : List Nat}, (∀ i ∈ us, i ∈ vs) → L2.wipe (L2.wipe σ us) vs = L2.wipe σ vs
  | [], vs, _ => rfl
  | u :: us, vs, h => by
    show L2.wipe ((L2.wipe σ us).set u none) vs = _
    rw [wipe_set_eq (h u List.mem_cons_self), wipe_wipe fun i hi => h i (List.mem_cons_of_mem _ hi)]
def AftC (K : PySem.W.Frag) (Γ : Act) (vs : List Nat) (σ : L2.St) (F S : Hp) (R : Rho → Mem → Prop) (Q : L2.St → Hp → Prop) : Prop := ∀ ρ' μ', R ρ' μ' → ∀ σ' S' H', Same S S' → L2.wipe σ' vs = L2.wipe σ vs → ER K Γ σ' ρ' F S' H' μ' → Q σ' H'
def upC (K : PySem.W.Frag) (Γ : Act) (vs : List Nat) (g : DTG) : TG := fun v σ H Q => ∃ F S μ ρ d R, ER K Γ σ ρ F S H μ ∧ Rp K S v d ∧ g d ρ μ R ∧ AftC K Γ vs σ F S R Q
def upCs (K : PySem.W.Frag) (Γ : Act) (vs : List Nat) (g : DTGs) : TGs := fun ws σ H Q => ∃ F S μ ρ ds R, ER K Γ σ ρ F S H μ ∧ RpAll K S ws ds ∧ g ds ρ μ R ∧ AftC K Γ vs σ F S R Q
structure DC (X : Cx) (Γ : Act) (vs : List Nat) (tg : Expr) (g : DTG) : Prop where
  pg : PG X tg (upC X.K Γ vs g)
structure DCs (X : Cx) (Γ : Act) (vs : List Nat) (tgs : List Expr) (g : DTGs) : Prop where
  pgs : PGs X tgs (upCs X.K Γ vs g)
section
variable {X : Cx} {Γ : Act} {vs : List Nat} {pos : Pos}
theorem dc_name {i : Nat} {x : Str} (hN : X.N.Nodup) (hv : i ∈ vs := by decide) (hi : X.N[i]? = some x := by rfl) (hx : Loc X.env.scope x := by first | exact Or.inl rfl | exact Or.inr rfl) (hf : X.fn x = true ∨ X.env.scope.names.lookup x = some .local := by first | exact .inl rfl | exact .inr rfl | assumption) : DC X Γ vs (.Name x pos) (dgName i) :=
  ⟨PG.imp (pg_name (i := i) hN hi hx hf) fun v σ H Q ⟨F, S, μ, ρ, d, R, r, p, q, a⟩ => a _ μ q _ S H (Same.refl S) (wipe_set_eq hv) (r.set p)⟩
theorem dcs_nil : DCs X Γ vs [] dgNil := ⟨PGs.imp pgs_nil fun ws σ H Q ⟨F, S, μ, ρ, ds, R, r, p, ⟨e, q⟩, a⟩ => by
  subst e
  cases p
  exact ⟨rfl, a ρ μ q σ S H (Same.refl S) rfl r⟩⟩
theorem dcs_cons {e : Expr} {es : List Expr} {g : DTG} {gs : DTGs} (h1 : DC X Γ vs e g) (h2 : DCs X Γ vs es gs) (hs : (assignEach (e :: es) X.env).map (·.2) = assign e X.env :: (assignEach es X.env).map (·.2) := by rfl) : DCs X Γ vs (e :: es) (dgCons g gs) :=
  ⟨PGs.imp (pgs_cons h1.pg h2.pgs hs) fun ws σ H Q ⟨F, S, μ, ρ, ds, R, r, p, ⟨d, dr, e, q⟩, a⟩ => by
    subst e
    cases p with
    | cons p1 p2 => exact ⟨_, _, rfl, F, S, μ, ρ, d, _, r, p1, q, fun ρ1 μ1 q1 σ1 S1 H1 s1 e1 r1 => ⟨F, S1, μ1, ρ1, dr, R, r1, p2.mono s1, q1, fun ρ2 μ2 q2 σ2 S2 H2 s2 e2 r2 => a ρ2 μ2 q2 σ2 S2 H2 (s1.trans s2) (e2.trans e1) r2⟩⟩⟩
theorem dc_tup {es : List Expr} {k : Nat} {gs : DTGs} {n : Nat} (hc : X.calm = true) (h : DCs X Γ vs es gs) (hn : (assignEach es X.env).length = n := by rfl) (hst : (assignEach es X.env).findIdx? (·.1) = none := by rfl) : DC X Γ vs (.Tuple es k pos) (dgTup n gs) :=
  ⟨PG.imp (pg_tup hc h.pgs hn hst) fun v σ H Q ⟨F, S, μ, ρ, d, R, r, p, ⟨ds, e, hl, q⟩, a⟩ => by
    subst e
    cases p with
    | tup h1 h2 => exact ⟨_, _, rfl, same_seqT r.wr.sub h1, by rw [h2.length]; exact hl, F, S, μ, ρ, ds, R, r, h2, q, a⟩⟩
end
structure DTs (X : Cx) (Γ : Act) (ifs : List Expr) (t : DTT) : Prop where
  pts : PTs X ifs (upT X.K Γ t)
section
variable {X : Cx} {Γ : Act}
def dYes : DTT := fun _ μ Q => Q true μ
theorem dts_nil : DTs X Γ [] dYes := ⟨⟨fun pins s σ H Q I ⟨F, S, μ, ρ, R, r, q, a⟩ => pts_nil.run pins s σ H Q I (a true μ q S H (Same.refl S) r.wr)⟩⟩
theorem dts_one {c : Expr} {t : DTT} (h : DT X Γ c t) : DTs X Γ [c] t := ⟨pts_one h.pt⟩
end
def dLcL (g : DTG) (tt : DTT) (te : DTE) (ρ : Rho) : List D → List D → Mem → (List D → Mem → Prop) → Prop
  | [], acc, μ, Q => Q acc μ
  | d :: ds, acc, μ, Q => g d ρ μ fun ρ1 μ1 => tt ρ1 μ1 fun b μ2 => if b = true then te ρ1 μ2 fun y μ3 => acc.length < sizeLine ∧ dLcL g tt te ρ ds (acc ++ [y]) μ3 Q else dLcL g tt te ρ ds acc μ2 Q
def dLc (t : DTI) (g : DTG) (tt : DTT) (te : DTE) (vs : List Nat) : DTE := fun ρ μ Q => t ρ μ fun ds μ1 => dLcL g tt te (wipeR ρ vs) ds [] μ1 fun out μ2 => Q (.list out) μ2
section
variable {X : Cx} {Γ : Act}
theorem up_lc {K : PySem.W.Frag} {t : DTI} {g : DTG} {tt : DTT} {te : DTE} {vs : List Nat} : ∀ σ H Q, up K Γ (dLc t g tt te vs) σ H Q → tLc (upI K Γ t) (upC K Γ vs g) (upT K Γ tt) (up K Γ te) vs σ H Q := by
  rintro σ H Q ⟨F, S, μ, ρ, R, r, q, a⟩
  refine ⟨F, S, μ, ρ, _, r, q, fun ds μ1 q1 S1 H1 J s1 w1 wd => ?_⟩
  intro A hA
  have fA : F A = none := w1.freeF hA
  refine ⟨fun i m H' => (m = ds.length - i ∧ i ≤ ds.length) ∧ ∃ S' μ' acc accV, Same S1 S' ∧ WR K (upd F A (.lst accV)) S' H' μ' ∧ RpAll K S' accV acc ∧ dLcL g tt te (wipeR ρ vs) (ds.drop i) acc μ' fun out μ2 => R (.list out) μ2, ⟨_, ⟨rfl, Nat.zero_le _⟩, S1, μ1, [], [], Same.refl _, w1.ownNew hA _, .nil, by simpa using q1⟩, ?_⟩
  rintro i m H' ⟨⟨rfl, hle⟩, S', μ', acc, accV, s2, w2, r2, q2⟩
  obtain ⟨hstop, hgo⟩ := wd _ S' H' μ' s2 w2 i
  have sF : Same F (upd F A (.lst accV)) := fun b o e => by rw [upd_ne (ne_of_none e fA)]; exact e
  cases e : ds[i]? with
  | none =>
    have hl : ds.length ≤ i := List.getElem?_eq_none_iff.mp e
    rw [List.drop_eq_nil_of_le hl] at q2
    obtain ⟨s3, w3⟩ := w2.ownStill (p := A) (vs := accV) upd_same
    refine .inl ⟨hstop (Nat.le_antisymm hl hle), a _ μ' q2 _ _ H' (s1.trans (s2.trans s3)) (w3.lessF fun b o e' => ?_) (.lst upd_same (r2.mono s3))⟩
    unfold fdel
    rw [if_neg (ne_of_none e' fA)]
    exact sF b o e'
  | some d =>
    obtain ⟨hlt, hd⟩ := List.getElem?_eq_some_iff.mp e
    obtain ⟨h1, h2⟩ := hgo d e
    have ed : ds.drop i = d :: ds.drop (i + 1) := by rw [← hd]; exact List.drop_eq_getElem_cons hlt
    rw [ed] at q2
    refine .inr ⟨h1, fun H3 => ∃ S3 μ3 acc3 accV3, Same S1 S3 ∧ WR K (upd F A (.lst accV3)) S3 H3 μ3 ∧ RpAll K S3 accV3 acc3 ∧ dLcL g tt te (wipeR ρ vs) (ds.drop (i + 1)) acc3 μ3 fun out μ2 => R (.list out) μ2, fun H3 z => ⟨_, by omega, ⟨rfl, hlt⟩, z⟩, fun x H'' y => ?_⟩
    obtain ⟨S'', s3, w3, p3⟩ := h2 x H'' y
    have s03 : Same S S'' := s1.trans (s2.trans s3)
    have er0 : ER K Γ σ ρ (upd F A (.lst accV)) S'' H'' μ' :=
      ⟨w3, r.f0.trans sF, r.s0.trans s03, r.len, fun j d' e' => let ⟨v, b1, b2⟩ := r.at_ j d' e'; ⟨v, b1, b2.mono s03⟩,
        fun j xs e' => let ⟨p, ws, b1, b2, b3, b4⟩ := r.own j xs e'; ⟨p, ws, b1, sF _ _ b2, b3, b4.mono s03⟩, r.one⟩
    refine ⟨_, S'', μ', _, d, _, er0.wipe vs, p3, q2, fun ρ4 μ4 q4 σ4 S4 H4 s4 e4 r4 => ⟨e4.trans (wipe_wipe fun _ h => h), _, S4, μ4, ρ4, _, r4, q4, fun b μ5 q5 S5 H5 s5 w5 => ?_⟩⟩
    have s25 : Same S1 S5 := s2.trans (s3.trans (s4.trans s5))
    cases b with
    | false =>
      rw [if_neg Bool.false_ne_true] at q5
      refine iteF ?_
      exact ⟨S5, μ5, acc, accV, s25, w5, r2.mono (s3.trans (s4.trans s5)), q5⟩
    | true =>
      rw [if_pos rfl] at q5
      refine iteT ?_
      refine ⟨_, S5, μ5, ρ4, _, r4.later s5 w5, q5, fun d6 μ6 ⟨hz, q6⟩ v6 S6 H6 s6 w6 p6 => ?_⟩
      have hAcc : H6 A = some (.lst accV) := (w6.frm A _ upd_same).1
      have r6 : RpAll K S6 accV acc := r2.mono (s3.trans (s4.trans (s5.trans s6)))
      refine ⟨accV, hAcc, by rw [r6.length]; exact hz, S6, μ6, _, _, s25.trans s6, ?_, r6.append (.cons p6 .nil), q6⟩
      have w7 := w6.ownWrite (p := A) upd_same (accV ++ [v6])
      rw [upd_upd] at w7
      exact w7
variable {elt tg iter : Expr} {ifs : List Expr} {scope : Scope} {own : List (Str × Nat)} {pos spos : Pos} {t : DTI} {g : DTG} {tt : DTT} {te : DTE}
theorem de_lc (hc : X.calm = true) (hN : X.N.Nodup) (hi : DI X Γ tg iter t) (ok : blkC X.N X.env.scope scope own = true)
    (hg : ∀ (s : Shared) (H : Hp) (C : Addr) (cl : List (Str × Addr)) (fp : List Addr), DC (X.blk s H scope (compEnvC scope cl C X.env) fp) Γ (own.map (·.2)) tg g)
    (ht : ∀ (s : Shared) (H : Hp) (C : Addr) (cl : List (Str × Addr)) (fp : List Addr), DTs (X.blk s H scope (compEnvC scope cl C X.env) fp) Γ ifs tt)
    (he : ∀ (s : Shared) (H : Hp) (C : Addr) (cl : List (Str × Addr)) (fp : List Addr), DE (X.blk s H scope (compEnvC scope cl C X.env) fp) Γ elt te) (hs : ∀ x, foldedSetIterable iter X.env x = pure x := by intro _; rfl) :
    DE X Γ (.ListComp elt [⟨tg, iter, ifs, 0⟩] scope pos) (dLc t g tt te (own.map (·.2))) :=
  ⟨PE.imp (pe_lc hc hN hi.pi (blkOk_by ok) (fun s H C cl fp => (hg s H C cl fp).pg) (fun s H C cl fp => (ht s H C cl fp).pts) (fun s H C cl fp => (he s H C cl fp).pe) hs) up_lc⟩
/-- name = [..] on one line -/
theorem ds_setLc {i : Nat} {y : Str} {py : Pos} (hc : X.calm = true) (hN : X.N.Nodup) (hsw : swapsWith (.ListComp elt [⟨tg, iter, ifs, 0⟩] scope pos) (some (.Name y py)) spos.line X.env = pure true) (hi : DI X Γ tg iter t) (ok : blkC X.N X.env.scope scope own = true)
    (hg : ∀ (s : Shared) (H : Hp) (C : Addr) (cl : List (Str × Addr)) (fp : List Addr), DC (X.blk s H scope (compEnvC scope cl C X.env) fp) Γ (own.map (·.2)) tg g)
    (ht : ∀ (s : Shared) (H : Hp) (C : Addr) (cl : List (Str × Addr)) (fp : List Addr), DTs (X.blk s H scope (compEnvC scope cl C X.env) fp) Γ ifs tt)
    (he : ∀ (s : Shared) (H : Hp) (C : Addr) (cl : List (Str × Addr)) (fp : List Addr), DE (X.blk s H scope (compEnvC scope cl C X.env) fp) Γ elt te)
    (hy : X.N[i]? = some y := by rfl) (hyl : X.env.scope.names.lookup y = some .local := by rfl) (hs : ∀ x, foldedSetIterable iter X.env x = pure x := by intro _; rfl) :
    DS X Γ (.Assign [.Name y py] (.ListComp elt [⟨tg, iter, ifs, 0⟩] scope pos) spos) (dSet i (dLc t g tt te (own.map (·.2)))) :=
  ⟨PS.imp (ps_setLc hc hN hy hyl hsw hi.pi (blkOk_by ok) (fun s H C cl fp => (hg s H C cl fp).pg) (fun s H C cl fp => (ht s H C cl fp).pts) (fun s H C cl fp => (he s H C cl fp).pe) hs) fun Dn σ H ⟨F, S, μ, ρ, En, r, q, a⟩ =>
    up_lc σ H _ ⟨F, S, μ, ρ, _, r, q, fun d μ1 q1 v S1 H1 s1 w1 p1 => a.nx _ μ1 q1 _ F S1 H1 s1 ((r.later s1 w1).set p1)⟩⟩
end
end DL
set_option Elab.async false
set_option linter.all false
set_option maxRecDepth 100000
set_option maxHeartbeats 2000000
namespace DL
open PySem PySem.Spec PyProof.Rows L2
def dIx : DR2 := fun x y μ Q => match snap μ x, y with
  | .tuple xs, .int i => ∃ v, atI xs i = some v ∧ Q v μ
  | .list xs, .int i => ∃ v, atI xs i = some v ∧ Q v μ
  | .str z, .int i => z.length ≤ sizeLine ∧ ∃ c, atI z.cps.toList i = some c ∧ Q (sgn c) μ
  | _, _ => False
theorem RpAll.atI {K : PySem.W.Frag} {S : Hp} {vs : List V} {ds : List D} {i : Int} {d : D} (r : RpAll K S vs ds) (h : L2.atI ds i = some d) : ∃ v, L2.atI vs i = some v ∧ Rp K S v d := by
  unfold L2.atI at h ⊢
  rw [r.length]
  cases q : ixN ds.length i with
  | none => rw [q] at h; cases h
  | some j =>
    rw [q] at h
    exact r.get' h
theorem opd_ix {K : PySem.W.Frag} : OpD K (rIx K) dIx := fun F S H μ x y d e R Q w rx ry q a => by
  have r' := rx.mono w.sub
  unfold dIx at q
  cases rx with
  | tup h1 r1 =>
    simp only [snap] at q
    cases e with
    | int i =>
      cases ry
      obtain ⟨v, e1, q⟩ := q
      obtain ⟨u, e2, p⟩ := r1.atI e1
      exact .inr (.inl ⟨_, _, _, _, rfl, rfl, same_seqT w.sub h1, e2, a.now w q p⟩)
    | _ => exact q.elim
  | lst h1 r1 =>
    simp only [snap] at q
    cases e with
    | int i =>
      cases ry
      obtain ⟨v, e1, q⟩ := q
      obtain ⟨u, e2, p⟩ := r1.atI e1
      exact .inl ⟨_, _, _, _, rfl, rfl, SqL.of (w.sub _ _ h1), e2, a.now w q p⟩
    | _ => exact q.elim
  | str z =>
    simp only [snap] at q
    cases e with
    | int i =>
      cases ry
      obtain ⟨hz, c, e1, q⟩ := q
      exact .inr (.inr ⟨_, _, _, rfl, rfl, hz, e1, a.now w q (.str _)⟩)
    | _ => exact q.elim
  | ref b =>
    simp only [snap, dref, Int.toNat_natCast] at q
    cases em : μ b with
    | none => rw [em] at q; exact q.elim
    | some m =>
      rw [em] at q
      cases m with
      | lst xs =>
        cases e with
        | int i =>
          cases ry
          obtain ⟨v, e1, q⟩ := q
          obtain ⟨_, us, e3, r1⟩ := w.mem b _ em
          obtain ⟨u, e2, p⟩ := r1.atI e1
          exact .inl ⟨_, _, _, _, rfl, rfl, SqL.of e3, e2, a.now w q p⟩
        | _ => exact q.elim
      | _ => exact q.elim
  | _ => exact q.elim
section
variable {X : Cx} {Γ : Act} {a b : Expr} {ta tb : DTE} {pos : Pos}
theorem de_ix (ha : DE X Γ a ta) (hb : DE X Γ b tb) (hs : PlainIx b := by exact fun _ _ => rfl) : DE X Γ (.Subscript a b pos) (dBin dIx ta tb) := ⟨PE.imp (pe_ix ix_seq ha.pe hb.pe hs) (up_bin opd_ix)⟩
end
abbrev DTO := Rho → Mem → (Option Int → Mem → Prop) → Prop
def upO (K : PySem.W.Frag) (Γ : Act) (t : DTO) : TO := fun σ H Q => ∃ F S μ ρ R, ER K Γ σ ρ F S H μ ∧ t ρ μ R ∧ ∀ o μ', R o μ' → ∀ S' H', Same S S' → WR K F S' H' μ' → Q o H'
structure DO (X : Cx) (Γ : Act) (e : Option Expr) (t : DTO) : Prop where
  po : PO X e (upO X.K Γ t)
def dNoPart : DTO := fun _ μ Q => Q none μ
def dPart (t : DTE) : DTO := fun ρ μ Q => t ρ μ fun d μ1 => ∃ i, d = .int i ∧ Q (some i) μ1
theorem PO.imp {X : Cx} {e : Option Expr} {t t' : TO} (h : PO X e t) (i : ∀ σ H Q, t' σ H Q → t σ H Q) : PO X e t' := ⟨fun pins s σ H Q I q => h.run pins s σ H Q I (i σ H Q q)⟩
section
variable {X : Cx} {Γ : Act} {a : Expr} {ta : DTE} {lo hi : Option Expr} {tl th : DTO} {p2 pos : Pos}
theorem do_none : DO X Γ none dNoPart := ⟨PO.imp po_none fun σ H Q ⟨F, S, μ, ρ, R, r, q, a⟩ => a _ μ q S H (Same.refl S) r.wr⟩
theorem do_some {e : Expr} {t : DTE} (h : DE X Γ e t) : DO X Γ (some e) (dPart t) := ⟨PO.imp (po_some h.pe) fun σ H Q ⟨F, S, μ, ρ, R, r, q, a⟩ => ⟨F, S, μ, ρ, _, r, q, fun d μ1 ⟨i, e, q1⟩ v S1 H1 s1 w1 p1 => by
  subst e
  cases p1
  exact ⟨i, rfl, a _ μ1 q1 S1 H1 s1 w1⟩⟩⟩
/-- what a slice takes -/
def cutL {α : Type} (xs : List α) (lo hi : Option Int) : List α := (xs.drop (HT.sIx xs.length 0 lo)).take (HT.sIx xs.length xs.length hi - HT.sIx xs.length 0 lo)
def dCut (x : D) (lo hi : Option Int) (μ : Mem) (Q : DQ) : Prop := match x with
  | .str z => z.length ≤ sizeLine ∧ Q (.str (cutS z lo hi)) μ
  | .tuple xs => Q (.tuple (cutL xs lo hi)) μ
  | .list xs => Q (.list (cutL xs lo hi)) μ
  | .dict [(.none, .int b)] => ∃ xs, (μ b.toNat = some (.lst xs) ∨ μ b.toNat = some (.seq xs)) ∧ Q (.list (cutL xs lo hi)) μ
  | .dict [(.list xs, .none)] => Q (.list (cutL xs lo hi)) μ
  | _ => False
def dSlice (ta : DTE) (tl th : DTO) : DTE := fun ρ μ Q => ta ρ μ fun x μ1 => tl ρ μ1 fun l μ2 => th ρ μ2 fun h μ3 => dCut x l h μ3 Q
theorem cut_all {K : PySem.W.Frag} {S : Hp} {vs : List V} {ds : List D} (r : RpAll K S vs ds) (lo hi : Option Int) : RpAll K S (cutV vs lo hi) (cutL ds lo hi) := by
  unfold cutV cutL
  rw [r.length]
  exact (r.drop _).take _
theorem cut_whole {α : Type} {xs : List α} {lo hi : Option Int} (h : HT.sIx xs.length 0 lo = 0 ∧ HT.sIx xs.length xs.length hi = xs.length) : cutL xs lo hi = xs := by
  unfold cutL
  rw [h.1, h.2]
  simp
def rSlD (K : PySem.W.Frag) : V → Option Int → Option Int → Hp → VK → Prop := fun x lo hi H Q => (∃ z, x = .str z ∧ z.length ≤ sizeLine ∧ Q (.str (cutS z lo hi)) H) ∨ rSlA K x lo hi H Q ∨ rSlL K x lo hi H Q
theorem sl_all : SlR X (rSlD X.K) := (sl_str).or (sl_tupA.or sl_list)
theorem de_slice (ha : DE X Γ a ta) (hl : DO X Γ lo tl) (hh : DO X Γ hi th) : DE X Γ (.Subscript a (.Slice lo hi none p2) pos) (dSlice ta tl th) := ⟨PE.imp (pe_slice sl_all ha.pe hl.po hh.po) fun σ H Q ⟨F, S, μ, ρ, R, r, q, af⟩ =>
  ⟨F, S, μ, ρ, _, r, q, fun x μ1 q1 v S1 H1 s1 w1 p1 => ⟨F, S1, μ1, ρ, _, r.later s1 w1, q1, fun l μ2 q2 S2 H2 s2 w2 => ⟨F, S2, μ2, ρ, _, (r.later s1 w1).later s2 w2, q2, fun h μ3 q3 S3 H3 s3 w3 => by
    have p3 : Rp X.K S3 v x := p1.mono (s2.trans s3)
    have sa : Same S S3 := s1.trans (s2.trans s3)
    cases p3 with
    | str z => exact .inl ⟨z, rfl, q3.1, af _ μ3 q3.2 _ S3 H3 sa w3 (.str _)⟩
    | tup h1 r1 =>
      refine .inr (.inl ⟨_, _, rfl, same_seqT w3.sub h1, fun e => ?_, fun e p hp => ?_⟩)
      · have e' := e
        rw [r1.length] at e'
        have q4 : R (.tuple (cutL _ l h)) μ3 := q3
        rw [cut_whole e'] at q4
        exact af _ μ3 q4 _ S3 H3 sa w3 (.tup h1 r1)
      · obtain ⟨s4, w4⟩ := w3.still hp (.tup (cutV _ l h))
        exact af _ μ3 q3 _ _ _ (sa.trans s4) w4 (.tup (SqT.of upd_same) ((cut_all r1 l h).mono s4))
    | lst h1 r1 =>
      refine .inr (.inr ⟨_, _, rfl, SqL.of (w3.sub _ _ h1), fun p hp => ?_⟩)
      obtain ⟨s4, w4⟩ := w3.still hp (.lst (cutV _ l h))
      exact af _ μ3 q3 _ _ _ (sa.trans s4) w4 (.lst upd_same ((cut_all r1 l h).mono s4))
    | scr h1 r1 =>
      refine .inr (.inr ⟨_, _, rfl, same_seqL w3.sub h1, fun p hp => ?_⟩)
      obtain ⟨s4, w4⟩ := w3.still hp (.lst (cutV _ l h))
      exact af _ μ3 q3 _ _ _ (sa.trans s4) w4 (.lst upd_same ((cut_all r1 l h).mono s4))
    | ref b =>
      simp only [dCut, dref, Int.toNat_natCast] at q3
      obtain ⟨xs, em, q3⟩ := q3
      have key : ∃ vs, SqL X.K H3 b vs ∧ RpAll X.K S3 vs xs := by
        rcases em with em | em
        · obtain ⟨_, us, e3, r1⟩ := w3.mem b _ em
          exact ⟨us, SqL.of e3, r1⟩
        · obtain ⟨_, o, us, e3, r1⟩ := w3.mem b _ em
          exact ⟨us, .inl (.inr ⟨o, e3⟩), r1⟩
      obtain ⟨us, e3, r1⟩ := key
      refine .inr (.inr ⟨_, _, rfl, e3, fun p hp => ?_⟩)
      obtain ⟨s4, w4⟩ := w3.still hp (.lst (cutV us l h))
      exact af _ μ3 q3 _ _ _ (sa.trans s4) w4 (.lst upd_same ((cut_all r1 l h).mono s4))
    | _ => exact q3.elim⟩⟩⟩⟩
end
abbrev DRC := List D → Mem → DQ → Prop
def CallD (K : PySem.W.Frag) (r : List V → Hp → VK → Prop) (rd : DRC) : Prop :=
  ∀ (F S H : Hp) (μ : Mem) (xs : List V) (ds : List D) (R : DQ) (Q : VK), WR K F S H μ → RpAll K S xs ds → rd ds μ R → Aft K F S R Q → r xs H Q
def dCB (rd : DRC) (t : DTA) : DTE := fun ρ μ Q => t ρ μ fun ds μ1 => rd ds μ1 Q
theorem up_cb {K : PySem.W.Frag} {Γ : Act} {r : List V → Hp → VK → Prop} {rd : DRC} {t : DTA} (o : CallD K r rd) : ∀ σ H Q, up K Γ (dCB rd t) σ H Q → tCB r (upA K Γ t) σ H Q := fun σ H Q ⟨F, S, μ, ρ, R, r0, q, a⟩ =>
  ⟨F, S, μ, ρ, _, r0, q, fun ds μ1 q1 vs S1 H1 s1 w1 p1 => o F S1 H1 μ1 vs ds R Q w1 p1 q1 (a.from s1)⟩
section
variable {X : Cx} {Γ : Act} {x : Str} {p pos : Pos} {e : Expr} {es : List Expr} {t : DTA} {id T : String} {r : List V → Hp → VK → Prop} {rd : DRC}
theorem de_callB (hc : CallR X (.builtin id) r) (o : CallD X.K r rd) (hg : Gl X x) (hm : X.mg x = none) (hv : bootBuiltins x = some (.builtin id)) (ha : DA X Γ (e :: es) t) (hn : x ≠ "__name__" := by decide) (hdb : (x == ("__debug__" : Str)) = false := by decide)
    (he : starEach (e :: es) X.env = (false, eval e X.env) :: starEach es X.env := by rfl) (hpl : (backTo pos (starEach es X.env)).any (·.1) = false := by rfl) : DE X Γ (.Call (.Name x p) (e :: es) [] pos) (dCB rd t) :=
  ⟨PE.imp (pe_callB hc hg hm hv ha.pa hn hdb he hpl) (up_cb o)⟩
theorem de_callTy (hc : CallR X (.type T) r) (o : CallD X.K r rd) (hg : Gl X x) (hm : X.mg x = none) (hv : bootBuiltins x = some (.type T)) (ha : DA X Γ (e :: es) t) (hn : x ≠ "__name__" := by decide) (hdb : (x == ("__debug__" : Str)) = false := by decide)
    (he : starEach (e :: es) X.env = (false, eval e X.env) :: starEach es X.env := by rfl) (hpl : (backTo pos (starEach es X.env)).any (·.1) = false := by rfl) : DE X Γ (.Call (.Name x p) (e :: es) [] pos) (dCB rd t) :=
  ⟨PE.imp (pe_callTy hc hg hm hv ha.pa hn hdb he hpl) (up_cb o)⟩
theorem de_type (hg : Gl X x) (hm : X.mg x = none) {n : String} (hv : bootBuiltins x = some (.type n)) (hn : x ≠ "__name__" := by decide) (hd : (x == ("__debug__" : Str)) = false := by decide) : DE X Γ (.Name x pos) (dC (dty n)) :=
  de_of_const (pe_bltn (v := .ty n) hg hm hv rfl hn hd) fun _ => .ty n
def lenD : D → Option Nat
  | .str z => if z.length ≤ sizeLine then some z.length else none
  | .tuple xs => some xs.length
  | .list xs => some xs.length
  | _ => none
def dLen : DRC := fun ds μ Q => ∃ d n, ds = [d] ∧ lenD (snap μ d) = some n ∧ Q (.int n) μ
theorem calld_len {K : PySem.W.Frag} : CallD K (fun xs H Q => ∃ x n, xs = [x] ∧ LenV K x H n ∧ Q (.int n) H) dLen := fun F S H μ xs ds R Q w r ⟨d, n, e, e2, q⟩ a => by
  subst e
  cases r with
  | cons r1 r2 =>
    cases r2
    refine ⟨_, n, rfl, ?_, a.now w q (.int _)⟩
    have r3 := r1.snap w
    generalize snap μ d = d' at e2 r3
    cases r3 with
    | str z =>
      simp only [lenD] at e2
      split at e2
      · rename_i h; cases e2; exact ⟨h, rfl⟩
      · cases e2
    | tup h1 q1 => cases e2; exact .inr ⟨_, h1, q1.length.symm⟩
    | lst h1 q1 => cases e2; exact .inl ⟨_, SqL.of h1, q1.length.symm⟩
    | _ => cases e2
def tyD : D → String
  | .none => "NoneType"
  | .bool _ => "bool"
  | .int _ => "int"
  | .str _ => "str"
  | .tuple _ => "tuple"
  | .list _ => "list"
  | .dict _ => "dict"
theorem tyx_of {K : PySem.W.Frag} {H : Hp} {v : V} {d : D} (r : Rp K H v d) (h : ∀ kvs, d ≠ .dict kvs) : TyX K H v (.type (tyD d)) := by
  cases r with
  | non => exact .base .non
  | bl b => exact .base (.bl b)
  | int i => exact .base (.int i)
  | str z => exact .base (.str z)
  | tup h1 _ =>
    rcases h1 with (h1 | ⟨o, h1⟩) | ⟨o, its, n, h1, h2, _⟩
    · exact .base (.tup h1)
    · exact .fTuple h1
    · exact .kTuple h1 h2
  | lst h1 _ => exact .base (.lst h1)
  | ref a => exact absurd rfl (h _)
  | ty n => exact absurd rfl (h _)
  | scr _ _ => exact absurd rfl (h _)
def dIsi : DRC := fun ds μ Q => ∃ d n b, ds = [d, dty n] ∧ (∀ kvs, snap μ d ≠ .dict kvs) ∧ kitB (tyD (snap μ d)) n = some b ∧ Q (.bool b) μ
theorem rp_ty {K : PySem.W.Frag} {S : Hp} {v : V} {n : String} (r : Rp K S v (dty n)) : v = .ty n := by
  generalize e : dty n = d at r
  cases r with
  | ty m => rw [dty_inj e]
  | ref a => exact absurd e.symm dref_ne_dty
  | _ => cases e
/-- isinstance(x, T), isinstance(x, (T, ..)) -/
theorem calld_isi {K : PySem.W.Frag} : CallD K (rIsi K) dIsi := fun F S H μ xs ds R Q w r ⟨d, n, b, e, nd, kb, q⟩ a => by
  subst e
  cases r with
  | cons r1 r2 =>
    cases r2 with
    | cons r2 r3 =>
      cases r3
      have e2 := rp_ty r2
      subst e2
      exact ⟨_, _, _, _, b, rfl, .ty n, tyx_of (r1.snap w) nd, kit_ty kb, a.now w q (.bl b)⟩
def kitAnyB (a : String) : List String → Option Bool
  | [] => some false
  | n :: ns => match kitB a n with
    | some true => some true
    | some false => kitAnyB a ns
    | none => none
theorem kitAny_of {K : PySem.W.Frag} {a : String} : ∀ {ns : List String} {b : Bool}, kitAnyB a ns = some b → PySem.W.kitAny K (.type a) (ns.map Value.type) = some b
  | [], b, h => by cases h; exact kitAny_nil
  | n :: ns, b, h => by
    unfold kitAnyB at h
    cases e : kitB a n with
    | none => rw [e] at h; cases h
    | some c =>
      rw [e] at h
      cases c with
      | true => cases h; exact kitAny_cons (kit_ty e) (fun z => nomatch z) fun _ => rfl
      | false => exact kitAny_cons (kit_ty e) (fun _ => kitAny_of h) fun z => nomatch z
theorem rp_tys {K : PySem.W.Frag} {S : Hp} : ∀ {vs : List V} {ns : List String}, RpAll K S vs (ns.map dty) → vs = ns.map V.ty
  | _, [], .nil => rfl
  | _, n :: ns, .cons h t => by rw [rp_ty h, rp_tys t]; rfl
theorem clsV_tys : ∀ ns : List String, Paired ClsV (ns.map V.ty) (ns.map Value.type)
  | [] => .nil
  | n :: ns => .cons (.ty n) (clsV_tys ns)
def dIsiT (ns : List String) (te : DTE) : DTE := fun ρ μ Q => te ρ μ fun d μ1 => ∃ b, (∀ kvs, snap μ1 d ≠ .dict kvs) ∧ kitAnyB (tyD (snap μ1 d)) ns = some b ∧ Q (.bool b) μ1
theorem de_isiT2 {te : DTE} {x1 x2 : Str} {n1 n2 : String} {p1 p2 pt pos : Pos} {kt : Nat} (hc : X.calm = true) (hg : Gl X "isinstance") (hm : X.mg "isinstance" = none) (he : DE X Γ e te)
    (g1 : Gl X x1) (m1 : X.mg x1 = none) (v1 : bootBuiltins x1 = some (.type n1)) (g2 : Gl X x2) (m2 : X.mg x2 = none) (v2 : bootBuiltins x2 = some (.type n2))
    (h1 : x1 ≠ "__name__" := by decide) (d1 : (x1 == ("__debug__" : Str)) = false := by decide) (h2 : x2 ≠ "__name__" := by decide) (d2 : (x2 == ("__debug__" : Str)) = false := by decide)
    (hs : starEach [e, .Tuple [.Name x1 p1, .Name x2 p2] kt pt] X.env = (false, eval e X.env) :: starEach [.Tuple [.Name x1 p1, .Name x2 p2] kt pt] X.env := by rfl)
    (hpl : (backTo pos (starEach [.Tuple [.Name x1 p1, .Name x2 p2] kt pt] X.env)).any (·.1) = false := by rfl) :
    DE X Γ (.Call (.Name "isinstance" p) [e, .Tuple [.Name x1 p1, .Name x2 p2] kt pt] [] pos) (dIsiT [n1, n2] te) := by
  have T1 : PE X (.Name x1 p1) (tC (.ty n1)) := pe_bltn g1 m1 v1 rfl h1 d1
  have T2 : PE X (.Name x2 p2) (tC (.ty n2)) := pe_bltn g2 m2 v2 rfl h2 d2
  refine ⟨PE.imp (pe_callB call_isiT hg hm (by decide +kernel) (pa_cons he.pe (pa_cons (pe_tup (pa_cons T1 (pa_cons T2 pa_nil))) pa_nil) hs) (by decide) (by decide) hs hpl) fun σ H Q ⟨F, S, μ, ρ, R, r, q, a⟩ => ?_⟩
  refine ⟨F, S, μ, ρ, _, r, q, fun d μ1 ⟨b, nd, kb, q1⟩ v S1 H1 s1 w1 r1 => ⟨by show 2 ≤ sizeLine; decide, fun pp hp => ?_⟩⟩
  obtain ⟨s2, w2⟩ := w1.still hp (.tup [V.ty n1, V.ty n2])
  exact ⟨_, _, _, _, _, b, rfl, upd_same, clsV_tys [n1, n2], tyx_of (((r1.snap w1).mono fun c o e => by rw [upd_ne (ne_of_none e hp)]; exact e)) nd, kitAny_of kb, a _ μ1 q1 _ _ _ (s1.trans s2) w2 (.bl b)⟩
def boolsD : List D → Option (List Bool)
  | [] => some []
  | .bool b :: ds => (boolsD ds).map (b :: ·)
  | _ => none
theorem boolsD_map (bs : List Bool) : boolsD (bs.map PyData.bool) = some bs := by
  induction bs with
  | nil => rfl
  | cons b bs ih => simp [boolsD, ih]
theorem bools_of {K : PySem.W.Frag} {S : Hp} : ∀ {vs : List V} {ds : List D} {bs : List Bool}, RpAll K S vs ds → boolsD ds = some bs → vs = bs.map V.bl
  | _, [], bs, r, h => by cases h; cases r; rfl
  | _, d :: ds, bs, r, h => by
    cases r with
    | cons r1 r2 =>
      cases d with
      | bool b =>
        simp only [boolsD] at h
        cases e : boolsD ds with
        | none => rw [e] at h; cases h
        | some cs =>
          rw [e] at h; cases h
          cases r1
          rw [bools_of r2 e]; rfl
      | _ => cases h
def dAll : DRC := fun ds μ Q => ∃ xs bs, ds = [.list xs] ∧ boolsD xs = some bs ∧ Q (.bool (bs.all _root_.id)) μ
def dAny : DRC := fun ds μ Q => ∃ xs bs, ds = [.list xs] ∧ boolsD xs = some bs ∧ Q (.bool (bs.any _root_.id)) μ
theorem calld_all {K : PySem.W.Frag} : CallD K (rAll K) dAll := fun F S H μ xs ds R Q w r ⟨ys, bs, e, eb, q⟩ a => by
  subst e
  cases r with
  | cons r1 r2 =>
    cases r2
    cases r1 with
    | lst h1 q1 =>
      have e1 := bools_of q1 eb
      subst e1
      exact ⟨_, bs, rfl, SqL.of (w.sub _ _ h1), a.now w q (.bl _)⟩
theorem calld_any {K : PySem.W.Frag} : CallD K (rAny K) dAny := fun F S H μ xs ds R Q w r ⟨ys, bs, e, eb, q⟩ a => by
  subst e
  cases r with
  | cons r1 r2 =>
    cases r2
    cases r1 with
    | lst h1 q1 =>
      have e1 := bools_of q1 eb
      subst e1
      exact ⟨_, bs, rfl, SqL.of (w.sub _ _ h1), a.now w q (.bl _)⟩
def dTupOf : DRC := fun ds μ Q => ∃ d xs, ds = [d] ∧ (snap μ d = .list xs ∨ d = .tuple xs) ∧ Q (.tuple xs) μ
def dListOf : DRC := fun ds μ Q => ∃ d xs, ds = [d] ∧ (snap μ d = .list xs ∨ d = .tuple xs) ∧ Q (.list xs) μ
/-- a list that is read: its items lie in S -/
theorem list_in {K : PySem.W.Frag} {F S H : Hp} {μ : Mem} {v : V} {d : D} {xs : List D} (w : WR K F S H μ) (r : Rp K S v d) (h : snap μ d = .list xs) : ∃ p vs, v = .ref p ∧ H p = some (.lst vs) ∧ RpAll K S vs xs := by
  cases r with
  | lst h1 q1 => cases h; exact ⟨_, _, rfl, w.sub _ _ h1, q1⟩
  | ref b =>
    simp only [snap, dref, Int.toNat_natCast] at h
    cases em : μ b with
    | none => rw [em] at h; cases h
    | some m =>
      rw [em] at h
      cases m with
      | lst ys =>
        cases h
        obtain ⟨_, us, e3, r1⟩ := w.mem b _ em
        exact ⟨_, us, rfl, e3, r1⟩
      | _ => cases h
  | _ => cases h
theorem calld_tupOf {K : PySem.W.Frag} : CallD K (fun xs H Q => ∃ p ys, xs = [.ref p] ∧ ((SqL K H p ys ∧ ∀ l, H l = none → Q (.ref l) (upd H l (.tup ys))) ∨ (SqT K H p ys ∧ Q (.ref p) H))) dTupOf := fun F S H μ xs ds R Q w r ⟨d, ys, e, k, q⟩ a => by
  subst e
  cases r with
  | cons r1 r2 =>
    cases r2
    rcases k with k | k
    · obtain ⟨p, vs, ev, h1, q1⟩ := list_in w r1 k
      subst ev
      refine ⟨p, vs, rfl, .inl ⟨SqL.of h1, fun l hl => ?_⟩⟩
      obtain ⟨s2, w2⟩ := w.still hl (.tup vs)
      exact a _ μ q _ _ _ s2 w2 (.tup (SqT.of upd_same) (q1.mono s2))
    · subst k
      cases r1 with
      | tup h1 q1 => exact ⟨_, _, rfl, .inr ⟨same_seqT w.sub h1, a.now w q (.tup h1 q1)⟩⟩
theorem calld_listOf {K : PySem.W.Frag} : CallD K (fun xs H Q => ∃ p ys, xs = [.ref p] ∧ (SqL K H p ys ∨ SqT K H p ys) ∧ ∀ l, H l = none → Q (.ref l) (upd H l (.lst ys))) dListOf := fun F S H μ xs ds R Q w r ⟨d, ys, e, k, q⟩ a => by
  subst e
  cases r with
  | cons r1 r2 =>
    cases r2
    rcases k with k | k
    · obtain ⟨p, vs, ev, h1, q1⟩ := list_in w r1 k
      subst ev
      refine ⟨p, vs, rfl, .inl (SqL.of h1), fun l hl => ?_⟩
      obtain ⟨s2, w2⟩ := w.still hl (.lst vs)
      exact a _ μ q _ _ _ s2 w2 (.lst upd_same (q1.mono s2))
    · subst k
      cases r1 with
      | tup h1 q1 =>
        refine ⟨_, _, rfl, .inr (same_seqT w.sub h1), fun l hl => ?_⟩
        obtain ⟨s2, w2⟩ := w.still hl (.lst _)
        exact a _ μ q _ _ _ s2 w2 (.lst upd_same (q1.mono s2))
def dInt1 : DRC := fun ds μ Q => (∃ i, ds = [.int i] ∧ Q (.int i) μ) ∨ ∃ k, ds = [.bool k] ∧ Q (.int (if k then 1 else 0)) μ
theorem calld_int1 {K : PySem.W.Frag} : CallD K (fun xs H Q => (∃ i, xs = [.int i] ∧ Q (.int i) H) ∨ ∃ k, xs = [.bl k] ∧ Q (.int (if k then 1 else 0)) H) dInt1 := fun F S H μ xs ds R Q w r q a => by
  rcases q with ⟨i, e, q⟩ | ⟨i, e, q⟩
  · subst e
    cases r with
    | cons r1 r2 => cases r2; cases r1; exact .inl ⟨_, rfl, a.now w q (.int _)⟩
  · subst e
    cases r with
    | cons r1 r2 => cases r2; cases r1; exact .inr ⟨_, rfl, a.now w q (.int _)⟩
def dAbs : DRC := fun ds μ Q => ∃ i, ds = [.int i] ∧ Q (.int (if i < 0 then -i else i)) μ
theorem calld_abs {K : PySem.W.Frag} : CallD K (fun xs H Q => ∃ i, xs = [.int i] ∧ Q (.int (if i < 0 then -i else i)) H) dAbs := fun F S H μ xs ds R Q w r ⟨i, e, q⟩ a => by
  subst e
  cases r with
  | cons r1 r2 => cases r2; cases r1; exact ⟨_, rfl, a.now w q (.int _)⟩
def d2I (g : Int → Int → Int) : DRC := fun ds μ Q => ∃ i j, ds = [.int i, .int j] ∧ Q (.int (g i j)) μ
theorem calld_2I {K : PySem.W.Frag} {g : Int → Int → Int} : CallD K (fun xs H Q => ∃ i j, xs = [.int i, .int j] ∧ Q (.int (g i j)) H) (d2I g) := fun F S H μ xs ds R Q w r ⟨i, j, e, q⟩ a => by
  subst e
  cases r with
  | cons r1 r2 => cases r2 with
    | cons r2 r3 => cases r3; cases r1; cases r2; exact ⟨_, _, rfl, a.now w q (.int _)⟩
end
section
variable {X : Cx} {Γ : Act} {e : Expr} {es : List Expr} {te : DTE} {t : DTA} {p pos : Pos}
/-- *e: e a list or a tuple, or a text -/
def dStar (te : DTE) (t : DTA) : DTA := fun ρ μ Q => te ρ μ fun d μ1 => ∃ xs, (d = .list xs ∨ d = .tuple xs) ∧ t ρ μ1 fun ys μ2 => Q (xs ++ ys) μ2
theorem da_star (he : DE X Γ e te) (hr : DA X Γ es t) (hs : starEach (.Starred e p :: es) X.env = (true, eval e X.env) :: starEach es X.env := by rfl) : DA X Γ (.Starred e p :: es) (dStar te t) := ⟨PA.imp (StX.pa_star he.pe hr.pa hs) fun σ H Q ⟨F, S, μ, ρ, R, r, q, a⟩ =>
  ⟨F, S, μ, ρ, _, r, q, fun d μ1 ⟨xs, k, q1⟩ v S1 H1 s1 w1 r1 => by
    rcases k with k | k
    · subst k
      cases r1 with
      | lst h1 p1 => exact ⟨_, _, rfl, .inr (SqL.of (w1.sub _ _ h1)), F, S1, μ1, ρ, _, r.later s1 w1, q1, fun ys μ2 q2 vs S2 H2 s2 w2 p2 => a _ μ2 q2 _ S2 H2 (s1.trans s2) w2 ((p1.mono s2).append p2)⟩
    · subst k
      cases r1 with
      | tup h1 p1 => exact ⟨_, _, rfl, .inl (same_seqT w1.sub h1), F, S1, μ1, ρ, _, r.later s1 w1, q1, fun ys μ2 q2 vs S2 H2 s2 w2 p2 => a _ μ2 q2 _ S2 H2 (s1.trans s2) w2 ((p1.mono s2).append p2)⟩⟩⟩
end
end DL
set_option Elab.async false
set_option linter.all false
set_option maxRecDepth 100000
set_option maxHeartbeats 2000000
namespace DL
open PySem PySem.Spec PyProof.Rows L2
abbrev DRM := D → List D → Mem → DQ → Prop
def MtD (K : PySem.W.Frag) (r : V → List V → Hp → VK → Prop) (rd : DRM) : Prop :=
  ∀ (F S H : Hp) (μ : Mem) (x : V) (xs : List V) (d : D) (ds : List D) (R : DQ) (Q : VK), WR K F S H μ → Rp K S x d → RpAll K S xs ds → rd d ds μ R → Aft K F S R Q → r x xs H Q
/-- data of a built-in type -/
def tyM (T : String) (d : D) (μ : Mem) : Prop := match snap μ d with
  | .str _ => T = "str"
  | .int _ => T = "int"
  | .list _ => T = "list"
  | _ => False
theorem tyM_tyV {K : PySem.W.Frag} {F S H : Hp} {μ : Mem} {T : String} {v : V} {d : D} (w : WR K F S H μ) (r : Rp K S v d) (h : tyM T d μ) : tyV K T v H := by
  have r' := r.snap w
  unfold tyM at h
  generalize snap μ d = d' at h r'
  cases r' with
  | int i => exact h
  | str x => exact h
  | lst e q => exact .inl ⟨h, _, SqL.of e⟩
  | _ => exact h.elim
def dBM (T : String) (rd : DRM) (to : DTE) (t : DTA) : DTE := fun ρ μ Q => to ρ μ fun x μ1 => tyM T x μ1 ∧ t ρ μ1 fun xs μ2 => rd x xs μ2 Q
def dBM0 (T : String) (rd : DRM) (to : DTE) : DTE := fun ρ μ Q => to ρ μ fun x μ1 => tyM T x μ1 ∧ rd x [] μ1 Q
section
variable {X : Cx} {Γ : Act} {o e : Expr} {es : List Expr} {to : DTE} {t : DTA} {name : Str} {apos cpos : Pos} {T id : String} {r : V → List V → Hp → VK → Prop} {rd : DRM}
theorem de_bm0 (pa : PlainAttrs T) (slot : Slot T name id) (hty : typeOf (.builtin id) = pure (.type "method_descriptor")) (hm : MtR X id r) (hd : MtD X.K r rd) (ho : DE X Γ o to)
    (hbase : attributeBase o name X.env (eval o X.env) = eval o X.env := by rfl) (hline : (apos.endLine == cpos.line) = true := by rfl) : DE X Γ (.Call (.Attribute o name apos) [] [] cpos) (dBM0 T rd to) :=
  ⟨PE.imp (pe_bm0 pa slot hty hm ho.pe hbase hline) fun σ H Q ⟨F, S, μ, ρ, R, r0, q, a⟩ => ⟨F, S, μ, ρ, _, r0, q, fun d μ1 ⟨ty, q1⟩ v S1 H1 s1 w1 p1 => ⟨tyM_tyV w1 p1 ty, hd F S1 H1 μ1 v [] d [] R Q w1 p1 .nil q1 (a.from s1)⟩⟩⟩
theorem de_bm (pa : PlainAttrs T) (slot : Slot T name id) (hty : typeOf (.builtin id) = pure (.type "method_descriptor")) (hm : MtR X id r) (hd : MtD X.K r rd) (ho : DE X Γ o to) (ha : DA X Γ (e :: es) t)
    (hbase : attributeBase o name X.env (eval o X.env) = eval o X.env := by rfl)
    (hfew : ((backTo cpos (starEach (e :: es) X.env)).all (fun x => !x.1) && (backToKw cpos (keywordEach [] X.env)).all (fun x => x.1.isSome)
      && decide ((e :: es).length + ([] : List Keyword).length + (if ([] : List Keyword).isEmpty then 0 else 1) < 30)) = true := by rfl)
    (hline : (apos.endLine == cpos.line) = true := by rfl) (hs : starEach (e :: es) X.env = (false, eval e X.env) :: starEach es X.env := by rfl) (hplain : (backTo cpos (starEach es X.env)).any (·.1) = false := by rfl) :
    DE X Γ (.Call (.Attribute o name apos) (e :: es) [] cpos) (dBM T rd to t) :=
  ⟨PE.imp (pe_bm pa slot hty hm ho.pe ha.pa hbase hfew hline hs hplain) fun σ H Q ⟨F, S, μ, ρ, R, r0, q, a⟩ => ⟨F, S, μ, ρ, _, r0, q, fun d μ1 ⟨ty, q1⟩ v S1 H1 s1 w1 p1 =>
    ⟨tyM_tyV w1 p1 ty, F, S1, μ1, ρ, _, r0.later s1 w1, q1, fun ds μ2 q2 vs S2 H2 s2 w2 p2 => hd F S2 H2 μ2 v vs d ds R Q w2 (p1.mono s2) p2 q2 (a.from (s1.trans s2))⟩⟩⟩
end
section
variable {K : PySem.W.Frag}
theorem rpall1 {S : Hp} {xs : List V} {d : D} (r : RpAll K S xs [d]) : ∃ x, xs = [x] ∧ Rp K S x d := by
  cases r with
  | cons r1 r2 => cases r2; exact ⟨_, rfl, r1⟩
theorem rpall2 {S : Hp} {xs : List V} {d e : D} (r : RpAll K S xs [d, e]) : ∃ x y, xs = [x, y] ∧ Rp K S x d ∧ Rp K S y e := by
  cases r with
  | cons r1 r2 =>
    obtain ⟨y, e, q⟩ := rpall1 r2
    subst e
    exact ⟨_, _, rfl, r1, q⟩
theorem rp_ref {S : Hp} {v : V} {a : Addr} (r : Rp K S v (dref a)) : v = .ref a := by
  generalize e : dref a = d at r
  cases r with
  | ref b => rw [dref_inj e]
  | ty n => exact (dref_ne_dty e).elim
  | _ => cases e
/-- a changing list is written -/
theorem Aft.wrote {F S H : Hp} {μ : Mem} {R : DQ} {Q : VK} {a : Addr} {xs ys : List D} {vs : List V} {v : V} {d : D} (af : Aft K F S R Q) (w : WR K F S H μ) (h : μ a = some (.lst xs)) (r : RpAll K S vs ys) (q : R d (mset μ a (.lst ys))) (p : Rp K S v d) :
    Q v (upd H a (.lst vs)) := af d _ q v S _ (Same.refl S) (w.write h (.lst vs) (.lst ys) ⟨vs, upd_same, r⟩) p
def dAppend : DRM := fun x vs μ Q => ∃ a xs y, x = dref a ∧ vs = [y] ∧ μ a = some (.lst xs) ∧ xs.length < sizeLine ∧ Q .none (mset μ a (.lst (xs ++ [y])))
theorem mtd_append : MtD K rAppend dAppend := fun F S H μ x xs d ds R Q w rx rxs ⟨a, zs, y, e1, e2, em, hz, q⟩ af => by
  subst e1; subst e2
  obtain ⟨v, rfl, rv⟩ := rpall1 rxs
  obtain rfl := rp_ref rx
  obtain ⟨_, vs, e, r⟩ := w.mem a _ em
  exact ⟨a, vs, v, rfl, rfl, e, by rw [r.length]; exact hz, af.wrote w em (r.append (.cons rv .nil)) q .non⟩
/-- extend by a list or a tuple -/
def rExtendT (K : PySem.W.Frag) : V → List V → Hp → VK → Prop := fun x vs H Q => ∃ l b xs zs, x = .ref l ∧ vs = [.ref b] ∧ H l = some (.lst xs) ∧ SqT K H b zs ∧ xs.length + zs.length ≤ sizeLine ∧ Q .non (upd H l (.lst (xs ++ zs)))
theorem ext_tup (l : Addr) (its : Array Value) (n : Nat) (b : Addr) (more : Array Value) (m : Nat) (dd : Option Addr) (sl : Array (Option Value)) (h0 : ¬(!its.isEmpty && Builtin.List.listTooLong (its.size + more.size)) = true) (h1 : its.size ≤ sizeLine) (h2 : its.size + more.size ≤ sizeLine + 1) :
    Meets (Builtin.«list.extend» ⟨[.ref l, .ref b], []⟩) (fun _ R s => s.heap.get? l = some { cls := .type "list", dict := none, data := .seq its n, slots := #[] } ∧ s.heap.get? b = some { cls := .type "tuple", dict := dd, data := .seq more m, slots := sl } ∧
      R (.ok (.ret Value.none)) { s with heap := s.heap.update l (Obj.mapSeq fun x => x ++ more), toks := s.toks }) :=
  .of_wp fun prog w A R s h => by
    obtain ⟨hp, g, d, tk, os⟩ := s
    obtain ⟨hl, hb, h⟩ := h
    have f1 := PySem.AutoSeq1.idx_int
    have f2 := PySem.AutoSeq1.sub_tuple_tuple
    have f3 := PySem.AutoSeq1.sub_list_list
    have f4 := PySem.AutoSeq1.sub_tuple_list
    have f5 := PySem.AutoSeq1.sub_list_tuple
    have hz' : (its ++ more).size ≤ sizeLine + 1 := by rw [Array.size_append]; exact h2
    wp_walk using (PySem.wpAny_updateSeq hl rfl (hz := h1) (_hz' := hz')), PySem.AutoSeq1.wpAny_loadPart' hl, PySem.AutoSeq1.wpAny_loadPart' hb
    exact ⟨_, rfl, h⟩
theorem mt_extendT {X : Cx} : MtR X "list.extend" (rExtendT X.K) := by
  intro pins s σ H x vs v us Q I rx rv h
  obtain ⟨l, b, xs, zs, rfl, rfl, hH, hB, hz, q⟩ := h
  cases rx
  obtain ⟨u, rfl, ru⟩ := rv.one
  cases ru
  obtain ⟨z, its, n, r, hl, e⟩ := I.lstM hH
  obtain ⟨its2, r2, p2, hz2⟩ := I.tuple hB
  have hl2 := r2.length
  have hsz : its.toArray.size + its2.toArray.size ≤ sizeLine := by rw [List.size_toArray, List.size_toArray]; omega
  have hlong : ¬ (!its.toArray.isEmpty && Builtin.List.listTooLong (its.toArray.size + its2.toArray.size)) = true := by
    rw [notLongL hsz, Bool.and_false]
    exact Bool.false_ne_true
  obtain ⟨⟨oc, od, odata, osl⟩, e2, ecls, n2, e3⟩ := p2
  dsimp only at ecls e3
  subst ecls
  subst e3
  refine call_meets PySem.F.slot_list_extend ⟨_, e, rfl⟩ PySem.F.entry_list_extend (PySem.F.args_list_extend_2 _ _) (ext_tup l its.toArray n b its2.toArray n2 od osl hlong (by rw [List.size_toArray]; omega) (by omega)) ⟨e, e2, ?_⟩
  refine ⟨.non, _, I.lset (its' := its ++ its2) hH e (by simp) (r.append r2) ?_, rfl, q⟩
  rw [List.length_append]
  omega
def dExtend : DRM := fun x vs μ Q => ∃ a xs ys, x = dref a ∧ μ a = some (.lst xs) ∧ ((vs = [.tuple ys] ∧ True) ∨ ∃ d, vs = [d] ∧ snap μ d = .list ys) ∧ xs.length + ys.length ≤ sizeLine ∧ Q .none (mset μ a (.lst (xs ++ ys)))
theorem mt_extendA {X : Cx} : MtR X "list.extend" (fun x vs H Q => rExtendT X.K x vs H Q ∨ rExtend x vs H Q) := MtR.or mt_extendT mt_extend
theorem mtd_extend : MtD K (fun x vs H Q => rExtendT K x vs H Q ∨ rExtend x vs H Q) dExtend := fun F S H μ x xs d ds R Q w rx rxs ⟨a, zs, ys, e1, em, k, hz, q⟩ af => by
  subst e1
  obtain rfl := rp_ref rx
  obtain ⟨_, vs, e, r⟩ := w.mem a _ em
  rcases k with ⟨k, _⟩ | ⟨d, k, k2⟩
  · subst k
    obtain ⟨v, rfl, rv⟩ := rpall1 rxs
    cases rv with
    | tup h1 r1 => exact .inl ⟨a, _, vs, _, rfl, rfl, e, same_seqT w.sub h1, by rw [r.length, r1.length]; exact hz, af.wrote w em (r.append r1) q .non⟩
  · subst k
    obtain ⟨v, rfl, rv⟩ := rpall1 rxs
    obtain ⟨p, us, ev, e2, r2⟩ := list_in w rv k2
    subst ev
    exact .inr ⟨a, p, vs, us, rfl, rfl, e, e2, by rw [r.length, r2.length]; exact hz, af.wrote w em (r.append r2) q .non⟩
def dPop : DRM := fun x vs μ Q => ∃ a xs y, x = dref a ∧ vs = [] ∧ μ a = some (.lst xs) ∧ xs[xs.length - 1]? = some y ∧ Q y (mset μ a (.lst xs.dropLast))
theorem mtd_pop : MtD K rPop dPop := fun F S H μ x xs d ds R Q w rx rxs ⟨a, zs, y, e1, e2, em, hy, q⟩ af => by
  subst e1; subst e2
  cases rxs
  obtain rfl := rp_ref rx
  obtain ⟨_, vs, e, r⟩ := w.mem a _ em
  obtain ⟨v, e3, rv⟩ := r.get' hy
  exact ⟨a, vs, v, rfl, rfl, e, by rw [r.length]; exact e3, af.wrote w em r.dropLast q rv⟩
def dPopAt : DRM := fun x vs μ Q => ∃ a xs i k y, x = dref a ∧ vs = [.int i] ∧ μ a = some (.lst xs) ∧ -(2 ^ 63) ≤ i ∧ i < 2 ^ 63 ∧ seqIndex? i xs.length = some k ∧ xs[k]? = some y ∧ Q y (mset μ a (.lst (xs.eraseIdx k)))
theorem mtd_popAt : MtD K rPopAt dPopAt := fun F S H μ x xs d ds R Q w rx rxs ⟨a, zs, i, k, y, e1, e2, em, h1, h2, hk, hy, q⟩ af => by
  subst e1; subst e2
  obtain ⟨v, rfl, rv⟩ := rpall1 rxs
  cases rv
  obtain rfl := rp_ref rx
  obtain ⟨_, vs, e, r⟩ := w.mem a _ em
  obtain ⟨v, e3, rv⟩ := r.get' hy
  exact ⟨a, vs, i, k, v, rfl, rfl, e, h1, h2, by rw [r.length]; exact hk, e3, af.wrote w em (r.erase k) q rv⟩
def strsD : List D → Option (List Str)
  | [] => some []
  | .str b :: ds => (strsD ds).map (b :: ·)
  | _ => none
theorem strsD_map (bs : List Str) : strsD (bs.map PyData.str) = some bs := by
  induction bs with
  | nil => rfl
  | cons b bs ih => simp [strsD, ih]
theorem strs_of {S : Hp} : ∀ {vs : List V} {ds : List D} {bs : List Str}, RpAll K S vs ds → strsD ds = some bs → vs = bs.map V.str
  | _, [], bs, r, h => by cases h; cases r; rfl
  | _, d :: ds, bs, r, h => by
    cases r with
    | cons r1 r2 =>
      cases d with
      | str b =>
        simp only [strsD] at h
        cases e : strsD ds with
        | none => rw [e] at h; cases h
        | some cs =>
          rw [e] at h; cases h
          cases r1
          rw [strs_of r2 e]; rfl
      | _ => cases h
def dJoin : DRM := fun x vs μ Q => ∃ a d xs ys, x = .str a ∧ vs = [d] ∧ (snap μ d = .list xs ∨ d = .tuple xs) ∧ strsD xs = some ys ∧ (ys.map (·.length)).sum + ys.length * a.length ≤ 16777216 ∧ Q (.str (Txt.join a ys)) μ
theorem mtd_join : MtD K (fun x xs H Q => ∃ a p, ∃ ys : List Str, x = .str a ∧ xs = [.ref p] ∧ (SqL K H p (ys.map V.str) ∨ SqT K H p (ys.map V.str)) ∧
    (ys.map (·.length)).sum + ys.length * a.length ≤ 16777216 ∧ Q (.str (Txt.join a ys)) H) dJoin := fun F S H μ x xs d ds R Q w rx rxs ⟨a, d2, zs, ys, e1, e2, k, es, hz, q⟩ af => by
  subst e1; subst e2
  obtain ⟨v, rfl, rv⟩ := rpall1 rxs
  cases rx
  rcases k with k | k
  · obtain ⟨p, us, ev, e, r⟩ := list_in w rv k
    subst ev
    have e4 := strs_of r es
    subst e4
    exact ⟨a, p, ys, rfl, rfl, .inl (SqL.of e), hz, af.now w q (.str _)⟩
  · subst k
    cases rv with
    | tup h1 r1 =>
      have e4 := strs_of r1 es
      subst e4
      exact ⟨a, _, ys, rfl, rfl, .inr (same_seqT w.sub h1), hz, af.now w q (.str _)⟩
def dSindex : DRM := fun x vs μ Q => ∃ a b i rest, x = .str a ∧ vs = [.str b] ∧ Builtin.Str.occurrences a b 0 a.length 1 = i :: rest ∧ Q (.int (i : Nat)) μ
theorem mtd_sindex : MtD K (fun x xs H Q => ∃ a b i rest, x = .str a ∧ xs = [.str b] ∧ Builtin.Str.occurrences a b 0 a.length 1 = i :: rest ∧ Q (.int (i : Nat)) H) dSindex := fun F S H μ x xs d ds R Q w rx rxs ⟨a, b, i, rest, e1, e2, ho, q⟩ af => by
  subst e1; subst e2
  obtain ⟨v, rfl, rv⟩ := rpall1 rxs
  cases rx; cases rv
  exact ⟨a, b, i, rest, rfl, rfl, ho, af.now w q (.int _)⟩
end
/-- o[i] = v of a changing list -/
def dgSub (to ti : DTE) : DTG := fun v ρ μ Q => to ρ μ fun o μ1 => ti ρ μ1 fun i μ2 => ∃ a xs k j, o = dref a ∧ i = .int k ∧ μ2 a = some (.lst xs) ∧ ixN xs.length k = some j ∧ Q ρ (mset μ2 a (.lst (xs.set j v)))
section
variable {X : Cx} {Γ : Act} {o i e value : Expr} {to ti te ta tv : DTE} {f : Str} {pos tpos : Pos}
theorem dg_sub (ho : DE X Γ o to) (hi : DE X Γ i ti) (ha : ∀ v, assign (.Subscript o i pos) X.env v = (do
      let ov ← holding [v] (eval o X.env)
      let iv ← holding [v, ov] (eval i X.env)
      standAt pos
      holding [v, ov, iv] (setItem ov iv v)
      release [v, ov, iv] []) := by intro _; rfl) : DG X Γ (.Subscript o i pos) (dgSub to ti) :=
  ⟨PG.imp (pg_sub ho.pe hi.pe set_list ha) fun v σ H Q ⟨F, S, μ, ρ, d, R, r, p, q, a⟩ =>
    ⟨F, S, μ, ρ, _, r, q, fun od μ1 q1 ov S1 H1 s1 w1 p1 => ⟨F, S1, μ1, ρ, _, r.later s1 w1, q1, fun id μ2 ⟨b, xs, k, j, e1, e2, em, ej, q2⟩ iv S2 H2 s2 w2 p2 => by
      subst e1; subst e2
      obtain rfl := rp_ref p1
      cases p2
      obtain ⟨_, vs, e, rr⟩ := w2.mem b _ em
      have w3 := w2.write em (.lst (vs.set j v)) (.lst (xs.set j d)) ⟨_, upd_same, rr.set j (p.mono (s1.trans s2))⟩
      exact ⟨b, vs, k, j, rfl, rfl, e, by rw [rr.length]; exact ej, a _ _ q2 σ F S2 _ (s1.trans s2) ((r.later (s1.trans s2) w3))⟩⟩⟩⟩
/-- fields by name -/
def putD (f : Str) (v : D) : List (Str × D) → List (Str × D)
  | [] => [(f, v)]
  | (g, x) :: r => if g = f then (g, v) :: r else (g, x) :: putD f v r
theorem RpKV.put {K : PySem.W.Frag} {S : Hp} {f : Str} {v : V} {d : D} : ∀ {vs : List (Str × V)} {ds : List (Str × D)}, RpKV K S vs ds → Rp K S v d → RpKV K S (putF f v vs) (putD f d ds)
  | _, _, .nil, q => .cons q .nil
  | _, _, .cons (k := g) h t, q => by
    unfold putF putD
    split
    · exact .cons q t
    · exact .cons h (RpKV.put t q)
theorem RpKV.look {K : PySem.W.Frag} {S : Hp} {f : Str} {d : D} : ∀ {vs : List (Str × V)} {ds : List (Str × D)}, RpKV K S vs ds → ds.lookup f = some d → ∃ v, vs.lookup f = some v ∧ Rp K S v d
  | _, _, .nil, e => by cases e
  | _, _, .cons (k := g) h t, e => by
    simp only [List.lookup] at e ⊢
    split at e
    · cases e; exact ⟨_, rfl, h⟩
    · exact RpKV.look t e
theorem RpKV.none {K : PySem.W.Frag} {S : Hp} {f : Str} : ∀ {vs : List (Str × V)} {ds : List (Str × D)}, RpKV K S vs ds → ds.lookup f = .none → vs.lookup f = .none
  | _, _, .nil, e => rfl
  | _, _, .cons (k := g) h t, e => by
    simp only [List.lookup] at e ⊢
    split at e
    · cases e
    · exact RpKV.none t e
theorem RpKV.length {K : PySem.W.Frag} {S : Hp} {κ : Type} : ∀ {vs : List (κ × V)} {ds : List (κ × D)}, RpKV K S vs ds → vs.length = ds.length
  | _, _, .nil => rfl
  | _, _, .cons _ t => by simp [RpKV.length t]
def dFld (ta : DTE) (f : Str) (OK : Addr → Prop) : DTE := fun ρ μ Q => ta ρ μ fun x μ1 => ∃ a C fs v, x = dref a ∧ μ1 a = some (.ins C fs) ∧ OK C ∧ fs.lookup f = some v ∧ Q v μ1
/-- what a class must be that a field is read, stored -/
def FldOk (K : PySem.W.Frag) (f : Str) (C : Addr) : Prop := Cls K C ∧ NoAttr K C f
theorem de_fld {OK : Addr → Prop} (ha : DE X Γ e ta) (ok : ∀ C, OK C → FldOk X.K f C) (hb : attributeBase e f X.env (eval e X.env) = eval e X.env := by rfl) : DE X Γ (.Attribute e f pos) (dFld ta f OK) :=
  ⟨PE.imp (pe_fld ha.pe hb) fun σ H Q ⟨F, S, μ, ρ, R, r, q, a⟩ => ⟨F, S, μ, ρ, _, r, q, fun x μ1 ⟨b, C, fs, v, e1, em, hc, hl, q1⟩ xv S1 H1 s1 w1 p1 => by
    subst e1
    obtain rfl := rp_ref p1
    obtain ⟨_, dx, vs, e2, rr⟩ := w1.mem b _ em
    obtain ⟨u, e3, ru⟩ := rr.look hl
    exact ⟨b, C, dx, vs, u, rfl, e2, (ok C hc).1, (ok C hc).2, e3, (a.from s1).now w1 q1 ru⟩⟩⟩
/-- o.f = v -/
def dgFld (to : DTE) (f : Str) (OK : Addr → Prop) : DTG := fun v ρ μ Q => to ρ μ fun o μ1 => ∃ a C fs, o = dref a ∧ μ1 a = some (.ins C fs) ∧ OK C ∧ fs.length < 1000 ∧ Q ρ (mset μ1 a (.ins C (putD f v fs)))
def gFld (K : PySem.W.Frag) (to : TE) (f : Str) : TG := fun y σ H Q => to σ H fun x H2 => ∃ a C dx fs, x = .ref a ∧ H2 a = some (.ins C dx fs) ∧ Cls K C ∧ NoAttr K C f ∧ fs.length < 1000 ∧ Q σ (upd H2 a (.ins C dx (putF f y fs)))
theorem pg_fld {o : Expr} {t : TE} (ho : PE X o t) : PG X (.Attribute o f pos) (gFld X.K t f) := by
  refine ⟨fun pins s σ H v u Q I rv h => ?_⟩
  refine PySem.W.kas_attr (thn (ho.run pins s σ H _ I h) fun ov s1 ⟨x, H1, I1, rx, a, C, dx, fs, ex, ea, c, n, l, q⟩ => ?_)
  subst ex
  obtain rfl : ov = Value.ref a := rx
  exact setattr_ok I1 ea c n l rv fun s3 I3 => ⟨σ, _, I3, q⟩
theorem ER.wrote {K : PySem.W.Frag} {σ : L2.St} {ρ : Rho} {F S H : Hp} {μ : Mem} {b : Addr} {m0 m : M} {o : HO} (r : ER K Γ σ ρ F S H μ) (em : μ b = some m0) (h : MRep K S (upd H b o) b m) : ER K Γ σ ρ F S (upd H b o) (mset μ b m) := r.later (Same.refl S) (r.wr.write em o m h)
theorem dg_fld {OK : Addr → Prop} (ho : DE X Γ o to) (ok : ∀ C, OK C → FldOk X.K f C) : DG X Γ (.Attribute o f pos) (dgFld to f OK) :=
  ⟨PG.imp (pg_fld ho.pe) fun v σ H Q ⟨F, S, μ, ρ, d, R, r, p, q, a⟩ => ⟨F, S, μ, ρ, _, r, q, fun od μ1 ⟨b, C, fs, e1, em, hc, hl, q1⟩ ov S1 H1 s1 w1 p1 => by
    subst e1
    obtain rfl := rp_ref p1
    obtain ⟨_, dx, vs, e2, rr⟩ := w1.mem b _ em
    exact ⟨b, C, dx, vs, rfl, e2, (ok C hc).1, (ok C hc).2, by rw [rr.length]; exact hl, a _ _ q1 σ F S1 _ s1 ((r.later s1 w1).wrote em ⟨dx, _, upd_same, rr.put (p.mono s1)⟩)⟩⟩⟩
/-- o.f = value on one line -/
def dFldS (to tv : DTE) (f : Str) (OK : Addr → Prop) : DTS := fun En ρ μ => tv ρ μ fun d μ1 => dgFld to f OK d ρ μ1 En.nx
theorem ds_fld {OK : Addr → Prop} {pos' : Pos} (ho : DE X Γ o to) (hv : DE X Γ value tv) (ok : ∀ C, OK C → FldOk X.K f C) (hs : swapsWith value (some (.Attribute o f pos')) pos.line X.env = pure false := by rfl) : DS X Γ (.Assign [.Attribute o f pos'] value pos) (dFldS to tv f OK) :=
  ⟨PS.imp (ps_fld ho.pe hv.pe hs) fun Dn σ H ⟨F, S, μ, ρ, En, r, q, a⟩ => ⟨F, S, μ, ρ, _, r, q, fun d μ1 q1 v S1 H1 s1 w1 p1 => ⟨F, S1, μ1, ρ, _, r.later s1 w1, q1, fun od μ2 ⟨b, C, fs, e1, em, hc, hl, q2⟩ ov S2 H2 s2 w2 p2 => by
    subst e1
    obtain rfl := rp_ref p2
    obtain ⟨_, dx, vs, e2, rr⟩ := w2.mem b _ em
    exact ⟨b, C, dx, vs, rfl, e2, (ok C hc).1, (ok C hc).2, by rw [rr.length]; exact hl, a.nx _ _ q2 σ F S2 _ (s1.trans s2) ((r.later (s1.trans s2) w2).wrote em ⟨dx, _, upd_same, rr.put (p1.mono s2)⟩)⟩⟩⟩⟩
def dAug (i : Nat) (te : DTE) (g : DR2) : DTS := fun En ρ μ => ∃ d, ρ[i]? = some (some (.v d)) ∧ te ρ μ fun e μ1 => g d e μ1 fun z μ2 => En.nx (ρ.set i (some (.v z))) μ2
theorem ds_aug {n : Nat} {x : Str} {op : Operator} {tip : TIp} {g : DR2} {pos' : Pos} (hN : X.N.Nodup) (he : DE X Γ e te) (ho : PIp X op tip) (hg : OpD X.K tip g) (hi : X.N[n]? = some x := by rfl) (hx : Loc X.env.scope x := by first | exact Or.inl rfl | exact Or.inr rfl) (hf : X.fn x = true ∨ X.env.scope.names.lookup x = some .local := by first | exact .inl rfl | exact .inr rfl | assumption) :
    DS X Γ (.AugAssign (.Name x pos') op e pos) (dAug n te g) := ⟨PS.imp (ps_aug (i := n) hN hi hx he.pe ho hf) fun Dn σ H ⟨F, S, μ, ρ, En, r, ⟨d, e1, q⟩, a⟩ => by
  obtain ⟨v, ev, rv⟩ := r.at_ n d e1
  exact ⟨v, ev, F, S, μ, ρ, _, r, q, fun ed μ1 q1 u S1 H1 s1 w1 p1 => hg F S1 H1 μ1 v u d ed _ _ w1 (rv.mono s1) p1 q1 fun z μ2 q2 zv S2 H2 s2 w2 p2 => a.nx _ _ q2 _ F S2 H2 (s1.trans s2) ((r.later (s1.trans s2) w2).set p2)⟩⟩
theorem opd_ipI {K : PySem.W.Frag} {g : Int → Int → Int} : OpD K (ipI g) (dI g fun _ _ => True) := opd_I0
/-- o[i] op= e of a changing list -/
def dAugS (to ti te : DTE) (g : DR2) : DTS := fun En ρ μ => to ρ μ fun o μ1 => ti ρ μ1 fun i μ2 => ∃ a xs k j x, o = dref a ∧ i = .int k ∧ μ2 a = some (.lst xs) ∧ ixN xs.length k = some j ∧ xs[j]? = some x ∧
  te ρ μ2 fun y μ3 => g x y μ3 fun z μ4 => ∃ ys j2, μ4 a = some (.lst ys) ∧ ixN ys.length k = some j2 ∧ En.nx ρ (mset μ4 a (.lst (ys.set j2 z)))
theorem get_listP : PGet X (rIxL X.K) := by
  intro pins s σ H x y v u Q I rx ry h
  obtain ⟨p, xs, i, z, rfl, rfl, hq, he, q⟩ := h
  cases rx
  obtain ⟨t, rfl⟩ := ry
  obtain ⟨its, r, pl, hz⟩ := I.list hq
  obtain ⟨j, h1, h2, h3, h4, h5⟩ := atI_get he
  obtain ⟨w, ew, rw'⟩ := r.get h2
  have hl := r.length
  have hn := line63
  have fin : EP X pins σ Q w s := ⟨z, H, I, rw', q⟩
  by_cases h0 : 0 ≤ i
  · have hj : i.toNat = j := by
      rw [seqIndex_of h0 h5] at h1
      exact Option.some.inj h1
    exact wpAny_getItem_list pl.isList h0 (by omega) (by rw [hj]; simpa using ew) fin
  · have hj : (i + (its.toArray.size : Int)).toNat = j := by
      rw [seqIndex_neg (by omega) h4] at h1
      rw [List.size_toArray, ← hl]
      exact Option.some.inj h1
    exact wpAny_getItem_list_neg pl.isList (by omega) (by rw [List.size_toArray] <;> omega) (by omega) (by rw [hj]; simpa using ew) fin
theorem ds_augS {op : Operator} {tip : TIp} {g : DR2} (ho : DE X Γ o to) (hi : DE X Γ i ti) (he : DE X Γ e te) (hp : PIp X op tip) (hg : OpD X.K tip g)
    (ha : ∀ ov iv new, augStore i ov iv new = (do holding [new, ov, iv] (setItem ov iv new); release [new, ov, iv] []; pure .next) := by intros; rfl) : DS X Γ (.AugAssign (.Subscript o i tpos) op e pos) (dAugS to ti te g) :=
  ⟨PS.imp (ps_augS ho.pe hi.pe get_listP he.pe hp set_list ha) fun Dn σ H ⟨F, S, μ, ρ, En, r, q, af⟩ => ⟨F, S, μ, ρ, _, r, q, fun od μ1 q1 ov S1 H1 s1 w1 p1 =>
    ⟨F, S1, μ1, ρ, _, r.later s1 w1, q1, fun id μ2 ⟨a, xs, k, j, x, e1, e2, em, ej, ex, q2⟩ iv S2 H2 s2 w2 p2 => by
      subst e1; subst e2
      obtain rfl := rp_ref p1
      cases p2
      obtain ⟨_, vs, e, rr⟩ := w2.mem a _ em
      obtain ⟨xv, e3, rx⟩ := rr.get' ex
      refine ⟨a, vs, k, xv, rfl, rfl, SqL.of e, ?_, F, S2, μ2, ρ, _, r.later (s1.trans s2) w2, q2, fun yd μ3 q3 y S3 H3 s3 w3 p3 => ?_⟩
      · unfold L2.atI
        rw [rr.length, ej]
        exact e3
      · refine hg F S3 H3 μ3 xv y x yd _ _ w3 (rx.mono s3) p3 q3 fun zd μ4 ⟨ys, j2, em4, ej2, q4⟩ z S4 H4 s4 w4 p4 => ?_
        obtain ⟨_, us, e5, r5⟩ := w4.mem a _ em4
        exact ⟨a, us, k, j2, rfl, rfl, e5, by rw [r5.length]; exact ej2, af.nx _ _ q4 σ F S4 _ (s1.trans (s2.trans (s3.trans s4))) ((r.later (s1.trans (s2.trans (s3.trans s4))) w4).wrote em4 ⟨_, upd_same, r5.set j2 p4⟩)⟩⟩⟩⟩
/-- o.f op= e -/
def dAugF (ta tv : DTE) (g : DR2) (f : Str) (OK : Addr → Prop) : DTS := fun En ρ μ => ta ρ μ fun x μ1 => ∃ a C fs v, x = dref a ∧ μ1 a = some (.ins C fs) ∧ OK C ∧ fs.lookup f = some v ∧
  tv ρ μ1 fun y μ2 => g v y μ2 fun z μ3 => ∃ fs', μ3 a = some (.ins C fs') ∧ fs'.length < 1000 ∧ En.nx ρ (mset μ3 a (.ins C (putD f z fs')))
theorem ds_augF {op : Operator} {rd : V → V → Hp → VK → Prop} {g : DR2} {OK : Addr → Prop} (ho : DE X Γ o ta) (hv : DE X Γ value tv) (hop : InOp X op rd) (hg : OpD X.K rd g) (ok : ∀ C, OK C → FldOk X.K f C) : DS X Γ (.AugAssign (.Attribute o f tpos) op value pos) (dAugF ta tv g f OK) :=
  ⟨PS.imp (ps_fldaug ho.pe hv.pe hop) fun Dn σ H ⟨F, S, μ, ρ, En, r, q, af⟩ => ⟨F, S, μ, ρ, _, r, q, fun x μ1 ⟨a, C, fs, v, e1, em, hc, hl, q1⟩ xv S1 H1 s1 w1 p1 => by
    subst e1
    obtain rfl := rp_ref p1
    obtain ⟨_, dx, vs, e2, rr⟩ := w1.mem a _ em
    obtain ⟨u, e3, ru⟩ := rr.look hl
    refine ⟨a, C, dx, vs, u, rfl, e2, (ok C hc).1, (ok C hc).2, e3, F, S1, μ1, ρ, _, r.later s1 w1, q1, fun yd μ2 q2 y S2 H2 s2 w2 p2 => ?_⟩
    refine hg F S2 H2 μ2 u y v yd _ _ w2 (ru.mono s2) p2 q2 fun zd μ3 ⟨fs', em3, hl3, q3⟩ z S3 H3 s3 w3 p3 => ?_
    obtain ⟨_, dx', vs', e4, r4⟩ := w3.mem a _ em3
    exact ⟨dx', vs', e4, by rw [r4.length]; exact hl3, af.nx _ _ q3 σ F S3 _ (s1.trans (s2.trans s3)) ((r.later (s1.trans (s2.trans s3)) w3).wrote em3 ⟨_, _, upd_same, r4.put p3⟩)⟩⟩⟩
end
end DL
set_option Elab.async false
set_option linter.all false
set_option maxRecDepth 100000
set_option maxHeartbeats 2000000
namespace DL
open PySem PySem.Spec PyProof.Rows L2
/-- o.m(..) on one line -/
theorem eval_meth {o : Expr} {name : Str} {p2 p3 : Pos} {args : List Expr} {env : Env} (hl : (p2.endLine == p3.line) = true) (hf : methodCallForm (args.length + ([] : List Keyword).length) (backTo p3 (starEach args env)) (backToKw p3 (keywordEach [] env)) = true) :
    eval (.Call (.Attribute o name p2) args [] p3) env = (do
      let ov ← attributeBase o name env (eval o env)
      standAt p2.atName
      let (g, first) ← holding [ov] (getMethod ov name (do return (← importBound o env).getD true))
      callWith p3 g first (backTo p3 (starEach args env)) []) := by
  show (do
    let ov ← attributeBase o name env (eval o env)
    standAt p2.atName
    methodCall o name p2 p3 env ov (args.length + ([] : List Keyword).length) (backTo p3 (starEach args env)) (backToKw p3 (keywordEach [] env))) = _
  unfold methodCall calleeOf methodCallPos
  rw [hf, hl]
  rfl
/-- the env of a def that holds its class -/
abbrev xEnv (q : Str) (scope : Scope) (L f cda cc : Addr) : Env := PySem.W.ksEnv q scope L f (.ref cda) cc
/-- what the first statement asks of the def f of the class C -/
structure SupF (P : Program) (K : PySem.W.Frag) (mg : Str → Option Value) (scope : Scope) (me : Str) (C f cda cc : Addr) : Prop where
  fn : ∃ oc od fd osl ar, K.lookup f = some ⟨oc, od, .func fd, osl⟩ ∧ (fd.params.posonlyargs ++ fd.params.args).head? = some ar ∧ ar.arg = me
  code : ∃ ccl cdd vs ccs file tf, K.lookup cda = some ⟨ccl, cdd, .fields vs, ccs⟩ ∧ vs[2]? = some (.str file tf) ∧ ((P.main.file : Str) == file) = true
  cell : ∃ cl cld csl, K.lookup cc = some ⟨cl, cld, .cell (some (.ref C)), csl⟩
  sub : PySem.W.mroIn K C (.ref C) = some true
  sup : PySem.W.ks_superIn K C C "__init__" = some (some (.builtin "ValueError.__init__"))
  ve : PySem.W.subIn K (.ref C) (.type "ValueError") = some true
  stat : PySem.W.nsIn K cStatics "thirdparty.any" = some none
  glob : mg "super" = none
  top : (P.main.scope.names.lookup ("super" : Str)).isSome = false
  ks : scope.names.lookup ("super" : Str) = some .globalImplicit
  kc : scope.names.lookup ("__class__" : Str) = some .free
  ka : scope.names.lookup me = some .local
  kf : scope.kind = .function
section
variable {X : Cx} {pins : List (Addr × Obj)} {σ : L2.St} {H : Hp} {s : Shared} {q me : Str} {scope : Scope} {L f cda cc C a : Addr}
/-- super() -/
theorem sup_call {body : List Stmt} {p0 p1 : Pos} {whole : Sem Value} {Q : Value → Shared → Prop} {E : Value → Shared → Prop} (henv : X.env = xEnv q scope L f cda cc) (T : SupF X.prog X.K X.mg scope me C f cda cc) (TC : OexC X.K C) (I : Inv X pins σ H s)
    (hN : X.N[0]? = some me) (hσ : σ[0]? = some (some (.ref a))) (ha : H a = some (exo a C none))
    (h : ∀ so h', (∀ b o, s.heap.get? b = some o → h'.get? b = some o) → h'.get? so = some (PySem.W.ks_superObj C a C) → Q (.ref so) { s with heap := h' }) :
    PySem.wpAt (model X.prog X.w) X.A (.func body X.env) (attributeBase (.Call (.Name "super" p0) [] [] p1) "__init__" X.env whole) Q E s := by
  obtain ⟨oc, od, fd, osl, ar, hf, hp, harg⟩ := T.fn
  obtain ⟨ccl, cdd, vs, ccs, file, tf, hco, hvs, hfile⟩ := T.code
  obtain ⟨cl, cld, csl, hcell⟩ := T.cell
  obtain ⟨nm, qn, N, bs, bm, sn, sub, ab, col, dd, k0, k1, k2, k3, k5, hC, hbm⟩ := TC.cls
  obtain ⟨t1, ho⟩ := exo_at I.hok ha
  have KX := I.kIn
  have hks : X.env.kindOf "super" = some .globalImplicit := by rw [henv]; exact T.ks
  have hkc : X.env.kindOf "__class__" = some .free := by rw [henv]; exact T.kc
  have hka : X.env.kindOf me = some .local := by rw [henv]; exact T.ka
  obtain ⟨mb, hb1, hb2⟩ := I.mod.blt
  obtain ⟨m, hn, hl⟩ := I.loc
  have hm : m me = some (.ref a) := by
    obtain ⟨u, r, l⟩ := hl 0 me _ hN hσ (.inl hka)
    obtain rfl : u = Value.ref a := r
    rcases l with ⟨_, z⟩ | ⟨z, _⟩
    · exact z
    · rw [hka] at z; rcases z with z | z <;> cases z
  refine ks_wpAt_super_base (f := f) (cc := cda) hks hkc (by decide) (by rw [henv]) (KX _ _ hf) rfl hp (by rw [henv]) (KX _ _ hco) rfl hvs hfile T.top ?_
  refine PySem.W.ks_loadName_global I.ok.kind hks (Calls.loadGlobal_builtin (by rw [I.ok.glob]; exact I.mod.glob.keeps I.bk) T.glob (by rw [I.ok.blt]; exact hb1.keeps I.bk) ((hb2 "super" (by decide)).trans (by first | exact PyProof.Rows.Boot.«super» | kernel_rfl)) ⟨rfl, ?_⟩)
  refine wpAny_loadName_free I.ok.kind hkc (c := cc) (by rw [henv]; rfl) ⟨_, KX _ _ hcell, rfl⟩ ?_
  rw [harg]
  refine wpAny_loadName_local I.ok.kind hka hn hm ?_
  obtain ⟨hp', g, d, t, os⟩ := s
  refine ks_wpAny_isType_cls (KX _ _ hC) rfl ⟨rfl, ?_⟩
  refine ks_wpAny_call_super (KX _ _ hC) rfl ho rfl (fun c e => by cases e) (PySem.W.looks_mroIn KX T.sub) (fun h' e k => ?_)
  exact h _ _ k e
theorem starts_add {h h' : Heap} {u : Addr} {o : Obj} (e : h.get? u = some o) (k : ∀ b p, h.get? b = some p → h'.get? b = some p) : h'.get? u = some o := k _ _ e
/-- the bound __init__ called: the exception's args are laid anew -/
theorem mw_call {us : List Value} {u : Addr} {Q : Value → Shared → Prop} {E : Value → Shared → Prop} {A : Around} (TC : OexC X.K C) (I : Inv X pins σ H s) (ha : H a = some (exo a C none)) (hu : s.heap.get? u = some (PySem.W.kxs_mw "ValueError.__init__" a)) (hz : us.length ≤ sizeLine)
    (h : ∀ s', Inv X pins σ H s' → Q .none s') : wpAny (model X.prog X.w) A (call (.ref u) us) Q E s := by
  obtain ⟨nm, qn, N, bs, bm, sn, sub, ab, col, dd, k0, k1, k2, k3, k5, hC, hbm⟩ := TC.cls
  obtain ⟨t1, ho⟩ := exo_at I.hok ha
  have KX := I.kIn
  obtain ⟨hp, g, d, t, os⟩ := s
  have FB := F.excBase_ValueError
  refine wpAny_call (codeAny_of_tree ?_)
  show wpAny _ A.in1 (callAny (.ref u) ⟨us, []⟩) _ _ _
  simp only [callAny]
  refine wpAny_bind (wpAny_load hu ?_)
  have key : (Value.type "method-wrapper" == Value.type "method" || Value.type "method-wrapper" == Value.type "builtin_function_or_method" || Value.type "method-wrapper" == Value.type "method-wrapper") = true := by decide
  simp only [PySem.W.kxs_mw, key, if_true]
  refine PySem.W.KFB.if_so (by decide) ?_
  refine wpAny_bind (PySem.W.check_bound_init FB.toExcCallFacts (KX _ _ hC) ho rfl ?_)
  refine wpAny_bind (wpAny_pure (wpAny_pure ?_))
  refine ⟨plainId_quiet FB.init.plain _, codeAny_builtin FB.initEntry ?_⟩
  refine PySem.W.exc_init_tree (cls := .ref C) (t0 := t1) (dv := none) (c2 := .none) (c3 := .none) (b4 := .bool false) ho hz fun h' k hx _ => ?_
  have J := I.write (t' := t) (x := a) (e := a) (o := exo a C none) (by rw [ha]; exact True.intro) (.inl rfl) k ⟨_, hx⟩ (exo_ok hx)
  have eu : upd H a (exo a C none) = H := by
    funext b
    by_cases hb : b = a
    · rw [hb, upd_same, ha]
    · rw [upd_ne hb]
  rw [eu] at J
  exact h _ J
/-- super().__init__(e, ..) -/
theorem sup_first {pl : Sem Bool} {body : List Stmt} {p0 p1 p2 p3 p4 : Pos} {e : Expr} {es : List Expr} {ta : TA} {Q : Flow → Shared → Prop} (henv : X.env = xEnv q scope L f cda cc) (T : SupF X.prog X.K X.mg scope me C f cda cc) (TC : OexC X.K C) (I : Inv X pins σ H s)
    (hN : X.N[0]? = some me) (hσ : σ[0]? = some (some (.ref a))) (ha : H a = some (exo a C none)) (hA : PA X (e :: es) ta)
    (hq : ta σ H fun vs H1 => vs.length ≤ sizeLine ∧ H1 a = some (exo a C none) ∧ ∀ s', Inv X pins σ H1 s' → Q .next s')
    (hs : swapsWith (.Call (.Attribute (.Call (.Name "super" p0) [] [] p1) "__init__" p2) (e :: es) [] p3) none p4.line X.env = pure false := by rfl)
    (he : eval (.Call (.Attribute (.Call (.Name "super" p0) [] [] p1) "__init__" p2) (e :: es) [] p3) X.env = (do
      let ov ← attributeBase (.Call (.Name "super" p0) [] [] p1) "__init__" X.env (eval (.Call (.Name "super" p0) [] [] p1) X.env)
      standAt p2.atName
      let (f, first) ← holding [ov] (getMethod ov "__init__" pl)
      callWith p3 f first (backTo p3 (starEach (e :: es) X.env)) []) := by rfl)
    (hst : starEach (e :: es) X.env = (false, eval e X.env) :: starEach es X.env := by rfl) (hpl : (backTo p3 (starEach es X.env)).any (·.1) = false := by rfl) :
    PySem.wpAt (model X.prog X.w) X.A (.func body X.env) (exec (.Expr (.Call (.Attribute (.Call (.Name "super" p0) [] [] p1) "__init__" p2) (e :: es) [] p3) p4) X.env) Q X.xe s := by
  refine ks_wpAt_Expr_any (ks_wpAt_MethodCall (pl := pl) (sup_call henv T TC I hN hσ ha fun so h' k hso => ?_) he) (by unfold interactive; rw [I.ok.kind]; rfl) hs
  have I1 : Inv X pins σ H { s with heap := h' } := I.kept (t' := s.toks) k
  obtain ⟨nm, qn, N, bs, bm, sn, sub, ab, col, dd, k0, k1, k2, k3, k5, hC, hbm⟩ := TC.cls
  have hcl : PySem.W.clsIn X.K C = some { name := nm, bases := bs, mro := .ref C :: bm, ns := N, qualname := qn, hasDict := true, slotNames := sn, subclasses := sub, abstract := ab, collection := col, hasDel := false } := by unfold PySem.W.clsIn; rw [hC] <;> rfl
  obtain ⟨t1, ho⟩ := exo_at I1.hok ha
  have KX := I1.kIn
  have hm := T.sup
  unfold PySem.W.ks_superIn at hm
  rw [hcl] at hm
  have II : PySem.W.InstAt h' a { cls := .ref C, dict := none, data := .fields #[.ref t1, .none, .none, .none, .bool false, .none] } C none := ⟨ho, rfl, rfl, trivial⟩
  obtain ⟨hp, g, d, t, os⟩ := s
  refine PySem.W.kxs_getMethod PySem.W.kxs_ValueError hso (PySem.W.looks_opaque KX T.stat) (l₀ := .ref C :: bm) ((PySem.W.looks_clsIn KX hcl).andThen .now) rfl KX hm (II.type.andThen (PySem.W.looks_subIn KX T.ve)) (PySem.W.ks_ne KX II hcl) (by decide) ?_
  have I2 : Inv X pins σ H ⟨h'.push (PySem.W.kxs_mw "ValueError.__init__" a), g, d, t + 1, os⟩ := I1.kept (t' := t + 1) fun b o e => Heap.get?_push_of_some _ e
  have hmw : (h'.push (PySem.W.kxs_mw "ValueError.__init__" a)).get? h'.objs.size = some (PySem.W.kxs_mw "ValueError.__init__" a) := Heap.get?_push_size _ rfl
  have hfree : H h'.objs.size = none := I1.hok.fresh (Nat.le_refl _)
  have hnl : h'.objs.size ≠ X.env.locals := fun z => by
    obtain ⟨m, ⟨o, es, ep, ho, r⟩, _⟩ := I1.loc
    rw [← z] at ho
    exact Nat.lt_irrefl _ (Heap.lt_size ho)
  have hnf : h'.objs.size ∉ X.fs := I1.nofs (Nat.le_refl _)
  have I3 : Inv X ((h'.objs.size, PySem.W.kxs_mw "ValueError.__init__" a) :: pins) σ H ⟨h'.push (PySem.W.kxs_mw "ValueError.__init__" a), g, d, t + 1, os⟩ := I2.pins_of fun p hp => by
    rcases List.mem_cons.mp hp with rfl | hp
    · exact ⟨hmw, hfree, hnl, hnf, fun v z => by cases z⟩
    · exact I2.pin p (List.mem_append_right _ hp)
  dsimp only
  rw [hst]
  refine PySem.W.kxs_callWith (i := "ValueError.__init__") (x := a) (by show (false || (backTo p3 (starEach es X.env)).any (·.1)) = false; rw [hpl]; rfl) (Calls.evalArgs_plain ?_)
  have hrun := hA.run p3 ((h'.objs.size, PySem.W.kxs_mw "ValueError.__init__" a) :: pins) _ σ H _ I3 hq
  rw [hst] at hrun
  refine thn hrun fun us s3 ⟨vs, H1, I4, r1, hz, ha1, qq⟩ => ?_
  refine ⟨(I4.pin _ (List.mem_append_right _ List.mem_cons_self)).1, ?_⟩
  have I5 : Inv X pins σ H1 s3 := I4.pins_of fun p hp => I4.pin p (List.mem_append_right _ (List.mem_cons_of_mem _ hp))
  exact mw_call TC I5 ha1 (I4.pin _ (List.mem_append_right _ List.mem_cons_self)).1 (by show us.length ≤ sizeLine; rw [← r1.length]; exact hz) qq
end
def cxSup (P : Program) (w : World) (K : PySem.W.Frag) (mg : Str → Option Value) (base : Heap) (N : List Str) (q : Str) (scope : Scope) (f cda cc : Addr) (A : Around) (outer : List Env) (s : Shared) (H : Hp) : Cx :=
  { prog := P, w := w, K := K, mg := mg, base := base, A := A.deeper (xEnv q scope s.heap.objs.size f cda cc), N := N, s_0 := s, H_0 := H, env := xEnv q scope s.heap.objs.size f cda cc, outer := outer,
    stack := xEnv q scope s.heap.objs.size f cda cc :: outer, ex := [], calm := true, fn := fun _ => false, pn := [], xe := fun _ _ => False }
theorem look_of {β : Type} {x : Str} {u : β} : ∀ {l : List (Str × β)}, (x, u) ∈ l → (∀ v, (x, v) ∈ l → v = u) → l.lookup x = some u
  | (y, v) :: l, hm, hu => by
    simp only [List.lookup]
    by_cases e : x = y
    · subst e
      simp only [beq_self_eq_true]
      rw [hu v List.mem_cons_self]
    · rw [show (x == y) = false by simpa using e]
      refine look_of ?_ fun v hv => hu v (List.mem_cons_of_mem _ hv)
      rcases List.mem_cons.mp hm with h | h
      · cases h; exact absurd rfl e
      · exact h
theorem look_rev_zip {us : List Value} {ps : List Str} {i : Nat} {x : Str} {u : Value} (nd : ps.Nodup) (h1 : ps[i]? = some x) (h2 : us[i]? = some u) : (ps.zip us).reverse.lookup x = some u := by
  refine look_of (List.mem_reverse.mpr ?_) fun v hv => ?_
  · rw [List.mem_iff_getElem?]
    exact ⟨i, by rw [List.getElem?_zip_eq_some]; exact ⟨h1, h2⟩⟩
  · obtain ⟨j, hj⟩ := List.mem_iff_getElem?.mp (List.mem_reverse.mp hv)
    rw [List.getElem?_zip_eq_some] at hj
    obtain ⟨j1, j2⟩ := hj
    have hij : j = i := by
      obtain ⟨a1, a2⟩ := List.getElem?_eq_some_iff.mp j1
      obtain ⟨b1, b2⟩ := List.getElem?_eq_some_iff.mp h1
      exact (List.getElem_inj nd).mp (a2.trans b2.symm)
    subst hij
    rw [h2] at j2
    exact (Option.some.inj j2).symm
/-- names: parameters, no other local, cells none but the class -/
structure SupScope (ps : List Str) (sc : Scope) : Prop where
  kind : sc.kind = .function
  co : sc.isCoroutine = false
  gen : sc.isGenerator = false
  nd : ps.Nodup
  par : ∀ x ∈ ps, sc.names.lookup x = some .local
  free : ∀ y ∈ sc.names, y.2 ≠ .cell ∧ (y.2 = .free → y.1 = "__class__")
theorem inv_sup {P : Program} {w : World} {K : PySem.W.Frag} {mg : Str → Option Value} {base : Heap} {ps : List Str} {q : Str} {scope : Scope} {f cda cc : Addr} {A : Around} {outer : List Env} {s : Shared} {h₀ : Heap} {tk : Nat} {H : Hp} {us : List Value} {vs : List V}
    (Sc : SupScope ps scope) (hd : A.handled = none) (e0 : Env0 P w K mg base A outer s H) (hc : ∃ cl cld csl D, K.lookup cc = some ⟨cl, cld, .cell (some (.ref D)), csl⟩) (hl : vs.length = ps.length) (r : Vals vs us)
    (hns : h₀.Ns s.heap.objs.size fun x => (ps.zip us).reverse.lookup x) (kp : ∀ b o, s.heap.get? b = some o → h₀.get? b = some o) :
    Inv (cxSup P w K mg base ps q scope f cda cc A outer s H) [] (vs.map some) H { s with heap := h₀, toks := tk } := by
  have noA : ∀ b : Addr, b ∉ (cxSup P w K mg base ps q scope f cda cc A outer s H).ex := fun b z => absurd (show b ∈ ([] : List Addr) from z) (by simp)
  obtain ⟨cl, cld, csl, D, hcell⟩ := hc
  have hcb := e0.bs cc _ (e0.mod.kin _ _ hcell)
  have one : ∀ {y c}, (cxSup P w K mg base ps q scope f cda cc A outer s H).env.cells.lookup y = some c → y = "__class__" ∧ c = cc := fun {y c} e => by
    have e : [(("__class__" : Str), cc)].lookup y = some c := e
    simp only [List.lookup] at e
    split at e
    · rename_i h; cases e; exact ⟨by simpa using h, rfl⟩
    · cases e
  refine ⟨⟨e0.mod, Sc.kind, rfl, rfl, Nat.le_refl _, fun y z c h1 h2 => (one h1).1.trans (one h2).1.symm, fun y hy => ?_, fun y c h _ => (by cases h), fun _ => hd, Around.frames_deeper e0.frames, .inr ⟨rfl, rfl⟩, fun b z => absurd z (noA b), e0.bs, e0.bsz, fun b _ _ => noA b, fun b z => absurd z (noA b), e0.funs, e0.frf⟩,
    rfl, e0.bare, Un.kept kp, ⟨_, hns, fun i y v h1 h2 h3 => ?_⟩, fun y c h => ?_, e0.hok.fresh (Nat.le_refl _), fun y c h => ?_, fun p hp => absurd (show p ∈ ([] : List (Addr × Obj)) from hp) (by simp), e0.hok.kept kp, ?_⟩
  · have hy : scope.names.lookup y = some .cell ∨ scope.names.lookup y = some .free := hy
    rcases hy with hy | hy
    · exact absurd rfl (Sc.free _ (PySem.mem_of_lookup hy)).1
    · have := (Sc.free _ (PySem.mem_of_lookup hy)).2 rfl
      refine ⟨cc, ?_⟩
      show [(("__class__" : Str), cc)].lookup y = some cc
      rw [show y = "__class__" from this]
      rfl
  · have h1 : ps[i]? = some y := h1
    have h2 : vs[i]? = some v := by
      rw [List.getElem?_map] at h2
      cases e : vs[i]? with
      | none => rw [e] at h2; cases h2
      | some a => rw [e] at h2; cases h2; rfl
    obtain ⟨u, hu, rv⟩ := r.get h2
    exact ⟨u, rv, .inl ⟨Sc.par y (List.mem_of_getElem? h1), look_rev_zip Sc.nd h1 hu⟩⟩
  · obtain ⟨_, rfl⟩ := one h
    exact ⟨_, _, kp _ _ hcb.1, rfl⟩
  · obtain ⟨_, rfl⟩ := one h
    exact hcb.2
  · show (vs.map some).length = ps.length
    rw [List.length_map, hl]
/-- the def f of a class: super().__init__(e, ..), then rest -/
theorem sup_ok {P : Program} {w : World} {K : PySem.W.Frag} {mg : Str → Option Value} {base : Heap} {q me : Str} {params : Arguments} {scope : Scope} {f cda cc C : Addr} {kV doc pm ct oc : Value} {an od : Option Addr} {osl : Array (Option Value)} {k : Nat} {sp : Sp} {ps : List Str} {pl : Addr → Sem Bool}
    {p0 p1 p2 p3 p4 : Pos} {e : Expr} {es : List Expr} {rest : List Stmt}
    (lk : K.lookup f = some ⟨oc, od, .func (PySem.W.ksFn "__init__" q params (.Expr (.Call (.Attribute (.Call (.Name "super" p0) [] [] p1) "__init__" p2) (e :: es) [] p3) p4 :: rest) scope .none kV doc pm an (.ref cda) ct cc), osl⟩) (hcd : PySem.W.codeIn K (.ref cda) q = true)
    (Sc : SupScope ps scope) (h0 : ps[0]? = some me) (T : SupF P K mg scope me C f cda cc) (TC : OexC K C) (len : ∀ vs H Q E, sp vs H Q E → vs.length = ps.length)
    (hb : ∀ (us : List Value), us.length = ps.length → bindArgs (PySem.W.ksFn "__init__" q params (.Expr (.Call (.Attribute (.Call (.Name "super" p0) [] [] p1) "__init__" p2) (e :: es) [] p3) p4 :: rest) scope .none kV doc pm an (.ref cda) ct cc) ⟨us, []⟩ = pure (ps.zip us))
    (hbody : ∀ (A : Around) (outer : List Env) (s : Shared) (H : Hp) (vs : List V) (Q : VK) (E : XK), Room k (A.deeper (xEnv q scope s.heap.objs.size f cda cc)) → sp vs H Q E → ∃ ta t a,
      PA (cxSup P w K mg base ps q scope f cda cc A outer s H) (e :: es) ta ∧ PSs (cxSup P w K mg base ps q scope f cda cc A outer s H) rest t ∧ vs[0]? = some (.ref a) ∧ H a = some (exo a C none) ∧
      (∀ Q1 : List V → Hp → Prop, (∀ ws : List V, ws.length ≤ 1000 → Q1 ws H) → ta (vs.map some) H Q1) ∧ t { nx := fun _ H' => Q .non H', rt := Q } (vs.map some) H)
    (hs : ∀ L, swapsWith (.Call (.Attribute (.Call (.Name "super" p0) [] [] p1) "__init__" p2) (e :: es) [] p3) none p4.line (xEnv q scope L f cda cc) = pure false := by intro _; rfl)
    (he : ∀ L, eval (.Call (.Attribute (.Call (.Name "super" p0) [] [] p1) "__init__" p2) (e :: es) [] p3) (xEnv q scope L f cda cc) = (do
      let ov ← attributeBase (.Call (.Name "super" p0) [] [] p1) "__init__" (xEnv q scope L f cda cc) (eval (.Call (.Name "super" p0) [] [] p1) (xEnv q scope L f cda cc))
      standAt p2.atName
      let (g, first) ← holding [ov] (getMethod ov "__init__" (pl L))
      callWith p3 g first (backTo p3 (starEach (e :: es) (xEnv q scope L f cda cc))) []) := by intro _; rfl)
    (hst : ∀ L, starEach (e :: es) (xEnv q scope L f cda cc) = (false, eval e (xEnv q scope L f cda cc)) :: starEach es (xEnv q scope L f cda cc) := by intro _; rfl) (hpl : ∀ L, (backTo p3 (starEach es (xEnv q scope L f cda cc))).any (·.1) = false := by intro _; rfl) :
    FnOk P w K mg base CX0 (k + 1) f (PySem.W.ksFn "__init__" q params (.Expr (.Call (.Attribute (.Call (.Name "super" p0) [] [] p1) "__init__" p2) (e :: es) [] p3) p4 :: rest) scope .none kV doc pm an (.ref cda) ct cc) ps sp := by
  refine ⟨len, fun A outer s H args us vs Q E hr e0 hb' r hsp => ?_⟩
  have KX : K.In s.heap := e0.mod.kin.keeps fun b o e => (e0.bs b o e).1
  have lim : s.heap.NoLimit := e0.mod.nolimit.keeps fun b o e => (e0.bs b o e).1
  have hl := len _ _ _ _ hsp
  refine PySem.ks_codeAny_call_defAt (body := .Expr (.Call (.Attribute (.Call (.Name "super" p0) [] [] p1) "__init__" p2) (e :: es) [] p3) p4 :: rest) hr.depth (KX _ _ lk) rfl lim (PySem.W.codeRec_of KX hcd) rfl hb' (fun y hy => (Sc.free y hy).1) (fun y hy => Sc.par _ (List.of_mem_zip hy).1) (fun h₀ hns kp => ?_) Sc.co Sc.gen Sc.kind
  have hcell : ∃ cl cld csl D, K.lookup cc = some ⟨cl, cld, .cell (some (.ref D)), csl⟩ := let ⟨a, b, c, d⟩ := T.cell; ⟨a, b, c, _, d⟩
  have I : Inv (cxSup P w K mg base ps q scope f cda cc A outer s H) [] (vs.map some) H { s with heap := h₀, toks := s.toks + (ps.zip us).length } := inv_sup Sc hr.hd e0 hcell hl r hns kp
  obtain ⟨ta, t, a, hA, hR, hv, ha, hta, hq⟩ := hbody A outer s H vs Q E (hr.deeper _) hsp
  have fin : ∀ {σ' : L2.St} {H' : Hp} {v : V} {u : Value} {s' : Shared}, Inv (cxSup P w K mg base ps q scope f cda cc A outer s H) [] σ' H' s' → RelV v u → Q v H' → CE outer P w H s Q u s' :=
    fun {σ' H' v u s'} J rv q => ⟨v, H', J.os, J.bare, J.base, J.hok, rv, q⟩
  show PySem.wpAt (model P w) _ (.func _ (xEnv q scope s.heap.objs.size f cda cc)) (execs _ (xEnv q scope s.heap.objs.size f cda cc)) _ _ _
  have hE : ∀ {E1 : Value → Shared → Prop} {α : Type} {m : Sem α} {c : Code} {A' : Around} {Q1 : α → Shared → Prop} {s1 : Shared}, PySem.wpAt (model P w) A' c m Q1 (fun _ _ => False) s1 → PySem.wpAt (model P w) A' c m Q1 E1 s1 := fun h => ks_wpAt_mono h (fun _ _ z => z) fun _ _ z => z.elim
  refine hE (ks_wpAt_execs_cons ?_)
  refine sup_first (X := cxSup P w K mg base ps q scope f cda cc A outer s H) rfl T TC I h0 (by rw [List.getElem?_map, hv]; rfl) ha hA (hta _ fun ws hz => ⟨Nat.le_trans hz (by decide), ha, fun s' I' => ?_⟩) (hs _) (he _) (hst _) (hpl _)
  show PySem.wpAt (model P w) _ (.func _ (xEnv q scope s.heap.objs.size f cda cc)) (execs rest (xEnv q scope s.heap.objs.size f cda cc)) _ _ _
  refine wpAt_of_wpAny (wpAny_mono (hR.run [] s' _ H _ I' hq) (fun fl s2 h2 => ?_) fun _ _ z => z)
  cases fl with
  | ret u =>
    obtain ⟨v, σ', H', J, rv, q⟩ := h2
    exact fin J rv q
  | next =>
    obtain ⟨σ', H', J, q⟩ := h2
    exact fin (v := V.non) (u := Value.none) J rfl q
  | brk =>
    obtain ⟨_, _, _, q⟩ := h2
    exact False.elim q
  | cont =>
    obtain ⟨_, _, _, q⟩ := h2
    exact False.elim q
def gOst (K : PySem.W.Frag) (f : Str) (to : TE) : TG := fun y σ H Q => to σ H fun x H2 => ∃ a C : Addr, x = .ref a ∧ OexC K C ∧ PySem.W.findIn K (.ref C) f = some none ∧
  ((H2 a = some (exo a C none) ∧ ∀ dx, H2 dx = none → dx ≠ a → Q σ (upd (upd H2 dx (exd dx [(f, y)])) a (exo a C (some dx)))) ∨
    ∃ (dx : Addr) (fs : List (Str × V)), H2 a = some (exo a C (some dx)) ∧ H2 dx = some (exd dx fs) ∧ fs.length ≤ 900 ∧ Q σ (upd H2 dx (exd dx ((f, y) :: fs))))
theorem pg_ost {X : Cx} {f : Str} {o : Expr} {t : TE} {pos : Pos} (ho : PE X o t) : PG X (.Attribute o f pos) (gOst X.K f t) := by
  refine ⟨fun pins s σ H v u Q I rv h => ?_⟩
  refine PySem.W.kas_attr (thn (ho.run pins s σ H _ I h) fun ov s1 ⟨x, H1, I1, rx, a, C, ex, T, hno, q⟩ => ?_)
  subst ex
  obtain rfl : ov = Value.ref a := rx
  rcases q with ⟨ea, q⟩ | ⟨dx, fs, ea, ed, hl, q⟩
  · exact ost_new T I1 ea hno rv fun dx s' n ne J => ⟨σ, _, J, q dx n ne⟩
  · exact ost_old T I1 ea ed hl hno rv fun s' J => ⟨σ, _, J, q⟩
theorem swapped_attr2 {a b : Expr} {f g : Str} {p q p2 q2 : Pos} {vs : List Expr} {j j2 : Nat} {env : Env} : swappedStores [.Tuple [.Attribute a f p, .Attribute b g q] j p2] (.Tuple vs j2 q2) env = pure none := by
  unfold swappedStores
  simp only [List.length_cons, List.length_nil, List.filterMap_cons, List.filterMap_nil]
  repeat (first | rfl | split)
/-- one field -/
def sp1 (C : Addr) (f : Str) : Sp := fun vs H Q _ => ∃ a y, vs = [.ref a, y] ∧ H a = some (exo a C none) ∧ ∀ dx, H dx = none → dx ≠ a → Q .non (upd (upd H dx (exd dx [(f, y)])) a (exo a C (some dx)))
/-- two -/
def sp2 (C : Addr) (f g : Str) : Sp := fun vs H Q _ => ∃ a y z, vs = [.ref a, y, z] ∧ H a = some (exo a C none) ∧ ∀ p dx, H p = none → H dx = none → p ≠ a → dx ≠ a → dx ≠ p →
  Q .non (upd (upd (upd (upd H p (.tup [y, z])) dx (exd dx [(f, y)])) a (exo a C (some dx))) dx (exd dx [(g, z), (f, y)]))
section
variable {P : Program} {w : World} {K : PySem.W.Frag} {mg : Str → Option Value} {base : Heap} {q me x y f1 f2 : Str} {params : Arguments} {scope : Scope} {f cda cc C : Addr} {kV doc pm ct oc : Value} {an od : Option Addr} {osl : Array (Option Value)} {k : Nat}
  {p0 p1 p2 p3 p4 q1 q2 q3 q4 q5 q6 q7 q8 q9 q10 q11 : Pos} {j j2 : Nat}
theorem init1_ok {ar ar2 : Pos} (lk : K.lookup f = some ⟨oc, od, .func (PySem.W.ksFn "__init__" q ⟨[], [⟨me, none, ar⟩, ⟨x, none, ar2⟩], none, [], [], none, []⟩ [.Expr (.Call (.Attribute (.Call (.Name "super" p0) [] [] p1) "__init__" p2) [.Name x q1] [] p3) p4, .Assign [.Attribute (.Name me q2) f1 q3] (.Name x q4) q5] scope .none kV doc pm an (.ref cda) ct cc), osl⟩)
    (hcd : PySem.W.codeIn K (.ref cda) q = true) (Sc : SupScope [me, x] scope) (T : SupF P K mg scope me C f cda cc) (TC : OexC K C) (hno : PySem.W.findIn K (.ref C) f1 = some none) (hme : (me == ("__debug__" : Str)) = false) (hx : (x == ("__debug__" : Str)) = false) (hline : (p2.endLine == p3.line) = true) (hme2 : (me == ("__classdict__" : Str)) = false) (hx2 : (x == ("__classdict__" : Str)) = false)
    (hb : ∀ us : List Value, us.length = 2 → bindArgs (PySem.W.ksFn "__init__" q ⟨[], [⟨me, none, ar⟩, ⟨x, none, ar2⟩], none, [], [], none, []⟩ [.Expr (.Call (.Attribute (.Call (.Name "super" p0) [] [] p1) "__init__" p2) [.Name x q1] [] p3) p4, .Assign [.Attribute (.Name me q2) f1 q3] (.Name x q4) q5] scope .none kV doc pm an (.ref cda) ct cc) ⟨us, []⟩ = pure ([me, x].zip us)) :
    FnOk P w K mg base CX0 (k + 1) f (PySem.W.ksFn "__init__" q ⟨[], [⟨me, none, ar⟩, ⟨x, none, ar2⟩], none, [], [], none, []⟩ [.Expr (.Call (.Attribute (.Call (.Name "super" p0) [] [] p1) "__init__" p2) [.Name x q1] [] p3) p4, .Assign [.Attribute (.Name me q2) f1 q3] (.Name x q4) q5] scope .none kV doc pm an (.ref cda) ct cc) [me, x] (sp1 C f1) := by
  refine sup_ok lk hcd Sc rfl T TC (fun vs H Q E ⟨a, y, e, _⟩ => by rw [e]; rfl) hb (fun A outer s H vs Q E hr ⟨a, z, e, ha, hq⟩ => ?_) (he := fun L => eval_meth hline rfl)
  subst e
  have v0 : PE (cxSup P w K mg base [me, x] q scope f cda cc A outer s H) (.Name me q2) (tVar 0) := pe_var rfl (.inl (Sc.par _ (by simp))) hme hme2
  have v1 : PE (cxSup P w K mg base [me, x] q scope f cda cc A outer s H) (.Name x q4) (tVar 1) := pe_var rfl (.inl (Sc.par _ (by simp))) hx hx2
  have v2 : PE (cxSup P w K mg base [me, x] q scope f cda cc A outer s H) (.Name x q1) (tVar 1) := pe_var rfl (.inl (Sc.par _ (by simp))) hx hx2
  refine ⟨_, _, a, pa_cons v2 pa_nil, pss_one (ps_ost v0 v1), rfl, ha, fun Q1 h => ⟨z, rfl, h [z] (by simp)⟩, z, rfl, .ref a, rfl, a, C, rfl, TC, hno, .inl ⟨ha, fun dx n ne => hq dx n ne⟩⟩
theorem init2_ok {ar ar2 ar3 : Pos} (lk : K.lookup f = some ⟨oc, od, .func (PySem.W.ksFn "__init__" q ⟨[], [⟨me, none, ar⟩, ⟨x, none, ar2⟩, ⟨y, none, ar3⟩], none, [], [], none, []⟩
      [.Expr (.Call (.Attribute (.Call (.Name "super" p0) [] [] p1) "__init__" p2) [.Name x q1, .Name y q2] [] p3) p4, .Assign [.Tuple [.Attribute (.Name me q3) f1 q4, .Attribute (.Name me q5) f2 q6] j q7] (.Tuple [.Name x q8, .Name y q9] j2 q10) q11] scope .none kV doc pm an (.ref cda) ct cc), osl⟩)
    (hcd : PySem.W.codeIn K (.ref cda) q = true) (Sc : SupScope [me, x, y] scope) (T : SupF P K mg scope me C f cda cc) (TC : OexC K C) (hno1 : PySem.W.findIn K (.ref C) f1 = some none) (hno2 : PySem.W.findIn K (.ref C) f2 = some none)
    (hline : (p2.endLine == p3.line) = true) (hd : ∀ z ∈ [me, x, y], (z == ("__debug__" : Str)) = false ∧ (z == ("__classdict__" : Str)) = false)
    (hb : ∀ us : List Value, us.length = 3 → bindArgs (PySem.W.ksFn "__init__" q ⟨[], [⟨me, none, ar⟩, ⟨x, none, ar2⟩, ⟨y, none, ar3⟩], none, [], [], none, []⟩
      [.Expr (.Call (.Attribute (.Call (.Name "super" p0) [] [] p1) "__init__" p2) [.Name x q1, .Name y q2] [] p3) p4, .Assign [.Tuple [.Attribute (.Name me q3) f1 q4, .Attribute (.Name me q5) f2 q6] j q7] (.Tuple [.Name x q8, .Name y q9] j2 q10) q11] scope .none kV doc pm an (.ref cda) ct cc) ⟨us, []⟩ = pure ([me, x, y].zip us)) :
    FnOk P w K mg base CX0 (k + 1) f (PySem.W.ksFn "__init__" q ⟨[], [⟨me, none, ar⟩, ⟨x, none, ar2⟩, ⟨y, none, ar3⟩], none, [], [], none, []⟩
      [.Expr (.Call (.Attribute (.Call (.Name "super" p0) [] [] p1) "__init__" p2) [.Name x q1, .Name y q2] [] p3) p4, .Assign [.Tuple [.Attribute (.Name me q3) f1 q4, .Attribute (.Name me q5) f2 q6] j q7] (.Tuple [.Name x q8, .Name y q9] j2 q10) q11] scope .none kV doc pm an (.ref cda) ct cc) [me, x, y] (sp2 C f1 f2) := by
  refine sup_ok lk hcd Sc rfl T TC (fun vs H Q E ⟨a, y, z, e, _⟩ => by rw [e]; rfl) hb (fun A outer s H vs Q E hr ⟨a, b, c, e, ha, hq⟩ => ?_) (he := fun L => eval_meth hline rfl)
  subst e
  have v0 : ∀ p, PE (cxSup P w K mg base [me, x, y] q scope f cda cc A outer s H) (.Name me p) (tVar 0) := fun p => pe_var rfl (.inl (Sc.par _ (by simp))) (hd me (by simp)).1 (hd me (by simp)).2
  have v1 : ∀ p, PE (cxSup P w K mg base [me, x, y] q scope f cda cc A outer s H) (.Name x p) (tVar 1) := fun p => pe_var rfl (.inl (Sc.par _ (by simp))) (hd x (by simp)).1 (hd x (by simp)).2
  have v2 : ∀ p, PE (cxSup P w K mg base [me, x, y] q scope f cda cc A outer s H) (.Name y p) (tVar 2) := fun p => pe_var rfl (.inl (Sc.par _ (by simp))) (hd y (by simp)).1 (hd y (by simp)).2
  refine ⟨_, _, a, pa_cons (v1 _) (pa_cons (v2 _) pa_nil), pss_one (ps_asg (pe_tup (pa_cons (v1 _) (pa_cons (v2 _) pa_nil))) (pg_tup rfl (pgs_cons (pg_ost (v0 _)) (pgs_cons (pg_ost (v0 _)) pgs_nil))) (hw := swapped_attr2)), rfl, ha, fun Q1 h => ⟨b, rfl, c, rfl, h [b, c] (by simp)⟩, ?_⟩
  refine ⟨b, rfl, c, rfl, by show 2 ≤ sizeLine; decide, fun p hp => ⟨p, [b, c], rfl, SqT.of upd_same, rfl, b, [c], rfl, .ref a, rfl, a, C, rfl, TC, hno1, .inl ⟨by rw [upd_ne (fun z => by rw [z, hp] at ha; cases ha)]; exact ha, fun dx n ne => ?_⟩⟩⟩
  have hpa : p ≠ a := fun z => by rw [z, ha] at hp; cases hp
  have hdp : dx ≠ p := fun z => by rw [z, upd_same] at n; cases n
  rw [upd_ne hdp] at n
  refine ⟨c, [], rfl, .ref a, rfl, a, C, rfl, TC, hno2, .inr ⟨dx, [(f1, b)], upd_same, by rw [upd_ne ne, upd_same], by simp, rfl, hq p dx hp n hpa ne hdp⟩⟩
end
/-- what is wanted of an exception raised here -/
def LT (X : Cx) (Γ : Act) (EX : Exc → Rho → Mem → Prop) : Prop := ∃ W : WX, Takes X W ∧ ∀ x ρ μ, EX x ρ μ → ∀ σ F S H c od, ER X.K Γ σ ρ F S H μ → XRep X.K S H c od x → W c od σ H
theorem LT.lx {X : Cx} {Γ : Act} {EX : Exc → Rho → Mem → Prop} (l : LT X Γ EX) : LX X Γ (L2.CX X.prog X.w) EX := by
  obtain ⟨W, tk, h⟩ := l
  exact ⟨fun σ => WE W σ, fun σ => passAt tk σ, fun x ρ μ q σ F S H c od r xr => h x ρ μ q σ F S H c od r xr⟩
/-- what is there is kept, more may lie beside -/
theorem WR.more {K : PySem.W.Frag} {F S H H' : Hp} {μ : Mem} (w : WR K F S H μ) (k : ∀ b o, H b = some o → H' b = some o) : WR K F S H' μ := by
  refine ⟨fun b o e => k b o (w.sub b o e), fun a o e => ⟨k a o (w.frm a o e).1, (w.frm a o e).2⟩, fun a m e => ⟨(w.mem a m e).1, ?_⟩, w.frl, w.stt⟩
  have h := (w.mem a m e).2
  obtain ⟨o, ho⟩ := h.there
  exact h.mono (Same.refl _) ((k a o ho).trans ho.symm)
theorem WR.more1 {K : PySem.W.Frag} {F S H : Hp} {μ : Mem} {p : Addr} (w : WR K F S H μ) (h : H p = none) (o : HO) : WR K F S (upd H p o) μ := w.more fun b u e => by rw [upd_ne (ne_of_none e h)]; exact e
/-- the exception's class and its fields, in the order of the parameters -/
structure XCls (P : Program) (w : World) (K : PySem.W.Frag) (mg : Str → Option Value) (base : Heap) (x : Str) (C : Addr) (n : Nat) (fs : List D → List (Str × D)) : Prop where
  glo : mg x = some (.ref C)
  dat : (n = 0 ∧ (∀ ds, fs ds = []) ∧ PySem.W.excIn K C He.veBase "ValueError.__new__" = true ∧ PySem.W.keepIn K (.ref C) = true ∧ PySem.W.subIn K (.ref C) (.type "BaseException") = some true ∧ PySem.W.typeIn K (.ref C) = some (.type "type")) ∨
    (OexC K C ∧ ∃ fI fd ps sp, FnOk P w K mg base CX0 1 fI fd ps sp ∧ Binds K fd ps [] ∧ PySem.W.findIn K (.ref C) "__init__" = some (some (.ref fI)) ∧ PySem.W.typeIn K (.ref fI) = some (.type "function") ∧
      ((n = 1 ∧ ∃ f, sp = sp1 C f ∧ ∀ a, fs [a] = [(f, a)]) ∨ (n = 2 ∧ ∃ f g, sp = sp2 C f g ∧ ∀ a b, fs [a, b] = [(g, b), (f, a)])))
theorem passes00 {X : Cx} : Passes CX0 X (fun _ _ _ => False) := fun _ _ _ _ _ _ _ z => z.elim
theorem rpall3 {K : PySem.W.Frag} {S : Hp} {xs : List V} : ∀ {ds : List D}, RpAll K S xs ds → xs.length = ds.length := fun r => r.length
/-- raise X(e, ..) -/
def dRaise (C : Addr) (n : Nat) (fs : List D → List (Str × D)) (EX : Exc → Rho → Mem → Prop) (t : DTA) : DTS := fun _ ρ μ => t ρ μ fun ds μ1 => ds.length = n ∧ EX ⟨C, fs ds⟩ ρ μ1
section
variable {X : Cx} {Γ : Act} {x : Str} {C : Addr} {n k : Nat} {fs : List D → List (Str × D)} {EX : Exc → Rho → Mem → Prop} {e : Expr} {es : List Expr} {t : DTA} {p pos pos' : Pos}
theorem ds_raise (c : XCls X.prog X.w X.K X.mg X.base x C n fs) (hn : n ≠ 0) (hr : Room (k + 2) X.A) (hg : Gl X x) (hc : X.calm = true) (lt : LT X Γ EX) (ha : DA X Γ (e :: es) t)
    (hdb : (x == ("__debug__" : Str)) = false := by decide) (he : starEach (e :: es) X.env = (false, eval e X.env) :: starEach es X.env := by rfl) (hpl : (backTo pos (starEach es X.env)).any (·.1) = false := by rfl) :
    DS X Γ (.Raise (some (.Call (.Name x p) (e :: es) [] pos)) none pos') (dRaise C n fs EX t) := by
  obtain ⟨W, tk, hW⟩ := lt
  rcases c.dat with ⟨h0, _⟩ | ⟨T, fI, fd, ps, sp, F1, hb, iC, tI, hsp⟩
  · exact absurd h0 hn
  · refine ⟨PS.imp (ps_raise hc tk (pmk_oex T iC tI F1 (hr.mono (by omega)) hb .nil passes00 hg c.glo ha.pa hdb he hpl)) fun Dn σ H ⟨F, S, μ, ρ, En, r, q, a⟩ => ?_⟩
    refine ⟨F, S, μ, ρ, _, r, q, fun ds μ1 ⟨hl, q1⟩ vs S1 H1 s1 w1 p1 => ?_⟩
    have hlv := p1.length
    refine ⟨?_, fun a1 ha1 => ?_⟩
    · rcases hsp with ⟨rfl, _⟩ | ⟨rfl, _⟩ <;> omega
    rw [List.append_nil]
    have done : ∀ (d : Addr) (vfs : List (Str × V)) (H2 : Hp), (∀ b o, H1 b = some o → H2 b = some o) → H2 d = some (.xd vfs) → RpKV X.K S1 vfs (fs ds) → W (.ref C) (some d) σ H2 := fun d vfs H2 k hd hv =>
      hW _ ρ μ1 q1 σ F S1 H2 _ _ (r.later s1 (w1.more k)) ⟨rfl, .inr ⟨d, vfs, rfl, hd, hv⟩⟩
    rcases hsp with ⟨rfl, f, rfl, hf⟩ | ⟨rfl, f, g, rfl, hf⟩
    · match ds, hl with
      | [d], _ =>
        obtain ⟨v, ev, rv⟩ := rpall1 p1
        subst ev
        refine ⟨a1, v, rfl, upd_same, fun dx hdx hne => ⟨rfl, dx, [(f, v)], upd_same, by rw [upd_ne hne, upd_same], by rw [upd_ne hne] at hdx; exact hdx, ?_⟩⟩
        rw [upd_ne hne] at hdx
        refine done dx [(f, v)] _ (fun b o eb => ?_) upd_same (by rw [hf]; exact .cons rv .nil)
        rw [upd_ne (ne_of_none eb hdx), L2.del_ne (ne_of_none eb ha1), upd_ne (ne_of_none eb ha1), upd_ne (ne_of_none eb hdx), upd_ne (ne_of_none eb ha1)]
        exact eb
    · match ds, hl with
      | [d, d2], _ =>
        obtain ⟨v, v2, ev, rv, rv2⟩ := rpall2 p1
        subst ev
        refine ⟨a1, v, v2, rfl, upd_same, fun pp dx hpp hdx hpne hne hdp => ⟨rfl, dx, [(g, v2), (f, v)], by rw [upd_ne (Ne.symm hne), upd_same], upd_same, by rw [upd_ne hne] at hdx; exact hdx, ?_⟩⟩
        rw [upd_ne hne] at hdx
        rw [upd_ne hpne] at hpp
        refine done dx [(g, v2), (f, v)] _ (fun b o eb => ?_) upd_same (by rw [hf]; exact .cons rv2 (.cons rv .nil))
        rw [upd_ne (ne_of_none eb hdx), L2.del_ne (ne_of_none eb ha1), upd_ne (ne_of_none eb hdx), upd_ne (ne_of_none eb ha1), upd_ne (ne_of_none eb hdx), upd_ne (ne_of_none eb hpp), upd_ne (ne_of_none eb ha1)]
        exact eb
/-- raise X() -/
theorem pmk_none {p pos : Pos} (q : PySem.W.excIn X.K C He.veBase "ValueError.__new__" = true) (gC : X.mg x = some (.ref C)) (kC : PySem.W.keepIn X.K (.ref C) = true) (r : Raises X (.ref C)) (hg : Gl X x)
    (hdb : (x == ("__debug__" : Str)) = false := by decide) : PMk X (.Call (.Name x p) [] [] pos) (fun _ H Q => Q (.ref C) none H) := by
  intro pins s σ H Q I h
  refine wpAny_Call_Name_kw (ld_glob I hg gC ?_ hdb)
  refine PySem.W.callWith_K0 I.kIn kC ?_
  obtain ⟨bm, N, nm, qn, bs, hdct, sn, sub, ab, col, dd, k0, k1, k2, k3, k5, mN, hC, hN, hni, T⟩ := exc_obj I.kIn q
  refine wpAny_call_exc_subT F.excBase_ValueError T hC hN hni (fun h' e hm => ?_) (by show 0 ≤ sizeLine; rw [sizeLine_eq]; omega)
  exact mk_of I hm r h (I.hok.gone hm.new)
def dRaise0 (C : Addr) (EX : Exc → Rho → Mem → Prop) : DTS := fun _ ρ μ => EX ⟨C, []⟩ ρ μ
theorem ds_raise0 (c : XCls X.prog X.w X.K X.mg X.base x C 0 fs) (hg : Gl X x) (hc : X.calm = true) (lt : LT X Γ EX)
    (hdb : (x == ("__debug__" : Str)) = false := by decide) : DS X Γ (.Raise (some (.Call (.Name x p) [] [] pos)) none pos') (dRaise0 C EX) := by
  obtain ⟨W, tk, hW⟩ := lt
  rcases c.dat with ⟨_, hfs, q, kC, e1, e2⟩ | ⟨T, fI, fd, ps, sp, F1, hb, iC, tI, hsp⟩
  · exact ⟨PS.imp (ps_raise hc tk (pmk_none q c.glo kC (raises_own e1 e2) hg hdb)) fun Dn σ H ⟨F, S, μ, ρ, En, r, q, a⟩ => hW _ ρ μ q σ F S H _ _ r ⟨rfl, .inl ⟨rfl, rfl⟩⟩⟩
  · rcases hsp with ⟨h, _⟩ | ⟨h, _⟩ <;> cases h
end
end DL
set_option Elab.async false
set_option linter.all false
set_option maxRecDepth 100000
set_option maxHeartbeats 2000000
namespace DL
open PySem PySem.Spec PyProof.Rows L2
/-- a clause: its class, its name's slot, its suite's reading -/
structure Cl where
  c : Value
  nm : Option (Str × Nat)
  ts : Addr → Value → Option Addr → TS
/-- behind a suite its name is gone -/
def endsNm (D : Ends) : Option (Str × Nat) → Ends
  | none => D
  | some (_, i) => { nx := fun σ' H' => D.nx (σ'.set i none) H', rt := D.rt, bk := fun σ' H' => D.bk (σ'.set i none) H', ct := fun σ' H' => D.ct (σ'.set i none) H' }
def slotNm (a : Addr) (σ : L2.St) : Option (Str × Nat) → L2.St
  | none => σ
  | some (_, i) => σ.set i (some (.ref a))
/-- what the clauses wish of an exception of the body -/
def wCls (K : PySem.W.Frag) (n : Nat) (Wout : WX) (D : Ends) : List Cl → WX
  | [] => Wout
  | ⟨c, nm, ts⟩ :: r => fun cls d σ H => ∃ b, PySem.W.exmOne K cls c = some b ∧ (b = true → σ.length = n → ∀ a, H a = none → ts a cls d (endsNm D nm) (slotNm a σ nm) H) ∧ (b = false → wCls K n Wout D r cls d σ H)
inductive Hds (X : Cx) : List ExceptHandler → List Cl → Prop
  | nil : Hds X [] []
  | cons {x : Str} {nm : Option (Str × Nat)} {c : Value} {ts : Addr → Value → Option Addr → TS} {b₀ : Stmt} {suite : List Stmt} {np hpos : Pos} {hds : List ExceptHandler} {l : List Cl} (hc : Names X x c)
      (hn : ∀ n i, nm = some (n, i) → X.N[i]? = some n ∧ X.env.kindOf n = some .local)
      (hsu : ∀ (a : Addr) (oe : Obj) (cls : Value) (d : Option Addr) (pn : List (Addr × Obj)), Zc cls d oe → (∃ vs, oe.data = .fields vs) → PSs (X.suite a ((a, oe) :: pn)) (b₀ :: suite) (ts a cls d)) (r : Hds X hds l) :
      Hds X (.ExceptHandler (some (.Name x np)) (nm.map (·.1)) (b₀ :: suite) hpos :: hds) (⟨c, nm, ts⟩ :: l)
theorem ps_try_cls {X : Cx} {body : List Stmt} {h₀ : ExceptHandler} {hds : List ExceptHandler} {l : List Cl} {pos : Pos} {tb : WX → TS} {Wout : WX} (hs : X.stack = X.env :: X.outer) (hf : X.env.frame = some X.env.locals) (hN : X.N.Nodup) (tk : Takes X Wout)
    (hb : ∀ (W : WX) (pn : List (Addr × Obj)) (xe : Value → Shared → Prop), Takes (X.tr pn xe) W → PassesOwn (model X.prog X.w) X.A X.env xe → PSs (X.tr pn xe) body (tb W))
    (hh : Hds X (h₀ :: hds) l) : PS X (.Try body (h₀ :: hds) [] [] pos) (fun D σ H => tb (wCls X.K X.N.length Wout D l) D σ H) := by
  refine ⟨fun pins s σ H D I h => ?_⟩
  have okX := I.ok
  have hfr : X.A.frames = some (X.env :: X.outer) := by rw [okX.frames, hs]
  refine wpAny_Try_except ?_
  have hbr := (hb (wCls X.K X.N.length Wout D l) (X.pn ++ pins) (fun e s₁ => wpAny (model X.prog X.w) X.A (noteFrame e X.env) (fun _ s₂ => wpAny (model X.prog X.w) X.A (setFlight e none) (fun _ s₃ => wpAny (model X.prog X.w) X.A (handleBy e X.env (h₀ :: hds)) (SP X pins D) X.xe s₃) X.xe s₂) X.xe s₁)
    (fun u t xx => ?_) PassesOwn.looking).run [] s σ H D (I.toTry _) h
  · refine wpAny_mono hbr (fun fl s1 hsp => ?_) fun _ _ he => he
    cases fl with
    | next =>
      obtain ⟨σ1, H1, J, q⟩ := hsp
      exact wpAny_execs_nil ⟨σ1, H1, J.ofTry okX, q⟩
    | brk =>
      obtain ⟨σ1, H1, J, q⟩ := hsp
      exact ⟨σ1, H1, J.ofTry okX, q⟩
    | cont =>
      obtain ⟨σ1, H1, J, q⟩ := hsp
      exact ⟨σ1, H1, J.ofTry okX, q⟩
    | ret u =>
      obtain ⟨v, σ1, H1, J, rr, q⟩ := hsp
      exact ⟨v, σ1, H1, J.ofTry okX, rr, q⟩
  · obtain ⟨a, B, sI, pins1, σ1, H1, cls, d, rfl, Jt, nb, up, sky, na, os, ag, ww⟩ := xx
    have J : Inv X pins σ1 H1 sI := Jt.ofTry okX
    have skyT : Sky B (X.env :: X.outer) a (Zc cls d) X.env.locals t.heap := by rw [← hs]; exact sky
    show wpAny (model X.prog X.w) X.A (noteFrame (.ref a) X.env) _ _ _
    refine Sky.land Zc.steady hfr hf skyT fun hA flA upA => ?_
    have JA : Inv X pins σ1 H1 { t with heap := hA } := J.landed nb flA.1 (up.trans upA) os ag
    obtain ⟨oA, vA, heA, hzA, hdA⟩ := flA.there
    have nfr : a ∉ frs (X.env :: X.outer) := fun hm => by
      obtain ⟨_, o2, e2, hnf⟩ := flA.2.2.1.mem hm
      rw [heA] at e2; cases e2
      exact hnf _ hdA
    have nL : a ≠ X.env.locals := fun z => nfr (List.mem_filterMap.mpr ⟨X.env, List.mem_cons_self, by rw [hf, z]⟩)
    have nF : a ∉ X.fs := fun hm => by
      obtain ⟨e, he, q⟩ := List.mem_filterMap.mp hm
      exact nfr (List.mem_filterMap.mpr ⟨e, List.mem_cons_of_mem _ he, q⟩)
    have SA := JA.suite heA hdA na nL nF
    have go : ∀ {hs2 : List ExceptHandler} {l2 : List Cl}, Hds X hs2 l2 → wCls X.K X.N.length Wout D l2 cls d σ1 H1 → wpAny (model X.prog X.w) X.A (handleBy (.ref a) X.env hs2) (SP X pins D) X.xe { t with heap := hA } := by
      intro hs2 l2 hk
      induction hk with
      | nil =>
        intro w
        refine wpAny_handleBy_nil ?_
        obtain ⟨_, _, _, ob, vs, T, oT, ts2, he, hz, hd, h1, _⟩ := id flA
        unfold PySem.passOn
        refine wpAny_bind (wpAny_field he hd h1 ?_)
        rw [if_neg (show ¬ ((Value.ref T == Value.none) = true) from by simp)]
        have last : wpAny (model X.prog X.w) X.A (setFlight (.ref a) X.env.frame) (fun _ s4 => wpAny (model X.prog X.w) X.A (throw (.ref a) : Sem Flow) (SP X pins D) X.xe s4) X.xe { t with heap := hA } := by
          rw [hf]
          exact HandSPX.setFlight_upZ flA fun hB hhB upB => wpAny_throw (tk _ _ ⟨a, B, sI, pins, σ1, H1, cls, d, rfl, J, nb, (up.trans upA).trans upB, .inr (.inr (by rw [hs]; exact hhB)), na, os, ag, w⟩)
        first
          | exact wpAny_bind (wpAny_pure (wpAny_bind last))
          | exact wpAny_bind last
      | @cons x nm c ts b₀ suite np hpos hds3 l3 hc hn hsu r ih =>
        intro w
        obtain ⟨b, hb1, hyes, hno⟩ := w
        have LT : PySem.W.Looks (model X.prog X.w) hA (typeOf (.ref a)) cls := fun A Q E s k q => wpAny_typeOf_ref (k _ _ heA) (by rw [hzA.1]; exact q)
        have LM := PySem.W.exm_one (M := model X.prog X.w) (JA.kIn) LT hb1
        have asks : ∀ {Q : Value → Shared → Prop} {E : Value → Shared → Prop}, Q c { t with heap := hA } → wpAny (model X.prog X.w) (X.A.mark (some (.ref a))) (eval (.Name x np) X.env) Q E { t with heap := hA } := fun {Q E} q => by
          obtain ⟨hg, hdbg, hm | ⟨hm, hv, hnn⟩⟩ := hc
          · exact ld_glob (X := X.suite a ((a, oA) :: (X.pn ++ pins))) SA hg hm q hdbg
          · exact ld_blt (X := X.suite a ((a, oA) :: (X.pn ++ pins))) SA hg hm hv q hnn hdbg
        refine wpAny_handleBy_cons (codeAny_handlers_test (asks (LM.here ?_))) (by intro q; cases q)
        cases b with
        | true =>
          cases nm with
          | none =>
            refine codeAny_handlers_suite ?_
            refine HandSPX.lands_againZ flA fun hB flB upB => ?_
            have JB : Inv X pins σ1 H1 { t with heap := hB } := J.landed nb flB.1 ((up.trans upA).trans upB) os ag
            obtain ⟨oB, vB, heB, hzB, hdB⟩ := flB.there
            have SB := JB.suite heB hdB na nL nF
            refine wpAny_mono ((hsu a oB cls d (X.pn ++ pins) hzB ⟨_, hdB⟩).run [] _ _ H1 _ SB (hyes rfl J.len a na)) (fun fl s6 hsp => ?_) (fun _ _ z => False.elim z)
            cases fl with
            | next => obtain ⟨σ6, H6, S6, q6⟩ := hsp; exact ⟨_, _, S6.unsuite okX, q6⟩
            | brk => obtain ⟨σ6, H6, S6, q6⟩ := hsp; exact ⟨_, _, S6.unsuite okX, q6⟩
            | cont => obtain ⟨σ6, H6, S6, q6⟩ := hsp; exact ⟨_, _, S6.unsuite okX, q6⟩
            | ret u => obtain ⟨v6, σ6, H6, S6, r6, q6⟩ := hsp; exact ⟨_, _, _, S6.unsuite okX, r6, q6⟩
          | some ni =>
            obtain ⟨n, i⟩ := ni
            obtain ⟨hi, hln⟩ := hn n i rfl
            refine codeAny_handlers_suite_as ?_
            refine HandSPX.lands_againZ flA fun hB flB upB => ?_
            have JB : Inv X pins σ1 H1 { t with heap := hB } := J.landed nb flB.1 ((up.trans upA).trans upB) os ag
            obtain ⟨oB, vB, heB, hzB, hdB⟩ := flB.there
            have SB := JB.suite heB hdB na nL nF
            refine store_ok (X := X.suite a ((a, oB) :: (X.pn ++ pins))) (v := .ref a) SB hN hi (.inl hln) rfl (fun s5 S5 => ?_) (.inr hln)
            refine wpAny_mono ((hsu a oB cls d (X.pn ++ pins) hzB ⟨_, hdB⟩).run [] s5 _ H1 _ S5 (hyes rfl J.len a na)) (fun fl s6 hsp => ?_) (fun _ _ z => False.elim z)
            have goes : ∀ {σ6 : L2.St} {H6 : Hp} {Q : Shared → Prop}, Inv (X.suite a ((a, oB) :: (X.pn ++ pins))) [] σ6 H6 s6 → (∀ s7, Inv X pins (σ6.set i none) H6 s7 → Q s7) →
              wpAny (model X.prog X.w) X.A (do bindName X.env n .none; unbindBehindTheSuite X.env n hpos) (fun _ s7 => Q s7) X.xe s6 := fun {σ6 H6 Q} S6 hq => gone_ok (S6.unsuite okX) hN hi hln hq
            cases fl with
            | next => obtain ⟨σ6, H6, S6, q6⟩ := hsp; exact goes S6 fun s7 J7 => ⟨_, _, J7, q6⟩
            | brk => obtain ⟨σ6, H6, S6, q6⟩ := hsp; exact goes S6 fun s7 J7 => ⟨_, _, J7, q6⟩
            | cont => obtain ⟨σ6, H6, S6, q6⟩ := hsp; exact goes S6 fun s7 J7 => ⟨_, _, J7, q6⟩
            | ret u => obtain ⟨v6, σ6, H6, S6, r6, q6⟩ := hsp; exact goes S6 fun s7 J7 => ⟨_, _, _, J7, r6, q6⟩
        | false =>
          show wpAny _ X.A (handleBy (.ref a) X.env hds3) _ _ _
          exact ih (hno rfl)
    exact go hh ww
structure HC where
  C : Addr
  w : Str
  fs : List Str
def hQ (h : HC) (cls : Value) (d : Option Addr) (H : Hp) (Q : VK) : Prop := ∃ vs : List V, vs.length = h.fs.length ∧ (h.fs = [] ∨ (cls = .ref h.C ∧ ∃ dd xfs, d = some dd ∧ H dd = some (.xd xfs) ∧ h.fs.map (fun f => xfs.lookup f) = vs.map some)) ∧
  ∀ p, H p = none → ∀ p2, upd H p (.tup (.str h.w :: vs)) p2 = none → Q (.ref p2) (upd (upd H p (.tup (.str h.w :: vs))) p2 (.tup [.bl false, .ref p]))
def hE (K : PySem.W.Frag) (Q : VK) : List HC → XK
  | [] => fun _ _ _ => False
  | h :: r => fun cls d H => ∃ b, PySem.W.exmOne K cls (.ref h.C) = some b ∧ (b = true → hQ h cls d H Q) ∧ (b = false → hE K Q r cls d H)
def hTs (h : HC) : Addr → Value → Option Addr → TS := fun a cls d D σ H => (h.fs = [] ∨ σ[1]? = some (some (.ref a))) ∧ hQ h cls d H D.rt
section
variable {X : Cx} {a : Addr} {oe : Obj} {cls : Value} {d : Option Addr} {pn : List (Addr × Obj)} {C : Addr} {w n f g : Str} {j0 j1 k1 k2 : Nat} {p0 p1 p2 p3 p4 p5 p6 p7 q0 q1 : Pos}
theorem su0 : PSs (X.suite a ((a, oe) :: pn)) [.Return (some (.Tuple [.Constant (.bool false) j0 p0, .Tuple [.Constant (.str w) j1 p1] k1 q0] k2 q1)) p2] (hTs ⟨C, w, []⟩ a cls d) :=
  PSs.imp (pss_one (ps_ret (pe_tup (pa_cons pe_bl (pa_cons (pe_tup (pa_cons pe_str pa_nil)) pa_nil))))) fun D σ H ⟨_, vs, hl, _, q⟩ => by
    obtain rfl : vs = [] := List.eq_nil_of_length_eq_zero hl
    exact ⟨by show 1 ≤ sizeLine; decide, fun p hp => ⟨by show 2 ≤ sizeLine; decide, fun p2 hp2 => q p hp p2 hp2⟩⟩
theorem su1 (T : XfC X.K C) (hno : PySem.W.findIn X.K (.ref C) f = some none) (hN : X.N[1]? = some n) (hv : Vis X.env.scope n) (hd : (n == ("__debug__" : Str)) = false) (hcd : (n == ("__classdict__" : Str)) = false) (hz : Zc cls d oe) (hf : ∃ vs, oe.data = .fields vs)
    (hb : attributeBase (.Name n p3) f X.env (eval (.Name n p3) X.env) = eval (.Name n p3) X.env) :
    PSs (X.suite a ((a, oe) :: pn)) [.Return (some (.Tuple [.Constant (.bool false) j0 p0, .Tuple [.Constant (.str w) j1 p1, .Attribute (.Name n p3) f p4] k1 q0] k2 q1)) p2] (hTs ⟨C, w, [f]⟩ a cls d) :=
  PSs.imp (pss_one (ps_ret (pe_tup (pa_cons pe_bl (pa_cons (pe_tup (pa_cons pe_str (pa_cons (pe_xf T hno hz hf (pe_var (i := 1) hN hv hd hcd) hb) pa_nil))) pa_nil))))) fun D σ H ⟨hs, vs, hl, hq, q⟩ => by
    rcases hs with hs | hs
    · cases hs
    rcases hq with hq | ⟨e, dd, xfs, e2, e3, e4⟩
    · cases hq
    match vs, hl with
    | [v], _ =>
      have e5 : xfs.lookup f = some v := by simpa using e4
      exact ⟨_, hs, rfl, e, dd, xfs, v, e2, e3, e5, by show 2 ≤ sizeLine; decide, fun p hp => ⟨by show 2 ≤ sizeLine; decide, fun p2 hp2 => q p hp p2 hp2⟩⟩
theorem su2 (T : XfC X.K C) (hno : PySem.W.findIn X.K (.ref C) f = some none) (hno2 : PySem.W.findIn X.K (.ref C) g = some none) (hN : X.N[1]? = some n) (hv : Vis X.env.scope n) (hd : (n == ("__debug__" : Str)) = false) (hcd : (n == ("__classdict__" : Str)) = false) (hz : Zc cls d oe) (hf : ∃ vs, oe.data = .fields vs)
    (hb : attributeBase (.Name n p3) f X.env (eval (.Name n p3) X.env) = eval (.Name n p3) X.env) (hb2 : attributeBase (.Name n p5) g X.env (eval (.Name n p5) X.env) = eval (.Name n p5) X.env) :
    PSs (X.suite a ((a, oe) :: pn)) [.Return (some (.Tuple [.Constant (.bool false) j0 p0, .Tuple [.Constant (.str w) j1 p1, .Attribute (.Name n p3) f p4, .Attribute (.Name n p5) g p6] k1 q0] k2 q1)) p2] (hTs ⟨C, w, [f, g]⟩ a cls d) :=
  PSs.imp (pss_one (ps_ret (pe_tup (pa_cons pe_bl (pa_cons (pe_tup (pa_cons pe_str (pa_cons (pe_xf T hno hz hf (pe_var (i := 1) hN hv hd hcd) hb) (pa_cons (pe_xf T hno2 hz hf (pe_var (i := 1) hN hv hd hcd) hb2) pa_nil)))) pa_nil))))) fun D σ H ⟨hs, vs, hl, hq, q⟩ => by
    rcases hs with hs | hs
    · cases hs
    rcases hq with hq | ⟨e, dd, xfs, e2, e3, e4⟩
    · cases hq
    match vs, hl with
    | [v, u], _ =>
      have e5 : xfs.lookup f = some v ∧ xfs.lookup g = some u := by simpa using e4
      exact ⟨_, hs, rfl, e, dd, xfs, v, e2, e3, e5.1, _, hs, rfl, e, dd, xfs, u, e2, e3, e5.2, by show 3 ≤ sizeLine; decide, fun p hp => ⟨by show 2 ≤ sizeLine; decide, fun p2 hp2 => q p hp p2 hp2⟩⟩
end
/-- what is made of the lambda's reading -/
def TTh (K : PySem.W.Frag) (l : List HC) : (XK → Hp → VK → Prop) → Hp → VK → Prop := fun tl H Q => tl (hE K Q l) H fun v H' => [V.bl true, v].length ≤ sizeLine ∧ ∀ p, H' p = none → Q (.ref p) (upd H' p (.tup [V.bl true, v]))
/-- the clauses, over the context's K -/
def clsOf (l : List (HC × Bool)) : List Cl := l.map fun h => ⟨.ref h.1.C, if h.2 then some ("error", 1) else none, hTs h.1⟩
theorem wCls_of {K : PySem.W.Frag} {D : Ends} {Wout : WX} : ∀ {l : List (HC × Bool)}, (∀ h ∈ l, h.2 = true ∨ h.1.fs = []) → ∀ {cls : Value} {d : Option Addr} {σ : L2.St} {H : Hp}, hE K D.rt (l.map fun z : HC × Bool => z.1) cls d H → wCls K 2 Wout D (clsOf l) cls d σ H
  | [], _, _, _, _, _, h => h.elim
  | (h, b) :: l, hb, cls, d, σ, H, ⟨bb, e1, e2, e3⟩ => by
    refine ⟨bb, e1, fun z hl a ha => ?_, fun z => wCls_of (fun h' hm => hb h' (List.mem_cons_of_mem _ hm)) (e3 z)⟩
    have q := e2 z
    cases b with
    | false =>
      have hfs : h.fs = [] := by
        rcases hb (h, false) List.mem_cons_self with x | x
        · cases x
        · exact x
      exact ⟨.inl hfs, q⟩
    | true => exact ⟨.inr (by show (σ.set 1 _)[1]? = _; rw [List.getElem?_set_self (by omega)]), q⟩
theorem heard_gives {X : Cx} {x q : Str} {sg : Scope} {g : Addr} {cdg : Value} {hds : List ExceptHandler} {h0 : ExceptHandler} {l : List (HC × Bool)} {j k : Nat} {p1 p2 p3 p4 p5 p6 : Pos} (hb : ∀ h ∈ l, h.2 = true ∨ h.1.fs = [])
    (hh : ∀ (s : Shared) (H : Hp), Hds (cxOf C8.CX0 X.prog X.w X.K X.mg X.base ["act", "error"] x sg g cdg X.A X.stack s H C8.E0).nox (h0 :: hds) (clsOf l)) :
    LamX.GivesTo X ["act", "error"] x sg g cdg [.Try [.Return (some (.Tuple [.Constant (.bool true) j p1, .Call (.Name "act" p2) [] [] p3] k p4)) p5] (h0 :: hds) [] [] p6] "act" q (TTh X.K (l.map fun z : HC × Bool => z.1)) := by
  intro f c' s H Q tl act hc h
  refine ⟨_, pss_one (ps_try_cls (X := (cxOf C8.CX0 X.prog X.w X.K X.mg X.base ["act", "error"] x sg g cdg X.A X.stack s H C8.E0).nox) (l := clsOf l)
      (tb := fun W D σ H => ∃ Ech : XK, (∀ cls d σ' H', Ech cls d H' → W cls d σ' H') ∧ σ[0]? = some (some (.ref f)) ∧ H c' = some (LamX.CodeO c' q) ∧ tl Ech H fun v H' => [V.bl true, v].length ≤ sizeLine ∧ ∀ p, H' p = none → D.rt (.ref p) (upd H' p (.tup [V.bl true, v])))
      rfl rfl (show (["act", "error"] : List Str).Nodup by decide) LamX.takes0 (fun W pn xe tk _ => ?_) (hh s H)), ?_⟩
  · refine ⟨fun pins s' σ H' D I h' => ?_⟩
    obtain ⟨Ech, hW, h1, h2, h3⟩ := h'
    have hp := act W pn xe Ech p2 p3 tk hW
    exact (pss_one (ps_ret (pos := p5) (pe_tup (pos := p4) (x1 := k) (pa_cons (pe_bl (b := true) (j := j) (pos := p1)) (pa_cons hp pa_nil))))).run pins s' σ H' D I ⟨h1, h2, h3⟩
  · exact ⟨hE X.K Q (l.map fun z : HC × Bool => z.1), fun cls d σ' H' q => wCls_of hb q, rfl, hc, h⟩
abbrev TabsD := List (Addr × Str)
/-- these tables, no others -/
def HasTabs (T : TabsD) (μ : Mem) : Prop := (∀ p ∈ T, μ p.1 = some (.tab p.2)) ∧ ∀ a q, μ a = some (.tab q) → (a, q) ∈ T
theorem MRep.kind {K : PySem.W.Frag} {S H : Hp} {a : Addr} {m : M} (h : MRep K S H a m) : (∃ ps q, m = .tab q ∧ H a = some (.tbl ps)) ∨ ((∀ q, m ≠ .tab q) ∧ ∃ o, H a = some o ∧ (∀ ps, o ≠ .tbl ps) ∧ ∀ c q, o ≠ LamX.CodeO c q) := by
  cases m with
  | lst xs => obtain ⟨vs, e, _⟩ := h; exact .inr ⟨(fun q z => by cases z), _, e, (fun ps z => by cases z), (fun c q z => by unfold LamX.CodeO at z; cases z)⟩
  | seq xs => obtain ⟨o, vs, e, _⟩ := h; exact .inr ⟨(fun q z => by cases z), _, e, (fun ps z => by cases z), (fun c q z => by unfold LamX.CodeO at z; cases z)⟩
  | ins C fs => obtain ⟨dx, vs, e, _⟩ := h; exact .inr ⟨(fun q z => by cases z), _, e, (fun ps z => by cases z), (fun c q z => by unfold LamX.CodeO at z; cases z)⟩
  | dK kvs => obtain ⟨vs, e, _⟩ := h; exact .inr ⟨(fun q z => by cases z), _, e, (fun ps z => by cases z), (fun c q z => by unfold LamX.CodeO at z; cases z)⟩
  | dT kvs => obtain ⟨vs, e, _⟩ := h; exact .inr ⟨(fun q z => by cases z), _, e, (fun ps z => by cases z), (fun c q z => by unfold LamX.CodeO at z; cases z)⟩
  | tab q => obtain ⟨ps, e, _⟩ := h; exact .inl ⟨ps, q, rfl, e⟩
theorem MRep.ne_tab {K : PySem.W.Frag} {S S' H H' : Hp} {a : Addr} {m : M} (h : MRep K S H a m) (e : Same S S') (k : H' a = H a) : MRep K S' H' a m := h.mono e k
theorem WR.tabs {K : PySem.W.Frag} {F S H : Hp} {μ : Mem} {T : TabsD} (w : WR K F S H μ) (hT : HasTabs T μ) : LamX.Tabs T H := fun p hp => by
  obtain ⟨_, ps, e, ht, hc⟩ := w.mem p.1 _ (hT.1 p hp)
  exact ⟨ps, e, ht, fun pos cv hcv => let ⟨c, e1, e2⟩ := hc pos cv hcv; ⟨c, e1, w.sub _ _ e2⟩⟩
open Classical in
/-- behind the making of a lambda -/
theorem WR.lam {K : PySem.W.Frag} {F S H H1 : Hp} {μ : Mem} {T : TabsD} (w : WR K F S H μ) (hT : HasTabs T μ) (eN : LamX.ExtN H H1) (T1 : LamX.Tabs T H1) : ∃ S1, Same S S1 ∧ WR K F S1 H1 μ := by
  have keep : ∀ a o, S a = some o → H1 a = some o := fun a o e => eN a o (w.sub a o e) fun ps z => by subst z; exact w.stt a ps e
  have notC : ∀ a m, μ a = some m → ∀ q, H1 a ≠ some (LamX.CodeO a q) := fun a m e q z => by
    rcases (w.mem a m e).2.kind with ⟨ps, q', rfl, _⟩ | ⟨_, o, ho, h1, h2⟩
    · obtain ⟨ps', e', _⟩ := T1 _ (hT.2 a q' e)
      rw [e'] at z
      exact absurd (Option.some.inj z).symm (LamX.codeO_ne ps')
    · rw [eN a o ho h1] at z
      exact h2 _ _ (Option.some.inj z)
  refine ⟨fun b => match S b with | some o => some o | none => if ∃ q, H1 b = some (LamX.CodeO b q) then H1 b else none, fun b o e => by simp only [e], ⟨fun b o e => ?_, fun a o e => ?_, fun a m e => ⟨?_, ?_⟩, w.frl, fun a ps e => ?_⟩⟩
  · cases q : S b with
    | some u => simp only [q] at e; cases e; exact keep b _ q
    | none =>
      simp only [q] at e
      split at e
      · exact e
      · cases e
  · obtain ⟨h1, h2, h3⟩ := w.frm a o e
    obtain ⟨vs, rfl⟩ := w.frl a o e
    have h4 := eN a _ h1 fun ps z => by cases z
    refine ⟨h4, ?_, h3⟩
    simp only [h2]
    rw [if_neg]
    rintro ⟨q, z⟩
    rw [h4] at z
    have z' := Option.some.inj z
    unfold LamX.CodeO at z'
    cases z'
  · simp only [(w.mem a m e).1]
    rw [if_neg]
    rintro ⟨q, z⟩
    exact notC a m e q z
  · have sm : Same S (fun b => match S b with | some o => some o | none => if ∃ q, H1 b = some (LamX.CodeO b q) then H1 b else none) := fun b o e => by simp only [e]
    rcases (w.mem a m e).2.kind with ⟨ps, q', rfl, _⟩ | ⟨_, o, ho, h1, h2⟩
    · obtain ⟨ps', e', ht, hc⟩ := T1 _ (hT.2 a q' e)
      refine ⟨ps', e', ht, fun pos cv hcv => ?_⟩
      obtain ⟨c, e1, e2⟩ := hc pos cv hcv
      refine ⟨c, e1, ?_⟩
      cases q : S c with
      | some u =>
        simp only [q]
        rw [keep c u q] at e2
        exact e2
      | none =>
        simp only [q]
        rw [if_pos ⟨_, e2⟩]
        exact e2
    · exact (w.mem a m e).2.mono sm ((eN a o ho h1).trans ho.symm)
  · cases q : S a with
    | some u => simp only [q] at e; cases e; exact w.stt a ps q
    | none =>
      simp only [q] at e
      split at e
      · rename_i hx
        obtain ⟨qq, hx⟩ := hx
        rw [hx] at e
        exact LamX.codeO_ne ps (Option.some.inj e)
      · cases e
def strip (ρ : Rho) : Rho := ρ.map fun s => match s with
  | some (.v d) => some (.v d)
  | _ => none
theorem ER.strip {K : PySem.W.Frag} {Γ : Act} {σ : L2.St} {ρ : Rho} {F S H : Hp} {μ : Mem} (r : ER K Γ σ ρ F S H μ) : ER K ⟨F, S⟩ σ (DL.strip ρ) F S H μ := by
  have key : ∀ (i : Nat) (s : Sl), (DL.strip ρ)[i]? = some (some s) → ∃ d, s = .v d ∧ ρ[i]? = some (some (.v d)) := fun i s h => by
    unfold DL.strip at h
    rw [List.getElem?_map] at h
    cases q : ρ[i]? with
    | none => rw [q] at h; cases h
    | some o =>
      rw [q] at h
      match o, h with
      | some (.v d), h => cases h; exact ⟨d, rfl, rfl⟩
  refine ⟨r.wr, Same.refl _, Same.refl _, by rw [r.len]; simp [DL.strip], fun i d h => ?_, fun i xs h => ?_, fun i j xs ys p h => ?_⟩
  · obtain ⟨d', e, q⟩ := key i _ h
    cases e
    exact r.at_ i d q
  · obtain ⟨d', e, _⟩ := key i _ h
    cases e
  · obtain ⟨d', e, _⟩ := key i _ h
    cases e
/-- what is heard of an exception -/
def heardX : List HC → Exc → Option (List D)
  | [], _ => none
  | h :: r, x => if x.cls = h.C then (h.fs.mapM fun f => x.fs.lookup f).map (.str h.w :: ·) else heardX r x
theorem look_all {K : PySem.W.Frag} {S : Hp} {vs : List (Str × V)} {ds : List (Str × D)} (r : RpKV K S vs ds) : ∀ {fs : List Str} {es : List D}, fs.mapM (fun f => ds.lookup f) = some es → ∃ us : List V, fs.map (fun f => vs.lookup f) = us.map some ∧ us.length = fs.length ∧ RpAll K S us es
  | [], es, h => by
    simp at h
    subst h
    exact ⟨[], rfl, rfl, .nil⟩
  | f :: fs, es, h => by
    rw [List.mapM_cons] at h
    cases e1 : ds.lookup f with
    | none => rw [e1] at h; cases h
    | some d =>
      rw [e1] at h
      cases e2 : fs.mapM (fun f => ds.lookup f) with
      | none => rw [e2] at h; cases h
      | some es2 =>
        rw [e2] at h
        cases h
        obtain ⟨v, e3, rv⟩ := r.look e1
        obtain ⟨us, e4, e5, ru⟩ := look_all r e2
        exact ⟨v :: us, by simp [e3, e4], by simp [e5], .cons rv ru⟩
theorem hE_of {K : PySem.W.Frag} {F S H : Hp} {μ : Mem} {R : DQ} {Q : VK} {c : Value} {od : Option Addr} {x : Exc} (w : WR K F S H μ) (xr : XRep K S H c od x) (a : Aft K F S R Q) : ∀ {l : List HC} {es : List D}, (∀ h ∈ l, PySem.W.exmOne K (.ref x.cls) (.ref h.C) = some (decide (x.cls = h.C))) →
    heardX l x = some es → R (.tuple [.bool false, .tuple es]) μ → hE K Q l c od H
  | [], es, _, h, _ => by cases h
  | h :: l, es, hx, he, q => by
    obtain ⟨ec, hd⟩ := xr
    subst ec
    refine ⟨_, hx h List.mem_cons_self, fun z => ?_, fun z => ?_⟩
    · have z : x.cls = h.C := of_decide_eq_true z
      unfold heardX at he
      rw [if_pos z] at he
      cases em : h.fs.mapM fun f => x.fs.lookup f with
      | none => rw [em] at he; cases he
      | some es2 =>
        rw [em] at he
        cases he
        have fin : ∀ us : List V, RpAll K S us es2 → ∀ p, H p = none → ∀ p2, upd H p (.tup (.str h.w :: us)) p2 = none → Q (.ref p2) (upd (upd H p (.tup (.str h.w :: us))) p2 (.tup [.bl false, .ref p])) := fun us ru p hp p2 hp2 => by
          obtain ⟨s1, w1⟩ := w.still hp (.tup (.str h.w :: us))
          obtain ⟨s2, w2⟩ := w1.still hp2 (.tup [.bl false, .ref p])
          refine a _ μ q _ _ _ (s1.trans s2) w2 (.tup (SqT.of upd_same) (.cons (.bl false) (.cons (.tup (SqT.of (s2 _ _ upd_same)) (.cons (.str h.w) (ru.mono (s1.trans s2)))) .nil)))
        rcases hd with ⟨_, hfs⟩ | ⟨d, vs, ed, hxd, rk⟩
        · have hf : h.fs = [] := by
            cases q2 : h.fs with
            | nil => rfl
            | cons f fs =>
              rw [q2, List.mapM_cons, hfs] at em
              cases em
          rw [hf] at em
          simp at em
          subst em
          exact ⟨[], by rw [hf] <;> rfl, .inl hf, fin [] .nil⟩
        · obtain ⟨us, e4, e5, ru⟩ := look_all rk em
          exact ⟨us, e5, .inr ⟨by rw [z], d, vs, ed, hxd, e4⟩, fin us ru⟩
    · have z : ¬ x.cls = h.C := of_decide_eq_false z
      unfold heardX at he
      rw [if_neg z] at he
      exact hE_of w ⟨rfl, hd⟩ a (fun h' hm => hx h' (List.mem_cons_of_mem _ hm)) he q
theorem heardX_mem {x : Exc} : ∀ {l : List HC} {es : List D}, heardX l x = some es → ∃ h ∈ l, x.cls = h.C
  | h :: l, es, e => by
    unfold heardX at e
    split at e
    · rename_i z; exact ⟨h, List.mem_cons_self, z⟩
    · obtain ⟨h', hm, z⟩ := heardX_mem e
      exact ⟨h', List.mem_cons_of_mem _ hm, z⟩
def dHeard (T : TabsD) (l : List HC) (tb : DXQ → DTE) : DTE := fun ρ μ Q => HasTabs T μ ∧ tb (fun x μ' => ∃ es, heardX l x = some es ∧ Q (.tuple [.bool false, .tuple es]) μ') (strip ρ) μ fun v μ' => Q (.tuple [.bool true, v]) μ'
/-- the clauses' classes, told apart -/
def HcOk (K : PySem.W.Frag) (l : List HC) : Prop := ∀ h ∈ l, ∀ h' ∈ l, PySem.W.exmOne K (.ref h.C) (.ref h'.C) = some (decide (h.C = h'.C))
section
variable {X : Cx} {Γ : Act}
theorem de_heard {T : TabsD} {l : List HC} {tb : DXQ → DTE} {x a : Str} {g c P : Addr} {k : Nat} {pg : Arguments} {bg : List Stmt} {sg : Scope} {dV kV doc pm cdv ct oc : Value} {an od : Option Addr} {osl : Array (Option Value)} {Ng : List Str}
    {params : Arguments} {body : Expr} {scope : Scope} {p lpos pos : Pos} (hl : HcOk X.K l) (hg : Gl X x) (hm : X.mg x = some (.ref g)) (hk : PySem.W.keepIn X.K (.ref g) = true)
    (lk : X.K.lookup g = some ⟨oc, od, .func (PySem.W.fnOf x x pg bg sg dV kV doc pm an cdv ct), osl⟩) (hcg : PySem.W.codeIn X.K cdv x = true) (hb : L2.Binds X.K (PySem.W.fnOf x x pg bg sg dV kV doc pm an cdv ct) [a] []) (Sg : FnScope Ng [a] sg) (hNg : Ng[0]? = some a) (hva : Vis sg a)
    (hG : LamX.GivesTo X Ng x sg g cdv bg a (X.env.qual ++ "<lambda>") (TTh X.K l))
    (TB : LamX.TabB X.base X.mg c P) (hcode : X.env.code = .ref c) (hmT : (P, X.env.qual ++ "<lambda>") ∈ T) (hu : ∀ p ∈ T, p.1 = P → p.2 = X.env.qual ++ "<lambda>") (hr : Room (k + 2) X.A) (L : LamX.LamS X.env.scope scope)
    (hbind : ∀ (q : Str) (cl : List (Str × Addr)) (pm cv ctv : Value), bindArgs (PySem.W.kla_fn "<lambda>" q params body scope cl pm cv ctv) ⟨[], []⟩ = pure [])
    (hbody : ∀ (A : Around) (outer : List Env) (s : Shared) (H : Hp) (E : XK) (f c' : Addr) (Γ' : Act) (EX : DXQ), Room k (A.deeper (LamX.lamEnv X scope s.heap.objs.size f c')) → LT (LamX.lamCx X A outer s H E scope f c') Γ' (fun x _ μ => EX x μ) → DE (LamX.lamCx X A outer s H E scope f c') Γ' body (tb EX))
    (hdef : defaultsOf params X.env = ([], []) := by rfl) (hdb : (x == ("__debug__" : Str)) = false := by decide) (hd : (a == ("__debug__" : Str)) = false := by decide) (hcd : (a == ("__classdict__" : Str)) = false := by decide) :
    DE X Γ (.Call (.Name x p) [.Lambda params body scope lpos] [] pos) (dHeard T l tb) := by
  refine ⟨PE.imp (LamX.pe_lamcall (T := T) (t := fun E σ H Q => ∃ F S μ ρ R EX, ER X.K ⟨F, S⟩ σ ρ F S H μ ∧ tb EX ρ μ R ∧ Aft X.K F S R Q ∧ ∀ x μ', EX x μ' → ∀ c od S' H', Same S S' → WR X.K F S' H' μ' → XRep X.K S' H' c od x → E c od H')
    hg hm hk lk hcg hb Sg hNg hva hG TB hcode hmT hu hr L hdef hbind (fun A outer s H E f c' hr' => ?_) hdb hd hcd) ?_⟩
  · refine ⟨fun pins s' σ H' Q I ⟨F, S, μ, ρ, R, EX, r, q, af, ax⟩ => ?_⟩
    exact (hbody A outer s H E f c' ⟨F, S⟩ EX hr' ⟨fun cls d _ H => E cls d H, takes_of rfl rfl rfl rfl, fun x ρ' μ' q' σ' F' S' H2 c2 od r' xr => ax x μ' q' c2 od S' H2 r'.s0 (r'.wr.lessF r'.f0) xr⟩).pe.run pins s' σ H' Q I ⟨F, S, μ, ρ, R, r, q, af⟩
  · rintro σ H Q ⟨F, S, μ, ρ, R, r, ⟨hT, q⟩, af⟩
    refine ⟨r.wr.tabs hT, fun H1 eN T1 => ?_⟩
    obtain ⟨S1, s1, w1⟩ := r.wr.lam hT eN T1
    refine ⟨F, S1, μ, _, _, _, (r.later s1 w1).strip, q, fun d μ' hR v S' H' s' w' rv => ⟨by show 2 ≤ sizeLine; decide, fun p hp => ?_⟩, fun x μ' hX c2 od S' H' s' w' xr => ?_⟩
    · obtain ⟨s2, w2⟩ := w'.still hp (.tup [V.bl true, v])
      exact af _ μ' hR _ _ _ (s1.trans (s'.trans s2)) w2 (.tup (SqT.of upd_same) (.cons (.bl true) (.cons (rv.mono s2) .nil)))
    · obtain ⟨es, he, hq⟩ := hX
      obtain ⟨h0, hm0, hc0⟩ := heardX_mem he
      exact hE_of w' xr (af.from (s1.trans s')) (fun h hh => by rw [hc0]; exact hl h0 hm0 h hh) he hq
end
end DL
set_option Elab.async false
set_option linter.all false
set_option maxRecDepth 100000
set_option maxHeartbeats 2000000
namespace DL
open PySem PySem.Spec PyProof.Rows L2
abbrev Cx.blkX (X : Cx) (s : Shared) (H : Hp) (scope : Scope) (cenv : Env) (fp : List Addr) : Cx :=
  (L2.Cx.blk X s H scope cenv fp).tr [] fun e s' => notedBy (model X.prog X.w) X.A cenv (CompFails (model X.prog X.w) X.A X.xe cenv) e s'
section
variable {X : Cx} {pins : List (Addr × Obj)} {σ : L2.St} {H : Hp} {s : Shared}
theorem traced_same {h h2 base : Heap} {e C : Addr} {Z : Obj → Prop} {fl : Value} {m : Str → Option Value} (t : HandSPX.TracedZ h base e Z fl) (hn : h.Ns C m) (sb : Heap.SameBut C h h2) : HandSPX.TracedZ h2 base e Z fl := by
  obtain ⟨oe, vs, T, oT, ts, he, hz, hd, h1, hnT, hTe, hT, hdT, h3⟩ := t
  obtain ⟨oC, es, ep, hoC, hdC, _⟩ := hn
  have k : ∀ {b : Addr} {o : Obj} {us : Array Value}, h.get? b = some o → o.data = .fields us → h2.get? b = some o := fun {b o us} e1 e2 => (sb.2 b fun z => by
    rw [z, hoC] at e1
    cases e1
    rw [hdC] at e2
    cases e2).trans e1
  exact ⟨oe, vs, T, oT, ts, k he hd, hz, hd, h1, hnT, hTe, k hT hdT, hdT, h3⟩
/-- behind a call that let an exception out: the state without it -/
theorem on_ground {B : Heap} {a : Addr} {Z : Obj → Prop} {H' : Hp} {s' : Shared} (I : Inv X pins σ H s) (fl : HandSPX.FlyingZ B X.stack a Z s'.heap) (hok : HOk X.prog X.w H' B) (ub : UB (frs X.stack) H H' s.heap B s'.heap) (ag : AllBare s'.gens) :
    ∃ sI, Inv X pins σ H' sI ∧ (∀ b o, sI.heap.get? b = some o → b ∉ frs X.stack → B.get? b = some o) ∧ (∀ b o, sI.heap.get? b = some o → s'.heap.get? b = some o ∧ ((B.get? b).isSome = true ∨ b ∈ frs X.stack)) ∧ sI.os = s.os := by
  obtain ⟨G, g1, g2⟩ := restrict s'.heap fun b => (B.get? b).isSome || decide (b ∈ frs X.stack)
  have st : B.StaysIn s'.heap := fl.1
  have gB : ∀ b o, B.get? b = some o → G.get? b = some o := fun b o e => (g1 b (by simp [e])).trans (st b o e)
  have gF : ∀ b, b ∈ frs X.stack → G.get? b = s'.heap.get? b := fun b hb => g1 b (by simp [hb])
  have og : ∀ b o, G.get? b = some o → s'.heap.get? b = some o ∧ ((B.get? b).isSome = true ∨ b ∈ frs X.stack) := fun b o e => by
    cases q : ((B.get? b).isSome || decide (b ∈ frs X.stack)) with
    | false => rw [g2 b q] at e; cases e
    | true => rw [g1 b q] at e; exact ⟨e, by simpa [Bool.or_eq_true] using q⟩
  refine ⟨{ s with heap := G, gens := s'.gens, drawn := s'.drawn, toks := s'.toks }, ?_, fun b o e hb => ?_, og, rfl⟩
  · have U : Un (frs X.stack) [] H H' s.heap G := by
      refine ⟨fun b o e n hb _ => gB b o (ub.keep b o e n hb), fun b o e n hb _ => ?_, fun b o e n _ => ub.free b o e n, fun b o e _ => ?_, ub.tups, ub.frzs, ub.tbls⟩
      · obtain ⟨sl, q⟩ := ub.slot b o e hb
        exact ⟨sl, (gF b hb).trans q⟩
      · by_cases hb : b ∈ frs X.stack
        · obtain ⟨sl, q⟩ := ub.slot b o e hb
          exact ⟨_, (gF b hb).trans q⟩
        · obtain ⟨o', q⟩ := ub.there b o e hb
          exact ⟨o', gB b o' q⟩
    exact I.call (ch := []) U (hok.kept gB) ag (fun _ z => nomatch z)
  · obtain ⟨e', h⟩ := og b o e
    rcases h with h | h
    · obtain ⟨o', q⟩ := Option.isSome_iff_exists.mp h
      have z := st b o' q
      rw [e'] at z; cases z
      exact q
    · exact absurd h hb
theorem blk_passes {W : WX} {σ0 : L2.St} {H3 : Hp} {s3 : Shared} {scope : Scope} {ce : Env} {fp : List Addr} (tk : Takes X W) (hs : X.stack = X.env :: X.outer) (hf : X.env.frame = some X.env.locals) (hce : ce.frame = X.env.frame) (I3 : Inv X pins σ0 H3 s3) (hC : s3.heap.objs.size ≤ ce.locals)
    (hfp : ∀ b ∈ fp, FpOk X pins H3 b) : ∀ σ', PassesAt (L2.CX X.prog X.w) (Cx.blkX X s3 H3 scope ce fp) σ' (fun cls d H' => W cls d σ0 H') := by
  intro σ' pins' H s e s' I6 hc
  obtain ⟨a, B, H', cls, d, rfl, fl, hok, ub, na, os, ag, w⟩ := hc
  have hfr : X.A.frames = some (X.env :: X.outer) := by rw [I3.ok.frames, hs]
  have fl : HandSPX.FlyingZ B (X.env :: X.outer) a (Zc cls d) s'.heap := by rw [← hs]; exact fl
  have ub : UB (frs X.stack) H H' s.heap B s'.heap := ub
  have hCn : H ce.locals = none := I6.free
  obtain ⟨m, hnC, _⟩ := I6.loc
  have hnC : s.heap.Ns ce.locals m := hnC
  have hCf : ce.locals ∉ frs X.stack := fun z => by
    rcases List.mem_cons.mp (I3.stkSub _ z) with e | e
    · have h1 := I3.lt
      rw [← e] at h1
      exact Nat.lt_irrefl _ (Nat.lt_of_lt_of_le h1 hC)
    · exact I3.nofs hC e
  -- C stands in s'
  have hnC' : s'.heap.Ns ce.locals m := by
    obtain ⟨oC, es, ep, hoC, hr⟩ := hnC
    exact ⟨oC, es, ep, fl.1 _ _ (ub.keep _ _ hoC hCn hCf), hr⟩
  obtain ⟨G, g1, g2⟩ := restrict s.heap fun b => decide (b ≠ ce.locals)
  obtain ⟨B2, b1, b2⟩ := restrict B fun b => decide (b ≠ ce.locals)
  have gk : ∀ b, b ≠ ce.locals → G.get? b = s.heap.get? b := fun b hb => g1 b (decide_eq_true hb)
  have gC : G.get? ce.locals = none := g2 _ (by simp)
  have bk : ∀ b, b ≠ ce.locals → B2.get? b = B.get? b := fun b hb => b1 b (decide_eq_true hb)
  have bC : B2.get? ce.locals = none := b2 _ (by simp)
  have og : ∀ b o, G.get? b = some o → b ≠ ce.locals ∧ s.heap.get? b = some o := fun b o e => by
    have ne : b ≠ ce.locals := fun z => by rw [z, gC] at e; cases e
    exact ⟨ne, (gk b ne).symm.trans e⟩
  have ob : ∀ b o, B2.get? b = some o → b ≠ ce.locals ∧ B.get? b = some o := fun b o e => by
    have ne : b ≠ ce.locals := fun z => by rw [z, bC] at e; cases e
    exact ⟨ne, (bk b ne).symm.trans e⟩
  have nold : ∀ {b : Addr} {o : Obj}, s3.heap.get? b = some o → b ≠ ce.locals := fun {b o} e z => by
    rw [z] at e
    exact Nat.lt_irrefl _ (Nat.lt_of_lt_of_le (Heap.lt_size e) hC)
  have I7 : Inv X pins σ0 H { s with heap := G } := by
    have u := I6.base
    have u : Un (frs X.stack) fp H3 H s3.heap s.heap := u
    refine I3.call' (ch := fp) I6.os ⟨fun b o e n hb hx => ?_, fun b o e n hb hx => ?_, fun b o e n hx => u.free b o e n hx, fun b o e hx => ?_, u.tups, u.frzs, u.tbls⟩ (fun b o q => ?_) I6.bare fun b hb => ⟨(hfp b hb).2.2.2.1 |> fun z => z, (hfp b hb).2.1, (hfp b hb).2.2.2.2.1, (hfp b hb).2.2.2.2.2⟩
    · rw [show ({ s with heap := G } : Shared).heap.get? b = s.heap.get? b from gk b (nold e)]
      exact u.keep b o e n hb hx
    · rw [show ({ s with heap := G } : Shared).heap.get? b = s.heap.get? b from gk b (nold e)]
      exact u.slot b o e n hb hx
    · rw [show ({ s with heap := G } : Shared).heap.get? b = s.heap.get? b from gk b (nold e)]
      exact u.there b o e hx
    · refine (I6.hok b o q).stay (fun c v hc z => (gk c ?_).trans z) (fun _ r => r) fun _ _ r => r
      rintro rfl
      rcases hc with hc | hc
      · rw [hc] at hCn; rw [hCn] at q; cases q
      · rw [hCn] at hc; cases hc
  have hC' : H' ce.locals = none := by
    obtain ⟨oC, es, ep, hoC, hr⟩ := hnC
    exact ub.free _ _ hoC hCn
  have fl2 : HandSPX.FlyingZ B2 (X.env :: X.outer) a (Zc cls d) s'.heap := by
    obtain ⟨k1, k2, k3, oe, vs, T, oT, ts, he, hz, hd, h1, hnT, hr⟩ := id fl
    have none2 : ∀ {b : Addr}, B.get? b = none → B2.get? b = none := fun {b} e => by
      cases q : B2.get? b with
      | none => rfl
      | some o => rw [(ob b o q).2] at e; cases e
    exact ⟨fun b o e => k1 b o (ob b o e).2, none2 k2, funFrames_none k3 fun L hL => none2 (by
      obtain ⟨z, _⟩ := k3.mem hL
      exact z), oe, vs, T, oT, ts, he, hz, hd, h1, none2 hnT, hr⟩
  have ub2 : UB (frs X.stack) H H' G B2 s'.heap := ⟨fun b o e n hb => (bk b (og b o e).1).trans (ub.keep b o (og b o e).2 n hb), fun b o e hb => ub.slot b o (og b o e).2 hb, fun b o e n => ub.free b o (og b o e).2 n,
    fun b o e hb => by rw [bk b (og b o e).1]; exact ub.there b o (og b o e).2 hb, ub.tups, ub.frzs, ub.tbls⟩
  have hok2 : HOk X.prog X.w H' B2 := fun b o q => by
    refine (hok b o q).stay (fun c v hc z => (bk c ?_).trans z) (fun _ r => r) fun _ _ r => r
    rintro rfl
    rcases hc with hc | hc
    · rw [hc] at hC'; rw [hC'] at q; cases q
    · rw [hC'] at hc; cases hc
  obtain ⟨sI, J, nb, og2, osI⟩ := on_ground I7 (s' := s') (by rw [hs]; exact fl2) hok2 ub2 ag
  -- noted in this frame
  show wpAny (model X.prog X.w) X.A (noteFrame (.ref a) ce) _ _ s'
  rw [noteFrame_env _ hce]
  refine HandSPX.looks_onZ Zc.steady hfr hf fl2 fun h1 held1 up1 => ?_
  have hnC1 : h1.Ns ce.locals m := hnC'.upToSlots up1
  refine ⟨m, hnC1, fun h2 m2 hn2 sb => ?_⟩
  have held2 : HandSPX.HeldZ B2 (X.env :: X.outer) a (Zc cls d) X.env.locals h2 := by
    obtain ⟨k1, k2, k3, k4⟩ := held1
    exact ⟨fun b o e => (sb.2 b fun z => by rw [z, bC] at e; cases e).trans (k1 b o e), k2, Heap.FunFrames.sameBut sb hn2 k3, traced_same k4 hnC1 sb⟩
  obtain ⟨oe, vs, T, oT, ts, he, hz, hd, hv1, hr⟩ := held2.2.2.2
  unfold PySem.passOn
  refine wpAny_bind (wpAny_field he hd hv1 ?_)
  rw [if_neg (show ¬ ((Value.ref T == Value.none) = true) from by simp)]
  rw [hce, hf]
  have last : wpAny (model X.prog X.w) X.A (setFlight (.ref a) (some X.env.locals)) (fun _ s4 => wpAny (model X.prog X.w) X.A (throw (.ref a) : Sem Value) (fun _ _ => False) X.xe s4) X.xe { s' with heap := h2 } := by
    refine HandSPX.setFlight_onZ held2 fun h3 held3 up3 => wpAny_throw (tk _ _ ?_)
    refine ⟨a, B2, sI, pins, σ0, H', cls, d, rfl, J, nb, fun b o e hnf => ?_, .inr (.inr (by rw [hs]; exact held3)), na, os.trans osI.symm, ag, w⟩
    obtain ⟨e1, e2⟩ := og2 b o e
    have ne : b ≠ ce.locals := fun z => by
      subst z
      rcases e2 with e2 | e2
      · rw [bC] at e2; cases e2
      · exact hCf e2
    obtain ⟨sl1, q1⟩ := up1 b o e1 hnf
    have q2 := (sb.2 b ne).trans q1
    obtain ⟨sl2, q3⟩ := up3 b _ q2 hnf
    exact ⟨sl2, q3⟩
  first
    | exact wpAny_bind (wpAny_pure (wpAny_bind last))
    | exact wpAny_bind last
end
def tLcX (wi : TI) (g : TG) (tt : TT) (te : XK → TE) (WO : WX) (vs : List Nat) : TE := fun σ H Q => wi σ H fun J H1 => ∀ D, H1 D = none → ∃ W : Nat → Nat → Hp → Prop, (∃ m, W 0 m (upd H1 D (.lst []))) ∧ ∀ i m H, W i m H →
  (J.stop i H ∧ Q (.ref D) H) ∨ (J.go i H ∧ ∃ Nx : Hp → Prop, (∀ H', Nx H' → ∃ m', m' < m ∧ W (i + 1) m' H') ∧ ∀ x H', J.yld i H x H' → g x (L2.wipe σ vs) H' fun σ2 H2 => L2.wipe σ2 vs = L2.wipe σ vs ∧ tt σ2 H2 fun b H3 =>
    if b = true then te (fun cls d H' => WO cls d σ H') σ2 H3 fun y H4 => ∃ acc, H4 D = some (.lst acc) ∧ acc.length < sizeLine ∧ Nx (upd H4 D (.lst (acc ++ [y]))) else Nx H3)
theorem trIn {Y : Cx} {pins : List (Addr × Obj)} {σ : L2.St} {H : Hp} {s : Shared} {xe : Value → Shared → Prop} (I : Inv Y pins σ H s) : Inv (Y.tr Y.pn xe) pins σ H s := ⟨I.ok.toTry _ _, I.os, I.bare, I.base, I.loc, I.cell, I.free, I.freeC, I.pin, I.hok, I.len⟩
theorem trOut {Y : Cx} {pins : List (Addr × Obj)} {σ : L2.St} {H : Hp} {s : Shared} {xe : Value → Shared → Prop} (I : Inv (Y.tr Y.pn xe) pins σ H s) : Inv Y pins σ H s := ⟨I.ok.ofTry, I.os, I.bare, I.base, I.loc, I.cell, I.free, I.freeC, I.pin, I.hok, I.len⟩
section
variable {X : Cx}
theorem lcX_core {pins : List (Addr × Obj)} {s : Shared} {σ : L2.St} {H : Hp} {Q : VK} {elt tg iter : Expr} {ifs : List Expr} {scope : Scope} {own : List (Str × Nat)} {pos pos' : Pos} {wi : TI} {g : TG} {tt : TT} {te : XK → TE} {WO : WX} {use : Option (Value → Sem Unit)} {Qf : Value → Shared → Prop} (tk : Takes X WO) (hst : X.stack = X.env :: X.outer) (hfr : X.env.frame = some X.env.locals)
    (hc : X.calm = true) (hN : X.N.Nodup) (I : Inv X pins σ H s) (hi : PI X tg iter wi) (ok : BlkOk X.N X.env.scope scope own)
    (hg : ∀ (s : Shared) (H : Hp) (C : Addr) (cl : List (Str × Addr)) (fp : List Addr), PG (L2.Cx.blk X s H scope (compEnvC scope cl C X.env) fp) tg g) (ht : ∀ (s : Shared) (H : Hp) (C : Addr) (cl : List (Str × Addr)) (fp : List Addr), PTs (L2.Cx.blk X s H scope (compEnvC scope cl C X.env) fp) ifs tt)
    (he : ∀ (s : Shared) (H : Hp) (C : Addr) (cl : List (Str × Addr)) (fp : List Addr) (E : XK), (∀ σ', PassesAt (L2.CX X.prog X.w) (Cx.blkX X s H scope (compEnvC scope cl C X.env) fp) σ' E) → PE (Cx.blkX X s H scope (compEnvC scope cl C X.env) fp) elt (te E)) (hs : ∀ x, foldedSetIterable iter X.env x = pure x)
    (h : tLcX wi g tt te WO (own.map (·.2)) σ H Q)
    (hRR : ∀ D C s' m H', Inv X pins σ H' s' → Q (.ref D) H' → s'.heap.Ns C m → FpOk X pins H' C → ∀ ce : Env, ce.locals = C → compEnds (model X.prog X.w) X.A X.xe use Qf (.ref D) ce (.ok .next) s') :
    wpAny (model X.prog X.w) X.A (comprehension (.ListComp elt [⟨tg, iter, ifs, 0⟩] scope pos) scope X.env pos' (newList []) false (eval iter X.env) use) Qf X.xe s := by
  have hfree : ∀ y ∈ scope.names, y.2 = .free → ∃ c, X.env.cells.lookup y.1 = some c := fun y hy e => by
    rcases ok.free y hy e with k | k
    · exact I.ok.has _ (.inl k)
    · exact I.ok.has _ (.inr k)
  refine comprehension_at (use := use) rfl hs (closure_ok hfree) ok.kind (fun y hy e => by rw [ok.uniq y hy, e])
    (thn (hi.run pins s σ H _ I h) fun xv s1 hx => thn hx fun itr s2 hh2 => ?_)
  obtain ⟨it, fp, tn, J, H2, e, J2, T, ist2, fpa, q⟩ := hh2
  subst e; refine wpAny_newObj_type (newEnv_comp ?_) (by show 0 ≤ sizeLine; decide)
  generalize eqD : s2.heap.objs.size = D
  have freeD : H2 D = none := J2.hok.fresh (Nat.le_of_eq eqD)
  obtain ⟨W, ⟨mm0, ww0⟩, turn⟩ := q D freeD
  generalize eqs3 : ({ s2 with heap := s2.heap.push { cls := .type "list", data := .seq ([] : List Value).toArray } } : Shared) = s3
  have J3 : Inv X pins σ (upd H2 D (.lst [])) s3 := by
    rw [← eqs3]
    refine J2.laid (t' := s2.toks) (fun b o e => Heap.get?_push_of_some _ e) (Nat.le_of_eq eqD) ⟨Nat.zero_le _, [], 0, .nil, ?_⟩
    rw [← eqD]
    exact Heap.get?_push_size _ rfl
  have eqh : s3.heap = s2.heap.push { cls := .type "list", data := .seq ([] : List Value).toArray } := by rw [← eqs3]
  have below : ∀ b ∈ fp, b < s2.heap.objs.size := fun b hb => by
    obtain ⟨o, e, _⟩ := T.obj _ _ ist2 b hb
    exact Heap.lt_size e
  have fpb : ∀ b ∈ fp, FpOk X pins (upd H2 D (.lst [])) b ∧ b < s3.heap.objs.size := fun b hb => by
    have hlt := below b hb
    refine ⟨⟨?_, (fpa b hb).2⟩, by rw [eqh, Heap.size_push]; exact Nat.lt_succ_of_lt hlt⟩
    rw [upd_ne (by rw [← eqD]; exact Nat.ne_of_lt hlt)]
    exact (fpa b hb).1
  have ist3 : tn 0 s3.heap := T.keep _ _ _ ist2 fun b _ o e => by rw [eqh]; exact Heap.get?_push_of_some _ e
  have J4 := block_start J3 ok hN fpb
  have runT := hg s3 (upd H2 D (.lst [])) s3.heap.objs.size (cellsFrom (s3.heap.objs.size + 1) scope.names (cloFrom X.env.cells scope.names [])) fp
  have runI := ht s3 (upd H2 D (.lst [])) s3.heap.objs.size (cellsFrom (s3.heap.objs.size + 1) scope.names (cloFrom X.env.cells scope.names [])) fp
  have runE := he s3 (upd H2 D (.lst [])) s3.heap.objs.size (cellsFrom (s3.heap.objs.size + 1) scope.names (cloFrom X.env.cells scope.names [])) fp (fun cls d H' => WO cls d σ H') (blk_passes tk hst hfr rfl J3 (Nat.le_refl _) fun b hb => (fpb b hb).1)
  show codeAny _ _ (.compStart (.ListComp elt [⟨tg, iter, ifs, 0⟩] scope pos) 0 (.ref it) (.ref D) (compEnvC scope (cellsFrom (s3.heap.objs.size + 1) scope.names (cloFrom X.env.cells scope.names [])) s3.heap.objs.size X.env)) (compEnds (model X.prog X.w) X.A X.xe use Qf (.ref D) (compEnvC scope (cellsFrom (s3.heap.objs.size + 1) scope.names (cloFrom X.env.cells scope.names [])) s3.heap.objs.size X.env)) { s3 with heap := pushCells (s3.heap.push { cls := .type "dict", data := .dict #[] }) scope.names }
  have offp : ∀ b ∈ fp, (upd H2 D (.lst [])) b = none := fun b hb => (fpb b hb).1.1
  generalize eqce : compEnvC scope (cellsFrom (s3.heap.objs.size + 1) scope.names (cloFrom X.env.cells scope.names [])) s3.heap.objs.size X.env = ce at J4 runT runI runE ⊢
  have cL : ce.locals = s3.heap.objs.size := by subst eqce; rfl
  generalize eqH3 : upd H2 D (.lst []) = H3 at J3 J4 runT runI runE ww0 offp fpb
  generalize eqs4 : ({ s3 with heap := pushCells (s3.heap.push { cls := .type "dict", data := .dict #[] }) scope.names } : Shared) = s4 at J4 ⊢
  have ist4 : tn 0 s4.heap := T.keep _ _ _ ist3 fun b _ o e => by rw [← eqs4]; exact pushCells_keeps _ _ _ _ (Heap.get?_push_of_some _ e)
  have stands : ∀ {σ' : L2.St} {H' : Hp} {s' : Shared}, Inv (L2.Cx.blk X s3 H3 scope ce fp) [] σ' H' s' → (∀ b ∈ fp, H' b = none) → ∀ b ∈ fp, FpOk (L2.Cx.blk X s3 H3 scope ce fp) [] H' b := fun {σ' H' s'} I' hn b hb =>
    ⟨hn b hb, (I'.ok.exf b hb).1, I'.ok.exfs b hb, .inl hb, fun x c e => (I'.ok.exf b hb).2 x c e, fun p hp => absurd (show p ∈ ([] : List (Addr × Obj)) ++ [] from hp) (by simp)⟩
  have loop : codeAny (model X.prog X.w) X.A (.compLoop (.ListComp elt [⟨tg, iter, ifs, 0⟩] scope pos) 0 (.ref it) (.ref D) ce) (compEnds (model X.prog X.w) X.A X.xe use Qf (.ref D) ce) s4 := by
    refine compLoop_any (fun n s' => ∃ i H', Inv (L2.Cx.blk X s3 H3 scope ce fp) [] (L2.wipe σ (own.map (·.2))) H' s' ∧ tn i s'.heap ∧ (∀ b ∈ fp, H' b = none) ∧ W i n H') ?_ mm0 ⟨0, H3, J4, ist4, offp, ww0⟩
    rintro n s5 ⟨i, H5, J5, ist5, off5, ww5⟩
    rcases turn i n H5 ww5 with ⟨stop, qend⟩ | ⟨go, Nx, hNx, next1⟩
    · have doneT := T.done (L2.Cx.blk X s3 H3 scope ce fp) rfl rfl rfl hc i [] s5 _ H5 (fun _ _ => False) J5 (stands J5 off5) ist5 stop
      refine thnF doneT fun r s6 ⟨hr, J6⟩ => ?_
      subst hr
      have J7 : Inv X pins σ H5 s6 := J3.call' (ch := fp) J6.os J6.base J6.hok J6.bare fun b hb => ⟨(fpb b hb).1.2.2.2.1, (fpb b hb).1.2.1, (fpb b hb).1.2.2.2.2.1, (fpb b hb).1.2.2.2.2.2⟩
      have freeC : H5 s3.heap.objs.size = none := by
        have z : H5 ce.locals = none := J6.free
        rw [cL] at z
        exact z
      obtain ⟨m, hn, _⟩ := J6.loc
      have hn : s6.heap.Ns ce.locals m := hn
      rw [cL] at hn
      exact hRR D s3.heap.objs.size s6 m H5 J7 qend hn (J3.fpOk (Nat.le_refl _) freeC) ce cL
    · have itemT := T.item (L2.Cx.blk X s3 H3 scope ce fp) rfl rfl rfl hc i [] s5 _ H5 (fun _ _ => False) J5 (stands J5 off5) ist5 go
      refine thnF itemT fun r s6 ⟨u, hr, h6⟩ => ?_
      subst hr
      refine thnF h6 fun _ s7 ⟨x, H7, J7, r7, y7, ist7, off7⟩ => ?_
      have J7p := J7.pinned (stands J7 off7) (T.obj _ _ ist7)
      refine thnF (runT.run _ s7 _ H7 x u _ J7p r7 (next1 x H7 y7)) fun _ s8 ⟨σ8, H8, J8, same8, qa⟩ => ?_
      refine thnF (runI.run _ s8 σ8 H8 _ J8 qa) fun b s9 ⟨H9, J9a, qb⟩ => ?_
      have turned : ∀ {s' : Shared} {H' : Hp}, Inv (L2.Cx.blk X s3 H3 scope ce fp) ([] ++ pinsAt fp s7.heap) σ8 H' s' → Nx H' → ∃ m, m < n ∧ ∃ i H', Inv (L2.Cx.blk X s3 H3 scope ce fp) [] (L2.wipe σ (own.map (·.2))) H' s' ∧ tn i s'.heap ∧ (∀ b ∈ fp, H' b = none) ∧ W i m H' := fun {s' H'} I' nx => by
        obtain ⟨m', hm, w'⟩ := hNx H' nx
        have pinned2 : ∀ b ∈ fp, ∀ o, s7.heap.get? b = some o → s'.heap.get? b = some o ∧ H' b = none := fun b hb o e =>
          let z := I'.pin (b, o) (List.mem_append_right _ (List.mem_append_right _ (mem_pinsAt hb e)))
          ⟨z.1, z.2.1⟩
        have lens : (L2.wipe σ (own.map (·.2))).length = σ8.length := by rw [← same8, wipe_length]
        refine ⟨m', hm, i + 1, H', (I'.unpinned (pins := [])).weak lens (fun j v e => ?_), T.keep _ _ _ ist7 fun b hb o e => (pinned2 b hb o e).1, fun b hb => ?_, w'⟩
        · rw [← same8] at e
          exact (wipe_some e).1
        · obtain ⟨o, e, _⟩ := T.obj _ _ ist7 b hb
          exact (pinned2 b hb o e).2
      cases b with
      | false =>
        simp only [Bool.false_eq_true, if_false] at qb ⊢
        exact turned J9a qb
      | true =>
        simp only [if_true] at qb ⊢
        have K9 : Inv (Cx.blkX X s3 H3 scope ce fp) ([] ++ pinsAt fp s7.heap) σ8 H9 s9 := trIn (Y := L2.Cx.blk X s3 H3 scope ce fp) J9a
        refine thn (runE.run _ s9 σ8 H9 _ K9 qb) fun z s10 ⟨yv, H10, K10, r10, acc, hD10, hz10, nx⟩ => ?_
        have K10b : Inv (L2.Cx.blk X s3 H3 scope ce fp) ([] ++ pinsAt fp s7.heap) σ8 H10 s10 := trOut (Y := L2.Cx.blk X s3 H3 scope ce fp) K10
        exact app_ok (X := L2.Cx.blk X s3 H3 scope ce fp) K10b hD10 hz10 r10 fun s11 J11 => turned J11 nx
  exact codeAny_compStart_list loop (T.self X.A 0 _ _ _ ist4 loop)
theorem pe_lcX {elt tg iter : Expr} {ifs : List Expr} {scope : Scope} {own : List (Str × Nat)} {pos : Pos} {wi : TI} {g : TG} {tt : TT} {te : XK → TE} {WO : WX} (tk : Takes X WO) (hst : X.stack = X.env :: X.outer) (hfr : X.env.frame = some X.env.locals) (hc : X.calm = true) (hN : X.N.Nodup) (hi : PI X tg iter wi) (ok : BlkOk X.N X.env.scope scope own)
    (hg : ∀ (s : Shared) (H : Hp) (C : Addr) (cl : List (Str × Addr)) (fp : List Addr), PG (L2.Cx.blk X s H scope (compEnvC scope cl C X.env) fp) tg g) (ht : ∀ (s : Shared) (H : Hp) (C : Addr) (cl : List (Str × Addr)) (fp : List Addr), PTs (L2.Cx.blk X s H scope (compEnvC scope cl C X.env) fp) ifs tt)
    (he : ∀ (s : Shared) (H : Hp) (C : Addr) (cl : List (Str × Addr)) (fp : List Addr) (E : XK), (∀ σ', PassesAt (L2.CX X.prog X.w) (Cx.blkX X s H scope (compEnvC scope cl C X.env) fp) σ' E) → PE (Cx.blkX X s H scope (compEnvC scope cl C X.env) fp) elt (te E)) (hs : ∀ x, foldedSetIterable iter X.env x = pure x := by intro _; rfl) :
    PE X (.ListComp elt [⟨tg, iter, ifs, 0⟩] scope pos) (tLcX wi g tt te WO (own.map (·.2))) :=
  ⟨fun pins s σ H Q I h => by
    rw [eval_ListComp]
    refine lcX_core tk hst hfr hc hN I hi ok hg ht he hs h fun D C s' m H' I' q hn f ce hce => ?_
    subst hce
    obtain ⟨f0, f1, _, f3, f4, f5⟩ := f
    exact ⟨m, hn, fun h'' sb => ⟨.ref D, H', I'.turned (t' := s'.toks) (fun b o hb e => (sb.2 b hb).trans e) f0 f1 f3 f4 f5, rfl, q⟩⟩⟩
end
def teX (K : PySem.W.Frag) (te : DXQ → DTE) : XK → TE := fun E σ H Q => ∃ Γ' F S μ ρ R EX, ER K Γ' σ ρ F S H μ ∧ te EX ρ μ R ∧ Aft K F S R Q ∧ ∀ x μ', EX x μ' → ∀ σ' ρ' F' S' H' c od, ER K Γ' σ' ρ' F' S' H' μ' → XRep K S' H' c od x → E c od H'
def dLcX (t : DTI) (g : DTG) (tt : DTT) (te : DXQ → DTE) (EX : Exc → Rho → Mem → Prop) (vs : List Nat) : DTE := fun ρ μ Q => t ρ μ fun ds μ1 => dLcL g tt (te fun x μ' => EX x ρ μ') (wipeR (strip ρ) vs) ds [] μ1 fun out μ2 => Q (.list out) μ2
theorem up_lcX {X : Cx} {Γ : Act} {t : DTI} {g : DTG} {tt : DTT} {te : DXQ → DTE} {EX : Exc → Rho → Mem → Prop} {WO : WX} {vs : List Nat} (hW : ∀ x ρ μ, EX x ρ μ → ∀ σ F S H c od, ER X.K Γ σ ρ F S H μ → XRep X.K S H c od x → WO c od σ H) :
    ∀ σ H Q, up X.K Γ (dLcX t g tt te EX vs) σ H Q → tLcX (upI X.K Γ t) (fun v σ H Q => ∃ Γ', upC X.K Γ' vs g v σ H Q) (fun σ H Q => ∃ Γ', upT X.K Γ' tt σ H Q) (teX X.K te) WO vs σ H Q := by
  rintro σ H Q ⟨F, S, μ, ρ, R, r, q, a⟩
  refine ⟨F, S, μ, ρ, _, r, q, fun ds μ1 q1 S1 H1 J s1 w1 wd => ?_⟩
  intro A hA
  have fA : F A = none := w1.freeF hA
  have r1 : ER X.K ⟨F, S1⟩ σ (strip ρ) F S1 H1 μ1 := (r.later s1 w1).strip
  refine ⟨fun i m H' => (m = ds.length - i ∧ i ≤ ds.length) ∧ ∃ S' μ' acc accV, Same S1 S' ∧ WR X.K (upd F A (.lst accV)) S' H' μ' ∧ RpAll X.K S' accV acc ∧ dLcL g tt (te fun x μ' => EX x ρ μ') (wipeR (strip ρ) vs) (ds.drop i) acc μ' fun out μ2 => R (.list out) μ2, ⟨_, ⟨rfl, Nat.zero_le _⟩, S1, μ1, [], [], Same.refl _, w1.ownNew hA _, .nil, by simpa using q1⟩, ?_⟩
  rintro i m H' ⟨⟨rfl, hle⟩, S', μ', acc, accV, s2, w2, r2, q2⟩
  obtain ⟨hstop, hgo⟩ := wd _ S' H' μ' s2 w2 i
  have sFa : ∀ us, Same F (upd F A (.lst us)) := fun us b o e => by rw [upd_ne (ne_of_none e fA)]; exact e
  cases e : ds[i]? with
  | none =>
    have hl : ds.length ≤ i := List.getElem?_eq_none_iff.mp e
    rw [List.drop_eq_nil_of_le hl] at q2
    obtain ⟨s3, w3⟩ := w2.ownStill (p := A) (vs := accV) upd_same
    refine .inl ⟨hstop (Nat.le_antisymm hl hle), a _ μ' q2 _ _ H' (s1.trans (s2.trans s3)) (w3.lessF fun b o e' => ?_) (.lst upd_same (r2.mono s3))⟩
    unfold fdel
    rw [if_neg (ne_of_none e' fA)]
    exact sFa accV b o e'
  | some d =>
    obtain ⟨hlt, hd⟩ := List.getElem?_eq_some_iff.mp e
    obtain ⟨h1, h2⟩ := hgo d e
    have ed : ds.drop i = d :: ds.drop (i + 1) := by rw [← hd]; exact List.drop_eq_getElem_cons hlt
    rw [ed] at q2
    refine .inr ⟨h1, fun H3 => ∃ S3 μ3 acc3 accV3, Same S1 S3 ∧ WR X.K (upd F A (.lst accV3)) S3 H3 μ3 ∧ RpAll X.K S3 accV3 acc3 ∧ dLcL g tt (te fun x μ' => EX x ρ μ') (wipeR (strip ρ) vs) (ds.drop (i + 1)) acc3 μ3 fun out μ2 => R (.list out) μ2, fun H3 z => ⟨_, by omega, ⟨rfl, hlt⟩, z⟩, fun x H'' y => ?_⟩
    obtain ⟨S'', s3, w3, p3⟩ := h2 x H'' y
    have s13 : Same S1 S'' := s2.trans s3
    have er0 : ER X.K ⟨F, S1⟩ σ (strip ρ) (upd F A (.lst accV)) S'' H'' μ' :=
      ⟨w3, sFa accV, s13, r1.len, fun j d' e' => let ⟨v, b1, b2⟩ := r1.at_ j d' e'; ⟨v, b1, b2.mono s13⟩, fun j xs e' => let ⟨p, ws, b1, b2, b3, b4⟩ := r1.own j xs e'; ⟨p, ws, b1, sFa accV _ _ b2, b3, b4.mono s13⟩, r1.one⟩
    refine ⟨⟨F, S1⟩, _, S'', μ', _, d, _, er0.wipe vs, p3, q2, fun ρ4 μ4 q4 σ4 S4 H4 s4 e4 r4 => ⟨e4.trans (wipe_wipe fun _ h => h), ⟨F, S1⟩, _, S4, μ4, ρ4, _, r4, q4, fun b μ5 q5 S5 H5 s5 w5 => ?_⟩⟩
    have s25 : Same S1 S5 := s2.trans (s3.trans (s4.trans s5))
    cases b with
    | false =>
      rw [if_neg Bool.false_ne_true] at q5
      refine iteF ?_
      exact ⟨S5, μ5, acc, accV, s25, w5, r2.mono (s3.trans (s4.trans s5)), q5⟩
    | true =>
      rw [if_pos rfl] at q5
      refine iteT ?_
      refine ⟨⟨F, S1⟩, _, S5, μ5, ρ4, _, _, r4.later s5 w5, q5, fun d6 μ6 ⟨hz, q6⟩ v6 S6 H6 s6 w6 p6 => ?_, fun x μ' hx σ' ρ' F' S' H' c od r' xr => ?_⟩
      · have hAcc : H6 A = some (.lst accV) := (w6.frm A _ upd_same).1
        have r6 : RpAll X.K S6 accV acc := r2.mono (s3.trans (s4.trans (s5.trans s6)))
        refine ⟨accV, hAcc, by rw [r6.length]; exact hz, S6, μ6, _, _, s25.trans s6, ?_, r6.append (.cons p6 .nil), q6⟩
        have w7 := w6.ownWrite (p := A) upd_same (accV ++ [v6])
        rw [upd_upd] at w7
        exact w7
      · exact hW x ρ μ' hx σ F S' H' c od (r.later (s1.trans r'.s0) (r'.wr.lessF r'.f0)) xr
section
variable {X : Cx} {Γ : Act} {elt tg iter : Expr} {ifs : List Expr} {scope : Scope} {own : List (Str × Nat)} {pos : Pos} {t : DTI} {g : DTG} {tt : DTT} {te : DXQ → DTE} {EX : Exc → Rho → Mem → Prop}
theorem de_lcX (lt : LT X Γ EX) (hst : X.stack = X.env :: X.outer) (hfr : X.env.frame = some X.env.locals) (hc : X.calm = true) (hN : X.N.Nodup) (hi : DI X Γ tg iter t) (ok : blkC X.N X.env.scope scope own = true)
    (hg : ∀ (Γ' : Act) (s : Shared) (H : Hp) (C : Addr) (cl : List (Str × Addr)) (fp : List Addr), DC (L2.Cx.blk X s H scope (compEnvC scope cl C X.env) fp) Γ' (own.map (·.2)) tg g)
    (ht : ∀ (Γ' : Act) (s : Shared) (H : Hp) (C : Addr) (cl : List (Str × Addr)) (fp : List Addr), DTs (L2.Cx.blk X s H scope (compEnvC scope cl C X.env) fp) Γ' ifs tt)
    (he : ∀ (Γ' : Act) (s : Shared) (H : Hp) (C : Addr) (cl : List (Str × Addr)) (fp : List Addr) (EC : DXQ), LX (Cx.blkX X s H scope (compEnvC scope cl C X.env) fp) Γ' (L2.CX X.prog X.w) (fun x _ μ => EC x μ) → DE (Cx.blkX X s H scope (compEnvC scope cl C X.env) fp) Γ' elt (te EC)) (hs : ∀ x, foldedSetIterable iter X.env x = pure x := by intro _; rfl) :
    DE X Γ (.ListComp elt [⟨tg, iter, ifs, 0⟩] scope pos) (dLcX t g tt te EX (own.map (·.2))) := by
  obtain ⟨WO, tk, hW⟩ := lt
  refine ⟨PE.imp (pe_lcX (te := teX X.K te) tk hst hfr hc hN hi.pi (blkOk_by ok) (fun s H C cl fp => ⟨fun pins s' σ H' v u Q I r ⟨Γ', h⟩ => (hg Γ' s H C cl fp).pg.run pins s' σ H' v u Q I r h⟩) (fun s H C cl fp => ⟨fun pins s' σ H' Q I ⟨Γ', h⟩ => (ht Γ' s H C cl fp).pts.run pins s' σ H' Q I h⟩)
    (fun s H C cl fp E hp => ⟨fun pins s' σ H' Q I ⟨Γ', F, S, μ, ρ, R, EC, r, q, a, ax⟩ => ?_⟩) hs) (up_lcX hW)⟩
  exact (he Γ' s H C cl fp EC ⟨fun _ => E, hp, fun x ρ' μ' q' σ' F' S' H2 c od r' xr => ax x μ' q' σ' ρ' F' S' H2 c od r' xr⟩).pe.run pins s' σ H' Q I ⟨F, S, μ, ρ, R, r, q, a⟩
end
end DL
set_option Elab.async false
set_option linter.all false
set_option maxRecDepth 100000
set_option maxHeartbeats 2000000
namespace DL
open PySem PySem.Spec PyProof.Rows L2
theorem DE.go {X : Cx} {Γ : Act} {pins : List (Addr × Obj)} {σ : L2.St} {ρ : Rho} {F S H : Hp} {μ : Mem} {s : Shared} {e : Expr} {t : DTE} {P : DQ} (h : DE X Γ e t) (I : Inv X pins σ H s) (r : ER X.K Γ σ ρ F S H μ) (q : t ρ μ P) :
    wpAny (model X.prog X.w) X.A (eval e X.env) (EP X pins σ fun v H1 => ∃ d μ1 S1, Same S S1 ∧ WR X.K F S1 H1 μ1 ∧ Rp X.K S1 v d ∧ P d μ1) X.xe s :=
  h.pe.run pins s σ H _ I ⟨F, S, μ, ρ, P, r, q, fun d μ1 q1 v S1 H1 s1 w1 p1 => ⟨d, μ1, S1, s1, w1, p1, q1⟩⟩
theorem DA.go {X : Cx} {Γ : Act} {pins : List (Addr × Obj)} {σ : L2.St} {ρ : Rho} {F S H : Hp} {μ : Mem} {s : Shared} {es : List Expr} {t : DTA} {P : List D → Mem → Prop} {pos : Pos} (h : DA X Γ es t) (I : Inv X pins σ H s) (r : ER X.K Γ σ ρ F S H μ) (q : t ρ μ P) :
    wpAny (model X.prog X.w) X.A (spliced (backTo pos (starEach es X.env))) (AP X pins σ fun vs H1 => ∃ ds μ1 S1, Same S S1 ∧ WR X.K F S1 H1 μ1 ∧ RpAll X.K S1 vs ds ∧ P ds μ1) X.xe s :=
  h.pa.run pos pins s σ H _ I ⟨F, S, μ, ρ, P, r, q, fun d μ1 q1 v S1 H1 s1 w1 p1 => ⟨d, μ1, S1, s1, w1, p1, q1⟩⟩
section
variable {X : Cx} {Γ : Act} {CX : CXT} {k : Nat} {f C : Addr} {fd : FuncData} {ps : List Str} {fs : FSp} {x m : Str} {p pos apos : Pos} {e o : Expr} {es : List Expr} {t : DTA} {ta : DTE} {EX : Exc → Rho → Mem → Prop} {pl : Sem Bool}
/-- f() -/
theorem de_call0 (Fn : FnOk X.prog X.w X.K X.mg X.base CX k f fd ps (spD X.K fs)) (hr : Room k X.A) (hg : Gl X x) (hm : X.mg x = some (.ref f)) (hk : PySem.W.keepIn X.K (.ref f) = true) (hb : Binds X.K fd ps []) (lx : LX X Γ CX EX)
    (hdb : (x == ("__debug__" : Str)) = false := by decide) : DE X Γ (.Call (.Name x p) [] [] pos) (dCall fs EX dNil) := by
  obtain ⟨E, hE, hx⟩ := lx
  refine ⟨⟨fun pins s σ H Q I ⟨F, S, μ, ρ, R, r, q, a⟩ => ?_⟩⟩
  refine wpAny_Call_Name_kw (ld_glob I hg hm ?_ hdb)
  refine PySem.W.callWith_K0 I.kIn hk (run_fnS (us := []) (vs := []) (E := E) Fn hr hb (hE σ) I .nil ?_)
  exact ⟨F, S, μ, [], _, _, r.wr, .nil, q, a, fun x μ2 q2 c od S2 H2 s2 w2 xr => hx x ρ μ2 q2 σ F S2 H2 c od (r.later s2 w2) xr⟩
/-- o.m(e, ..) of an instance of the class at C -/
def dMeth (C : Addr) (m : Str) (fs : FSp) (EX : Exc → Rho → Mem → Prop) (ta : DTE) (t : DTA) : DTE := fun ρ μ Q => ta ρ μ fun d μ1 => ∃ a ffs, d = dref a ∧ μ1 a = some (.ins C ffs) ∧ ffs.lookup m = none ∧ t ρ μ1 fun ds μ2 => fs (d :: ds) μ2 Q fun x μ3 => EX x ρ μ3
theorem de_meth (ho : DE X Γ o ta) (c : Cls X.K C) (hm : Meth X.K C m f) (Fn : FnOk X.prog X.w X.K X.mg X.base CX k f fd ps (spD X.K fs)) (hr : Room k X.A) (hb : Binds X.K fd ps []) (lx : LX X Γ CX EX) (ha : DA X Γ (e :: es) t)
    (hst : starEach (e :: es) X.env = (false, eval e X.env) :: starEach es X.env := by rfl) (hpl : (backTo pos (starEach es X.env)).any (·.1) = false := by rfl)
    (ht : eval (.Call (.Attribute o m apos) (e :: es) [] pos) X.env = (do
      let ov ← eval o X.env
      standAt apos.atName
      let (g, first) ← holding [ov] (getMethod ov m pl)
      callWith pos g first (backTo pos (starEach (e :: es) X.env)) (backToKw pos (keywordEach [] X.env))) := by rfl) :
    DE X Γ (.Call (.Attribute o m apos) (e :: es) [] pos) (dMeth C m fs EX ta t) := by
  obtain ⟨E, hE, hx⟩ := lx
  refine ⟨⟨fun pins s σ H Q I ⟨F, S, μ, ρ, R, r, q, a⟩ => ?_⟩⟩
  refine PySem.W.methodCall_KW (pl := pl) (thn (ho.go I r q) fun u s1 ⟨v, H1, I1, rv, d, μ1, S1, ss1, w1, p1, b, ffs, e1, em, hl, q1⟩ => ?_) ht
  subst e1
  obtain rfl := rp_ref p1
  obtain rfl : u = Value.ref b := rv
  obtain ⟨_, dx, vs, e2, rr⟩ := w1.mem b _ em
  refine getmeth_ok I1 e2 c hm (rr.none hl) ?_
  refine PySem.W.callWith_K (first := [.ref b]) (h₀ := X.base) I.ok.mod.kin hm.kp (thn (ha.go I1 (r.later ss1 w1) q1) fun us s2 ⟨ws, H2, I2, rw', ds, μ2, S2, ss2, w2, p2, q2⟩ => ⟨I2.kIn, ?_⟩) hst hpl
  exact run_fnS (us := .ref b :: us) (vs := .ref b :: ws) (E := E) Fn hr hb (hE σ) I2 (.cons rfl rw') ⟨F, S2, μ2, dref b :: ds, _, _, w2, .cons (.ref b) p2, q2, a.from (ss1.trans ss2), fun x μ3 q3 c od S3 H3 s3 w3 xr => hx x ρ μ3 q3 σ F S3 H3 c od (r.later (ss1.trans (ss2.trans s3)) w3) xr⟩
theorem de_meth0 (ho : DE X Γ o ta) (c : Cls X.K C) (hm : Meth X.K C m f) (Fn : FnOk X.prog X.w X.K X.mg X.base CX k f fd ps (spD X.K fs)) (hr : Room k X.A) (hb : Binds X.K fd ps []) (lx : LX X Γ CX EX)
    (ht : eval (.Call (.Attribute o m apos) [] [] pos) X.env = (do
      let ov ← eval o X.env
      standAt apos.atName
      let (g, first) ← holding [ov] (getMethod ov m pl)
      callWith pos g first (backTo pos (starEach [] X.env)) (backToKw pos (keywordEach [] X.env))) := by rfl) :
    DE X Γ (.Call (.Attribute o m apos) [] [] pos) (dMeth C m fs EX ta dNil) := by
  obtain ⟨E, hE, hx⟩ := lx
  refine ⟨⟨fun pins s σ H Q I ⟨F, S, μ, ρ, R, r, q, a⟩ => ?_⟩⟩
  refine PySem.W.methodCall_KW (pl := pl) (thn (ho.go I r q) fun u s1 ⟨v, H1, I1, rv, d, μ1, S1, ss1, w1, p1, b, ffs, e1, em, hl, q1⟩ => ?_) ht
  subst e1
  obtain rfl := rp_ref p1
  obtain rfl : u = Value.ref b := rv
  obtain ⟨_, dx, vs, e2, rr⟩ := w1.mem b _ em
  refine getmeth_ok I1 e2 c hm (rr.none hl) ?_
  exact PySem.W.callWith_K0 (first := [.ref b]) I1.kIn hm.kp (run_fnS (us := [.ref b]) (vs := [.ref b]) (E := E) Fn hr hb (hE σ) I1 (.cons rfl .nil) ⟨F, S1, μ1, [dref b], _, _, w1, .cons (.ref b) .nil, q1, a.from ss1, fun x μ3 q3 c od S3 H3 s3 w3 xr => hx x ρ μ3 q3 σ F S3 H3 c od (r.later (ss1.trans s3) w3) xr⟩)
/-- C(e, ..): a new instance, then __init__, that lets nothing out -/
def dMake (C : Addr) (fs : FSp) (t : DTA) : DTE := fun ρ μ Q => t ρ μ fun ds μ1 => ∀ a, μ1 a = none → fs (dref a :: ds) (mset μ1 a (.ins C [])) (fun v μ2 => v = .none ∧ Q (dref a) μ2) fun _ _ => False
theorem make_at {K : PySem.W.Frag} {F S H : Hp} {μ : Mem} {fs : FSp} {vs : List V} {ds : List D} {R : DQ} {Q : VK} (w : WR K F S H μ) (r : RpAll K S vs ds) (a : Aft K F S R Q) (h : ∀ b, μ b = none → fs (dref b :: ds) (mset μ b (.ins C [])) (fun v μ2 => v = .none ∧ R (dref b) μ2) fun _ _ => False) :
    ∀ x dx, H x = none → H dx = none → dx ≠ x → spD K fs (.ref x :: (vs ++ [])) (upd (upd H dx (.own x)) x (.ins C dx [])) (fun v H2 => v = .non ∧ Q (.ref x) H2) fun _ _ _ => False := fun x dx hx hdx ne => by
  have w1 := w.more1 hdx (.own x)
  have hx1 : upd H dx (.own x) x = none := by rw [upd_ne (Ne.symm ne)]; exact hx
  have w2 := w1.fresh hx1 (.ins C dx []) (.ins C []) ⟨dx, [], upd_same, .nil⟩
  rw [List.append_nil]
  refine ⟨F, S, _, dref x :: ds, _, _, w2, .cons (.ref x) r, h x (w.freeM hx), fun d μ' ⟨ed, q⟩ v S' H' s' w' rv => ?_, fun _ _ z => z.elim⟩
  subst ed
  cases rv
  exact ⟨rfl, a _ μ' q _ S' H' s' w' (.ref x)⟩
theorem de_make (M : Mk X.K C f) (Fn : FnOk X.prog X.w X.K X.mg X.base CX0 k f fd ps (spD X.K fs)) (hr : Room (k + 1) X.A) (hg : Gl X x) (hm : X.mg x = some (.ref C)) (hb : Binds X.K fd ps []) (ha : DA X Γ (e :: es) t)
    (hdb : (x == ("__debug__" : Str)) = false := by decide) (he : starEach (e :: es) X.env = (false, eval e X.env) :: starEach es X.env := by rfl) (hpl : (backTo pos (starEach es X.env)).any (·.1) = false := by rfl) :
    DE X Γ (.Call (.Name x p) (e :: es) [] pos) (dMake C fs t) :=
  ⟨PE.imp (pe_make M Fn hr hg hm hb .nil passes00 ha.pa hdb he hpl) fun σ H Q ⟨F, S, μ, ρ, R, r, q, a⟩ => ⟨F, S, μ, ρ, _, r, q, fun ds μ1 q1 vs S1 H1 s1 w1 p1 => make_at w1 p1 (a.from s1) q1⟩⟩
theorem de_make0 (M : Mk X.K C f) (Fn : FnOk X.prog X.w X.K X.mg X.base CX0 k f fd ps (spD X.K fs)) (hr : Room (k + 1) X.A) (hg : Gl X x) (hm : X.mg x = some (.ref C)) (hb : Binds X.K fd ps [])
    (hdb : (x == ("__debug__" : Str)) = false := by decide) : DE X Γ (.Call (.Name x p) [] [] pos) (dMake C fs dNil) :=
  ⟨PE.imp (pe_make0 M Fn hr hg hm hb .nil passes00 hdb) fun σ H Q ⟨F, S, μ, ρ, R, r, q, a⟩ => make_at r.wr .nil a q⟩
theorem de_glob {v : V} {u : Value} {d : D} (hg : Gl X x) (hm : X.mg x = some u) (rv : RelV v u) (k : ∀ S, Rp X.K S v d) (hd : (x == ("__debug__" : Str)) = false := by decide) : DE X Γ (.Name x pos) (dC d) := de_of_const (pe_glob hg hm rv hd) k
theorem de_globI {i : Int} (hg : Gl X x) (hm : ∃ t, X.mg x = some (.int i t)) (hd : (x == ("__debug__" : Str)) = false := by decide) : DE X Γ (.Name x pos) (dC (.int i)) := by
  obtain ⟨t, hm⟩ := hm
  exact de_glob (v := .int i) hg hm ⟨t, rfl⟩ (fun _ => .int i) hd
theorem de_globS {z : Str} (hg : Gl X x) (hm : ∃ t, X.mg x = some (.str z t)) (hd : (x == ("__debug__" : Str)) = false := by decide) : DE X Γ (.Name x pos) (dC (.str z)) := by
  obtain ⟨t, hm⟩ := hm
  exact de_glob (v := .str z) hg hm ⟨t, rfl⟩ (fun _ => .str z) hd
def PRp (d : D) : Prop := d.plain = true ∧ d.showable = true ∧ d.hasDict = false ∧ d.depth ≤ 60 ∧ d.shown.length ≤ sizeLine ∧ ∀ i, d = .int i → i.natAbs.log2 < 1920
def dRepr : DRC := fun ds μ Q => ∃ d, ds = [d] ∧ PRp (snap μ d) ∧ Q (.str (snap μ d).shown) μ
def rRepr (K : PySem.W.Frag) : List V → Hp → VK → Prop := fun xs H Q => ∃ x d, xs = [x] ∧ Rp K H x d ∧ PRp d ∧ Q (.str d.shown) H
theorem calld_repr {K : PySem.W.Frag} : CallD K (rRepr K) dRepr := fun F S H μ xs ds R Q w r ⟨d, e, hp, q⟩ a => by
  subst e
  obtain ⟨v, rfl, rv⟩ := rpall1 r
  exact ⟨v, _, rfl, rv.snap w, hp, a.now w q (.str _)⟩
theorem call_reprD (hg : X.A.guards = some []) (hu : X.A.units + 64 < cLine) : CallR X (.builtin "repr") (rRepr X.K) := fun pins s σ H xs us Q I rxs ⟨x, d, ex, rd, ⟨h1, h2, h3, h4, h5, h6⟩, q⟩ => by
  subst ex
  obtain ⟨u, rfl, ru⟩ := rxs.one
  obtain ⟨as, rr⟩ := rd.reads I h1 ru
  have ref : ∀ a, u = .ref a → wpAny (model X.prog X.w) X.A (call (.builtin "repr") [u]) (EP X pins σ Q) X.xe s := fun a e => by
    subst e
    exact repr_of_reads' rr h2 (PyData.noDict_hsm h3) hg (by omega) (fun _ _ e => e) (fun h' u' tk hk => ⟨.str _, H, I.kept (t' := tk) hk, ⟨u', rfl⟩, q⟩) h5
  cases rd with
  | non => obtain rfl : u = Value.none := ru; exact P.repr_of_none ⟨.str _, H, I.tok _, ⟨_, rfl⟩, by simpa [PyData.shown] using q⟩
  | bl b => obtain rfl : u = Value.bool b := ru; exact P.repr_of_bool ⟨.str _, H, I.tok _, ⟨_, rfl⟩, by simpa [PyData.shown] using q⟩
  | int i => obtain ⟨t, rfl⟩ := ru; exact P.repr_of_int (h6 i rfl) ⟨.str _, H, I.tok _, ⟨_, rfl⟩, by simpa [PyData.shown] using q⟩
  | str z => obtain ⟨t, rfl⟩ := ru; exact P.repr_of_str ⟨.str _, H, I.tok _, ⟨_, rfl⟩, by simpa [PyData.shown] using q⟩ (by simpa [PyData.shown] using h5)
  | tup h r => exact ref _ ru
  | lst h r => exact ref _ ru
  | ref a => exact ref _ ru
  | ty n => simp [dty, PyData.plain] at h1
  | scr h r => exact ref _ ru
end
def RoomG (k : Nat) (A : Around) : Prop := Room k A ∧ A.guards = some []
structure FnG (P : Program) (w : World) (K : PySem.W.Frag) (mg : Str → Option Value) (base : Heap) (k : Nat) (f : Addr) (fd : FuncData) (ps : List Str) (sp : Sp) : Prop where
  len : ∀ vs H Q E, sp vs H Q E → vs.length = ps.length
  run : ∀ (A : Around) (outer : List Env) (s : Shared) (H : Hp) (args : Args) (us : List Value) (vs : List V) (Q : VK) (E : XK), RoomG k A → Env0 P w K mg base A outer s H → BindsTo s fd args (ps.zip us) → Vals vs us → sp vs H Q E → codeAny (model P w) A (.call (.ref f) args) (CR CX0 outer P w H s Q E) s
theorem FnOk.toG {P : Program} {w : World} {K : PySem.W.Frag} {mg : Str → Option Value} {base : Heap} {k : Nat} {f : Addr} {fd : FuncData} {ps : List Str} {sp : Sp} (F : FnOk P w K mg base CX0 k f fd ps sp) : FnG P w K mg base k f fd ps sp := ⟨F.len, fun A outer s H args us vs Q E hr => F.run A outer s H args us vs Q E hr.1⟩
section
variable {P : Program} {w : World} {K : PySem.W.Frag} {mg : Str → Option Value} {base : Heap}
theorem funG_ok {x qual : Str} {st : Stmt} {f : Addr} {fd : FuncData} {N ps : List Str} {k : Nat} {fs : FSp} {t : DTS} (Fn : Fun K x qual st f fd) (Sc : FnScope N ps (defScope st)) (len : ∀ ds μ R EX, fs ds μ R EX → ds.length = ps.length)
    (body : ∀ (cdv : Value) (A : Around) (outer : List Env) (s : Shared) (H : Hp) (E : XK) (Γ : Act), fd.code = cdv → RoomG k (A.deeper (envOfC qual (defScope st) s.heap.objs.size f cdv)) → DSs (cxOf CX0 P w K mg base N qual (defScope st) f cdv A outer s H E).nox Γ (defBody st) t)
    (read : ∀ ds μ R EX, fs ds μ R EX → t { nx := fun _ μ' => Sett R .none μ', rt := Sett R } (startD N ds) μ) : FnG P w K mg base (k + 1) f fd ps (spD K fs) := by
  obtain ⟨oc, od, kV, doc, pm, an, cdv, ct, osl, rfl, lk, hcd⟩ := Fn.ex
  have hlen : ∀ vs H Q E, spD K fs vs H Q E → vs.length = ps.length := fun vs H Q E ⟨F, S, μ, ds, R, EX, _, r, q, _⟩ => by rw [r.length]; exact len ds μ R EX q
  refine ⟨hlen, fun A outer s H args us vs Q E hr e0 hb rv hsp => LamX.run_ofS (CX := CX0) lk hcd Sc hr.1 e0 hb rv (hlen _ _ _ _ hsp) fun hr' => ?_⟩
  obtain ⟨F, S, μ, ds, R, EX, wr, r, q, a, _⟩ := hsp
  refine ⟨_, (body cdv A outer s H E ⟨F, S⟩ rfl ⟨hr', hr.2⟩).pss.nox, F, S, μ, _, _, er_start wr r, read ds μ R EX q, ?_, a.sett, ?_, ?_⟩
  · exact fun ρ' μ' q' σ' F' S' H' s' r' => a.sett _ μ' q' .non S' H' s' (r'.wr.lessF r'.f0) .non
  · exact fun _ _ z => z.elim
  · exact fun _ _ z => z.elim
end
section
variable {X : Cx} {Γ : Act} {k : Nat} {f : Addr} {fd : FuncData} {ps : List Str} {fs : FSp} {x : Str} {p pos : Pos} {e : Expr} {es : List Expr} {t : DTA}
theorem run_fnG {pins : List (Addr × Obj)} {σ : L2.St} {H : Hp} {s : Shared} {Q : VK} {us : List Value} {vs : List V} {sp : Sp} (F : FnG X.prog X.w X.K X.mg X.base k f fd ps sp) (hr : RoomG k X.A) (hb : Binds X.K fd ps []) (I : Inv X pins σ H s) (r : Vals vs us) (h : sp vs H Q E0) :
    wpAny (model X.prog X.w) X.A (call (.ref f) us) (EP X pins σ Q) X.xe s := by
  have hl : us.length = ps.length := by rw [← r.length]; exact F.len _ _ _ _ h
  have b := hb s us I.kIn (by rw [List.append_nil]; exact hl)
  rw [List.append_nil] at b
  refine wpAny_call (codeAny_mono (F.run X.A X.stack s H ⟨us, []⟩ us vs Q E0 hr I.env0 b r h) fun res s' hq => ?_)
  cases res with
  | error e => exact False.elim hq
  | ok fl =>
    cases fl with
    | ret u => exact I.after hq
    | next => exact False.elim hq
    | brk => exact False.elim hq
    | cont => exact False.elim hq
theorem de_callG (Fn : FnG X.prog X.w X.K X.mg X.base k f fd ps (spD X.K fs)) (hr : RoomG k X.A) (hg : Gl X x) (hm : X.mg x = some (.ref f)) (hk : PySem.W.keepIn X.K (.ref f) = true) (hb : Binds X.K fd ps []) (ha : DA X Γ (e :: es) t)
    (hdb : (x == ("__debug__" : Str)) = false := by decide) (he : starEach (e :: es) X.env = (false, eval e X.env) :: starEach es X.env := by rfl) (hpl : (backTo pos (starEach es X.env)).any (·.1) = false := by rfl) :
    DE X Γ (.Call (.Name x p) (e :: es) [] pos) (dCall fs (fun _ _ _ => False) t) := by
  refine ⟨⟨fun pins s σ H Q I ⟨F, S, μ, ρ, R, r, q, a⟩ => ?_⟩⟩
  refine wpAny_Call_Name_kw (ld_glob I hg hm ?_ hdb)
  refine PySem.W.callWith_K (h₀ := X.base) I.ok.mod.kin hk (thn (ha.go I r q) fun us s2 ⟨ws, H2, I2, rw', ds, μ2, S2, ss2, w2, p2, q2⟩ => ⟨I2.kIn, ?_⟩) he hpl
  exact run_fnG Fn hr hb I2 rw' ⟨F, S2, μ2, ds, _, _, w2, p2, q2, a.from ss2, fun x μ3 q3 => q3.elim⟩
end
end DL
set_option Elab.async false
set_option linter.all false
set_option maxRecDepth 100000
set_option maxHeartbeats 2000000
namespace DL
open PySem PySem.Spec PyProof.Rows L2
def oexB (K : PySem.W.Frag) (C : Addr) : Bool := (match K.lookup C with
  | some ⟨.type t, _, .cls cd, sl⟩ => t == "type" && (match cd.mro, sl.toList with
    | .ref C' :: bm, [_, _, _, _, some (.builtin n), _] => C' == C && (n == "ValueError.__new__" && (!cd.hasDel && (cd.hasDict && PySem.HandSPX.refsVE bm)))
    | _, _ => false)
  | _ => false) && (He.eqO (PySem.W.findIn K (.ref C) "__setattr__") (some (some (.builtin "object.__setattr__"))) && (decide (PySem.W.subIn K (.ref C) (.type "BaseException") = some true) && (decide (PySem.W.typeIn K (.ref C) = some (.type "type")) && PySem.W.keepIn K (.ref C))))
theorem oexB_ok {K : PySem.W.Frag} {C : Addr} (h : oexB K C = true) : OexC K C := by
  obtain ⟨h1, h⟩ := He.ba h
  obtain ⟨h2, h⟩ := He.ba h
  obtain ⟨h3, h⟩ := He.ba h
  obtain ⟨h4, h5⟩ := He.ba h
  refine ⟨?_, He.eqO_ok h2, of_decide_eq_true h3, of_decide_eq_true h4, h5⟩
  split at h1
  · rename_i t dd cd sl ho
    obtain ⟨ht, h1⟩ := He.ba h1
    rw [beq_iff_eq.mp ht] at ho
    split at h1
    · rename_i C' bm k0 k1 k2 k3 n k5 hm hs
      simp only [Bool.and_eq_true, beq_iff_eq, Bool.not_eq_true'] at h1
      obtain ⟨rfl, rfl, hdel, hdict, hv⟩ := h1
      obtain ⟨nm, bs, mro, ns, qn, hd, sn, sub, ab, col, del⟩ := cd
      dsimp only at hm hdel hdict
      subst hm hdel hdict
      have hsl : sl = #[k0, k1, k2, k3, some (.builtin "ValueError.__new__"), k5] := by
        obtain ⟨l⟩ := sl
        simp only at hs
        rw [hs]
      subst hsl
      exact ⟨nm, qn, ns, bs, bm, sn, sub, ab, col, dd, k0, k1, k2, k3, k5, ho, hv⟩
    · cases h1
  · cases h1
/-- a class with its __init__ -/
structure ExcD where
  x : Str
  st : Stmt
  fields : List Str
def ExcD.val (e : ExcD) : He.FnW := some ("__init__", e.x ++ ".__init__", defArgs e.st, .stmts (defBody e.st), defScope e.st, mainGlobals, [("__class__", 0)], builtinsNs)
def fnC (K : PySem.W.Frag) (x : Str) : He.FnW := match K.lookup (He.ma K (He.ga K x) "__init__") with
  | some ⟨_, _, .func fd, _⟩ => some (fd.name, fd.qualname, fd.params, fd.body, fd.scope, fd.globals, fd.closure.map (fun q => (q.1, 0)), fd.builtins)
  | _ => none
def cellB (K : PySem.W.Frag) (cc C : Addr) : Bool := match K.lookup cc with
  | some ⟨_, _, .cell (some (.ref D)), _⟩ => D == C
  | _ => false
def fileB (K : PySem.W.Frag) (c : Addr) (pf : Str) : Bool := match K.lookup c with
  | some ⟨_, _, .fields vs, _⟩ => (match (vs[2]? : Option Value) with
    | some (.str f _) => pf == f
    | _ => false)
  | _ => false
def ExcD.ok (pf : Str) (K : PySem.W.Frag) (e : ExcD) : Bool := oexB K (He.ga K e.x) && ((match K.lookup (He.ma K (He.ga K e.x) "__init__") with
  | some ⟨_, _, .func fd, _⟩ => (match fd.code, fd.closure, fd.defaults with
    | .ref cda, [(_, cc)], .none => PySem.W.codeIn K (.ref cda) fd.qualname && (fileB K cda pf && cellB K cc (He.ga K e.x))
    | _, _, _ => false)
  | _ => false) && (He.eqO (PySem.W.findIn K (.ref (He.ga K e.x)) "__init__") (some (some (.ref (He.ma K (He.ga K e.x) "__init__")))) && (decide (PySem.W.typeIn K (.ref (He.ma K (He.ga K e.x) "__init__")) = some (.type "function")) &&
  (decide (PySem.W.mroIn K (He.ga K e.x) (.ref (He.ga K e.x)) = some true) && (decide (PySem.W.ks_superIn K (He.ga K e.x) (He.ga K e.x) "__init__" = some (some (.builtin "ValueError.__init__"))) && (decide (PySem.W.subIn K (.ref (He.ga K e.x)) (.type "ValueError") = some true) &&
  (He.eqO (PySem.W.nsIn K cStatics "thirdparty.any") (some none) && e.fields.all fun f => He.eqO (PySem.W.findIn K (.ref (He.ga K e.x)) f) (some none))))))))
/-- what is told of such a class -/
structure ExcSays (K : PySem.W.Frag) (pf : Str) (e : ExcD) (C f cda cc : Addr) : Prop where
  oex : OexC K C
  fn : ∃ oc od kV doc pm an ct osl, K.lookup f = some ⟨oc, od, .func (PySem.W.ksFn "__init__" (e.x ++ ".__init__") (defArgs e.st) (defBody e.st) (defScope e.st) .none kV doc pm an (.ref cda) ct cc), osl⟩
  code : PySem.W.codeIn K (.ref cda) (e.x ++ ".__init__") = true
  file : ∃ ccl cdd vs ccs file tf, K.lookup cda = some ⟨ccl, cdd, .fields vs, ccs⟩ ∧ vs[2]? = some (.str file tf) ∧ (pf == file) = true
  cell : ∃ cl cld csl, K.lookup cc = some ⟨cl, cld, .cell (some (.ref C)), csl⟩
  init : PySem.W.findIn K (.ref C) "__init__" = some (some (.ref f))
  ty : PySem.W.typeIn K (.ref f) = some (.type "function")
  sub : PySem.W.mroIn K C (.ref C) = some true
  sup : PySem.W.ks_superIn K C C "__init__" = some (some (.builtin "ValueError.__init__"))
  ve : PySem.W.subIn K (.ref C) (.type "ValueError") = some true
  stat : PySem.W.nsIn K cStatics "thirdparty.any" = some none
  no : ∀ g ∈ e.fields, PySem.W.findIn K (.ref C) g = some none
theorem excSays {K : PySem.W.Frag} {pf : Str} {e : ExcD} (hv : fnC K e.x = e.val) (h : e.ok pf K = true) : ∃ cda cc, ExcSays K pf e (He.ga K e.x) (He.ma K (He.ga K e.x) "__init__") cda cc := by
  obtain ⟨h1, h⟩ := He.ba h
  obtain ⟨h2, h⟩ := He.ba h
  obtain ⟨h3, h⟩ := He.ba h
  obtain ⟨h4, h⟩ := He.ba h
  obtain ⟨h5, h⟩ := He.ba h
  obtain ⟨h6, h⟩ := He.ba h
  obtain ⟨h7, h⟩ := He.ba h
  obtain ⟨h8, h9⟩ := He.ba h
  unfold fnC at hv
  split at h2
  · rename_i oc od fd osl ho
    rw [ho] at hv
    split at h2
    · rename_i cda n cc hcode hclo hdef
      obtain ⟨g1, h2⟩ := He.ba h2
      obtain ⟨g2, g3⟩ := He.ba h2
      obtain ⟨n1, n2, n3, n4, n5, n6, n7, n8, n9, n10, n11, n12, n13, n14, n15⟩ := fd
      dsimp only at hcode hclo hdef g1
      subst hcode hclo hdef
      have hv2 : (some (n1, n2, n3, n4, n5, n6, [(n, 0)], n15) : He.FnW) = e.val := hv
      unfold ExcD.val at hv2
      simp only [Option.some.injEq, Prod.mk.injEq, List.cons.injEq, and_true] at hv2
      obtain ⟨e1, e2, e3, e4, e5, e6, e7, e8⟩ := hv2
      subst e1 e2 e3 e4 e5 e6 e7 e8
      refine ⟨cda, cc, oexB_ok h1, ⟨oc, od, n9, n10, n11, n12, n14, osl, ho⟩, g1, ?_, ?_, He.eqO_ok h3, of_decide_eq_true h4, of_decide_eq_true h5, of_decide_eq_true h6, of_decide_eq_true h7, He.eqO_ok h8, fun g hg => He.eqO_ok (List.all_eq_true.mp h9 g hg)⟩
      · unfold fileB at g2
        split at g2
        · rename_i a b vs d ho2
          split at g2
          · rename_i fl tf hvs
            exact ⟨a, b, vs, d, fl, tf, ho2, hvs, g2⟩
          · cases g2
        · cases g2
      · unfold cellB at g3
        split at g3
        · rename_i a b D d ho2
          rw [beq_iff_eq.mp g3] at ho2
          exact ⟨a, b, d, ho2⟩
        · cases g3
    · cases h2
  · cases h2
def asY (g : Addr → Option Obj) (n : Nat) : List Addr := cStatics :: He.asD g n
abbrev AlY : Type := He.AlX × List He.FnW
def obsY (n : Nat) (fa : List He.Fa) (fn : List He.DefD) (ec : List ExcD) (tf : List He.Defn) (ex : PySem.W.Frag → Bool) (g : Addr → Option Obj) : AlY :=
  ((He.obsT fa fn [] (He.frT g (asY g n)), ex (He.frT g (asY g n)) && He.tabsB g tf (He.frT g (asY g n))), ec.map fun e => fnC (He.frT g (asY g n)) e.x)
def valY (fn : List He.DefD) (ec : List ExcD) (w : World) : AlY := (He.valX fn [] w, ec.map ExcD.val)
structure SaysY (fa : List He.Fa) (fn : List He.DefD) (ec : List ExcD) (tf : List He.Defn) (ex : PySem.W.Frag → Bool) (h : Heap) (K : PySem.W.Frag) : Prop where
  d : He.SaysD fa fn K
  more : ex K = true
  exc : ec.map (fun e => fnC K e.x) = ec.map ExcD.val
  hd : ∀ p ∈ tf, PySem.W.codeHdIn K (He.cT K p).1 (He.cT K p).2 = true
  out : ∀ p ∈ tf, K.lookup (He.cT K p).2 = none
  empty : ∀ p ∈ tf, h.get? (He.cT K p).2 = some { cls := .none, data := .fields #[] }
theorem saysY_of {n : Nat} {fa : List He.Fa} {fn : List He.DefD} {ec : List ExcD} {tf : List He.Defn} {ex : PySem.W.Frag → Bool} {w : World} {h : Heap} (e : obsY n fa fn ec tf ex h.get? = valY fn ec w) : SaysY fa fn ec tf ex h (He.frT h.get? (asY h.get? n)) := by
  have e0 := congrArg (fun z : AlY => z.1) e
  have e3 : ec.map (fun e => fnC (He.frT h.get? (asY h.get? n)) e.x) = ec.map ExcD.val := congrArg (fun z : AlY => z.2) e
  have e1 : He.obsT fa fn [] (He.frT h.get? (asY h.get? n)) = He.valT fn [] w := congrArg (fun z : He.AlX => z.1) e0
  have e2 : (ex (He.frT h.get? (asY h.get? n)) && He.tabsB h.get? tf (He.frT h.get? (asY h.get? n))) = true := congrArg (fun z : He.AlX => z.2) e0
  obtain ⟨h1, h2⟩ := He.ba e2
  have key : ∀ p ∈ tf, PySem.W.codeHdIn (He.frT h.get? (asY h.get? n)) (He.cT (He.frT h.get? (asY h.get? n)) p).1 (He.cT (He.frT h.get? (asY h.get? n)) p).2 = true ∧ ∃ o, h.get? (He.cT (He.frT h.get? (asY h.get? n)) p).2 = some o ∧ He.emptyTab o = true := fun p hp => by
    obtain ⟨h3, h4⟩ := He.ba (List.all_eq_true.mp h2 p hp)
    refine ⟨h3, ?_⟩
    cases q : h.get? (He.cT (He.frT h.get? (asY h.get? n)) p).2 with
    | none => rw [q] at h4; cases h4
    | some o => rw [q] at h4; exact ⟨o, rfl, h4⟩
  refine ⟨congrArg (fun z : He.AlT => z.1) e1, h1, e3, fun p hp => (key p hp).1, fun p hp => ?_, fun p hp => ?_⟩
  · obtain ⟨_, o, q, z⟩ := key p hp
    exact He.frT_none q z
  · obtain ⟨_, o, q, z⟩ := key p hp
    rw [q, He.emptyTab_eq z]
def hookY (n : Nat) (fa : List He.Fa) (fn : List He.DefD) (ec : List ExcD) (tf : List He.Defn) (ex : PySem.W.Frag → Bool) : PySem.W.Hook where
  α := AlY
  obs := fun s => obsY n fa fn ec tf ex s.heap.get?
  val := fun w => valY fn ec w
  says := fun w h => ∃ K : PySem.W.Frag, K.In h ∧ SaysY fa fn ec tf ex h K
  of := fun _ _ e => ⟨_, He.frT_in, saysY_of e⟩
  keeps := fun _ _ _ ⟨K, hK, c⟩ k => ⟨K, PySem.W.Frag.In.keeps hK k, ⟨c.d, c.more, c.exc, c.hd, c.out, fun p hp => k _ _ (c.empty p hp)⟩⟩
theorem obsY_eq {n : Nat} {fa : List He.Fa} {fn : List He.DefD} {ec : List ExcD} {tf : List He.Defn} {ex : PySem.W.Frag → Bool} {g : Addr → Option Obj} {s : Shared} (h : ∀ a, g a = s.heap.get? a) : obsY n fa fn ec tf ex g = (hookY n fa fn ec tf ex).obs s := by
  have e : g = s.heap.get? := funext h
  rw [e] <;> rfl
theorem SaysY.excOf {fa : List He.Fa} {fn : List He.DefD} {ec : List ExcD} {tf : List He.Defn} {ex : PySem.W.Frag → Bool} {h : Heap} {K : PySem.W.Frag} (c : SaysY fa fn ec tf ex h K) {e : ExcD} (he : e ∈ ec) : fnC K e.x = e.val := by
  have key : ∀ {l : List ExcD}, l.map (fun e => fnC K e.x) = l.map ExcD.val → ∀ e ∈ l, fnC K e.x = e.val := by
    intro l
    induction l with
    | nil => intro _ e h; cases h
    | cons a l ih =>
      intro h e hm
      have h1 := (List.cons.inj h).1
      have h2 := (List.cons.inj h).2
      rcases List.mem_cons.mp hm with rfl | hm
      · exact h1
      · exact ih h2 e hm
  exact key c.exc e he
end DL
namespace DL
open PySem PySem.Spec PyProof.Rows L2
theorem supF_of {P : Program} {K : PySem.W.Frag} {mg : Str → Option Value} {e : ExcD} {C f cda cc : Addr} {me : Str} {ar : Arg} (S : ExcSays K P.main.file e C f cda cc) (hsup : mg "super" = none) (h0 : ((defArgs e.st).posonlyargs ++ (defArgs e.st).args).head? = some ar) (har : ar.arg = me)
    (ht : (P.main.scope.names.lookup ("super" : Str)).isSome = false) (ks : (defScope e.st).names.lookup ("super" : Str) = some .globalImplicit) (kc : (defScope e.st).names.lookup ("__class__" : Str) = some .free) (ka : (defScope e.st).names.lookup me = some .local) (kf : (defScope e.st).kind = .function) :
    SupF P K mg (defScope e.st) me C f cda cc :=
  ⟨let ⟨oc, od, kV, doc, pm, an, ct, osl, lk⟩ := S.fn; ⟨oc, od, _, osl, ar, lk, h0, har⟩, S.file, S.cell, S.sub, S.sup, S.ve, S.stat, hsup, ht, ks, kc, ka, kf⟩
def supScB (ps : List Str) (sc : Scope) : Bool := decide (sc.kind = .function) && (!sc.isCoroutine && (!sc.isGenerator && (decide ps.Nodup && (ps.all (fun x => decide (sc.names.lookup x = some .local)) && sc.names.all fun y => !decide (y.2 = .cell) && (!decide (y.2 = .free) || decide (y.1 = "__class__"))))))
theorem supSc_by {ps : List Str} {sc : Scope} (h : supScB ps sc = true) : SupScope ps sc := by
  unfold supScB at h
  simp only [Bool.and_eq_true, Bool.or_eq_true, Bool.not_eq_true', decide_eq_true_eq, decide_eq_false_iff_not, List.all_eq_true] at h
  obtain ⟨h1, h2, h3, h4, h5, h6⟩ := h
  refine ⟨h1, h2, h3, h4, h5, fun y hy => ⟨(h6 y hy).1, fun e => ?_⟩⟩
  rcases (h6 y hy).2 with z | z
  · exact absurd e z
  · exact z
end DL
set_option Elab.async false
set_option linter.all false
set_option maxRecDepth 100000
set_option maxHeartbeats 2000000
namespace DL
open PySem PySem.Spec PyProof.Rows L2
/-- a def by its name, as it is called -/
def Okk (P : Program) (w : World) (K : PySem.W.Frag) (mg : Str → Option Value) (base : Heap) (CX : CXT) (k : Nat) (x : Str) (ps : List Str) (fs : FSp) : Prop :=
  ∃ f fd, mg x = some (.ref f) ∧ PySem.W.keepIn K (.ref f) = true ∧ FnOk P w K mg base CX k f fd ps (spD K fs) ∧ Binds K fd ps []
def OkG (P : Program) (w : World) (K : PySem.W.Frag) (mg : Str → Option Value) (base : Heap) (k : Nat) (x : Str) (ps : List Str) (fs : FSp) : Prop :=
  ∃ f fd, mg x = some (.ref f) ∧ PySem.W.keepIn K (.ref f) = true ∧ FnG P w K mg base k f fd ps (spD K fs) ∧ Binds K fd ps []
def OkM (P : Program) (w : World) (K : PySem.W.Frag) (mg : Str → Option Value) (base : Heap) (CX : CXT) (k : Nat) (C : Addr) (m : Str) (ps : List Str) (fs : FSp) : Prop :=
  ∃ f fd, Meth K C m f ∧ FnOk P w K mg base CX k f fd ps (spD K fs) ∧ Binds K fd ps []
theorem spD_imp {K : PySem.W.Frag} {fs gs : FSp} (h : ∀ ds μ R EX, gs ds μ R EX → fs ds μ R EX) : ∀ vs H Q E, spD K gs vs H Q E → spD K fs vs H Q E := fun vs H Q E ⟨F, S, μ, ds, R, EX, a, b, c, d, e⟩ => ⟨F, S, μ, ds, R, EX, a, b, h _ _ _ _ c, d, e⟩
theorem Okk.imp {P : Program} {w : World} {K : PySem.W.Frag} {mg : Str → Option Value} {base : Heap} {CX : CXT} {k : Nat} {x : Str} {ps : List Str} {fs gs : FSp} (o : Okk P w K mg base CX k x ps fs) (h : ∀ ds μ R EX, gs ds μ R EX → fs ds μ R EX) : Okk P w K mg base CX k x ps gs :=
  let ⟨f, fd, a, b, c, d⟩ := o; ⟨f, fd, a, b, c.imp (spD_imp h), d⟩
theorem Okk.mono {P : Program} {w : World} {K : PySem.W.Frag} {mg : Str → Option Value} {base : Heap} {CX : CXT} {j k : Nat} {x : Str} {ps : List Str} {fs : FSp} (o : Okk P w K mg base CX j x ps fs) (h : j ≤ k) : Okk P w K mg base CX k x ps fs :=
  let ⟨f, fd, a, b, c, d⟩ := o; ⟨f, fd, a, b, c.mono h, d⟩
theorem lxF {X : Cx} {Γ : Act} : LX X Γ (L2.CX X.prog X.w) fun _ _ _ => False :=
  ⟨fun _ _ _ _ => False, fun σ pins H s e s' I c => (by obtain ⟨_, _, _, _, _, _, _, _, _, _, _, _, z⟩ := c; exact z.elim), fun _ _ _ h => h.elim⟩
/-- in a def that may raise -/
theorem lt_of {P : Program} {w : World} {K : PySem.W.Frag} {mg : Str → Option Value} {base : Heap} {N : List Str} {q : Str} {sc : Scope} {f : Addr} {cdv : Value} {A : Around} {outer : List Env} {s : Shared} {H : Hp} {E : XK} {Γ : Act} {EX : DXQ}
    (h : ∀ x μ', EX x μ' → ∀ c od F' S' H', Same Γ.F0 F' → Same Γ.S0 S' → WR K F' S' H' μ' → XRep K S' H' c od x → E c od H') : LT (cxOf (L2.CX P w) P w K mg base N q sc f cdv A outer s H E) Γ fun x _ μ => EX x μ :=
  ⟨fun cls d _ H => E cls d H, takes_of rfl rfl rfl rfl, fun x ρ μ hx σ F S H' c od r xr => h x μ hx c od F S H' r.f0 r.s0 r.wr xr⟩
section
variable {X : Cx} {Γ : Act} {CX : CXT} {j k : Nat} {C : Addr} {ps : List Str} {fs : FSp} {x m : Str} {p pos apos : Pos} {e o : Expr} {es : List Expr} {t : DTA} {ta : DTE} {EX : Exc → Rho → Mem → Prop} {pl : Sem Bool}
theorem de_callO (h : Okk X.prog X.w X.K X.mg X.base CX j x ps fs) (hr : Room k X.A) (hj : j ≤ k) (hg : Gl X x) (lx : LX X Γ CX EX) (ha : DA X Γ (e :: es) t)
    (hdb : (x == ("__debug__" : Str)) = false := by decide) (he : starEach (e :: es) X.env = (false, eval e X.env) :: starEach es X.env := by rfl) (hpl : (backTo pos (starEach es X.env)).any (·.1) = false := by rfl) :
    DE X Γ (.Call (.Name x p) (e :: es) [] pos) (dCall fs EX t) := let ⟨_, _, hm, hk, Fn, hb⟩ := h; de_call Fn (hr.mono hj) hg hm hk hb lx ha hdb he hpl
theorem de_callO0 (h : Okk X.prog X.w X.K X.mg X.base CX j x ps fs) (hr : Room k X.A) (hj : j ≤ k) (hg : Gl X x) (lx : LX X Γ CX EX) (hdb : (x == ("__debug__" : Str)) = false := by decide) :
    DE X Γ (.Call (.Name x p) [] [] pos) (dCall fs EX dNil) := let ⟨_, _, hm, hk, Fn, hb⟩ := h; de_call0 Fn (hr.mono hj) hg hm hk hb lx hdb
theorem RoomG.mono {A : Around} (h : RoomG k A) (hj : j ≤ k) : RoomG j A := ⟨h.1.mono hj, h.2⟩
theorem de_callOG (h : OkG X.prog X.w X.K X.mg X.base j x ps fs) (hr : RoomG k X.A) (hj : j ≤ k) (hg : Gl X x) (ha : DA X Γ (e :: es) t)
    (hdb : (x == ("__debug__" : Str)) = false := by decide) (he : starEach (e :: es) X.env = (false, eval e X.env) :: starEach es X.env := by rfl) (hpl : (backTo pos (starEach es X.env)).any (·.1) = false := by rfl) :
    DE X Γ (.Call (.Name x p) (e :: es) [] pos) (dCall fs (fun _ _ _ => False) t) := let ⟨_, _, hm, hk, Fn, hb⟩ := h; de_callG Fn (hr.mono hj) hg hm hk hb ha hdb he hpl
theorem de_methO (ho : DE X Γ o ta) (c : Cls X.K C) (h : OkM X.prog X.w X.K X.mg X.base CX j C m ps fs) (hr : Room k X.A) (hj : j ≤ k) (lx : LX X Γ CX EX) (ha : DA X Γ (e :: es) t)
    (hst : starEach (e :: es) X.env = (false, eval e X.env) :: starEach es X.env := by rfl) (hpl : (backTo pos (starEach es X.env)).any (·.1) = false := by rfl)
    (ht : eval (.Call (.Attribute o m apos) (e :: es) [] pos) X.env = (do
      let ov ← eval o X.env
      standAt apos.atName
      let (g, first) ← holding [ov] (getMethod ov m pl)
      callWith pos g first (backTo pos (starEach (e :: es) X.env)) (backToKw pos (keywordEach [] X.env))) := by rfl) :
    DE X Γ (.Call (.Attribute o m apos) (e :: es) [] pos) (dMeth C m fs EX ta t) := let ⟨_, _, hm, Fn, hb⟩ := h; de_meth ho c hm Fn (hr.mono hj) hb lx ha hst hpl ht
theorem de_methO0 (ho : DE X Γ o ta) (c : Cls X.K C) (h : OkM X.prog X.w X.K X.mg X.base CX j C m ps fs) (hr : Room k X.A) (hj : j ≤ k) (lx : LX X Γ CX EX)
    (ht : eval (.Call (.Attribute o m apos) [] [] pos) X.env = (do
      let ov ← eval o X.env
      standAt apos.atName
      let (g, first) ← holding [ov] (getMethod ov m pl)
      callWith pos g first (backTo pos (starEach [] X.env)) (backToKw pos (keywordEach [] X.env))) := by rfl) :
    DE X Γ (.Call (.Attribute o m apos) [] [] pos) (dMeth C m fs EX ta dNil) := let ⟨_, _, hm, Fn, hb⟩ := h; de_meth0 ho c hm Fn (hr.mono hj) hb lx ht
end
section
variable {X : Cx} {Γ : Act} {a b c : Expr} {ta tb tc : DTE} {pos : Pos} {k : Nat} {op op' : CmpOp} {r r' : R2} {rd rd' : DR2}
theorem up_chain {K : PySem.W.Frag} {Γ : Act} {r r' : R2} {rd rd' : DR2} {ta tb tc : DTE} (o : OpD K r rd) (o' : OpD K r' rd') : ∀ σ H Q, up K Γ (dChain rd rd' ta tb tc) σ H Q → tChain r r' (up K Γ ta) (up K Γ tb) (up K Γ tc) σ H Q := fun σ H Q ⟨F, S, μ, ρ, R, r0, q, a⟩ =>
  ⟨F, S, μ, ρ, _, r0, q, fun x μ1 q1 v S1 H1 s1 w1 p1 => ⟨F, S1, μ1, ρ, _, r0.later s1 w1, q1, fun y μ2 q2 u S2 H2 s2 w2 p2 => o F S2 H2 μ2 v u x y _ _ w2 (p1.mono s2) p2 q2 fun z μ3 ⟨kk, ez, q3⟩ zv S3 H3 s3 w3 p3 => by
    subst ez
    cases p3
    refine ⟨kk, rfl, ?_⟩
    cases kk with
    | false => exact iteF (a _ μ3 (by simpa using q3) _ S3 H3 (s1.trans (s2.trans s3)) w3 (.bl false))
    | true =>
      rw [if_pos rfl] at q3
      exact iteT ⟨F, S3, μ3, ρ, _, r0.later (s1.trans (s2.trans s3)) w3, q3, fun w μ4 q4 wv S4 H4 s4 w4 p4 => o' F S4 H4 μ4 u wv y w _ _ w4 (p2.mono (s3.trans s4)) p4 q4 (a.from (s1.trans (s2.trans (s3.trans s4))))⟩⟩⟩
theorem de_chain (ho : OpR X (compareOp op) r) (o : OpD X.K r rd) (ho' : OpR X (compareOp op') r') (o' : OpD X.K r' rd') (ha : DE X Γ a ta) (hb : DE X Γ b tb) (hc : DE X Γ c tc) (hm : lastMarks [op, op'] [b, c] = false := by with_unfolding_all rfl) :
    DE X Γ (.Compare a [op, op'] [b, c] pos) (dChain rd rd' ta tb tc) := ⟨PE.imp (pe_chain ho ho' ha.pe hb.pe hc.pe hm) (up_chain o o')⟩
theorem de_lele (hr : Room k X.A) (ha : DE X Γ a ta) (hb : DE X Γ b tb) (hc : DE X Γ c tc) (hm : lastMarks [.LtE, .LtE] [b, c] = false := by with_unfolding_all rfl) :
    DE X Γ (.Compare a [.LtE, .LtE] [b, c] pos) (dChain (dCmp PLt fun d e => !PySem.W.dataLt e d) (dCmp PLt fun d e => !PySem.W.dataLt e d) ta tb tc) := de_chain (op_leP hr.units) opd_cmp (op_leP hr.units) opd_cmp ha hb hc hm
theorem dt_lele (hr : Room k X.A) (ha : DE X Γ a ta) (hb : DE X Γ b tb) (hc : DE X Γ c tc) (hm : lastMarks [.LtE, .LtE] [b, c] = false := by with_unfolding_all rfl) :
    DT X Γ (.Compare a [.LtE, .LtE] [b, c] pos) (dTest (dChain (dCmp PLt fun d e => !PySem.W.dataLt e d) (dCmp PLt fun d e => !PySem.W.dataLt e d) ta tb tc)) :=
  ⟨PT.imp (pt_chain (op_leP hr.units) (op_leP hr.units) ha.pe hb.pe hc.pe hm) fun σ H Q q => up_chain opd_cmp opd_cmp _ _ _ (up_test σ H Q q)⟩
end
theorem forL_ind {g : DTG} {body : DTS} {En : DEnds} (I : List D → Rho → Mem → Prop) (hn : ∀ ρ μ, I [] ρ μ → En.nx ρ μ)
    (hc : ∀ d ds ρ μ, I (d :: ds) ρ μ → (∀ ρ' μ', I ds ρ' μ' → dForL g body En ds ρ' μ') → g d ρ μ fun ρ1 μ1 => body { En with nx := dForL g body En ds, ct := dForL g body En ds, bk := En.nx } ρ1 μ1) :
    ∀ ds ρ μ, I ds ρ μ → dForL g body En ds ρ μ
  | [], ρ, μ, h => hn ρ μ h
  | d :: ds, ρ, μ, h => hc d ds ρ μ h fun ρ' μ' h' => forL_ind I hn hc ds ρ' μ' h'
theorem lcL_ind {g : DTG} {tt : DTT} {te : DTE} {ρ : Rho} {Q : List D → Mem → Prop} (I : List D → List D → Mem → Prop) (hn : ∀ acc μ, I [] acc μ → Q acc μ)
    (hc : ∀ d ds acc μ, I (d :: ds) acc μ → (∀ acc' μ', I ds acc' μ' → dLcL g tt te ρ ds acc' μ' Q) → g d ρ μ fun ρ1 μ1 => tt ρ1 μ1 fun b μ2 => if b = true then te ρ1 μ2 fun y μ3 => acc.length < sizeLine ∧ dLcL g tt te ρ ds (acc ++ [y]) μ3 Q else dLcL g tt te ρ ds acc μ2 Q) :
    ∀ ds acc μ, I ds acc μ → dLcL g tt te ρ ds acc μ Q
  | [], acc, μ, h => hn acc μ h
  | d :: ds, acc, μ, h => hc d ds acc μ h fun acc' μ' h' => lcL_ind I hn hc ds acc' μ' h'
theorem mem_sub {μ : Mem} : ∀ a m, μ a = some m → μ a = some m := fun _ _ e => e
theorem sub_mset {μ : Mem} {p : Addr} {m0 : M} (h : μ p = none) : ∀ a m, μ a = some m → mset μ p m0 a = some m := fun a m e => by
  unfold mset
  rw [if_neg (fun z => by rw [z, h] at e; cases e)]
  exact e
theorem sett_sub {R : DQ} {d : D} {μ μ2 : Mem} (hs : ∀ a m, μ2 a = some m → μ a = some m) (h : R d μ2) : Sett R d μ := ⟨d, μ2, ⟨hs, .inl rfl⟩, h⟩
theorem sett_lst {R : DQ} {a : Addr} {xs : List D} {μ μ2 : Mem} (hs : ∀ b m, μ2 b = some m → μ b = some m) (h0 : μ2 a = none) (h1 : μ a = some (.lst xs)) (h : R (.list xs) μ2) : Sett R (dref a) μ := ⟨.list xs, μ2, ⟨hs, .inr ⟨a, xs, rfl, h1, h0, rfl⟩⟩, h⟩
end DL
namespace DL
open PySem PySem.Spec PyProof.Rows L2
/-- -e -/
def dNeg (t : DTE) : DTE := fun ρ μ Q => t ρ μ fun d μ1 => ∃ i, d = .int i ∧ Q (.int (-i)) μ1
theorem de_neg {X : Cx} {Γ : Act} {a : Expr} {ta : DTE} {pos : Pos} (ha : DE X Γ a ta) : DE X Γ (.UnaryOp .USub a pos) (dNeg ta) := ⟨PE.imp (pe_un un_neg ha.pe) fun σ H Q ⟨F, S, μ, ρ, R, r0, q, af⟩ => ⟨F, S, μ, ρ, _, r0, q, fun d μ1 ⟨i, e, q1⟩ v S1 H1 s1 w1 p1 => by
  subst e
  cases p1
  exact ⟨i, rfl, af _ μ1 q1 _ S1 H1 s1 w1 (.int _)⟩⟩⟩
end DL
namespace DL
open PySem PySem.Spec PyProof.Rows L2
theorem opd_inI {K : PySem.W.Frag} : OpD K rAdd (dI (fun i j => i + j) fun _ _ => True) := fun F S H μ x y d e R Q w rx ry q a => by
  unfold dI at q
  split at q
  · cases rx; cases ry
    exact ⟨_, _, rfl, rfl, a.now w q.2 (.int _)⟩
  · exact q.elim
end DL
set_option Elab.async false
set_option linter.all false
set_option maxRecDepth 100000
set_option maxHeartbeats 2000000
namespace DL
open PySem PySem.Spec PyProof.Rows L2
def NoDict (d : D) : Prop := ∀ kvs, d ≠ .dict kvs
theorem snap_nd {μ : Mem} {d : D} (h : NoDict d) : snap μ d = d := by
  cases d with
  | dict kvs => exact absurd rfl (h kvs)
  | _ => rfl
theorem nd_none : NoDict .none := fun _ z => nomatch z
theorem nd_bool {b : Bool} : NoDict (.bool b) := fun _ z => nomatch z
theorem nd_int {b : Int} : NoDict (.int b) := fun _ z => nomatch z
theorem nd_str {b : Str} : NoDict (.str b) := fun _ z => nomatch z
theorem nd_list {b : List D} : NoDict (.list b) := fun _ z => nomatch z
theorem nd_tuple {b : List D} : NoDict (.tuple b) := fun _ z => nomatch z
theorem nd_plain {d : D} (h : d.plain = true) : NoDict d := fun kvs e => by subst e; simp [PyData.plain] at h
theorem dref_iff {a b : Addr} : (dref a = dref b) = (a = b) := propext ⟨dref_inj, fun e => by rw [e]⟩
theorem dty_iff {a b : String} : (dty a = dty b) = (a = b) := propext ⟨dty_inj, fun e => by rw [e]⟩
/-- is it of that type -/
def isT : D → String → Bool
  | .none, n => n == "NoneType"
  | .bool _, n => n == "bool" || n == "int"
  | .int _, n => n == "int"
  | .str _, n => n == "str"
  | .tuple _, n => n == "tuple"
  | .list _, n => n == "list"
  | .dict _, n => n == "dict"
def knownT : List String := ["int", "bool", "str", "tuple", "list", "dict"]
theorem kitB_isT {d : D} {n : String} (h : n ∈ knownT) : kitB (tyD d) n = some (isT d n) := by
  simp only [knownT, List.mem_cons, List.not_mem_nil, or_false] at h
  rcases h with rfl | rfl | rfl | rfl | rfl | rfl <;> cases d <;> simp only [tyD, isT] <;> decide +kernel
theorem q_isi {d : D} {n : String} {μ : Mem} {Q : DQ} (hd : NoDict d) (hn : n ∈ knownT) : dIsi [d, dty n] μ Q = Q (.bool (isT d n)) μ := propext ⟨fun ⟨d', n', b, e, _, kb, q⟩ => by
    injection e with e1 e2
    injection e2 with e2 _
    have e3 := dty_inj e2
    subst e1; subst e3
    rw [snap_nd hd, kitB_isT hn] at kb
    cases kb
    exact q, fun q => ⟨d, n, _, rfl, by rw [snap_nd hd]; exact hd, by rw [snap_nd hd]; exact kitB_isT hn, q⟩⟩
theorem q_len {d : D} {μ : Mem} {Q : DQ} {n : Nat} (h : lenD (snap μ d) = some n) : dLen [d] μ Q = Q (.int n) μ := propext ⟨fun ⟨d', m, e, e2, q⟩ => by
    injection e with e1 _
    subst e1
    rw [h] at e2
    cases e2
    exact q, fun q => ⟨d, n, rfl, h, q⟩⟩
theorem q_var {i : Nat} {ρ : Rho} {μ : Mem} {Q : DQ} {d : D} (h : ρ[i]? = some (some (.v d))) : dVar i ρ μ Q = Q d μ := propext ⟨fun ⟨d', e, q⟩ => by rw [h] at e; cases e; exact q, fun q => ⟨d, h, q⟩⟩
theorem lenD_str {z : Str} : lenD (.str z) = if z.length ≤ sizeLine then some z.length else none := rfl
theorem lenD_tuple {z : List D} : lenD (.tuple z) = some z.length := rfl
theorem lenD_list {z : List D} : lenD (.list z) = some z.length := rfl
theorem plt_int {i j : Int} : PLt (.int i) (.int j) := ⟨rfl, rfl, rfl, (fun z => nomatch z), by simp [PyData.depth]⟩
theorem ltD_int {i j : Int} : PySem.W.dataLt (.int i) (.int j) = decide (i < j) := PySem.W.dataLt_int i j
theorem eqvD_int {i j : Int} : PyData.eqv (.int i) (.int j) = decide (i = j) := by
  simp only [PyData.eqv]
  exact (by rcases Decidable.em (i = j) with h | h <;> simp [h])
/-- a comprehension whose elements are made of their items alone -/
theorem lc_pure {g : DTG} {tt : DTT} {te : DTE} {ρ : Rho} {Q : List D → Mem → Prop} {ds : List D} {μ : Mem} (f : D → Option D) (hl : ds.length ≤ sizeLine) (hq : Q (ds.filterMap f) μ)
    (hs : ∀ d ∈ ds, ∀ (acc : List D) (k : List D → Mem → Prop), acc.length < sizeLine → k (acc ++ (f d).toList) μ → g d ρ μ fun ρ1 μ1 => tt ρ1 μ1 fun b μ2 => if b = true then te ρ1 μ2 fun y μ3 => acc.length < sizeLine ∧ k (acc ++ [y]) μ3 else k acc μ2) :
    dLcL g tt te ρ ds [] μ Q := by
  refine lcL_ind (fun rest acc μ' => μ' = μ ∧ ∃ done, ds = done ++ rest ∧ acc = done.filterMap f) (fun acc μ' ⟨e, done, e1, e2⟩ => ?_) (fun d rest acc μ' ⟨e, done, e1, e2⟩ ih => ?_) _ _ _ ⟨rfl, [], rfl, rfl⟩
  · rw [List.append_nil] at e1
    rw [e, e2, ← e1]
    exact hq
  · subst e
    have hlen : acc.length < sizeLine := by
      have h1 : acc.length ≤ done.length := by rw [e2]; exact List.length_filterMap_le _ _
      have h2 : ds.length = done.length + (rest.length + 1) := by rw [e1]; simp
      omega
    refine hs d (by rw [e1]; simp) acc (fun a m => dLcL g tt te ρ rest a m Q) hlen (ih _ _ ⟨rfl, done ++ [d], by rw [e1]; simp, ?_⟩)
    rw [List.filterMap_append, ← e2]
    cases e3 : f d <;> simp [e3]
theorem lc_map {g : DTG} {tt : DTT} {te : DTE} {ρ : Rho} {Q : List D → Mem → Prop} {ds : List D} {μ : Mem} (f : D → D) (hl : ds.length ≤ sizeLine) (hq : Q (ds.map f) μ)
    (hs : ∀ d ∈ ds, ∀ (acc : List D) (k : List D → Mem → Prop), acc.length < sizeLine → k (acc ++ [f d]) μ → g d ρ μ fun ρ1 μ1 => tt ρ1 μ1 fun b μ2 => if b = true then te ρ1 μ2 fun y μ3 => acc.length < sizeLine ∧ k (acc ++ [y]) μ3 else k acc μ2) :
    dLcL g tt te ρ ds [] μ Q := lc_pure (fun d => some (f d)) hl (by rw [show (fun d => some (f d)) = some ∘ f from rfl, List.filterMap_eq_map]; exact hq) fun d hd acc k ha hk => hs d hd acc k ha hk
theorem q_all {xs : List D} {μ : Mem} {Q : DQ} {bs : List Bool} (h : boolsD xs = some bs) (q : Q (.bool (bs.all _root_.id)) μ) : dAll [.list xs] μ Q := ⟨xs, bs, rfl, h, q⟩
theorem cutL_to {α : Type} (xs : List α) (k : Nat) : cutL xs none (some (k : Int)) = xs.take k := by
  unfold cutL HT.sIx
  have h : ¬ ((k : Int) < 0) := by omega
  simp only [h, if_false, Int.toNat_natCast, List.drop_zero, Nat.sub_zero]
  rcases Nat.le_total k xs.length with h2 | h2
  · rw [Nat.min_eq_left h2]
  · rw [Nat.min_eq_right h2, List.take_of_length_le h2, List.take_length]
theorem cutL_from {α : Type} (xs : List α) (k : Nat) : cutL xs (some (k : Int)) none = xs.drop k := by
  unfold cutL HT.sIx
  have h : ¬ ((k : Int) < 0) := by omega
  simp only [h, if_false, Int.toNat_natCast]
  rcases Nat.le_total k xs.length with h2 | h2
  · rw [Nat.min_eq_left h2, ← List.length_drop, List.take_length]
  · rw [Nat.min_eq_right h2, List.drop_of_length_le h2, List.drop_of_length_le (Nat.le_refl _), List.take_nil]
theorem seq_split {t u : DTS} {En : DEnds} {ρ : Rho} {μ : Mem} (P : Rho → Mem → Prop) (h2 : ∀ ρ' μ', P ρ' μ' → u En ρ' μ') (h1 : ∀ X : Rho → Mem → Prop, (∀ ρ' μ', P ρ' μ' → X ρ' μ') → t { En with nx := X } ρ μ) : dSeq t u En ρ μ := h1 (u En) h2
theorem peq_int {i j : Int} : PEq (.int i) (.int j) := ⟨rfl, rfl, by simp [PyData.depth]⟩
theorem cmul_of {i j : Int} (h1 : -(2 ^ 64) < i) (h2 : i < 2 ^ 64) : CMul i j := .inl ⟨h1, h2⟩
theorem snap_mset {μ : Mem} {a : Addr} {xs : List D} : snap (mset μ a (.lst xs)) (dref a) = .list xs := snap_ref mset_same
theorem mset_self {μ : Mem} {a : Addr} {m : M} (h : μ a = some m) : mset μ a m = μ := by
  funext b
  unfold mset
  by_cases hb : b = a
  · rw [if_pos hb, hb, h]
  · rw [if_neg hb]
theorem M_lst_iff {xs ys : List D} : (M.lst xs = M.lst ys) = (xs = ys) := by simp
end DL
set_option Elab.async false
set_option linter.all false
set_option maxRecDepth 100000
set_option maxHeartbeats 2000000
namespace DL
open PySem PySem.Spec PyProof.Rows L2
/-- a bag: what is left of a number, the stirred sum, how many cells are drawn, the cells -/
def bagL (a b c : Int) (cs : List Int) : List D := [.int a, .int b, .int c, .list (cs.map .int)]
structure BagOk (xs : List D) : Prop where
  ex : ∃ a b c cs, xs = bagL a b c cs ∧ 0 ≤ a ∧ 0 ≤ b ∧ b < 2147483647 ∧ 0 ≤ c ∧ cs.length ≤ 63 ∧ ∀ x ∈ cs, 0 ≤ x
def fs_bag : FSp := fun ds μ R _ => ∃ ns : List Int, ds = [dscr (ns.map .int)] ∧ ∀ a xs, μ a = none → BagOk xs → R (dref a) (mset μ a (.lst xs))
/-- a draw: any number below many -/
def fs_take : FSp := fun ds μ R _ => ∃ a m xs, ds = [dref a, .int m] ∧ 1 ≤ m ∧ m ≤ 1000000 ∧ μ a = some (.lst xs) ∧ BagOk xs ∧ ∀ n ys, 0 ≤ n → n < m → BagOk ys → R (.int n) (mset μ a (.lst ys))
/-- one of some things -/
def fs_some : FSp := fun ds μ R _ => ∃ a l ts xs, ds = [dref a, l] ∧ (l = .list ts ∨ l = .tuple ts) ∧ ts ≠ [] ∧ ts.length ≤ 1000000 ∧ μ a = some (.lst xs) ∧ BagOk xs ∧ ∀ t ys, t ∈ ts → BagOk ys → R t (mset μ a (.lst ys))
section
variable {a : Addr} {μ : Mem} {A B C : Int} {cs : List Int} {Q : DQ} {ρ : Rho}
theorem ixB0 (h : snap μ (dref a) = .list (bagL A B C cs)) : dIx (dref a) (.int 0) μ Q = Q (.int A) μ := by
  unfold dIx; rw [h]; exact propext ⟨fun ⟨v, e, q⟩ => by cases e; exact q, fun q => ⟨_, rfl, q⟩⟩
theorem ixB1 (h : snap μ (dref a) = .list (bagL A B C cs)) : dIx (dref a) (.int 1) μ Q = Q (.int B) μ := by
  unfold dIx; rw [h]; exact propext ⟨fun ⟨v, e, q⟩ => by cases e; exact q, fun q => ⟨_, rfl, q⟩⟩
theorem ixB2 (h : snap μ (dref a) = .list (bagL A B C cs)) : dIx (dref a) (.int 2) μ Q = Q (.int C) μ := by
  unfold dIx; rw [h]; exact propext ⟨fun ⟨v, e, q⟩ => by cases e; exact q, fun q => ⟨_, rfl, q⟩⟩
theorem ixB3 (h : snap μ (dref a) = .list (bagL A B C cs)) : dIx (dref a) (.int 3) μ Q = Q (.list (cs.map .int)) μ := by
  unfold dIx; rw [h]; exact propext ⟨fun ⟨v, e, q⟩ => by cases e; exact q, fun q => ⟨_, rfl, q⟩⟩
theorem setB0 {G : Rho → Mem → Prop} {x : Int} (hρ : ρ[0]? = some (some (.v (dref a)))) (em : μ a = some (.lst (bagL A B C cs))) (q : G ρ (mset μ a (.lst (bagL x B C cs)))) : dgSub (dVar 0) (dC (.int 0)) (.int x) ρ μ G := ⟨_, hρ, a, _, 0, 0, rfl, rfl, em, rfl, q⟩
theorem setB1 {G : Rho → Mem → Prop} {x : Int} (hρ : ρ[0]? = some (some (.v (dref a)))) (em : μ a = some (.lst (bagL A B C cs))) (q : G ρ (mset μ a (.lst (bagL A x C cs)))) : dgSub (dVar 0) (dC (.int 1)) (.int x) ρ μ G := ⟨_, hρ, a, _, 1, 1, rfl, rfl, em, rfl, q⟩
theorem augB2 {En : DEnds} (hρ : ρ[0]? = some (some (.v (dref a)))) (em : μ a = some (.lst (bagL A B C cs))) (q : En.nx ρ (mset μ a (.lst (bagL A B (C + 1) cs)))) :
    dAugS (dVar 0) (dC (.int 2)) (dC (.int 1)) (dI (fun i j => i + j) fun _ _ => True) En ρ μ := ⟨_, hρ, a, _, 2, 2, _, rfl, rfl, em, rfl, rfl, ⟨trivial, _, 2, em, rfl, q⟩⟩
theorem mset2 {a : Addr} {xs ys : List D} : mset (mset μ a (.lst xs)) a (.lst ys) = mset μ a (.lst ys) := mset_mset
/-- the cell that is drawn next -/
theorem head_cell (cs : List Int) (C : Int) (h : 0 ≤ C) (h7 : ∀ x ∈ cs, 0 ≤ x) : ∃ x : Int, 0 ≤ x ∧ L2.atI (cutL (cs.map PyData.int) (some C) none ++ [PyData.int 0]) 0 = some (.int x) := by
  obtain ⟨k, rfl⟩ := Int.eq_ofNat_of_zero_le h
  rw [cutL_from, ← List.map_drop]
  cases e : cs.drop k with
  | nil => exact ⟨0, by decide, rfl⟩
  | cons y l =>
    refine ⟨y, h7 y (List.mem_of_mem_drop (i := k) (by rw [e]; exact List.mem_cons_self)), ?_⟩
    have hl : (0 : Int) < (((y :: l).map PyData.int ++ [PyData.int 0]).length : Nat) := by simp; omega
    unfold L2.atI L2.ixN
    rw [if_pos (by decide), if_pos hl]
    rfl
end
end DL
set_option Elab.async false
set_option linter.all false
set_option maxRecDepth 100000
set_option maxHeartbeats 2000000
namespace DL
open PySem PySem.Spec PyProof.Rows L2
/-- a class by its name, as it is called -/
def OkC (P : Program) (w : World) (K : PySem.W.Frag) (mg : Str → Option Value) (base : Heap) (k : Nat) (x : Str) (C : Addr) (ps : List Str) (fs : FSp) : Prop :=
  ∃ f fd, mg x = some (.ref C) ∧ Mk K C f ∧ FnOk P w K mg base CX0 k f fd ps (spD K fs) ∧ Binds K fd ps []
section
variable {X : Cx} {Γ : Act} {j k : Nat} {C : Addr} {ps : List Str} {fs : FSp} {x : Str} {p pos : Pos} {e : Expr} {es : List Expr} {t : DTA}
theorem de_makeO (h : OkC X.prog X.w X.K X.mg X.base j x C ps fs) (hr : Room k X.A) (hj : j + 1 ≤ k) (hg : Gl X x) (ha : DA X Γ (e :: es) t)
    (hdb : (x == ("__debug__" : Str)) = false := by decide) (he : starEach (e :: es) X.env = (false, eval e X.env) :: starEach es X.env := by rfl) (hpl : (backTo pos (starEach es X.env)).any (·.1) = false := by rfl) :
    DE X Γ (.Call (.Name x p) (e :: es) [] pos) (dMake C fs t) :=
  let ⟨_, _, hm, M, Fn, hb⟩ := h
  de_make M Fn (hr.mono hj) hg hm hb ha hdb he hpl
theorem de_makeO0 (h : OkC X.prog X.w X.K X.mg X.base j x C ps fs) (hr : Room k X.A) (hj : j + 1 ≤ k) (hg : Gl X x) (hdb : (x == ("__debug__" : Str)) = false := by decide) :
    DE X Γ (.Call (.Name x p) [] [] pos) (dMake C fs dNil) :=
  let ⟨_, _, hm, M, Fn, hb⟩ := h
  de_make0 M Fn (hr.mono hj) hg hm hb hdb
end
def rep {ε α σ : Type} (f : σ → Except ε (α × σ)) : Nat → σ → Except ε (List α × σ)
  | 0, s => .ok ([], s)
  | n + 1, s => match f s with
    | .error e => .error e
    | .ok (a, s1) => match rep f n s1 with
      | .error e => .error e
      | .ok (l, s2) => .ok (a :: l, s2)
/-- what comes of a reader's answer -/
def toldR {ε α σ : Type} (r : Except ε (α × σ)) (ok : α → σ → Prop) (er : ε → Prop) : Prop := match r with
  | .ok (a, s) => ok a s
  | .error e => er e
theorem lc_rep {ε α σ : Type} {g : DTG} {tt : DTT} {te : DTE} {ρ : Rho} {Q : List D → Mem → Prop} (f : σ → Except ε (α × σ)) (val : α → D) (st : σ → Mem) (I : σ → Prop) (er : ε → Prop) (hI : ∀ s a s', I s → f s = .ok (a, s') → I s')
    (step : ∀ (d : D) (s : σ) (Q' : DQ), I s → toldR (f s) (fun a s' => Q' (val a) (st s')) er → g d ρ (st s) fun ρ1 μ1 => tt ρ1 μ1 fun b μ2 => b = true ∧ te ρ1 μ2 Q')
    (hg : ∀ d s (P P' : Rho → Mem → Prop), (∀ ρ' μ', P ρ' μ' → P' ρ' μ') → g d ρ s P → g d ρ s P') (ht : ∀ ρ s (P P' : Bool → Mem → Prop), (∀ b μ', P b μ' → P' b μ') → tt ρ s P → tt ρ s P') :
    ∀ (ds acc : List D) (s : σ), ds.length + acc.length ≤ sizeLine → I s → toldR (rep f ds.length s) (fun l s' => Q (acc ++ l.map val) (st s')) er → dLcL g tt te ρ ds acc (st s) Q
  | [], acc, s, hl, hs, q => by
    simp only [List.length_nil, rep, toldR, List.map_nil, List.append_nil] at q
    exact q
  | d :: ds, acc, s, hl, hs, q => by
    simp only [List.length_cons] at hl
    refine hg d _ _ _ (fun ρ1 μ1 h1 => ht _ _ _ _ (fun b μ2 h2 => ?_) h1) (step d s (fun y μ3 => acc.length < sizeLine ∧ dLcL g tt te ρ ds (acc ++ [y]) μ3 Q) hs ?_)
    · obtain ⟨rfl, h2⟩ := h2
      rw [if_pos rfl]
      exact h2
    · simp only [List.length_cons, rep] at q
      cases e : f s with
      | error x => rw [e] at q; exact q
      | ok z =>
        obtain ⟨a, s1⟩ := z
        rw [e] at q
        dsimp only at q
        have hs1 := hI s a s1 hs e
        refine ⟨by omega, lc_rep f val st I er hI step hg ht ds (acc ++ [val a]) s1 (by simp only [List.length_append, List.length_cons, List.length_nil]; omega) hs1 ?_⟩
        cases e2 : rep f ds.length s1 with
        | error x => rw [e2] at q; exact q
        | ok z2 =>
          obtain ⟨l, s2⟩ := z2
          rw [e2] at q
          simpa [toldR] using q
theorem mono_name {i : Nat} {ρ : Rho} : ∀ d s (P P' : Rho → Mem → Prop), (∀ ρ' μ', P ρ' μ' → P' ρ' μ') → dgName i d ρ s P → dgName i d ρ s P' := fun _ _ _ _ h q => h _ _ q
theorem mono_yes : ∀ (ρ : Rho) (s : Mem) (P P' : Bool → Mem → Prop), (∀ b μ', P b μ' → P' b μ') → dYes ρ s P → dYes ρ s P' := fun _ _ _ _ h q => h _ _ q
end DL
namespace DL
open PySem PySem.Spec PyProof.Rows L2
theorem told_ok {ε α σ : Type} {a : α} {s : σ} {P : α → σ → Prop} {E : ε → Prop} : toldR (.ok (a, s)) P E = P a s := rfl
theorem told_er {ε α σ : Type} {e : ε} {P : α → σ → Prop} {E : ε → Prop} : toldR (.error e) P E = E e := rfl
end DL
namespace DL
open PySem PySem.Spec PyProof.Rows L2
theorem ifT {c : Prop} {i : Decidable c} {a b : Prop} (h : c) (x : a) : @ite Prop c i a b := by rw [if_pos h]; exact x
theorem ifF {c : Prop} {i : Decidable c} {a b : Prop} (h : ¬ c) (x : b) : @ite Prop c i a b := by rw [if_neg h]; exact x
theorem ltT {i j : Int} (h : i < j) : PySem.W.dataLt (.int i) (.int j) = true := by rw [ltD_int]; exact decide_eq_true h
theorem ltF {i j : Int} (h : ¬ i < j) : ¬ PySem.W.dataLt (.int i) (.int j) = true := by rw [ltD_int, decide_eq_true_eq]; exact h
end DL
namespace DL
open PySem PySem.Spec PyProof.Rows L2
theorem eqT {i j : Int} (h : i = j) : PyData.eqv (.int i) (.int j) = true := by rw [eqvD_int]; exact decide_eq_true h
theorem eqF {i j : Int} (h : ¬ i = j) : ¬ PyData.eqv (.int i) (.int j) = true := by rw [eqvD_int, decide_eq_true_eq]; exact h
end DL
namespace DL
open PySem PySem.Spec PyProof.Rows L2
theorem items_str {z : Str} : itemsD (.str z) = some (DL.signs z) := rfl
theorem items_tup {z : List D} : itemsD (.tuple z) = some z := rfl
theorem items_lst {z : List D} : itemsD (.list z) = some z := rfl
end DL
namespace DL
open PySem PySem.Spec PyProof.Rows L2
section
variable {a : Addr} {m : Int} {xs ts : List D} {μ : Mem} {R : DQ} {EX : DXQ}
theorem take_of (em : μ a = some (.lst xs)) (B : BagOk xs) (h1 : 1 ≤ m) (h2 : m ≤ 1000000) (q : ∀ n ys, 0 ≤ n → n < m → BagOk ys → R (.int n) (mset μ a (.lst ys))) : fs_take [dref a, .int m] μ R EX := ⟨a, m, xs, rfl, h1, h2, em, B, q⟩
theorem take_on (B : BagOk xs) (h1 : 1 ≤ m) (h2 : m ≤ 1000000) (q : ∀ n ys, 0 ≤ n → n < m → BagOk ys → R (.int n) (mset μ a (.lst ys))) : fs_take [dref a, .int m] (mset μ a (.lst xs)) R EX := ⟨a, m, xs, rfl, h1, h2, mset_same, B, fun n ys k1 k2 k3 => by rw [mset_mset]; exact q n ys k1 k2 k3⟩
theorem someL_of (em : μ a = some (.lst xs)) (B : BagOk xs) (h1 : ts ≠ []) (h2 : ts.length ≤ 1000000) (q : ∀ t ys, t ∈ ts → BagOk ys → R t (mset μ a (.lst ys))) : fs_some [dref a, .list ts] μ R EX := ⟨a, _, ts, xs, rfl, .inl rfl, h1, h2, em, B, q⟩
theorem someL_on (B : BagOk xs) (h1 : ts ≠ []) (h2 : ts.length ≤ 1000000) (q : ∀ t ys, t ∈ ts → BagOk ys → R t (mset μ a (.lst ys))) : fs_some [dref a, .list ts] (mset μ a (.lst xs)) R EX := ⟨a, _, ts, xs, rfl, .inl rfl, h1, h2, mset_same, B, fun n ys k1 k2 => by rw [mset_mset]; exact q n ys k1 k2⟩
theorem bag_on (h : μ a = none) (q : ∀ xs, BagOk xs → R (dref a) (mset μ a (.lst xs))) : ∀ xs, BagOk xs → R (dref a) (mset μ a (.lst xs)) := q
end
end DL
namespace DL
open PySem PySem.Spec PyProof.Rows L2
theorem ixM {a : Addr} {xs : List D} {i : Int} {μ : Mem} {Q : DQ} : dIx (dref a) (.int i) (mset μ a (.lst xs)) Q = ∃ v, L2.atI xs i = some v ∧ Q v (mset μ a (.lst xs)) := by unfold dIx; rw [snap_mset]
theorem ixT {xs : List D} {i : Int} {μ : Mem} {Q : DQ} : dIx (.tuple xs) (.int i) μ Q = ∃ v, L2.atI xs i = some v ∧ Q v μ := rfl
theorem ixL {xs : List D} {i : Int} {μ : Mem} {Q : DQ} : dIx (.list xs) (.int i) μ Q = ∃ v, L2.atI xs i = some v ∧ Q v μ := rfl
theorem ixS {z : Str} {i : Int} {μ : Mem} {Q : DQ} : dIx (.str z) (.int i) μ Q = (z.length ≤ sizeLine ∧ ∃ c, L2.atI z.cps.toList i = some c ∧ Q (sgn c) μ) := rfl
theorem atI_eq {α : Type} {l : List α} {p : Nat} : L2.atI l (p : Int) = l[p]? := by
  unfold L2.atI L2.ixN
  rw [if_pos (by omega)]
  by_cases h : (p : Int) < l.length
  · rw [if_pos h, Int.toNat_natCast]; rfl
  · rw [if_neg h]
    exact (List.getElem?_eq_none (by omega)).symm
theorem ixN_last {n : Nat} : L2.ixN (n + 1) (-1) = some n := by
  unfold L2.ixN
  rw [if_neg (by decide)]
  first
  | (rw [if_pos (by omega)]; congr 1; omega)
  | (simp; omega)
theorem atI_last {α : Type} {l : List α} {x : α} : L2.atI (l ++ [x]) (-1) = some x := by
  unfold L2.atI
  rw [List.length_append, List.length_cons, List.length_nil, ixN_last]
  simp
theorem snapM {a : Addr} {xs : List D} {μ : Mem} : snap (mset μ a (.lst xs)) (dref a) = .list xs := snap_mset
theorem eqv_nil {xs : List D} : PyData.eqv (.list xs) (.list []) = xs.isEmpty := by cases xs <;> simp [PyData.eqv, PyData.eqvAll]
theorem plain_ints {l : List Int} : PyData.plainAll (l.map .int) = true ∧ PyData.depthAll (l.map .int) = 0 := by
  induction l with
  | nil => exact ⟨rfl, by rfl⟩
  | cons a l ih => exact ⟨by rw [List.map_cons, PyData.plainAll, ih.1]; rfl, by rw [List.map_cons, PyData.depthAll, ih.2]; rfl⟩
theorem peq_nil {l : List Int} : PEq (.list (l.map .int)) (.list []) := ⟨by simpa [PyData.plain] using plain_ints.1, by rfl, by simp [PyData.depth, plain_ints.2]⟩
theorem lenM {a : Addr} {xs : List D} {μ : Mem} {Q : DQ} : dLen [dref a] (mset μ a (.lst xs)) Q = Q (.int xs.length) (mset μ a (.lst xs)) := q_len (by rw [snap_mset]; rfl)
theorem lenT {xs : List D} {μ : Mem} {Q : DQ} : dLen [.tuple xs] μ Q = Q (.int xs.length) μ := q_len rfl
theorem lenL {xs : List D} {μ : Mem} {Q : DQ} : dLen [.list xs] μ Q = Q (.int xs.length) μ := q_len rfl
theorem lenS {z : Str} {μ : Mem} {Q : DQ} (h : z.length ≤ sizeLine) : dLen [.str z] μ Q = Q (.int z.length) μ := q_len (if_pos h)
end DL
namespace DL
open PySem PySem.Spec PyProof.Rows L2
theorem seq_assoc {A B C : DTS} : dSeq A (dSeq B C) = dSeq (dSeq A B) C := rfl
theorem ints_succ {lo : Int} {n : Nat} : intsD lo (n + 1) = .int lo :: intsD (lo + 1) n := by
  unfold intsD
  rw [List.range_succ_eq_map, List.map_cons, List.map_map]
  congr 1
  · simp
  · refine List.map_congr_left fun i _ => ?_
    show PyData.int _ = PyData.int _
    congr 1
    simp only [Nat.succ_eq_add_one, Int.natCast_add]
    omega
theorem ints_zero {lo : Int} : intsD lo 0 = [] := rfl
theorem ints_len {lo : Int} {n : Nat} : (intsD lo n).length = n := by simp [intsD]
end DL
namespace DL
theorem forN_ind {g : DTG} {body : DTS} {En : DEnds} (I : List D → Rho → Mem → Prop) (hn : ∀ ρ μ, I [] ρ μ → En.nx ρ μ)
    (hc : ∀ d ds ρ μ (N : Rho → Mem → Prop), I (d :: ds) ρ μ → (∀ ρ' μ', I ds ρ' μ' → N ρ' μ') → g d ρ μ fun ρ1 μ1 => body { En with nx := N, ct := N, bk := En.nx } ρ1 μ1) :
    ∀ ds ρ μ, I ds ρ μ → dForL g body En ds ρ μ := forL_ind I hn fun d ds ρ μ h k => hc d ds ρ μ _ h k
end DL
namespace DL
open PySem PySem.Spec PyProof.Rows L2
theorem same_ne {d : D} {A B : Prop} {i : Decidable ((!PyData.eqv d d) = true)} (hp : d.plain = true) (hd : d.depth ≤ 60) (b : B) : PEq d d ∧ @ite Prop ((!PyData.eqv d d) = true) i A B :=
  ⟨⟨hp, hp, by omega⟩, ifF (by rw [SeqAt.eqv_refl_plain d hp]; decide) b⟩
theorem same_eq {d : D} {R : D → Prop} (hp : d.plain = true) (hd : d.depth ≤ 60) (b : R (.bool true)) : PEq d d ∧ R (.bool (PyData.eqv d d)) :=
  ⟨⟨hp, hp, by omega⟩, by rw [SeqAt.eqv_refl_plain d hp]; exact b⟩
end DL
set_option Elab.async false
set_option linter.all false
set_option maxRecDepth 100000
set_option maxHeartbeats 2000000
namespace DL
open PySem PySem.Spec PyProof.Rows L2
/-- behind the module's top: the table at t, the script at a (unless the module owns it) -/
def hpAt (K : PySem.W.Frag) (t a : Addr) (sc : HO) : Hp := fun b => if b = t then some (.tbl #[]) else if b = a ∧ K.lookup a = none then some sc else none
section
variable {K : PySem.W.Frag} {t a b : Addr} {sc : HO}
theorem hpAt_t : hpAt K t a sc t = some (.tbl #[]) := if_pos rfl
theorem hpAt_cases {u : HO} (h : hpAt K t a sc b = some u) : (b = t ∧ u = .tbl #[]) ∨ (b = a ∧ b ≠ t ∧ K.lookup a = none ∧ u = sc) := by
  unfold hpAt at h
  split at h
  · rename_i e; cases h; exact .inl ⟨e, rfl⟩
  · rename_i e
    split at h
    · rename_i e2; cases h; exact .inr ⟨e2.1, e, e2.2, rfl⟩
    · cases h
theorem hpAt_none (h1 : b ≠ t) (h2 : b ≠ a) : hpAt K t a sc b = none := by
  cases e : hpAt K t a sc b with
  | none => rfl
  | some u => rcases hpAt_cases e with z | z
              · exact absurd z.1 h1
              · exact absurd z.1 h2
end
abbrev tabO : Obj := { cls := .none, data := .fields #[] }
/-- what is needed of the law's def -/
structure LawG (l : PySem.W.OpenLaw) (w : World) (K : PySem.W.Frag) (k n : Nat) (x : Str) (mg : Str → Option Value) (fa : Addr) (h : Heap) (c t : Addr) (fd : FuncData) (sp : Sp) : Prop where
  tab : h.get? t = some tabO
  out : K.lookup t = none
  hd : PySem.W.codeHdIn K c t = true
  bnd : ∀ (s : Shared) (u : Value), BindsTo s fd ⟨[u], []⟩ [(x, u)]
  say : ∀ (H : Hp) (a : Addr) (ns : List Int), ns.length ≤ n → (∀ z ∈ ns, Builtin.Int.intBits z ≤ 1048576) → H t = some (.tbl #[]) → (∀ b ps, H b = some (.tbl ps) → b = t) → SqL K H a (ns.map V.int) → a ≠ t → sp [.ref a] H (fun v _ => v = .bl true) E0
  fn : ∀ base : Heap, K.In base → base.Ns mainGlobals mg → LamX.TabB base mg c t → FnG l.prog w K mg base k fa fd [x] sp
theorem walk_G {l : PySem.W.OpenLaw} {n k : Nat} {q : Program} {loose : List Str} {XP : (Str → Option Value) → Heap → Prop} {YP : World → Heap → Prop} {d : DefRec} {x : Str}
    (hn : l.most = some n) (hn2 : n ≤ sizeLine) (hdf : d.params.defaults = []) (hr : Room k callerA)
    (F : ∀ (w : World) (mg : Str → Option Value) (fa : Addr) (h : Heap), YP w h → h.Ns mainGlobals mg → mg d.name = some (.ref fa) → ∃ K : PySem.W.Frag, K.In h ∧ ∃ c t fd sp, LawG l w K k n x mg fa h c t fd sp) :
    PySem.W.WalkO q loose XP YP l.row.toRowW d [] (fun f vs => PySem.call f vs) := by
  refine Att.attach_callB hn hdf fun w s₀ s₁ mg mb fa fo pm cd doc a vs ns G Y hfo hfd hcd hmg hls hin hlen hbits hgen => ?_
  obtain ⟨K, KX, c, t, fd, sp, L⟩ := F w mg fa _ Y G.T.g hmg
  have at_ : a ≠ t := fun e => by
    have z := hls.symm.trans (e ▸ L.tab)
    injection z with z
    injection z with _ _ z
    cases z
  let Lo : Obj := { cls := .type "list", data := .seq vs.toArray }
  let H := hpAt K t a (.frz Lo (.lst (ns.map V.int)))
  have ln := hin.length
  have rv : Vals (ns.map V.int) vs := vals_ints hin
  have sq : SqL K H a (ns.map V.int) := by
    cases hk : K.lookup a with
    | none => exact .inl (.inr ⟨Lo, by show hpAt _ _ _ _ a = _; unfold hpAt; rw [if_neg at_, if_pos ⟨rfl, hk⟩]⟩)
    | some u =>
      have e1 := (KX a u hk).symm.trans hls
      injection e1 with e1
      subst e1
      exact .inr ⟨_, vs.toArray, _, hk, rfl, rfl, rfl, by simpa [ln] using Nat.le_trans hlen hn2, by simpa using rv⟩
  have hok : HOk l.prog w H s₁.heap := fun b u e => by
    rcases hpAt_cases e with ⟨rfl, rfl⟩ | ⟨rfl, _, _, rfl⟩
    · exact L.tab
    · exact ⟨hls, by simpa using Nat.le_trans hlen hn2, vs, _, rv, hls⟩
  -- objects that are neither the table nor the script are not tracked
  have apart : ∀ {b : Addr} {o : Obj}, s₁.heap.get? b = some o → o ≠ tabO → o ≠ Lo → H b = none := fun {b o} e h1 h2 => hpAt_none (fun z => h1 (Option.some.inj (e.symm.trans (z ▸ L.tab)))) fun z => h2 (Option.some.inj (e.symm.trans (z ▸ hls)))
  have inB : ∀ {b : Addr} {o : Obj}, s₁.heap.get? b = some o → H b = none → (hidT s₁.heap H).get? b = some o := hidT_get
  have nsB : ∀ {b : Addr} {m : Str → Option Value}, s₁.heap.Ns b m → (hidT s₁.heap H).Ns b m := fun {b m} ⟨o, es, ep, e, hd, r⟩ =>
    ⟨o, es, ep, inB e (apart e (fun z => by rw [z] at hd; cases hd) fun z => by rw [z] at hd; cases hd), hd, r⟩
  have kB : K.In (hidT s₁.heap H) := fun b o e => inB (KX b o e) (by
    cases q : H b with
    | none => rfl
    | some u =>
      rcases hpAt_cases q with ⟨rfl, _⟩ | ⟨rfl, _, z, _⟩
      · rw [L.out] at e; cases e
      · rw [z] at e; cases e)
  have md : L2.Mod K mg (hidT s₁.heap H) := ⟨kB, nsB G.T.g, ⟨mb, nsB G.T.b, G.T.builtins⟩, let ⟨mc, h1, h2⟩ := G.T.nolimit; ⟨mc, nsB h1, h2⟩⟩
  have tb : LamX.TabB (hidT s₁.heap H) mg c t := by
    refine ⟨PySem.W.codeHd_of_K kB L.hd, ?_, fun z => ?_⟩
    · obtain ⟨bm, ob, b1, _, b3, b4, b5, b6⟩ := G.T.bmain
      have n1 : ob ≠ tabO := fun z => by rw [z] at b6; cases b6
      have n2 : ob ≠ Lo := fun z => by rw [z] at b6; cases b6
      refine ⟨bm, ob, b1, ‹_›, fun z => ?_, fun z => n1 (Option.some.inj (b3.symm.trans (z ▸ L.tab))), inB b3 (apart b3 n1 n2), b4, b5, b6⟩
      obtain ⟨o, es, ep, e, hd, _⟩ := G.T.g
      have := Option.some.inj ((z ▸ b3).symm.trans e)
      subst this
      rw [b6] at hd
      cases hd
    · obtain ⟨o, es, ep, e, hd, _⟩ := G.T.g
      have := Option.some.inj ((z ▸ e).symm.trans L.tab)
      subst this
      cases hd
  have env : Env0 l.prog w K mg (hidT s₁.heap H) callerA [] s₁ H := ⟨rfl, md, fun b o e => of_hidT e, Nat.le_of_eq (hidT_size _ _), trivial, fun b hb => (nomatch hb), hok, .of_eq hgen⟩
  have onlyT : ∀ b ps, H b = some (.tbl ps) → b = t := fun b ps e => by
    rcases hpAt_cases e with z | ⟨_, _, _, z⟩
    · exact z.1
    · cases z
  have run := (L.fn _ kB (nsB G.T.g) tb).run callerA [] s₁ H ⟨[.ref a], []⟩ [.ref a] [.ref a] _ _ ⟨hr, rfl⟩ env (L.bnd s₁ (.ref a)) (.cons rfl .nil) (L.say H a ns hlen hbits hpAt_t onlyT sq at_)
  refine codeAny_mono run fun r s' done => ?_
  match r, done with
  | .ok (.ret u), done =>
    obtain ⟨v, H', os, bare, un, hok', rvu, rfl⟩ := done
    have rvu : u = Value.bool true := rvu
    subst rvu
    obtain ⟨more, em⟩ := un.tbls t #[] hpAt_t
    have grown : s'.heap.get? t = some { cls := .none, data := .fields (#[] ++ more) } := hok' t _ em
    have rest : ∀ b o, b ≠ t → s₁.heap.get? b = some o → s'.heap.get? b = some o := fun b o nb e => by
      cases q : H b with
      | none => exact un.keep b o e q (fun z => nomatch z) fun z => nomatch z
      | some u =>
        rcases hpAt_cases q with z | ⟨_, _, _, rfl⟩
        · exact absurd z.1 nb
        · have e1 := (hok b _ q).1
          have e2 := (hok' b _ (un.frzs b _ _ q)).1
          rw [e1] at e
          cases e
          exact e2
    refine ⟨rfl, ⟨fun b o e => ?_, fun b o e => ?_⟩, os, bare⟩
    · by_cases hb : b = t
      · subst hb
        have := Option.some.inj (e.symm.trans L.tab)
        subst this
        exact .inr (.inl ⟨((PySem.W.codeHd_of_K KX L.hd).tab L.tab).isCodeTable, rfl, #[], more, rfl, grown⟩)
      · exact .inl (rest b o hb e)
    · by_cases hb : b = t
      · exact ⟨_, hb ▸ grown⟩
      · exact ⟨o, rest b o hb e⟩
  | .ok .next, z => exact z.elim
  | .ok .brk, z => exact z.elim
  | .ok .cont, z => exact z.elim
  | .error e, z => exact z.elim
/-- a law's def: it returns True, whatever the script -/
def fs_law (T : TabsD) : FSp := fun ds μ R _ => ∃ ns : List Int, ds = [dscr (ns.map .int)] ∧ (∀ z ∈ ns, Builtin.Int.intBits z ≤ 1048576) ∧ ns.length ≤ 63 ∧ HasTabs T μ ∧ ∀ μ', R (.bool true) μ'
/-- the start: the script stands still, the table may grow -/
theorem say_law {K : PySem.W.Frag} {H : Hp} {a t : Addr} {q : Str} {ns : List Int} (hl : ns.length ≤ 63) (hb : ∀ z ∈ ns, Builtin.Int.intBits z ≤ 1048576) (ht : H t = some (.tbl #[])) (ho : ∀ b ps, H b = some (.tbl ps) → b = t) (sq : SqL K H a (ns.map V.int)) (na : a ≠ t) :
    spD K (fs_law [(t, q)]) [.ref a] H (fun v _ => v = .bl true) E0 := by
  let S : Hp := fun b => if b = t then none else H b
  let μ : Mem := fun b => if b = t then some (.tab q) else none
  have hS : ∀ b, b ≠ t → S b = H b := fun b h => if_neg h
  have allI : ∀ ns : List Int, RpAll K S (ns.map V.int) (ns.map PyData.int) := fun ns => by
    induction ns with
    | nil => exact .nil
    | cons n ns ih => exact .cons (.int n) ih
  have sqS : SqL K S a (ns.map V.int) := by
    rcases sq with (z | ⟨o, z⟩) | z
    · exact .inl (.inl ((hS a na).trans z))
    · exact .inl (.inr ⟨o, (hS a na).trans z⟩)
    · exact .inr z
  refine ⟨fun _ => none, S, μ, [dscr (ns.map .int)], fun d _ => d = .bool true, fun _ _ => False, ⟨fun b o e => ?_, fun _ _ e => (nomatch e), fun b m e => ?_, fun _ _ e => (nomatch e), fun b ps e => ?_⟩, .cons (.scr sqS (allI ns)) .nil, ⟨ns, rfl, hb, hl, ⟨fun p hp => ?_, fun b q' e => ?_⟩, fun _ => rfl⟩, ?_, fun _ _ z => z.elim⟩
  · by_cases h : b = t
    · rw [show S b = none from if_pos h] at e; cases e
    · rw [← hS b h]; exact e
  · by_cases h : b = t
    · subst h
      rw [show μ b = some (.tab q) from if_pos rfl] at e
      cases e
      exact ⟨if_pos rfl, #[], ht, trivial, fun pos cv z => nomatch z⟩
    · rw [show μ b = none from if_neg h] at e; cases e
  · by_cases h : b = t
    · rw [show S b = none from if_pos h] at e; cases e
    · rw [hS b h] at e; exact h (ho b ps e)
  · rw [List.mem_singleton.mp hp]; exact if_pos rfl
  · by_cases h : b = t
    · rw [show μ b = some (.tab q) from if_pos h] at e
      cases e
      exact List.mem_singleton.mpr (by rw [h])
    · rw [show μ b = none from if_neg h] at e; cases e
  · intro d μ' e v S' H' _ _ r
    subst e
    cases r
    rfl
end DL
set_option Elab.async false
set_option linter.all false
set_option maxRecDepth 100000
set_option maxHeartbeats 0
namespace K15
open PySem PySem.Spec PyProof.Rows L2 DL
abbrev prog : Program := PySem.Challenge.pw_shelforder_k15_data_as_bytes_and_back
def top (i : Nat) : Stmt := PySem.Challenge.pw_shelforder_k15_data_as_bytes_and_back.main.body.getD i (.Pass ⟨0, 0, 0, 0⟩)
def clsBody : Stmt → List Stmt
  | .ClassDef (body := b) .. => b
  | _ => []
def mth (i j : Nat) : Stmt := (clsBody (top i)).getD j (.Pass ⟨0, 0, 0, 0⟩)
def mkD (x : Str) (i : Nat) : He.DefD := ⟨(x, none), x, x, defArgs (top i), defBody (top i), defScope (top i), [], []⟩
def mkM (c m : Str) (i j : Nat) : He.DefD := ⟨(c, some m), m, c ++ "." ++ m, defArgs (mth i j), defBody (mth i j), defScope (mth i j), [], []⟩
def fn : List He.DefD := [mkD "is_integer" 13, mkD "is_within" 14, mkD "is_string" 15, mkD "two" 24, mkD "packed_string" 25, mkD "packed_at" 26, mkD "packed" 27, mkD "are_bytes" 29, mkD "unpacked" 30, mkD "_law_bag" 32, mkD "_law_take" 33, mkD "_law_some" 34, mkD "_law_is_int" 35, mkD "_law_alike" 36,
  mkD "_law_heard" 37, mkD "_law_signs" 38, mkD "_law_halves" 39, mkD "_law_bytes_of" 40, mkD "_law_data" 41, mkD "_law_fault" 42, mkD "law" 43, mkM "Bytes" "__init__" 28 0, mkM "Bytes" "place" 28 1, mkM "Bytes" "byte" 28 2, mkM "Bytes" "number" 28 3, mkM "Bytes" "sign" 28 4, mkM "Bytes" "thing" 28 5]
def excs : List Str := ["Refused", "NoName", "TooMany", "Nothing", "BadBook", "BadText", "BadBytes", "NoCommand"]
def ec : List ExcD := [⟨"Refused", mth 7 0, ["why"]⟩, ⟨"NoName", mth 5 0, ["name"]⟩, ⟨"TooMany", mth 9 0, ["what", "limit"]⟩, ⟨"BadBook", mth 3 0, ["at", "fault"]⟩, ⟨"BadText", mth 2 0, ["line", "column"]⟩, ⟨"BadBytes", mth 4 0, ["at", "fault"]⟩, ⟨"NoCommand", mth 6 0, ["line"]⟩]
def signsK : Str := "\n !\"#'()*+,-./0123456789:;\
  <=>?abcdefghijklmnopqrstuvwxyz"
def fa0 : List He.Fa := [.glo "law", .glo "is_integer", .glo "is_within", .glo "is_string", .glo "two", .glo "packed_string", .glo "packed_at", .glo "packed", .glo "are_bytes", .glo "unpacked", .glo "_law_bag", .glo "_law_take", .glo "_law_some", .glo "_law_is_int", .glo "_law_alike", .glo "_law_heard", .glo "_law_signs", .glo "_law_halves", .glo "_law_bytes_of", .glo "_law_data", .glo "_law_fault", .glo "Bytes"]
def fa1 : List He.Fa := [.free "isinstance", .free "int", .free "bool", .free "str", .free "tuple", .free "len", .free "all", .free "repr", .free "range", .free "abs", .free "min", .free "super"]
def fa2 : List He.Fa := [.int "NUMBER" 1, .int "STRING" 2, .int "ROW" 3, .int "BASE" 256, .int "MOST" 65535, .int "DEEPEST" 20, .str "SIGNS" signsK]
def fa3 : List He.Fa := [.cls "Bytes", .noat "Bytes" "its_some", .noat "Bytes" "its_place", .meth "Bytes" "place", .meth "Bytes" "byte", .meth "Bytes" "number", .meth "Bytes" "sign", .meth "Bytes" "thing", .mkr "Bytes", .exc "Nothing"]
def fa4 : List He.Fa := excs.map .glo
def fa5 : List He.Fa := excs.flatMap fun x => excs.map fun y => .exm x y (x == y)
def fa : List He.Fa := fa0 ++ (fa1 ++ (fa2 ++ (fa3 ++ (fa4 ++ fa5))))
def tf : List He.Defn := [("law", none)]
def ex (K : PySem.W.Frag) : Bool := (ec.all fun e => e.ok prog.main.file K) && ec.all fun e => L2.xfB K (He.ga K e.x)
abbrev R : PySem.W.OpenRow := PySem.W.OpenLaw.row PySem.Challenge.rw_shelforder_k15_data_as_bytes_and_back
abbrev hk : PySem.W.Hook := hookY 5 fa fn ec tf ex
def ob (s : PySem.W.SharedT) : AlY := obsY 5 fa fn ec tf ex (HandSHeadRun.getT s)
def loose : List Str := (["ShelfError", "BadText", "BadBook", "BadBytes", "NoName", "NoCommand", "Refused", "Nothing", "TooMany", "LETTERS", "DIGITS", "is_integer", "is_within", "is_string", "SIGNS", "NUMBER", "STRING", "ROW", "BASE", "MOST", "DEEPEST", "two", "packed_string", "packed_at", "packed", "Bytes", "are_bytes", "unpacked"] : List Str) ++
  (["_law_bag", "_law_take", "_law_some", "_law_is_int", "_law_alike", "_law_heard", "_law_signs", "_law_halves", "_law_bytes_of", "_law_data", "_law_fault"] : List Str)
theorem ob_eq (s : PySem.W.SharedT) : ob s = hk.obs s.abs := obsY_eq (HandSHeadRun.getT_eq s)
theorem run (w : World) : HandSHeadRun.RunEq R (PySem.W.view R.prog [43]) hk ob 6000 loose w := by
  intro os
  kernel_rfl
end K15
set_option Elab.async false
set_option linter.all false
set_option maxRecDepth 100000
set_option maxHeartbeats 0
namespace K15
open PySem PySem.Spec PyProof.Rows L2 DL
/-- what is known wherever a def runs -/
structure G (K : PySem.W.Frag) (mg : Str → Option Value) (base : Heap) : Prop where
  kin : K.In base
  ns : base.Ns mainGlobals mg
  c : He.SaysD fa fn K
  more : ex K = true
  exc : ∀ e ∈ ec, fnC K e.x = e.val
  tb : ∀ p ∈ tf, LamX.TabB base mg (He.cT K p).1 (He.cT K p).2
section
variable {K : PySem.W.Frag} {mg : Str → Option Value} {base : Heap} {w : World}
theorem gl_law (g : G K mg base) : mg "law" = some (.ref (He.ga K "law")) := He.glo_ok g.kin g.ns (g.c.fact 0 (f := .glo "law") rfl)
theorem gl_is_integer (g : G K mg base) : mg "is_integer" = some (.ref (He.ga K "is_integer")) := He.glo_ok g.kin g.ns (g.c.fact 1 (f := .glo "is_integer") rfl)
theorem gl_is_within (g : G K mg base) : mg "is_within" = some (.ref (He.ga K "is_within")) := He.glo_ok g.kin g.ns (g.c.fact 2 (f := .glo "is_within") rfl)
theorem gl_is_string (g : G K mg base) : mg "is_string" = some (.ref (He.ga K "is_string")) := He.glo_ok g.kin g.ns (g.c.fact 3 (f := .glo "is_string") rfl)
theorem gl_two (g : G K mg base) : mg "two" = some (.ref (He.ga K "two")) := He.glo_ok g.kin g.ns (g.c.fact 4 (f := .glo "two") rfl)
theorem gl_packed_string (g : G K mg base) : mg "packed_string" = some (.ref (He.ga K "packed_string")) := He.glo_ok g.kin g.ns (g.c.fact 5 (f := .glo "packed_string") rfl)
theorem gl_packed_at (g : G K mg base) : mg "packed_at" = some (.ref (He.ga K "packed_at")) := He.glo_ok g.kin g.ns (g.c.fact 6 (f := .glo "packed_at") rfl)
theorem gl_packed (g : G K mg base) : mg "packed" = some (.ref (He.ga K "packed")) := He.glo_ok g.kin g.ns (g.c.fact 7 (f := .glo "packed") rfl)
theorem gl_are_bytes (g : G K mg base) : mg "are_bytes" = some (.ref (He.ga K "are_bytes")) := He.glo_ok g.kin g.ns (g.c.fact 8 (f := .glo "are_bytes") rfl)
theorem gl_unpacked (g : G K mg base) : mg "unpacked" = some (.ref (He.ga K "unpacked")) := He.glo_ok g.kin g.ns (g.c.fact 9 (f := .glo "unpacked") rfl)
theorem gl__law_bag (g : G K mg base) : mg "_law_bag" = some (.ref (He.ga K "_law_bag")) := He.glo_ok g.kin g.ns (g.c.fact 10 (f := .glo "_law_bag") rfl)
theorem gl__law_take (g : G K mg base) : mg "_law_take" = some (.ref (He.ga K "_law_take")) := He.glo_ok g.kin g.ns (g.c.fact 11 (f := .glo "_law_take") rfl)
theorem gl__law_some (g : G K mg base) : mg "_law_some" = some (.ref (He.ga K "_law_some")) := He.glo_ok g.kin g.ns (g.c.fact 12 (f := .glo "_law_some") rfl)
theorem gl__law_is_int (g : G K mg base) : mg "_law_is_int" = some (.ref (He.ga K "_law_is_int")) := He.glo_ok g.kin g.ns (g.c.fact 13 (f := .glo "_law_is_int") rfl)
theorem gl__law_alike (g : G K mg base) : mg "_law_alike" = some (.ref (He.ga K "_law_alike")) := He.glo_ok g.kin g.ns (g.c.fact 14 (f := .glo "_law_alike") rfl)
theorem gl__law_heard (g : G K mg base) : mg "_law_heard" = some (.ref (He.ga K "_law_heard")) := He.glo_ok g.kin g.ns (g.c.fact 15 (f := .glo "_law_heard") rfl)
theorem gl__law_signs (g : G K mg base) : mg "_law_signs" = some (.ref (He.ga K "_law_signs")) := He.glo_ok g.kin g.ns (g.c.fact 16 (f := .glo "_law_signs") rfl)
theorem gl__law_halves (g : G K mg base) : mg "_law_halves" = some (.ref (He.ga K "_law_halves")) := He.glo_ok g.kin g.ns (g.c.fact 17 (f := .glo "_law_halves") rfl)
theorem gl__law_bytes_of (g : G K mg base) : mg "_law_bytes_of" = some (.ref (He.ga K "_law_bytes_of")) := He.glo_ok g.kin g.ns (g.c.fact 18 (f := .glo "_law_bytes_of") rfl)
theorem gl__law_data (g : G K mg base) : mg "_law_data" = some (.ref (He.ga K "_law_data")) := He.glo_ok g.kin g.ns (g.c.fact 19 (f := .glo "_law_data") rfl)
theorem gl__law_fault (g : G K mg base) : mg "_law_fault" = some (.ref (He.ga K "_law_fault")) := He.glo_ok g.kin g.ns (g.c.fact 20 (f := .glo "_law_fault") rfl)
theorem gl_Bytes (g : G K mg base) : mg "Bytes" = some (.ref (He.ga K "Bytes")) := He.glo_ok g.kin g.ns (g.c.fact 21 (f := .glo "Bytes") rfl)
theorem b_isinstance (g : G K mg base) : mg "isinstance" = none := He.free_ok g.kin g.ns (g.c.fact 22 (f := .free "isinstance") rfl)
theorem b_int (g : G K mg base) : mg "int" = none := He.free_ok g.kin g.ns (g.c.fact 23 (f := .free "int") rfl)
theorem b_bool (g : G K mg base) : mg "bool" = none := He.free_ok g.kin g.ns (g.c.fact 24 (f := .free "bool") rfl)
theorem b_str (g : G K mg base) : mg "str" = none := He.free_ok g.kin g.ns (g.c.fact 25 (f := .free "str") rfl)
theorem b_tuple (g : G K mg base) : mg "tuple" = none := He.free_ok g.kin g.ns (g.c.fact 26 (f := .free "tuple") rfl)
theorem b_len (g : G K mg base) : mg "len" = none := He.free_ok g.kin g.ns (g.c.fact 27 (f := .free "len") rfl)
theorem b_all (g : G K mg base) : mg "all" = none := He.free_ok g.kin g.ns (g.c.fact 28 (f := .free "all") rfl)
theorem b_repr (g : G K mg base) : mg "repr" = none := He.free_ok g.kin g.ns (g.c.fact 29 (f := .free "repr") rfl)
theorem b_range (g : G K mg base) : mg "range" = none := He.free_ok g.kin g.ns (g.c.fact 30 (f := .free "range") rfl)
theorem b_abs (g : G K mg base) : mg "abs" = none := He.free_ok g.kin g.ns (g.c.fact 31 (f := .free "abs") rfl)
theorem b_min (g : G K mg base) : mg "min" = none := He.free_ok g.kin g.ns (g.c.fact 32 (f := .free "min") rfl)
theorem b_super (g : G K mg base) : mg "super" = none := He.free_ok g.kin g.ns (g.c.fact 33 (f := .free "super") rfl)
theorem c_NUMBER (g : G K mg base) : ∃ t, mg "NUMBER" = some (.int 1 t) := He.int_ok g.kin g.ns (g.c.fact 34 (f := .int "NUMBER" 1) rfl)
theorem c_STRING (g : G K mg base) : ∃ t, mg "STRING" = some (.int 2 t) := He.int_ok g.kin g.ns (g.c.fact 35 (f := .int "STRING" 2) rfl)
theorem c_ROW (g : G K mg base) : ∃ t, mg "ROW" = some (.int 3 t) := He.int_ok g.kin g.ns (g.c.fact 36 (f := .int "ROW" 3) rfl)
theorem c_BASE (g : G K mg base) : ∃ t, mg "BASE" = some (.int 256 t) := He.int_ok g.kin g.ns (g.c.fact 37 (f := .int "BASE" 256) rfl)
theorem c_MOST (g : G K mg base) : ∃ t, mg "MOST" = some (.int 65535 t) := He.int_ok g.kin g.ns (g.c.fact 38 (f := .int "MOST" 65535) rfl)
theorem c_DEEPEST (g : G K mg base) : ∃ t, mg "DEEPEST" = some (.int 20 t) := He.int_ok g.kin g.ns (g.c.fact 39 (f := .int "DEEPEST" 20) rfl)
theorem c_SIGNS (g : G K mg base) : ∃ t, mg "SIGNS" = some (.str signsK t) := He.str_ok g.kin g.ns (g.c.fact 40 (f := .str "SIGNS" signsK) rfl)
theorem cls_Bytes (g : G K mg base) : Cls K (He.ga K "Bytes") := He.cls_ok (g.c.fact 41 (f := .cls "Bytes") rfl)
theorem ok_its_some (g : G K mg base) : ∀ C, C = He.ga K "Bytes" → FldOk K "its_some" C := fun C e => by subst e; exact ⟨cls_Bytes g, He.noat_ok (g.c.fact 42 (f := .noat "Bytes" "its_some") rfl)⟩
theorem ok_its_place (g : G K mg base) : ∀ C, C = He.ga K "Bytes" → FldOk K "its_place" C := fun C e => by subst e; exact ⟨cls_Bytes g, He.noat_ok (g.c.fact 43 (f := .noat "Bytes" "its_place") rfl)⟩
theorem mt_place (g : G K mg base) : Meth K (He.ga K "Bytes") "place" (He.ma K (He.ga K "Bytes") "place") := He.meth_ok (g.c.fact 44 (f := .meth "Bytes" "place") rfl)
theorem mt_byte (g : G K mg base) : Meth K (He.ga K "Bytes") "byte" (He.ma K (He.ga K "Bytes") "byte") := He.meth_ok (g.c.fact 45 (f := .meth "Bytes" "byte") rfl)
theorem mt_number (g : G K mg base) : Meth K (He.ga K "Bytes") "number" (He.ma K (He.ga K "Bytes") "number") := He.meth_ok (g.c.fact 46 (f := .meth "Bytes" "number") rfl)
theorem mt_sign (g : G K mg base) : Meth K (He.ga K "Bytes") "sign" (He.ma K (He.ga K "Bytes") "sign") := He.meth_ok (g.c.fact 47 (f := .meth "Bytes" "sign") rfl)
theorem mt_thing (g : G K mg base) : Meth K (He.ga K "Bytes") "thing" (He.ma K (He.ga K "Bytes") "thing") := He.meth_ok (g.c.fact 48 (f := .meth "Bytes" "thing") rfl)
theorem mk_Bytes (g : G K mg base) : Mk K (He.ga K "Bytes") (He.ma K (He.ga K "Bytes") "__init__") := He.mkr_ok (g.c.fact 49 (f := .mkr "Bytes") rfl)
theorem xc_Nothing (g : G K mg base) : PySem.W.excIn K (He.ga K "Nothing") He.veBase "ValueError.__new__" = true ∧ PySem.W.keepIn K (.ref (He.ga K "Nothing")) = true ∧ PySem.W.subIn K (.ref (He.ga K "Nothing")) (.type "BaseException") = some true ∧ PySem.W.typeIn K (.ref (He.ga K "Nothing")) = some (.type "type") := He.exc_ok (g.c.fact 50 (f := .exc "Nothing") rfl)
theorem gl_Refused (g : G K mg base) : mg "Refused" = some (.ref (He.ga K "Refused")) := He.glo_ok g.kin g.ns (g.c.fact 51 (f := .glo "Refused") rfl)
theorem gl_NoName (g : G K mg base) : mg "NoName" = some (.ref (He.ga K "NoName")) := He.glo_ok g.kin g.ns (g.c.fact 52 (f := .glo "NoName") rfl)
theorem gl_TooMany (g : G K mg base) : mg "TooMany" = some (.ref (He.ga K "TooMany")) := He.glo_ok g.kin g.ns (g.c.fact 53 (f := .glo "TooMany") rfl)
theorem gl_Nothing (g : G K mg base) : mg "Nothing" = some (.ref (He.ga K "Nothing")) := He.glo_ok g.kin g.ns (g.c.fact 54 (f := .glo "Nothing") rfl)
theorem gl_BadBook (g : G K mg base) : mg "BadBook" = some (.ref (He.ga K "BadBook")) := He.glo_ok g.kin g.ns (g.c.fact 55 (f := .glo "BadBook") rfl)
theorem gl_BadText (g : G K mg base) : mg "BadText" = some (.ref (He.ga K "BadText")) := He.glo_ok g.kin g.ns (g.c.fact 56 (f := .glo "BadText") rfl)
theorem gl_BadBytes (g : G K mg base) : mg "BadBytes" = some (.ref (He.ga K "BadBytes")) := He.glo_ok g.kin g.ns (g.c.fact 57 (f := .glo "BadBytes") rfl)
theorem gl_NoCommand (g : G K mg base) : mg "NoCommand" = some (.ref (He.ga K "NoCommand")) := He.glo_ok g.kin g.ns (g.c.fact 58 (f := .glo "NoCommand") rfl)
theorem e_Refused_Refused (g : G K mg base) : PySem.W.exmOne K (.ref (He.ga K "Refused")) (.ref (He.ga K "Refused")) = some true := He.exm_ok (g.c.fact 59 (f := .exm "Refused" "Refused" ("Refused" == "Refused")) rfl)
theorem e_Refused_NoName (g : G K mg base) : PySem.W.exmOne K (.ref (He.ga K "Refused")) (.ref (He.ga K "NoName")) = some false := He.exm_ok (g.c.fact 60 (f := .exm "Refused" "NoName" ("Refused" == "NoName")) rfl)
theorem e_Refused_TooMany (g : G K mg base) : PySem.W.exmOne K (.ref (He.ga K "Refused")) (.ref (He.ga K "TooMany")) = some false := He.exm_ok (g.c.fact 61 (f := .exm "Refused" "TooMany" ("Refused" == "TooMany")) rfl)
theorem e_Refused_Nothing (g : G K mg base) : PySem.W.exmOne K (.ref (He.ga K "Refused")) (.ref (He.ga K "Nothing")) = some false := He.exm_ok (g.c.fact 62 (f := .exm "Refused" "Nothing" ("Refused" == "Nothing")) rfl)
theorem e_Refused_BadBook (g : G K mg base) : PySem.W.exmOne K (.ref (He.ga K "Refused")) (.ref (He.ga K "BadBook")) = some false := He.exm_ok (g.c.fact 63 (f := .exm "Refused" "BadBook" ("Refused" == "BadBook")) rfl)
theorem e_Refused_BadText (g : G K mg base) : PySem.W.exmOne K (.ref (He.ga K "Refused")) (.ref (He.ga K "BadText")) = some false := He.exm_ok (g.c.fact 64 (f := .exm "Refused" "BadText" ("Refused" == "BadText")) rfl)
theorem e_Refused_BadBytes (g : G K mg base) : PySem.W.exmOne K (.ref (He.ga K "Refused")) (.ref (He.ga K "BadBytes")) = some false := He.exm_ok (g.c.fact 65 (f := .exm "Refused" "BadBytes" ("Refused" == "BadBytes")) rfl)
theorem e_Refused_NoCommand (g : G K mg base) : PySem.W.exmOne K (.ref (He.ga K "Refused")) (.ref (He.ga K "NoCommand")) = some false := He.exm_ok (g.c.fact 66 (f := .exm "Refused" "NoCommand" ("Refused" == "NoCommand")) rfl)
theorem e_NoName_Refused (g : G K mg base) : PySem.W.exmOne K (.ref (He.ga K "NoName")) (.ref (He.ga K "Refused")) = some false := He.exm_ok (g.c.fact 67 (f := .exm "NoName" "Refused" ("NoName" == "Refused")) rfl)
theorem e_NoName_NoName (g : G K mg base) : PySem.W.exmOne K (.ref (He.ga K "NoName")) (.ref (He.ga K "NoName")) = some true := He.exm_ok (g.c.fact 68 (f := .exm "NoName" "NoName" ("NoName" == "NoName")) rfl)
theorem e_NoName_TooMany (g : G K mg base) : PySem.W.exmOne K (.ref (He.ga K "NoName")) (.ref (He.ga K "TooMany")) = some false := He.exm_ok (g.c.fact 69 (f := .exm "NoName" "TooMany" ("NoName" == "TooMany")) rfl)
theorem e_NoName_Nothing (g : G K mg base) : PySem.W.exmOne K (.ref (He.ga K "NoName")) (.ref (He.ga K "Nothing")) = some false := He.exm_ok (g.c.fact 70 (f := .exm "NoName" "Nothing" ("NoName" == "Nothing")) rfl)
theorem e_NoName_BadBook (g : G K mg base) : PySem.W.exmOne K (.ref (He.ga K "NoName")) (.ref (He.ga K "BadBook")) = some false := He.exm_ok (g.c.fact 71 (f := .exm "NoName" "BadBook" ("NoName" == "BadBook")) rfl)
theorem e_NoName_BadText (g : G K mg base) : PySem.W.exmOne K (.ref (He.ga K "NoName")) (.ref (He.ga K "BadText")) = some false := He.exm_ok (g.c.fact 72 (f := .exm "NoName" "BadText" ("NoName" == "BadText")) rfl)
theorem e_NoName_BadBytes (g : G K mg base) : PySem.W.exmOne K (.ref (He.ga K "NoName")) (.ref (He.ga K "BadBytes")) = some false := He.exm_ok (g.c.fact 73 (f := .exm "NoName" "BadBytes" ("NoName" == "BadBytes")) rfl)
theorem e_NoName_NoCommand (g : G K mg base) : PySem.W.exmOne K (.ref (He.ga K "NoName")) (.ref (He.ga K "NoCommand")) = some false := He.exm_ok (g.c.fact 74 (f := .exm "NoName" "NoCommand" ("NoName" == "NoCommand")) rfl)
theorem e_TooMany_Refused (g : G K mg base) : PySem.W.exmOne K (.ref (He.ga K "TooMany")) (.ref (He.ga K "Refused")) = some false := He.exm_ok (g.c.fact 75 (f := .exm "TooMany" "Refused" ("TooMany" == "Refused")) rfl)
theorem e_TooMany_NoName (g : G K mg base) : PySem.W.exmOne K (.ref (He.ga K "TooMany")) (.ref (He.ga K "NoName")) = some false := He.exm_ok (g.c.fact 76 (f := .exm "TooMany" "NoName" ("TooMany" == "NoName")) rfl)
theorem e_TooMany_TooMany (g : G K mg base) : PySem.W.exmOne K (.ref (He.ga K "TooMany")) (.ref (He.ga K "TooMany")) = some true := He.exm_ok (g.c.fact 77 (f := .exm "TooMany" "TooMany" ("TooMany" == "TooMany")) rfl)
theorem e_TooMany_Nothing (g : G K mg base) : PySem.W.exmOne K (.ref (He.ga K "TooMany")) (.ref (He.ga K "Nothing")) = some false := He.exm_ok (g.c.fact 78 (f := .exm "TooMany" "Nothing" ("TooMany" == "Nothing")) rfl)
theorem e_TooMany_BadBook (g : G K mg base) : PySem.W.exmOne K (.ref (He.ga K "TooMany")) (.ref (He.ga K "BadBook")) = some false := He.exm_ok (g.c.fact 79 (f := .exm "TooMany" "BadBook" ("TooMany" == "BadBook")) rfl)
theorem e_TooMany_BadText (g : G K mg base) : PySem.W.exmOne K (.ref (He.ga K "TooMany")) (.ref (He.ga K "BadText")) = some false := He.exm_ok (g.c.fact 80 (f := .exm "TooMany" "BadText" ("TooMany" == "BadText")) rfl)
theorem e_TooMany_BadBytes (g : G K mg base) : PySem.W.exmOne K (.ref (He.ga K "TooMany")) (.ref (He.ga K "BadBytes")) = some false := He.exm_ok (g.c.fact 81 (f := .exm "TooMany" "BadBytes" ("TooMany" == "BadBytes")) rfl)
theorem e_TooMany_NoCommand (g : G K mg base) : PySem.W.exmOne K (.ref (He.ga K "TooMany")) (.ref (He.ga K "NoCommand")) = some false := He.exm_ok (g.c.fact 82 (f := .exm "TooMany" "NoCommand" ("TooMany" == "NoCommand")) rfl)
theorem e_Nothing_Refused (g : G K mg base) : PySem.W.exmOne K (.ref (He.ga K "Nothing")) (.ref (He.ga K "Refused")) = some false := He.exm_ok (g.c.fact 83 (f := .exm "Nothing" "Refused" ("Nothing" == "Refused")) rfl)
theorem e_Nothing_NoName (g : G K mg base) : PySem.W.exmOne K (.ref (He.ga K "Nothing")) (.ref (He.ga K "NoName")) = some false := He.exm_ok (g.c.fact 84 (f := .exm "Nothing" "NoName" ("Nothing" == "NoName")) rfl)
theorem e_Nothing_TooMany (g : G K mg base) : PySem.W.exmOne K (.ref (He.ga K "Nothing")) (.ref (He.ga K "TooMany")) = some false := He.exm_ok (g.c.fact 85 (f := .exm "Nothing" "TooMany" ("Nothing" == "TooMany")) rfl)
theorem e_Nothing_Nothing (g : G K mg base) : PySem.W.exmOne K (.ref (He.ga K "Nothing")) (.ref (He.ga K "Nothing")) = some true := He.exm_ok (g.c.fact 86 (f := .exm "Nothing" "Nothing" ("Nothing" == "Nothing")) rfl)
theorem e_Nothing_BadBook (g : G K mg base) : PySem.W.exmOne K (.ref (He.ga K "Nothing")) (.ref (He.ga K "BadBook")) = some false := He.exm_ok (g.c.fact 87 (f := .exm "Nothing" "BadBook" ("Nothing" == "BadBook")) rfl)
theorem e_Nothing_BadText (g : G K mg base) : PySem.W.exmOne K (.ref (He.ga K "Nothing")) (.ref (He.ga K "BadText")) = some false := He.exm_ok (g.c.fact 88 (f := .exm "Nothing" "BadText" ("Nothing" == "BadText")) rfl)
theorem e_Nothing_BadBytes (g : G K mg base) : PySem.W.exmOne K (.ref (He.ga K "Nothing")) (.ref (He.ga K "BadBytes")) = some false := He.exm_ok (g.c.fact 89 (f := .exm "Nothing" "BadBytes" ("Nothing" == "BadBytes")) rfl)
theorem e_Nothing_NoCommand (g : G K mg base) : PySem.W.exmOne K (.ref (He.ga K "Nothing")) (.ref (He.ga K "NoCommand")) = some false := He.exm_ok (g.c.fact 90 (f := .exm "Nothing" "NoCommand" ("Nothing" == "NoCommand")) rfl)
theorem e_BadBook_Refused (g : G K mg base) : PySem.W.exmOne K (.ref (He.ga K "BadBook")) (.ref (He.ga K "Refused")) = some false := He.exm_ok (g.c.fact 91 (f := .exm "BadBook" "Refused" ("BadBook" == "Refused")) rfl)
theorem e_BadBook_NoName (g : G K mg base) : PySem.W.exmOne K (.ref (He.ga K "BadBook")) (.ref (He.ga K "NoName")) = some false := He.exm_ok (g.c.fact 92 (f := .exm "BadBook" "NoName" ("BadBook" == "NoName")) rfl)
theorem e_BadBook_TooMany (g : G K mg base) : PySem.W.exmOne K (.ref (He.ga K "BadBook")) (.ref (He.ga K "TooMany")) = some false := He.exm_ok (g.c.fact 93 (f := .exm "BadBook" "TooMany" ("BadBook" == "TooMany")) rfl)
theorem e_BadBook_Nothing (g : G K mg base) : PySem.W.exmOne K (.ref (He.ga K "BadBook")) (.ref (He.ga K "Nothing")) = some false := He.exm_ok (g.c.fact 94 (f := .exm "BadBook" "Nothing" ("BadBook" == "Nothing")) rfl)
theorem e_BadBook_BadBook (g : G K mg base) : PySem.W.exmOne K (.ref (He.ga K "BadBook")) (.ref (He.ga K "BadBook")) = some true := He.exm_ok (g.c.fact 95 (f := .exm "BadBook" "BadBook" ("BadBook" == "BadBook")) rfl)
theorem e_BadBook_BadText (g : G K mg base) : PySem.W.exmOne K (.ref (He.ga K "BadBook")) (.ref (He.ga K "BadText")) = some false := He.exm_ok (g.c.fact 96 (f := .exm "BadBook" "BadText" ("BadBook" == "BadText")) rfl)
theorem e_BadBook_BadBytes (g : G K mg base) : PySem.W.exmOne K (.ref (He.ga K "BadBook")) (.ref (He.ga K "BadBytes")) = some false := He.exm_ok (g.c.fact 97 (f := .exm "BadBook" "BadBytes" ("BadBook" == "BadBytes")) rfl)
theorem e_BadBook_NoCommand (g : G K mg base) : PySem.W.exmOne K (.ref (He.ga K "BadBook")) (.ref (He.ga K "NoCommand")) = some false := He.exm_ok (g.c.fact 98 (f := .exm "BadBook" "NoCommand" ("BadBook" == "NoCommand")) rfl)
theorem e_BadText_Refused (g : G K mg base) : PySem.W.exmOne K (.ref (He.ga K "BadText")) (.ref (He.ga K "Refused")) = some false := He.exm_ok (g.c.fact 99 (f := .exm "BadText" "Refused" ("BadText" == "Refused")) rfl)
theorem e_BadText_NoName (g : G K mg base) : PySem.W.exmOne K (.ref (He.ga K "BadText")) (.ref (He.ga K "NoName")) = some false := He.exm_ok (g.c.fact 100 (f := .exm "BadText" "NoName" ("BadText" == "NoName")) rfl)
theorem e_BadText_TooMany (g : G K mg base) : PySem.W.exmOne K (.ref (He.ga K "BadText")) (.ref (He.ga K "TooMany")) = some false := He.exm_ok (g.c.fact 101 (f := .exm "BadText" "TooMany" ("BadText" == "TooMany")) rfl)
theorem e_BadText_Nothing (g : G K mg base) : PySem.W.exmOne K (.ref (He.ga K "BadText")) (.ref (He.ga K "Nothing")) = some false := He.exm_ok (g.c.fact 102 (f := .exm "BadText" "Nothing" ("BadText" == "Nothing")) rfl)
theorem e_BadText_BadBook (g : G K mg base) : PySem.W.exmOne K (.ref (He.ga K "BadText")) (.ref (He.ga K "BadBook")) = some false := He.exm_ok (g.c.fact 103 (f := .exm "BadText" "BadBook" ("BadText" == "BadBook")) rfl)
theorem e_BadText_BadText (g : G K mg base) : PySem.W.exmOne K (.ref (He.ga K "BadText")) (.ref (He.ga K "BadText")) = some true := He.exm_ok (g.c.fact 104 (f := .exm "BadText" "BadText" ("BadText" == "BadText")) rfl)
theorem e_BadText_BadBytes (g : G K mg base) : PySem.W.exmOne K (.ref (He.ga K "BadText")) (.ref (He.ga K "BadBytes")) = some false := He.exm_ok (g.c.fact 105 (f := .exm "BadText" "BadBytes" ("BadText" == "BadBytes")) rfl)
theorem e_BadText_NoCommand (g : G K mg base) : PySem.W.exmOne K (.ref (He.ga K "BadText")) (.ref (He.ga K "NoCommand")) = some false := He.exm_ok (g.c.fact 106 (f := .exm "BadText" "NoCommand" ("BadText" == "NoCommand")) rfl)
theorem e_BadBytes_Refused (g : G K mg base) : PySem.W.exmOne K (.ref (He.ga K "BadBytes")) (.ref (He.ga K "Refused")) = some false := He.exm_ok (g.c.fact 107 (f := .exm "BadBytes" "Refused" ("BadBytes" == "Refused")) rfl)
theorem e_BadBytes_NoName (g : G K mg base) : PySem.W.exmOne K (.ref (He.ga K "BadBytes")) (.ref (He.ga K "NoName")) = some false := He.exm_ok (g.c.fact 108 (f := .exm "BadBytes" "NoName" ("BadBytes" == "NoName")) rfl)
theorem e_BadBytes_TooMany (g : G K mg base) : PySem.W.exmOne K (.ref (He.ga K "BadBytes")) (.ref (He.ga K "TooMany")) = some false := He.exm_ok (g.c.fact 109 (f := .exm "BadBytes" "TooMany" ("BadBytes" == "TooMany")) rfl)
theorem e_BadBytes_Nothing (g : G K mg base) : PySem.W.exmOne K (.ref (He.ga K "BadBytes")) (.ref (He.ga K "Nothing")) = some false := He.exm_ok (g.c.fact 110 (f := .exm "BadBytes" "Nothing" ("BadBytes" == "Nothing")) rfl)
theorem e_BadBytes_BadBook (g : G K mg base) : PySem.W.exmOne K (.ref (He.ga K "BadBytes")) (.ref (He.ga K "BadBook")) = some false := He.exm_ok (g.c.fact 111 (f := .exm "BadBytes" "BadBook" ("BadBytes" == "BadBook")) rfl)
theorem e_BadBytes_BadText (g : G K mg base) : PySem.W.exmOne K (.ref (He.ga K "BadBytes")) (.ref (He.ga K "BadText")) = some false := He.exm_ok (g.c.fact 112 (f := .exm "BadBytes" "BadText" ("BadBytes" == "BadText")) rfl)
theorem e_BadBytes_BadBytes (g : G K mg base) : PySem.W.exmOne K (.ref (He.ga K "BadBytes")) (.ref (He.ga K "BadBytes")) = some true := He.exm_ok (g.c.fact 113 (f := .exm "BadBytes" "BadBytes" ("BadBytes" == "BadBytes")) rfl)
theorem e_BadBytes_NoCommand (g : G K mg base) : PySem.W.exmOne K (.ref (He.ga K "BadBytes")) (.ref (He.ga K "NoCommand")) = some false := He.exm_ok (g.c.fact 114 (f := .exm "BadBytes" "NoCommand" ("BadBytes" == "NoCommand")) rfl)
theorem e_NoCommand_Refused (g : G K mg base) : PySem.W.exmOne K (.ref (He.ga K "NoCommand")) (.ref (He.ga K "Refused")) = some false := He.exm_ok (g.c.fact 115 (f := .exm "NoCommand" "Refused" ("NoCommand" == "Refused")) rfl)
theorem e_NoCommand_NoName (g : G K mg base) : PySem.W.exmOne K (.ref (He.ga K "NoCommand")) (.ref (He.ga K "NoName")) = some false := He.exm_ok (g.c.fact 116 (f := .exm "NoCommand" "NoName" ("NoCommand" == "NoName")) rfl)
theorem e_NoCommand_TooMany (g : G K mg base) : PySem.W.exmOne K (.ref (He.ga K "NoCommand")) (.ref (He.ga K "TooMany")) = some false := He.exm_ok (g.c.fact 117 (f := .exm "NoCommand" "TooMany" ("NoCommand" == "TooMany")) rfl)
theorem e_NoCommand_Nothing (g : G K mg base) : PySem.W.exmOne K (.ref (He.ga K "NoCommand")) (.ref (He.ga K "Nothing")) = some false := He.exm_ok (g.c.fact 118 (f := .exm "NoCommand" "Nothing" ("NoCommand" == "Nothing")) rfl)
theorem e_NoCommand_BadBook (g : G K mg base) : PySem.W.exmOne K (.ref (He.ga K "NoCommand")) (.ref (He.ga K "BadBook")) = some false := He.exm_ok (g.c.fact 119 (f := .exm "NoCommand" "BadBook" ("NoCommand" == "BadBook")) rfl)
theorem e_NoCommand_BadText (g : G K mg base) : PySem.W.exmOne K (.ref (He.ga K "NoCommand")) (.ref (He.ga K "BadText")) = some false := He.exm_ok (g.c.fact 120 (f := .exm "NoCommand" "BadText" ("NoCommand" == "BadText")) rfl)
theorem e_NoCommand_BadBytes (g : G K mg base) : PySem.W.exmOne K (.ref (He.ga K "NoCommand")) (.ref (He.ga K "BadBytes")) = some false := He.exm_ok (g.c.fact 121 (f := .exm "NoCommand" "BadBytes" ("NoCommand" == "BadBytes")) rfl)
theorem e_NoCommand_NoCommand (g : G K mg base) : PySem.W.exmOne K (.ref (He.ga K "NoCommand")) (.ref (He.ga K "NoCommand")) = some true := He.exm_ok (g.c.fact 122 (f := .exm "NoCommand" "NoCommand" ("NoCommand" == "NoCommand")) rfl)
theorem d_is_integer (g : G K mg base) : ∃ fd, Fun K "is_integer" "is_integer" (top 13) (He.ga K "is_integer") fd := let ⟨fd, F⟩ := g.c.def_ 0 (d := mkD "is_integer" 13) rfl; ⟨fd, He5.fun_of F⟩
theorem d_is_within (g : G K mg base) : ∃ fd, Fun K "is_within" "is_within" (top 14) (He.ga K "is_within") fd := let ⟨fd, F⟩ := g.c.def_ 1 (d := mkD "is_within" 14) rfl; ⟨fd, He5.fun_of F⟩
theorem d_is_string (g : G K mg base) : ∃ fd, Fun K "is_string" "is_string" (top 15) (He.ga K "is_string") fd := let ⟨fd, F⟩ := g.c.def_ 2 (d := mkD "is_string" 15) rfl; ⟨fd, He5.fun_of F⟩
theorem d_two (g : G K mg base) : ∃ fd, Fun K "two" "two" (top 24) (He.ga K "two") fd := let ⟨fd, F⟩ := g.c.def_ 3 (d := mkD "two" 24) rfl; ⟨fd, He5.fun_of F⟩
theorem d_packed_string (g : G K mg base) : ∃ fd, Fun K "packed_string" "packed_string" (top 25) (He.ga K "packed_string") fd := let ⟨fd, F⟩ := g.c.def_ 4 (d := mkD "packed_string" 25) rfl; ⟨fd, He5.fun_of F⟩
theorem d_packed_at (g : G K mg base) : ∃ fd, Fun K "packed_at" "packed_at" (top 26) (He.ga K "packed_at") fd := let ⟨fd, F⟩ := g.c.def_ 5 (d := mkD "packed_at" 26) rfl; ⟨fd, He5.fun_of F⟩
theorem d_packed (g : G K mg base) : ∃ fd, Fun K "packed" "packed" (top 27) (He.ga K "packed") fd := let ⟨fd, F⟩ := g.c.def_ 6 (d := mkD "packed" 27) rfl; ⟨fd, He5.fun_of F⟩
theorem d_are_bytes (g : G K mg base) : ∃ fd, Fun K "are_bytes" "are_bytes" (top 29) (He.ga K "are_bytes") fd := let ⟨fd, F⟩ := g.c.def_ 7 (d := mkD "are_bytes" 29) rfl; ⟨fd, He5.fun_of F⟩
theorem d_unpacked (g : G K mg base) : ∃ fd, Fun K "unpacked" "unpacked" (top 30) (He.ga K "unpacked") fd := let ⟨fd, F⟩ := g.c.def_ 8 (d := mkD "unpacked" 30) rfl; ⟨fd, He5.fun_of F⟩
theorem d__law_bag (g : G K mg base) : ∃ fd, Fun K "_law_bag" "_law_bag" (top 32) (He.ga K "_law_bag") fd := let ⟨fd, F⟩ := g.c.def_ 9 (d := mkD "_law_bag" 32) rfl; ⟨fd, He5.fun_of F⟩
theorem d__law_take (g : G K mg base) : ∃ fd, Fun K "_law_take" "_law_take" (top 33) (He.ga K "_law_take") fd := let ⟨fd, F⟩ := g.c.def_ 10 (d := mkD "_law_take" 33) rfl; ⟨fd, He5.fun_of F⟩
theorem d__law_some (g : G K mg base) : ∃ fd, Fun K "_law_some" "_law_some" (top 34) (He.ga K "_law_some") fd := let ⟨fd, F⟩ := g.c.def_ 11 (d := mkD "_law_some" 34) rfl; ⟨fd, He5.fun_of F⟩
theorem d__law_is_int (g : G K mg base) : ∃ fd, Fun K "_law_is_int" "_law_is_int" (top 35) (He.ga K "_law_is_int") fd := let ⟨fd, F⟩ := g.c.def_ 12 (d := mkD "_law_is_int" 35) rfl; ⟨fd, He5.fun_of F⟩
theorem d__law_alike (g : G K mg base) : ∃ fd, Fun K "_law_alike" "_law_alike" (top 36) (He.ga K "_law_alike") fd := let ⟨fd, F⟩ := g.c.def_ 13 (d := mkD "_law_alike" 36) rfl; ⟨fd, He5.fun_of F⟩
theorem d__law_heard (g : G K mg base) : ∃ fd, Fun K "_law_heard" "_law_heard" (top 37) (He.ga K "_law_heard") fd := let ⟨fd, F⟩ := g.c.def_ 14 (d := mkD "_law_heard" 37) rfl; ⟨fd, He5.fun_of F⟩
theorem d__law_signs (g : G K mg base) : ∃ fd, Fun K "_law_signs" "_law_signs" (top 38) (He.ga K "_law_signs") fd := let ⟨fd, F⟩ := g.c.def_ 15 (d := mkD "_law_signs" 38) rfl; ⟨fd, He5.fun_of F⟩
theorem d__law_halves (g : G K mg base) : ∃ fd, Fun K "_law_halves" "_law_halves" (top 39) (He.ga K "_law_halves") fd := let ⟨fd, F⟩ := g.c.def_ 16 (d := mkD "_law_halves" 39) rfl; ⟨fd, He5.fun_of F⟩
theorem d__law_bytes_of (g : G K mg base) : ∃ fd, Fun K "_law_bytes_of" "_law_bytes_of" (top 40) (He.ga K "_law_bytes_of") fd := let ⟨fd, F⟩ := g.c.def_ 17 (d := mkD "_law_bytes_of" 40) rfl; ⟨fd, He5.fun_of F⟩
theorem d__law_data (g : G K mg base) : ∃ fd, Fun K "_law_data" "_law_data" (top 41) (He.ga K "_law_data") fd := let ⟨fd, F⟩ := g.c.def_ 18 (d := mkD "_law_data" 41) rfl; ⟨fd, He5.fun_of F⟩
theorem d__law_fault (g : G K mg base) : ∃ fd, Fun K "_law_fault" "_law_fault" (top 42) (He.ga K "_law_fault") fd := let ⟨fd, F⟩ := g.c.def_ 19 (d := mkD "_law_fault" 42) rfl; ⟨fd, He5.fun_of F⟩
theorem d_law (g : G K mg base) : ∃ fd, Fun K "law" "law" (top 43) (He.ga K "law") fd := let ⟨fd, F⟩ := g.c.def_ 20 (d := mkD "law" 43) rfl; ⟨fd, He5.fun_of F⟩
theorem dm___init__ (g : G K mg base) : ∃ fd, Fun K "__init__" ("Bytes" ++ "." ++ "__init__") (mth 28 0) (He.ma K (He.ga K "Bytes") "__init__") fd := let ⟨fd, F⟩ := g.c.def_ 21 (d := mkM "Bytes" "__init__" 28 0) rfl; ⟨fd, He5.fun_of F⟩
theorem dm_place (g : G K mg base) : ∃ fd, Fun K "place" ("Bytes" ++ "." ++ "place") (mth 28 1) (He.ma K (He.ga K "Bytes") "place") fd := let ⟨fd, F⟩ := g.c.def_ 22 (d := mkM "Bytes" "place" 28 1) rfl; ⟨fd, He5.fun_of F⟩
theorem dm_byte (g : G K mg base) : ∃ fd, Fun K "byte" ("Bytes" ++ "." ++ "byte") (mth 28 2) (He.ma K (He.ga K "Bytes") "byte") fd := let ⟨fd, F⟩ := g.c.def_ 23 (d := mkM "Bytes" "byte" 28 2) rfl; ⟨fd, He5.fun_of F⟩
theorem dm_number (g : G K mg base) : ∃ fd, Fun K "number" ("Bytes" ++ "." ++ "number") (mth 28 3) (He.ma K (He.ga K "Bytes") "number") fd := let ⟨fd, F⟩ := g.c.def_ 24 (d := mkM "Bytes" "number" 28 3) rfl; ⟨fd, He5.fun_of F⟩
theorem dm_sign (g : G K mg base) : ∃ fd, Fun K "sign" ("Bytes" ++ "." ++ "sign") (mth 28 4) (He.ma K (He.ga K "Bytes") "sign") fd := let ⟨fd, F⟩ := g.c.def_ 25 (d := mkM "Bytes" "sign" 28 4) rfl; ⟨fd, He5.fun_of F⟩
theorem dm_thing (g : G K mg base) : ∃ fd, Fun K "thing" ("Bytes" ++ "." ++ "thing") (mth 28 5) (He.ma K (He.ga K "Bytes") "thing") fd := let ⟨fd, F⟩ := g.c.def_ 26 (d := mkM "Bytes" "thing" 28 5) rfl; ⟨fd, He5.fun_of F⟩
theorem xs_Refused (g : G K mg base) : ∃ cda cc, ExcSays K prog.main.file ⟨"Refused", mth 7 0, ["why"]⟩ (He.ga K "Refused") (He.ma K (He.ga K "Refused") "__init__") cda cc := excSays (g.exc _ (by simp [ec])) (List.all_eq_true.mp (He.ba g.more).1 _ (by simp [ec]))
theorem xf_Refused (g : G K mg base) : XfC K (He.ga K "Refused") := xfB_ok (List.all_eq_true.mp (He.ba g.more).2 ⟨"Refused", mth 7 0, ["why"]⟩ (by simp [ec]))
theorem xs_NoName (g : G K mg base) : ∃ cda cc, ExcSays K prog.main.file ⟨"NoName", mth 5 0, ["name"]⟩ (He.ga K "NoName") (He.ma K (He.ga K "NoName") "__init__") cda cc := excSays (g.exc _ (by simp [ec])) (List.all_eq_true.mp (He.ba g.more).1 _ (by simp [ec]))
theorem xf_NoName (g : G K mg base) : XfC K (He.ga K "NoName") := xfB_ok (List.all_eq_true.mp (He.ba g.more).2 ⟨"NoName", mth 5 0, ["name"]⟩ (by simp [ec]))
theorem xs_TooMany (g : G K mg base) : ∃ cda cc, ExcSays K prog.main.file ⟨"TooMany", mth 9 0, ["what", "limit"]⟩ (He.ga K "TooMany") (He.ma K (He.ga K "TooMany") "__init__") cda cc := excSays (g.exc _ (by simp [ec])) (List.all_eq_true.mp (He.ba g.more).1 _ (by simp [ec]))
theorem xf_TooMany (g : G K mg base) : XfC K (He.ga K "TooMany") := xfB_ok (List.all_eq_true.mp (He.ba g.more).2 ⟨"TooMany", mth 9 0, ["what", "limit"]⟩ (by simp [ec]))
theorem xs_BadBook (g : G K mg base) : ∃ cda cc, ExcSays K prog.main.file ⟨"BadBook", mth 3 0, ["at", "fault"]⟩ (He.ga K "BadBook") (He.ma K (He.ga K "BadBook") "__init__") cda cc := excSays (g.exc _ (by simp [ec])) (List.all_eq_true.mp (He.ba g.more).1 _ (by simp [ec]))
theorem xf_BadBook (g : G K mg base) : XfC K (He.ga K "BadBook") := xfB_ok (List.all_eq_true.mp (He.ba g.more).2 ⟨"BadBook", mth 3 0, ["at", "fault"]⟩ (by simp [ec]))
theorem xs_BadText (g : G K mg base) : ∃ cda cc, ExcSays K prog.main.file ⟨"BadText", mth 2 0, ["line", "column"]⟩ (He.ga K "BadText") (He.ma K (He.ga K "BadText") "__init__") cda cc := excSays (g.exc _ (by simp [ec])) (List.all_eq_true.mp (He.ba g.more).1 _ (by simp [ec]))
theorem xf_BadText (g : G K mg base) : XfC K (He.ga K "BadText") := xfB_ok (List.all_eq_true.mp (He.ba g.more).2 ⟨"BadText", mth 2 0, ["line", "column"]⟩ (by simp [ec]))
theorem xs_BadBytes (g : G K mg base) : ∃ cda cc, ExcSays K prog.main.file ⟨"BadBytes", mth 4 0, ["at", "fault"]⟩ (He.ga K "BadBytes") (He.ma K (He.ga K "BadBytes") "__init__") cda cc := excSays (g.exc _ (by simp [ec])) (List.all_eq_true.mp (He.ba g.more).1 _ (by simp [ec]))
theorem xf_BadBytes (g : G K mg base) : XfC K (He.ga K "BadBytes") := xfB_ok (List.all_eq_true.mp (He.ba g.more).2 ⟨"BadBytes", mth 4 0, ["at", "fault"]⟩ (by simp [ec]))
theorem xs_NoCommand (g : G K mg base) : ∃ cda cc, ExcSays K prog.main.file ⟨"NoCommand", mth 6 0, ["line"]⟩ (He.ga K "NoCommand") (He.ma K (He.ga K "NoCommand") "__init__") cda cc := excSays (g.exc _ (by simp [ec])) (List.all_eq_true.mp (He.ba g.more).1 _ (by simp [ec]))
theorem xf_NoCommand (g : G K mg base) : XfC K (He.ga K "NoCommand") := xfB_ok (List.all_eq_true.mp (He.ba g.more).2 ⟨"NoCommand", mth 6 0, ["line"]⟩ (by simp [ec]))
end
end K15
set_option Elab.async false
set_option linter.all false
set_option maxRecDepth 100000
set_option maxHeartbeats 0
namespace K15
open PySem PySem.Spec PyProof.Rows L2 DL
section
variable {K : PySem.W.Frag} {mg : Str → Option Value} {base : Heap} {w : World}
theorem x_Refused (g : G K mg base) : XCls prog w K mg base "Refused" (He.ga K "Refused") 1 (fun ds => match ds with | [a] => [("why", a)] | _ => []) := by
  obtain ⟨cda, cc, S⟩ := xs_Refused g
  obtain ⟨oc, od, kV, doc, pm, an, ct, osl, lk⟩ := S.fn
  exact ⟨gl_Refused g, .inr ⟨S.oex, _, _, _, _, init1_ok (x := "why") (me := "self") (f1 := "why") lk S.code (supSc_by (by decide +kernel)) (supF_of S (b_super g) rfl rfl (by decide +kernel) rfl rfl rfl rfl) S.oex (S.no "why" (by simp)) (by decide) (by decide) rfl (by decide) (by decide) (fun us hl => match us, hl with | [_, _], _ => rfl),
    Binds.all (fun us hl => match us, hl with | [_, _], _ => rfl), S.init, S.ty, .inl ⟨rfl, "why", rfl, fun a => rfl⟩⟩⟩
theorem x_BadBytes (g : G K mg base) : XCls prog w K mg base "BadBytes" (He.ga K "BadBytes") 2 (fun ds => match ds with | [a, b] => [("fault", b), ("at", a)] | _ => []) := by
  obtain ⟨cda, cc, S⟩ := xs_BadBytes g
  obtain ⟨oc, od, kV, doc, pm, an, ct, osl, lk⟩ := S.fn
  exact ⟨gl_BadBytes g, .inr ⟨S.oex, _, _, _, _, init2_ok (x := "at") (y := "fault") (me := "self") (f1 := "at") (f2 := "fault") lk S.code (supSc_by (by decide +kernel)) (supF_of S (b_super g) rfl rfl (by decide +kernel) rfl rfl rfl rfl) S.oex (S.no "at" (by simp)) (S.no "fault" (by simp)) rfl (by decide) (fun us hl => match us, hl with | [_, _, _], _ => rfl),
    Binds.all (fun us hl => match us, hl with | [_, _, _], _ => rfl), S.init, S.ty, .inr ⟨rfl, "at", "fault", rfl, fun a b => rfl⟩⟩⟩
end
end K15
set_option Elab.async false
set_option linter.all false
set_option maxRecDepth 100000
set_option maxHeartbeats 400000
namespace K15
open PySem PySem.Spec PyProof.Rows L2 DL
section
variable {K : PySem.W.Frag} {mg : Str → Option Value} {base : Heap} {w : World}
def isInt (d : D) : Bool := isT d "int" && !isT d "bool"
def fs_is_integer : FSp := fun ds μ R _ => ∃ d, ds = [d] ∧ NoDict d ∧ R (.bool (isInt d)) μ
theorem o_is_integer (g : G K mg base) : Okk prog w K mg base CX0 1 "is_integer" ["thing"] fs_is_integer := by
  obtain ⟨fd, F⟩ := d_is_integer g
  refine ⟨_, fd, gl_is_integer g, F.kp, fun_ok F (C8.fnScope_by (by decide +kernel) : FnScope ["thing"] ["thing"] _) ?l (fun cdv A outer s H E Γ hcd hr => (dss_one (ds_ret (de_and (de_callB call_isi calld_isi (by rfl) (b_isinstance g) PyProof.Rows.Boot.«isinstance» (da_cons (de_var 0) (da_cons (de_type (by rfl) (b_int g) PyProof.Rows.Boot.«int») da_nil))) (de_one (de_not (de_callB call_isi calld_isi (by rfl) (b_isinstance g) PyProof.Rows.Boot.«isinstance» (da_cons (de_var 0) (da_cons (de_type (by rfl) (b_bool g) PyProof.Rows.Boot.«bool») da_nil)))))))))
    ?r, F.binds (fun _ _ _ _ _ _ us hl => match us, hl with | [_], _ => rfl)⟩
  case l => intro ds μ R EX ⟨d, e, _⟩; rw [e]; rfl
  case r =>
    rintro ds μ R EX ⟨d, rfl, hd, q⟩
    simp only [dSeq, dNext, dRet, dRetN, dIfS, dSet, dDrop, dAsg, dPar, dCont, dBreak, dBin, dCmp, dTest, dAnd, dOr, dNot, dAndV, dOrV, dNotV, dIf, dChain, dCB, dBM, dBM0, dCall, dC, dCons, dNil, dTup, dLst, dLstM, dStar, dYes, dNeg, dSlice, dNoPart, dPart, dgName, dVar, dIsN, dNotN, startD, List.map_cons, List.map_nil, List.cons_append, List.nil_append, List.replicate_zero, List.replicate_succ, List.length_cons, List.length_nil, Nat.sub_self, Nat.reduceSub, Nat.reduceAdd, List.getElem?_cons_zero, List.getElem?_cons_succ, List.set_cons_zero, List.set_cons_succ, Option.some.injEq, Sl.v.injEq, exists_eq_left', PyData.bool.injEq, PyData.int.injEq, PyData.str.injEq, PyData.tuple.injEq, PyData.list.injEq, snap_none, snap_bool, snap_int, snap_str, snap_list, snap_tuple, q_isi hd (show "int" ∈ knownT by decide), q_isi hd (show "bool" ∈ knownT by decide)]
    unfold isInt at q
    cases h : isT d "int" with
    | false => simp only [h, Bool.false_and] at q; simpa using sett_now q
    | true => simp only [h, Bool.true_and] at q; simpa using sett_now q
def fs_is_string : FSp := fun ds μ R _ => ∃ d, ds = [d] ∧ NoDict d ∧ R (.bool (isT d "str")) μ
theorem o_is_string (g : G K mg base) : Okk prog w K mg base CX0 1 "is_string" ["thing"] fs_is_string := by
  obtain ⟨fd, F⟩ := d_is_string g
  refine ⟨_, fd, gl_is_string g, F.kp, fun_ok F (C8.fnScope_by (by decide +kernel) : FnScope ["thing"] ["thing"] _) ?l (fun cdv A outer s H E Γ hcd hr => (dss_one (ds_ret (de_callB call_isi calld_isi (by rfl) (b_isinstance g) PyProof.Rows.Boot.«isinstance» (da_cons (de_var 0) (da_cons (de_type (by rfl) (b_str g) PyProof.Rows.Boot.«str») da_nil))))))
    ?r, F.binds (fun _ _ _ _ _ _ us hl => match us, hl with | [_], _ => rfl)⟩
  case l => intro ds μ R EX ⟨d, e, _⟩; rw [e]; rfl
  case r =>
    rintro ds μ R EX ⟨d, rfl, hd, q⟩
    simp only [dSeq, dNext, dRet, dRetN, dIfS, dSet, dDrop, dAsg, dPar, dCont, dBreak, dBin, dCmp, dTest, dAnd, dOr, dNot, dAndV, dOrV, dNotV, dIf, dChain, dCB, dBM, dBM0, dCall, dC, dCons, dNil, dTup, dLst, dLstM, dStar, dYes, dNeg, dSlice, dNoPart, dPart, dgName, dVar, dIsN, dNotN, startD, List.map_cons, List.map_nil, List.cons_append, List.nil_append, List.replicate_zero, List.replicate_succ, List.length_cons, List.length_nil, Nat.sub_self, Nat.reduceSub, Nat.reduceAdd, List.getElem?_cons_zero, List.getElem?_cons_succ, List.set_cons_zero, List.set_cons_succ, Option.some.injEq, Sl.v.injEq, exists_eq_left', PyData.bool.injEq, PyData.int.injEq, PyData.str.injEq, PyData.tuple.injEq, PyData.list.injEq, snap_none, snap_bool, snap_int, snap_str, snap_list, snap_tuple, q_isi hd (show "str" ∈ knownT by decide)]
    exact sett_now q
/-- an int within the two -/
def within (d : D) (lo hi : Int) : Bool := match d with
  | .int i => decide (lo ≤ i) && decide (i ≤ hi)
  | _ => false
def fs_is_within : FSp := fun ds μ R _ => ∃ d lo hi, ds = [d, .int lo, .int hi] ∧ NoDict d ∧ R (.bool (within d lo hi)) μ
theorem o_is_within (g : G K mg base) : Okk prog w K mg base CX0 2 "is_within" ["thing", "least", "most"] fs_is_within := by
  obtain ⟨fd, F⟩ := d_is_within g
  refine ⟨_, fd, gl_is_within g, F.kp, fun_ok F (C8.fnScope_by (by decide +kernel) : FnScope ["thing", "least", "most"] ["thing", "least", "most"] _) ?l (fun cdv A outer s H E Γ hcd hr => (dss_one (ds_ret (de_and (de_callO (o_is_integer g) hr (by omega) (by rfl) lx0 (da_cons (de_var 0) da_nil)) (de_one (de_lele hr (de_var 1) (de_var 0) (de_var 2)))))))
    ?r, F.binds (fun _ _ _ _ _ _ us hl => match us, hl with | [_, _, _], _ => rfl)⟩
  case l => intro ds μ R EX ⟨d, _, _, e, _⟩; rw [e]; rfl
  case r =>
    rintro ds μ R EX ⟨d, lo, hi, rfl, hd, q⟩
    simp only [dSeq, dNext, dRet, dRetN, dIfS, dSet, dDrop, dAsg, dPar, dCont, dBreak, dBin, dCmp, dTest, dAnd, dOr, dNot, dAndV, dOrV, dNotV, dIf, dChain, dCB, dBM, dBM0, dCall, dC, dCons, dNil, dTup, dLst, dLstM, dStar, dYes, dNeg, dSlice, dNoPart, dPart, dgName, dVar, dIsN, dNotN, startD, List.map_cons, List.map_nil, List.cons_append, List.nil_append, List.replicate_zero, List.replicate_succ, List.length_cons, List.length_nil, Nat.sub_self, Nat.reduceSub, Nat.reduceAdd, List.getElem?_cons_zero, List.getElem?_cons_succ, List.set_cons_zero, List.set_cons_succ, Option.some.injEq, Sl.v.injEq, exists_eq_left', PyData.bool.injEq, PyData.int.injEq, PyData.str.injEq, PyData.tuple.injEq, PyData.list.injEq, snap_none, snap_bool, snap_int, snap_str, snap_list, snap_tuple]
    refine ⟨d, rfl, hd, ?_⟩
    cases d with
    | int i =>
      have e : isInt (.int i) = true := rfl
      rw [e]
      refine ⟨true, rfl, ?_⟩
      rw [if_pos rfl]
      simp only [snap_int, ltD_int]
      refine ⟨plt_int, ?_⟩
      simp only [within] at q
      by_cases h : i < lo
      · have h2 : ¬ lo ≤ i := by omega
        simp only [h, h2, decide_true, decide_false, Bool.not_true, Bool.false_and, Bool.false_eq_true, if_false] at q ⊢
        exact sett_now q
      · have h2 : lo ≤ i := by omega
        simp only [h, h2, decide_true, decide_false, Bool.not_false, Bool.true_and, if_true] at q ⊢
        refine ⟨plt_int, ?_⟩
        by_cases h3 : hi < i
        · have h4 : ¬ i ≤ hi := by omega
          simp only [h3, h4, decide_true, decide_false, Bool.not_true] at q ⊢
          exact sett_now q
        · have h4 : i ≤ hi := by omega
          simp only [h3, h4, decide_true, decide_false, Bool.not_false] at q ⊢
          exact sett_now q
    | dict kvs => exact absurd rfl (hd kvs)
    | _ => exact ⟨false, rfl, sett_now q⟩
def fs_two : FSp := fun ds μ R _ => ∃ n : Int, ds = [.int n] ∧ R (.tuple [.int (n / 256), .int (n % 256)]) μ
theorem o_two (g : G K mg base) : Okk prog w K mg base CX0 1 "two" ["number"] fs_two := by
  obtain ⟨fd, F⟩ := d_two g
  refine ⟨_, fd, gl_two g, F.kp, fun_ok F (C8.fnScope_by (by decide +kernel) : FnScope ["number"] ["number"] _) ?l (fun cdv A outer s H E Γ hcd hr => (dss_one (ds_ret (de_tup (da_cons (de_fdiv (de_var 0) (de_globI (by rfl) (c_BASE g))) (da_cons (de_mod (de_var 0) (de_globI (by rfl) (c_BASE g))) da_nil))))))
    ?r, F.binds (fun _ _ _ _ _ _ us hl => match us, hl with | [_], _ => rfl)⟩
  case l => intro ds μ R EX ⟨d, e, _⟩; rw [e]; rfl
  case r =>
    rintro ds μ R EX ⟨n, rfl, q⟩
    simp only [dSeq, dNext, dRet, dRetN, dIfS, dSet, dDrop, dAsg, dPar, dCont, dBreak, dBin, dCmp, dTest, dAnd, dOr, dNot, dAndV, dOrV, dNotV, dIf, dChain, dCB, dBM, dBM0, dCall, dC, dCons, dNil, dTup, dLst, dLstM, dStar, dYes, dNeg, dSlice, dNoPart, dPart, dgName, dVar, dIsN, dNotN, startD, List.map_cons, List.map_nil, List.cons_append, List.nil_append, List.replicate_zero, List.replicate_succ, List.length_cons, List.length_nil, Nat.sub_self, Nat.reduceSub, Nat.reduceAdd, List.getElem?_cons_zero, List.getElem?_cons_succ, List.set_cons_zero, List.set_cons_succ, Option.some.injEq, Sl.v.injEq, exists_eq_left', PyData.bool.injEq, PyData.int.injEq, PyData.str.injEq, PyData.tuple.injEq, PyData.list.injEq, snap_none, snap_bool, snap_int, snap_str, snap_list, snap_tuple, dI]
    exact ⟨⟨by decide, by decide⟩, by decide, by decide, sett_now q⟩
def fs_signs : FSp := fun ds μ R _ => ds = [] ∧ R (.str signsK) μ
theorem o__law_signs (g : G K mg base) : Okk prog w K mg base CX0 1 "_law_signs" [] fs_signs := by
  obtain ⟨fd, F⟩ := d__law_signs g
  refine ⟨_, fd, gl__law_signs g, F.kp, fun_ok F (C8.fnScope_by (by decide +kernel) : FnScope [] [] _) ?l (fun cdv A outer s H E Γ hcd hr => (dss_one (ds_ret de_str)))
    ?r, F.binds (fun _ _ _ _ _ _ us hl => match us, hl with | [], _ => rfl)⟩
  case l => intro ds μ R EX ⟨e, _⟩; rw [e]; rfl
  case r =>
    rintro ds μ R EX ⟨rfl, q⟩
    simp only [dSeq, dNext, dRet, dRetN, dIfS, dSet, dDrop, dAsg, dPar, dCont, dBreak, dBin, dCmp, dTest, dAnd, dOr, dNot, dAndV, dOrV, dNotV, dIf, dChain, dCB, dBM, dBM0, dCall, dC, dCons, dNil, dTup, dLst, dLstM, dStar, dYes, dNeg, dSlice, dNoPart, dPart, dgName, dVar, dIsN, dNotN, startD, List.map_cons, List.map_nil, List.cons_append, List.nil_append, List.replicate_zero, List.replicate_succ, List.length_cons, List.length_nil, Nat.sub_self, Nat.reduceSub, Nat.reduceAdd, List.getElem?_cons_zero, List.getElem?_cons_succ, List.set_cons_zero, List.set_cons_succ, Option.some.injEq, Sl.v.injEq, exists_eq_left', PyData.bool.injEq, PyData.int.injEq, PyData.str.injEq, PyData.tuple.injEq, PyData.list.injEq, snap_none, snap_bool, snap_int, snap_str, snap_list, snap_tuple]
    exact sett_now q
theorem o__law_is_int (g : G K mg base) : Okk prog w K mg base CX0 1 "_law_is_int" ["thing"] fs_is_integer := by
  obtain ⟨fd, F⟩ := d__law_is_int g
  refine ⟨_, fd, gl__law_is_int g, F.kp, fun_ok F (C8.fnScope_by (by decide +kernel) : FnScope ["thing"] ["thing"] _) ?l (fun cdv A outer s H E Γ hcd hr => (dss_one (ds_ret (de_and (de_callB call_isi calld_isi (by rfl) (b_isinstance g) PyProof.Rows.Boot.«isinstance» (da_cons (de_var 0) (da_cons (de_type (by rfl) (b_int g) PyProof.Rows.Boot.«int») da_nil))) (de_one (de_not (de_callB call_isi calld_isi (by rfl) (b_isinstance g) PyProof.Rows.Boot.«isinstance» (da_cons (de_var 0) (da_cons (de_type (by rfl) (b_bool g) PyProof.Rows.Boot.«bool») da_nil)))))))))
    ?r, F.binds (fun _ _ _ _ _ _ us hl => match us, hl with | [_], _ => rfl)⟩
  case l => intro ds μ R EX ⟨d, e, _⟩; rw [e]; rfl
  case r =>
    rintro ds μ R EX ⟨d, rfl, hd, q⟩
    simp only [dSeq, dNext, dRet, dRetN, dIfS, dSet, dDrop, dAsg, dPar, dCont, dBreak, dBin, dCmp, dTest, dAnd, dOr, dNot, dAndV, dOrV, dNotV, dIf, dChain, dCB, dBM, dBM0, dCall, dC, dCons, dNil, dTup, dLst, dLstM, dStar, dYes, dNeg, dSlice, dNoPart, dPart, dgName, dVar, dIsN, dNotN, startD, List.map_cons, List.map_nil, List.cons_append, List.nil_append, List.replicate_zero, List.replicate_succ, List.length_cons, List.length_nil, Nat.sub_self, Nat.reduceSub, Nat.reduceAdd, List.getElem?_cons_zero, List.getElem?_cons_succ, List.set_cons_zero, List.set_cons_succ, Option.some.injEq, Sl.v.injEq, exists_eq_left', PyData.bool.injEq, PyData.int.injEq, PyData.str.injEq, PyData.tuple.injEq, PyData.list.injEq, snap_none, snap_bool, snap_int, snap_str, snap_list, snap_tuple, q_isi hd (show "int" ∈ knownT by decide), q_isi hd (show "bool" ∈ knownT by decide)]
    unfold isInt at q
    cases h : isT d "int" with
    | false => simp only [h, Bool.false_and] at q; simpa using sett_now q
    | true => simp only [h, Bool.true_and] at q; simpa using sett_now q
theorem o__law_halves (g : G K mg base) : Okk prog w K mg base CX0 1 "_law_halves" ["number"] fs_two := by
  obtain ⟨fd, F⟩ := d__law_halves g
  refine ⟨_, fd, gl__law_halves g, F.kp, fun_ok F (C8.fnScope_by (by decide +kernel) : FnScope ["number"] ["number"] _) ?l (fun cdv A outer s H E Γ hcd hr => (dss_one (ds_ret (de_tup (da_cons (de_callTy call_int1 calld_int1 (by rfl) (b_int g) PyProof.Rows.Boot.«int» (da_cons (de_fdiv (de_var 0) de_int) da_nil)) (da_cons (de_mod (de_var 0) de_int) da_nil))))))
    ?r, F.binds (fun _ _ _ _ _ _ us hl => match us, hl with | [_], _ => rfl)⟩
  case l => intro ds μ R EX ⟨d, e, _⟩; rw [e]; rfl
  case r =>
    rintro ds μ R EX ⟨n, rfl, q⟩
    simp only [dSeq, dNext, dRet, dRetN, dIfS, dSet, dDrop, dAsg, dPar, dCont, dBreak, dBin, dCmp, dTest, dAnd, dOr, dNot, dAndV, dOrV, dNotV, dIf, dChain, dCB, dBM, dBM0, dCall, dC, dCons, dNil, dTup, dLst, dLstM, dStar, dYes, dNeg, dSlice, dNoPart, dPart, dgName, dVar, dIsN, dNotN, startD, List.map_cons, List.map_nil, List.cons_append, List.nil_append, List.replicate_zero, List.replicate_succ, List.length_cons, List.length_nil, Nat.sub_self, Nat.reduceSub, Nat.reduceAdd, List.getElem?_cons_zero, List.getElem?_cons_succ, List.set_cons_zero, List.set_cons_succ, Option.some.injEq, Sl.v.injEq, exists_eq_left', PyData.bool.injEq, PyData.int.injEq, PyData.str.injEq, PyData.tuple.injEq, PyData.list.injEq, snap_none, snap_bool, snap_int, snap_str, snap_list, snap_tuple, dI]
    exact ⟨⟨by decide, by decide⟩, .inl ⟨_, rfl, by decide, by decide, sett_now q⟩⟩
/-- a tuple of numbers below 256 -/
def areBytes : D → Bool
  | .tuple xs => xs.all fun x => within x 0 255
  | _ => false
def fs_are_bytes : FSp := fun ds μ R _ => ∃ d, ds = [d] ∧ NoDict d ∧ (∀ xs, d = .tuple xs → (∀ x ∈ xs, NoDict x) ∧ xs.length ≤ 1000000) ∧ R (.bool (areBytes d)) μ
theorem o_are_bytes (g : G K mg base) : Okk prog w K mg base CX0 3 "are_bytes" ["thing"] fs_are_bytes := by
  obtain ⟨fd, F⟩ := d_are_bytes g
  have nd : (["thing", "one"] : List Str).Nodup := by decide
  refine ⟨_, fd, gl_are_bytes g, F.kp, fun_ok F (C8.fnScope_by (by decide +kernel) : FnScope ["thing", "one"] ["thing"] _) ?l (fun cdv A outer s H E Γ hcd hr => (dss_one (ds_ret (de_and (de_callB call_isi calld_isi (by rfl) (b_isinstance g) PyProof.Rows.Boot.«isinstance» (da_cons (de_var 0) (da_cons (de_type (by rfl) (b_tuple g) PyProof.Rows.Boot.«tuple») da_nil))) (de_one (de_callB (cr_all rfl) calld_all (by rfl) (b_all g) PyProof.Rows.Boot.«all» (da_cons (de_lc (own := [("one", 1)]) rfl nd (di_src (de_var 0)) (by rfl) (fun s1 H1 C1 cl1 fp1 => (dc_name (i := 1) nd)) (fun s1 H1 C1 cl1 fp1 => dts_nil) (fun s1 H1 C1 cl1 fp1 => (de_callO (o_is_within g) hr (by omega) (by rfl) lx0 (da_cons (de_var 1) (da_cons de_int (da_cons (de_sub (de_globI (by rfl) (c_BASE g)) de_int) da_nil)))))) da_nil)))))))
    ?r, F.binds (fun _ _ _ _ _ _ us hl => match us, hl with | [_], _ => rfl)⟩
  case l => intro ds μ R EX ⟨d, e, _⟩; rw [e]; rfl
  case r =>
    rintro ds μ R EX ⟨d, rfl, hd, hx, q⟩
    simp only [dSeq, dNext, dRet, dRetN, dIfS, dSet, dDrop, dAsg, dPar, dCont, dBreak, dBin, dCmp, dTest, dAnd, dOr, dNot, dAndV, dOrV, dNotV, dIf, dChain, dCB, dBM, dBM0, dCall, dC, dCons, dNil, dTup, dLst, dLstM, dStar, dYes, dNeg, dSlice, dNoPart, dPart, dgName, dVar, dIsN, dNotN, startD, List.map_cons, List.map_nil, List.cons_append, List.nil_append, List.replicate_zero, List.replicate_succ, List.length_cons, List.length_nil, Nat.sub_self, Nat.reduceSub, Nat.reduceAdd, List.getElem?_cons_zero, List.getElem?_cons_succ, List.set_cons_zero, List.set_cons_succ, Option.some.injEq, Sl.v.injEq, exists_eq_left', PyData.bool.injEq, PyData.int.injEq, PyData.str.injEq, PyData.tuple.injEq, PyData.list.injEq, snap_none, snap_bool, snap_int, snap_str, snap_list, snap_tuple, q_isi hd (show "tuple" ∈ knownT by decide)]
    cases d with
    | dict kvs => exact absurd rfl (hd kvs)
    | tuple xs =>
      simp only [isT, beq_self_eq_true, if_true, dLc, diSrc, itemsD, Option.some.injEq, exists_eq_left', wipeR, dSeq, dNext, dRet, dRetN, dIfS, dSet, dDrop, dAsg, dPar, dCont, dBreak, dBin, dCmp, dTest, dAnd, dOr, dNot, dAndV, dOrV, dNotV, dIf, dChain, dCB, dBM, dBM0, dCall, dC, dCons, dNil, dTup, dLst, dLstM, dStar, dYes, dNeg, dSlice, dNoPart, dPart, dgName, dVar, dIsN, dNotN, startD, List.map_cons, List.map_nil, List.cons_append, List.nil_append, List.replicate_zero, List.replicate_succ, List.length_cons, List.length_nil, Nat.sub_self, Nat.reduceSub, Nat.reduceAdd, List.getElem?_cons_zero, List.getElem?_cons_succ, List.set_cons_zero, List.set_cons_succ, Option.some.injEq, Sl.v.injEq, exists_eq_left', PyData.bool.injEq, PyData.int.injEq, PyData.str.injEq, PyData.tuple.injEq, PyData.list.injEq, snap_none, snap_bool, snap_int, snap_str, snap_list, snap_tuple]
      obtain ⟨hx, hl⟩ := hx xs rfl
      refine lc_map (fun d => .bool (within d 0 255)) (by rw [sizeLine_eq]; omega) ?_ fun d hd acc k ha hk => ?_
      · refine q_all (bs := xs.map fun d => within d 0 255) (by rw [← boolsD_map, List.map_map]; rfl) (sett_now ?_)
        simpa [areBytes] using q
      · simp only [dSeq, dNext, dRet, dRetN, dIfS, dSet, dDrop, dAsg, dPar, dCont, dBreak, dBin, dCmp, dTest, dAnd, dOr, dNot, dAndV, dOrV, dNotV, dIf, dChain, dCB, dBM, dBM0, dCall, dC, dCons, dNil, dTup, dLst, dLstM, dStar, dYes, dNeg, dSlice, dNoPart, dPart, dgName, dVar, dIsN, dNotN, startD, List.map_cons, List.map_nil, List.cons_append, List.nil_append, List.replicate_zero, List.replicate_succ, List.length_cons, List.length_nil, Nat.sub_self, Nat.reduceSub, Nat.reduceAdd, List.getElem?_cons_zero, List.getElem?_cons_succ, List.set_cons_zero, List.set_cons_succ, Option.some.injEq, Sl.v.injEq, exists_eq_left', PyData.bool.injEq, PyData.int.injEq, PyData.str.injEq, PyData.tuple.injEq, PyData.list.injEq, snap_none, snap_bool, snap_int, snap_str, snap_list, snap_tuple, dI, fs_is_within]
        exact ⟨trivial, d, 0, _, rfl, hx d hd, ha, hk⟩
    | _ => simpa [isT] using (sett_now q : Sett R (.bool false) μ)
end
end K15
set_option Elab.async false
set_option linter.all false
set_option maxRecDepth 100000
set_option maxHeartbeats 1000000
namespace K15
open PySem PySem.Spec PyProof.Rows L2 DL
section
variable {K : PySem.W.Frag} {mg : Str → Option Value} {base : Heap} {w : World}
theorem o__law_bag (g : G K mg base) : Okk prog w K mg base CX0 1 "_law_bag" ["script"] fs_bag := by
  obtain ⟨fd, F⟩ := d__law_bag g
  have nd : (["script", "cell"] : List Str).Nodup := by decide
  refine ⟨_, fd, gl__law_bag g, F.kp, fun_ok F (C8.fnScope_by (by decide +kernel) : FnScope ["script", "cell"] ["script"] _) ?l (fun cdv A outer s H E Γ hcd hr => (dss_one (ds_ret (de_lstM (da_cons de_int (da_cons de_int (da_cons de_int (da_cons (de_lc (own := [("cell", 1)]) rfl nd (di_src (de_slice (de_var 0) do_none (do_some de_int))) (by rfl) (fun s1 H1 C1 cl1 fp1 => (dc_name (i := 1) nd)) (fun s1 H1 C1 cl1 fp1 => dts_nil) (fun s1 H1 C1 cl1 fp1 => (de_callB call_abs calld_abs (by rfl) (b_abs g) PyProof.Rows.Boot.«abs» (da_cons (de_var 1) da_nil)))) da_nil))))))))
    ?r, F.binds (fun _ _ _ _ _ _ us hl => match us, hl with | [_], _ => rfl)⟩
  case l => intro ds μ R EX ⟨d, e, _⟩; rw [e]; rfl
  case r =>
    rintro ds μ R EX ⟨ns, rfl, q⟩
    simp only [dSeq, dNext, dRet, dRetN, dIfS, dSet, dDrop, dAsg, dPar, dCont, dBreak, dBin, dCmp, dTest, dAnd, dOr, dNot, dAndV, dOrV, dNotV, dIf, dChain, dCB, dBM, dBM0, dCall, dC, dCons, dNil, dTup, dLst, dLstM, dStar, dYes, dNeg, dSlice, dNoPart, dPart, dgName, dVar, dIsN, dNotN, startD, List.map_cons, List.map_nil, List.cons_append, List.nil_append, List.replicate_zero, List.replicate_succ, List.length_cons, List.length_nil, Nat.sub_self, Nat.reduceSub, Nat.reduceAdd, List.getElem?_cons_zero, List.getElem?_cons_succ, List.set_cons_zero, List.set_cons_succ, Option.some.injEq, Sl.v.injEq, exists_eq_left', PyData.bool.injEq, PyData.int.injEq, PyData.str.injEq, PyData.tuple.injEq, PyData.list.injEq, snap_none, snap_bool, snap_int, snap_str, snap_list, snap_tuple, dLc, diSrc, dCut, dscr, itemsD, wipeR]
    rw [show (some (63 : Int)) = some ((63 : Nat) : Int) from rfl, cutL_to]
    refine lc_map (fun d => match d with | .int i => .int (if i < 0 then -i else i) | d => d) (by rw [sizeLine_eq, List.length_take]; omega) ⟨by decide, fun a ha => ?_⟩ fun d hd acc k ha hk => ?_
    · refine sett_now (q a _ ha ⟨0, 1234567891, 0, (ns.take 63).map fun i => if i < 0 then -i else i, ?_, by decide, by decide, by decide, by decide, by simp; omega, ?_⟩)
      · simp only [bagL, ← List.map_take, List.map_map]
        rfl
      · intro x hx
        obtain ⟨y, _, rfl⟩ := List.mem_map.mp hx
        split <;> omega
    · obtain ⟨i, _, rfl⟩ := List.mem_map.mp (List.mem_of_mem_take hd)
      simp only [dSeq, dNext, dRet, dRetN, dIfS, dSet, dDrop, dAsg, dPar, dCont, dBreak, dBin, dCmp, dTest, dAnd, dOr, dNot, dAndV, dOrV, dNotV, dIf, dChain, dCB, dBM, dBM0, dCall, dC, dCons, dNil, dTup, dLst, dLstM, dStar, dYes, dNeg, dSlice, dNoPart, dPart, dgName, dVar, dIsN, dNotN, startD, List.map_cons, List.map_nil, List.cons_append, List.nil_append, List.replicate_zero, List.replicate_succ, List.length_cons, List.length_nil, Nat.sub_self, Nat.reduceSub, Nat.reduceAdd, List.getElem?_cons_zero, List.getElem?_cons_succ, List.set_cons_zero, List.set_cons_succ, Option.some.injEq, Sl.v.injEq, exists_eq_left', PyData.bool.injEq, PyData.int.injEq, PyData.str.injEq, PyData.tuple.injEq, PyData.list.injEq, snap_none, snap_bool, snap_int, snap_str, snap_list, snap_tuple, dAbs]
      exact ⟨i, rfl, ha, hk⟩
theorem o__law_take (g : G K mg base) : Okk prog w K mg base CX0 1 "_law_take" ["bag", "many"] fs_take := by
  obtain ⟨fd, F⟩ := d__law_take g
  have nd : (["bag", "many", "begin", "second", "cell", "stirred", "value"] : List Str).Nodup := by decide
  refine ⟨_, fd, gl__law_take g, F.kp, fun_ok F (C8.fnScope_by (by decide +kernel) : FnScope ["bag", "many", "begin", "second", "cell", "stirred", "value"] ["bag", "many"] _) ?l (fun cdv A outer s H E Γ hcd hr => (dss_cons (ds_if (dt_eq hr (de_ix (de_var 0) de_int) de_int) (dss_cons (ds_set (i := 4) nd (de_ix (de_add (de_slice (de_ix (de_var 0) de_int) (do_some (de_ix (de_var 0) de_int)) do_none) (de_lst (da_cons de_int da_nil))) de_int))
      (dss_cons (ds_augS (de_var 0) de_int de_int ip_add opd_ipI)
      (dss_cons (ds_if (dt_ge hr (de_var 4) (de_pow de_int de_int)) (dss_one (ds_asg (de_var 4) (dg_sub (de_var 0) de_int))) dss_nil)
      (dss_cons (ds_set (i := 5) nd (de_add (de_add (de_mul (de_ix (de_var 0) de_int) de_int) (de_mod (de_callTy call_int1 calld_int1 (by rfl) (b_int g) PyProof.Rows.Boot.«int» (da_cons (de_var 4) da_nil)) de_int)) (de_mul de_int (de_ix (de_var 0) de_int))))
      (dss_one (ds_asg (de_mod (de_callTy call_int1 calld_int1 (by rfl) (b_int g) PyProof.Rows.Boot.«int» (da_cons (de_var 5) da_nil)) de_int) (dg_sub (de_var 0) de_int))))))) dss_nil)
      (dss_cons (ds_if (dt_gt hr (de_ix (de_var 0) de_int) de_int) (dss_cons (ds_set (i := 6) nd (de_mod (de_callTy call_int1 calld_int1 (by rfl) (b_int g) PyProof.Rows.Boot.«int» (da_cons (de_ix (de_var 0) de_int) da_nil)) (de_var 1)))
      (dss_cons (ds_asg (de_fdiv (de_callTy call_int1 calld_int1 (by rfl) (b_int g) PyProof.Rows.Boot.«int» (da_cons (de_ix (de_var 0) de_int) da_nil)) (de_var 1)) (dg_sub (de_var 0) de_int))
      (dss_one (ds_ret (de_var 6))))) dss_nil)
      (dss_cons (ds_set (i := 2) nd (de_mod (de_callTy call_int1 calld_int1 (by rfl) (b_int g) PyProof.Rows.Boot.«int» (da_cons (de_mul (de_add (de_ix (de_var 0) de_int) de_int) de_int) da_nil)) de_int))
      (dss_cons (ds_set (i := 3) nd (de_mod (de_callTy call_int1 calld_int1 (by rfl) (b_int g) PyProof.Rows.Boot.«int» (da_cons (de_mul (de_mod (de_callTy call_int1 calld_int1 (by rfl) (b_int g) PyProof.Rows.Boot.«int» (da_cons (de_mul (de_var 2) (de_var 2)) da_nil)) de_int) de_int) da_nil)) de_int))
      (dss_one (ds_ret (de_mod (de_callTy call_int1 calld_int1 (by rfl) (b_int g) PyProof.Rows.Boot.«int» (da_cons (de_fdiv (de_var 3) de_int) da_nil)) (de_var 1)))))))))
    ?r, F.binds (fun _ _ _ _ _ _ us hl => match us, hl with | [_, _], _ => rfl)⟩
  case l => intro ds μ R EX ⟨d, m, xs, e, _⟩; rw [e]; rfl
  case r =>
    rintro ds μ R EX ⟨a, m, xs, rfl, hm1, hm2, em, ⟨A, B, C, cs, rfl, h1, h2, h3, h4, h6, h7⟩, q⟩
    refine seq_split (fun ρ' μ' => ∃ A' B' C' c s, ρ' = [some (.v (dref a)), some (.v (.int m)), none, none, c, s, none] ∧ μ' = mset μ a (.lst (bagL A' B' C' cs)) ∧ 0 ≤ A' ∧ 0 ≤ B' ∧ B' < 2147483647 ∧ 0 ≤ C') ?_ ?_
    · rintro _ _ ⟨A', B', C', c, s, rfl, rfl, g1, g2, g3, g4⟩
      have hs := snap_mset (μ := μ) (a := a) (xs := bagL A' B' C' cs)
      simp only [dSeq, dNext, dRet, dRetN, dIfS, dSet, dDrop, dAsg, dPar, dCont, dBreak, dBin, dCmp, dTest, dAnd, dOr, dNot, dAndV, dOrV, dNotV, dIf, dChain, dCB, dBM, dBM0, dCall, dC, dCons, dNil, dTup, dLst, dLstM, dStar, dYes, dNeg, dSlice, dNoPart, dPart, dgName, dVar, dIsN, dNotN, startD, List.map_cons, List.map_nil, List.cons_append, List.nil_append, List.replicate_zero, List.replicate_succ, List.length_cons, List.length_nil, Nat.sub_self, Nat.reduceSub, Nat.reduceAdd, List.getElem?_cons_zero, List.getElem?_cons_succ, List.set_cons_zero, List.set_cons_succ, Option.some.injEq, Sl.v.injEq, exists_eq_left', PyData.bool.injEq, PyData.int.injEq, PyData.str.injEq, PyData.tuple.injEq, PyData.list.injEq, snap_none, snap_bool, snap_int, snap_str, snap_list, snap_tuple, ↓reduceIte, ixB0 hs, ixB1 hs, ltD_int, dInt1, dI]
      refine ⟨plt_int, ?_⟩
      by_cases hA : 0 < A'
      · simp only [hA, decide_true, if_true]
        refine .inl ⟨_, rfl, by omega, .inl ⟨_, rfl, ⟨by omega, by omega⟩, setB0 rfl mset_same ?_⟩⟩
        rw [mset2]
        simp only [dSeq, dNext, dRet, dRetN, dIfS, dSet, dDrop, dAsg, dPar, dCont, dBreak, dBin, dCmp, dTest, dAnd, dOr, dNot, dAndV, dOrV, dNotV, dIf, dChain, dCB, dBM, dBM0, dCall, dC, dCons, dNil, dTup, dLst, dLstM, dStar, dYes, dNeg, dSlice, dNoPart, dPart, dgName, dVar, dIsN, dNotN, startD, List.map_cons, List.map_nil, List.cons_append, List.nil_append, List.replicate_zero, List.replicate_succ, List.length_cons, List.length_nil, Nat.sub_self, Nat.reduceSub, Nat.reduceAdd, List.getElem?_cons_zero, List.getElem?_cons_succ, List.set_cons_zero, List.set_cons_succ, Option.some.injEq, Sl.v.injEq, exists_eq_left', PyData.bool.injEq, PyData.int.injEq, PyData.str.injEq, PyData.tuple.injEq, PyData.list.injEq, snap_none, snap_bool, snap_int, snap_str, snap_list, snap_tuple]
        exact sett_now (q _ _ (Int.emod_nonneg _ (by omega)) (Int.emod_lt_of_pos _ (by omega)) ⟨_, _, _, _, rfl, Int.ediv_nonneg g1 (by omega), g2, g3, g4, h6, h7⟩)
      · simp only [hA, decide_false, Bool.false_eq_true, if_false, dMul, dAdd]
        have c1 : CMul (B' + 1) 39373 := cmul_of (by omega) (by omega)
        have b1 : 0 ≤ (B' + 1) * 39373 % 1000000007 := Int.emod_nonneg _ (by decide)
        have b2 : (B' + 1) * 39373 % 1000000007 < 1000000007 := Int.emod_lt_of_pos _ (by decide)
        generalize hb : (B' + 1) * 39373 % 1000000007 = b at b1 b2
        have c2 : CMul b b := cmul_of (by omega) (by omega)
        have b3 : 0 ≤ b * b % 998244353 := Int.emod_nonneg _ (by decide)
        have b4 : b * b % 998244353 < 998244353 := Int.emod_lt_of_pos _ (by decide)
        have c3 : CMul (b * b % 998244353) 30011 := cmul_of (by omega) (by omega)
        refine ⟨c1, .inl ⟨_, rfl, by decide, ?_⟩⟩
        rw [hb]
        refine ⟨c2, .inl ⟨_, rfl, by decide, c3, .inl ⟨_, rfl, by decide, ⟨by decide, by decide⟩, .inl ⟨_, rfl, by omega, ?_⟩⟩⟩⟩
        exact sett_now (q _ _ (Int.emod_nonneg _ (by omega)) (Int.emod_lt_of_pos _ (by omega)) ⟨_, _, _, _, rfl, g1, g2, g3, g4, h6, h7⟩)
    · intro X hX
      have hs := snap_ref em
      by_cases hA : A = 0
      · subst hA
        obtain ⟨x, hx0, hx⟩ := head_cell cs C h4 h7
        simp only [dSeq, dNext, dRet, dRetN, dIfS, dSet, dDrop, dAsg, dPar, dCont, dBreak, dBin, dCmp, dTest, dAnd, dOr, dNot, dAndV, dOrV, dNotV, dIf, dChain, dCB, dBM, dBM0, dCall, dC, dCons, dNil, dTup, dLst, dLstM, dStar, dYes, dNeg, dSlice, dNoPart, dPart, dgName, dVar, dIsN, dNotN, startD, List.map_cons, List.map_nil, List.cons_append, List.nil_append, List.replicate_zero, List.replicate_succ, List.length_cons, List.length_nil, Nat.sub_self, Nat.reduceSub, Nat.reduceAdd, List.getElem?_cons_zero, List.getElem?_cons_succ, List.set_cons_zero, List.set_cons_succ, Option.some.injEq, Sl.v.injEq, exists_eq_left', PyData.bool.injEq, PyData.int.injEq, PyData.str.injEq, PyData.tuple.injEq, PyData.list.injEq, snap_none, snap_bool, snap_int, snap_str, snap_list, snap_tuple, ↓reduceIte, ixB0 hs, eqvD_int]
        simp only [decide_true, if_true, ixB3 hs, ixB2 hs, dCut, dAdd]
        refine ⟨peq_int, C, rfl, by decide, ?_, ?_⟩
        · have : (cutL (cs.map PyData.int) (some C) none).length ≤ 63 := by
            obtain ⟨k, rfl⟩ := Int.eq_ofNat_of_zero_le h4
            rw [cutL_from, List.length_drop, List.length_map]; omega
          rw [sizeLine_eq]; simp only [List.length_cons, List.length_nil]; omega
        refine ⟨_, hx, augB2 rfl em ?_⟩
        dsimp only
        have hs2 := snap_mset (μ := μ) (a := a) (xs := bagL 0 B (C + 1) cs)
        refine seq_split (fun ρ' μ' => ∃ A', 0 ≤ A' ∧ ρ' = [some (.v (dref a)), some (.v (.int m)), none, none, some (.v (.int x)), none, none] ∧ μ' = mset μ a (.lst (bagL A' B (C + 1) cs))) ?_ ?_
        · rintro _ _ ⟨A', hA', rfl, rfl⟩
          have hs3 := snap_mset (μ := μ) (a := a) (xs := bagL A' B (C + 1) cs)
          simp only [dSeq, dNext, dRet, dRetN, dIfS, dSet, dDrop, dAsg, dPar, dCont, dBreak, dBin, dCmp, dTest, dAnd, dOr, dNot, dAndV, dOrV, dNotV, dIf, dChain, dCB, dBM, dBM0, dCall, dC, dCons, dNil, dTup, dLst, dLstM, dStar, dYes, dNeg, dSlice, dNoPart, dPart, dgName, dVar, dIsN, dNotN, startD, List.map_cons, List.map_nil, List.cons_append, List.nil_append, List.replicate_zero, List.replicate_succ, List.length_cons, List.length_nil, Nat.sub_self, Nat.reduceSub, Nat.reduceAdd, List.getElem?_cons_zero, List.getElem?_cons_succ, List.set_cons_zero, List.set_cons_succ, Option.some.injEq, Sl.v.injEq, exists_eq_left', PyData.bool.injEq, PyData.int.injEq, PyData.str.injEq, PyData.tuple.injEq, PyData.list.injEq, snap_none, snap_bool, snap_int, snap_str, snap_list, snap_tuple, ixB1 hs3, ixB2 hs3, dMul, dInt1, dI, dAdd]
          refine ⟨cmul_of (by omega) (by omega), .inl ⟨_, rfl, by decide, cmul_of (by omega) (by omega), .inl ⟨_, rfl, by decide, setB1 rfl mset_same ?_⟩⟩⟩
          rw [mset2]
          exact hX _ _ ⟨_, _, _, _, _, rfl, rfl, hA', Int.emod_nonneg _ (by decide), Int.emod_lt_of_pos _ (by decide), by omega⟩
        · intro Y hY
          simp only [dSeq, dNext, dRet, dRetN, dIfS, dSet, dDrop, dAsg, dPar, dCont, dBreak, dBin, dCmp, dTest, dAnd, dOr, dNot, dAndV, dOrV, dNotV, dIf, dChain, dCB, dBM, dBM0, dCall, dC, dCons, dNil, dTup, dLst, dLstM, dStar, dYes, dNeg, dSlice, dNoPart, dPart, dgName, dVar, dIsN, dNotN, startD, List.map_cons, List.map_nil, List.cons_append, List.nil_append, List.replicate_zero, List.replicate_succ, List.length_cons, List.length_nil, Nat.sub_self, Nat.reduceSub, Nat.reduceAdd, List.getElem?_cons_zero, List.getElem?_cons_succ, List.set_cons_zero, List.set_cons_succ, Option.some.injEq, Sl.v.injEq, exists_eq_left', PyData.bool.injEq, PyData.int.injEq, PyData.str.injEq, PyData.tuple.injEq, PyData.list.injEq, snap_none, snap_bool, snap_int, snap_str, snap_list, snap_tuple, ↓reduceIte, dI, ltD_int]
          refine ⟨⟨by decide, by decide, by decide⟩, plt_int, ?_⟩
          split
          · refine setB0 rfl mset_same ?_
            rw [mset2]
            exact hY _ _ ⟨x, hx0, rfl, rfl⟩
          · exact hY _ _ ⟨0, by decide, rfl, rfl⟩
      · simp only [dSeq, dNext, dRet, dRetN, dIfS, dSet, dDrop, dAsg, dPar, dCont, dBreak, dBin, dCmp, dTest, dAnd, dOr, dNot, dAndV, dOrV, dNotV, dIf, dChain, dCB, dBM, dBM0, dCall, dC, dCons, dNil, dTup, dLst, dLstM, dStar, dYes, dNeg, dSlice, dNoPart, dPart, dgName, dVar, dIsN, dNotN, startD, List.map_cons, List.map_nil, List.cons_append, List.nil_append, List.replicate_zero, List.replicate_succ, List.length_cons, List.length_nil, Nat.sub_self, Nat.reduceSub, Nat.reduceAdd, List.getElem?_cons_zero, List.getElem?_cons_succ, List.set_cons_zero, List.set_cons_succ, Option.some.injEq, Sl.v.injEq, exists_eq_left', PyData.bool.injEq, PyData.int.injEq, PyData.str.injEq, PyData.tuple.injEq, PyData.list.injEq, snap_none, snap_bool, snap_int, snap_str, snap_list, snap_tuple, ↓reduceIte, ixB0 hs, eqvD_int]
        simp only [hA, decide_false, Bool.false_eq_true, if_false]
        exact ⟨peq_int, hX _ _ ⟨A, B, C, none, none, rfl, by rw [mset_self em], h1, h2, h3, h4⟩⟩
end
end K15
set_option Elab.async false
set_option linter.all false
set_option maxRecDepth 100000
set_option maxHeartbeats 1000000
namespace K15
open PySem PySem.Spec PyProof.Rows L2 DL
def sigs : List Nat := signsK.cps.toList
theorem sigs_len : sigs.length = 56 := by decide +kernel
theorem signsK_len : signsK.length = 56 := by decide +kernel
theorem occ_sig : ∀ c ∈ sigs, Builtin.Str.occurrences signsK ⟨#[c]⟩ 0 signsK.length 1 = [sigs.idxOf c] := by decide +kernel
theorem in_sig (c : Nat) : inD (sgn c) (.str signsK) = decide (c ∈ sigs) := PySem.StrLaws.found_one signsK c
/-- the signs' places, if all are signs -/
def idxs (l : List Nat) : Option (List Int) := if l.all (fun c => decide (c ∈ sigs)) = true then some (l.map fun c => (sigs.idxOf c : Int)) else none
mutual
def pk : D → Int → Option (List Int)
  | .int i, _ => if 0 ≤ i ∧ i ≤ 65535 then some [1, i / 256, i % 256] else none
  | .str z, _ => (idxs z.cps.toList).map fun l => 2 :: (z.length : Int) / 256 :: (z.length : Int) % 256 :: l
  | .tuple xs, k => if k = 20 then none else (pkAll xs (k + 1)).map fun l => 3 :: (xs.length : Int) / 256 :: (xs.length : Int) % 256 :: l
  | _, _ => none
def pkAll : List D → Int → Option (List Int)
  | [], _ => some []
  | x :: xs, k => match pk x k with
    | none => none
    | some l => (pkAll xs k).map (l ++ ·)
end
mutual
/-- how many bytes at most; dicts are too great -/
def sz : D → Nat
  | .str z => 3 + z.length
  | .tuple xs => 3 + szAll xs
  | .list xs => 3 + szAll xs
  | .dict _ => 100000
  | _ => 3
def szAll : List D → Nat
  | [] => 0
  | x :: xs => sz x + szAll xs
end
theorem sz_nd {d : D} (h : sz d ≤ 60000) : NoDict d := fun kvs e => by subst e; simp [sz] at h
theorem sz_pos : ∀ d : D, 3 ≤ sz d := fun d => by cases d <;> simp [sz]
theorem sz_mem {x : D} : ∀ {xs : List D}, x ∈ xs → sz x ≤ szAll xs
  | y :: ys, hm => by
    simp only [szAll]
    rcases List.mem_cons.mp hm with rfl | hm
    · omega
    · have := sz_mem hm
      omega
theorem sz_len : ∀ xs : List D, xs.length ≤ szAll xs
  | [] => Nat.le_refl _
  | y :: ys => by
    have := sz_len ys
    have := sz_pos y
    simp only [szAll, List.length_cons]
    omega
theorem idxs_len {c : List Nat} {l : List Int} (h : idxs c = some l) : l.length = c.length := by
  unfold idxs at h
  split at h
  · cases h; simp
  · cases h
mutual
theorem pk_len : ∀ (d : D) (k : Int) (l : List Int), pk d k = some l → l.length ≤ sz d
  | .int i, k, l, h => by
    simp only [pk] at h
    split at h
    · cases h; simp [sz]
    · cases h
  | .str z, k, l, h => by
    simp only [pk] at h
    cases e : idxs z.cps.toList with
    | none => rw [e] at h; cases h
    | some l2 =>
      rw [e] at h
      cases h
      have := idxs_len e
      simp [Str.length] at this
      simp only [sz, List.length_cons, Str.length]
      omega
  | .tuple xs, k, l, h => by
    simp only [pk] at h
    split at h
    · cases h
    · cases e : pkAll xs (k + 1) with
      | none => rw [e] at h; cases h
      | some l2 =>
        rw [e] at h
        cases h
        have := pkAll_len xs (k + 1) l2 e
        simp only [sz, List.length_cons]
        omega
  | .none, _, _, h => by simp [pk] at h
  | .bool _, _, _, h => by simp [pk] at h
  | .list _, _, _, h => by simp [pk] at h
  | .dict _, _, _, h => by simp [pk] at h
theorem pkAll_len : ∀ (xs : List D) (k : Int) (l : List Int), pkAll xs k = some l → l.length ≤ szAll xs
  | [], k, l, h => by cases h; simp
  | x :: xs, k, l, h => by
    simp only [pkAll] at h
    cases e : pk x k with
    | none => rw [e] at h; cases h
    | some l1 =>
      rw [e] at h
      cases e2 : pkAll xs k with
      | none => rw [e2] at h; cases h
      | some l2 =>
        rw [e2] at h
        cases h
        have := pk_len x k l1 e
        have := pkAll_len xs k l2 e2
        simp only [szAll, List.length_append]
        omega
end
theorem depth_mem {x : D} : ∀ {xs : List D}, x ∈ xs → x.depth ≤ PyData.depthAll xs
  | y :: ys, hm => by
    simp only [PyData.depthAll]
    rcases List.mem_cons.mp hm with rfl | hm
    · omega
    · have := depth_mem hm
      omega
section
variable {K : PySem.W.Frag} {mg : Str → Option Value} {base : Heap} {w : World}
def xRef (K : PySem.W.Frag) : Exc := ⟨He.ga K "Refused", [("why", .str "data")]⟩
def fs_packed_string (K : PySem.W.Frag) : FSp := fun ds μ R EX => ∃ z : Str, ds = [.str z] ∧ z.length ≤ 60000 ∧ match idxs z.cps.toList with
  | some l => R (.tuple ((2 :: (z.length : Int) / 256 :: (z.length : Int) % 256 :: l).map .int)) μ
  | none => EX (xRef K) μ
theorem o_packed_string (g : G K mg base) : Okk prog w K mg base (L2.CX prog w) 3 "packed_string" ["thing"] (fs_packed_string K) := by
  obtain ⟨fd, F⟩ := d_packed_string g
  have nd : (["thing", "sign"] : List Str).Nodup := by decide
  refine ⟨_, fd, gl_packed_string g, F.kp, fun_okX F (C8.fnScope_by (by decide +kernel) : FnScope ["thing", "sign"] ["thing"] _) ?l (fun cdv A outer s H E Γ EX hcd hr hX => have lt := lt_of hX; (dss_cons (ds_if (dt_not (dt_val (de_callB (cr_all rfl) calld_all (by rfl) (b_all g) PyProof.Rows.Boot.«all» (da_cons (de_lc (own := [("sign", 1)]) rfl nd (di_src (de_var 0)) (by rfl) (fun s1 H1 C1 cl1 fp1 => (dc_name (i := 1) nd)) (fun s1 H1 C1 cl1 fp1 => dts_nil) (fun s1 H1 C1 cl1 fp1 => (de_in hr (de_var 1) (de_globS (by rfl) (c_SIGNS g))))) da_nil)))) (dss_one (ds_raise (k := 0) (x_Refused g) (by decide) (hr.mono (by omega)) (by rfl) rfl lt (da_cons de_str da_nil))) dss_nil)
      (dss_one (ds_ret (de_tup (da_cons (de_globI (by rfl) (c_STRING g)) (da_star (de_callO (o_two g) hr (by omega) (by rfl) lx0 (da_cons (de_callB call_len calld_len (by rfl) (b_len g) PyProof.Rows.Boot.«len» (da_cons (de_var 0) da_nil)) da_nil)) (da_star (de_lc (own := [("sign", 1)]) rfl nd (di_src (de_var 0)) (by rfl) (fun s1 H1 C1 cl1 fp1 => (dc_name (i := 1) nd)) (fun s1 H1 C1 cl1 fp1 => dts_nil) (fun s1 H1 C1 cl1 fp1 => (de_bm PySem.F.plainAttrs_str PySem.F.slot_str_index PySem.F.type_str_index mt_sindex mtd_sindex (de_globS (by rfl) (c_SIGNS g)) (da_cons (de_var 1) da_nil)))) da_nil))))))))
    ?r, F.binds (fun _ _ _ _ _ _ us hl => match us, hl with | [_], _ => rfl)⟩
  case l => intro ds μ R EX ⟨d, e, _⟩; rw [e]; rfl
  case r =>
    rintro ds μ R EX ⟨z, rfl, hz, q⟩
    have hcs : z.cps.toList.length = z.length := by simp [Str.length]
    refine seq_split (fun ρ' μ' => ρ' = [some (.v (.str z)), none] ∧ μ' = μ ∧ ∀ c ∈ z.cps.toList, c ∈ sigs) ?_ ?_
    · rintro _ _ ⟨rfl, rfl, hall⟩
      have e1 : idxs z.cps.toList = some (z.cps.toList.map fun c => (sigs.idxOf c : Int)) := if_pos (List.all_eq_true.mpr fun c hc => decide_eq_true (hall c hc))
      rw [e1] at q
      simp only [dSeq, dNext, dRet, dRetN, dIfS, dSet, dDrop, dAsg, dPar, dCont, dBreak, dBin, dCmp, dTest, dAnd, dOr, dNot, dAndV, dOrV, dNotV, dIf, dChain, dCB, dBM, dBM0, dCall, dC, dCons, dNil, dTup, dLst, dLstM, dStar, dYes, dNeg, dSlice, dNoPart, dPart, dgName, dVar, dIsN, dNotN, startD, List.map_cons, List.map_nil, List.cons_append, List.nil_append, List.replicate_zero, List.replicate_succ, List.length_cons, List.length_nil, Nat.sub_self, Nat.reduceSub, Nat.reduceAdd, List.getElem?_cons_zero, List.getElem?_cons_succ, List.set_cons_zero, List.set_cons_succ, Option.some.injEq, Sl.v.injEq, exists_eq_left', PyData.bool.injEq, PyData.int.injEq, PyData.str.injEq, PyData.tuple.injEq, PyData.list.injEq, snap_none, snap_bool, snap_int, snap_str, snap_list, snap_tuple, fs_two, dLc, diSrc, itemsD, wipeR]
      have hlen : ∀ μ, lenD (snap μ (.str z)) = some z.length := fun μ => by
        rw [snap_str, lenD_str, if_pos (by rw [sizeLine_eq]; omega)]
      rw [q_len (hlen _)]
      refine ⟨_, rfl, _, .inr rfl, ?_⟩
      refine lc_map (fun d => match d with | .str x => .int (sigs.idxOf (x.cps.getD 0 0)) | d => d) (by rw [sizeLine_eq]; simp [DL.signs, hcs]; omega) ⟨_, .inl rfl, ?_, sett_now ?_⟩ fun d hd acc k ha hk => ?_
      · rw [sizeLine_eq]; simp [DL.signs, hcs]; omega
      · have e2 : (DL.signs z).map (fun d => match d with | .str x => PyData.int (sigs.idxOf (x.cps.getD 0 0)) | d => d) = (z.cps.toList.map fun c => (sigs.idxOf c : Int)).map PyData.int := by
          rw [DL.signs, List.map_map, List.map_map]
          rfl
        rw [e2]
        simpa using q
      · obtain ⟨c, hc, rfl⟩ := List.mem_map.mp hd
        simp only [dSeq, dNext, dRet, dRetN, dIfS, dSet, dDrop, dAsg, dPar, dCont, dBreak, dBin, dCmp, dTest, dAnd, dOr, dNot, dAndV, dOrV, dNotV, dIf, dChain, dCB, dBM, dBM0, dCall, dC, dCons, dNil, dTup, dLst, dLstM, dStar, dYes, dNeg, dSlice, dNoPart, dPart, dgName, dVar, dIsN, dNotN, startD, List.map_cons, List.map_nil, List.cons_append, List.nil_append, List.replicate_zero, List.replicate_succ, List.length_cons, List.length_nil, Nat.sub_self, Nat.reduceSub, Nat.reduceAdd, List.getElem?_cons_zero, List.getElem?_cons_succ, List.set_cons_zero, List.set_cons_succ, Option.some.injEq, Sl.v.injEq, exists_eq_left', PyData.bool.injEq, PyData.int.injEq, PyData.str.injEq, PyData.tuple.injEq, PyData.list.injEq, snap_none, snap_bool, snap_int, snap_str, snap_list, snap_tuple, dSindex]
        exact ⟨rfl, _, ⟨#[c]⟩, _, _, rfl, rfl, occ_sig c (hall c hc), ha, hk⟩
    · intro X hX
      simp only [dSeq, dNext, dRet, dRetN, dIfS, dSet, dDrop, dAsg, dPar, dCont, dBreak, dBin, dCmp, dTest, dAnd, dOr, dNot, dAndV, dOrV, dNotV, dIf, dChain, dCB, dBM, dBM0, dCall, dC, dCons, dNil, dTup, dLst, dLstM, dStar, dYes, dNeg, dSlice, dNoPart, dPart, dgName, dVar, dIsN, dNotN, startD, List.map_cons, List.map_nil, List.cons_append, List.nil_append, List.replicate_zero, List.replicate_succ, List.length_cons, List.length_nil, Nat.sub_self, Nat.reduceSub, Nat.reduceAdd, List.getElem?_cons_zero, List.getElem?_cons_succ, List.set_cons_zero, List.set_cons_succ, Option.some.injEq, Sl.v.injEq, exists_eq_left', PyData.bool.injEq, PyData.int.injEq, PyData.str.injEq, PyData.tuple.injEq, PyData.list.injEq, snap_none, snap_bool, snap_int, snap_str, snap_list, snap_tuple, dLc, diSrc, itemsD, wipeR, dRaise]
      refine lc_map (fun d => .bool (inD d (.str signsK))) (by rw [sizeLine_eq]; simp [DL.signs, hcs]; omega) ?_ fun d hd acc k ha hk => ?_
      · refine q_all (bs := z.cps.toList.map fun c => decide (c ∈ sigs)) ?_ ⟨_, rfl, ?_⟩
        · rw [← boolsD_map, List.map_map, DL.signs, List.map_map]
          congr 1
          exact List.map_congr_left fun c _ => congrArg PyData.bool (in_sig c)
        · by_cases h : ∀ c ∈ z.cps.toList, c ∈ sigs
          · have e : (z.cps.toList.map fun c => decide (c ∈ sigs)).all _root_.id = true := by
              rw [List.all_map]
              exact List.all_eq_true.mpr fun c hc => decide_eq_true (h c hc)
            rw [e]
            exact hX _ _ ⟨rfl, rfl, h⟩
          · have e : (z.cps.toList.map fun c => decide (c ∈ sigs)).all _root_.id = false := by
              rw [List.all_map]
              exact Bool.eq_false_iff.mpr fun z => h fun c hc => of_decide_eq_true (List.all_eq_true.mp z c hc)
            rw [e]
            have e1 : idxs z.cps.toList = none := if_neg fun z => h fun c hc => of_decide_eq_true (List.all_eq_true.mp z c hc)
            rw [e1] at q
            exact ⟨trivial, setX_now q⟩
      · obtain ⟨c, hc, rfl⟩ := List.mem_map.mp hd
        simp only [dSeq, dNext, dRet, dRetN, dIfS, dSet, dDrop, dAsg, dPar, dCont, dBreak, dBin, dCmp, dTest, dAnd, dOr, dNot, dAndV, dOrV, dNotV, dIf, dChain, dCB, dBM, dBM0, dCall, dC, dCons, dNil, dTup, dLst, dLstM, dStar, dYes, dNeg, dSlice, dNoPart, dPart, dgName, dVar, dIsN, dNotN, startD, List.map_cons, List.map_nil, List.cons_append, List.nil_append, List.replicate_zero, List.replicate_succ, List.length_cons, List.length_nil, Nat.sub_self, Nat.reduceSub, Nat.reduceAdd, List.getElem?_cons_zero, List.getElem?_cons_succ, List.set_cons_zero, List.set_cons_succ, Option.some.injEq, Sl.v.injEq, exists_eq_left', PyData.bool.injEq, PyData.int.injEq, PyData.str.injEq, PyData.tuple.injEq, PyData.list.injEq, snap_none, snap_bool, snap_int, snap_str, snap_list, snap_tuple]
        refine ⟨⟨rfl, rfl, by simp [PyData.depth, sgn], .inl ⟨_, _, rfl, rfl⟩⟩, ha, hk⟩
/-- a def of which nothing is asked -/
theorem ok_never {CX : CXT} {x : Str} {f : Addr} {fd : FuncData} {ps : List Str} {k : Nat} {fs : FSp} (hm : mg x = some (.ref f)) (kp : PySem.W.keepIn K (.ref f) = true) (hb : Binds K fd ps []) (h : ∀ ds μ R EX, ¬ fs ds μ R EX) : Okk prog w K mg base CX k x ps fs :=
  ⟨f, fd, hm, kp, ⟨fun vs H Q E ⟨_, _, _, ds, _, _, _, _, q, _⟩ => (h _ _ _ _ q).elim, fun A outer s H args us vs Q E _ _ _ _ ⟨_, _, _, ds, _, _, _, _, q, _⟩ => (h _ _ _ _ q).elim⟩, hb⟩
def fs_at (K : PySem.W.Frag) (n : Nat) : FSp := fun ds μ R EX => ∃ d k, ds = [d, .int k] ∧ sz d ≤ 60000 ∧ d.depth < n ∧ 0 ≤ k ∧ k ≤ 20 ∧ match pk d k with
  | some l => R (.tuple (l.map .int)) μ
  | none => EX (xRef K) μ
theorem o_packed_at (g : G K mg base) : ∀ n, Okk prog w K mg base (L2.CX prog w) (n + 4) "packed_at" ["thing", "deep"] (fs_at K n)
  | 0 => by
    obtain ⟨fd, F⟩ := d_packed_at g
    exact ok_never (gl_packed_at g) F.kp (F.binds (fun _ _ _ _ _ _ us hl => match us, hl with | [_, _], _ => rfl)) fun ds μ R EX ⟨d, k, _, _, h, _⟩ => absurd h (by omega)
  | n + 1 => by
    have ih := o_packed_at g n
    obtain ⟨fd, F⟩ := d_packed_at g
    have nd : (["thing", "deep", "found", "one"] : List Str).Nodup := by decide
    refine ⟨_, fd, gl_packed_at g, F.kp, fun_okX (k := n + 4) F (C8.fnScope_by (by decide +kernel) : FnScope ["thing", "deep", "found", "one"] ["thing", "deep"] _) ?l (fun cdv A outer s H E Γ EX hcd hr hX => have lt := lt_of hX; (dss_cons (ds_if (dt_val (de_callO (o_is_within g) hr (by omega) (by rfl) lx0 (da_cons (de_var 0) (da_cons de_int (da_cons (de_globI (by rfl) (c_MOST g)) da_nil))))) (dss_one (ds_ret (de_tup (da_cons (de_globI (by rfl) (c_NUMBER g)) (da_star (de_callO (o_two g) hr (by omega) (by rfl) lx0 (da_cons (de_var 0) da_nil)) da_nil))))) dss_nil)
      (dss_cons (ds_if (dw_or (dw_and (dt_not (dt_val (de_callO (o_is_string g) hr (by omega) (by rfl) lx0 (da_cons (de_var 0) da_nil)))) (dw_and1 (dt_not (dt_val (de_callB call_isi calld_isi (by rfl) (b_isinstance g) PyProof.Rows.Boot.«isinstance» (da_cons (de_var 0) (da_cons (de_type (by rfl) (b_tuple g) PyProof.Rows.Boot.«tuple») da_nil))))))).dt (dw_or1 (dt_gt hr (de_callB call_len calld_len (by rfl) (b_len g) PyProof.Rows.Boot.«len» (da_cons (de_var 0) da_nil)) (de_globI (by rfl) (c_MOST g))))).dt (dss_one (ds_raise (k := 0) (x_Refused g) (by decide) (hr.mono (by omega)) (by rfl) rfl lt (da_cons de_str da_nil))) dss_nil)
      (dss_cons (ds_if (dt_val (de_callO (o_is_string g) hr (by omega) (by rfl) lx0 (da_cons (de_var 0) da_nil))) (dss_one (ds_ret (de_callO (o_packed_string g) hr (by omega) (by rfl) lt.lx (da_cons (de_var 0) da_nil)))) dss_nil)
      (dss_cons (ds_if (dt_eq hr (de_var 1) (de_globI (by rfl) (c_DEEPEST g))) (dss_one (ds_raise (k := 0) (x_Refused g) (by decide) (hr.mono (by omega)) (by rfl) rfl lt (da_cons de_str da_nil))) dss_nil)
      (dss_cons (ds_set (i := 2) nd (de_lstM (da_cons (de_globI (by rfl) (c_ROW g)) (da_star (de_callO (o_two g) hr (by omega) (by rfl) lx0 (da_cons (de_callB call_len calld_len (by rfl) (b_len g) PyProof.Rows.Boot.«len» (da_cons (de_var 0) da_nil)) da_nil)) da_nil))))
      (dss_cons (ds_for (passes_of rfl) rfl (di_src (de_var 0)) (dg_name (i := 3) nd) (dss_one (ds_expr (de_bm PySem.F.plainAttrs_list PySem.F.slot_list_extend PySem.F.type_list_extend mt_extendA mtd_extend (de_var 2) (da_cons (de_callO (ih) hr (by omega) (by rfl) lt.lx (da_cons (de_var 3) (da_cons (de_add (de_var 1) de_int) da_nil))) da_nil)))))
      (dss_one (ds_ret (de_callTy call_tuple_of calld_tupOf (by rfl) (b_tuple g) PyProof.Rows.Boot.«tuple» (da_cons (de_var 2) da_nil)))))))))))
      ?r, F.binds (fun _ _ _ _ _ _ us hl => match us, hl with | [_, _], _ => rfl)⟩
    case l => intro ds μ R EX ⟨d, k, e, _⟩; rw [e]; rfl
    case r =>
      rintro ds μ R EX ⟨d, k, rfl, hs, hdp, hk0, hk20, q⟩
      have hnd := sz_nd hs
      simp only [dSeq, dNext, dRet, dRetN, dIfS, dSet, dDrop, dAsg, dPar, dCont, dBreak, dBin, dCmp, dTest, dAnd, dOr, dNot, dAndV, dOrV, dNotV, dIf, dChain, dCB, dBM, dBM0, dCall, dC, dCons, dNil, dTup, dLst, dLstM, dStar, dYes, dNeg, dSlice, dNoPart, dPart, dgName, dVar, dIsN, dNotN, startD, List.map_cons, List.map_nil, List.cons_append, List.nil_append, List.replicate_zero, List.replicate_succ, List.length_cons, List.length_nil, Nat.sub_self, Nat.reduceSub, Nat.reduceAdd, List.getElem?_cons_zero, List.getElem?_cons_succ, List.set_cons_zero, List.set_cons_succ, Option.some.injEq, Sl.v.injEq, exists_eq_left', PyData.bool.injEq, PyData.int.injEq, PyData.str.injEq, PyData.tuple.injEq, PyData.list.injEq, snap_none, snap_bool, snap_int, snap_str, snap_list, snap_tuple, fs_is_within, fs_is_string, q_isi hnd (show "tuple" ∈ knownT by decide), dLc, diSrc, itemsD, wipeR, dRaise, fs_two, ↓reduceIte]
      refine ⟨d, 0, 65535, rfl, hnd, ?_⟩
      have hno : ∀ (x : Bool) (hw : within d 0 65535 = false) (h1 : isT d "str" = false) (h2 : isT d "tuple" = false), pk d k = none := fun x hw h1 h2 => by
        cases d with
        | int i =>
          unfold pk
          rw [if_neg]
          intro z
          simp only [within, Bool.and_eq_false_iff, decide_eq_false_iff_not] at hw
          omega
        | str z => simp [isT] at h1
        | tuple z => simp [isT] at h2
        | _ => rfl
      by_cases hw : within d 0 65535 = true
      · rw [if_pos hw]
        cases d with
        | int i =>
          have hi : 0 ≤ i ∧ i ≤ 65535 := by simpa [within] using hw
          rw [pk, if_pos hi] at q
          refine ⟨i, rfl, _, .inr rfl, by rw [sizeLine_eq]; simp, sett_now ?_⟩
          simpa using q
        | _ => simp [within] at hw
      · rw [if_neg hw]
        refine ⟨d, rfl, hnd, ?_⟩
        have hw' : within d 0 65535 = false := by simpa using hw
        cases h1 : isT d "str" with
        | true =>
          simp only [Bool.not_true, Bool.false_eq_true, if_false]
          cases d with
          | str z =>
            have hz : z.length ≤ 60000 := by simp only [sz] at hs; omega
            have hl : lenD (snap μ (.str z)) = some z.length := by rw [snap_str, lenD_str, if_pos (by rw [sizeLine_eq]; omega)]
            simp only [q_len hl, snap_int, ltD_int, fs_packed_string, ↓reduceIte]
            refine ⟨plt_int, ?_⟩
            rw [if_neg (by simp; omega)]
            refine ⟨_, rfl, hnd, z, rfl, hz, ?_⟩
            simp only [pk] at q
            cases e : idxs z.cps.toList with
            | none => rw [e] at q; exact setX_now q
            | some l => rw [e] at q; exact sett_now q
          | _ => simp [isT] at h1
        | false =>
          simp only [Bool.not_false, if_true]
          cases h2 : isT d "tuple" with
          | false =>
            simp only [Bool.not_false, if_true]
            rw [hno true hw' h1 h2] at q
            exact ⟨trivial, setX_now q⟩
          | true =>
            simp only [Bool.not_true, Bool.false_eq_true, if_false]
            cases d with
            | tuple xs =>
              simp only [sz] at hs
              have hxl := sz_len xs
              have hl : ∀ μ, lenD (snap μ (.tuple xs)) = some xs.length := fun μ => by rw [snap_tuple, lenD_tuple]
              simp only [q_len (hl _), snap_int, ltD_int]
              refine ⟨plt_int, ?_⟩
              rw [if_neg (by simp; omega)]
              refine ⟨_, rfl, hnd, ?_⟩
              simp only [isT, Bool.false_eq_true, if_false]
              refine ⟨peq_int, ?_⟩
              simp only [eqvD_int, decide_eq_true_eq]
              simp only [pk] at q
              by_cases hk : k = 20
              · rw [if_pos hk] at q ⊢
                exact ⟨trivial, setX_now q⟩
              · rw [if_neg hk] at q ⊢
                refine ⟨_, rfl, _, .inr rfl, by rw [sizeLine_eq]; simp, fun a ha => ?_⟩
                simp only [dFor, diSrc, dSeq, dNext, dRet, dRetN, dIfS, dSet, dDrop, dAsg, dPar, dCont, dBreak, dBin, dCmp, dTest, dAnd, dOr, dNot, dAndV, dOrV, dNotV, dIf, dChain, dCB, dBM, dBM0, dCall, dC, dCons, dNil, dTup, dLst, dLstM, dStar, dYes, dNeg, dSlice, dNoPart, dPart, dgName, dVar, dIsN, dNotN, startD, List.map_cons, List.map_nil, List.cons_append, List.nil_append, List.replicate_zero, List.replicate_succ, List.length_cons, List.length_nil, Nat.sub_self, Nat.reduceSub, Nat.reduceAdd, List.getElem?_cons_zero, List.getElem?_cons_succ, List.set_cons_zero, List.set_cons_succ, Option.some.injEq, Sl.v.injEq, exists_eq_left', PyData.bool.injEq, PyData.int.injEq, PyData.str.injEq, PyData.tuple.injEq, PyData.list.injEq, snap_none, snap_bool, snap_int, snap_str, snap_list, snap_tuple, itemsD]
                refine forL_ind (fun rest ρ' μ' => ∃ acc c, ρ' = [some (.v (.tuple xs)), some (.v (.int k)), some (.v (dref a)), c] ∧ μ' = mset μ a (.lst (acc.map .int)) ∧ acc.length + szAll rest ≤ 60000 ∧ PyData.depthAll rest < n ∧
                  match (pkAll rest (k + 1)).map (acc ++ ·) with
                  | some l => R (.tuple (l.map .int)) μ
                  | none => EX (xRef K) μ) ?_ ?_ xs _ _ ⟨[3, (xs.length : Int) / 256, (xs.length : Int) % 256], none, rfl, by simp, by simpa using hs, ?_, ?_⟩
                · rintro _ _ ⟨acc, c, rfl, rfl, _, _, q⟩
                  simp only [pkAll, Option.map_some, List.append_nil] at q
                  simp only [dTupOf, dSeq, dNext, dRet, dRetN, dIfS, dSet, dDrop, dAsg, dPar, dCont, dBreak, dBin, dCmp, dTest, dAnd, dOr, dNot, dAndV, dOrV, dNotV, dIf, dChain, dCB, dBM, dBM0, dCall, dC, dCons, dNil, dTup, dLst, dLstM, dStar, dYes, dNeg, dSlice, dNoPart, dPart, dgName, dVar, dIsN, dNotN, startD, List.map_cons, List.map_nil, List.cons_append, List.nil_append, List.replicate_zero, List.replicate_succ, List.length_cons, List.length_nil, Nat.sub_self, Nat.reduceSub, Nat.reduceAdd, List.getElem?_cons_zero, List.getElem?_cons_succ, List.set_cons_zero, List.set_cons_succ, Option.some.injEq, Sl.v.injEq, exists_eq_left', PyData.bool.injEq, PyData.int.injEq, PyData.str.injEq, PyData.tuple.injEq, PyData.list.injEq, snap_none, snap_bool, snap_int, snap_str, snap_list, snap_tuple]
                  refine ⟨_, _, rfl, .inl snap_mset, ?_⟩
                  exact sett_sub (sub_mset ha) q
                · rintro d rest _ _ ⟨acc, c, rfl, rfl, hsm, hdep, q⟩ ih2
                  simp only [szAll] at hsm
                  simp only [PyData.depthAll] at hdep
                  simp only [dSeq, dNext, dRet, dRetN, dIfS, dSet, dDrop, dAsg, dPar, dCont, dBreak, dBin, dCmp, dTest, dAnd, dOr, dNot, dAndV, dOrV, dNotV, dIf, dChain, dCB, dBM, dBM0, dCall, dC, dCons, dNil, dTup, dLst, dLstM, dStar, dYes, dNeg, dSlice, dNoPart, dPart, dgName, dVar, dIsN, dNotN, startD, List.map_cons, List.map_nil, List.cons_append, List.nil_append, List.replicate_zero, List.replicate_succ, List.length_cons, List.length_nil, Nat.sub_self, Nat.reduceSub, Nat.reduceAdd, List.getElem?_cons_zero, List.getElem?_cons_succ, List.set_cons_zero, List.set_cons_succ, Option.some.injEq, Sl.v.injEq, exists_eq_left', PyData.bool.injEq, PyData.int.injEq, PyData.str.injEq, PyData.tuple.injEq, PyData.list.injEq, snap_none, snap_bool, snap_int, snap_str, snap_list, snap_tuple, dAdd, fs_at]
                  refine ⟨by simp only [tyM, snap_mset], d, k + 1, rfl, by omega, by omega, by omega, by omega, ?_⟩
                  simp only [pkAll] at q
                  cases e : pk d (k + 1) with
                  | none => rw [e] at q; exact ⟨_, sub_mset ha, q⟩
                  | some l =>
                    rw [e] at q
                    dsimp only at q ⊢
                    have hl2 := pk_len d (k + 1) l e
                    refine ⟨a, _, l.map .int, rfl, mset_same, .inl ⟨rfl, trivial⟩, by rw [sizeLine_eq]; simp only [List.length_map]; omega, ?_⟩
                    rw [mset_mset, ← List.map_append]
                    refine ih2 _ _ ⟨acc ++ l, _, rfl, rfl, by simp only [List.length_append]; omega, by omega, ?_⟩
                    cases e2 : pkAll rest (k + 1) with
                    | none => rw [e2] at q; exact q
                    | some l2 => rw [e2] at q; simpa using q
                · simp only [PyData.depth] at hdp; omega
                · cases e : pkAll xs (k + 1) with
                  | none => rw [e] at q; exact q
                  | some l => rw [e] at q; simpa using q
            | _ => simp [isT] at h2
def fs_packed (K : PySem.W.Frag) : FSp := fun ds μ R EX => ∃ d, ds = [d] ∧ sz d ≤ 60000 ∧ d.depth < 40 ∧ match pk d 0 with
  | some l => R (.tuple (l.map .int)) μ
  | none => EX (xRef K) μ
theorem o_packed (g : G K mg base) : Okk prog w K mg base (L2.CX prog w) 45 "packed" ["thing"] (fs_packed K) := by
  obtain ⟨fd, F⟩ := d_packed g
  have o_packed_at := fun g : G K mg base => o_packed_at (w := w) g 40
  refine ⟨_, fd, gl_packed g, F.kp, fun_okX F (C8.fnScope_by (by decide +kernel) : FnScope ["thing"] ["thing"] _) ?l (fun cdv A outer s H E Γ EX hcd hr hX => have lt := lt_of hX; (dss_one (ds_ret (de_callO (o_packed_at g) hr (by omega) (by rfl) lt.lx (da_cons (de_var 0) (da_cons de_int da_nil))))))
    ?r, F.binds (fun _ _ _ _ _ _ us hl => match us, hl with | [_], _ => rfl)⟩
  case l => intro ds μ R EX ⟨d, e, _⟩; rw [e]; rfl
  case r =>
    rintro ds μ R EX ⟨d, rfl, hs, hd, q⟩
    simp only [dSeq, dNext, dRet, dRetN, dIfS, dSet, dDrop, dAsg, dPar, dCont, dBreak, dBin, dCmp, dTest, dAnd, dOr, dNot, dAndV, dOrV, dNotV, dIf, dChain, dCB, dBM, dBM0, dCall, dC, dCons, dNil, dTup, dLst, dLstM, dStar, dYes, dNeg, dSlice, dNoPart, dPart, dgName, dVar, dIsN, dNotN, startD, List.map_cons, List.map_nil, List.cons_append, List.nil_append, List.replicate_zero, List.replicate_succ, List.length_cons, List.length_nil, Nat.sub_self, Nat.reduceSub, Nat.reduceAdd, List.getElem?_cons_zero, List.getElem?_cons_succ, List.set_cons_zero, List.set_cons_succ, Option.some.injEq, Sl.v.injEq, exists_eq_left', PyData.bool.injEq, PyData.int.injEq, PyData.str.injEq, PyData.tuple.injEq, PyData.list.injEq, snap_none, snap_bool, snap_int, snap_str, snap_list, snap_tuple, fs_at]
    refine ⟨d, 0, rfl, hs, hd, by decide, by decide, ?_⟩
    cases e : pk d 0 with
    | none => rw [e] at q; exact setX_now q
    | some l => rw [e] at q; exact sett_now q
end
end K15
set_option Elab.async false
set_option linter.all false
set_option maxRecDepth 100000
namespace K15
open PySem PySem.Spec PyProof.Rows L2 DL
structure BsOk (bs : List Int) : Prop where
  len : bs.length ≤ 1000000
  rng : ∀ b ∈ bs, 0 ≤ b ∧ b ≤ 255
abbrev PErr := Nat × Str
def pByte (bs : List Int) (p : Nat) : Except PErr (Int × Nat) := match bs[p]? with
  | some b => .ok (b, p + 1)
  | none => .error (bs.length, "end")
def pNum (bs : List Int) (p : Nat) : Except PErr (Int × Nat) := match pByte bs p with
  | .error e => .error e
  | .ok (h, p1) => match pByte bs p1 with
    | .error e => .error e
    | .ok (l, p2) => .ok (h * 256 + l, p2)
def pSign (bs : List Int) (p : Nat) : Except PErr (Nat × Nat) := match pByte bs p with
  | .error e => .error e
  | .ok (b, p1) => if 56 ≤ b then .error (p, "sign") else .ok (sigs.getD b.toNat 0, p1)
def mapR {ε α β σ : Type} (f : α → β) : Except ε (α × σ) → Except ε (β × σ)
  | .ok (a, s) => .ok (f a, s)
  | .error e => .error e
def pThF (bs : List Int) (go : Option (Nat → Except PErr (D × Nat))) (p : Nat) : Except PErr (D × Nat) := match pByte bs p with
  | .error e => .error e
  | .ok (w, p1) =>
    if w = 1 then mapR PyData.int (pNum bs p1)
    else if w = 2 then match pNum bs p1 with
      | .error e => .error e
      | .ok (m, p2) => mapR (fun l => PyData.str ⟨l.toArray⟩) (rep (pSign bs) m.toNat p2)
    else if w = 3 then match go with
      | none => .error (p, "deep")
      | some f => match pNum bs p1 with
        | .error e => .error e
        | .ok (m, p2) => mapR PyData.tuple (rep f m.toNat p2)
    else .error (p, "word")
/-- data, n levels deep at most -/
def pTh (bs : List Int) : Nat → Nat → Except PErr (D × Nat)
  | 0 => pThF bs none
  | n + 1 => pThF bs (some (pTh bs n))
theorem rep_len {ε α σ : Type} {f : σ → Except ε (α × σ)} : ∀ {n : Nat} {s s' : σ} {l : List α}, rep f n s = .ok (l, s') → l.length = n
  | 0, s, s', l, h => by cases h; rfl
  | n + 1, s, s', l, h => by
    simp only [rep] at h
    split at h
    · cases h
    · split at h
      · cases h
      · rename_i e
        cases h
        simp [rep_len e]
section
variable {bs : List Int}
theorem drop_at {p : Nat} {b : Int} (h : bs[p]? = some b) : bs.drop p = b :: bs.drop (p + 1) := by
  obtain ⟨hl, e⟩ := List.getElem?_eq_some_iff.mp h
  rw [← e]
  exact List.drop_eq_getElem_cons hl
theorem at_drop {p : Nat} {b : Int} {r : List Int} (h : bs.drop p = b :: r) : bs[p]? = some b ∧ bs.drop (p + 1) = r := by
  have h1 : bs[p]? = some b := by
    have : (bs.drop p)[0]? = some b := by rw [h]; rfl
    simpa using this
  refine ⟨h1, ?_⟩
  rw [drop_at h1] at h
  exact (List.cons.inj h).2
theorem pByte_ok {p p' : Nat} {b : Int} (h : pByte bs p = .ok (b, p')) : p' = p + 1 ∧ bs.drop p = b :: bs.drop p' ∧ p' ≤ bs.length ∧ b ∈ bs := by
  unfold pByte at h
  split at h
  · rename_i b' e
    cases h
    exact ⟨rfl, drop_at e, (List.getElem?_eq_some_iff.mp e).1, List.mem_of_getElem? e⟩
  · cases h
theorem pByte_of {p : Nat} {b : Int} {r : List Int} (h : bs.drop p = b :: r) : pByte bs p = .ok (b, p + 1) ∧ bs.drop (p + 1) = r := by
  obtain ⟨h1, h2⟩ := at_drop h
  refine ⟨?_, h2⟩
  unfold pByte
  rw [h1]
theorem pNum_ok (B : BsOk bs) {p p' : Nat} {m : Int} (h : pNum bs p = .ok (m, p')) : p' = p + 2 ∧ bs.drop p = m / 256 :: m % 256 :: bs.drop p' ∧ p' ≤ bs.length ∧ 0 ≤ m ∧ m ≤ 65535 := by
  unfold pNum at h
  split at h
  · cases h
  · rename_i hb p1 e1
    split at h
    · cases h
    · rename_i lb p2 e2
      cases h
      obtain ⟨a1, a2, a3, a4⟩ := pByte_ok e1
      obtain ⟨b1, b2, b3, b4⟩ := pByte_ok e2
      have r1 := B.rng _ a4
      have r2 := B.rng _ b4
      have q1 : (hb * 256 + lb) / 256 = hb := by omega
      have q2 : (hb * 256 + lb) % 256 = lb := by omega
      exact ⟨by omega, by rw [q1, q2, a2, b2], b3, by omega, by omega⟩
theorem pNum_of {p : Nat} {m : Int} {r : List Int} (h : bs.drop p = m / 256 :: m % 256 :: r) : pNum bs p = .ok (m, p + 2) ∧ bs.drop (p + 2) = r := by
  obtain ⟨e1, h1⟩ := pByte_of h
  obtain ⟨e2, h2⟩ := pByte_of h1
  refine ⟨?_, h2⟩
  unfold pNum
  rw [e1]
  dsimp only
  rw [e2]
  have : m / 256 * 256 + m % 256 = m := by omega
  dsimp only
  rw [this]
theorem sig_back : ∀ b < 56, sigs.getD b 0 ∈ sigs ∧ sigs.idxOf (sigs.getD b 0) = b := by decide +kernel
theorem sig_there : ∀ c ∈ sigs, sigs.idxOf c < 56 ∧ sigs.getD (sigs.idxOf c) 0 = c := by decide +kernel
theorem idxs_cons {c : Nat} {l : List Nat} : idxs (c :: l) = if c ∈ sigs then (idxs l).map ((sigs.idxOf c : Int) :: ·) else none := by
  unfold idxs
  by_cases h : c ∈ sigs
  · by_cases h2 : (l.all fun c => decide (c ∈ sigs)) = true
    · simp [h, h2]
    · simp [h, h2]
  · simp [h]
theorem signs_ok (B : BsOk bs) : ∀ {n p p' : Nat} {l : List Nat}, rep (pSign bs) n p = .ok (l, p') → p ≤ bs.length → ∃ k, idxs l = some k ∧ bs.drop p = k ++ bs.drop p' ∧ p' ≤ bs.length
  | 0, p, p', l, h, hp => by cases h; exact ⟨[], by rfl, rfl, hp⟩
  | n + 1, p, p', l, h, hp => by
    simp only [rep] at h
    split at h
    · cases h
    · rename_i c p1 e1
      split at h
      · cases h
      · rename_i l2 p2 e2
        cases h
        unfold pSign at e1
        split at e1
        · cases e1
        · rename_i b p3 e3
          split at e1
          · cases e1
          · rename_i hb
            cases e1
            obtain ⟨a1, a2, a3, a4⟩ := pByte_ok e3
            have r1 := B.rng _ a4
            obtain ⟨k, k1, k2, k3⟩ := signs_ok B e2 a3
            obtain ⟨s1, s2⟩ := sig_back b.toNat (by omega)
            refine ⟨b :: k, ?_, by rw [a2, k2]; rfl, k3⟩
            rw [idxs_cons, if_pos s1, k1, s2]
            simp only [Option.map_some]
            congr 2
            omega
theorem signs_of : ∀ {l : List Nat} {p : Nat} {k r : List Int}, idxs l = some k → bs.drop p = k ++ r → rep (pSign bs) l.length p = .ok (l, p + l.length) ∧ bs.drop (p + l.length) = r
  | [], p, k, r, h, hd => by
    have : k = [] := by simpa [idxs] using h.symm
    subst this
    exact ⟨rfl, hd⟩
  | c :: l, p, k, r, h, hd => by
    rw [idxs_cons] at h
    split at h
    · rename_i hc
      cases e : idxs l with
      | none => rw [e] at h; cases h
      | some k2 =>
        rw [e] at h
        cases h
        obtain ⟨e1, h1⟩ := pByte_of hd
        obtain ⟨i1, i2⟩ := sig_there c hc
        obtain ⟨j1, j2⟩ := signs_of e h1
        have es : pSign bs p = .ok (c, p + 1) := by
          unfold pSign
          rw [e1]
          dsimp only
          rw [if_neg (by omega), Int.toNat_natCast, i2]
        refine ⟨?_, ?_⟩
        · simp only [List.length_cons, rep, es, j1]
          congr 2
          omega
        · rw [← j2, List.length_cons]
          congr 1
          omega
    · cases h
/-- what is read is packed as it was -/
theorem read_ok (B : BsOk bs) : ∀ (n : Nat), n ≤ 20 → ∀ {p p' : Nat} {d : D}, pTh bs n p = .ok (d, p') → p ≤ bs.length → ∃ l, pk d (20 - n) = some l ∧ bs.drop p = l ++ bs.drop p' ∧ p' ≤ bs.length := by
  have core : ∀ (n : Nat) (go : Option (Nat → Except PErr (D × Nat))), (∀ f, go = some f → 0 < n ∧ ∀ {p p' : Nat} {d : D}, f p = .ok (d, p') → p ≤ bs.length → ∃ l, pk d (20 - (n - 1)) = some l ∧ bs.drop p = l ++ bs.drop p' ∧ p' ≤ bs.length) → n ≤ 20 →
      ∀ {p p' : Nat} {d : D}, pThF bs go p = .ok (d, p') → p ≤ bs.length → ∃ l, pk d (20 - n) = some l ∧ bs.drop p = l ++ bs.drop p' ∧ p' ≤ bs.length := by
    intro n go hgo hn p p' d h hp
    unfold pThF at h
    split at h
    · cases h
    · rename_i w p1 e1
      obtain ⟨a1, a2, a3, a4⟩ := pByte_ok e1
      split at h
      · rename_i hw
        subst hw
        cases e2 : pNum bs p1 with
        | error e => rw [e2] at h; cases h
        | ok z =>
          obtain ⟨m, p2⟩ := z
          rw [e2] at h
          cases h
          obtain ⟨b1, b2, b3, b4, b5⟩ := pNum_ok B e2
          refine ⟨[1, m / 256, m % 256], ?_, by rw [a2, b2]; rfl, b3⟩
          unfold pk
          rw [if_pos ⟨b4, b5⟩]
      · split at h
        · rename_i hw
          subst hw
          split at h
          · cases h
          · rename_i m p2 e2
            obtain ⟨b1, b2, b3, b4, b5⟩ := pNum_ok B e2
            cases e3 : rep (pSign bs) m.toNat p2 with
            | error e => rw [e3] at h; cases h
            | ok z =>
              obtain ⟨l, p3⟩ := z
              rw [e3] at h
              cases h
              obtain ⟨k, k1, k2, k3⟩ := signs_ok B e3 b3
              have hl := rep_len e3
              refine ⟨2 :: m / 256 :: m % 256 :: k, ?_, by rw [a2, b2, k2]; rfl, k3⟩
              unfold pk
              simp only [k1, Option.map_some, Str.length, List.size_toArray, hl]
              rw [Int.toNat_of_nonneg b4]
        · split at h
          · rename_i hw
            subst hw
            split at h
            · cases h
            · rename_i f
              obtain ⟨g0, g1⟩ := hgo _ rfl
              split at h
              · cases h
              · rename_i m p2 e2
                obtain ⟨b1, b2, b3, b4, b5⟩ := pNum_ok B e2
                cases e3 : rep f m.toNat p2 with
                | error e => rw [e3] at h; cases h
                | ok z =>
                  obtain ⟨l, p3⟩ := z
                  rw [e3] at h
                  cases h
                  have hl := rep_len e3
                  have all : ∀ {j p p' : Nat} {l : List D}, rep f j p = .ok (l, p') → p ≤ bs.length → ∃ k, pkAll l (20 - (n - 1)) = some k ∧ bs.drop p = k ++ bs.drop p' ∧ p' ≤ bs.length := by
                    intro j
                    induction j with
                    | zero => intro p p' l h hp; cases h; exact ⟨[], by simp only [pkAll], rfl, hp⟩
                    | succ j ih =>
                      intro p p' l h hp
                      simp only [rep] at h
                      split at h
                      · cases h
                      · rename_i d1 p1 e1
                        split at h
                        · cases h
                        · rename_i l2 p2 e2
                          cases h
                          obtain ⟨k1, x1, x2, x3⟩ := g1 e1 hp
                          obtain ⟨k2, y1, y2, y3⟩ := ih e2 x3
                          refine ⟨k1 ++ k2, ?_, by rw [x2, y2, List.append_assoc], y3⟩
                          simp only [pkAll, x1, y1, Option.map_some]
                  obtain ⟨k, k1, k2, k3⟩ := all e3 b3
                  refine ⟨3 :: m / 256 :: m % 256 :: k, ?_, by rw [a2, b2, k2]; rfl, k3⟩
                  unfold pk
                  have e5 : (20 : Int) - (n : Int) + 1 = 20 - ((n : Int) - 1) := by omega
                  have e6 : ((l.length : Nat) : Int) = m := by rw [hl, Int.toNat_of_nonneg b4]
                  rw [if_neg (by omega), e5, k1, e6]
                  rfl
          · cases h
  intro n
  induction n with
  | zero => exact fun hn {p p' d} h hp => core 0 none (fun f e => nomatch e) hn h hp
  | succ n ih => exact fun hn {p p' d} h hp => core (n + 1) (some (pTh bs n)) (fun f e => by
      cases e
      refine ⟨by omega, fun {p p' d} h hp => ?_⟩
      have := ih (by omega) h hp
      rwa [show ((n + 1 : Nat) : Int) - 1 = n by omega]) hn h hp
/-- what is packed is read as it was -/
theorem read_of : ∀ (n : Nat), n ≤ 20 → ∀ {d : D} {p : Nat} {l r : List Int}, pk d (20 - n) = some l → bs.drop p = l ++ r → pTh bs n p = .ok (d, p + l.length) ∧ bs.drop (p + l.length) = r := by
  have core : ∀ (n : Nat) (go : Option (Nat → Except PErr (D × Nat))), (0 < n → ∃ f, go = some f ∧ ∀ {d : D} {p : Nat} {l r : List Int}, pk d (20 - (n - 1)) = some l → bs.drop p = l ++ r → f p = .ok (d, p + l.length) ∧ bs.drop (p + l.length) = r) → n ≤ 20 →
      ∀ {d : D} {p : Nat} {l r : List Int}, pk d (20 - n) = some l → bs.drop p = l ++ r → pThF bs go p = .ok (d, p + l.length) ∧ bs.drop (p + l.length) = r := by
    intro n go hgo hn d p l r h hd
    cases d with
    | int i =>
      unfold pk at h
      split at h
      · cases h
        obtain ⟨e1, h1⟩ := pByte_of hd
        obtain ⟨e2, h2⟩ := pNum_of h1
        refine ⟨?_, by simpa using h2⟩
        unfold pThF
        rw [e1]
        dsimp only
        rw [if_pos rfl, e2]
        rfl
      · cases h
    | str z =>
      unfold pk at h
      cases e : idxs z.cps.toList with
      | none => rw [e] at h; cases h
      | some k =>
        rw [e] at h
        cases h
        obtain ⟨e1, h1⟩ := pByte_of hd
        obtain ⟨e2, h2⟩ := pNum_of h1
        obtain ⟨e3, h3⟩ := signs_of e h2
        have hk : z.cps.toList.length = k.length := by
          unfold idxs at e
          split at e
          · cases e; simp
          · cases e
        have hz : z.length = z.cps.toList.length := by simp [Str.length]
        refine ⟨?_, ?_⟩
        · unfold pThF
          rw [e1]
          dsimp only
          rw [if_neg (by decide), if_pos rfl, e2]
          dsimp only
          rw [Int.toNat_natCast, hz, e3]
          simp only [mapR, List.length_cons]
          rw [hk]
          congr 2
          omega
        · rw [← h3, hk]
          congr 1
          simp only [List.length_cons]
          omega
    | tuple xs =>
      unfold pk at h
      split at h
      · cases h
      · rename_i hn0
        obtain ⟨f, rfl, hf⟩ := hgo (by omega)
        cases e : pkAll xs (20 - (n : Int) + 1) with
        | none => rw [e] at h; cases h
        | some k =>
          rw [e] at h
          cases h
          rw [show (20 : Int) - (n : Int) + 1 = 20 - ((n : Int) - 1) by omega] at e
          obtain ⟨e1, h1⟩ := pByte_of hd
          obtain ⟨e2, h2⟩ := pNum_of h1
          have all : ∀ {xs : List D} {p : Nat} {k r : List Int}, pkAll xs (20 - ((n : Int) - 1)) = some k → bs.drop p = k ++ r → rep f xs.length p = .ok (xs, p + k.length) ∧ bs.drop (p + k.length) = r := by
            intro xs
            induction xs with
            | nil =>
              intro p k r h hd
              simp only [pkAll, Option.some.injEq] at h
              subst h
              exact ⟨rfl, hd⟩
            | cons x xs ih =>
              intro p k r h hd
              simp only [pkAll] at h
              cases e1 : pk x (20 - ((n : Int) - 1)) with
              | none => rw [e1] at h; cases h
              | some k1 =>
                rw [e1] at h
                cases e2 : pkAll xs (20 - ((n : Int) - 1)) with
                | none => rw [e2] at h; cases h
                | some k2 =>
                  rw [e2] at h
                  cases h
                  rw [List.append_assoc] at hd
                  obtain ⟨x1, x2⟩ := hf e1 hd
                  obtain ⟨y1, y2⟩ := ih e2 x2
                  simp only [List.length_cons, rep, x1, y1, List.length_append]
                  exact ⟨by congr 2; omega, by rw [← y2]; congr 1; omega⟩
          obtain ⟨e3, h3⟩ := all e h2
          refine ⟨?_, ?_⟩
          · unfold pThF
            rw [e1]
            dsimp only
            rw [if_neg (by decide), if_neg (by decide), if_pos rfl, e2]
            dsimp only
            rw [Int.toNat_natCast, e3]
            simp only [mapR, List.length_cons]
            congr 2
            omega
          · rw [← h3]
            congr 1
            simp only [List.length_cons]
            omega
    | none => simp [pk] at h
    | bool b => simp [pk] at h
    | list b => simp [pk] at h
    | dict b => simp [pk] at h
  intro n
  induction n with
  | zero => exact fun hn {d p l r} h hd => core 0 none (fun h => absurd h (by decide)) hn h hd
  | succ n ih => exact fun hn {d p l r} h hd => core (n + 1) (some (pTh bs n)) (fun _ => ⟨_, rfl, fun {d p l r} h hd => ih (by omega) (by rwa [show (20 : Int) - (((n + 1 : Nat) : Int) - 1) = 20 - n by omega] at h) hd⟩) hn h hd
def todo (bs : List Int) : List Int → Nat → Except PErr Nat
  | [], p => .ok p
  | m :: rest, p => match rep (pTh bs (20 - rest.length)) m.toNat p with
    | .error e => .error e
    | .ok (_, p1) => todo bs rest p1
theorem todo_zero {rest : List Int} {p : Nat} : todo bs (0 :: rest) p = todo bs rest p := rfl
theorem todo_step {m : Int} {rest : List Int} {p : Nat} (h : 0 < m) : todo bs (m :: rest) p = match pTh bs (20 - rest.length) p with
    | .error e => .error e
    | .ok (_, p1) => todo bs ((m - 1) :: rest) p1 := by
  obtain ⟨k, rfl⟩ : ∃ k : Nat, m = (k + 1 : Nat) := ⟨(m - 1).toNat, by omega⟩
  have e : ((k + 1 : Nat) : Int) - 1 = (k : Nat) := by omega
  rw [e]
  simp only [todo, Int.toNat_natCast, rep]
  cases pTh bs (20 - rest.length) p with
  | error e => rfl
  | ok z =>
    obtain ⟨d, p1⟩ := z
    dsimp only
    cases rep (pTh bs (20 - rest.length)) k p1 with
    | error e => rfl
    | ok z => rfl
def faultOf (bs : List Int) : Option PErr := match todo bs [1] 0 with
  | .error e => some e
  | .ok p => if p = bs.length then none else some (p, "more")
theorem fault_read : faultOf bs = match pTh bs 20 0 with
    | .error e => some e
    | .ok (_, p) => if p = bs.length then none else some (p, "more") := by
  unfold faultOf
  rw [todo_step (by decide)]
  simp only [List.length_nil, Nat.sub_zero]
  cases pTh bs 20 0 with
  | error e => rfl
  | ok z => rfl
end
end K15
set_option Elab.async false
set_option linter.all false
set_option maxRecDepth 100000
set_option maxHeartbeats 1000000
namespace K15
open PySem PySem.Spec PyProof.Rows L2 DL
section
variable {K : PySem.W.Frag} {mg : Str → Option Value} {base : Heap} {w : World}
/-- bytes that are read, up to a place -/
def bytM (K : PySem.W.Frag) (bs : List Int) (p : Nat) : M := .ins (He.ga K "Bytes") [("its_some", .tuple (bs.map .int)), ("its_place", .int p)]
def xBad (K : PySem.W.Frag) (p : Nat) (f : Str) : Exc := ⟨He.ga K "BadBytes", [("fault", .str f), ("at", .int p)]⟩
/-- a reading method -/
def fsP {α : Type} (K : PySem.W.Frag) (val : α → D) (f : List Int → Nat → Except PErr (α × Nat)) : FSp := fun ds μ R EX => ∃ a bs p, ds = [dref a] ∧ μ a = some (bytM K bs p) ∧ BsOk bs ∧ p ≤ bs.length ∧
  toldR (f bs p) (fun x p' => R (val x) (mset μ a (bytM K bs p'))) fun e => ∀ p', EX (xBad K e.1 e.2) (mset μ a (bytM K bs p'))
theorem q_self {a C : Addr} {fs : List (Str × D)} {v : D} {f : Str} {OK : Addr → Prop} {r : Rho} {μ : Mem} {Q : DQ} (em : μ a = some (.ins C fs)) (ok : OK C) (hl : fs.lookup f = some v) : dFld (dVar 0) f OK (some (.v (dref a)) :: r) μ Q = Q v μ :=
  propext ⟨fun ⟨d, e, a', C', fs', v', e1, e2, e3, e4, q⟩ => by
    have e : dref a = d := by simpa using e
    subst e
    obtain rfl := dref_inj e1
    rw [em] at e2
    cases e2
    rw [hl] at e4
    cases e4
    exact q, fun q => ⟨_, rfl, a, C, fs, v, rfl, em, ok, hl, q⟩⟩
theorem q_some {a : Addr} {bs : List Int} {p : Nat} {r : Rho} {μ : Mem} {Q : DQ} (em : μ a = some (bytM K bs p)) : dFld (dVar 0) "its_some" (fun C => C = He.ga K "Bytes") (some (.v (dref a)) :: r) μ Q = Q (.tuple (bs.map .int)) μ := q_self em rfl rfl
theorem q_place {a : Addr} {bs : List Int} {p : Nat} {r : Rho} {μ : Mem} {Q : DQ} (em : μ a = some (bytM K bs p)) : dFld (dVar 0) "its_place" (fun C => C = He.ga K "Bytes") (some (.v (dref a)) :: r) μ Q = Q (.int p) μ := q_self em rfl rfl
def fs_place (K : PySem.W.Frag) : FSp := fun ds μ R _ => ∃ a bs p, ds = [dref a] ∧ μ a = some (bytM K bs p) ∧ R (.int (p : Nat)) μ
theorem m_place (g : G K mg base) : OkM prog w K mg base CX0 1 (He.ga K "Bytes") "place" ["self"] (fs_place K) := by
  obtain ⟨fd, F⟩ := dm_place g
  refine ⟨_, fd, mt_place g, fun_ok F (C8.fnScope_by (by decide +kernel) : FnScope ["self"] ["self"] _) ?l (fun cdv A outer s H E Γ hcd hr => (dss_one (ds_ret (de_fld (de_var 0) (ok_its_place g)))))
    ?r, F.binds (fun _ _ _ _ _ _ us hl => match us, hl with | [_], _ => rfl)⟩
  case l => intro ds μ R EX ⟨_, _, _, e, _⟩; rw [e]; rfl
  case r =>
    rintro ds μ R EX ⟨a, bs, p, rfl, em, q⟩
    simp only [dSeq, dNext, dRet, dRetN, dIfS, dSet, dDrop, dAsg, dPar, dCont, dBreak, dBin, dCmp, dTest, dAnd, dOr, dNot, dAndV, dOrV, dNotV, dIf, dChain, dCB, dBM, dBM0, dCall, dC, dCons, dNil, dTup, dLst, dLstM, dStar, dYes, dNeg, dSlice, dNoPart, dPart, dgName, dVar, dIsN, dNotN, startD, List.map_cons, List.map_nil, List.cons_append, List.nil_append, List.replicate_zero, List.replicate_succ, List.length_cons, List.length_nil, Nat.sub_self, Nat.reduceSub, Nat.reduceAdd, List.getElem?_cons_zero, List.getElem?_cons_succ, List.set_cons_zero, List.set_cons_succ, Option.some.injEq, Sl.v.injEq, exists_eq_left', PyData.bool.injEq, PyData.int.injEq, PyData.str.injEq, PyData.tuple.injEq, PyData.list.injEq, snap_none, snap_bool, snap_int, snap_str, snap_list, snap_tuple, q_place em]
    exact sett_now q
theorem m_byte (g : G K mg base) : OkM prog w K mg base (L2.CX prog w) 3 (He.ga K "Bytes") "byte" ["self"] (fsP K .int pByte) := by
  obtain ⟨fd, F⟩ := dm_byte g
  refine ⟨_, fd, mt_byte g, fun_okX F (C8.fnScope_by (by decide +kernel) : FnScope ["self"] ["self"] _) ?l (fun cdv A outer s H E Γ EX hcd hr hX => have lt := lt_of hX; (dss_cons (ds_if (dt_eq hr (de_fld (de_var 0) (ok_its_place g)) (de_callB call_len calld_len (by rfl) (b_len g) PyProof.Rows.Boot.«len» (da_cons (de_fld (de_var 0) (ok_its_some g)) da_nil))) (dss_one (ds_raise (k := 0) (x_BadBytes g) (by decide) (hr.mono (by omega)) (by rfl) rfl lt (da_cons (de_fld (de_var 0) (ok_its_place g)) (da_cons de_str da_nil)))) dss_nil)
      (dss_cons (ds_augF (de_var 0) de_int in_add opd_inI (ok_its_place g))
      (dss_one (ds_ret (de_ix (de_fld (de_var 0) (ok_its_some g)) (de_sub (de_fld (de_var 0) (ok_its_place g)) de_int)))))))
    ?r, F.binds (fun _ _ _ _ _ _ us hl => match us, hl with | [_], _ => rfl)⟩
  case l => intro ds μ R EX ⟨_, _, _, e, _⟩; rw [e]; rfl
  case r =>
    rintro ds μ R EX ⟨a, bs, p, rfl, em, B, hp, q⟩
    have hl : ∀ μ, lenD (snap μ (.tuple (bs.map .int))) = some bs.length := fun μ => by rw [snap_tuple, lenD_tuple, List.length_map]
    simp only [dSeq, dNext, dRet, dRetN, dIfS, dSet, dDrop, dAsg, dPar, dCont, dBreak, dBin, dCmp, dTest, dAnd, dOr, dNot, dAndV, dOrV, dNotV, dIf, dChain, dCB, dBM, dBM0, dCall, dC, dCons, dNil, dTup, dLst, dLstM, dStar, dYes, dNeg, dSlice, dNoPart, dPart, dgName, dVar, dIsN, dNotN, startD, List.map_cons, List.map_nil, List.cons_append, List.nil_append, List.replicate_zero, List.replicate_succ, List.length_cons, List.length_nil, Nat.sub_self, Nat.reduceSub, Nat.reduceAdd, List.getElem?_cons_zero, List.getElem?_cons_succ, List.set_cons_zero, List.set_cons_succ, Option.some.injEq, Sl.v.injEq, exists_eq_left', PyData.bool.injEq, PyData.int.injEq, PyData.str.injEq, PyData.tuple.injEq, PyData.list.injEq, snap_none, snap_bool, snap_int, snap_str, snap_list, snap_tuple, q_place em, q_some em, q_len (hl _), eqvD_int, dRaise]
    refine ⟨peq_int, ?_⟩
    by_cases h : p = bs.length
    · rw [if_pos (by simp [h])]
      refine ⟨trivial, setX_now ?_⟩
      unfold pByte at q
      rw [List.getElem?_eq_none (by omega)] at q
      have := q p
      rw [mset_self em] at this
      rw [h]
      exact this
    · rw [if_neg (by simp; omega)]
      have hlt : p < bs.length := by omega
      unfold pByte at q
      rw [List.getElem?_eq_getElem hlt] at q
      refine ⟨_, rfl, a, _, _, _, rfl, em, rfl, rfl, ⟨trivial, _, em, by simp, ?_⟩⟩
      have em2 : mset μ a (bytM K bs (p + 1)) a = some (bytM K bs (p + 1)) := mset_same
      have e1 : M.ins (He.ga K "Bytes") (putD "its_place" (.int ((fun i j => i + j) (p : Int) 1)) [("its_some", .tuple (bs.map .int)), ("its_place", .int p)]) = bytM K bs (p + 1) := by
        unfold bytM putD
        rw [if_neg (by decide)]
        unfold putD
        rw [if_pos (by decide)]
        simp
      rw [e1]
      simp only [dSeq, dNext, dRet, dRetN, dIfS, dSet, dDrop, dAsg, dPar, dCont, dBreak, dBin, dCmp, dTest, dAnd, dOr, dNot, dAndV, dOrV, dNotV, dIf, dChain, dCB, dBM, dBM0, dCall, dC, dCons, dNil, dTup, dLst, dLstM, dStar, dYes, dNeg, dSlice, dNoPart, dPart, dgName, dVar, dIsN, dNotN, startD, List.map_cons, List.map_nil, List.cons_append, List.nil_append, List.replicate_zero, List.replicate_succ, List.length_cons, List.length_nil, Nat.sub_self, Nat.reduceSub, Nat.reduceAdd, List.getElem?_cons_zero, List.getElem?_cons_succ, List.set_cons_zero, List.set_cons_succ, Option.some.injEq, Sl.v.injEq, exists_eq_left', PyData.bool.injEq, PyData.int.injEq, PyData.str.injEq, PyData.tuple.injEq, PyData.list.injEq, snap_none, snap_bool, snap_int, snap_str, snap_list, snap_tuple, q_place em2, q_some em2, dI, dIx]
      refine ⟨trivial, .int bs[p], ?_, sett_now q⟩
      have e2 : ((p + 1 : Nat) : Int) - 1 = (p : Nat) := by omega
      rw [e2]
      unfold L2.atI L2.ixN
      rw [if_pos (by omega), if_pos (by rw [List.length_map]; omega)]
      simp [hlt]
/-- a method called on the bytes in slot 0 -/
theorem q_meth0 {α : Type} {val : α → D} {f : List Int → Nat → Except PErr (α × Nat)} {m : Str} {EX : Exc → Rho → Mem → Prop} {a : Addr} {bs : List Int} {p : Nat} {r : Rho} {μ : Mem} {Q : DQ} (em : μ a = some (bytM K bs p)) (B : BsOk bs) (hp : p ≤ bs.length) (hm : ([("its_some", .tuple (bs.map .int)), ("its_place", .int p)] : List (Str × D)).lookup m = none)
    (q : toldR (f bs p) (fun x p' => Q (val x) (mset μ a (bytM K bs p'))) fun e => ∀ p', EX (xBad K e.1 e.2) (some (.v (dref a)) :: r) (mset μ a (bytM K bs p'))) :
    dMeth (He.ga K "Bytes") m (fsP K val f) EX (dVar 0) dNil (some (.v (dref a)) :: r) μ Q := ⟨_, rfl, a, _, rfl, em, hm, a, bs, p, rfl, em, B, hp, q⟩
theorem toldR_imp {ε α σ : Type} {r : Except ε (α × σ)} {P P' : α → σ → Prop} {E E' : ε → Prop} (h : toldR r P E) (h1 : ∀ a s, r = .ok (a, s) → P a s → P' a s) (h2 : ∀ e, r = .error e → E e → E' e) : toldR r P' E' := by
  cases e : r with
  | error x => rw [e] at h; exact h2 x e h
  | ok z => rw [e] at h; exact h1 z.1 z.2 e h
theorem m_number (g : G K mg base) : OkM prog w K mg base (L2.CX prog w) 4 (He.ga K "Bytes") "number" ["self"] (fsP K .int pNum) := by
  obtain ⟨fd, F⟩ := dm_number g
  have nd : (["self", "high"] : List Str).Nodup := by decide
  refine ⟨_, fd, mt_number g, fun_okX F (C8.fnScope_by (by decide +kernel) : FnScope ["self", "high"] ["self"] _) ?l (fun cdv A outer s H E Γ EX hcd hr hX => have lt := lt_of hX; (dss_cons (ds_set (i := 1) nd (de_methO0 (de_var 0) (cls_Bytes g) (m_byte g) hr (by omega) lt.lx))
      (dss_one (ds_ret (de_add (de_mul (de_var 1) (de_globI (by rfl) (c_BASE g))) (de_methO0 (de_var 0) (cls_Bytes g) (m_byte g) hr (by omega) lt.lx))))))
    ?r, F.binds (fun _ _ _ _ _ _ us hl => match us, hl with | [_], _ => rfl)⟩
  case l => intro ds μ R EX ⟨_, _, _, e, _⟩; rw [e]; rfl
  case r =>
    rintro ds μ R EX ⟨a, bs, p, rfl, em, B, hp, q⟩
    unfold pNum at q
    simp only [dSeq, dNext, dRet, dRetN, dIfS, dSet, dDrop, dAsg, dPar, dCont, dBreak, dBin, dCmp, dTest, dAnd, dOr, dNot, dAndV, dOrV, dNotV, dIf, dChain, dCB, dBM, dBM0, dCall, dC, dCons, dNil, dTup, dLst, dLstM, dStar, dYes, dNeg, dSlice, dNoPart, dPart, dgName, dVar, dIsN, dNotN, startD, List.map_cons, List.map_nil, List.cons_append, List.nil_append, List.replicate_zero, List.replicate_succ, List.length_cons, List.length_nil, Nat.sub_self, Nat.reduceSub, Nat.reduceAdd, List.getElem?_cons_zero, List.getElem?_cons_succ, List.set_cons_zero, List.set_cons_succ, Option.some.injEq, Sl.v.injEq, exists_eq_left', PyData.bool.injEq, PyData.int.injEq, PyData.str.injEq, PyData.tuple.injEq, PyData.list.injEq, snap_none, snap_bool, snap_int, snap_str, snap_list, snap_tuple]
    refine q_meth0 (val := PyData.int) (m := "byte") em B hp (by rfl) ?_
    cases e1 : pByte bs p with
    | error e =>
      rw [e1] at q
      exact fun p' => setX_now (q p')
    | ok z =>
      obtain ⟨h, p1⟩ := z
      rw [e1] at q
      obtain ⟨_, _, hp1, hb1⟩ := pByte_ok e1
      have r1 := B.rng _ hb1
      have em1 : mset μ a (bytM K bs p1) a = some (bytM K bs p1) := mset_same
      dsimp only at q
      simp only [toldR, dMul]
      refine ⟨cmul_of (by omega) (by omega), ?_⟩
      refine q_meth0 (val := PyData.int) (m := "byte") em1 B hp1 (by rfl) ?_
      simp only [mset_mset, dAdd]
      cases e2 : pByte bs p1 with
      | error e =>
        rw [e2] at q
        exact fun p' => setX_now (q p')
      | ok z =>
        rw [e2] at q
        exact sett_now q
theorem m_sign (g : G K mg base) : OkM prog w K mg base (L2.CX prog w) 4 (He.ga K "Bytes") "sign" ["self"] (fsP K sgn pSign) := by
  obtain ⟨fd, F⟩ := dm_sign g
  have nd : (["self", "byte"] : List Str).Nodup := by decide
  refine ⟨_, fd, mt_sign g, fun_okX F (C8.fnScope_by (by decide +kernel) : FnScope ["self", "byte"] ["self"] _) ?l (fun cdv A outer s H E Γ EX hcd hr hX => have lt := lt_of hX; (dss_cons (ds_set (i := 1) nd (de_methO0 (de_var 0) (cls_Bytes g) (m_byte g) hr (by omega) lt.lx))
      (dss_cons (ds_if (dt_ge hr (de_var 1) (de_callB call_len calld_len (by rfl) (b_len g) PyProof.Rows.Boot.«len» (da_cons (de_globS (by rfl) (c_SIGNS g)) da_nil))) (dss_one (ds_raise (k := 0) (x_BadBytes g) (by decide) (hr.mono (by omega)) (by rfl) rfl lt (da_cons (de_sub (de_fld (de_var 0) (ok_its_place g)) de_int) (da_cons de_str da_nil)))) dss_nil)
      (dss_one (ds_ret (de_ix (de_globS (by rfl) (c_SIGNS g)) (de_var 1)))))))
    ?r, F.binds (fun _ _ _ _ _ _ us hl => match us, hl with | [_], _ => rfl)⟩
  case l => intro ds μ R EX ⟨_, _, _, e, _⟩; rw [e]; rfl
  case r =>
    rintro ds μ R EX ⟨a, bs, p, rfl, em, B, hp, q⟩
    unfold pSign at q
    simp only [dSeq, dNext, dRet, dRetN, dIfS, dSet, dDrop, dAsg, dPar, dCont, dBreak, dBin, dCmp, dTest, dAnd, dOr, dNot, dAndV, dOrV, dNotV, dIf, dChain, dCB, dBM, dBM0, dCall, dC, dCons, dNil, dTup, dLst, dLstM, dStar, dYes, dNeg, dSlice, dNoPart, dPart, dgName, dVar, dIsN, dNotN, startD, List.map_cons, List.map_nil, List.cons_append, List.nil_append, List.replicate_zero, List.replicate_succ, List.length_cons, List.length_nil, Nat.sub_self, Nat.reduceSub, Nat.reduceAdd, List.getElem?_cons_zero, List.getElem?_cons_succ, List.set_cons_zero, List.set_cons_succ, Option.some.injEq, Sl.v.injEq, exists_eq_left', PyData.bool.injEq, PyData.int.injEq, PyData.str.injEq, PyData.tuple.injEq, PyData.list.injEq, snap_none, snap_bool, snap_int, snap_str, snap_list, snap_tuple]
    refine q_meth0 (val := PyData.int) (m := "byte") em B hp (by rfl) ?_
    cases e1 : pByte bs p with
    | error e =>
      rw [e1] at q
      exact fun p' => setX_now (q p')
    | ok z =>
      obtain ⟨b, p1⟩ := z
      rw [e1] at q
      obtain ⟨hpp, _, hp1, hb1⟩ := pByte_ok e1
      have r1 := B.rng _ hb1
      have em1 : mset μ a (bytM K bs p1) a = some (bytM K bs p1) := mset_same
      have hl : ∀ μ, lenD (snap μ (.str signsK)) = some 56 := fun μ => by rw [snap_str, lenD_str, signsK_len, if_pos (by rw [sizeLine_eq]; omega)]
      dsimp only at q
      simp only [toldR, snap_int, q_len (hl _), ltD_int, dRaise, q_place em1, dI]
      refine ⟨plt_int, ?_⟩
      by_cases h : b < 56
      · rw [if_neg (by simpa using h)]
        rw [if_neg (by omega)] at q
        have e3 : signsK.cps.toList = sigs := rfl
        simp only [dIx, dSeq, dNext, dRet, dRetN, dIfS, dSet, dDrop, dAsg, dPar, dCont, dBreak, dBin, dCmp, dTest, dAnd, dOr, dNot, dAndV, dOrV, dNotV, dIf, dChain, dCB, dBM, dBM0, dCall, dC, dCons, dNil, dTup, dLst, dLstM, dStar, dYes, dNeg, dSlice, dNoPart, dPart, dgName, dVar, dIsN, dNotN, startD, List.map_cons, List.map_nil, List.cons_append, List.nil_append, List.replicate_zero, List.replicate_succ, List.length_cons, List.length_nil, Nat.sub_self, Nat.reduceSub, Nat.reduceAdd, List.getElem?_cons_zero, List.getElem?_cons_succ, List.set_cons_zero, List.set_cons_succ, Option.some.injEq, Sl.v.injEq, exists_eq_left', PyData.bool.injEq, PyData.int.injEq, PyData.str.injEq, PyData.tuple.injEq, PyData.list.injEq, snap_none, snap_bool, snap_int, snap_str, snap_list, snap_tuple, e3]
        have hlt : b.toNat < sigs.length := by rw [sigs_len]; omega
        refine ⟨by rw [signsK_len, sizeLine_eq]; omega, sigs.getD b.toNat 0, ?_, sett_now q⟩
        unfold L2.atI L2.ixN
        rw [if_pos (by omega), if_pos (by omega)]
        simp [hlt]
      · rw [if_pos (by simpa using h)]
        rw [if_pos (by omega)] at q
        simp only [dSeq, dNext, dRet, dRetN, dIfS, dSet, dDrop, dAsg, dPar, dCont, dBreak, dBin, dCmp, dTest, dAnd, dOr, dNot, dAndV, dOrV, dNotV, dIf, dChain, dCB, dBM, dBM0, dCall, dC, dCons, dNil, dTup, dLst, dLstM, dStar, dYes, dNeg, dSlice, dNoPart, dPart, dgName, dVar, dIsN, dNotN, startD, List.map_cons, List.map_nil, List.cons_append, List.nil_append, List.replicate_zero, List.replicate_succ, List.length_cons, List.length_nil, Nat.sub_self, Nat.reduceSub, Nat.reduceAdd, List.getElem?_cons_zero, List.getElem?_cons_succ, List.set_cons_zero, List.set_cons_succ, Option.some.injEq, Sl.v.injEq, exists_eq_left', PyData.bool.injEq, PyData.int.injEq, PyData.str.injEq, PyData.tuple.injEq, PyData.list.injEq, snap_none, snap_bool, snap_int, snap_str, snap_list, snap_tuple, ltD_int, eqvD_int, dRaise, dRaise0, told_ok, told_er, dLc, dLcX, diSrc, items_str, items_tup, items_lst, wipeR, DL.strip, diRange1, diRange2, dgTup, dgCons, dgNil, List.cons.injEq, and_true, true_and, forall_eq_apply_imp_iff, exists_eq_left, ↓reduceIte, Bool.not_true, Bool.not_false, Bool.false_eq_true, if_true, if_false, q_place em1, dI]
        refine setX_now ?_
        have := q p1
        rw [show ((p1 : Int) - 1) = (p : Nat) by omega]
        exact this
def fs_init (K : PySem.W.Frag) : FSp := fun ds μ R _ => ∃ a bs, ds = [dref a, .tuple bs] ∧ μ a = some (.ins (He.ga K "Bytes") []) ∧ R .none (mset μ a (.ins (He.ga K "Bytes") [("its_some", .tuple bs), ("its_place", .int 0)]))
theorem mkk_Bytes (g : G K mg base) : OkC prog w K mg base 1 "Bytes" (He.ga K "Bytes") ["self", "some"] (fs_init K) := by
  obtain ⟨fd, F⟩ := dm___init__ g
  refine ⟨_, fd, gl_Bytes g, mk_Bytes g, fun_ok F (C8.fnScope_by (by decide +kernel) : FnScope ["self", "some"] ["self", "some"] _) ?l (fun cdv A outer s H E Γ hcd hr => (dss_one (ds_asg (de_tup (da_cons (de_var 1) (da_cons de_int da_nil))) (dg_tup (n := 2) rfl (dgs_cons (dg_fld (de_var 0) (ok_its_some g)) (dgs_cons (dg_fld (de_var 0) (ok_its_place g)) dgs_nil))))))
    ?r, F.binds (fun _ _ _ _ _ _ us hl => match us, hl with | [_, _], _ => rfl)⟩
  case l => intro ds μ R EX ⟨_, _, e, _⟩; rw [e]; rfl
  case r =>
    rintro ds μ R EX ⟨a, bs, rfl, em, q⟩
    simp only [dSeq, dNext, dRet, dRetN, dIfS, dSet, dDrop, dAsg, dPar, dCont, dBreak, dBin, dCmp, dTest, dAnd, dOr, dNot, dAndV, dOrV, dNotV, dIf, dChain, dCB, dBM, dBM0, dCall, dC, dCons, dNil, dTup, dLst, dLstM, dStar, dYes, dNeg, dSlice, dNoPart, dPart, dgName, dVar, dIsN, dNotN, startD, List.map_cons, List.map_nil, List.cons_append, List.nil_append, List.replicate_zero, List.replicate_succ, List.length_cons, List.length_nil, Nat.sub_self, Nat.reduceSub, Nat.reduceAdd, List.getElem?_cons_zero, List.getElem?_cons_succ, List.set_cons_zero, List.set_cons_succ, Option.some.injEq, Sl.v.injEq, exists_eq_left', PyData.bool.injEq, PyData.int.injEq, PyData.str.injEq, PyData.tuple.injEq, PyData.list.injEq, snap_none, snap_bool, snap_int, snap_str, snap_list, snap_tuple, dgTup, dgCons, dgNil, dgFld]
    refine ⟨by decide, trivial, _, _, rfl, a, _, _, rfl, em, rfl, by simp, _, _, rfl, a, _, _, rfl, mset_same, rfl, by simp [putD], rfl, ?_⟩
    rw [mset_mset]
    exact sett_now q
end
end K15
set_option Elab.async false
set_option linter.all false
set_option maxRecDepth 100000
set_option maxHeartbeats 1000000
namespace K15
open PySem PySem.Spec PyProof.Rows L2 DL
section
variable {K : PySem.W.Frag} {mg : Str → Option Value} {base : Heap} {w : World}
def fsT (K : PySem.W.Frag) (k : Int) (f : List Int → Nat → Except PErr (D × Nat)) : FSp := fun ds μ R EX => ∃ a bs p, ds = [dref a, .int k] ∧ μ a = some (bytM K bs p) ∧ BsOk bs ∧ p ≤ bs.length ∧
  toldR (f bs p) (fun x p' => R x (mset μ a (bytM K bs p'))) fun e => ∀ p', EX (xBad K e.1 e.2) (mset μ a (bytM K bs p'))
theorem okM_never {CX : CXT} {m : Str} {C f : Addr} {fd : FuncData} {ps : List Str} {k : Nat} {fs : FSp} (hm : Meth K C m f) (hb : Binds K fd ps []) (h : ∀ ds μ R EX, ¬ fs ds μ R EX) : OkM prog w K mg base CX k C m ps fs :=
  ⟨f, fd, hm, ⟨fun vs H Q E ⟨_, _, _, ds, _, _, _, _, q, _⟩ => (h _ _ _ _ q).elim, fun A outer s H args us vs Q E _ _ _ _ ⟨_, _, _, ds, _, _, _, _, q, _⟩ => (h _ _ _ _ q).elim⟩, hb⟩
theorem joinL_ones : ∀ l : List Nat, TL.joinL [] (l.map fun c => [c]) = l
  | [] => rfl
  | [_] => rfl
  | a :: b :: l => by
    show [a] ++ ([] ++ TL.joinL [] ((b :: l).map fun c => [c])) = a :: b :: l
    rw [joinL_ones (b :: l)]
    rfl
theorem join_signs (l : List Nat) : Txt.join ("" : Str) (l.map fun c => (⟨#[c]⟩ : Str)) = ⟨l.toArray⟩ := by
  refine ext_toList ?_
  show TL.tl (Builtin.Str.glued _ _) = l
  rw [StrLaws.glued_eq_join, TL.tl_join, List.map_map]
  exact joinL_ones l
theorem sum_ones (l : List Nat) : ((l.map fun c => (⟨#[c]⟩ : Str)).map (·.length)).sum = l.length := by
  induction l with
  | nil => rfl
  | cons a l ih => simp only [List.map_cons, List.sum_cons, ih, List.length_cons]; show 1 + _ = _; omega
theorem thing_core (g : G K mg base) (n : Nat) (k : Int) (hk0 : 0 ≤ k) (hk : k ≤ 20) (fsi : FSp) (fi : List Int → Nat → Except PErr (D × Nat)) (go : List Int → Option (Nat → Except PErr (D × Nat))) (ih : OkM prog w K mg base (L2.CX prog w) (n + 4) (He.ga K "Bytes") "thing" ["self", "deep"] fsi)
    (h1 : k ≠ 20 → fsi = fsT K (k + 1) fi ∧ ∀ bs, go bs = some (fi bs)) (h2 : k = 20 → ∀ bs, go bs = none) (hfi : ∀ bs p d p', BsOk bs → p ≤ bs.length → fi bs p = .ok (d, p') → p' ≤ bs.length) :
    OkM prog w K mg base (L2.CX prog w) (n + 5) (He.ga K "Bytes") "thing" ["self", "deep"] (fsT K k fun bs => pThF bs (go bs)) := by
  obtain ⟨fd, F⟩ := dm_thing g
  have nd : (["self", "deep", "first", "word", "turn"] : List Str).Nodup := by decide
  refine ⟨_, fd, mt_thing g, fun_okX F (C8.fnScope_by (by decide +kernel) : FnScope ["self", "deep", "first", "word", "turn"] ["self", "deep"] _) ?l (fun cdv A outer s H E Γ EX hcd hr hX => have lt := lt_of hX; (dss_cons (ds_set (i := 2) nd (de_fld (de_var 0) (ok_its_place g)))
      (dss_cons (ds_set (i := 3) nd (de_methO0 (de_var 0) (cls_Bytes g) (m_byte g) hr (by omega) lt.lx))
      (dss_cons (ds_if (dt_eq hr (de_var 3) (de_globI (by rfl) (c_NUMBER g))) (dss_one (ds_ret (de_methO0 (de_var 0) (cls_Bytes g) (m_number g) hr (by omega) lt.lx))) dss_nil)
      (dss_cons (ds_if (dt_eq hr (de_var 3) (de_globI (by rfl) (c_STRING g))) (dss_one (ds_ret (de_bm PySem.F.plainAttrs_str PySem.F.slot_str_join PySem.F.type_str_join mt_join mtd_join de_str (da_cons (de_lcX (own := [("turn", 4)]) lt rfl rfl rfl nd (di_range1 (by rfl) (b_range g) (da_cons (de_methO0 (de_var 0) (cls_Bytes g) (m_number g) hr (by omega) lt.lx) da_nil)) (by rfl) (fun Γ1 s1 H1 C1 cl1 fp1 => (dc_name (i := 4) nd)) (fun Γ1 s1 H1 C1 cl1 fp1 => dts_nil) (fun Γ1 s1 H1 C1 cl1 fp1 EC1 lx => (de_methO0 (de_var 0) (cls_Bytes g) (m_sign g) hr (by omega) lx))) da_nil)))) dss_nil)
      (dss_cons (ds_if (dt_ne hr (de_var 3) (de_globI (by rfl) (c_ROW g))) (dss_one (ds_raise (k := 0) (x_BadBytes g) (by decide) (hr.mono (by omega)) (by rfl) rfl lt (da_cons (de_var 2) (da_cons de_str da_nil)))) dss_nil)
      (dss_cons (ds_if (dt_eq hr (de_var 1) (de_globI (by rfl) (c_DEEPEST g))) (dss_one (ds_raise (k := 0) (x_BadBytes g) (by decide) (hr.mono (by omega)) (by rfl) rfl lt (da_cons (de_var 2) (da_cons de_str da_nil)))) dss_nil)
      (dss_one (ds_ret (de_callTy call_tuple_of calld_tupOf (by rfl) (b_tuple g) PyProof.Rows.Boot.«tuple» (da_cons (de_lcX (own := [("turn", 4)]) lt rfl rfl rfl nd (di_range1 (by rfl) (b_range g) (da_cons (de_methO0 (de_var 0) (cls_Bytes g) (m_number g) hr (by omega) lt.lx) da_nil)) (by rfl) (fun Γ1 s1 H1 C1 cl1 fp1 => (dc_name (i := 4) nd)) (fun Γ1 s1 H1 C1 cl1 fp1 => dts_nil) (fun Γ1 s1 H1 C1 cl1 fp1 EC1 lx => (de_methO (de_var 0) (cls_Bytes g) (ih) hr (by omega) lx (da_cons (de_add (de_var 1) de_int) da_nil)))) da_nil)))))))))))
    ?r, F.binds (fun _ _ _ _ _ _ us hl => match us, hl with | [_, _], _ => rfl)⟩
  case l => intro ds μ R EX ⟨_, _, _, e, _⟩; rw [e]; rfl
  case r =>
    rintro ds μ R EX ⟨a, bs, p, rfl, em, B, hp, q⟩
    unfold pThF at q
    dsimp only at q
    simp only [dSeq, dNext, dRet, dRetN, dIfS, dSet, dDrop, dAsg, dPar, dCont, dBreak, dBin, dCmp, dTest, dAnd, dOr, dNot, dAndV, dOrV, dNotV, dIf, dChain, dCB, dBM, dBM0, dCall, dC, dCons, dNil, dTup, dLst, dLstM, dStar, dYes, dNeg, dSlice, dNoPart, dPart, dgName, dVar, dIsN, dNotN, startD, List.map_cons, List.map_nil, List.cons_append, List.nil_append, List.replicate_zero, List.replicate_succ, List.length_cons, List.length_nil, Nat.sub_self, Nat.reduceSub, Nat.reduceAdd, List.getElem?_cons_zero, List.getElem?_cons_succ, List.set_cons_zero, List.set_cons_succ, Option.some.injEq, Sl.v.injEq, exists_eq_left', PyData.bool.injEq, PyData.int.injEq, PyData.str.injEq, PyData.tuple.injEq, PyData.list.injEq, snap_none, snap_bool, snap_int, snap_str, snap_list, snap_tuple, ltD_int, eqvD_int, dRaise, dRaise0, told_ok, told_er, dLc, dLcX, diSrc, items_str, items_tup, items_lst, wipeR, DL.strip, diRange1, diRange2, dgTup, dgCons, dgNil, List.cons.injEq, and_true, true_and, forall_eq_apply_imp_iff, exists_eq_left, ↓reduceIte, Bool.not_true, Bool.not_false, Bool.false_eq_true, if_true, if_false, q_place em]
    refine q_meth0 (val := PyData.int) (m := "byte") em B hp (by rfl) ?_
    cases e1 : pByte bs p with
    | error e =>
      rw [e1] at q
      exact fun p' => setX_now (q p')
    | ok z =>
      obtain ⟨b, p1⟩ := z
      rw [e1] at q
      obtain ⟨hpp, _, hp1, hb1⟩ := pByte_ok e1
      have r1 := B.rng _ hb1
      have em1 : mset μ a (bytM K bs p1) a = some (bytM K bs p1) := mset_same
      dsimp only at q
      simp only [dSeq, dNext, dRet, dRetN, dIfS, dSet, dDrop, dAsg, dPar, dCont, dBreak, dBin, dCmp, dTest, dAnd, dOr, dNot, dAndV, dOrV, dNotV, dIf, dChain, dCB, dBM, dBM0, dCall, dC, dCons, dNil, dTup, dLst, dLstM, dStar, dYes, dNeg, dSlice, dNoPart, dPart, dgName, dVar, dIsN, dNotN, startD, List.map_cons, List.map_nil, List.cons_append, List.nil_append, List.replicate_zero, List.replicate_succ, List.length_cons, List.length_nil, Nat.sub_self, Nat.reduceSub, Nat.reduceAdd, List.getElem?_cons_zero, List.getElem?_cons_succ, List.set_cons_zero, List.set_cons_succ, Option.some.injEq, Sl.v.injEq, exists_eq_left', PyData.bool.injEq, PyData.int.injEq, PyData.str.injEq, PyData.tuple.injEq, PyData.list.injEq, snap_none, snap_bool, snap_int, snap_str, snap_list, snap_tuple, ltD_int, eqvD_int, dRaise, dRaise0, told_ok, told_er, dLc, dLcX, diSrc, items_str, items_tup, items_lst, wipeR, DL.strip, diRange1, diRange2, dgTup, dgCons, dgNil, List.cons.injEq, and_true, true_and, forall_eq_apply_imp_iff, exists_eq_left, ↓reduceIte, Bool.not_true, Bool.not_false, Bool.false_eq_true, if_true, if_false]
      refine ⟨peq_int, ?_⟩
      by_cases w1 : b = 1
      · rw [if_pos w1] at q
        rw [if_pos (by simpa using w1)]
        refine q_meth0 (val := PyData.int) (m := "number") em1 B hp1 (by rfl) ?_
        cases e2 : pNum bs p1 with
        | error e => rw [e2] at q; exact fun p' => setX_now (by rw [mset_mset]; exact q p')
        | ok z => rw [e2] at q; rw [told_ok, mset_mset]; exact sett_now q
      · rw [if_neg w1] at q
        rw [if_neg (by simpa using w1)]
        refine ⟨peq_int, ?_⟩
        by_cases w2 : b = 2
        · rw [if_pos w2] at q
          rw [if_pos (by simpa using w2)]
          refine ⟨by rfl, ?_⟩
          refine q_meth0 (val := PyData.int) (m := "number") em1 B hp1 (by rfl) ?_
          cases e2 : pNum bs p1 with
          | error e => rw [e2] at q; exact fun p' => setX_now (by rw [mset_mset]; exact q p')
          | ok z =>
            obtain ⟨m, p2⟩ := z
            rw [e2] at q
            obtain ⟨_, _, hp2, hm0, hm1⟩ := pNum_ok B e2
            dsimp only at q
            rw [told_ok, mset_mset]
            refine ⟨m, rfl, ⟨by omega, by omega⟩, ?_⟩
            have hlen : (intsD 0 m.toNat).length = m.toNat := by simp [intsD]
            refine lc_rep (pSign bs) sgn (fun p => mset μ a (bytM K bs p)) (fun p => p ≤ bs.length) (fun e => ∀ p', SetX EX (xBad K e.1 e.2) (mset μ a (bytM K bs p'))) (fun s c s' _ e => ?_) (fun d s Q' hs hq => ?_) mono_name mono_yes _ [] p2 (by rw [hlen, sizeLine_eq]; simp only [List.length_nil]; omega) hp2 ?_
            · unfold pSign at e
              cases e3 : pByte bs s with
              | error x => rw [e3] at e; cases e
              | ok z =>
                rw [e3] at e
                dsimp only at e
                split at e
                · cases e
                · cases e; exact (pByte_ok e3).2.2.1
            · simp only [dSeq, dNext, dRet, dRetN, dIfS, dSet, dDrop, dAsg, dPar, dCont, dBreak, dBin, dCmp, dTest, dAnd, dOr, dNot, dAndV, dOrV, dNotV, dIf, dChain, dCB, dBM, dBM0, dCall, dC, dCons, dNil, dTup, dLst, dLstM, dStar, dYes, dNeg, dSlice, dNoPart, dPart, dgName, dVar, dIsN, dNotN, startD, List.map_cons, List.map_nil, List.cons_append, List.nil_append, List.replicate_zero, List.replicate_succ, List.length_cons, List.length_nil, Nat.sub_self, Nat.reduceSub, Nat.reduceAdd, List.getElem?_cons_zero, List.getElem?_cons_succ, List.set_cons_zero, List.set_cons_succ, Option.some.injEq, Sl.v.injEq, exists_eq_left', PyData.bool.injEq, PyData.int.injEq, PyData.str.injEq, PyData.tuple.injEq, PyData.list.injEq, snap_none, snap_bool, snap_int, snap_str, snap_list, snap_tuple, ltD_int, eqvD_int, dRaise, dRaise0, told_ok, told_er, dLc, dLcX, diSrc, items_str, items_tup, items_lst, wipeR, DL.strip, diRange1, diRange2, dgTup, dgCons, dgNil, List.cons.injEq, and_true, true_and, forall_eq_apply_imp_iff, exists_eq_left, ↓reduceIte, Bool.not_true, Bool.not_false, Bool.false_eq_true, if_true, if_false]
              refine q_meth0 (val := sgn) (m := "sign") mset_same B hs (by rfl) ?_
              simp only [mset_mset]
              exact hq
            · rw [hlen]
              cases e3 : rep (pSign bs) m.toNat p2 with
              | error x => rw [e3] at q; exact fun p' => setX_now (q p')
              | ok z =>
                obtain ⟨l, p3⟩ := z
                rw [e3] at q
                have hl := rep_len e3
                refine ⟨_, _, _, l.map fun c => (⟨#[c]⟩ : Str), rfl, rfl, .inl (by rfl), ?_, ?_, ?_⟩
                · rw [← strsD_map, List.map_map]; rfl
                · rw [sum_ones]; simp only [List.length_map]; show _ + _ * 0 ≤ _; omega
                · rw [join_signs]; exact sett_now q
        · rw [if_neg w2] at q
          rw [if_neg (by simpa using w2)]
          refine ⟨peq_int, ?_⟩
          by_cases w3 : b = 3
          · rw [if_pos w3] at q
            rw [if_neg (by simpa using w3)]
            refine ⟨peq_int, ?_⟩
            by_cases h20 : k = 20
            · rw [if_pos (by simpa using h20)]
              rw [h2 h20] at q
              exact setX_now (q p1)
            · rw [if_neg (by simpa using h20)]
              obtain ⟨efs, ego⟩ := h1 h20
              rw [ego] at q
              dsimp only at q
              refine q_meth0 (val := PyData.int) (m := "number") em1 B hp1 (by rfl) ?_
              cases e2 : pNum bs p1 with
              | error e => rw [e2] at q; exact fun p' => setX_now (by rw [mset_mset]; exact q p')
              | ok z =>
                obtain ⟨m, p2⟩ := z
                rw [e2] at q
                obtain ⟨_, _, hp2, hm0, hm1⟩ := pNum_ok B e2
                dsimp only at q
                rw [told_ok, mset_mset]
                refine ⟨m, rfl, ⟨by omega, by omega⟩, ?_⟩
                have hlen : (intsD 0 m.toNat).length = m.toNat := by simp [intsD]
                refine lc_rep (fi bs) _root_.id (fun p => mset μ a (bytM K bs p)) (fun p => p ≤ bs.length) (fun e => ∀ p', SetX EX (xBad K e.1 e.2) (mset μ a (bytM K bs p'))) (fun s c s' hs e => hfi bs s c s' B hs e) (fun d s Q' hs hq => ?_) mono_name mono_yes _ [] p2 (by rw [hlen, sizeLine_eq]; simp only [List.length_nil]; omega) hp2 ?_
                · simp only [dSeq, dNext, dRet, dRetN, dIfS, dSet, dDrop, dAsg, dPar, dCont, dBreak, dBin, dCmp, dTest, dAnd, dOr, dNot, dAndV, dOrV, dNotV, dIf, dChain, dCB, dBM, dBM0, dCall, dC, dCons, dNil, dTup, dLst, dLstM, dStar, dYes, dNeg, dSlice, dNoPart, dPart, dgName, dVar, dIsN, dNotN, startD, List.map_cons, List.map_nil, List.cons_append, List.nil_append, List.replicate_zero, List.replicate_succ, List.length_cons, List.length_nil, Nat.sub_self, Nat.reduceSub, Nat.reduceAdd, List.getElem?_cons_zero, List.getElem?_cons_succ, List.set_cons_zero, List.set_cons_succ, Option.some.injEq, Sl.v.injEq, exists_eq_left', PyData.bool.injEq, PyData.int.injEq, PyData.str.injEq, PyData.tuple.injEq, PyData.list.injEq, snap_none, snap_bool, snap_int, snap_str, snap_list, snap_tuple, ltD_int, eqvD_int, dRaise, dRaise0, told_ok, told_er, dLc, dLcX, diSrc, items_str, items_tup, items_lst, wipeR, DL.strip, diRange1, diRange2, dgTup, dgCons, dgNil, List.cons.injEq, and_true, true_and, forall_eq_apply_imp_iff, exists_eq_left, ↓reduceIte, Bool.not_true, Bool.not_false, Bool.false_eq_true, if_true, if_false, dAdd, dMeth]
                  refine ⟨a, _, rfl, mset_same, by rfl, ?_⟩
                  rw [efs]
                  refine ⟨a, bs, s, rfl, mset_same, B, hs, ?_⟩
                  simp only [mset_mset]
                  exact hq
                · rw [hlen]
                  cases e3 : rep (fi bs) m.toNat p2 with
                  | error x => rw [e3] at q; exact fun p' => setX_now (q p')
                  | ok z =>
                    obtain ⟨l, p3⟩ := z
                    rw [e3] at q
                    rw [told_ok, List.map_id, List.nil_append]
                    exact ⟨_, l, rfl, .inl (by rfl), sett_now q⟩
          · rw [if_neg w3] at q
            rw [if_pos (by simpa using w3)]
            exact setX_now (q p1)
end
end K15
set_option Elab.async false
set_option linter.all false
set_option maxRecDepth 100000
set_option maxHeartbeats 1000000
namespace K15
open PySem PySem.Spec PyProof.Rows L2 DL
theorem pTh_le {bs : List Int} (B : BsOk bs) {n : Nat} (hn : n ≤ 20) {p p' : Nat} {d : D} (hp : p ≤ bs.length) (h : pTh bs n p = .ok (d, p')) : p' ≤ bs.length := by
  obtain ⟨_, _, _, h3⟩ := read_ok B n hn h hp
  exact h3
section
variable {K : PySem.W.Frag} {mg : Str → Option Value} {base : Heap} {w : World}
theorem m_thing (g : G K mg base) : ∀ n, n ≤ 20 → OkM prog w K mg base (L2.CX prog w) (n + 5) (He.ga K "Bytes") "thing" ["self", "deep"] (fsT K (20 - n) fun bs => pTh bs n)
  | 0, _ => by
    obtain ⟨fd, F⟩ := dm_thing g
    exact thing_core g 0 20 (by decide) (by decide) (fun _ _ _ _ => False) (fun _ _ => .error (0, "")) (fun _ => none) (okM_never (mt_thing g) (F.binds (fun _ _ _ _ _ _ us hl => match us, hl with | [_, _], _ => rfl)) fun _ _ _ _ h => h) (fun h => absurd rfl h) (fun _ _ => rfl) fun _ _ _ _ _ _ h => nomatch h
  | n + 1, h => by
    have ih := m_thing g n (by omega)
    have e : (20 : Int) - ((n + 1 : Nat) : Int) + 1 = 20 - (n : Nat) := by omega
    exact thing_core g (n + 1) (20 - ((n + 1 : Nat) : Int)) (by omega) (by omega) _ (fun bs => pTh bs n) (fun bs => some (pTh bs n)) ih (fun _ => ⟨by rw [e], fun _ => rfl⟩) (fun h => absurd h (by omega)) fun bs p d p' B hp he => pTh_le B (by omega) hp he
/-- what bytes are read as -/
def unp (bs : List Int) : Except PErr D := match pTh bs 20 0 with
  | .error e => .error e
  | .ok (d, p) => if p < bs.length then .error (p, "more") else .ok d
def bytesOf : D → Option (List Int)
  | .tuple xs => if areBytes (.tuple xs) = true then some (xs.map fun x => match x with | .int i => i | _ => 0) else none
  | _ => none
def fs_unpacked (K : PySem.W.Frag) : FSp := fun ds μ R EX => ∃ d, ds = [d] ∧ NoDict d ∧ (∀ xs, d = .tuple xs → (∀ x ∈ xs, NoDict x) ∧ xs.length ≤ 1000000) ∧ match bytesOf d with
  | none => EX (xBad K 0 "bytes") μ
  | some bs => match unp bs with
    | .ok v => R v μ
    | .error e => EX (xBad K e.1 e.2) μ
theorem ints_of {xs : List D} (h : areBytes (.tuple xs) = true) : xs = (xs.map fun x => match x with | .int i => i | _ => 0).map PyData.int ∧ ∀ b ∈ (xs.map fun x => match x with | .int i => i | _ => 0), 0 ≤ b ∧ b ≤ 255 := by
  induction xs with
  | nil => exact ⟨rfl, fun b hb => nomatch hb⟩
  | cons x xs ih =>
    simp only [areBytes, List.all_cons, Bool.and_eq_true] at h ih
    obtain ⟨h1, h2⟩ := h
    obtain ⟨i1, i2⟩ := ih h2
    cases x with
    | int i =>
      refine ⟨by simpa using i1, fun b hb => ?_⟩
      rcases List.mem_cons.mp hb with rfl | hb
      · simpa [within] using h1
      · exact i2 b hb
    | _ => simp [within] at h1
theorem o_unpacked (g : G K mg base) : Okk prog w K mg base (L2.CX prog w) 30 "unpacked" ["some"] (fs_unpacked K) := by
  obtain ⟨fd, F⟩ := d_unpacked g
  have m_thing := fun g : G K mg base => m_thing (w := w) g 20 (Nat.le_refl _)
  have nd : (["some", "line", "found"] : List Str).Nodup := by decide
  refine ⟨_, fd, gl_unpacked g, F.kp, fun_okX F (C8.fnScope_by (by decide +kernel) : FnScope ["some", "line", "found"] ["some"] _) ?l (fun cdv A outer s H E Γ EX hcd hr hX => have lt := lt_of hX; (dss_cons (ds_if (dt_not (dt_val (de_callO (o_are_bytes g) hr (by omega) (by rfl) lx0 (da_cons (de_var 0) da_nil)))) (dss_one (ds_raise (k := 0) (x_BadBytes g) (by decide) (hr.mono (by omega)) (by rfl) rfl lt (da_cons de_int (da_cons de_str da_nil)))) dss_nil)
      (dss_cons (ds_set (i := 1) nd (de_makeO (mkk_Bytes g) hr (by omega) (by rfl) (da_cons (de_var 0) da_nil)))
      (dss_cons (ds_set (i := 2) nd (de_methO (de_var 1) (cls_Bytes g) (m_thing g) hr (by omega) lt.lx (da_cons de_int da_nil)))
      (dss_cons (ds_if (dt_lt hr (de_methO0 (de_var 1) (cls_Bytes g) (m_place g) hr (by omega) lx0) (de_callB call_len calld_len (by rfl) (b_len g) PyProof.Rows.Boot.«len» (da_cons (de_var 0) da_nil))) (dss_one (ds_raise (k := 0) (x_BadBytes g) (by decide) (hr.mono (by omega)) (by rfl) rfl lt (da_cons (de_methO0 (de_var 1) (cls_Bytes g) (m_place g) hr (by omega) lx0) (da_cons de_str da_nil)))) dss_nil)
      (dss_one (ds_ret (de_var 2))))))))
    ?r, F.binds (fun _ _ _ _ _ _ us hl => match us, hl with | [_], _ => rfl)⟩
  case l => intro ds μ R EX ⟨_, e, _⟩; rw [e]; rfl
  case r =>
    rintro ds μ R EX ⟨d, rfl, hd, hx, q⟩
    simp only [dSeq, dNext, dRet, dRetN, dIfS, dSet, dDrop, dAsg, dPar, dCont, dBreak, dBin, dCmp, dTest, dAnd, dOr, dNot, dAndV, dOrV, dNotV, dIf, dChain, dCB, dBM, dBM0, dCall, dC, dCons, dNil, dTup, dLst, dLstM, dStar, dYes, dNeg, dSlice, dNoPart, dPart, dgName, dVar, dIsN, dNotN, startD, List.map_cons, List.map_nil, List.cons_append, List.nil_append, List.replicate_zero, List.replicate_succ, List.length_cons, List.length_nil, Nat.sub_self, Nat.reduceSub, Nat.reduceAdd, List.getElem?_cons_zero, List.getElem?_cons_succ, List.set_cons_zero, List.set_cons_succ, Option.some.injEq, Sl.v.injEq, exists_eq_left', PyData.bool.injEq, PyData.int.injEq, PyData.str.injEq, PyData.tuple.injEq, PyData.list.injEq, snap_none, snap_bool, snap_int, snap_str, snap_list, snap_tuple, ltD_int, eqvD_int, dRaise, dRaise0, told_ok, told_er, dLc, dLcX, diSrc, items_str, items_tup, items_lst, wipeR, DL.strip, diRange1, diRange2, dgTup, dgCons, dgNil, List.cons.injEq, and_true, true_and, forall_eq_apply_imp_iff, exists_eq_left, ↓reduceIte, Bool.not_true, Bool.not_false, Bool.false_eq_true, if_true, if_false, fs_are_bytes]
    refine ⟨hd, hx, ?_⟩
    cases hb : areBytes d with
    | false =>
      have e0 : bytesOf d = none := by cases d <;> simp_all [bytesOf, areBytes]
      rw [e0] at q
      simp only [Bool.not_false, if_true]
      exact setX_now q
    | true =>
      simp only [Bool.not_true, Bool.false_eq_true, if_false]
      cases d with
      | tuple xs =>
        obtain ⟨e1, hr⟩ := ints_of hb
        have e0 : bytesOf (.tuple xs) = some (xs.map fun x => match x with | .int i => i | _ => 0) := if_pos hb
        rw [e0] at q
        obtain ⟨_, hl⟩ := hx xs rfl
        generalize (xs.map fun x => match x with | .int i => i | _ => 0) = bs at e1 hr e0 q
        subst e1
        rw [List.length_map] at hl
        have B : BsOk bs := ⟨hl, hr⟩
        dsimp only at q
        unfold unp at q
        simp only [dMake, dSeq, dNext, dRet, dRetN, dIfS, dSet, dDrop, dAsg, dPar, dCont, dBreak, dBin, dCmp, dTest, dAnd, dOr, dNot, dAndV, dOrV, dNotV, dIf, dChain, dCB, dBM, dBM0, dCall, dC, dCons, dNil, dTup, dLst, dLstM, dStar, dYes, dNeg, dSlice, dNoPart, dPart, dgName, dVar, dIsN, dNotN, startD, List.map_cons, List.map_nil, List.cons_append, List.nil_append, List.replicate_zero, List.replicate_succ, List.length_cons, List.length_nil, Nat.sub_self, Nat.reduceSub, Nat.reduceAdd, List.getElem?_cons_zero, List.getElem?_cons_succ, List.set_cons_zero, List.set_cons_succ, Option.some.injEq, Sl.v.injEq, exists_eq_left', PyData.bool.injEq, PyData.int.injEq, PyData.str.injEq, PyData.tuple.injEq, PyData.list.injEq, snap_none, snap_bool, snap_int, snap_str, snap_list, snap_tuple, ltD_int, eqvD_int, dRaise, dRaise0, told_ok, told_er, dLc, dLcX, diSrc, items_str, items_tup, items_lst, wipeR, DL.strip, diRange1, diRange2, dgTup, dgCons, dgNil, List.cons.injEq, and_true, true_and, forall_eq_apply_imp_iff, exists_eq_left, ↓reduceIte, Bool.not_true, Bool.not_false, Bool.false_eq_true, if_true, if_false, fs_init]
        intro a ha
        refine ⟨a, _, ⟨rfl, rfl⟩, mset_same, ?_⟩
        rw [mset_mset]
        simp only [dMeth, dSeq, dNext, dRet, dRetN, dIfS, dSet, dDrop, dAsg, dPar, dCont, dBreak, dBin, dCmp, dTest, dAnd, dOr, dNot, dAndV, dOrV, dNotV, dIf, dChain, dCB, dBM, dBM0, dCall, dC, dCons, dNil, dTup, dLst, dLstM, dStar, dYes, dNeg, dSlice, dNoPart, dPart, dgName, dVar, dIsN, dNotN, startD, List.map_cons, List.map_nil, List.cons_append, List.nil_append, List.replicate_zero, List.replicate_succ, List.length_cons, List.length_nil, Nat.sub_self, Nat.reduceSub, Nat.reduceAdd, List.getElem?_cons_zero, List.getElem?_cons_succ, List.set_cons_zero, List.set_cons_succ, Option.some.injEq, Sl.v.injEq, exists_eq_left', PyData.bool.injEq, PyData.int.injEq, PyData.str.injEq, PyData.tuple.injEq, PyData.list.injEq, snap_none, snap_bool, snap_int, snap_str, snap_list, snap_tuple, ltD_int, eqvD_int, dRaise, dRaise0, told_ok, told_er, dLc, dLcX, diSrc, items_str, items_tup, items_lst, wipeR, DL.strip, diRange1, diRange2, dgTup, dgCons, dgNil, List.cons.injEq, and_true, true_and, forall_eq_apply_imp_iff, exists_eq_left, ↓reduceIte, Bool.not_true, Bool.not_false, Bool.false_eq_true, if_true, if_false]
        refine ⟨a, _, rfl, mset_same, by rfl, a, bs, 0, rfl, mset_same, B, Nat.zero_le _, ?_⟩
        have hll : ∀ μ, lenD (snap μ (.tuple (bs.map .int))) = some bs.length := fun μ => by rw [snap_tuple, lenD_tuple, List.length_map]
        show toldR (pTh bs 20 0) _ _
        cases e2 : pTh bs 20 0 with
        | error e =>
          rw [e2] at q
          intro p'
          rw [mset_mset]
          exact ⟨_, sub_mset ha, q⟩
        | ok z =>
          obtain ⟨v, p⟩ := z
          rw [e2] at q
          dsimp only at q
          rw [told_ok, mset_mset]
          simp only [dSeq, dNext, dRet, dRetN, dIfS, dSet, dDrop, dAsg, dPar, dCont, dBreak, dBin, dCmp, dTest, dAnd, dOr, dNot, dAndV, dOrV, dNotV, dIf, dChain, dCB, dBM, dBM0, dCall, dC, dCons, dNil, dTup, dLst, dLstM, dStar, dYes, dNeg, dSlice, dNoPart, dPart, dgName, dVar, dIsN, dNotN, startD, List.map_cons, List.map_nil, List.cons_append, List.nil_append, List.replicate_zero, List.replicate_succ, List.length_cons, List.length_nil, Nat.sub_self, Nat.reduceSub, Nat.reduceAdd, List.getElem?_cons_zero, List.getElem?_cons_succ, List.set_cons_zero, List.set_cons_succ, Option.some.injEq, Sl.v.injEq, exists_eq_left', PyData.bool.injEq, PyData.int.injEq, PyData.str.injEq, PyData.tuple.injEq, PyData.list.injEq, snap_none, snap_bool, snap_int, snap_str, snap_list, snap_tuple, ltD_int, eqvD_int, dRaise, dRaise0, told_ok, told_er, dLc, dLcX, diSrc, items_str, items_tup, items_lst, wipeR, DL.strip, diRange1, diRange2, dgTup, dgCons, dgNil, List.cons.injEq, and_true, true_and, forall_eq_apply_imp_iff, exists_eq_left, ↓reduceIte, Bool.not_true, Bool.not_false, Bool.false_eq_true, if_true, if_false, q_len (hll _)]
          refine ⟨a, _, rfl, mset_same, by rfl, a, bs, p, rfl, mset_same, plt_int, ?_⟩
          by_cases hp : p < bs.length
          · rw [if_pos hp] at q
            refine ifT (ltT (by omega)) ?_
            exact ⟨a, _, rfl, mset_same, by rfl, a, bs, p, rfl, mset_same, _, sub_mset ha, q⟩
          · rw [if_neg hp] at q
            refine ifF (ltF (by omega)) ?_
            exact sett_sub (sub_mset ha) q
      | _ => simp [areBytes] at hb
theorem o__law_some (g : G K mg base) : Okk prog w K mg base CX0 2 "_law_some" ["bag", "things"] fs_some := by
  obtain ⟨fd, F⟩ := d__law_some g
  refine ⟨_, fd, gl__law_some g, F.kp, fun_ok F (C8.fnScope_by (by decide +kernel) : FnScope ["bag", "things"] ["bag", "things"] _) ?l (fun cdv A outer s H E Γ hcd hr => (dss_one (ds_ret (de_ix (de_var 1) (de_callO (o__law_take g) hr (by omega) (by rfl) lx0 (da_cons (de_var 0) (da_cons (de_callB call_len calld_len (by rfl) (b_len g) PyProof.Rows.Boot.«len» (da_cons (de_var 1) da_nil)) da_nil)))))))
    ?r, F.binds (fun _ _ _ _ _ _ us hl => match us, hl with | [_, _], _ => rfl)⟩
  case l => intro ds μ R EX ⟨_, _, _, _, e, _⟩; rw [e]; rfl
  case r =>
    rintro ds μ R EX ⟨a, l, ts, xs, rfl, hl, hne, hlen, em, B, q⟩
    have hsn : ∀ μ, snap μ l = l := fun μ => by rcases hl with rfl | rfl <;> rfl
    have hln : ∀ μ, lenD (snap μ l) = some ts.length := fun μ => by rw [hsn]; rcases hl with rfl | rfl <;> rfl
    have hpos : 0 < ts.length := List.length_pos_iff.mpr hne
    simp only [dSeq, dNext, dRet, dRetN, dIfS, dSet, dDrop, dAsg, dPar, dCont, dBreak, dBin, dCmp, dTest, dAnd, dOr, dNot, dAndV, dOrV, dNotV, dIf, dChain, dCB, dBM, dBM0, dCall, dC, dCons, dNil, dTup, dLst, dLstM, dStar, dYes, dNeg, dSlice, dNoPart, dPart, dgName, dVar, dIsN, dNotN, startD, List.map_cons, List.map_nil, List.cons_append, List.nil_append, List.replicate_zero, List.replicate_succ, List.length_cons, List.length_nil, Nat.sub_self, Nat.reduceSub, Nat.reduceAdd, List.getElem?_cons_zero, List.getElem?_cons_succ, List.set_cons_zero, List.set_cons_succ, Option.some.injEq, Sl.v.injEq, exists_eq_left', PyData.bool.injEq, PyData.int.injEq, PyData.str.injEq, PyData.tuple.injEq, PyData.list.injEq, snap_none, snap_bool, snap_int, snap_str, snap_list, snap_tuple, ltD_int, eqvD_int, dRaise, dRaise0, told_ok, told_er, dLc, dLcX, diSrc, items_str, items_tup, items_lst, wipeR, DL.strip, diRange1, diRange2, dgTup, dgCons, dgNil, List.cons.injEq, and_true, true_and, forall_eq_apply_imp_iff, exists_eq_left, ↓reduceIte, Bool.not_true, Bool.not_false, Bool.false_eq_true, if_true, if_false, q_len (hln _), fs_take]
    refine ⟨a, ts.length, xs, ⟨rfl, rfl⟩, by omega, by omega, em, B, fun n ys h0 h1 By => ?_⟩
    obtain ⟨k, rfl⟩ := Int.eq_ofNat_of_zero_le h0
    have hk : k < ts.length := by omega
    have ek : L2.atI ts (k : Int) = some ts[k] := by
      unfold L2.atI L2.ixN
      rw [if_pos (by omega), if_pos (by omega)]
      simp [hk]
    have fin := sett_now (q ts[k] ys (List.getElem_mem hk) By)
    unfold dIx
    rw [hsn]
    rcases hl with rfl | rfl
    · exact ⟨_, ek, fin⟩
    · exact ⟨_, ek, fin⟩
end
end K15
set_option Elab.async false
set_option linter.all false
set_option maxRecDepth 100000
set_option maxHeartbeats 1000000
namespace K15
open PySem PySem.Spec PyProof.Rows L2 DL
section
variable {K : PySem.W.Frag} {mg : Str → Option Value} {base : Heap} {w : World}
def fs_alike : FSp := fun ds μ R _ => ∃ d, ds = [d, d] ∧ PRp d ∧ R (.bool true) μ
theorem o__law_alike (g : G K mg base) : OkG prog w K mg base 1 "_law_alike" ["found", "due"] fs_alike := by
  obtain ⟨fd, F⟩ := d__law_alike g
  refine ⟨_, fd, gl__law_alike g, F.kp, funG_ok F (C8.fnScope_by (by decide +kernel) : FnScope ["found", "due"] ["found", "due"] _) ?l (fun cdv A outer s H E Γ hcd hr => (dss_one (ds_ret (de_and (de_eq hr.1 (de_var 0) (de_var 1)) (de_one (de_eq hr.1 (de_callB (call_reprD hr.2 hr.1.units) calld_repr (by rfl) (b_repr g) PyProof.Rows.Boot.«repr» (da_cons (de_var 0) da_nil)) (de_callB (call_reprD hr.2 hr.1.units) calld_repr (by rfl) (b_repr g) PyProof.Rows.Boot.«repr» (da_cons (de_var 1) da_nil))))))))
    ?r, F.binds (fun _ _ _ _ _ _ us hl => match us, hl with | [_, _], _ => rfl)⟩
  case l => intro ds μ R EX ⟨_, e, _⟩; rw [e]; rfl
  case r =>
    rintro ds μ R EX ⟨d, rfl, hp, q⟩
    have hs : snap μ d = d := snap_nd (nd_plain hp.1)
    simp only [dSeq, dNext, dRet, dRetN, dIfS, dSet, dDrop, dAsg, dPar, dCont, dBreak, dBin, dCmp, dTest, dAnd, dOr, dNot, dAndV, dOrV, dNotV, dIf, dChain, dCB, dBM, dBM0, dCall, dC, dCons, dNil, dTup, dLst, dLstM, dStar, dYes, dNeg, dSlice, dNoPart, dPart, dgName, dVar, dIsN, dNotN, startD, List.map_cons, List.map_nil, List.cons_append, List.nil_append, List.replicate_zero, List.replicate_succ, List.length_cons, List.length_nil, Nat.sub_self, Nat.reduceSub, Nat.reduceAdd, List.getElem?_cons_zero, List.getElem?_cons_succ, List.set_cons_zero, List.set_cons_succ, Option.some.injEq, Sl.v.injEq, exists_eq_left', PyData.bool.injEq, PyData.int.injEq, PyData.str.injEq, PyData.tuple.injEq, PyData.list.injEq, snap_none, snap_bool, snap_int, snap_str, snap_list, snap_tuple, ltD_int, eqvD_int, dRaise, dRaise0, told_ok, told_er, dLc, dLcX, diSrc, items_str, items_tup, items_lst, wipeR, DL.strip, diRange1, diRange2, dgTup, dgCons, dgNil, List.cons.injEq, and_true, true_and, forall_eq_apply_imp_iff, exists_eq_left, ↓reduceIte, Bool.not_true, Bool.not_false, Bool.false_eq_true, if_true, if_false, dRepr, hs]
    refine ⟨⟨hp.1, hp.1, by have := hp.2.2.2.1; omega⟩, ifT (SeqAt.eqv_refl_plain d hp.1) ?_⟩
    refine ⟨hp, hp, ⟨rfl, rfl, by simp [PyData.depth]⟩, ?_⟩
    rw [SeqAt.eqv_refl_plain _ (by rfl)]
    exact sett_now q
def fs_bo (n : Nat) : FSp := fun ds μ R _ => ∃ d k, ds = [d, .int k] ∧ sz d ≤ 60000 ∧ d.depth < n ∧ 0 ≤ k ∧ k ≤ 20 ∧ R (match pk d k with | some l => .tuple (l.map .int) | none => .none) μ
theorem o__law_bytes_of_at (g : G K mg base) : ∀ n, Okk prog w K mg base CX0 (n + 3) "_law_bytes_of" ["thing", "deep"] (fs_bo n)
  | 0 => by
    obtain ⟨fd, F⟩ := d__law_bytes_of g
    exact ok_never (gl__law_bytes_of g) F.kp (F.binds (fun _ _ _ _ _ _ us hl => match us, hl with | [_, _], _ => rfl)) fun ds μ R EX ⟨d, k, _, _, h, _⟩ => absurd h (by omega)
  | n + 1 => by
    have ih := o__law_bytes_of_at g n
    obtain ⟨fd, F⟩ := d__law_bytes_of g
    have nd : (["thing", "deep", "found", "one", "some", "sign"] : List Str).Nodup := by decide
    refine ⟨_, fd, gl__law_bytes_of g, F.kp, fun_ok (k := n + 3) F (C8.fnScope_by (by decide +kernel) : FnScope ["thing", "deep", "found", "one", "some", "sign"] ["thing", "deep"] _) ?l (fun cdv A outer s H E Γ hcd hr => (dss_cons (ds_if (dt_val (de_callO (o__law_is_int g) hr (by omega) (by rfl) lx0 (da_cons (de_var 0) da_nil))) (dss_one (ds_ret (de_if (dt_lele hr de_int (de_var 0) de_int) (de_add (de_tup (da_cons de_int da_nil)) (de_callO (o__law_halves g) hr (by omega) (by rfl) lx0 (da_cons (de_var 0) da_nil))) de_non))) dss_nil)
      (dss_cons (ds_if (dt_val (de_callB call_isi calld_isi (by rfl) (b_isinstance g) PyProof.Rows.Boot.«isinstance» (da_cons (de_var 0) (da_cons (de_type (by rfl) (b_str g) PyProof.Rows.Boot.«str») da_nil)))) (dss_cons (ds_if (dt_ne hr (de_lc (own := [("sign", 5)]) rfl nd (di_src (de_var 0)) (by rfl) (fun s1 H1 C1 cl1 fp1 => (dc_name (i := 5) nd)) (fun s1 H1 C1 cl1 fp1 => (dts_one (dt_ni hr (de_var 5) (de_callO0 (o__law_signs g) hr (by omega) (by rfl) lx0)))) (fun s1 H1 C1 cl1 fp1 => de_int)) (de_lst da_nil)) (dss_one (ds_ret de_non)) dss_nil)
      (dss_one (ds_ret (de_add (de_add (de_tup (da_cons de_int da_nil)) (de_callO (o__law_halves g) hr (by omega) (by rfl) lx0 (da_cons (de_callB call_len calld_len (by rfl) (b_len g) PyProof.Rows.Boot.«len» (da_cons (de_var 0) da_nil)) da_nil))) (de_callTy call_tuple_of calld_tupOf (by rfl) (b_tuple g) PyProof.Rows.Boot.«tuple» (da_cons (de_lc (own := [("sign", 5)]) rfl nd (di_src (de_var 0)) (by rfl) (fun s1 H1 C1 cl1 fp1 => (dc_name (i := 5) nd)) (fun s1 H1 C1 cl1 fp1 => dts_nil) (fun s1 H1 C1 cl1 fp1 => (de_bm PySem.F.plainAttrs_str PySem.F.slot_str_index PySem.F.type_str_index mt_sindex mtd_sindex (de_callO0 (o__law_signs g) hr (by omega) (by rfl) lx0) (da_cons (de_var 5) da_nil)))) da_nil)))))) dss_nil)
      (dss_cons (ds_if (DW.dt (dw_or (dt_not (dt_val (de_callB call_isi calld_isi (by rfl) (b_isinstance g) PyProof.Rows.Boot.«isinstance» (da_cons (de_var 0) (da_cons (de_type (by rfl) (b_tuple g) PyProof.Rows.Boot.«tuple») da_nil))))) (dw_or1 (dt_eq hr (de_var 1) de_int)))) (dss_one (ds_ret de_non)) dss_nil)
      (dss_cons (ds_set (i := 2) nd (de_add (de_tup (da_cons de_int da_nil)) (de_callO (o__law_halves g) hr (by omega) (by rfl) lx0 (da_cons (de_callB call_len calld_len (by rfl) (b_len g) PyProof.Rows.Boot.«len» (da_cons (de_var 0) da_nil)) da_nil))))
      (dss_cons (ds_for PassesOwn.never rfl (di_src (de_var 0)) (dg_name (i := 3) nd) (dss_cons (ds_set (i := 4) nd (de_callO (ih) hr (by omega) (by rfl) lx0 (da_cons (de_var 3) (da_cons (de_add (de_var 1) de_int) da_nil))))
      (dss_cons (ds_if (dt_isN (de_var 4) de_non) (dss_one (ds_ret de_non)) dss_nil)
      (dss_one (ds_set (i := 2) nd (de_add (de_var 2) (de_var 4)))))))
      (dss_one (ds_ret (de_var 2)))))))))
      ?r, F.binds (fun _ _ _ _ _ _ us hl => match us, hl with | [_, _], _ => rfl)⟩
    case l => intro ds μ R EX ⟨d, k, e, _⟩; rw [e]; rfl
    case r =>
      rintro ds μ R EX ⟨d, k, rfl, hs, hdp, hk0, hk20, q⟩
      have hnd := sz_nd hs
      simp only [dSeq, dNext, dRet, dRetN, dIfS, dSet, dDrop, dAsg, dPar, dCont, dBreak, dBin, dCmp, dTest, dAnd, dOr, dNot, dAndV, dOrV, dNotV, dIf, dChain, dCB, dBM, dBM0, dCall, dC, dCons, dNil, dTup, dLst, dLstM, dStar, dYes, dNeg, dSlice, dNoPart, dPart, dgName, dVar, dIsN, dNotN, startD, List.map_cons, List.map_nil, List.cons_append, List.nil_append, List.replicate_zero, List.replicate_succ, List.length_cons, List.length_nil, Nat.sub_self, Nat.reduceSub, Nat.reduceAdd, List.getElem?_cons_zero, List.getElem?_cons_succ, List.set_cons_zero, List.set_cons_succ, Option.some.injEq, Sl.v.injEq, exists_eq_left', PyData.bool.injEq, PyData.int.injEq, PyData.str.injEq, PyData.tuple.injEq, PyData.list.injEq, snap_none, snap_bool, snap_int, snap_str, snap_list, snap_tuple, ltD_int, eqvD_int, dRaise, dRaise0, told_ok, told_er, dLc, dLcX, diSrc, items_str, items_tup, items_lst, wipeR, DL.strip, diRange1, diRange2, dgTup, dgCons, dgNil, List.cons.injEq, and_true, true_and, forall_eq_apply_imp_iff, exists_eq_left, ↓reduceIte, Bool.not_true, Bool.not_false, Bool.false_eq_true, if_true, if_false, fs_is_integer, q_isi hnd (show "str" ∈ knownT by decide), q_isi hnd (show "tuple" ∈ knownT by decide)]
      refine ⟨hnd, ?_⟩
      cases d with
      | int i =>
        refine ifT rfl ?_
        simp only [dSeq, dNext, dRet, dRetN, dIfS, dSet, dDrop, dAsg, dPar, dCont, dBreak, dBin, dCmp, dTest, dAnd, dOr, dNot, dAndV, dOrV, dNotV, dIf, dChain, dCB, dBM, dBM0, dCall, dC, dCons, dNil, dTup, dLst, dLstM, dStar, dYes, dNeg, dSlice, dNoPart, dPart, dgName, dVar, dIsN, dNotN, startD, List.map_cons, List.map_nil, List.cons_append, List.nil_append, List.replicate_zero, List.replicate_succ, List.length_cons, List.length_nil, Nat.sub_self, Nat.reduceSub, Nat.reduceAdd, List.getElem?_cons_zero, List.getElem?_cons_succ, List.set_cons_zero, List.set_cons_succ, Option.some.injEq, Sl.v.injEq, exists_eq_left', PyData.bool.injEq, PyData.int.injEq, PyData.str.injEq, PyData.tuple.injEq, PyData.list.injEq, snap_none, snap_bool, snap_int, snap_str, snap_list, snap_tuple, ltD_int, eqvD_int, dRaise, dRaise0, told_ok, told_er, dLc, dLcX, diSrc, items_str, items_tup, items_lst, wipeR, DL.strip, diRange1, diRange2, dgTup, dgCons, dgNil, List.cons.injEq, and_true, true_and, forall_eq_apply_imp_iff, exists_eq_left, ↓reduceIte, Bool.not_true, Bool.not_false, Bool.false_eq_true, if_true, if_false, dAdd, fs_two]
        refine ⟨plt_int, ?_⟩
        by_cases h0 : i < 0
        · refine ifF (by simp [h0]) ?_
          rw [pk, if_neg (by omega)] at q
          exact sett_now q
        · refine ifT (by simp [h0]) ⟨plt_int, ?_⟩
          by_cases h1 : 65535 < i
          · refine ifF (by simp [h1]) ?_
            rw [pk, if_neg (by omega)] at q
            exact sett_now q
          · refine ifT (by simp [h1]) ⟨by decide, by decide, ?_⟩
            rw [pk, if_pos (by omega)] at q
            exact sett_now q
      | str z =>
        have hz : z.length ≤ 60000 := by simp only [sz] at hs; omega
        have hcs : z.cps.toList.length = z.length := by simp [Str.length]
        have hl : ∀ μ, lenD (snap μ (.str z)) = some z.length := fun μ => by rw [snap_str, lenD_str, if_pos (by rw [sizeLine_eq]; omega)]
        refine ifF (by simp [isInt, isT]) (ifT rfl ?_)
        simp only [dSeq, dNext, dRet, dRetN, dIfS, dSet, dDrop, dAsg, dPar, dCont, dBreak, dBin, dCmp, dTest, dAnd, dOr, dNot, dAndV, dOrV, dNotV, dIf, dChain, dCB, dBM, dBM0, dCall, dC, dCons, dNil, dTup, dLst, dLstM, dStar, dYes, dNeg, dSlice, dNoPart, dPart, dgName, dVar, dIsN, dNotN, startD, List.map_cons, List.map_nil, List.cons_append, List.nil_append, List.replicate_zero, List.replicate_succ, List.length_cons, List.length_nil, Nat.sub_self, Nat.reduceSub, Nat.reduceAdd, List.getElem?_cons_zero, List.getElem?_cons_succ, List.set_cons_zero, List.set_cons_succ, Option.some.injEq, Sl.v.injEq, exists_eq_left', PyData.bool.injEq, PyData.int.injEq, PyData.str.injEq, PyData.tuple.injEq, PyData.list.injEq, snap_none, snap_bool, snap_int, snap_str, snap_list, snap_tuple, ltD_int, eqvD_int, dRaise, dRaise0, told_ok, told_er, dLc, dLcX, diSrc, items_str, items_tup, items_lst, wipeR, DL.strip, diRange1, diRange2, dgTup, dgCons, dgNil, List.cons.injEq, and_true, true_and, forall_eq_apply_imp_iff, exists_eq_left, ↓reduceIte, Bool.not_true, Bool.not_false, Bool.false_eq_true, if_true, if_false]
        refine lc_pure (fun d => if inD d (.str signsK) = true then none else some (.int 1)) (by rw [sizeLine_eq]; simp [DL.signs, hcs]; omega) ?_ fun d hd acc k ha hk => ?_
        · by_cases h : ∀ c ∈ z.cps.toList, c ∈ sigs
          · have e0 : (DL.signs z).filterMap (fun d => if inD d (.str signsK) = true then none else some (PyData.int 1)) = [] := by
              rw [List.filterMap_eq_nil_iff]
              intro d hd
              obtain ⟨c, hc, rfl⟩ := List.mem_map.mp hd
              rw [in_sig, if_pos (decide_eq_true (h c hc))]
            have e1 : idxs z.cps.toList = some (z.cps.toList.map fun c => (sigs.idxOf c : Int)) := if_pos (List.all_eq_true.mpr fun c hc => decide_eq_true (h c hc))
            rw [e0]
            simp only [pk, e1, Option.map_some] at q
            refine ⟨by decide, ⟨by rfl, by rfl, by simp [PyData.depth, PyData.depthAll]⟩, ?_⟩
            refine ifF (by simp [eqv_nil]) ?_
            simp only [dSeq, dNext, dRet, dRetN, dIfS, dSet, dDrop, dAsg, dPar, dCont, dBreak, dBin, dCmp, dTest, dAnd, dOr, dNot, dAndV, dOrV, dNotV, dIf, dChain, dCB, dBM, dBM0, dCall, dC, dCons, dNil, dTup, dLst, dLstM, dStar, dYes, dNeg, dSlice, dNoPart, dPart, dgName, dVar, dIsN, dNotN, startD, List.map_cons, List.map_nil, List.cons_append, List.nil_append, List.replicate_zero, List.replicate_succ, List.length_cons, List.length_nil, Nat.sub_self, Nat.reduceSub, Nat.reduceAdd, List.getElem?_cons_zero, List.getElem?_cons_succ, List.set_cons_zero, List.set_cons_succ, Option.some.injEq, Sl.v.injEq, exists_eq_left', PyData.bool.injEq, PyData.int.injEq, PyData.str.injEq, PyData.tuple.injEq, PyData.list.injEq, snap_none, snap_bool, snap_int, snap_str, snap_list, snap_tuple, ltD_int, eqvD_int, dRaise, dRaise0, told_ok, told_er, dLc, dLcX, diSrc, items_str, items_tup, items_lst, wipeR, DL.strip, diRange1, diRange2, dgTup, dgCons, dgNil, List.cons.injEq, and_true, true_and, forall_eq_apply_imp_iff, exists_eq_left, ↓reduceIte, Bool.not_true, Bool.not_false, Bool.false_eq_true, if_true, if_false, dAdd, fs_two, q_len (hl _)]
            refine ⟨by decide, by decide, ?_⟩
            refine lc_map (fun d => match d with | .str x => .int (sigs.idxOf (x.cps.getD 0 0)) | d => d) (by rw [sizeLine_eq]; simp [DL.signs, hcs]; omega) ?_ fun d hd acc k ha hk => ?_
            · have e2 : (DL.signs z).map (fun d => match d with | .str x => PyData.int (sigs.idxOf (x.cps.getD 0 0)) | d => d) = (z.cps.toList.map fun c => (sigs.idxOf c : Int)).map PyData.int := by
                rw [DL.signs, List.map_map, List.map_map]
                rfl
              rw [e2]
              refine ⟨_, _, rfl, .inl (by rfl), by rw [sizeLine_eq]; simp [hcs]; omega, sett_now ?_⟩
              simpa using q
            · obtain ⟨c, hc, rfl⟩ := List.mem_map.mp hd
              simp only [dSeq, dNext, dRet, dRetN, dIfS, dSet, dDrop, dAsg, dPar, dCont, dBreak, dBin, dCmp, dTest, dAnd, dOr, dNot, dAndV, dOrV, dNotV, dIf, dChain, dCB, dBM, dBM0, dCall, dC, dCons, dNil, dTup, dLst, dLstM, dStar, dYes, dNeg, dSlice, dNoPart, dPart, dgName, dVar, dIsN, dNotN, startD, List.map_cons, List.map_nil, List.cons_append, List.nil_append, List.replicate_zero, List.replicate_succ, List.length_cons, List.length_nil, Nat.sub_self, Nat.reduceSub, Nat.reduceAdd, List.getElem?_cons_zero, List.getElem?_cons_succ, List.set_cons_zero, List.set_cons_succ, Option.some.injEq, Sl.v.injEq, exists_eq_left', PyData.bool.injEq, PyData.int.injEq, PyData.str.injEq, PyData.tuple.injEq, PyData.list.injEq, snap_none, snap_bool, snap_int, snap_str, snap_list, snap_tuple, ltD_int, eqvD_int, dRaise, dRaise0, told_ok, told_er, dLc, dLcX, diSrc, items_str, items_tup, items_lst, wipeR, DL.strip, diRange1, diRange2, dgTup, dgCons, dgNil, List.cons.injEq, and_true, true_and, forall_eq_apply_imp_iff, exists_eq_left, ↓reduceIte, Bool.not_true, Bool.not_false, Bool.false_eq_true, if_true, if_false, fs_signs, dSindex]
              exact ⟨rfl, _, ⟨#[c]⟩, _, _, rfl, rfl, occ_sig c (h c hc), ha, hk⟩
          · have e1 : idxs z.cps.toList = none := if_neg fun z => h fun c hc => of_decide_eq_true (List.all_eq_true.mp z c hc)
            simp only [pk, e1, Option.map_none] at q
            have e0 : (DL.signs z).filterMap (fun d => if inD d (.str signsK) = true then none else some (PyData.int 1)) ≠ [] := by
              intro e
              refine h fun c hc => ?_
              have := List.filterMap_eq_nil_iff.mp e (sgn c) (List.mem_map.mpr ⟨c, hc, rfl⟩)
              rw [in_sig] at this
              by_cases hcs : c ∈ sigs
              · exact hcs
              · rw [if_neg (by simpa using hcs)] at this
                cases this
            have e3 : PyData.plainAll ((DL.signs z).filterMap (fun d => if inD d (.str signsK) = true then none else some (PyData.int 1))) = true ∧ PyData.depthAll ((DL.signs z).filterMap (fun d => if inD d (.str signsK) = true then none else some (PyData.int 1))) = 0 := by
              generalize DL.signs z = l
              induction l with
              | nil => exact ⟨rfl, by rfl⟩
              | cons a l ih =>
                rw [List.filterMap_cons]
                split
                · exact ih
                · rename_i b e
                  split at e
                  · cases e
                  · cases e
                    refine ⟨?_, ?_⟩
                    · rw [PyData.plainAll, ih.1]; rfl
                    · rw [PyData.depthAll, ih.2]; rfl
            refine ⟨by decide, ⟨?_, by rfl, ?_⟩, ?_⟩
            · exact e3.1
            · simp [PyData.depth, e3.2]
            · refine ifT (by rw [eqv_nil]; simpa [List.isEmpty_iff] using e0) (sett_now q)
        · obtain ⟨c, hc, rfl⟩ := List.mem_map.mp hd
          simp only [dSeq, dNext, dRet, dRetN, dIfS, dSet, dDrop, dAsg, dPar, dCont, dBreak, dBin, dCmp, dTest, dAnd, dOr, dNot, dAndV, dOrV, dNotV, dIf, dChain, dCB, dBM, dBM0, dCall, dC, dCons, dNil, dTup, dLst, dLstM, dStar, dYes, dNeg, dSlice, dNoPart, dPart, dgName, dVar, dIsN, dNotN, startD, List.map_cons, List.map_nil, List.cons_append, List.nil_append, List.replicate_zero, List.replicate_succ, List.length_cons, List.length_nil, Nat.sub_self, Nat.reduceSub, Nat.reduceAdd, List.getElem?_cons_zero, List.getElem?_cons_succ, List.set_cons_zero, List.set_cons_succ, Option.some.injEq, Sl.v.injEq, exists_eq_left', PyData.bool.injEq, PyData.int.injEq, PyData.str.injEq, PyData.tuple.injEq, PyData.list.injEq, snap_none, snap_bool, snap_int, snap_str, snap_list, snap_tuple, ltD_int, eqvD_int, dRaise, dRaise0, told_ok, told_er, dLc, dLcX, diSrc, items_str, items_tup, items_lst, wipeR, DL.strip, diRange1, diRange2, dgTup, dgCons, dgNil, List.cons.injEq, and_true, true_and, forall_eq_apply_imp_iff, exists_eq_left, ↓reduceIte, Bool.not_true, Bool.not_false, Bool.false_eq_true, if_true, if_false, fs_signs]
          refine ⟨⟨rfl, rfl, by simp [PyData.depth, sgn], .inl ⟨_, _, rfl, rfl⟩⟩, ?_⟩
          rcases Bool.eq_false_or_eq_true (inD (sgn c) (.str signsK)) with h | h
          · rw [h] at hk
            exact ifF (by rw [show inD (.str ⟨#[c]⟩) (.str signsK) = true from h]; decide) (by simpa using hk)
          · rw [h] at hk
            exact ifT (by rw [show inD (.str ⟨#[c]⟩) (.str signsK) = false from h]; rfl) ⟨ha, by simpa using hk⟩
      | tuple xs =>
        refine ifF (by simp [isInt, isT]) (ifF (by simp [isT]) ?_)
        have hl : ∀ μ, lenD (snap μ (.tuple xs)) = some xs.length := fun μ => by rw [snap_tuple, lenD_tuple]
        simp only [sz] at hs
        have hxl := sz_len xs
        refine ifF (by simp [isT]) ⟨peq_int, ?_⟩
        by_cases hk : k = 20
        · refine ifT (by simp [hk]) ?_
          simp only [pk, if_pos hk] at q
          exact sett_now q
        · refine ifF (by simp [hk]) ?_
          simp only [pk, if_neg hk] at q
          simp only [dSeq, dNext, dRet, dRetN, dIfS, dSet, dDrop, dAsg, dPar, dCont, dBreak, dBin, dCmp, dTest, dAnd, dOr, dNot, dAndV, dOrV, dNotV, dIf, dChain, dCB, dBM, dBM0, dCall, dC, dCons, dNil, dTup, dLst, dLstM, dStar, dYes, dNeg, dSlice, dNoPart, dPart, dgName, dVar, dIsN, dNotN, startD, List.map_cons, List.map_nil, List.cons_append, List.nil_append, List.replicate_zero, List.replicate_succ, List.length_cons, List.length_nil, Nat.sub_self, Nat.reduceSub, Nat.reduceAdd, List.getElem?_cons_zero, List.getElem?_cons_succ, List.set_cons_zero, List.set_cons_succ, Option.some.injEq, Sl.v.injEq, exists_eq_left', PyData.bool.injEq, PyData.int.injEq, PyData.str.injEq, PyData.tuple.injEq, PyData.list.injEq, snap_none, snap_bool, snap_int, snap_str, snap_list, snap_tuple, ltD_int, eqvD_int, dRaise, dRaise0, told_ok, told_er, dLc, dLcX, diSrc, items_str, items_tup, items_lst, wipeR, DL.strip, diRange1, diRange2, dgTup, dgCons, dgNil, List.cons.injEq, and_true, true_and, forall_eq_apply_imp_iff, exists_eq_left, ↓reduceIte, Bool.not_true, Bool.not_false, Bool.false_eq_true, if_true, if_false, dAdd, fs_two, q_len (hl _), dFor]
          refine ⟨by decide, by decide, ?_⟩
          refine forL_ind (fun rest ρ' μ' => ∃ acc c e, ρ' = [some (.v (.tuple xs)), some (.v (.int k)), some (.v (.tuple (acc.map .int))), c, e, none] ∧ μ' = μ ∧ acc.length + szAll rest ≤ 60000 ∧ PyData.depthAll rest < n ∧
            R (match (pkAll rest (k + 1)).map (acc ++ ·) with | some l => .tuple (l.map .int) | none => .none) μ) ?_ ?_ xs _ _ ⟨[3, (xs.length : Int) / 256, (xs.length : Int) % 256], none, none, rfl, rfl, by simpa using hs, ?_, ?_⟩
          · rintro _ _ ⟨acc, c, e, rfl, rfl, _, _, q⟩
            simp only [pkAll, Option.map_some, List.append_nil] at q
            simp only [dSeq, dNext, dRet, dRetN, dIfS, dSet, dDrop, dAsg, dPar, dCont, dBreak, dBin, dCmp, dTest, dAnd, dOr, dNot, dAndV, dOrV, dNotV, dIf, dChain, dCB, dBM, dBM0, dCall, dC, dCons, dNil, dTup, dLst, dLstM, dStar, dYes, dNeg, dSlice, dNoPart, dPart, dgName, dVar, dIsN, dNotN, startD, List.map_cons, List.map_nil, List.cons_append, List.nil_append, List.replicate_zero, List.replicate_succ, List.length_cons, List.length_nil, Nat.sub_self, Nat.reduceSub, Nat.reduceAdd, List.getElem?_cons_zero, List.getElem?_cons_succ, List.set_cons_zero, List.set_cons_succ, Option.some.injEq, Sl.v.injEq, exists_eq_left', PyData.bool.injEq, PyData.int.injEq, PyData.str.injEq, PyData.tuple.injEq, PyData.list.injEq, snap_none, snap_bool, snap_int, snap_str, snap_list, snap_tuple, ltD_int, eqvD_int, dRaise, dRaise0, told_ok, told_er, dLc, dLcX, diSrc, items_str, items_tup, items_lst, wipeR, DL.strip, diRange1, diRange2, dgTup, dgCons, dgNil, List.cons.injEq, and_true, true_and, forall_eq_apply_imp_iff, exists_eq_left, ↓reduceIte, Bool.not_true, Bool.not_false, Bool.false_eq_true, if_true, if_false]
            exact sett_now q
          · rintro d rest _ _ ⟨acc, c, e0, rfl, rfl, hsm, hdep, q⟩ ih2
            simp only [szAll] at hsm
            simp only [PyData.depthAll] at hdep
            simp only [dSeq, dNext, dRet, dRetN, dIfS, dSet, dDrop, dAsg, dPar, dCont, dBreak, dBin, dCmp, dTest, dAnd, dOr, dNot, dAndV, dOrV, dNotV, dIf, dChain, dCB, dBM, dBM0, dCall, dC, dCons, dNil, dTup, dLst, dLstM, dStar, dYes, dNeg, dSlice, dNoPart, dPart, dgName, dVar, dIsN, dNotN, startD, List.map_cons, List.map_nil, List.cons_append, List.nil_append, List.replicate_zero, List.replicate_succ, List.length_cons, List.length_nil, Nat.sub_self, Nat.reduceSub, Nat.reduceAdd, List.getElem?_cons_zero, List.getElem?_cons_succ, List.set_cons_zero, List.set_cons_succ, Option.some.injEq, Sl.v.injEq, exists_eq_left', PyData.bool.injEq, PyData.int.injEq, PyData.str.injEq, PyData.tuple.injEq, PyData.list.injEq, snap_none, snap_bool, snap_int, snap_str, snap_list, snap_tuple, ltD_int, eqvD_int, dRaise, dRaise0, told_ok, told_er, dLc, dLcX, diSrc, items_str, items_tup, items_lst, wipeR, DL.strip, diRange1, diRange2, dgTup, dgCons, dgNil, List.cons.injEq, and_true, true_and, forall_eq_apply_imp_iff, exists_eq_left, ↓reduceIte, Bool.not_true, Bool.not_false, Bool.false_eq_true, if_true, if_false, dAdd, fs_bo, dgName]
            refine ⟨d, k + 1, ⟨rfl, rfl⟩, by omega, by omega, by omega, by omega, ?_⟩
            simp only [pkAll] at q
            cases e : pk d (k + 1) with
            | none => rw [e] at q; exact ifT rfl (sett_now q)
            | some l =>
              rw [e] at q
              dsimp only at q ⊢
              have hl2 := pk_len d (k + 1) l e
              refine ifF (by simp [isN]) ?_
              refine ⟨by rw [sizeLine_eq]; simp only [List.length_map]; omega, ?_⟩
              rw [← List.map_append]
              refine ih2 _ _ ⟨acc ++ l, _, _, rfl, rfl, by simp only [List.length_append]; omega, by omega, ?_⟩
              cases e2 : pkAll rest (k + 1) with
              | none => rw [e2] at q; exact q
              | some l2 => rw [e2] at q; simpa using q
          · simp only [PyData.depth] at hdp; omega
          · cases e : pkAll xs (k + 1) with
            | none => rw [e] at q; exact q
            | some l => rw [e] at q; simpa using q
      | dict kvs => exact absurd rfl (hnd kvs)
      | none =>
        simp only [pk] at q
        exact ifF (by simp [isInt, isT]) (ifF (by simp [isT]) (ifT (by simp [isT]) (sett_now q)))
      | bool b =>
        simp only [pk] at q
        exact ifF (by simp [isInt, isT]) (ifF (by simp [isT]) (ifT (by simp [isT]) (sett_now q)))
      | list xs =>
        simp only [pk] at q
        exact ifF (by simp [isInt, isT]) (ifF (by simp [isT]) (ifT (by simp [isT]) (sett_now q)))
end
end K15
set_option Elab.async false
set_option linter.all false
set_option maxRecDepth 100000
set_option maxHeartbeats 1000000
namespace K15
open PySem PySem.Spec PyProof.Rows L2 DL
/-- drawn data, n levels deep -/
structure Dat (n : Nat) (d : D) : Prop where
  pl : d.plain = true
  sh : d.showable = true
  hd : d.hasDict = false
  dp : d.depth ≤ n + 1
  sz : sz d ≤ 8 * 4 ^ n
  ln : d.shown.length ≤ 40 * 4 ^ n
theorem Dat.mono {m n : Nat} {d : D} (h : Dat m d) (hm : m ≤ n) : Dat n d := by
  have hp : 4 ^ m ≤ 4 ^ n := Nat.pow_le_pow_right (by decide) hm
  exact ⟨h.pl, h.sh, h.hd, by have := h.dp; omega, by have := h.sz; omega, by have := h.ln; omega⟩
def datB (d : D) : Bool := d.plain && (d.showable && (!d.hasDict && (decide (d.depth ≤ 1) && (decide (sz d ≤ 8) && decide (d.shown.length ≤ 40)))))
theorem dat_of {n : Nat} {d : D} (h : datB d = true) : Dat n d := by
  simp only [datB, Bool.and_eq_true, decide_eq_true_eq, Bool.not_eq_true'] at h
  obtain ⟨h1, h2, h3, h4, h5, h6⟩ := h
  exact Dat.mono (m := 0) ⟨h1, h2, h3, by omega, by omega, by omega⟩ (Nat.zero_le n)
theorem tup_len (ts : List Str) : (tupleText ts).length ≤ (ts.map (·.length)).sum + 2 * ts.length + 3 := by
  unfold tupleText
  have h := StrLaws.join_length_le (", " : Str) ts
  rw [Str.length_append, Str.length_append]
  have e1 : ((", " : String) : Str).length = 2 := rfl
  have e2 : ((if ts.length == 1 then ",)" else ")" : String) : Str).length ≤ 2 := by split <;> decide
  have e3 : (("(" : String) : Str).length = 1 := rfl
  rw [e1] at h
  rw [e3]
  omega
theorem dat_tup {n : Nat} {xs : List D} (hl : xs.length ≤ 3) (h : ∀ x ∈ xs, Dat n x) : Dat (n + 1) (.tuple xs) := by
  have h1 : PyData.plainAll xs = true ∧ PyData.showableAll xs = true ∧ PyData.hasDictAll xs = false ∧ PyData.depthAll xs ≤ n + 1 ∧ szAll xs ≤ xs.length * (8 * 4 ^ n) ∧ ((PyData.shownAll xs).map (·.length)).sum ≤ xs.length * (40 * 4 ^ n) ∧ (PyData.shownAll xs).length = xs.length := by
    clear hl
    induction xs with
    | nil => simp [PyData.plainAll, PyData.showableAll, PyData.hasDictAll, PyData.depthAll, szAll, PyData.shownAll]
    | cons x xs ih =>
      obtain ⟨a1, a2, a3, a4, a5, a6, a7⟩ := ih fun y hy => h y (List.mem_cons_of_mem _ hy)
      have hx := h x List.mem_cons_self
      refine ⟨by rw [PyData.plainAll, hx.pl, a1]; rfl, by rw [PyData.showableAll, hx.sh, a2]; rfl, by rw [PyData.hasDictAll, hx.hd, a3]; rfl, by rw [PyData.depthAll]; have := hx.dp; omega, ?_, ?_, by rw [PyData.shownAll, List.length_cons, a7, List.length_cons]⟩
      · rw [szAll, List.length_cons, Nat.succ_mul]; have := hx.sz; omega
      · rw [PyData.shownAll, List.map_cons, List.sum_cons, List.length_cons, Nat.succ_mul]; have := hx.ln; omega
  obtain ⟨a1, a2, a3, a4, a5, a6, a7⟩ := h1
  have hp : 1 ≤ 4 ^ n := Nat.pos_of_ne_zero (by simp)
  have hq : 4 ^ (n + 1) = 4 * 4 ^ n := by rw [Nat.pow_succ]; omega
  have b1 : xs.length * (8 * 4 ^ n) ≤ 3 * (8 * 4 ^ n) := Nat.mul_le_mul_right _ hl
  have b2 : xs.length * (40 * 4 ^ n) ≤ 3 * (40 * 4 ^ n) := Nat.mul_le_mul_right _ hl
  refine ⟨by simpa [PyData.plain] using a1, by simpa [PyData.showable] using a2, by simpa [PyData.hasDict] using a3, by simp only [PyData.depth]; omega, by simp only [K15.sz]; omega, ?_⟩
  simp only [PyData.shown]
  have := tup_len (PyData.shownAll xs)
  omega
section
variable {K : PySem.W.Frag} {mg : Str → Option Value} {base : Heap} {w : World}
def fs_data (n : Nat) : FSp := fun ds μ R _ => ∃ a xs, ds = [dref a, .int n] ∧ μ a = some (.lst xs) ∧ BagOk xs ∧ ∀ d ys, Dat n d → BagOk ys → R d (mset μ a (.lst ys))
def leafs : List D := [.int 0, .int 1, .int 255, .int 256, .int 65535, .str "", .str "a", .str "a'b-.", .str "z?", .int 7, .int 300]
def odds : List D := [.int (-1), .int 65536, .bool true, .none, .str "A", .str "{", .list [.int 1], .int (10 ^ 30)]
theorem leafs_ok {n : Nat} : ∀ d ∈ leafs, Dat n d := fun d hd => dat_of (List.all_eq_true.mp (by decide +kernel : leafs.all datB = true) d hd)
theorem odds_ok {n : Nat} : ∀ d ∈ odds, Dat n d := fun d hd => dat_of (List.all_eq_true.mp (by decide +kernel : odds.all datB = true) d hd)
theorem o__law_data_at (g : G K mg base) : ∀ n, Okk prog w K mg base CX0 (n + 4) "_law_data" ["bag", "deep"] (fs_data n) := by
  have core : ∀ (n : Nat) (fsi : FSp) (ih : Okk prog w K mg base CX0 (n + 3) "_law_data" ["bag", "deep"] fsi) (h : n ≠ 0 → fsi = fs_data (n - 1)), Okk prog w K mg base CX0 (n + 4) "_law_data" ["bag", "deep"] (fs_data n) := by
    intro n fsi ih hfi
    obtain ⟨fd, F⟩ := d__law_data g
    have nd : (["bag", "deep", "way", "at"] : List Str).Nodup := by decide
    refine ⟨_, fd, gl__law_data g, F.kp, fun_ok (k := n + 3) F (C8.fnScope_by (by decide +kernel) : FnScope ["bag", "deep", "way", "at"] ["bag", "deep"] _) ?l (fun cdv A outer s H E Γ hcd hr => (dss_cons (ds_set (i := 2) nd (de_callO (o__law_take g) hr (by omega) (by rfl) lx0 (da_cons (de_var 0) (da_cons de_int da_nil))))
      (dss_cons (ds_if (DW.dt (dw_or (dt_lt hr (de_var 2) de_int) (dw_or1 (dt_eq hr (de_var 1) de_int)))) (dss_one (ds_ret (de_callO (o__law_some g) hr (by omega) (by rfl) lx0 (da_cons (de_var 0) (da_cons (de_lst (da_cons de_int (da_cons de_int (da_cons de_int (da_cons de_int (da_cons de_int (da_cons de_str (da_cons de_str (da_cons de_str (da_cons de_str (da_cons de_int (da_cons de_int da_nil)))))))))))) da_nil))))) dss_nil)
      (dss_cons (ds_if (DW.dt (dw_and (dt_eq hr (de_var 2) de_int) (dw_and1 (dt_eq hr (de_callO (o__law_take g) hr (by omega) (by rfl) lx0 (da_cons (de_var 0) (da_cons de_int da_nil))) de_int)))) (dss_one (ds_ret (de_callO (o__law_some g) hr (by omega) (by rfl) lx0 (da_cons (de_var 0) (da_cons (de_lst (da_cons (de_neg de_int) (da_cons de_int (da_cons de_bl (da_cons de_non (da_cons de_str (da_cons de_str (da_cons (de_lst (da_cons de_int da_nil)) (da_cons (de_pow de_int de_int) da_nil))))))))) da_nil))))) dss_nil)
      (dss_one (ds_ret (de_callTy call_tuple_of calld_tupOf (by rfl) (b_tuple g) PyProof.Rows.Boot.«tuple» (da_cons (de_lc (own := [("at", 3)]) rfl nd (di_range1 (by rfl) (b_range g) (da_cons (de_callO (o__law_take g) hr (by omega) (by rfl) lx0 (da_cons (de_var 0) (da_cons de_int da_nil))) da_nil)) (by rfl) (fun s1 H1 C1 cl1 fp1 => (dc_name (i := 3) nd)) (fun s1 H1 C1 cl1 fp1 => dts_nil) (fun s1 H1 C1 cl1 fp1 => (de_callO (ih) hr (by omega) (by rfl) lx0 (da_cons (de_var 0) (da_cons (de_sub (de_var 1) de_int) da_nil))))) da_nil))))))))
      ?r, F.binds (fun _ _ _ _ _ _ us hl => match us, hl with | [_, _], _ => rfl)⟩
    case l => intro ds μ R EX ⟨_, _, e, _⟩; rw [e]; rfl
    case r =>
      rintro ds μ R EX ⟨a, xs, rfl, em, B, q⟩
      simp only [dSeq, dNext, dRet, dRetN, dIfS, dSet, dDrop, dAsg, dPar, dCont, dBreak, dBin, dCmp, dTest, dAnd, dOr, dNot, dAndV, dOrV, dNotV, dIf, dChain, dCB, dBM, dBM0, dCall, dC, dCons, dNil, dTup, dLst, dLstM, dStar, dYes, dNeg, dSlice, dNoPart, dPart, dgName, dVar, dIsN, dNotN, startD, List.map_cons, List.map_nil, List.cons_append, List.nil_append, List.replicate_zero, List.replicate_succ, List.length_cons, List.length_nil, Nat.sub_self, Nat.reduceSub, Nat.reduceAdd, List.getElem?_cons_zero, List.getElem?_cons_succ, List.set_cons_zero, List.set_cons_succ, Option.some.injEq, Sl.v.injEq, exists_eq_left', PyData.bool.injEq, PyData.int.injEq, PyData.str.injEq, PyData.tuple.injEq, PyData.list.injEq, snap_none, snap_bool, snap_int, snap_str, snap_list, snap_tuple, ltD_int, eqvD_int, dRaise, dRaise0, told_ok, told_er, dLc, dLcX, diSrc, items_str, items_tup, items_lst, wipeR, DL.strip, diRange1, diRange2, dgTup, dgCons, dgNil, List.cons.injEq, and_true, true_and, forall_eq_apply_imp_iff, exists_eq_left, ↓reduceIte, Bool.not_true, Bool.not_false, Bool.false_eq_true, if_true, if_false]
      refine take_of em B (by decide) (by decide) fun way ys h0 h1 By => ?_
      have leaf : ∀ (ys : List D) (EX' : DXQ), BagOk ys → fs_some [dref a, .list leafs] (mset μ a (.lst ys)) (Sett R) EX' := fun ys EX' By => someL_on By (by decide) (by decide) fun t ys ht By => sett_now (q t ys (leafs_ok t ht) By)
      refine ⟨plt_int, ?_⟩
      by_cases hw : way < 3
      · exact ifT (ltT hw) ⟨by decide, leaf ys _ By⟩
      refine ifF (ltF hw) ⟨peq_int, ?_⟩
      by_cases hn : n = 0
      · exact ifT (by simpa using hn) ⟨by decide, leaf ys _ By⟩
      refine ifF (by simpa using hn) ?_
      rw [hfi hn]
      have tail : ∀ ys, BagOk ys → dCall fs_take (fun _ _ _ => False) (dCons (dVar 0) (dCons (dC (.int 4)) dNil)) [some (.v (dref a)), some (.v (.int n)), some (.v (.int way)), none] (mset μ a (.lst ys)) (fun x μ1 => ∃ j : Int, x = .int j ∧ (-2 ^ 62 ≤ j ∧ j < 2 ^ 62) ∧
          dLcL (dgName 3) dYes (dCall (fs_data (n - 1)) (fun _ _ _ => False) (dCons (dVar 0) (dCons (dBin (dI (fun i j => i - j) fun _ _ => True) (dVar 1) (dC (.int 1))) dNil))) [some (.v (dref a)), some (.v (.int n)), some (.v (.int way)), none] (intsD 0 j.toNat) [] μ1 fun out μ2 => dTupOf [.list out] μ2 (Sett R)) := fun ys By => by
        simp only [dSeq, dNext, dRet, dRetN, dIfS, dSet, dDrop, dAsg, dPar, dCont, dBreak, dBin, dCmp, dTest, dAnd, dOr, dNot, dAndV, dOrV, dNotV, dIf, dChain, dCB, dBM, dBM0, dCall, dC, dCons, dNil, dTup, dLst, dLstM, dStar, dYes, dNeg, dSlice, dNoPart, dPart, dgName, dVar, dIsN, dNotN, startD, List.map_cons, List.map_nil, List.cons_append, List.nil_append, List.replicate_zero, List.replicate_succ, List.length_cons, List.length_nil, Nat.sub_self, Nat.reduceSub, Nat.reduceAdd, List.getElem?_cons_zero, List.getElem?_cons_succ, List.set_cons_zero, List.set_cons_succ, Option.some.injEq, Sl.v.injEq, exists_eq_left', PyData.bool.injEq, PyData.int.injEq, PyData.str.injEq, PyData.tuple.injEq, PyData.list.injEq, snap_none, snap_bool, snap_int, snap_str, snap_list, snap_tuple, ltD_int, eqvD_int, dRaise, dRaise0, told_ok, told_er, dLc, dLcX, diSrc, items_str, items_tup, items_lst, wipeR, DL.strip, diRange1, diRange2, dgTup, dgCons, dgNil, List.cons.injEq, and_true, true_and, forall_eq_apply_imp_iff, exists_eq_left, ↓reduceIte, Bool.not_true, Bool.not_false, Bool.false_eq_true, if_true, if_false]
        refine take_on By (by decide) (by decide) fun j ys j0 j1 By => ⟨j, rfl, ⟨by omega, by omega⟩, ?_⟩
        refine lcL_ind (fun rest acc μ' => ∃ ys, μ' = mset μ a (.lst ys) ∧ BagOk ys ∧ acc.length + rest.length ≤ 3 ∧ ∀ x ∈ acc, Dat (n - 1) x) ?_ ?_ _ _ _ ⟨ys, rfl, By, by simp [intsD]; omega, fun x hx => nomatch hx⟩
        · rintro acc _ ⟨ys, rfl, By, hl, hd⟩
          refine ⟨_, acc, rfl, .inl (by rfl), sett_now (q _ ys ?_ By)⟩
          have := dat_tup (by simpa using hl) hd
          rwa [Nat.sub_add_cancel (by omega)] at this
        · rintro d rest acc _ ⟨ys, rfl, By, hl, hd⟩ ih2
          simp only [dSeq, dNext, dRet, dRetN, dIfS, dSet, dDrop, dAsg, dPar, dCont, dBreak, dBin, dCmp, dTest, dAnd, dOr, dNot, dAndV, dOrV, dNotV, dIf, dChain, dCB, dBM, dBM0, dCall, dC, dCons, dNil, dTup, dLst, dLstM, dStar, dYes, dNeg, dSlice, dNoPart, dPart, dgName, dVar, dIsN, dNotN, startD, List.map_cons, List.map_nil, List.cons_append, List.nil_append, List.replicate_zero, List.replicate_succ, List.length_cons, List.length_nil, Nat.sub_self, Nat.reduceSub, Nat.reduceAdd, List.getElem?_cons_zero, List.getElem?_cons_succ, List.set_cons_zero, List.set_cons_succ, Option.some.injEq, Sl.v.injEq, exists_eq_left', PyData.bool.injEq, PyData.int.injEq, PyData.str.injEq, PyData.tuple.injEq, PyData.list.injEq, snap_none, snap_bool, snap_int, snap_str, snap_list, snap_tuple, ltD_int, eqvD_int, dRaise, dRaise0, told_ok, told_er, dLc, dLcX, diSrc, items_str, items_tup, items_lst, wipeR, DL.strip, diRange1, diRange2, dgTup, dgCons, dgNil, List.cons.injEq, and_true, true_and, forall_eq_apply_imp_iff, exists_eq_left, ↓reduceIte, Bool.not_true, Bool.not_false, Bool.false_eq_true, if_true, if_false, dI]
          refine ⟨a, ys, ?_, mset_same, By, fun d ys hdd By => ⟨?_, ?_⟩⟩
          · rw [show ((n : Int) - 1) = ((n - 1 : Nat) : Int) by omega]
          · rw [sizeLine_eq]; omega
          · rw [mset_mset]
            refine ih2 _ _ ⟨ys, rfl, By, by simp only [List.length_append, List.length_cons, List.length_nil] at hl ⊢; omega, fun x hx => ?_⟩
            rcases List.mem_append.mp hx with hx | hx
            · exact hd x hx
            · rw [List.mem_singleton.mp hx]; exact hdd
      refine ⟨peq_int, ?_⟩
      by_cases h3 : way = 3
      · refine ifT (eqT h3) (take_on By (by decide) (by decide) fun j ys j0 j1 By => ⟨peq_int, ?_⟩)
        by_cases hj : j = 0
        · refine ifT (eqT hj) ?_
          simp only [dSeq, dNext, dRet, dRetN, dIfS, dSet, dDrop, dAsg, dPar, dCont, dBreak, dBin, dCmp, dTest, dAnd, dOr, dNot, dAndV, dOrV, dNotV, dIf, dChain, dCB, dBM, dBM0, dCall, dC, dCons, dNil, dTup, dLst, dLstM, dStar, dYes, dNeg, dSlice, dNoPart, dPart, dgName, dVar, dIsN, dNotN, startD, List.map_cons, List.map_nil, List.cons_append, List.nil_append, List.replicate_zero, List.replicate_succ, List.length_cons, List.length_nil, Nat.sub_self, Nat.reduceSub, Nat.reduceAdd, List.getElem?_cons_zero, List.getElem?_cons_succ, List.set_cons_zero, List.set_cons_succ, Option.some.injEq, Sl.v.injEq, exists_eq_left', PyData.bool.injEq, PyData.int.injEq, PyData.str.injEq, PyData.tuple.injEq, PyData.list.injEq, snap_none, snap_bool, snap_int, snap_str, snap_list, snap_tuple, ltD_int, eqvD_int, dRaise, dRaise0, told_ok, told_er, dLc, dLcX, diSrc, items_str, items_tup, items_lst, wipeR, DL.strip, diRange1, diRange2, dgTup, dgCons, dgNil, List.cons.injEq, and_true, true_and, forall_eq_apply_imp_iff, exists_eq_left, ↓reduceIte, Bool.not_true, Bool.not_false, Bool.false_eq_true, if_true, if_false, dI]
          refine ⟨by decide, ⟨by decide, by decide, by decide⟩, by decide, ?_⟩
          exact someL_on (ts := odds) By (by decide) (by decide) fun t ys ht By => sett_now (q t ys (odds_ok t ht) By)
        · refine ifF (eqF hj) ?_
          have := tail ys By
          simp only [dSeq, dNext, dRet, dRetN, dIfS, dSet, dDrop, dAsg, dPar, dCont, dBreak, dBin, dCmp, dTest, dAnd, dOr, dNot, dAndV, dOrV, dNotV, dIf, dChain, dCB, dBM, dBM0, dCall, dC, dCons, dNil, dTup, dLst, dLstM, dStar, dYes, dNeg, dSlice, dNoPart, dPart, dgName, dVar, dIsN, dNotN, startD, List.map_cons, List.map_nil, List.cons_append, List.nil_append, List.replicate_zero, List.replicate_succ, List.length_cons, List.length_nil, Nat.sub_self, Nat.reduceSub, Nat.reduceAdd, List.getElem?_cons_zero, List.getElem?_cons_succ, List.set_cons_zero, List.set_cons_succ, Option.some.injEq, Sl.v.injEq, exists_eq_left', PyData.bool.injEq, PyData.int.injEq, PyData.str.injEq, PyData.tuple.injEq, PyData.list.injEq, snap_none, snap_bool, snap_int, snap_str, snap_list, snap_tuple, ltD_int, eqvD_int, dRaise, dRaise0, told_ok, told_er, dLc, dLcX, diSrc, items_str, items_tup, items_lst, wipeR, DL.strip, diRange1, diRange2, dgTup, dgCons, dgNil, List.cons.injEq, and_true, true_and, forall_eq_apply_imp_iff, exists_eq_left, ↓reduceIte, Bool.not_true, Bool.not_false, Bool.false_eq_true, if_true, if_false] at this
          exact this
      · refine ifF (eqF h3) ?_
        have := tail ys By
        simp only [dSeq, dNext, dRet, dRetN, dIfS, dSet, dDrop, dAsg, dPar, dCont, dBreak, dBin, dCmp, dTest, dAnd, dOr, dNot, dAndV, dOrV, dNotV, dIf, dChain, dCB, dBM, dBM0, dCall, dC, dCons, dNil, dTup, dLst, dLstM, dStar, dYes, dNeg, dSlice, dNoPart, dPart, dgName, dVar, dIsN, dNotN, startD, List.map_cons, List.map_nil, List.cons_append, List.nil_append, List.replicate_zero, List.replicate_succ, List.length_cons, List.length_nil, Nat.sub_self, Nat.reduceSub, Nat.reduceAdd, List.getElem?_cons_zero, List.getElem?_cons_succ, List.set_cons_zero, List.set_cons_succ, Option.some.injEq, Sl.v.injEq, exists_eq_left', PyData.bool.injEq, PyData.int.injEq, PyData.str.injEq, PyData.tuple.injEq, PyData.list.injEq, snap_none, snap_bool, snap_int, snap_str, snap_list, snap_tuple, ltD_int, eqvD_int, dRaise, dRaise0, told_ok, told_er, dLc, dLcX, diSrc, items_str, items_tup, items_lst, wipeR, DL.strip, diRange1, diRange2, dgTup, dgCons, dgNil, List.cons.injEq, and_true, true_and, forall_eq_apply_imp_iff, exists_eq_left, ↓reduceIte, Bool.not_true, Bool.not_false, Bool.false_eq_true, if_true, if_false] at this
        exact this
  intro n
  induction n with
  | zero =>
    obtain ⟨fd, F⟩ := d__law_data g
    exact core 0 (fun _ _ _ _ => False) (ok_never (gl__law_data g) F.kp (F.binds (fun _ _ _ _ _ _ us hl => match us, hl with | [_, _], _ => rfl)) fun _ _ _ _ h => h) fun h => absurd rfl h
  | succ n ih => exact core (n + 1) (fs_data n) ih fun _ => rfl
end
end K15
set_option Elab.async false
set_option linter.all false
set_option maxRecDepth 100000
set_option maxHeartbeats 2000000
namespace K15
open PySem PySem.Spec PyProof.Rows L2 DL
section
variable {K : PySem.W.Frag} {mg : Str → Option Value} {base : Heap} {w : World}
def resOf (bs : List Int) : Except PErr Nat → D
  | .error e => .tuple [.int e.1, .str e.2]
  | .ok p => if p = bs.length then .none else .tuple [.int p, .str "more"]
def stk (st : List Int) : List D := st.reverse.map .int
def fs_fault : FSp := fun ds μ R _ => ∃ bs, ds = [.tuple (bs.map .int)] ∧ BsOk bs ∧ R (resOf bs (todo bs [1] 0)) μ
theorem o__law_fault (g : G K mg base) : Okk prog w K mg base CX0 2 "_law_fault" ["some"] fs_fault := by
  obtain ⟨fd, F⟩ := d__law_fault g
  have nd : (["some", "turn", "at", "line", "again", "word", "first", "many", "place"] : List Str).Nodup := by decide
  refine ⟨_, fd, gl__law_fault g, F.kp, fun_ok F (C8.fnScope_by (by decide +kernel) : FnScope ["some", "turn", "at", "line", "again", "word", "first", "many", "place"] ["some"] _) ?l (fun cdv A outer s H E Γ hcd hr => (dss_cons (ds_par (i := 2) (j := 3) rfl nd (da_cons de_int (da_cons (de_lstM (da_cons de_int da_nil)) da_nil)))
      (dss_cons (ds_for PassesOwn.never rfl (di_range1 (by rfl) (b_range g) (da_cons (de_add (de_callB call_len calld_len (by rfl) (b_len g) PyProof.Rows.Boot.«len» (da_cons (de_var 0) da_nil)) de_int) da_nil)) (dg_name (i := 1) nd) (dss_cons (ds_for PassesOwn.never rfl (di_range1 (by rfl) (b_range g) (da_cons de_int da_nil)) (dg_name (i := 4) nd) (dss_one (ds_if (DW.dt (dw_and (dt_ne hr (de_var 3) (de_lst da_nil)) (dw_and1 (dt_eq hr (de_ix (de_var 3) (de_neg de_int)) de_int)))) (dss_one (ds_expr (de_bm0 PySem.F.plainAttrs_list PySem.F.slot_list_pop PySem.F.type_list_pop mt_pop mtd_pop (de_var 3)))) dss_nil)))
      (dss_cons (ds_if (dt_eq hr (de_var 3) (de_lst da_nil)) (dss_one (ds_ret (de_if (dt_eq hr (de_var 2) (de_callB call_len calld_len (by rfl) (b_len g) PyProof.Rows.Boot.«len» (da_cons (de_var 0) da_nil))) de_non (de_tup (da_cons (de_var 2) (da_cons de_str da_nil)))))) dss_nil)
      (dss_cons (ds_if (dt_eq hr (de_var 2) (de_callB call_len calld_len (by rfl) (b_len g) PyProof.Rows.Boot.«len» (da_cons (de_var 0) da_nil))) (dss_one (ds_ret (de_tup (da_cons (de_var 2) (da_cons de_str da_nil))))) dss_nil)
      (dss_cons (ds_par (i := 5) (j := 6) rfl nd (da_cons (de_ix (de_var 0) (de_var 2)) (da_cons (de_var 2) da_nil)))
      (dss_cons (ds_if (dt_ni hr (de_var 5) (de_tup (da_cons de_int (da_cons de_int (da_cons de_int da_nil))))) (dss_one (ds_ret (de_tup (da_cons (de_var 2) (da_cons de_str da_nil))))) dss_nil)
      (dss_cons (ds_if (DW.dt (dw_and (dt_eq hr (de_var 5) de_int) (dw_and1 (dt_eq hr (de_callB call_len calld_len (by rfl) (b_len g) PyProof.Rows.Boot.«len» (da_cons (de_var 3) da_nil)) de_int)))) (dss_one (ds_ret (de_tup (da_cons (de_var 2) (da_cons de_str da_nil))))) dss_nil)
      (dss_cons (ds_if (dt_gt hr (de_add (de_var 2) de_int) (de_callB call_len calld_len (by rfl) (b_len g) PyProof.Rows.Boot.«len» (da_cons (de_var 0) da_nil))) (dss_one (ds_ret (de_tup (da_cons (de_callB call_len calld_len (by rfl) (b_len g) PyProof.Rows.Boot.«len» (da_cons (de_var 0) da_nil)) (da_cons de_str da_nil))))) dss_nil)
      (dss_cons (ds_par (i := 7) (j := 2) rfl nd (da_cons (de_add (de_mul (de_ix (de_var 0) (de_add (de_var 2) de_int)) de_int) (de_ix (de_var 0) (de_add (de_var 2) de_int))) (da_cons (de_add (de_var 2) de_int) da_nil)))
      (dss_cons (ds_augS (de_var 3) (de_neg de_int) de_int ip_sub opd_ipI)
      (dss_cons (ds_if (dt_eq hr (de_var 5) de_int) (dss_cons (ds_for PassesOwn.never rfl (di_range2 (by rfl) (b_range g) (da_cons (de_var 2) (da_cons (de_callB (call_min2 rfl) calld_2I (by rfl) (b_min g) PyProof.Rows.Boot.«min» (da_cons (de_add (de_var 2) (de_var 7)) (da_cons (de_callB call_len calld_len (by rfl) (b_len g) PyProof.Rows.Boot.«len» (da_cons (de_var 0) da_nil)) da_nil))) da_nil))) (dg_name (i := 8) nd) (dss_one (ds_if (dt_ge hr (de_ix (de_var 0) (de_var 8)) (de_callB call_len calld_len (by rfl) (b_len g) PyProof.Rows.Boot.«len» (da_cons (de_callO0 (o__law_signs g) hr (by omega) (by rfl) lx0) da_nil))) (dss_one (ds_ret (de_tup (da_cons (de_var 8) (da_cons de_str da_nil))))) dss_nil)))
      (dss_cons (ds_if (dt_gt hr (de_add (de_var 2) (de_var 7)) (de_callB call_len calld_len (by rfl) (b_len g) PyProof.Rows.Boot.«len» (da_cons (de_var 0) da_nil))) (dss_one (ds_ret (de_tup (da_cons (de_callB call_len calld_len (by rfl) (b_len g) PyProof.Rows.Boot.«len» (da_cons (de_var 0) da_nil)) (da_cons de_str da_nil))))) dss_nil)
      (dss_one (ds_aug (n := 2) nd (de_var 7) ip_add opd_ipI)))) dss_nil)
      (dss_one (ds_if (dt_eq hr (de_var 5) de_int) (dss_one (ds_expr (de_bm PySem.F.plainAttrs_list PySem.F.slot_list_append PySem.F.type_list_append mt_append mtd_append (de_var 3) (da_cons (de_var 7) da_nil)))) dss_nil)))))))))))))
      (dss_one (ds_ret de_non)))))
    ?r, F.binds (fun _ _ _ _ _ _ us hl => match us, hl with | [_], _ => rfl)⟩
  case l => intro ds μ R EX ⟨_, e, _⟩; rw [e]; rfl
  case r =>
    rintro ds μ R EX ⟨bs, rfl, B, q⟩
    have hll : ∀ μ, lenD (snap μ (.tuple (bs.map .int))) = some bs.length := fun μ => by rw [snap_tuple, lenD_tuple, List.length_map]
    have hB := B.len
    simp only [dSeq, dNext, dRet, dRetN, dIfS, dSet, dDrop, dAsg, dPar, dCont, dBreak, dBin, dCmp, dTest, dAnd, dOr, dNot, dAndV, dOrV, dNotV, dIf, dChain, dCB, dBM, dBM0, dCall, dC, dCons, dNil, dTup, dLst, dLstM, dStar, dYes, dNeg, dSlice, dNoPart, dPart, dgName, dVar, dIsN, dNotN, startD, List.map_cons, List.map_nil, List.cons_append, List.nil_append, List.replicate_zero, List.replicate_succ, List.length_cons, List.length_nil, Nat.sub_self, Nat.reduceSub, Nat.reduceAdd, List.getElem?_cons_zero, List.getElem?_cons_succ, List.set_cons_zero, List.set_cons_succ, Option.some.injEq, Sl.v.injEq, exists_eq_left', PyData.bool.injEq, PyData.int.injEq, PyData.str.injEq, PyData.tuple.injEq, PyData.list.injEq, snap_none, snap_bool, snap_int, snap_str, snap_list, snap_tuple, ltD_int, eqvD_int, dRaise, dRaise0, told_ok, told_er, dLc, dLcX, diSrc, items_str, items_tup, items_lst, wipeR, DL.strip, diRange1, diRange2, dgTup, dgCons, dgNil, List.cons.injEq, and_true, true_and, forall_eq_apply_imp_iff, exists_eq_left, ↓reduceIte, Bool.not_true, Bool.not_false, Bool.false_eq_true, if_true, if_false, ixM, ixT, ixL, ixS, lenM, lenT, lenL, snapM, List.length_map, dPar, dFor, dAdd, q_len (hll _)]
    refine ⟨by decide, fun a ha => ⟨_, _, ⟨rfl, rfl⟩, ⟨by omega, by omega⟩, ?_⟩⟩
    refine forN_ind (fun rest ρ' μ' => ∃ (p : Nat) (st : List Int) (c1 c4 c5 c6 c7 c8 : Option Sl), ρ' = [some (.v (.tuple (bs.map .int))), c1, some (.v (.int p)), some (.v (dref a)), c4, c5, c6, c7, c8] ∧ μ' = mset μ a (.lst (stk st)) ∧ p ≤ bs.length ∧ st.length ≤ 21 ∧ (∀ m ∈ st, 0 ≤ m ∧ m ≤ 65535) ∧
      bs.length - p + 1 ≤ rest.length ∧ R (resOf bs (todo bs st p)) μ) ?_ ?_ _ _ _ ⟨0, [1], none, none, none, none, none, none, rfl, rfl, Nat.zero_le _, by decide, by decide, by simp [intsD]; omega, q⟩
    · rintro _ _ ⟨p, st, c1, c4, c5, c6, c7, c8, rfl, rfl, h1, h2, h3, h4, q⟩
      simp only [List.length_nil] at h4
      omega
    · rintro d rest _ _ N ⟨p, st, c1, c4, c5, c6, c7, c8, rfl, rfl, h1, h2, h3, h4, q⟩ ih
      simp only [dgName, List.set_cons_succ, List.set_cons_zero]
      refine seq_split (fun ρ' μ' => ∃ (st : List Int) (c4 : Option Sl), ρ' = [some (.v (.tuple (bs.map .int))), some (.v d), some (.v (.int p)), some (.v (dref a)), c4, c5, c6, c7, c8] ∧ μ' = mset μ a (.lst (stk st)) ∧ st.length ≤ 21 ∧ (∀ m ∈ st, 0 ≤ m ∧ m ≤ 65535) ∧
        st.head? ≠ some 0 ∧ R (resOf bs (todo bs st p)) μ) ?_ ?_
      · clear q h2 h3
        rintro _ _ ⟨st, c4, rfl, rfl, h2, h3, h5, q⟩
        rw [seq_assoc, seq_assoc, seq_assoc, seq_assoc]
        refine seq_split (fun ρ' μ' => ∃ (m w : Int) (rs : List Int), st = m :: rs ∧ 0 < m ∧ bs[p]? = some w ∧ (w = 1 ∨ w = 2 ∨ w = 3) ∧ (w = 3 → rs.length < 20) ∧ ρ' = [some (.v (.tuple (bs.map .int))), some (.v d), some (.v (.int p)), some (.v (dref a)), c4, some (.v (.int w)), some (.v (.int p)), c7, c8] ∧ μ' = mset μ a (.lst (stk st))) ?_ ?_
        · rintro _ _ ⟨m, w, rs, rfl, hm, hw, hw3, hdeep, rfl, rfl⟩
          have hplt : p < bs.length := (List.getElem?_eq_some_iff.mp hw).1
          have hpt : ∀ n, pTh bs n p = pThF bs (match n with | 0 => none | k + 1 => some (pTh bs k)) p := fun n => by cases n <;> rfl
          have e1 : pByte bs p = .ok (w, p + 1) := by unfold pByte; rw [hw]
          rw [todo_step hm, hpt] at q
          unfold pThF at q
          rw [e1] at q
          dsimp only at q
          have es : stk (m :: rs) = stk rs ++ [.int m] := by simp [stk]
          have tgt := q
          rw [seq_assoc, seq_assoc]
          refine seq_split (fun ρ' μ' => p + 3 ≤ bs.length ∧ ∃ mm, pNum bs (p + 1) = .ok (mm, p + 3) ∧ 0 ≤ mm ∧ mm ≤ 65535 ∧ ρ' = [some (.v (.tuple (bs.map .int))), some (.v d), some (.v (.int ((p + 3 : Nat) : Int))), some (.v (dref a)), c4, some (.v (.int w)), some (.v (.int p)), some (.v (.int mm)), c8] ∧ μ' = mset μ a (.lst (stk ((m - 1) :: rs)))) ?_ ?_
          · rintro _ _ ⟨hp3, mm, en, hm0, hm1, rfl, rfl⟩
            rw [en] at q
            dsimp only at q
            simp only [List.length_cons] at h2
            rcases hw3 with rfl | rfl | rfl
            · rw [if_pos rfl] at q
              simp only [dSeq, dNext, dRet, dRetN, dIfS, dSet, dDrop, dAsg, dPar, dCont, dBreak, dBin, dCmp, dTest, dAnd, dOr, dNot, dAndV, dOrV, dNotV, dIf, dChain, dCB, dBM, dBM0, dCall, dC, dCons, dNil, dTup, dLst, dLstM, dStar, dYes, dNeg, dSlice, dNoPart, dPart, dgName, dVar, dIsN, dNotN, startD, List.map_cons, List.map_nil, List.cons_append, List.nil_append, List.replicate_zero, List.replicate_succ, List.length_cons, List.length_nil, Nat.sub_self, Nat.reduceSub, Nat.reduceAdd, List.getElem?_cons_zero, List.getElem?_cons_succ, List.set_cons_zero, List.set_cons_succ, Option.some.injEq, Sl.v.injEq, exists_eq_left', PyData.bool.injEq, PyData.int.injEq, PyData.str.injEq, PyData.tuple.injEq, PyData.list.injEq, snap_none, snap_bool, snap_int, snap_str, snap_list, snap_tuple, ltD_int, eqvD_int, dRaise, dRaise0, told_ok, told_er, dLc, dLcX, diSrc, items_str, items_tup, items_lst, wipeR, DL.strip, diRange1, diRange2, dgTup, dgCons, dgNil, List.cons.injEq, and_true, true_and, forall_eq_apply_imp_iff, exists_eq_left, ↓reduceIte, Bool.not_true, Bool.not_false, Bool.false_eq_true, if_true, if_false, ixM, ixT, ixL, ixS, lenM, lenT, lenL, snapM, List.length_map, dFor]
              refine ⟨peq_int, ifF (by decide) ⟨peq_int, ifF (by decide) ?_⟩⟩
              exact ih _ _ ⟨p + 3, (m - 1) :: rs, _, _, _, _, _, _, rfl, rfl, hp3, by simpa using h2, by
                intro x hx
                rcases List.mem_cons.mp hx with rfl | hx
                · have := h3 m List.mem_cons_self; omega
                · exact h3 x (List.mem_cons_of_mem _ hx), by simp only [List.length_cons] at h4; omega, q⟩
            · rw [if_neg (by decide), if_pos rfl] at q
              have q : R (resOf bs (match rep (pSign bs) mm.toNat (p + 3) with | .error e => .error e | .ok (_, p1) => todo bs ((m - 1) :: rs) p1)) μ := by
                cases e6 : rep (pSign bs) mm.toNat (p + 3) with
                | error e => rw [e6] at q; exact q
                | ok z => rw [e6] at q; exact q
              simp only [dSeq, dNext, dRet, dRetN, dIfS, dSet, dDrop, dAsg, dPar, dCont, dBreak, dBin, dCmp, dTest, dAnd, dOr, dNot, dAndV, dOrV, dNotV, dIf, dChain, dCB, dBM, dBM0, dCall, dC, dCons, dNil, dTup, dLst, dLstM, dStar, dYes, dNeg, dSlice, dNoPart, dPart, dgName, dVar, dIsN, dNotN, startD, List.map_cons, List.map_nil, List.cons_append, List.nil_append, List.replicate_zero, List.replicate_succ, List.length_cons, List.length_nil, Nat.sub_self, Nat.reduceSub, Nat.reduceAdd, List.getElem?_cons_zero, List.getElem?_cons_succ, List.set_cons_zero, List.set_cons_succ, Option.some.injEq, Sl.v.injEq, exists_eq_left', PyData.bool.injEq, PyData.int.injEq, PyData.str.injEq, PyData.tuple.injEq, PyData.list.injEq, snap_none, snap_bool, snap_int, snap_str, snap_list, snap_tuple, ltD_int, eqvD_int, dRaise, dRaise0, told_ok, told_er, dLc, dLcX, diSrc, items_str, items_tup, items_lst, wipeR, DL.strip, diRange1, diRange2, dgTup, dgCons, dgNil, List.cons.injEq, and_true, true_and, forall_eq_apply_imp_iff, exists_eq_left, ↓reduceIte, Bool.not_true, Bool.not_false, Bool.false_eq_true, if_true, if_false, ixM, ixT, ixL, ixS, lenM, lenT, lenL, snapM, List.length_map, dFor, dAdd, dAug, d2I, dI]
              obtain ⟨n, rfl⟩ := Int.eq_ofNat_of_zero_le hm0
              rw [Int.toNat_natCast] at q
              refine ⟨peq_int, ifT (by decide) ⟨_, _, ⟨rfl, rfl⟩, ?_⟩⟩
              have hmin : (if (bs.length : Int) < ((p + 3 : Nat) : Int) + (n : Nat) then (bs.length : Int) else ((p + 3 : Nat) : Int) + (n : Nat)) = ((min bs.length (p + 3 + n) : Nat) : Int) := by
                split <;> omega
              rw [hmin]
              refine ⟨_, _, ⟨rfl, rfl⟩, ⟨by omega, by omega, by omega, by omega⟩, ?_⟩
              have hcnt : (((min bs.length (p + 3 + n) : Nat) : Int) - ((p + 3 : Nat) : Int)).toNat = min bs.length (p + 3 + n) - (p + 3) := by omega
              rw [hcnt]
              refine forN_ind (fun rest ρ' μ' => ∃ (i k : Nat) (c8 : Option Sl), rest = intsD i rest.length ∧ ρ' = [some (.v (.tuple (bs.map .int))), some (.v d), some (.v (.int ((p + 3 : Nat) : Int))), some (.v (dref a)), c4, some (.v (.int 2)), some (.v (.int p)), some (.v (.int (n : Nat))), c8] ∧ μ' = mset μ a (.lst (stk ((m - 1) :: rs))) ∧
                i + rest.length = min bs.length (p + 3 + n) ∧ i + k = p + 3 + n ∧ R (resOf bs (match rep (pSign bs) k i with | .error e => .error e | .ok (_, p1) => todo bs ((m - 1) :: rs) p1)) μ) ?_ ?_ _ _ _ ⟨p + 3, n, c8, by rw [ints_len], rfl, rfl, by rw [ints_len]; omega, rfl, q⟩
              · rintro _ _ ⟨i, k, c8, -, rfl, rfl, hi, hk, q⟩
                simp only [List.length_nil, Nat.add_zero] at hi
                simp only [dSeq, dNext, dRet, dRetN, dIfS, dSet, dDrop, dAsg, dPar, dCont, dBreak, dBin, dCmp, dTest, dAnd, dOr, dNot, dAndV, dOrV, dNotV, dIf, dChain, dCB, dBM, dBM0, dCall, dC, dCons, dNil, dTup, dLst, dLstM, dStar, dYes, dNeg, dSlice, dNoPart, dPart, dgName, dVar, dIsN, dNotN, startD, List.map_cons, List.map_nil, List.cons_append, List.nil_append, List.replicate_zero, List.replicate_succ, List.length_cons, List.length_nil, Nat.sub_self, Nat.reduceSub, Nat.reduceAdd, List.getElem?_cons_zero, List.getElem?_cons_succ, List.set_cons_zero, List.set_cons_succ, Option.some.injEq, Sl.v.injEq, exists_eq_left', PyData.bool.injEq, PyData.int.injEq, PyData.str.injEq, PyData.tuple.injEq, PyData.list.injEq, snap_none, snap_bool, snap_int, snap_str, snap_list, snap_tuple, ltD_int, eqvD_int, dRaise, dRaise0, told_ok, told_er, dLc, dLcX, diSrc, items_str, items_tup, items_lst, wipeR, DL.strip, diRange1, diRange2, dgTup, dgCons, dgNil, List.cons.injEq, and_true, true_and, forall_eq_apply_imp_iff, exists_eq_left, ↓reduceIte, Bool.not_true, Bool.not_false, Bool.false_eq_true, if_true, if_false, ixM, ixT, ixL, ixS, lenM, lenT, lenL, snapM, List.length_map, dAdd, dI]
                refine ⟨plt_int, ?_⟩
                by_cases hlong : bs.length < p + 3 + n
                · refine ifT (by simp; omega) ⟨by decide, ?_⟩
                  obtain ⟨k, rfl⟩ : ∃ j, k = j + 1 := ⟨k - 1, by omega⟩
                  have e7 : pSign bs i = .error (bs.length, "end") := by
                    unfold pSign pByte
                    rw [List.getElem?_eq_none (by omega)]
                  simp only [rep, e7] at q
                  exact sett_sub (sub_mset ha) q
                · refine ifF (by simp; omega) ?_
                  have hk0 : k = 0 := by omega
                  subst hk0
                  simp only [dSeq, dNext, dRet, dRetN, dIfS, dSet, dDrop, dAsg, dPar, dCont, dBreak, dBin, dCmp, dTest, dAnd, dOr, dNot, dAndV, dOrV, dNotV, dIf, dChain, dCB, dBM, dBM0, dCall, dC, dCons, dNil, dTup, dLst, dLstM, dStar, dYes, dNeg, dSlice, dNoPart, dPart, dgName, dVar, dIsN, dNotN, startD, List.map_cons, List.map_nil, List.cons_append, List.nil_append, List.replicate_zero, List.replicate_succ, List.length_cons, List.length_nil, Nat.sub_self, Nat.reduceSub, Nat.reduceAdd, List.getElem?_cons_zero, List.getElem?_cons_succ, List.set_cons_zero, List.set_cons_succ, Option.some.injEq, Sl.v.injEq, exists_eq_left', PyData.bool.injEq, PyData.int.injEq, PyData.str.injEq, PyData.tuple.injEq, PyData.list.injEq, snap_none, snap_bool, snap_int, snap_str, snap_list, snap_tuple, ltD_int, eqvD_int, dRaise, dRaise0, told_ok, told_er, dLc, dLcX, diSrc, items_str, items_tup, items_lst, wipeR, DL.strip, diRange1, diRange2, dgTup, dgCons, dgNil, List.cons.injEq, and_true, true_and, forall_eq_apply_imp_iff, exists_eq_left, ↓reduceIte, Bool.not_true, Bool.not_false, Bool.false_eq_true, if_true, if_false, ixM, ixT, ixL, ixS, lenM, lenT, lenL, snapM, List.length_map, dAug, dI]
                  simp only [rep] at q
                  refine ⟨peq_int, ifF (by decide) ?_⟩
                  have hi3 : ((i : Nat) : Int) = ((p + 3 : Nat) : Int) + (n : Nat) := by omega
                  refine ih _ _ ⟨i, (m - 1) :: rs, _, _, _, _, _, _, by rw [hi3], rfl, by omega, by simpa using h2, ?_, by simp only [List.length_cons] at h4; omega, q⟩
                  intro x hx
                  rcases List.mem_cons.mp hx with rfl | hx
                  · have := h3 m List.mem_cons_self; omega
                  · exact h3 x (List.mem_cons_of_mem _ hx)
              · rintro x rest3 _ _ N3 ⟨i, k, c8, hx, rfl, rfl, hi, hk, q⟩ ih3
                simp only [List.length_cons, ints_succ] at hx hi
                obtain ⟨rfl, hx⟩ := List.cons.inj hx
                simp only [dSeq, dNext, dRet, dRetN, dIfS, dSet, dDrop, dAsg, dPar, dCont, dBreak, dBin, dCmp, dTest, dAnd, dOr, dNot, dAndV, dOrV, dNotV, dIf, dChain, dCB, dBM, dBM0, dCall, dC, dCons, dNil, dTup, dLst, dLstM, dStar, dYes, dNeg, dSlice, dNoPart, dPart, dgName, dVar, dIsN, dNotN, startD, List.map_cons, List.map_nil, List.cons_append, List.nil_append, List.replicate_zero, List.replicate_succ, List.length_cons, List.length_nil, Nat.sub_self, Nat.reduceSub, Nat.reduceAdd, List.getElem?_cons_zero, List.getElem?_cons_succ, List.set_cons_zero, List.set_cons_succ, Option.some.injEq, Sl.v.injEq, exists_eq_left', PyData.bool.injEq, PyData.int.injEq, PyData.str.injEq, PyData.tuple.injEq, PyData.list.injEq, snap_none, snap_bool, snap_int, snap_str, snap_list, snap_tuple, ltD_int, eqvD_int, dRaise, dRaise0, told_ok, told_er, dLc, dLcX, diSrc, items_str, items_tup, items_lst, wipeR, DL.strip, diRange1, diRange2, dgTup, dgCons, dgNil, List.cons.injEq, and_true, true_and, forall_eq_apply_imp_iff, exists_eq_left, ↓reduceIte, Bool.not_true, Bool.not_false, Bool.false_eq_true, if_true, if_false, ixM, ixT, ixL, ixS, lenM, lenT, lenL, snapM, List.length_map, fs_signs]
                have hlt : i < bs.length := by omega
                have eb : bs[i]? = some bs[i] := List.getElem?_eq_getElem hlt
                refine ⟨.int bs[i], L2.atI_nat (by rw [List.getElem?_map, eb]; rfl), ?_⟩
                rw [lenS (by rw [signsK_len, sizeLine_eq]; omega)]
                refine ⟨plt_int, ?_⟩
                obtain ⟨k, rfl⟩ : ∃ j, k = j + 1 := ⟨k - 1, by omega⟩
                have e7 : pSign bs i = if 56 ≤ bs[i] then .error (i, "sign") else .ok (sigs.getD bs[i].toNat 0, i + 1) := by
                  unfold pSign pByte
                  rw [eb]
                simp only [rep, e7] at q
                have elen : ((signsK.length : Nat) : Int) = 56 := by rw [signsK_len]; rfl
                simp only [snap_int, ltD_int, elen]
                by_cases h56 : 56 ≤ bs[i]
                · refine ifT (by simp; omega) ⟨by decide, ?_⟩
                  rw [if_pos h56] at q
                  exact sett_sub (sub_mset ha) q
                · refine ifF (by simp; omega) ?_
                  rw [if_neg h56] at q
                  dsimp only at q
                  refine ih3 _ _ ⟨i + 1, k, _, by simpa using hx, rfl, rfl, by omega, by omega, ?_⟩
                  cases e8 : rep (pSign bs) k (i + 1) with
                  | error e => rw [e8] at q; exact q
                  | ok z => rw [e8] at q; exact q
            · rw [if_neg (by decide), if_neg (by decide), if_pos rfl] at q
              obtain ⟨k, ek⟩ : ∃ k, 20 - rs.length = k + 1 := ⟨19 - rs.length, by have := hdeep rfl; omega⟩
              rw [ek] at q
              dsimp only at q
              simp only [dSeq, dNext, dRet, dRetN, dIfS, dSet, dDrop, dAsg, dPar, dCont, dBreak, dBin, dCmp, dTest, dAnd, dOr, dNot, dAndV, dOrV, dNotV, dIf, dChain, dCB, dBM, dBM0, dCall, dC, dCons, dNil, dTup, dLst, dLstM, dStar, dYes, dNeg, dSlice, dNoPart, dPart, dgName, dVar, dIsN, dNotN, startD, List.map_cons, List.map_nil, List.cons_append, List.nil_append, List.replicate_zero, List.replicate_succ, List.length_cons, List.length_nil, Nat.sub_self, Nat.reduceSub, Nat.reduceAdd, List.getElem?_cons_zero, List.getElem?_cons_succ, List.set_cons_zero, List.set_cons_succ, Option.some.injEq, Sl.v.injEq, exists_eq_left', PyData.bool.injEq, PyData.int.injEq, PyData.str.injEq, PyData.tuple.injEq, PyData.list.injEq, snap_none, snap_bool, snap_int, snap_str, snap_list, snap_tuple, ltD_int, eqvD_int, dRaise, dRaise0, told_ok, told_er, dLc, dLcX, diSrc, items_str, items_tup, items_lst, wipeR, DL.strip, diRange1, diRange2, dgTup, dgCons, dgNil, List.cons.injEq, and_true, true_and, forall_eq_apply_imp_iff, exists_eq_left, ↓reduceIte, Bool.not_true, Bool.not_false, Bool.false_eq_true, if_true, if_false, ixM, ixT, ixL, ixS, lenM, lenT, lenL, snapM, List.length_map, dFor, dAppend]
              refine ⟨peq_int, ifF (by decide) ⟨peq_int, ifT (by decide) ⟨by simp only [tyM, snapM], a, _, _, rfl, rfl, mset_same, ?_, ?_⟩⟩⟩
              · simp only [stk, List.length_map, List.length_reverse, List.length_cons]
                rw [sizeLine_eq]
                omega
              rw [mset_mset]
              refine ih _ _ ⟨p + 3, mm :: (m - 1) :: rs, _, _, _, _, _, _, rfl, by simp [stk], hp3, ?_, ?_, ?_, ?_⟩
              · have := hdeep rfl
                simp only [List.length_cons]
                omega
              · intro x hx
                rcases List.mem_cons.mp hx with rfl | hx
                · exact ⟨hm0, hm1⟩
                rcases List.mem_cons.mp hx with rfl | hx
                · have := h3 m List.mem_cons_self; omega
                · exact h3 x (List.mem_cons_of_mem _ hx)
              · simp only [List.length_cons] at h4; omega
              · rw [todo]
                have e5 : 20 - ((m - 1) :: rs).length = k := by simp only [List.length_cons]; omega
                rw [e5]
                cases e6 : rep (pTh bs k) mm.toNat (p + 3) with
                | error e => rw [e6] at q; exact q
                | ok z => rw [e6] at q; exact q
          intro Y hY
          simp only [dSeq, dNext, dRet, dRetN, dIfS, dSet, dDrop, dAsg, dPar, dCont, dBreak, dBin, dCmp, dTest, dAnd, dOr, dNot, dAndV, dOrV, dNotV, dIf, dChain, dCB, dBM, dBM0, dCall, dC, dCons, dNil, dTup, dLst, dLstM, dStar, dYes, dNeg, dSlice, dNoPart, dPart, dgName, dVar, dIsN, dNotN, startD, List.map_cons, List.map_nil, List.cons_append, List.nil_append, List.replicate_zero, List.replicate_succ, List.length_cons, List.length_nil, Nat.sub_self, Nat.reduceSub, Nat.reduceAdd, List.getElem?_cons_zero, List.getElem?_cons_succ, List.set_cons_zero, List.set_cons_succ, Option.some.injEq, Sl.v.injEq, exists_eq_left', PyData.bool.injEq, PyData.int.injEq, PyData.str.injEq, PyData.tuple.injEq, PyData.list.injEq, snap_none, snap_bool, snap_int, snap_str, snap_list, snap_tuple, ltD_int, eqvD_int, dRaise, dRaise0, told_ok, told_er, dLc, dLcX, diSrc, items_str, items_tup, items_lst, wipeR, DL.strip, diRange1, diRange2, dgTup, dgCons, dgNil, List.cons.injEq, and_true, true_and, forall_eq_apply_imp_iff, exists_eq_left, ↓reduceIte, Bool.not_true, Bool.not_false, Bool.false_eq_true, if_true, if_false, ixM, ixT, ixL, ixS, lenM, lenT, lenL, snapM, List.length_map, dPar, dAdd, dI, dMul, dAugS]
          refine ⟨plt_int, ?_⟩
          by_cases hp3 : p + 3 ≤ bs.length
          · obtain ⟨hi, ehi⟩ : ∃ hi, bs[p + 1]? = some hi := ⟨_, List.getElem?_eq_getElem (by omega)⟩
            obtain ⟨lo, elo⟩ : ∃ lo, bs[p + 2]? = some lo := ⟨_, List.getElem?_eq_getElem (by omega)⟩
            have rhi := B.rng _ (List.mem_of_getElem? ehi)
            have rlo := B.rng _ (List.mem_of_getElem? elo)
            have en : pNum bs (p + 1) = .ok (hi * 256 + lo, p + 3) := by
              unfold pNum pByte
              rw [ehi]
              dsimp only
              rw [show p + 1 + 1 = p + 2 from rfl, elo]
            refine ifF (by simp; omega) ⟨.int hi, L2.atI_nat (j := p + 1) (by rw [List.getElem?_map, ehi]; rfl), cmul_of (by omega) (by omega), .int lo, L2.atI_nat (j := p + 2) (by rw [List.getElem?_map, elo]; rfl), _, _, ⟨rfl, rfl⟩, ?_⟩
            have eln : (stk (m :: rs)).length = rs.length + 1 := by simp [stk]
            have ixl : L2.ixN (stk (m :: rs)).length (-1) = some rs.length := by rw [eln]; exact ixN_last
            have eset : (stk (m :: rs)).set rs.length (.int (m - 1)) = stk ((m - 1) :: rs) := by
              have : (stk rs).length = rs.length := by simp [stk]
              rw [es, ← this, List.set_append_right _ _ (Nat.le_refl _), Nat.sub_self]
              simp [stk]
            refine ⟨a, _, -1, rs.length, .int m, rfl, rfl, mset_same, ixl, by simp [stk], _, _, mset_same, ixl, ?_⟩
            rw [mset_mset, eset]
            exact hY _ _ ⟨hp3, _, en, by omega, by omega, rfl, rfl⟩
          · have en : pNum bs (p + 1) = .error (bs.length, "end") := by
              unfold pNum
              by_cases hp2 : p + 1 < bs.length
              · unfold pByte
                rw [List.getElem?_eq_getElem hp2]
                dsimp only
                rw [List.getElem?_eq_none (by omega)]
              · unfold pByte
                rw [List.getElem?_eq_none (by omega)]
            refine ifT (by simp; omega) ⟨by decide, ?_⟩
            rw [en] at q
            rcases hw3 with rfl | rfl | rfl
            · exact sett_sub (sub_mset ha) q
            · exact sett_sub (sub_mset ha) q
            · obtain ⟨k, ek⟩ : ∃ k, 20 - rs.length = k + 1 := ⟨19 - rs.length, by have := hdeep rfl; omega⟩
              rw [ek] at q
              exact sett_sub (sub_mset ha) q
        · intro X hX
          simp only [dSeq, dNext, dRet, dRetN, dIfS, dSet, dDrop, dAsg, dPar, dCont, dBreak, dBin, dCmp, dTest, dAnd, dOr, dNot, dAndV, dOrV, dNotV, dIf, dChain, dCB, dBM, dBM0, dCall, dC, dCons, dNil, dTup, dLst, dLstM, dStar, dYes, dNeg, dSlice, dNoPart, dPart, dgName, dVar, dIsN, dNotN, startD, List.map_cons, List.map_nil, List.cons_append, List.nil_append, List.replicate_zero, List.replicate_succ, List.length_cons, List.length_nil, Nat.sub_self, Nat.reduceSub, Nat.reduceAdd, List.getElem?_cons_zero, List.getElem?_cons_succ, List.set_cons_zero, List.set_cons_succ, Option.some.injEq, Sl.v.injEq, exists_eq_left', PyData.bool.injEq, PyData.int.injEq, PyData.str.injEq, PyData.tuple.injEq, PyData.list.injEq, snap_none, snap_bool, snap_int, snap_str, snap_list, snap_tuple, ltD_int, eqvD_int, dRaise, dRaise0, told_ok, told_er, dLc, dLcX, diSrc, items_str, items_tup, items_lst, wipeR, DL.strip, diRange1, diRange2, dgTup, dgCons, dgNil, List.cons.injEq, and_true, true_and, forall_eq_apply_imp_iff, exists_eq_left, ↓reduceIte, Bool.not_true, Bool.not_false, Bool.false_eq_true, if_true, if_false, ixM, ixT, ixL, ixS, lenM, lenT, lenL, snapM, List.length_map, dPar, dAdd, dI]
          refine ⟨by decide, peq_nil, ?_⟩
          cases st with
          | nil =>
            refine ifT (by simp [stk, eqv_nil]) ⟨peq_int, ?_⟩
            unfold todo resOf at q
            dsimp only at q
            by_cases hp : p = bs.length
            · refine ifT (by simp [hp]) ?_
              rw [if_pos hp] at q
              exact sett_sub (sub_mset ha) q
            · refine ifF (by simp; omega) ⟨by decide, ?_⟩
              rw [if_neg hp] at q
              exact sett_sub (sub_mset ha) q
          | cons m rs =>
            have hm0 := h3 m List.mem_cons_self
            have hm : 0 < m := by
              have : m ≠ 0 := by simpa using h5
              omega
            rw [todo_step hm] at q
            have hlen : (stk (m :: rs)).length = rs.length + 1 := by simp [stk]
            refine ifF (by simp [stk, eqv_nil]) ⟨peq_int, ?_⟩
            have hpt : ∀ n, pTh bs n p = pThF bs (match n with | 0 => none | k + 1 => some (pTh bs k)) p := fun n => by cases n <;> rfl
            rw [hpt] at q
            unfold pThF at q
            by_cases hp : p = bs.length
            · refine ifT (by simp [hp]) ⟨by decide, ?_⟩
              have e1 : pByte bs p = .error (bs.length, "end") := by unfold pByte; rw [List.getElem?_eq_none (by omega)]
              rw [e1] at q
              rw [hp]
              exact sett_sub (sub_mset ha) q
            · refine ifF (by simp; omega) ?_
              have hlt : p < bs.length := by omega
              have ew : bs[p]? = some bs[p] := List.getElem?_eq_getElem hlt
              have e1 : pByte bs p = .ok (bs[p], p + 1) := by unfold pByte; rw [ew]
              rw [e1] at q
              dsimp only at q
              generalize bs[p] = w at ew e1 q
              refine ⟨.int w, L2.atI_nat (by rw [List.getElem?_map, ew]; rfl), _, _, ⟨rfl, rfl⟩, by decide, ?_⟩
              refine ⟨⟨by rfl, by rfl, by simp [PyData.depth, snap_int], .inr (.inr ⟨_, rfl⟩)⟩, ?_⟩
              have ein : inD (.int w) (.tuple [.int 1, .int 2, .int 3]) = (decide (1 = w) || (decide (2 = w) || decide (3 = w))) := by
                simp only [inD, List.any_cons, List.any_nil, eqvD_int, Bool.or_false]
              have go3 : ∀ (hw3 : w = 1 ∨ w = 2 ∨ w = 3) (hdeep : w = 3 → rs.length < 20), X [some (.v (.tuple (bs.map .int))), some (.v d), some (.v (.int p)), some (.v (dref a)), c4, some (.v (.int w)), some (.v (.int p)), c7, c8] (mset μ a (.lst (stk (m :: rs)))) := fun hw3 hdeep =>
                hX _ _ ⟨m, w, rs, rfl, hm, ew, hw3, hdeep, rfl, rfl⟩
              simp only [List.length_cons] at h2
              by_cases w1 : w = 1
              · refine ifF (by rw [snap_int, ein]; simp [w1]) ⟨peq_int, ifF (eqF (by omega)) (go3 (.inl w1) (by omega))⟩
              by_cases w2 : w = 2
              · refine ifF (by rw [snap_int, ein]; simp [w2]) ⟨peq_int, ifF (eqF (by omega)) (go3 (.inr (.inl w2)) (by omega))⟩
              by_cases w3 : w = 3
              · refine ifF (by rw [snap_int, ein]; simp [w3]) ⟨peq_int, ifT (eqT w3) ⟨peq_int, ?_⟩⟩
                by_cases h20 : rs.length = 20
                · refine ifT (by rw [hlen]; simp; omega) ⟨by decide, ?_⟩
                  rw [if_neg w1, if_neg w2, if_pos w3, h20] at q
                  exact sett_sub (sub_mset ha) q
                · refine ifF (by rw [hlen]; simp; omega) (go3 (.inr (.inr w3)) fun _ => by omega)
              · refine ifT (by rw [snap_int, ein]; simp; omega) ⟨by decide, ?_⟩
                rw [if_neg w1, if_neg w2, if_neg w3] at q
                exact sett_sub (sub_mset ha) q
      · intro X hX
        simp only [dSeq, dNext, dRet, dRetN, dIfS, dSet, dDrop, dAsg, dPar, dCont, dBreak, dBin, dCmp, dTest, dAnd, dOr, dNot, dAndV, dOrV, dNotV, dIf, dChain, dCB, dBM, dBM0, dCall, dC, dCons, dNil, dTup, dLst, dLstM, dStar, dYes, dNeg, dSlice, dNoPart, dPart, dgName, dVar, dIsN, dNotN, startD, List.map_cons, List.map_nil, List.cons_append, List.nil_append, List.replicate_zero, List.replicate_succ, List.length_cons, List.length_nil, Nat.sub_self, Nat.reduceSub, Nat.reduceAdd, List.getElem?_cons_zero, List.getElem?_cons_succ, List.set_cons_zero, List.set_cons_succ, Option.some.injEq, Sl.v.injEq, exists_eq_left', PyData.bool.injEq, PyData.int.injEq, PyData.str.injEq, PyData.tuple.injEq, PyData.list.injEq, snap_none, snap_bool, snap_int, snap_str, snap_list, snap_tuple, ltD_int, eqvD_int, dRaise, dRaise0, told_ok, told_er, dLc, dLcX, diSrc, items_str, items_tup, items_lst, wipeR, DL.strip, diRange1, diRange2, dgTup, dgCons, dgNil, List.cons.injEq, and_true, true_and, forall_eq_apply_imp_iff, exists_eq_left, ↓reduceIte, Bool.not_true, Bool.not_false, Bool.false_eq_true, if_true, if_false, ixM, ixT, ixL, ixS, lenM, lenT, lenL, snapM, List.length_map, dFor]
        refine ⟨⟨by decide, by decide⟩, ?_⟩
        refine forN_ind (fun rest ρ' μ' => ∃ (st : List Int) (c4 : Option Sl), ρ' = [some (.v (.tuple (bs.map .int))), some (.v d), some (.v (.int p)), some (.v (dref a)), c4, c5, c6, c7, c8] ∧ μ' = mset μ a (.lst (stk st)) ∧ st.length ≤ 21 ∧ (∀ m ∈ st, 0 ≤ m ∧ m ≤ 65535) ∧
          (st.length ≤ rest.length ∨ st.head? ≠ some 0) ∧ R (resOf bs (todo bs st p)) μ) ?_ ?_ _ _ _ ⟨st, c4, rfl, rfl, h2, h3, .inl (by simp [intsD]; omega), q⟩
        · rintro _ _ ⟨st, c4, rfl, rfl, h2, h3, h5, q⟩
          refine hX _ _ ⟨st, c4, rfl, rfl, h2, h3, ?_, q⟩
          rcases h5 with h5 | h5
          · have : st = [] := List.length_eq_zero_iff.mp (by simpa using h5)
            rw [this]; simp
          · exact h5
        · rintro d2 rest2 _ _ N2 ⟨st, c4, rfl, rfl, h2, h3, h5, q⟩ ih2
          simp only [dgName, List.set_cons_succ, List.set_cons_zero]
          simp only [dSeq, dNext, dRet, dRetN, dIfS, dSet, dDrop, dAsg, dPar, dCont, dBreak, dBin, dCmp, dTest, dAnd, dOr, dNot, dAndV, dOrV, dNotV, dIf, dChain, dCB, dBM, dBM0, dCall, dC, dCons, dNil, dTup, dLst, dLstM, dStar, dYes, dNeg, dSlice, dNoPart, dPart, dgName, dVar, dIsN, dNotN, startD, List.map_cons, List.map_nil, List.cons_append, List.nil_append, List.replicate_zero, List.replicate_succ, List.length_cons, List.length_nil, Nat.sub_self, Nat.reduceSub, Nat.reduceAdd, List.getElem?_cons_zero, List.getElem?_cons_succ, List.set_cons_zero, List.set_cons_succ, Option.some.injEq, Sl.v.injEq, exists_eq_left', PyData.bool.injEq, PyData.int.injEq, PyData.str.injEq, PyData.tuple.injEq, PyData.list.injEq, snap_none, snap_bool, snap_int, snap_str, snap_list, snap_tuple, ltD_int, eqvD_int, dRaise, dRaise0, told_ok, told_er, dLc, dLcX, diSrc, items_str, items_tup, items_lst, wipeR, DL.strip, diRange1, diRange2, dgTup, dgCons, dgNil, List.cons.injEq, and_true, true_and, forall_eq_apply_imp_iff, exists_eq_left, ↓reduceIte, Bool.not_true, Bool.not_false, Bool.false_eq_true, if_true, if_false, ixM, ixT, ixL, ixS, lenM, lenT, lenL, snapM, List.length_map]
          refine ⟨by decide, peq_nil, ?_⟩
          cases st with
          | nil => exact ifF (by simp [stk, eqv_nil]) (ih2 _ _ ⟨[], _, rfl, rfl, h2, h3, .inr (by simp), q⟩)
          | cons m st =>
            have es : stk (m :: st) = stk st ++ [.int m] := by simp [stk]
            refine ifT (by simp [stk, eqv_nil]) ?_
            rw [es]
            refine ⟨_, atI_last, peq_int, ?_⟩
            by_cases hm : m = 0
            · subst hm
              refine ifT (eqT rfl) ⟨by simp only [tyM, snapM], ?_⟩
              refine ⟨a, _, .int 0, rfl, rfl, mset_same, by simp, ?_⟩
              rw [mset_mset, List.dropLast_concat]
              simp only [List.length_cons] at h2 h5
              refine ih2 _ _ ⟨st, _, rfl, rfl, by omega, fun m hm => h3 m (List.mem_cons_of_mem _ hm), .inl ?_, q⟩
              rcases h5 with h5 | h5
              · omega
              · simp at h5
            · refine ifF (eqF hm) (ih2 _ _ ⟨m :: st, _, rfl, by rw [es], h2, h3, .inr (by simpa using hm), q⟩)
end
end K15
set_option Elab.async false
set_option linter.all false
set_option maxRecDepth 100000
set_option maxHeartbeats 2000000
namespace K15
open PySem PySem.Spec PyProof.Rows L2 DL
section
variable {K : PySem.W.Frag} {mg : Str → Option Value} {base : Heap} {w : World}
theorem exm_all (g : G K mg base) : ∀ x ∈ excs, ∀ y ∈ excs, PySem.W.exmOne K (.ref (He.ga K x)) (.ref (He.ga K y)) = some (x == y) := fun x hx y hy => by
  have hm : He.Fa.exm x y (x == y) ∈ fa := by
    simp only [fa, fa5, List.mem_append, List.mem_flatMap, List.mem_map]
    exact .inr (.inr (.inr (.inr (.inr ⟨x, hx, y, hy, rfl⟩))))
  obtain ⟨i, hi, e⟩ := List.mem_iff_getElem.mp hm
  exact He.exm_ok (g.c.fact i (by rw [List.getElem?_eq_getElem hi, e]))
def hcB (K : PySem.W.Frag) : List (HC × Bool) := [(⟨He.ga K "Refused", "refused", ["why"]⟩, true), (⟨He.ga K "NoName", "name", ["name"]⟩, true), (⟨He.ga K "TooMany", "many", ["what", "limit"]⟩, true), (⟨He.ga K "Nothing", "nothing", []⟩, false),
  (⟨He.ga K "BadBook", "book", ["at", "fault"]⟩, true), (⟨He.ga K "BadText", "text", ["line", "column"]⟩, true), (⟨He.ga K "BadBytes", "bytes", ["at", "fault"]⟩, true), (⟨He.ga K "NoCommand", "command", ["line"]⟩, true)]
def hcs (K : PySem.W.Frag) : List HC := (hcB K).map fun z : HC × Bool => z.1
theorem hc_name (K : PySem.W.Frag) : ∀ h ∈ hcs K, ∃ x ∈ excs, h.C = He.ga K x := by
  intro h hh
  simp only [hcs, hcB, List.map_cons, List.map_nil, List.mem_cons, List.not_mem_nil, or_false] at hh
  rcases hh with rfl | rfl | rfl | rfl | rfl | rfl | rfl | rfl
  · exact ⟨"Refused", by simp [excs], rfl⟩
  · exact ⟨"NoName", by simp [excs], rfl⟩
  · exact ⟨"TooMany", by simp [excs], rfl⟩
  · exact ⟨"Nothing", by simp [excs], rfl⟩
  · exact ⟨"BadBook", by simp [excs], rfl⟩
  · exact ⟨"BadText", by simp [excs], rfl⟩
  · exact ⟨"BadBytes", by simp [excs], rfl⟩
  · exact ⟨"NoCommand", by simp [excs], rfl⟩
theorem exc_ne (g : G K mg base) {x y : Str} (hx : x ∈ excs) (hy : y ∈ excs) (h : He.ga K x = He.ga K y) : (x == y) = true := by
  have e1 := exm_all g x hx y hy
  have e2 := exm_all g x hx x hx
  rw [← h, e2] at e1
  have := Option.some.inj e1
  rw [← this]
  exact beq_self_eq_true x
theorem hc_ok (g : G K mg base) : HcOk K (hcs K) := fun h hh h' hh' => by
  obtain ⟨x, hx, e⟩ := hc_name K h hh
  obtain ⟨y, hy, e'⟩ := hc_name K h' hh'
  rw [e, e', exm_all g x hx y hy]
  congr 1
  cases e2 : (x == y) with
  | true =>
    rw [eq_of_beq e2]
    simp
  | false =>
    refine (decide_eq_false fun z => ?_).symm
    rw [exc_ne g hx hy z] at e2
    cases e2
theorem no1 {x f : Str} {st : Stmt} {fs : List Str} {C fI cda cc : Addr} (S : ExcSays K prog.main.file ⟨x, st, fs⟩ C fI cda cc) (h : f ∈ fs) : PySem.W.findIn K (.ref C) f = some none := S.no f h
theorem hds_law (g : G K mg base) {f : Addr} {cd : Value} {A : Around} {outer : List Env} {s : Shared} {H : Hp} :
    Hds (cxOf C8.CX0 prog w K mg base ["act", "error"] "_law_heard" (defScope (top 37)) f cd A outer s H C8.E0).nox (match defBody (top 37) with | .Try _ hds _ _ _ :: _ => hds | _ => []) (clsOf (hcB K)) := by
  obtain ⟨_, _, S1⟩ := xs_Refused g
  obtain ⟨_, _, S2⟩ := xs_NoName g
  obtain ⟨_, _, S3⟩ := xs_TooMany g
  obtain ⟨_, _, S5⟩ := xs_BadBook g
  obtain ⟨_, _, S6⟩ := xs_BadText g
  obtain ⟨_, _, S7⟩ := xs_BadBytes g
  obtain ⟨_, _, S8⟩ := xs_NoCommand g
  refine .cons (nm := some ("error", 1)) ⟨by rfl, by decide, .inl (gl_Refused g)⟩ (fun n i e => by cases e; exact ⟨rfl, rfl⟩) (fun a oe cls d pn hz hf => su1 (n := "error") (xf_Refused g) (no1 S1 (by simp)) rfl (.inl rfl) (by decide) (by decide) hz hf rfl) ?_
  refine .cons (nm := some ("error", 1)) ⟨by rfl, by decide, .inl (gl_NoName g)⟩ (fun n i e => by cases e; exact ⟨rfl, rfl⟩) (fun a oe cls d pn hz hf => su1 (n := "error") (xf_NoName g) (no1 S2 (by simp)) rfl (.inl rfl) (by decide) (by decide) hz hf rfl) ?_
  refine .cons (nm := some ("error", 1)) ⟨by rfl, by decide, .inl (gl_TooMany g)⟩ (fun n i e => by cases e; exact ⟨rfl, rfl⟩) (fun a oe cls d pn hz hf => su2 (n := "error") (xf_TooMany g) (no1 S3 (by simp)) (no1 S3 (by simp)) rfl (.inl rfl) (by decide) (by decide) hz hf rfl rfl) ?_
  refine .cons (nm := none) ⟨by rfl, by decide, .inl (gl_Nothing g)⟩ (fun n i e => nomatch e) (fun a oe cls d pn hz hf => su0) ?_
  refine .cons (nm := some ("error", 1)) ⟨by rfl, by decide, .inl (gl_BadBook g)⟩ (fun n i e => by cases e; exact ⟨rfl, rfl⟩) (fun a oe cls d pn hz hf => su2 (n := "error") (xf_BadBook g) (no1 S5 (by simp)) (no1 S5 (by simp)) rfl (.inl rfl) (by decide) (by decide) hz hf rfl rfl) ?_
  refine .cons (nm := some ("error", 1)) ⟨by rfl, by decide, .inl (gl_BadText g)⟩ (fun n i e => by cases e; exact ⟨rfl, rfl⟩) (fun a oe cls d pn hz hf => su2 (n := "error") (xf_BadText g) (no1 S6 (by simp)) (no1 S6 (by simp)) rfl (.inl rfl) (by decide) (by decide) hz hf rfl rfl) ?_
  refine .cons (nm := some ("error", 1)) ⟨by rfl, by decide, .inl (gl_BadBytes g)⟩ (fun n i e => by cases e; exact ⟨rfl, rfl⟩) (fun a oe cls d pn hz hf => su2 (n := "error") (xf_BadBytes g) (no1 S7 (by simp)) (no1 S7 (by simp)) rfl (.inl rfl) (by decide) (by decide) hz hf rfl rfl) ?_
  refine .cons (nm := some ("error", 1)) ⟨by rfl, by decide, .inl (gl_NoCommand g)⟩ (fun n i e => by cases e; exact ⟨rfl, rfl⟩) (fun a oe cls d pn hz hf => su1 (n := "error") (xf_NoCommand g) (no1 S8 (by simp)) rfl (.inl rfl) (by decide) (by decide) hz hf rfl) ?_
  exact .nil
/-- where the law's lambdas are noted -/
abbrev tabT (K : PySem.W.Frag) : TabsD := [((He.cT K ("law", none)).2, "law.<locals>.<lambda>")]
theorem heard (g : G K mg base) {N : List Str} {fd : FuncData} {cdv : Value} {A : Around} {outer : List Env} {s : Shared} {H : Hp} {E : XK} {Γ : DL.Act} {k : Nat} {params : Arguments} {body : Expr} {scope : Scope} {p lpos pos : Pos} {tb : DXQ → DTE} (F : Fun K "law" "law" (top 43) (He.ga K "law") fd) (hcd : fd.code = cdv)
    (hr : Room (k + 2) (A.deeper (envOfC "law" (defScope (top 43)) s.heap.objs.size (He.ga K "law") cdv))) (Ls : LamX.lamSB (defScope (top 43)) scope = true)
    (hbind : ∀ (q : Str) (cl : List (Str × Addr)) (pm cv ctv : Value), bindArgs (PySem.W.kla_fn "<lambda>" q params body scope cl pm cv ctv) ⟨[], []⟩ = pure [])
    (hbody : ∀ (A2 : Around) (outer2 : List Env) (s2 : Shared) (H2 : Hp) (E2 : XK) (f c' : Addr) (Γ' : DL.Act) (EX : DXQ), Room k (A2.deeper (LamX.lamEnv (cxOf CX0 prog w K mg base N "law" (defScope (top 43)) (He.ga K "law") cdv A outer s H E).nox scope s2.heap.objs.size f c')) →
      LT (LamX.lamCx (cxOf CX0 prog w K mg base N "law" (defScope (top 43)) (He.ga K "law") cdv A outer s H E).nox A2 outer2 s2 H2 E2 scope f c') Γ' (fun x _ μ => EX x μ) → DE (LamX.lamCx (cxOf CX0 prog w K mg base N "law" (defScope (top 43)) (He.ga K "law") cdv A outer s H E).nox A2 outer2 s2 H2 E2 scope f c') Γ' body (tb EX))
    (hdef : defaultsOf params (cxOf CX0 prog w K mg base N "law" (defScope (top 43)) (He.ga K "law") cdv A outer s H E).nox.env = ([], []) := by rfl) :
    DE (cxOf CX0 prog w K mg base N "law" (defScope (top 43)) (He.ga K "law") cdv A outer s H E).nox Γ (.Call (.Name "_law_heard" p) [.Lambda params body scope lpos] [] pos) (dHeard (tabT K) (hcs K) tb) := by
  obtain ⟨fdh, Fh⟩ := d__law_heard g
  obtain ⟨oc, od, kV, doc, pm, an, cdh, ct, osl, rfl, lkh, hch⟩ := Fh.ex
  obtain ⟨oc2, od2, kV2, doc2, pm2, an2, cdv2, ct2, osl2, rfl, lk2, hc2⟩ := F.ex
  obtain ⟨c, rfl⟩ := He.codeIn_ref hc2
  obtain rfl : Value.ref c = cdv := hcd
  have ec : (He.cT K ("law", none)).1 = c := He.codeOf_eq (p := ("law", none)) lk2 rfl
  have tb0 := g.tb ("law", none) (by simp [tf])
  rw [ec] at tb0
  refine de_heard (l := hcs K) (T := tabT K) (a := "act") (k := k) (Ng := ["act", "error"]) (hc_ok g) (by rfl) (gl__law_heard g) Fh.kp lkh hch (Fh.binds (fun _ _ _ _ _ _ us hl => match us, hl with | [_], _ => rfl)) (C8.fnScope_by (by decide +kernel)) rfl (.inl rfl) ?_ tb0 rfl (List.mem_singleton.mpr rfl) (fun q hq _ => by rw [List.mem_singleton.mp hq]; rfl) hr (LamX.lamS_by Ls) hbind hbody hdef
  refine heard_gives (l := hcB K) ?_ fun s H => ?_
  · simp [hcB]
  · exact hds_law g
end
end K15
set_option Elab.async false
set_option linter.all false
set_option maxRecDepth 100000
set_option maxHeartbeats 1000000
namespace K15
open PySem PySem.Spec PyProof.Rows L2 DL
mutual
theorem pk_sz : ∀ (d : D) (k : Int) (l : List Int), pk d k = some l → sz d = l.length
  | .int i, k, l, h => by
    simp only [pk] at h
    split at h
    · cases h; rfl
    · cases h
  | .str z, k, l, h => by
    simp only [pk] at h
    cases e : idxs z.cps.toList with
    | none => rw [e] at h; cases h
    | some l2 =>
      rw [e] at h
      cases h
      have := idxs_len e
      simp only [sz, List.length_cons]
      simp [Str.length] at this ⊢
      omega
  | .tuple xs, k, l, h => by
    simp only [pk] at h
    split at h
    · cases h
    · cases e : pkAll xs (k + 1) with
      | none => rw [e] at h; cases h
      | some l2 =>
        rw [e] at h
        cases h
        have := pkAll_sz xs (k + 1) l2 e
        simp only [sz, List.length_cons]
        omega
  | .none, _, _, h => by simp [pk] at h
  | .bool _, _, _, h => by simp [pk] at h
  | .list _, _, _, h => by simp [pk] at h
  | .dict _, _, _, h => by simp [pk] at h
theorem pkAll_sz : ∀ (xs : List D) (k : Int) (l : List Int), pkAll xs k = some l → szAll xs = l.length
  | [], k, l, h => by simp only [pkAll] at h; cases h; rfl
  | x :: xs, k, l, h => by
    simp only [pkAll] at h
    cases e : pk x k with
    | none => rw [e] at h; cases h
    | some l1 =>
      rw [e] at h
      cases e2 : pkAll xs k with
      | none => rw [e2] at h; cases h
      | some l2 =>
        rw [e2] at h
        cases h
        have := pk_sz x k l1 e
        have := pkAll_sz xs k l2 e2
        simp only [szAll, List.length_append]
        omega
end
mutual
theorem pk_dep : ∀ (d : D) (k : Int) (l : List Int), pk d k = some l → 0 ≤ k → k ≤ 20 → (d.depth : Int) ≤ 20 - k
  | .int i, k, l, h, _, _ => by simp only [PyData.depth]; omega
  | .str z, k, l, h, _, _ => by simp only [PyData.depth]; omega
  | .tuple xs, k, l, h, h0, h1 => by
    simp only [pk] at h
    split at h
    · cases h
    · cases e : pkAll xs (k + 1) with
      | none => rw [e] at h; cases h
      | some l2 =>
        have := pkAll_dep xs (k + 1) l2 e (by omega) (by omega)
        simp only [PyData.depth]
        omega
  | .none, _, _, h, _, _ => by simp [pk] at h
  | .bool _, _, _, h, _, _ => by simp [pk] at h
  | .list _, _, _, h, _, _ => by simp [pk] at h
  | .dict _, _, _, h, _, _ => by simp [pk] at h
theorem pkAll_dep : ∀ (xs : List D) (k : Int) (l : List Int), pkAll xs k = some l → 0 ≤ k → k ≤ 20 → (PyData.depthAll xs : Int) ≤ 20 - k
  | [], k, l, h, _, _ => by simp only [PyData.depthAll]; omega
  | x :: xs, k, l, h, h0, h1 => by
    simp only [pkAll] at h
    cases e : pk x k with
    | none => rw [e] at h; cases h
    | some l1 =>
      rw [e] at h
      cases e2 : pkAll xs k with
      | none => rw [e2] at h; cases h
      | some l2 =>
        have := pk_dep x k l1 e h0 h1
        have := pkAll_dep xs k l2 e2 h0 h1
        simp only [PyData.depthAll]
        omega
end
theorem idxs_rng {c : List Nat} {l : List Int} (h : idxs c = some l) : ∀ b ∈ l, 0 ≤ b ∧ b ≤ 255 := by
  unfold idxs at h
  split at h
  · rename_i ha
    cases h
    intro b hb
    obtain ⟨x, hx, rfl⟩ := List.mem_map.mp hb
    have := (sig_there x (of_decide_eq_true (List.all_eq_true.mp ha x hx))).1
    omega
  · cases h
mutual
theorem pk_rng : ∀ (d : D) (k : Int) (l : List Int), pk d k = some l → sz d ≤ 60000 → ∀ b ∈ l, 0 ≤ b ∧ b ≤ 255
  | .int i, k, l, h, _ => by
    simp only [pk] at h
    split at h
    · cases h
      intro b hb
      simp only [List.mem_cons, List.not_mem_nil, or_false] at hb
      rcases hb with rfl | rfl | rfl <;> omega
    · cases h
  | .str z, k, l, h, hs => by
    simp only [pk] at h
    simp only [sz] at hs
    cases e : idxs z.cps.toList with
    | none => rw [e] at h; cases h
    | some l2 =>
      rw [e] at h
      cases h
      intro b hb
      simp only [List.mem_cons] at hb
      rcases hb with rfl | rfl | rfl | hb
      · omega
      · omega
      · omega
      · exact idxs_rng e b hb
  | .tuple xs, k, l, h, hs => by
    simp only [pk] at h
    simp only [sz] at hs
    have hl := sz_len xs
    split at h
    · cases h
    · cases e : pkAll xs (k + 1) with
      | none => rw [e] at h; cases h
      | some l2 =>
        rw [e] at h
        cases h
        intro b hb
        simp only [List.mem_cons] at hb
        rcases hb with rfl | rfl | rfl | hb
        · omega
        · omega
        · omega
        · exact pkAll_rng xs (k + 1) l2 e (by omega) b hb
  | .none, _, _, h, _ => by simp [pk] at h
  | .bool _, _, _, h, _ => by simp [pk] at h
  | .list _, _, _, h, _ => by simp [pk] at h
  | .dict _, _, _, h, _ => by simp [pk] at h
theorem pkAll_rng : ∀ (xs : List D) (k : Int) (l : List Int), pkAll xs k = some l → szAll xs ≤ 60000 → ∀ b ∈ l, 0 ≤ b ∧ b ≤ 255
  | [], k, l, h, _ => by
    simp only [pkAll] at h
    cases h
    intro b hb
    cases hb
  | x :: xs, k, l, h, hs => by
    simp only [pkAll] at h
    simp only [szAll] at hs
    cases e : pk x k with
    | none => rw [e] at h; cases h
    | some l1 =>
      rw [e] at h
      cases e2 : pkAll xs k with
      | none => rw [e2] at h; cases h
      | some l2 =>
        rw [e2] at h
        cases h
        intro b hb
        rcases List.mem_append.mp hb with hb | hb
        · exact pk_rng x k l1 e (by omega) b hb
        · exact pkAll_rng xs k l2 e2 (by omega) b hb
end
theorem int_len : ∀ n < 256, ((PyData.int (n : Nat)).shown).length ≤ 3 := by decide +kernel
theorem ints_len {l : List Int} (h : ∀ b ∈ l, 0 ≤ b ∧ b ≤ 255) : ((PyData.shownAll (l.map .int)).map (·.length)).sum ≤ 3 * l.length ∧ (PyData.shownAll (l.map .int)).length = l.length := by
  induction l with
  | nil => exact ⟨by simp [PyData.shownAll], rfl⟩
  | cons a l ih =>
    obtain ⟨i1, i2⟩ := ih fun b hb => h b (List.mem_cons_of_mem _ hb)
    have ha := h a List.mem_cons_self
    have hn := int_len a.toNat (by omega)
    rw [Int.toNat_of_nonneg ha.1] at hn
    refine ⟨?_, by rw [List.map_cons, PyData.shownAll, List.length_cons, i2, List.length_cons]⟩
    rw [List.map_cons, PyData.shownAll, List.map_cons, List.sum_cons, List.length_cons]
    omega
theorem show_ints {l : List Int} (h : ∀ b ∈ l, 0 ≤ b ∧ b ≤ 255) : (PyData.tuple (l.map .int)).shown.length ≤ 5 * l.length + 3 ∧ PyData.showableAll (l.map .int) = true ∧ PyData.hasDictAll (l.map .int) = false := by
  obtain ⟨i1, i2⟩ := ints_len h
  refine ⟨?_, ?_, ?_⟩
  · simp only [PyData.shown]
    have := tup_len (PyData.shownAll (l.map .int))
    omega
  · clear i1 i2
    induction l with
    | nil => rfl
    | cons a l ih =>
      have ha := h a List.mem_cons_self
      rw [List.map_cons, PyData.showableAll, ih fun b hb => h b (List.mem_cons_of_mem _ hb)]
      have : a.natAbs.log2 < 1920 := by
        have h1 : a.natAbs ≤ 255 := by omega
        have : a.natAbs.log2 ≤ a.natAbs := Nat.log2_le_self _
        omega
      simp [PyData.showable, this]
  · clear i1 i2 h
    induction l with
    | nil => rfl
    | cons a l ih => rw [List.map_cons, PyData.hasDictAll, ih]; rfl
theorem prp_told {l : List Int} (h : ∀ b ∈ l, 0 ≤ b ∧ b ≤ 255) (hl : l.length ≤ 60000) : PRp (.tuple [.bool true, .tuple (l.map .int)]) := by
  obtain ⟨i1, i2, i3⟩ := show_ints h
  refine ⟨?_, ?_, ?_, ?_, ?_, fun i e => nomatch e⟩
  · simp [PyData.plain, PyData.plainAll, plain_ints.1]
  · simp [PyData.showable, PyData.showableAll, i2]
  · simp [PyData.hasDict, PyData.hasDictAll, i3]
  · simp [PyData.depth, PyData.depthAll, plain_ints.2]
  · have e : (PyData.tuple [.bool true, .tuple (l.map .int)]).shown = tupleText [(PyData.bool true).shown, (PyData.tuple (l.map .int)).shown] := by simp only [PyData.shown, PyData.shownAll]
    rw [e]
    have := tup_len [(PyData.bool true).shown, (PyData.tuple (l.map .int)).shown]
    have e2 : (PyData.bool true).shown.length = 4 := by decide +kernel
    simp only [List.map_cons, List.map_nil, List.sum_cons, List.sum_nil, List.length_cons, List.length_nil, e2] at this
    rw [sizeLine_eq]
    omega
theorem prp_dat {d : D} (h : Dat 4 d) : PRp d := by
  have h1 := h.dp
  have h2 := h.ln
  refine ⟨h.pl, h.sh, h.hd, by omega, by rw [sizeLine_eq]; omega, fun i e => ?_⟩
  have := h.sh
  rw [e] at this
  simpa [PyData.showable] using this
theorem prp_ref : PRp (.tuple [.bool false, .tuple [.str "refused", .str "data"]]) := by
  refine ⟨by decide +kernel, by decide +kernel, by decide +kernel, by decide +kernel, by decide +kernel, fun i e => nomatch e⟩
/-- what is read back -/
theorem unp_pk {d : D} {l : List Int} (h : pk d 0 = some l) : unp l = .ok d := by
  obtain ⟨e, _⟩ := read_of (bs := l) 20 (Nat.le_refl _) (d := d) (p := 0) (l := l) (r := []) (by simpa using h) (by simp)
  unfold unp
  rw [e]
  simp
theorem fault_unp {bs : List Int} (B : BsOk bs) : resOf bs (todo bs [1] 0) = match unp bs with
    | .error e => .tuple [.int e.1, .str e.2]
    | .ok _ => .none := by
  rw [todo_step (by decide)]
  simp only [List.length_nil, Nat.sub_zero]
  unfold unp
  cases e : pTh bs 20 0 with
  | error e => rfl
  | ok z =>
    obtain ⟨v, p⟩ := z
    have hp := pTh_le B (Nat.le_refl _) (Nat.zero_le _) e
    dsimp only
    simp only [todo, Int.sub_self, Int.toNat_zero, rep, resOf]
    by_cases h : p = bs.length
    · rw [if_pos h, if_neg (by omega)]
    · rw [if_neg h, if_pos (by omega)]
theorem unp_ok {bs : List Int} (B : BsOk bs) {v : D} (h : unp bs = .ok v) : pk v 0 = some bs ∧ sz v = bs.length ∧ v.depth ≤ 20 := by
  unfold unp at h
  cases e : pTh bs 20 0 with
  | error e2 => rw [e] at h; cases h
  | ok z =>
    obtain ⟨d, p⟩ := z
    rw [e] at h
    dsimp only at h
    split at h
    · cases h
    · rename_i hp
      cases h
      obtain ⟨l, h1, h2, h3⟩ := read_ok B 20 (Nat.le_refl _) e (Nat.zero_le _)
      have e0 : bs.drop p = [] := List.drop_of_length_le (by omega)
      rw [e0, List.append_nil, List.drop_zero] at h2
      subst h2
      have h1 : pk v 0 = some bs := by simpa using h1
      refine ⟨h1, pk_sz v 0 bs h1, ?_⟩
      have := pk_dep v 0 bs h1 (by decide) (by decide)
      omega
def nest : Nat → D
  | 0 => .tuple []
  | n + 1 => .tuple [nest n]
theorem pk_nest20 : pk (nest 20) 0 = none := by decide +kernel
theorem nest_sz : ∀ n, sz (nest n) = 3 * n + 3 ∧ (nest n).depth = n + 1 ∧ (nest n).plain = true
  | 0 => ⟨rfl, by simp [nest, PyData.depth, PyData.depthAll], rfl⟩
  | n + 1 => by
    obtain ⟨h1, h2, h3⟩ := nest_sz n
    exact ⟨by simp only [nest, sz, szAll, h1]; omega, by simp only [nest, PyData.depth, PyData.depthAll, h2]; omega, by simp only [nest, PyData.plain, PyData.plainAll, h3]; rfl⟩
theorem pk_nest19 : ∃ l, pk (nest 19) 0 = some l := Option.isSome_iff_exists.mp (by decide +kernel : (pk (nest 19) 0).isSome = true)
def some63 : List Int := (List.replicate 20 [(3 : Int), 0, 1]).flatten ++ [3, 0, 0]
theorem unp_some : unp some63 = .error (60, ("deep" : Str)) := by
  have h : (match unp some63 with | .error e => decide (e.1 = 60) && decide (e.2 = ("deep" : Str)) | .ok _ => false) = true := by decide +kernel
  cases e : unp some63 with
  | ok v => rw [e] at h; cases h
  | error x =>
    rw [e] at h
    simp only [Bool.and_eq_true, decide_eq_true_eq] at h
    obtain ⟨h1, h2⟩ := h
    congr 1
    exact Prod.ext h1 h2
theorem unp_nil : unp [] = .error (0, "end") := rfl
end K15
set_option Elab.async false
set_option linter.all false
set_option maxRecDepth 100000
set_option maxHeartbeats 4000000
namespace K15
open PySem PySem.Spec PyProof.Rows L2 DL
section
variable {K : PySem.W.Frag} {mg : Str → Option Value} {base : Heap} {w : World}
theorem heard_ref (K : PySem.W.Frag) : heardX (hcs K) (xRef K) = some [.str "refused", .str "data"] := by
  simp [hcs, hcB, heardX, xRef]
theorem heard_bad (g : G K mg base) (p : Nat) (f : Str) : heardX (hcs K) (xBad K p f) = some [.str "bytes", .int p, .str f] := by
  have ne : ∀ x ∈ excs, ("BadBytes" == x) = false → ¬ He.ga K "BadBytes" = He.ga K x := fun x hx h z => by
    rw [exc_ne g (by simp [excs]) hx z] at h
    cases h
  unfold hcs hcB
  simp only [List.map_cons, List.map_nil, heardX, xBad]
  rw [if_neg (ne "Refused" (by simp [excs]) (by decide)), if_neg (ne "NoName" (by simp [excs]) (by decide)), if_neg (ne "TooMany" (by simp [excs]) (by decide)), if_neg (ne "Nothing" (by simp [excs]) (by decide)), if_neg (ne "BadBook" (by simp [excs]) (by decide)), if_neg (ne "BadText" (by simp [excs]) (by decide))]
  simp
  rfl
theorem tabs_set {T : TabsD} {μ : Mem} {a : Addr} {xs : List D} (h : HasTabs T μ) (ha : μ a = none) : HasTabs T (mset μ a (.lst xs)) := by
  refine ⟨fun p hp => ?_, fun b q e => ?_⟩
  · have := h.1 p hp
    rw [mset_ne (fun z => by rw [z, ha] at this; cases this)]
    exact this
  · by_cases hb : b = a
    · subst hb; rw [mset_same] at e; cases e
    · rw [mset_ne hb] at e; exact h.2 b q e
theorem bytesOf_ints {l : List Int} (h : ∀ b ∈ l, 0 ≤ b ∧ b ≤ 255) : bytesOf (.tuple (l.map .int)) = some l := by
  have h1 : areBytes (.tuple (l.map .int)) = true := by
    simp only [areBytes, List.all_map, List.all_eq_true]
    intro b hb
    have := h b hb
    simp [within, this.1, this.2]
  unfold bytesOf
  dsimp only
  rw [if_pos h1, List.map_map]
  congr 1
  exact List.map_id'' (fun _ => rfl) l
theorem nd_ints {l : List Int} (hl : l.length ≤ 1000000) : ∀ xs, PyData.tuple (l.map .int) = .tuple xs → (∀ x ∈ xs, NoDict x) ∧ xs.length ≤ 1000000 := fun xs e => by
  cases e
  refine ⟨fun x hx => ?_, by simpa using hl⟩
  obtain ⟨b, _, rfl⟩ := List.mem_map.mp hx
  exact nd_int
theorem ix_nest {n : Nat} {μ : Mem} {Q : DQ} : dIx (nest (n + 1)) (.int 0) μ Q = Q (nest n) μ := propext ⟨fun ⟨v, e, q⟩ => by
    have e : some (nest n) = some v := e
    cases e
    exact q, fun q => ⟨_, rfl, q⟩⟩
theorem odds7 : ∀ d ∈ ([.none, .list [.int 1, .int 0, .int 0], .tuple [.int 1, .int 0, .int 256], .tuple [.int 1, .int 0, .int (-1)], .tuple [.int 1, .int 0, .bool true], .str "a", .int 7] : List D), NoDict d ∧ (∀ xs, d = .tuple xs → (∀ x ∈ xs, NoDict x) ∧ xs.length ≤ 1000000) ∧ bytesOf d = none := by
  intro d hd
  simp only [List.mem_cons, List.not_mem_nil, or_false] at hd
  have tp : ∀ l : List D, (l.all fun x => match x with | .dict _ => false | _ => true) = true → l.length ≤ 1000000 → ∀ xs, PyData.tuple l = .tuple xs → (∀ x ∈ xs, NoDict x) ∧ xs.length ≤ 1000000 := fun l h1 h2 xs e => by
    cases e
    refine ⟨fun x hx kvs e => ?_, h2⟩
    have := List.all_eq_true.mp h1 x hx
    rw [e] at this
    cases this
  rcases hd with rfl | rfl | rfl | rfl | rfl | rfl | rfl
  · exact ⟨nd_none, (fun _ e => nomatch e), rfl⟩
  · exact ⟨nd_list, (fun _ e => nomatch e), rfl⟩
  · exact ⟨nd_tuple, tp _ rfl (by decide), by decide +kernel⟩
  · exact ⟨nd_tuple, tp _ rfl (by decide), by decide +kernel⟩
  · exact ⟨nd_tuple, tp _ rfl (by decide), by decide +kernel⟩
  · exact ⟨nd_str, (fun _ e => nomatch e), rfl⟩
  · exact ⟨nd_int, (fun _ e => nomatch e), rfl⟩
theorem o_law (g : G K mg base) {fd : FuncData} (F : Fun K "law" "law" (top 43) (He.ga K "law") fd) : FnG prog w K mg base 50 (He.ga K "law") fd ["script"] (spD K (fs_law (tabT K))) := by
  have o__law_bytes_of := fun g : G K mg base => o__law_bytes_of_at (w := w) g 40
  have o__law_data := fun g : G K mg base => o__law_data_at (w := w) g 4
  have nd : (["script", "bag", "turn", "odd", "deep", "some", "thing", "due", "told", "again", "at", "more", "bent", "fault"] : List Str).Nodup := by decide
  refine funG_ok (k := 49) F (C8.fnScope_by (by decide +kernel) : FnScope ["script", "bag", "turn", "odd", "deep", "some", "thing", "due", "told", "again", "at", "more", "bent", "fault"] ["script"] _) ?l (fun cdv A outer s H E Γ hcd hr => (dss_cons (ds_set (i := 1) nd (de_callO (o__law_bag g) hr.1 (by omega) (by rfl) lx0 (da_cons (de_var 0) da_nil)))
      (dss_cons (ds_if (dt_ne hr.1 (de_globS (by rfl) (c_SIGNS g)) (de_callO0 (o__law_signs g) hr.1 (by omega) (by rfl) lx0)) (dss_one (ds_ret de_bl)) dss_nil)
      (dss_cons (ds_for PassesOwn.never rfl (di_range1 (by rfl) (b_range g) (da_cons de_int da_nil)) (dg_name (i := 2) nd) (dss_cons (ds_set (i := 6) nd (de_callO (o__law_data g) hr.1 (by omega) (by rfl) lx0 (da_cons (de_var 1) (da_cons de_int da_nil))))
      (dss_cons (ds_set (i := 7) nd (de_callO (o__law_bytes_of g) hr.1 (by omega) (by rfl) lx0 (da_cons (de_var 6) (da_cons de_int da_nil))))
      (dss_cons (ds_set (i := 8) nd (heard (k := 45) g F hcd (hr.1.mono (by omega)) (by rfl) (by intros; rfl) (fun A outer s0 H0 E0 f0 c0 Γ0 EX0 hr lt => (de_callO (o_packed g) hr (by omega) (by rfl) lt.lx (da_cons (de_var 6) da_nil)))))
      (dss_cons (ds_if (dt_not (dt_val (de_callOG (o__law_alike g) hr (by omega) (by rfl) (da_cons (de_var 8) (da_cons (de_if (dt_isN (de_var 7) de_non) (de_tup (da_cons de_bl (da_cons (de_tup (da_cons de_str (da_cons de_str da_nil))) da_nil))) (de_tup (da_cons de_bl (da_cons (de_var 7) da_nil)))) da_nil))))) (dss_one (ds_ret de_bl)) dss_nil)
      (dss_cons (ds_if (dt_isN (de_var 7) de_non) (dss_one ds_continue) dss_nil)
      (dss_cons (ds_if (dt_not (dt_val (de_callOG (o__law_alike g) hr (by omega) (by rfl) (da_cons (de_callO (o_unpacked g) hr.1 (by omega) (by rfl) lxF (da_cons (de_var 7) da_nil)) (da_cons (de_var 6) da_nil))))) (dss_one (ds_ret de_bl)) dss_nil)
      (dss_one (ds_for PassesOwn.never rfl (di_range1 (by rfl) (b_range g) (da_cons de_int da_nil)) (dg_name (i := 9) nd) (dss_cons (ds_set (i := 10) nd (de_callO (o__law_take g) hr.1 (by omega) (by rfl) lx0 (da_cons (de_var 1) (da_cons (de_callB call_len calld_len (by rfl) (b_len g) PyProof.Rows.Boot.«len» (da_cons (de_var 7) da_nil)) da_nil))))
      (dss_cons (ds_set (i := 11) nd (de_callO (o__law_some g) hr.1 (by omega) (by rfl) lx0 (da_cons (de_var 1) (da_cons (de_lst (da_cons de_int (da_cons de_int (da_cons de_int (da_cons de_int (da_cons de_int (da_cons de_int (da_cons de_int (da_cons de_int da_nil))))))))) da_nil))))
      (dss_cons (ds_set (i := 12) nd (de_callO (o__law_some g) hr.1 (by omega) (by rfl) lx0 (da_cons (de_var 1) (da_cons (de_lst (da_cons (de_slice (de_var 7) do_none (do_some (de_var 10))) (da_cons (de_add (de_var 7) (de_tup (da_cons (de_var 11) da_nil))) (da_cons (de_add (de_add (de_slice (de_var 7) do_none (do_some (de_var 10))) (de_tup (da_cons (de_var 11) da_nil))) (de_slice (de_var 7) (do_some (de_add (de_var 10) de_int)) do_none)) (da_cons (de_add (de_slice (de_var 7) do_none (do_some (de_var 10))) (de_slice (de_var 7) (do_some (de_add (de_var 10) de_int)) do_none)) (da_cons (de_add (de_add (de_slice (de_var 7) do_none (do_some (de_var 10))) (de_tup (da_cons (de_var 11) da_nil))) (de_slice (de_var 7) (do_some (de_var 10)) do_none)) da_nil)))))) da_nil))))
      (dss_cons (ds_par (i := 13) (j := 8) rfl nd (da_cons (de_callO (o__law_fault g) hr.1 (by omega) (by rfl) lx0 (da_cons (de_var 12) da_nil)) (da_cons (heard (k := 45) g F hcd (hr.1.mono (by omega)) (by rfl) (by intros; rfl) (fun A outer s0 H0 E0 f0 c0 Γ0 EX0 hr lt => (de_callO (o_unpacked g) hr (by omega) (by rfl) lt.lx (da_cons (de_var 12) da_nil)))) da_nil)))
      (dss_cons (ds_if (DW.dt (dw_and (dt_notN (de_var 13) de_non) (dw_and1 (dt_ne hr.1 (de_var 8) (de_tup (da_cons de_bl (da_cons (de_add (de_tup (da_cons de_str da_nil)) (de_var 13)) da_nil))))))) (dss_one (ds_ret de_bl)) dss_nil)
      (dss_one (ds_if (DW.dt (dw_and (dt_isN (de_var 13) de_non) (dw_and1 (DW.dt (dw_or (dt_not (dt_val (de_ix (de_var 8) de_int))) (dw_or1 (dt_ne hr.1 (de_callO (o__law_bytes_of g) hr.1 (by omega) (by rfl) lx0 (da_cons (de_ix (de_var 8) de_int) (da_cons de_int da_nil))) (de_var 12)))))))) (dss_one (ds_ret de_bl)) dss_nil))))))))))))))))
      (dss_cons (ds_for PassesOwn.never rfl (di_src (de_tup (da_cons de_non (da_cons (de_lst (da_cons de_int (da_cons de_int (da_cons de_int da_nil)))) (da_cons (de_tup (da_cons de_int (da_cons de_int (da_cons de_int da_nil)))) (da_cons (de_tup (da_cons de_int (da_cons de_int (da_cons (de_neg de_int) da_nil)))) (da_cons (de_tup (da_cons de_int (da_cons de_int (da_cons de_bl da_nil)))) (da_cons de_str (da_cons de_int da_nil))))))))) (dg_name (i := 3) nd) (dss_one (ds_if (dt_ne hr.1 (heard (k := 45) g F hcd (hr.1.mono (by omega)) (by rfl) (by intros; rfl) (fun A outer s0 H0 E0 f0 c0 Γ0 EX0 hr lt => (de_callO (o_unpacked g) hr (by omega) (by rfl) lt.lx (da_cons (de_var 3) da_nil)))) (de_tup (da_cons de_bl (da_cons (de_tup (da_cons de_str (da_cons de_int (da_cons de_str da_nil)))) da_nil)))) (dss_one (ds_ret de_bl)) dss_nil)))
      (dss_cons (ds_set (i := 4) nd (de_tup da_nil))
      (dss_cons (ds_for PassesOwn.never rfl (di_range1 (by rfl) (b_range g) (da_cons de_int da_nil)) (dg_name (i := 2) nd) (dss_one (ds_set (i := 4) nd (de_tup (da_cons (de_var 4) da_nil)))))
      (dss_cons (ds_if (DW.dt (dw_or (dt_ne hr.1 (heard (k := 45) g F hcd (hr.1.mono (by omega)) (by rfl) (by intros; rfl) (fun A outer s0 H0 E0 f0 c0 Γ0 EX0 hr lt => (de_callO (o_packed g) hr (by omega) (by rfl) lt.lx (da_cons (de_ix (de_var 4) de_int) da_nil)))) (de_tup (da_cons de_bl (da_cons (de_callO (o__law_bytes_of g) hr.1 (by omega) (by rfl) lx0 (da_cons (de_ix (de_var 4) de_int) (da_cons de_int da_nil))) da_nil)))) (dw_or1 (dt_ne hr.1 (de_callO (o_unpacked g) hr.1 (by omega) (by rfl) lxF (da_cons (de_callO (o_packed g) hr.1 (by omega) (by rfl) lxF (da_cons (de_ix (de_var 4) de_int) da_nil)) da_nil)) (de_ix (de_var 4) de_int))))) (dss_one (ds_ret de_bl)) dss_nil)
      (dss_cons (ds_if (dt_ne hr.1 (heard (k := 45) g F hcd (hr.1.mono (by omega)) (by rfl) (by intros; rfl) (fun A outer s0 H0 E0 f0 c0 Γ0 EX0 hr lt => (de_callO (o_packed g) hr (by omega) (by rfl) lt.lx (da_cons (de_var 4) da_nil)))) (de_tup (da_cons de_bl (da_cons (de_tup (da_cons de_str (da_cons de_str da_nil))) da_nil)))) (dss_one (ds_ret de_bl)) dss_nil)
      (dss_cons (ds_set (i := 5) nd (de_add (de_mul (de_tup (da_cons de_int (da_cons de_int (da_cons de_int da_nil)))) de_int) (de_tup (da_cons de_int (da_cons de_int (da_cons de_int da_nil))))))
      (dss_cons (ds_if (dt_ne hr.1 (heard (k := 45) g F hcd (hr.1.mono (by omega)) (by rfl) (by intros; rfl) (fun A outer s0 H0 E0 f0 c0 Γ0 EX0 hr lt => (de_callO (o_unpacked g) hr (by omega) (by rfl) lt.lx (da_cons (de_tup da_nil) da_nil)))) (de_tup (da_cons de_bl (da_cons (de_tup (da_cons de_str (da_cons de_int (da_cons de_str da_nil)))) da_nil)))) (dss_one (ds_ret de_bl)) dss_nil)
      (dss_one (ds_ret (de_eq hr.1 (heard (k := 45) g F hcd (hr.1.mono (by omega)) (by rfl) (by intros; rfl) (fun A outer s0 H0 E0 f0 c0 Γ0 EX0 hr lt => (de_callO (o_unpacked g) hr (by omega) (by rfl) lt.lx (da_cons (de_var 5) da_nil)))) (de_tup (da_cons de_bl (da_cons (de_tup (da_cons de_str (da_cons de_int (da_cons de_str da_nil)))) da_nil)))))))))))))))))
    ?r
  case l => intro ds μ R EX ⟨_, e, _⟩; rw [e]; rfl
  case r =>
    rintro ds μ R EX ⟨ns, rfl, hbits, hns, hT, q⟩
    have done : ∀ μ', Sett R (.bool true) μ' := fun μ' => sett_now (q μ')
    rw [DL.seq_assoc, DL.seq_assoc]
    refine seq_split (fun ρ' μ' => ∃ (a : Addr) (ys : List D) (c2 c3 c4 c5 c6 c7 c8 c9 c10 c11 c12 c13 : Option Sl), μ a = none ∧ BagOk ys ∧ μ' = mset μ a (.lst ys) ∧ ρ' = [some (.v (dscr (ns.map .int))), some (.v (dref a)), c2, c3, c4, c5, c6, c7, c8, c9, c10, c11, c12, c13]) ?_ ?_
    · rintro _ _ ⟨a, ys, c2, c3, c4, c5, c6, c7, c8, c9, c10, c11, c12, c13, ha, By, rfl, rfl⟩
      clear q hbits hns
      have hT' : ∀ ys, HasTabs (tabT K) (mset μ a (.lst ys)) := fun ys => tabs_set hT ha
      refine seq_split (fun ρ' μ' => ∃ (c3 : Option Sl), μ' = mset μ a (.lst ys) ∧ ρ' = [some (.v (dscr (ns.map .int))), some (.v (dref a)), c2, c3, c4, c5, c6, c7, c8, c9, c10, c11, c12, c13]) ?_ ?_
      · rintro _ _ ⟨c3, rfl, rfl⟩
        rw [DL.seq_assoc]
        refine seq_split (fun ρ' μ' => ∃ (c2 : Option Sl), μ' = mset μ a (.lst ys) ∧ ρ' = [some (.v (dscr (ns.map .int))), some (.v (dref a)), c2, c3, some (.v (nest 20)), c5, c6, c7, c8, c9, c10, c11, c12, c13]) ?_ ?_
        · rintro _ _ ⟨c2, rfl, rfl⟩
          refine seq_split (fun ρ' μ' => μ' = mset μ a (.lst ys) ∧ ρ' = [some (.v (dscr (ns.map .int))), some (.v (dref a)), c2, c3, some (.v (nest 20)), c5, c6, c7, c8, c9, c10, c11, c12, c13]) ?_ ?_
          · rintro _ _ ⟨rfl, rfl⟩
            refine seq_split (fun ρ' μ' => μ' = mset μ a (.lst ys) ∧ ρ' = [some (.v (dscr (ns.map .int))), some (.v (dref a)), c2, c3, some (.v (nest 20)), c5, c6, c7, c8, c9, c10, c11, c12, c13]) ?_ ?_
            · rintro _ _ ⟨rfl, rfl⟩
              rw [DL.seq_assoc]
              refine seq_split (fun ρ' μ' => μ' = mset μ a (.lst ys) ∧ ρ' = [some (.v (dscr (ns.map .int))), some (.v (dref a)), c2, c3, some (.v (nest 20)), some (.v (.tuple (some63.map .int))), c6, c7, c8, c9, c10, c11, c12, c13]) ?_ ?_
              · rintro _ _ ⟨rfl, rfl⟩
                simp only [dSeq, dNext, dRet, dRetN, dIfS, dSet, dDrop, dAsg, dPar, dCont, dBreak, dBin, dCmp, dTest, dAnd, dOr, dNot, dAndV, dOrV, dNotV, dIf, dChain, dCB, dBM, dBM0, dCall, dC, dCons, dNil, dTup, dLst, dLstM, dStar, dYes, dNeg, dSlice, dNoPart, dPart, dgName, dVar, dIsN, dNotN, startD, List.map_cons, List.map_nil, List.cons_append, List.nil_append, List.replicate_zero, List.replicate_succ, List.length_cons, List.length_nil, Nat.sub_self, Nat.reduceSub, Nat.reduceAdd, List.getElem?_cons_zero, List.getElem?_cons_succ, List.set_cons_zero, List.set_cons_succ, Option.some.injEq, Sl.v.injEq, exists_eq_left', PyData.bool.injEq, PyData.int.injEq, PyData.str.injEq, PyData.tuple.injEq, PyData.list.injEq, snap_none, snap_bool, snap_int, snap_str, snap_list, snap_tuple, ltD_int, eqvD_int, dRaise, dRaise0, told_ok, told_er, dLc, dLcX, diSrc, items_str, items_tup, items_lst, wipeR, DL.strip, diRange1, diRange2, dgTup, dgCons, dgNil, List.cons.injEq, and_true, true_and, forall_eq_apply_imp_iff, exists_eq_left, ↓reduceIte, Bool.not_true, Bool.not_false, Bool.false_eq_true, if_true, if_false, ixM, ixT, ixL, ixS, lenM, lenT, lenL, snapM, List.length_map, dHeard, fs_unpacked]
                have hr : ∀ b ∈ some63, 0 ≤ b ∧ b ≤ 255 := by decide +kernel
                refine ⟨hT' _, nd_tuple, fun xs e => nd_ints (l := some63) (by decide +kernel) xs (by rw [e]), ?_⟩
                rw [bytesOf_ints hr]
                dsimp only
                rw [unp_some]
                dsimp only
                refine ⟨_, heard_bad g 60 "deep", by decide, by decide, ?_⟩
                exact same_eq (R := fun d => Sett R d _) (by rfl) (by decide +kernel) (done _)
              · intro X hX
                simp only [dSeq, dNext, dRet, dRetN, dIfS, dSet, dDrop, dAsg, dPar, dCont, dBreak, dBin, dCmp, dTest, dAnd, dOr, dNot, dAndV, dOrV, dNotV, dIf, dChain, dCB, dBM, dBM0, dCall, dC, dCons, dNil, dTup, dLst, dLstM, dStar, dYes, dNeg, dSlice, dNoPart, dPart, dgName, dVar, dIsN, dNotN, startD, List.map_cons, List.map_nil, List.cons_append, List.nil_append, List.replicate_zero, List.replicate_succ, List.length_cons, List.length_nil, Nat.sub_self, Nat.reduceSub, Nat.reduceAdd, List.getElem?_cons_zero, List.getElem?_cons_succ, List.set_cons_zero, List.set_cons_succ, Option.some.injEq, Sl.v.injEq, exists_eq_left', PyData.bool.injEq, PyData.int.injEq, PyData.str.injEq, PyData.tuple.injEq, PyData.list.injEq, snap_none, snap_bool, snap_int, snap_str, snap_list, snap_tuple, ltD_int, eqvD_int, dRaise, dRaise0, told_ok, told_er, dLc, dLcX, diSrc, items_str, items_tup, items_lst, wipeR, DL.strip, diRange1, diRange2, dgTup, dgCons, dgNil, List.cons.injEq, and_true, true_and, forall_eq_apply_imp_iff, exists_eq_left, ↓reduceIte, Bool.not_true, Bool.not_false, Bool.false_eq_true, if_true, if_false, ixM, ixT, ixL, ixS, lenM, lenT, lenL, snapM, List.length_map, dHeard, fs_unpacked, dMul, dAdd]
                refine ⟨by decide, ⟨by simp, by decide, by decide, by decide⟩, by decide, by decide +kernel, hT' _, by decide, nd_tuple, fun xs e => by subst e; exact ⟨(fun _ h => nomatch h), by decide⟩, ?_⟩
                have e0 : bytesOf (.tuple []) = some [] := rfl
                rw [e0]
                dsimp only
                rw [unp_nil]
                dsimp only
                refine ⟨_, heard_bad g 0 "end", by decide, by decide, ?_⟩
                exact same_ne (by rfl) (by decide +kernel) (hX _ _ ⟨rfl, rfl⟩)
            · intro X hX
              simp only [dSeq, dNext, dRet, dRetN, dIfS, dSet, dDrop, dAsg, dPar, dCont, dBreak, dBin, dCmp, dTest, dAnd, dOr, dNot, dAndV, dOrV, dNotV, dIf, dChain, dCB, dBM, dBM0, dCall, dC, dCons, dNil, dTup, dLst, dLstM, dStar, dYes, dNeg, dSlice, dNoPart, dPart, dgName, dVar, dIsN, dNotN, startD, List.map_cons, List.map_nil, List.cons_append, List.nil_append, List.replicate_zero, List.replicate_succ, List.length_cons, List.length_nil, Nat.sub_self, Nat.reduceSub, Nat.reduceAdd, List.getElem?_cons_zero, List.getElem?_cons_succ, List.set_cons_zero, List.set_cons_succ, Option.some.injEq, Sl.v.injEq, exists_eq_left', PyData.bool.injEq, PyData.int.injEq, PyData.str.injEq, PyData.tuple.injEq, PyData.list.injEq, snap_none, snap_bool, snap_int, snap_str, snap_list, snap_tuple, ltD_int, eqvD_int, dRaise, dRaise0, told_ok, told_er, dLc, dLcX, diSrc, items_str, items_tup, items_lst, wipeR, DL.strip, diRange1, diRange2, dgTup, dgCons, dgNil, List.cons.injEq, and_true, true_and, forall_eq_apply_imp_iff, exists_eq_left, ↓reduceIte, Bool.not_true, Bool.not_false, Bool.false_eq_true, if_true, if_false, ixM, ixT, ixL, ixS, lenM, lenT, lenL, snapM, List.length_map, dHeard, fs_packed]
              rw [pk_nest20]
              obtain ⟨z1, z2, z3⟩ := nest_sz 20
              refine ⟨hT' _, by omega, by omega, _, heard_ref K, by decide, by decide, ?_⟩
              exact same_ne (by rfl) (by decide +kernel) (hX _ _ ⟨rfl, rfl⟩)
          · intro X hX
            obtain ⟨l, hl⟩ := pk_nest19
            obtain ⟨z1, z2, z3⟩ := nest_sz 19
            have hr := pk_rng _ 0 l hl (by omega)
            have hln := pk_sz _ 0 l hl
            simp only [dSeq, dNext, dRet, dRetN, dIfS, dSet, dDrop, dAsg, dPar, dCont, dBreak, dBin, dCmp, dTest, dAnd, dOr, dNot, dAndV, dOrV, dNotV, dIf, dChain, dCB, dBM, dBM0, dCall, dC, dCons, dNil, dTup, dLst, dLstM, dStar, dYes, dNeg, dSlice, dNoPart, dPart, dgName, dVar, dIsN, dNotN, startD, List.map_cons, List.map_nil, List.cons_append, List.nil_append, List.replicate_zero, List.replicate_succ, List.length_cons, List.length_nil, Nat.sub_self, Nat.reduceSub, Nat.reduceAdd, List.getElem?_cons_zero, List.getElem?_cons_succ, List.set_cons_zero, List.set_cons_succ, Option.some.injEq, Sl.v.injEq, exists_eq_left', PyData.bool.injEq, PyData.int.injEq, PyData.str.injEq, PyData.tuple.injEq, PyData.list.injEq, snap_none, snap_bool, snap_int, snap_str, snap_list, snap_tuple, ltD_int, eqvD_int, dRaise, dRaise0, told_ok, told_er, dLc, dLcX, diSrc, items_str, items_tup, items_lst, wipeR, DL.strip, diRange1, diRange2, dgTup, dgCons, dgNil, List.cons.injEq, and_true, true_and, forall_eq_apply_imp_iff, exists_eq_left, ↓reduceIte, Bool.not_true, Bool.not_false, Bool.false_eq_true, if_true, if_false, ixM, ixT, ixL, ixS, lenM, lenT, lenL, snapM, List.length_map, dHeard, fs_packed, fs_unpacked, fs_bo, ix_nest (n := 19)]
            refine ⟨hT' _, by omega, by omega, ?_⟩
            rw [hl]
            dsimp only
            refine ⟨nest 19, 0, ⟨rfl, rfl⟩, by omega, by omega, by decide, by decide, by decide, ?_⟩
            rw [hl]
            dsimp only
            have hp : PyData.plain (.tuple [.bool true, .tuple (l.map .int)]) = true := by simp [PyData.plain, PyData.plainAll, plain_ints.1]
            refine ⟨⟨hp, hp, by simp [PyData.depth, PyData.depthAll, plain_ints.2]⟩, ifF (by rw [SeqAt.eqv_refl_plain _ hp]; decide) ⟨by omega, by omega, ?_⟩⟩
            refine ⟨nd_tuple, fun xs e => nd_ints (l := l) (by omega) xs (by rw [e]), ?_⟩
            rw [bytesOf_ints hr]
            dsimp only
            rw [unp_pk hl]
            dsimp only
            have hs : ∀ μ, snap μ (nest 19) = nest 19 := fun μ => rfl
            refine ⟨⟨z3, z3, by rw [hs]; omega⟩, ifF (by rw [hs, SeqAt.eqv_refl_plain _ z3]; decide) (hX _ _ ⟨rfl, rfl⟩)⟩
        · intro X hX
          simp only [dSeq, dNext, dRet, dRetN, dIfS, dSet, dDrop, dAsg, dPar, dCont, dBreak, dBin, dCmp, dTest, dAnd, dOr, dNot, dAndV, dOrV, dNotV, dIf, dChain, dCB, dBM, dBM0, dCall, dC, dCons, dNil, dTup, dLst, dLstM, dStar, dYes, dNeg, dSlice, dNoPart, dPart, dgName, dVar, dIsN, dNotN, startD, List.map_cons, List.map_nil, List.cons_append, List.nil_append, List.replicate_zero, List.replicate_succ, List.length_cons, List.length_nil, Nat.sub_self, Nat.reduceSub, Nat.reduceAdd, List.getElem?_cons_zero, List.getElem?_cons_succ, List.set_cons_zero, List.set_cons_succ, Option.some.injEq, Sl.v.injEq, exists_eq_left', PyData.bool.injEq, PyData.int.injEq, PyData.str.injEq, PyData.tuple.injEq, PyData.list.injEq, snap_none, snap_bool, snap_int, snap_str, snap_list, snap_tuple, ltD_int, eqvD_int, dRaise, dRaise0, told_ok, told_er, dLc, dLcX, diSrc, items_str, items_tup, items_lst, wipeR, DL.strip, diRange1, diRange2, dgTup, dgCons, dgNil, List.cons.injEq, and_true, true_and, forall_eq_apply_imp_iff, exists_eq_left, ↓reduceIte, Bool.not_true, Bool.not_false, Bool.false_eq_true, if_true, if_false, ixM, ixT, ixL, ixS, lenM, lenT, lenL, snapM, List.length_map, dFor]
          refine ⟨by decide, ⟨by decide, by decide⟩, ?_⟩
          refine forN_ind (fun rest ρ' μ' => ∃ (c2 : Option Sl) (n : Nat), n + rest.length = 20 ∧ μ' = mset μ a (.lst ys) ∧ ρ' = [some (.v (dscr (ns.map .int))), some (.v (dref a)), c2, c3, some (.v (nest n)), c5, c6, c7, c8, c9, c10, c11, c12, c13]) ?_ ?_ _ _ _ ⟨c2, 0, by simp [DL.ints_len], rfl, rfl⟩
          · rintro _ _ ⟨c2, n, hn, rfl, rfl⟩
            have : n = 20 := by simpa using hn
            subst this
            exact hX _ _ ⟨c2, rfl, rfl⟩
          · rintro d rest _ _ N ⟨c2, n, hn, rfl, rfl⟩ ih
            simp only [dSeq, dNext, dRet, dRetN, dIfS, dSet, dDrop, dAsg, dPar, dCont, dBreak, dBin, dCmp, dTest, dAnd, dOr, dNot, dAndV, dOrV, dNotV, dIf, dChain, dCB, dBM, dBM0, dCall, dC, dCons, dNil, dTup, dLst, dLstM, dStar, dYes, dNeg, dSlice, dNoPart, dPart, dgName, dVar, dIsN, dNotN, startD, List.map_cons, List.map_nil, List.cons_append, List.nil_append, List.replicate_zero, List.replicate_succ, List.length_cons, List.length_nil, Nat.sub_self, Nat.reduceSub, Nat.reduceAdd, List.getElem?_cons_zero, List.getElem?_cons_succ, List.set_cons_zero, List.set_cons_succ, Option.some.injEq, Sl.v.injEq, exists_eq_left', PyData.bool.injEq, PyData.int.injEq, PyData.str.injEq, PyData.tuple.injEq, PyData.list.injEq, snap_none, snap_bool, snap_int, snap_str, snap_list, snap_tuple, ltD_int, eqvD_int, dRaise, dRaise0, told_ok, told_er, dLc, dLcX, diSrc, items_str, items_tup, items_lst, wipeR, DL.strip, diRange1, diRange2, dgTup, dgCons, dgNil, List.cons.injEq, and_true, true_and, forall_eq_apply_imp_iff, exists_eq_left, ↓reduceIte, Bool.not_true, Bool.not_false, Bool.false_eq_true, if_true, if_false, ixM, ixT, ixL, ixS, lenM, lenT, lenL, snapM, List.length_map]
            refine ⟨by decide, ih _ _ ⟨_, n + 1, by simp only [List.length_cons] at hn; omega, rfl, rfl⟩⟩
      · intro X hX
        simp only [dSeq, dNext, dRet, dRetN, dIfS, dSet, dDrop, dAsg, dPar, dCont, dBreak, dBin, dCmp, dTest, dAnd, dOr, dNot, dAndV, dOrV, dNotV, dIf, dChain, dCB, dBM, dBM0, dCall, dC, dCons, dNil, dTup, dLst, dLstM, dStar, dYes, dNeg, dSlice, dNoPart, dPart, dgName, dVar, dIsN, dNotN, startD, List.map_cons, List.map_nil, List.cons_append, List.nil_append, List.replicate_zero, List.replicate_succ, List.length_cons, List.length_nil, Nat.sub_self, Nat.reduceSub, Nat.reduceAdd, List.getElem?_cons_zero, List.getElem?_cons_succ, List.set_cons_zero, List.set_cons_succ, Option.some.injEq, Sl.v.injEq, exists_eq_left', PyData.bool.injEq, PyData.int.injEq, PyData.str.injEq, PyData.tuple.injEq, PyData.list.injEq, snap_none, snap_bool, snap_int, snap_str, snap_list, snap_tuple, ltD_int, eqvD_int, dRaise, dRaise0, told_ok, told_er, dLc, dLcX, diSrc, items_str, items_tup, items_lst, wipeR, DL.strip, diRange1, diRange2, dgTup, dgCons, dgNil, List.cons.injEq, and_true, true_and, forall_eq_apply_imp_iff, exists_eq_left, ↓reduceIte, Bool.not_true, Bool.not_false, Bool.false_eq_true, if_true, if_false, ixM, ixT, ixL, ixS, lenM, lenT, lenL, snapM, List.length_map, dFor]
        refine ⟨by decide, by decide, by decide, by decide, by decide, ?_⟩
        refine forN_ind (fun rest ρ' μ' => ∃ (c3 : Option Sl), (∀ d ∈ rest, NoDict d ∧ (∀ xs, d = .tuple xs → (∀ x ∈ xs, NoDict x) ∧ xs.length ≤ 1000000) ∧ bytesOf d = none) ∧ μ' = mset μ a (.lst ys) ∧ ρ' = [some (.v (dscr (ns.map .int))), some (.v (dref a)), c2, c3, c4, c5, c6, c7, c8, c9, c10, c11, c12, c13]) ?_ ?_ _ _ _ ⟨c3, odds7, rfl, rfl⟩
        · rintro _ _ ⟨c3, _, rfl, rfl⟩
          exact hX _ _ ⟨c3, rfl, rfl⟩
        · rintro d rest _ _ N ⟨c3, hr, rfl, rfl⟩ ih
          obtain ⟨h1, h2, h3⟩ := hr d List.mem_cons_self
          simp only [dSeq, dNext, dRet, dRetN, dIfS, dSet, dDrop, dAsg, dPar, dCont, dBreak, dBin, dCmp, dTest, dAnd, dOr, dNot, dAndV, dOrV, dNotV, dIf, dChain, dCB, dBM, dBM0, dCall, dC, dCons, dNil, dTup, dLst, dLstM, dStar, dYes, dNeg, dSlice, dNoPart, dPart, dgName, dVar, dIsN, dNotN, startD, List.map_cons, List.map_nil, List.cons_append, List.nil_append, List.replicate_zero, List.replicate_succ, List.length_cons, List.length_nil, Nat.sub_self, Nat.reduceSub, Nat.reduceAdd, List.getElem?_cons_zero, List.getElem?_cons_succ, List.set_cons_zero, List.set_cons_succ, Option.some.injEq, Sl.v.injEq, exists_eq_left', PyData.bool.injEq, PyData.int.injEq, PyData.str.injEq, PyData.tuple.injEq, PyData.list.injEq, snap_none, snap_bool, snap_int, snap_str, snap_list, snap_tuple, ltD_int, eqvD_int, dRaise, dRaise0, told_ok, told_er, dLc, dLcX, diSrc, items_str, items_tup, items_lst, wipeR, DL.strip, diRange1, diRange2, dgTup, dgCons, dgNil, List.cons.injEq, and_true, true_and, forall_eq_apply_imp_iff, exists_eq_left, ↓reduceIte, Bool.not_true, Bool.not_false, Bool.false_eq_true, if_true, if_false, ixM, ixT, ixL, ixS, lenM, lenT, lenL, snapM, List.length_map, dHeard, fs_unpacked]
          refine ⟨hT' _, h1, h2, ?_⟩
          rw [h3]
          dsimp only
          refine ⟨_, heard_bad g 0 "bytes", by decide, by decide, ?_⟩
          exact same_ne (by rfl) (by decide +kernel) (ih _ _ ⟨_, fun d hd => hr d (List.mem_cons_of_mem _ hd), rfl, rfl⟩)
    · intro X hX
      simp only [dSeq, dNext, dRet, dRetN, dIfS, dSet, dDrop, dAsg, dPar, dCont, dBreak, dBin, dCmp, dTest, dAnd, dOr, dNot, dAndV, dOrV, dNotV, dIf, dChain, dCB, dBM, dBM0, dCall, dC, dCons, dNil, dTup, dLst, dLstM, dStar, dYes, dNeg, dSlice, dNoPart, dPart, dgName, dVar, dIsN, dNotN, startD, List.map_cons, List.map_nil, List.cons_append, List.nil_append, List.replicate_zero, List.replicate_succ, List.length_cons, List.length_nil, Nat.sub_self, Nat.reduceSub, Nat.reduceAdd, List.getElem?_cons_zero, List.getElem?_cons_succ, List.set_cons_zero, List.set_cons_succ, Option.some.injEq, Sl.v.injEq, exists_eq_left', PyData.bool.injEq, PyData.int.injEq, PyData.str.injEq, PyData.tuple.injEq, PyData.list.injEq, snap_none, snap_bool, snap_int, snap_str, snap_list, snap_tuple, ltD_int, eqvD_int, dRaise, dRaise0, told_ok, told_er, dLc, dLcX, diSrc, items_str, items_tup, items_lst, wipeR, DL.strip, diRange1, diRange2, dgTup, dgCons, dgNil, List.cons.injEq, and_true, true_and, forall_eq_apply_imp_iff, exists_eq_left, ↓reduceIte, Bool.not_true, Bool.not_false, Bool.false_eq_true, if_true, if_false, ixM, ixT, ixL, ixS, lenM, lenT, lenL, snapM, List.length_map, fs_bag, fs_signs, dFor]
      refine ⟨ns, rfl, fun a xs ha Bx => ⟨⟨rfl, rfl, by simp [PyData.depth]⟩, ifF (by rw [SeqAt.eqv_refl_plain _ (by rfl)]; decide) ⟨⟨by decide, by decide⟩, ?_⟩⟩⟩
      have hT' : ∀ ys, HasTabs (tabT K) (mset μ a (.lst ys)) := fun ys => tabs_set hT ha
      refine forN_ind (fun rest ρ' μ' => ∃ (ys : List D) (c2 c3 c4 c5 c6 c7 c8 c9 c10 c11 c12 c13 : Option Sl), BagOk ys ∧ μ' = mset μ a (.lst ys) ∧ ρ' = [some (.v (dscr (ns.map .int))), some (.v (dref a)), c2, c3, c4, c5, c6, c7, c8, c9, c10, c11, c12, c13]) ?_ ?_ _ _ _ ⟨xs, _, _, _, _, _, _, _, _, _, _, _, _, Bx, rfl, rfl⟩
      · rintro _ _ ⟨ys, c2, c3, c4, c5, c6, c7, c8, c9, c10, c11, c12, c13, By, rfl, rfl⟩
        exact hX _ _ ⟨a, ys, _, _, _, _, _, _, _, _, _, _, _, _, ha, By, rfl, rfl⟩
      · rintro d rest _ _ N ⟨ys, c2, c3, c4, c5, c6, c7, c8, c9, c10, c11, c12, c13, By, rfl, rfl⟩ ih
        simp only [dgName, List.set_cons_succ, List.set_cons_zero]
        rw [DL.seq_assoc, DL.seq_assoc, DL.seq_assoc, DL.seq_assoc, DL.seq_assoc]
        refine seq_split (fun ρ' μ' => ∃ (ys : List D) (th : D) (l : List Int) (c8 : Option Sl), BagOk ys ∧ Dat 4 th ∧ pk th 0 = some l ∧ μ' = mset μ a (.lst ys) ∧ ρ' = [some (.v (dscr (ns.map .int))), some (.v (dref a)), some (.v d), c3, c4, c5, some (.v th), some (.v (.tuple (l.map .int))), c8, c9, c10, c11, c12, c13]) ?_ ?_
        · rintro _ _ ⟨ys, th, l, c8, By, hd, hl, rfl, rfl⟩
          have hz : sz th ≤ 2048 := hd.sz
          have hr := pk_rng th 0 l hl (by omega)
          have hln := pk_sz th 0 l hl
          have hps := sz_pos th
          simp only [dSeq, dNext, dRet, dRetN, dIfS, dSet, dDrop, dAsg, dPar, dCont, dBreak, dBin, dCmp, dTest, dAnd, dOr, dNot, dAndV, dOrV, dNotV, dIf, dChain, dCB, dBM, dBM0, dCall, dC, dCons, dNil, dTup, dLst, dLstM, dStar, dYes, dNeg, dSlice, dNoPart, dPart, dgName, dVar, dIsN, dNotN, startD, List.map_cons, List.map_nil, List.cons_append, List.nil_append, List.replicate_zero, List.replicate_succ, List.length_cons, List.length_nil, Nat.sub_self, Nat.reduceSub, Nat.reduceAdd, List.getElem?_cons_zero, List.getElem?_cons_succ, List.set_cons_zero, List.set_cons_succ, Option.some.injEq, Sl.v.injEq, exists_eq_left', PyData.bool.injEq, PyData.int.injEq, PyData.str.injEq, PyData.tuple.injEq, PyData.list.injEq, snap_none, snap_bool, snap_int, snap_str, snap_list, snap_tuple, ltD_int, eqvD_int, dRaise, dRaise0, told_ok, told_er, dLc, dLcX, diSrc, items_str, items_tup, items_lst, wipeR, DL.strip, diRange1, diRange2, dgTup, dgCons, dgNil, List.cons.injEq, and_true, true_and, forall_eq_apply_imp_iff, exists_eq_left, ↓reduceIte, Bool.not_true, Bool.not_false, Bool.false_eq_true, if_true, if_false, ixM, ixT, ixL, ixS, lenM, lenT, lenL, snapM, List.length_map, dFor]
          refine ⟨⟨by decide, by decide⟩, ?_⟩
          refine forN_ind (fun rest ρ' μ' => ∃ (ys : List D) (c8 c9 c10 c11 c12 c13 : Option Sl), BagOk ys ∧ μ' = mset μ a (.lst ys) ∧ ρ' = [some (.v (dscr (ns.map .int))), some (.v (dref a)), some (.v d), c3, c4, c5, some (.v th), some (.v (.tuple (l.map .int))), c8, c9, c10, c11, c12, c13]) ?_ ?_ _ _ _ ⟨ys, c8, c9, c10, c11, c12, c13, By, rfl, rfl⟩
          · rintro _ _ ⟨ys, c8, c9, c10, c11, c12, c13, By, rfl, rfl⟩
            exact ih _ _ ⟨ys, _, _, _, _, _, _, _, _, _, _, _, _, By, rfl, rfl⟩
          · rintro d2 rest2 _ _ N2 ⟨ys, c8, c9, c10, c11, c12, c13, By, rfl, rfl⟩ ih2
            simp only [dgName, List.set_cons_succ, List.set_cons_zero]
            rw [DL.seq_assoc, DL.seq_assoc]
            refine seq_split (fun ρ' μ' => ∃ (ys : List D) (c8 c10 c11 c13 : Option Sl) (bs : List Int), BagOk ys ∧ BsOk bs ∧ bs.length ≤ 6000 ∧ μ' = mset μ a (.lst ys) ∧ ρ' = [some (.v (dscr (ns.map .int))), some (.v (dref a)), some (.v d), c3, c4, c5, some (.v th), some (.v (.tuple (l.map .int))), c8, some (.v d2), c10, c11, some (.v (.tuple (bs.map .int))), c13]) ?_ ?_
            · rintro _ _ ⟨ys, c8, c10, c11, c13, bs, By, B, hbl, rfl, rfl⟩
              have hf := fault_unp B
              simp only [dSeq, dNext, dRet, dRetN, dIfS, dSet, dDrop, dAsg, dPar, dCont, dBreak, dBin, dCmp, dTest, dAnd, dOr, dNot, dAndV, dOrV, dNotV, dIf, dChain, dCB, dBM, dBM0, dCall, dC, dCons, dNil, dTup, dLst, dLstM, dStar, dYes, dNeg, dSlice, dNoPart, dPart, dgName, dVar, dIsN, dNotN, startD, List.map_cons, List.map_nil, List.cons_append, List.nil_append, List.replicate_zero, List.replicate_succ, List.length_cons, List.length_nil, Nat.sub_self, Nat.reduceSub, Nat.reduceAdd, List.getElem?_cons_zero, List.getElem?_cons_succ, List.set_cons_zero, List.set_cons_succ, Option.some.injEq, Sl.v.injEq, exists_eq_left', PyData.bool.injEq, PyData.int.injEq, PyData.str.injEq, PyData.tuple.injEq, PyData.list.injEq, snap_none, snap_bool, snap_int, snap_str, snap_list, snap_tuple, ltD_int, eqvD_int, dRaise, dRaise0, told_ok, told_er, dLc, dLcX, diSrc, items_str, items_tup, items_lst, wipeR, DL.strip, diRange1, diRange2, dgTup, dgCons, dgNil, List.cons.injEq, and_true, true_and, forall_eq_apply_imp_iff, exists_eq_left, ↓reduceIte, Bool.not_true, Bool.not_false, Bool.false_eq_true, if_true, if_false, ixM, ixT, ixL, ixS, lenM, lenT, lenL, snapM, List.length_map, fs_fault, dHeard, fs_unpacked, dPar]
              refine ⟨bs, rfl, B, hT' _, nd_tuple, fun xs e => nd_ints (l := bs) (by omega) xs (by rw [e]), ?_⟩
              rw [bytesOf_ints B.rng]
              dsimp only
              cases e : unp bs with
              | error x =>
                rw [e] at hf
                dsimp only at hf ⊢
                refine ⟨_, heard_bad g x.1 x.2, _, _, ⟨rfl, rfl⟩, ?_⟩
                rw [hf]
                simp only [dSeq, dNext, dRet, dRetN, dIfS, dSet, dDrop, dAsg, dPar, dCont, dBreak, dBin, dCmp, dTest, dAnd, dOr, dNot, dAndV, dOrV, dNotV, dIf, dChain, dCB, dBM, dBM0, dCall, dC, dCons, dNil, dTup, dLst, dLstM, dStar, dYes, dNeg, dSlice, dNoPart, dPart, dgName, dVar, dIsN, dNotN, startD, List.map_cons, List.map_nil, List.cons_append, List.nil_append, List.replicate_zero, List.replicate_succ, List.length_cons, List.length_nil, Nat.sub_self, Nat.reduceSub, Nat.reduceAdd, List.getElem?_cons_zero, List.getElem?_cons_succ, List.set_cons_zero, List.set_cons_succ, Option.some.injEq, Sl.v.injEq, exists_eq_left', PyData.bool.injEq, PyData.int.injEq, PyData.str.injEq, PyData.tuple.injEq, PyData.list.injEq, snap_none, snap_bool, snap_int, snap_str, snap_list, snap_tuple, ltD_int, eqvD_int, dRaise, dRaise0, told_ok, told_er, dLc, dLcX, diSrc, items_str, items_tup, items_lst, wipeR, DL.strip, diRange1, diRange2, dgTup, dgCons, dgNil, List.cons.injEq, and_true, true_and, forall_eq_apply_imp_iff, exists_eq_left, ↓reduceIte, Bool.not_true, Bool.not_false, Bool.false_eq_true, if_true, if_false, ixM, ixT, ixL, ixS, lenM, lenT, lenL, snapM, List.length_map, dAdd]
                have hp : PyData.plain (.tuple [.bool false, .tuple [.str "bytes", .int x.1, .str x.2]]) = true := by simp [PyData.plain, PyData.plainAll]
                refine ifT rfl ⟨by decide, by decide, by decide, ⟨hp, hp, by simp [PyData.depth, PyData.depthAll]⟩, ifF (by rw [SeqAt.eqv_refl_plain _ hp]; decide) (ifF (by simp [isN]) ?_)⟩
                exact ih2 _ _ ⟨ys, _, _, _, _, _, _, By, rfl, rfl⟩
              | ok v =>
                obtain ⟨h1, h2, h3⟩ := unp_ok B e
                rw [e] at hf
                dsimp only at hf ⊢
                refine ⟨_, _, ⟨rfl, rfl⟩, ?_⟩
                rw [hf]
                simp only [dSeq, dNext, dRet, dRetN, dIfS, dSet, dDrop, dAsg, dPar, dCont, dBreak, dBin, dCmp, dTest, dAnd, dOr, dNot, dAndV, dOrV, dNotV, dIf, dChain, dCB, dBM, dBM0, dCall, dC, dCons, dNil, dTup, dLst, dLstM, dStar, dYes, dNeg, dSlice, dNoPart, dPart, dgName, dVar, dIsN, dNotN, startD, List.map_cons, List.map_nil, List.cons_append, List.nil_append, List.replicate_zero, List.replicate_succ, List.length_cons, List.length_nil, Nat.sub_self, Nat.reduceSub, Nat.reduceAdd, List.getElem?_cons_zero, List.getElem?_cons_succ, List.set_cons_zero, List.set_cons_succ, Option.some.injEq, Sl.v.injEq, exists_eq_left', PyData.bool.injEq, PyData.int.injEq, PyData.str.injEq, PyData.tuple.injEq, PyData.list.injEq, snap_none, snap_bool, snap_int, snap_str, snap_list, snap_tuple, ltD_int, eqvD_int, dRaise, dRaise0, told_ok, told_er, dLc, dLcX, diSrc, items_str, items_tup, items_lst, wipeR, DL.strip, diRange1, diRange2, dgTup, dgCons, dgNil, List.cons.injEq, and_true, true_and, forall_eq_apply_imp_iff, exists_eq_left, ↓reduceIte, Bool.not_true, Bool.not_false, Bool.false_eq_true, if_true, if_false, ixM, ixT, ixL, ixS, lenM, lenT, lenL, snapM, List.length_map, dAdd, fs_bo]
                refine ifF (by simp [isN]) (ifT rfl ⟨_, rfl, true, rfl, ifF (by decide) ⟨_, rfl, v, 0, ⟨rfl, rfl⟩, by omega, by omega, by decide, by decide, ?_⟩⟩)
                rw [h1]
                dsimp only
                have hp : PyData.plain (.tuple (bs.map .int)) = true := by simp [PyData.plain, plain_ints.1]
                refine ⟨⟨hp, hp, by simp [snap, PyData.depth, plain_ints.2]⟩, ifF (by rw [snap_tuple, SeqAt.eqv_refl_plain _ hp]; decide) ?_⟩
                exact ih2 _ _ ⟨ys, _, _, _, _, _, _, By, rfl, rfl⟩
            · intro Z hZ
              simp only [dSeq, dNext, dRet, dRetN, dIfS, dSet, dDrop, dAsg, dPar, dCont, dBreak, dBin, dCmp, dTest, dAnd, dOr, dNot, dAndV, dOrV, dNotV, dIf, dChain, dCB, dBM, dBM0, dCall, dC, dCons, dNil, dTup, dLst, dLstM, dStar, dYes, dNeg, dSlice, dNoPart, dPart, dgName, dVar, dIsN, dNotN, startD, List.map_cons, List.map_nil, List.cons_append, List.nil_append, List.replicate_zero, List.replicate_succ, List.length_cons, List.length_nil, Nat.sub_self, Nat.reduceSub, Nat.reduceAdd, List.getElem?_cons_zero, List.getElem?_cons_succ, List.set_cons_zero, List.set_cons_succ, Option.some.injEq, Sl.v.injEq, exists_eq_left', PyData.bool.injEq, PyData.int.injEq, PyData.str.injEq, PyData.tuple.injEq, PyData.list.injEq, snap_none, snap_bool, snap_int, snap_str, snap_list, snap_tuple, ltD_int, eqvD_int, dRaise, dRaise0, told_ok, told_er, dLc, dLcX, diSrc, items_str, items_tup, items_lst, wipeR, DL.strip, diRange1, diRange2, dgTup, dgCons, dgNil, List.cons.injEq, and_true, true_and, forall_eq_apply_imp_iff, exists_eq_left, ↓reduceIte, Bool.not_true, Bool.not_false, Bool.false_eq_true, if_true, if_false, ixM, ixT, ixL, ixS, lenM, lenT, lenL, snapM, List.length_map]
              refine take_on By (by omega) (by omega) fun n ys n0 n1 By => ?_
              obtain ⟨n, rfl⟩ := Int.eq_ofNat_of_zero_le n0
              refine ⟨by decide, someL_on By (by simp) (by simp) fun t ys ht By => ?_⟩
              obtain ⟨m, rfl, hm⟩ : ∃ m : Int, t = .int m ∧ 0 ≤ m ∧ m ≤ 255 := by
                simp only [List.mem_cons, List.not_mem_nil, or_false] at ht
                rcases ht with rfl | rfl | rfl | rfl | rfl | rfl | rfl | rfl <;> exact ⟨_, rfl, by decide, by decide⟩
              have en : (n : Int) + 1 = ((n + 1 : Nat) : Int) := by omega
              have em : ∀ k, (l.map PyData.int).take k = (l.take k).map .int := fun k => List.map_take.symm
              have ed : ∀ k, (l.map PyData.int).drop k = (l.drop k).map .int := fun k => List.map_drop.symm
              have e1 : [PyData.int m] = ([m] : List Int).map .int := rfl
              have ex : ∀ {P : Int → Prop} {j : Int}, P j → ∃ i, PyData.int j = .int i ∧ P i := fun h => ⟨_, rfl, h⟩
              simp only [dCut, dAdd, en, PyData.int.injEq, exists_eq_left', cutL_to, cutL_from, em, ed, e1, ← List.map_append, List.length_map, List.length_append]
              have l1 : (l.take n).length ≤ l.length := by rw [List.length_take]; omega
              have l2 : ∀ k, (l.drop k).length ≤ l.length := fun k => by rw [List.length_drop]; omega
              have l3 := l2 n
              have l4 := l2 (n + 1)
              have sm : ([m] : List Int).length = 1 := rfl
              have r1 : ∀ b ∈ l.take n, 0 ≤ b ∧ b ≤ 255 := fun b hb => hr b (List.mem_of_mem_take hb)
              have r2 : ∀ k, ∀ b ∈ l.drop k, 0 ≤ b ∧ b ≤ 255 := fun k b hb => hr b (List.mem_of_mem_drop hb)
              have r3 : ∀ b ∈ ([m] : List Int), 0 ≤ b ∧ b ≤ 255 := fun b hb => by rw [List.mem_singleton.mp hb]; exact hm
              have ra : ∀ {u v : List Int}, (∀ b ∈ u, 0 ≤ b ∧ b ≤ 255) → (∀ b ∈ v, 0 ≤ b ∧ b ≤ 255) → ∀ b ∈ u ++ v, 0 ≤ b ∧ b ≤ 255 := fun h1 h2 b hb => (List.mem_append.mp hb).elim (h1 b) (h2 b)
              have sl := sizeLine_eq
              refine ⟨by omega, by omega, by omega, by omega, by omega, by omega, by omega, by omega, by omega, by omega, ?_⟩
              refine someL_on By (by simp) (by simp) fun t ys ht By => ?_
              obtain ⟨bs, rfl, B, hbl⟩ : ∃ bs : List Int, t = .tuple (bs.map .int) ∧ (∀ b ∈ bs, 0 ≤ b ∧ b ≤ 255) ∧ bs.length ≤ 6000 := by
                simp only [List.mem_cons, List.not_mem_nil, or_false] at ht
                rcases ht with rfl | rfl | rfl | rfl | rfl
                · exact ⟨_, rfl, r1, by omega⟩
                · exact ⟨_, rfl, ra hr r3, by simp only [List.length_append]; omega⟩
                · exact ⟨_, rfl, ra (ra r1 r3) (r2 _), by simp only [List.length_append]; omega⟩
                · exact ⟨_, rfl, ra r1 (r2 _), by simp only [List.length_append]; omega⟩
                · exact ⟨_, rfl, ra (ra r1 r3) (r2 _), by simp only [List.length_append]; omega⟩
              exact hZ _ _ ⟨ys, _, _, _, _, bs, By, ⟨by omega, B⟩, hbl, rfl, rfl⟩
        · intro Y hY
          simp only [dSeq, dNext, dRet, dRetN, dIfS, dSet, dDrop, dAsg, dPar, dCont, dBreak, dBin, dCmp, dTest, dAnd, dOr, dNot, dAndV, dOrV, dNotV, dIf, dChain, dCB, dBM, dBM0, dCall, dC, dCons, dNil, dTup, dLst, dLstM, dStar, dYes, dNeg, dSlice, dNoPart, dPart, dgName, dVar, dIsN, dNotN, startD, List.map_cons, List.map_nil, List.cons_append, List.nil_append, List.replicate_zero, List.replicate_succ, List.length_cons, List.length_nil, Nat.sub_self, Nat.reduceSub, Nat.reduceAdd, List.getElem?_cons_zero, List.getElem?_cons_succ, List.set_cons_zero, List.set_cons_succ, Option.some.injEq, Sl.v.injEq, exists_eq_left', PyData.bool.injEq, PyData.int.injEq, PyData.str.injEq, PyData.tuple.injEq, PyData.list.injEq, snap_none, snap_bool, snap_int, snap_str, snap_list, snap_tuple, ltD_int, eqvD_int, dRaise, dRaise0, told_ok, told_er, dLc, dLcX, diSrc, items_str, items_tup, items_lst, wipeR, DL.strip, diRange1, diRange2, dgTup, dgCons, dgNil, List.cons.injEq, and_true, true_and, forall_eq_apply_imp_iff, exists_eq_left, ↓reduceIte, Bool.not_true, Bool.not_false, Bool.false_eq_true, if_true, if_false, ixM, ixT, ixL, ixS, lenM, lenT, lenL, snapM, List.length_map, fs_data, fs_bo, dHeard, fs_packed, fs_alike, fs_unpacked]
          refine ⟨a, ys, ⟨rfl, rfl⟩, mset_same, By, fun th ys hd By => ?_⟩
          rw [mset_mset]
          have hz : sz th ≤ 60000 := by have := hd.sz; omega
          have hdp : th.depth < 40 := by have := hd.dp; omega
          refine ⟨th, 0, ⟨rfl, rfl⟩, hz, hdp, by decide, by decide, hT' _, hz, hdp, ?_⟩
          cases e : pk th 0 with
          | none =>
            dsimp only
            refine ⟨_, heard_ref K, ifT rfl ⟨by decide, by decide, _, ⟨rfl, rfl⟩, prp_ref, ifT rfl ?_⟩⟩
            exact ih _ _ ⟨ys, _, _, _, _, _, _, _, _, _, _, _, _, By, rfl, rfl⟩
          | some l =>
            have hr := pk_rng th 0 l e hz
            have hl := pk_sz th 0 l e
            dsimp only
            refine ifF (by simp [isN]) ⟨by decide, _, ⟨rfl, rfl⟩, prp_told hr (by omega), ifF (by simp [isN]) ⟨nd_tuple, nd_ints (by omega), ?_⟩⟩
            rw [bytesOf_ints hr]
            dsimp only
            rw [unp_pk e]
            exact ⟨th, ⟨rfl, rfl⟩, prp_dat hd, hY _ _ ⟨ys, th, l, _, By, hd, e, rfl, rfl⟩⟩
end
end K15
set_option Elab.async false
set_option linter.all false
set_option maxRecDepth 100000
set_option maxHeartbeats 0
open PySem PySem.W PySem.Calls PyProof.Rows
theorem PySem.Challenge.cw_shelforder_k15_data_as_bytes_and_back_holds : PySem.Challenge.rw_shelforder_k15_data_as_bytes_and_back.Holds := by
  w_on; o_law
  refine HandSHeadRun.head_any (r := K15.R) (q := view K15.R.prog [43]) (H := K15.hk) (ob := K15.ob) (M := 6000) (loose := K15.loose) (d := HandSHeadRun.topDef K15.R.prog 43) (kwd := []) K15.ob_eq
    (by kernel_rfl) (fun s => by kernel_rfl) K15.run (by kernel_rfl) (by kernel_rfl) (by kernel_rfl) (by rfl) (by first | assumption | decide +kernel) (by decide +kernel) ⟨rfl, rfl, rfl, rfl, rfl, by decide +kernel⟩ ?hw ?hc
  case hw => w_witness2
  case hc =>
    refine DL.walk_G (l := PySem.Challenge.rw_shelforder_k15_data_as_bytes_and_back) (n := 63) (k := 50) (x := "script") rfl (by decide) (by kernel_rfl) ⟨rfl, by decide, by decide⟩ ?F
    intro w mg fa h Y G hmg0
    obtain ⟨K, KX, c⟩ := Y
    have hmg : mg ("law" : PySem.Str) = some (.ref fa) := by
      have e : (HandSHeadRun.topDef K15.R.prog 43).name = ("law" : PySem.Str) := by kernel_rfl
      rw [← e]
      exact hmg0
    have hp : (("law", none) : He.Defn) ∈ K15.tf := List.mem_cons_self
    obtain ⟨fd, F⟩ := c.d.def_ 20 (d := K15.mkD "law" 43) rfl
    have e := hmg.symm.trans (He.glo_ok KX G (c.d.fact 0 (f := .glo "law") rfl))
    cases e
    have b := L2.FunD.bindsA (ps := ["script"]) F fun _ _ _ _ _ _ us hl => match us, hl with | [_], _ => rfl
    refine ⟨K, KX, _, _, fd, _, c.empty _ hp, c.out _ hp, c.hd _ hp, fun s v => b s [v] rfl, fun H a ns hl hb ht ho sq na => DL.say_law (q := "law.<locals>.<lambda>") hl hb ht ho sq na, fun base kb nb tb => ?_⟩
    have g : K15.G K mg base := ⟨kb, nb, c.d, c.more, fun e he => c.excOf he, fun p hp => by rw [List.mem_singleton.mp hp]; exact tb⟩
    exact K15.o_law (w := w) g (He5.fun_of F)
