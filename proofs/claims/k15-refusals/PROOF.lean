import PyProof.Rows.All
import Wide.All
import OpenK.AllK
import Wide.FinOn
import HandS.ForMost
import HandS.Walk
import HandS.TupAny
import HandS.IsInst
import HandS.Style
import HandS.SortInts
import HandS.More
import HandS.Conv
import KE.SortData
import KE.SortKeyHeap
import HandS.SortKw
import HandS.TupSets
import HandS.Exc
import HandS.ExcOwn
import HandS.TryOnly
import HandS.WordsExc
import HandS.ExcIs
import HandS.RevRange
import PyProof.StrBlock2
import HandS.SetFor
import HandS.Strs
import HandS.ExcValue
import KE.DataMinMax
import KE.KRevSl
import HandS.Text
import HandS.Steps
import HandS.TryMany
import PySem.Challenge.RW_sayhall_k15_refusals
set_option Elab.async false
set_option linter.all false
set_option maxRecDepth 100000
set_option maxHeartbeats 8000000
section
open PySem PySem.W PyProof.Rows
set_option maxHeartbeats 0 in
theorem keyOf_sayhall_k15_refusals (h : PySem.Challenge.rw_sayhall_k15_refusals.row.wellSaid = true → PySem.Challenge.rw_sayhall_k15_refusals.row.Holds) : PySem.Challenge.rw_sayhall_k15_refusals.Holds := by
  w_on; o_law; exact h (by assumption)
end
/-! Fl1: a layer of my own over HandS: plain data (Dt), environments of data (Cell), judgements Ev, Tst, W. -/
namespace Fl
open PySem L2

/-! ### data -/
inductive Dt where
  | non
  | bl (b : Bool)
  | int (i : Int)
  | str (x : Str)
  | lst (ds : List Dt)
  | tup (ds : List Dt)
  | dct (ks : List (Int × Dt))
  | scr (ns : List Int)
  | ty (n : String)
  | dcl (ks : List (Int × Dt))
  | adr (a : Addr)

def Ex (H H' : Hp) : Prop := ∀ a o, H a = some o → H' a = some o
theorem Ex.refl (H : Hp) : Ex H H := fun _ _ h => h
theorem Ex.trans {H H1 H2 : Hp} (a : Ex H H1) (b : Ex H1 H2) : Ex H H2 := fun x o h => b x o (a x o h)
theorem Ex.back {H H' : Hp} (e : Ex H H') {a : Addr} (h : H' a = none) : H a = none := by
  cases q : H a with
  | none => rfl
  | some o => rw [e a o q] at h; cases h
theorem Ex.upd {H : Hp} {p : Addr} {o : HO} (h : H p = none) : Ex H (upd H p o) := fun a u e => by
  rw [upd_ne (ne_of_none e h)]; exact e
theorem Ex.rd {H H' : Hp} {a : Addr} {u : HO} (e : Ex H H') (h : Rd H a u) : Rd H' a u := by
  rcases h with h | ⟨o, h⟩
  · exact .inl (e a _ h)
  · exact .inr ⟨o, e a _ h⟩
theorem Ex.seq {K : PySem.W.Frag} {H H' : Hp} {a : Addr} {xs : List V} (e : Ex H H') (h : SqL K H a xs) : SqL K H' a xs := by
  rcases h with h | h
  · exact .inl (e.rd h)
  · exact .inr h

mutual
inductive Dr (K : PySem.W.Frag) (H : Hp) : V → Dt → Prop
  | non : Dr K H .non .non
  | bl (b : Bool) : Dr K H (.bl b) (.bl b)
  | int (i : Int) : Dr K H (.int i) (.int i)
  | str (x : Str) : Dr K H (.str x) (.str x)
  | lst {a : Addr} {xs : List V} {ds : List Dt} : H a = some (.lst xs) → Drs K H xs ds → Dr K H (.ref a) (.lst ds)
  | tup {a : Addr} {xs : List V} {ds : List Dt} : H a = some (.tup xs) → Drs K H xs ds → Dr K H (.ref a) (.tup ds)
  | dct {a : Addr} {ks : List (Key × V)} {ds : List (Int × Dt)} : H a = some (.dK ks) → Drk K H ks ds → Dr K H (.ref a) (.dct ds)
  | scr {a : Addr} {ns : List Int} : SqL K H a (ns.map V.int) → Dr K H (.ref a) (.scr ns)
  | ty (n : String) : Dr K H (.ty n) (.ty n)
  | dcl {a : Addr} {o : Obj} {ks : List (Key × V)} {ds : List (Int × Dt)} : H a = some (.frz o (.dK ks)) → Drk K H ks ds → Dr K H (.ref a) (.dcl ds)
  | adr (a : Addr) : Dr K H (.ref a) (.adr a)
inductive Drs (K : PySem.W.Frag) (H : Hp) : List V → List Dt → Prop
  | nil : Drs K H [] []
  | cons {v : V} {d : Dt} {vs : List V} {ds : List Dt} : Dr K H v d → Drs K H vs ds → Drs K H (v :: vs) (d :: ds)
inductive Drk (K : PySem.W.Frag) (H : Hp) : List (Key × V) → List (Int × Dt) → Prop
  | nil : Drk K H [] []
  | cons {i : Int} {v : V} {d : Dt} {vs : List (Key × V)} {ds : List (Int × Dt)} : Dr K H v d → Drk K H vs ds → Drk K H ((.inl i, v) :: vs) ((i, d) :: ds)
end

section
variable {K : PySem.W.Frag} {H H' : Hp}
mutual
theorem Dr.mono (e : Ex H H') : ∀ {v : V} {d : Dt}, Dr K H v d → Dr K H' v d
  | _, _, .non => .non
  | _, _, .bl b => .bl b
  | _, _, .int i => .int i
  | _, _, .str x => .str x
  | _, _, .lst h q => .lst (e _ _ h) (Drs.mono e q)
  | _, _, .tup h q => .tup (e _ _ h) (Drs.mono e q)
  | _, _, .dct h q => .dct (e _ _ h) (Drk.mono e q)
  | _, _, .scr h => .scr (e.seq h)
  | _, _, .ty n => .ty n
  | _, _, .dcl h q => .dcl (e _ _ h) (Drk.mono e q)
  | _, _, .adr a => .adr a
theorem Drs.mono (e : Ex H H') : ∀ {vs : List V} {ds : List Dt}, Drs K H vs ds → Drs K H' vs ds
  | _, _, .nil => .nil
  | _, _, .cons h q => .cons (Dr.mono e h) (Drs.mono e q)
theorem Drk.mono (e : Ex H H') : ∀ {vs : List (Key × V)} {ds : List (Int × Dt)}, Drk K H vs ds → Drk K H' vs ds
  | _, _, .nil => .nil
  | _, _, .cons h q => .cons (Dr.mono e h) (Drk.mono e q)
end
theorem Drs.length : ∀ {vs : List V} {ds : List Dt}, Drs K H vs ds → vs.length = ds.length
  | _, _, .nil => rfl
  | _, _, .cons _ q => by rw [List.length_cons, List.length_cons, q.length]
theorem Drk.length : ∀ {vs : List (Key × V)} {ds : List (Int × Dt)}, Drk K H vs ds → vs.length = ds.length
  | _, _, .nil => rfl
  | _, _, .cons _ q => by rw [List.length_cons, List.length_cons, q.length]
theorem Drs.append : ∀ {vs ws : List V} {ds es : List Dt}, Drs K H vs ds → Drs K H ws es → Drs K H (vs ++ ws) (ds ++ es)
  | _, _, _, _, .nil, s => s
  | _, _, _, _, .cons r t, s => .cons r (Drs.append t s)
theorem Drs.snoc {vs : List V} {ds : List Dt} {v : V} {d : Dt} (a : Drs K H vs ds) (b : Dr K H v d) : Drs K H (vs ++ [v]) (ds ++ [d]) := a.append (.cons b .nil)
theorem Drs.get : ∀ {vs : List V} {ds : List Dt} {i : Nat} {d : Dt}, Drs K H vs ds → ds[i]? = some d → ∃ v, vs[i]? = some v ∧ Dr K H v d
  | _, _, _, _, .nil, e => by simp at e
  | _, _, 0, _, .cons r _, e => by simp at e; subst e; exact ⟨_, rfl, r⟩
  | _, _, i + 1, d, .cons _ t, e => by
    obtain ⟨v, h1, h2⟩ := Drs.get (i := i) (d := d) t (by simpa using e)
    exact ⟨v, by simpa using h1, h2⟩
theorem Drs.get' : ∀ {vs : List V} {ds : List Dt} {i : Nat} {v : V}, Drs K H vs ds → vs[i]? = some v → ∃ d, ds[i]? = some d ∧ Dr K H v d
  | _, _, _, _, .nil, e => by simp at e
  | _, _, 0, _, .cons r _, e => by simp at e; subst e; exact ⟨_, rfl, r⟩
  | _, _, i + 1, d, .cons _ t, e => by
    obtain ⟨v, h1, h2⟩ := Drs.get' (i := i) t (by simpa using e)
    exact ⟨v, by simpa using h1, h2⟩
theorem Drs.take : ∀ {vs : List V} {ds : List Dt} (n : Nat), Drs K H vs ds → Drs K H (vs.take n) (ds.take n)
  | _, _, 0, _ => .nil
  | _, _, _ + 1, .nil => .nil
  | _, _, n + 1, .cons r t => .cons r (Drs.take n t)
theorem Drs.drop : ∀ {vs : List V} {ds : List Dt} (n : Nat), Drs K H vs ds → Drs K H (vs.drop n) (ds.drop n)
  | _, _, 0, r => r
  | _, _, _ + 1, .nil => .nil
  | _, _, n + 1, .cons _ t => Drs.drop n t
theorem Drs.reverse {vs : List V} {ds : List Dt} (h : Drs K H vs ds) : Drs K H vs.reverse ds.reverse := by
  induction ds generalizing vs with
  | nil => cases h; exact .nil
  | cons d ds ih =>
    cases h with
    | cons a b => rw [List.reverse_cons, List.reverse_cons]; exact (ih b).snoc a
theorem Drs.set {v : V} {d : Dt} (r : Dr K H v d) : ∀ {vs : List V} {ds : List Dt} (i : Nat), Drs K H vs ds → Drs K H (vs.set i v) (ds.set i d)
  | _, _, _, .nil => .nil
  | _, _, 0, .cons _ t => .cons r t
  | _, _, i + 1, .cons q t => .cons q (Drs.set r i t)
theorem Drs.ints : ∀ {vs : List V} {ns : List Int}, Drs K H vs (ns.map Dt.int) → vs = ns.map V.int
  | _, [], .nil => rfl
  | _, n :: ns, .cons h q => by cases h; rw [Drs.ints q]; rfl
theorem Drs.bls : ∀ {vs : List V} {ns : List Bool}, Drs K H vs (ns.map Dt.bl) → vs = ns.map V.bl
  | _, [], .nil => rfl
  | _, n :: ns, .cons h q => by cases h; rw [Drs.bls q]; rfl
theorem Drs.strs : ∀ {vs : List V} {ns : List Str}, Drs K H vs (ns.map Dt.str) → vs = ns.map V.str
  | _, [], .nil => rfl
  | _, n :: ns, .cons h q => by cases h; rw [Drs.strs q]; rfl
theorem Drs.of_ints : ∀ (ns : List Int), Drs K H (ns.map V.int) (ns.map Dt.int)
  | [] => .nil
  | n :: ns => .cons (.int n) (Drs.of_ints ns)
theorem Drs.of_strs : ∀ (ns : List Str), Drs K H (ns.map V.str) (ns.map Dt.str)
  | [] => .nil
  | n :: ns => .cons (.str n) (Drs.of_strs ns)
end

/-! ### environments -/
/-- S.Hs: what stood at the entry and must stand; S.F: what the callers own -/
structure Bs where
  Hs : Hp
  F : Addr → Prop
inductive Cell where
  | no
  | val (d : Dt)
  | own (b : Option Addr) (ds : List Dt)
  | ownD (ks : List (Int × Dt))
  | ownT (ks : List (List Int))
/-- where an own list lies: an address told, or one that no caller owns -/
def Oat (S : Bs) (a : Addr) : Option Addr → Prop
  | none => ¬ S.F a
  | some A => a = A
theorem Oat.mono {S S' : Bs} {a : Addr} {o : Option Addr} (h : Oat S a o) (k : ¬ S.F a → ¬ S'.F a) : Oat S' a o := by
  cases o with
  | none => exact k h
  | some A => exact h
def Cell.isOwn : Cell → Bool
  | .own _ _ => true
  | .ownD _ => true
  | .ownT _ => true
  | _ => false
def keysT (ks : List (List Int)) : List (List Key × V) := ks.map fun k => (k.map Sum.inl, V.bl true)
def CellOk (K : PySem.W.Frag) (S : Bs) (H0 H : Hp) (o : Option V) : Cell → Prop
  | .no => True
  | .val d => ∃ v, o = some v ∧ Dr K H0 v d
  | .own b ds => ∃ a xs, o = some (.ref a) ∧ H0 a = none ∧ S.Hs a = none ∧ Oat S a b ∧ H a = some (.lst xs) ∧ Drs K H0 xs ds
  | .ownD ks => ∃ a xs, o = some (.ref a) ∧ H0 a = none ∧ S.Hs a = none ∧ ¬ S.F a ∧ H a = some (.dK xs) ∧ Drk K H0 xs ks
  | .ownT ks => ∃ a, o = some (.ref a) ∧ H0 a = none ∧ S.Hs a = none ∧ ¬ S.F a ∧ H a = some (.dT (keysT ks))
abbrev Ct := List Cell
def cg : Ct → Nat → Option Cell
  | [], _ => none
  | c :: _, 0 => some c
  | _ :: r, i + 1 => cg r i
def cp : Ct → Nat → Cell → Ct
  | [], _, _ => []
  | _ :: r, 0, c => c :: r
  | d :: r, i + 1, c => d :: cp r i c
theorem cg_eq : ∀ (Γ : Ct) (i : Nat), cg Γ i = Γ[i]?
  | [], _ => by simp [cg]
  | c :: _, 0 => by simp [cg]
  | _ :: r, i + 1 => by simp [cg, cg_eq r i]
theorem cp_eq : ∀ (Γ : Ct) (i : Nat) (c : Cell), cp Γ i c = Γ.set i c
  | [], _, _ => rfl
  | _ :: _, 0, _ => rfl
  | d :: r, i + 1, c => by rw [cp, cp_eq r i c, List.set_cons_succ]
theorem cp_len (Γ : Ct) (i : Nat) (c : Cell) : (cp Γ i c).length = Γ.length := by rw [cp_eq, List.length_set]
theorem cg_cp_ne {Γ : Ct} {i j : Nat} {c : Cell} (h : j ≠ i) : cg (cp Γ i c) j = cg Γ j := by rw [cg_eq, cg_eq, cp_eq, List.getElem?_set_ne (Ne.symm h)]
theorem cg_cp {Γ : Ct} {i : Nat} {c d : Cell} (h : cg (cp Γ i c) i = some d) : d = c := by
  rw [cg_eq, cp_eq, List.getElem?_set] at h
  rw [if_pos rfl] at h
  split at h
  · exact (Option.some.inj h).symm
  · cases h
/-- an object that may change -/
def Mu (o : Option HO) : Prop := ∃ u, o = some u ∧ ∀ xs, u ≠ .tup xs
theorem Mu.nn {o : Option HO} (h : Mu o) : o ≠ none := fun z => by obtain ⟨u, e, _⟩ := h; rw [z] at e; cases e
/-- what may be frozen anew: what was not there, and tuples -/
def Nw (H : Hp) (a : Addr) : Prop := H a = none ∨ ∃ xs, H a = some (.tup xs)
theorem Mu.no {H : Hp} {a : Addr} (h : Mu (H a)) : ¬ Nw H a := fun z => by
  obtain ⟨u, e, n⟩ := h
  rcases z with z | ⟨xs, z⟩
  · rw [z] at e; cases e
  · rw [z] at e; exact n xs (Option.some.inj e).symm
theorem mu_or (H : Hp) (a : Addr) : Nw H a ∨ Mu (H a) := by
  cases q : H a with
  | none => exact .inl (.inl q)
  | some u =>
    by_cases t : ∃ xs, u = .tup xs
    · obtain ⟨xs, rfl⟩ := t; exact .inl (.inr ⟨xs, q⟩)
    · exact .inr ⟨u, rfl, fun xs z => t ⟨xs, z⟩⟩
structure En (K : PySem.W.Frag) (S : Bs) (H0 H : Hp) (σ : L2.St) (Γ : Ct) : Prop where
  sub : Ex H0 H
  bas : Ex S.Hs H
  forb : ∀ a, S.F a → H0 a = none ∧ Mu (H a)
  len : σ.length = Γ.length
  cells : ∀ (i : Nat) (c : Cell), cg Γ i = some c → ∃ o, σ[i]? = some o ∧ CellOk K S H0 H o c
  apart : ∀ (i j : Nat) (c d : Cell) (a : Addr), cg Γ i = some c → cg Γ j = some d → c.isOwn = true → d.isOwn = true → σ[i]? = some (some (.ref a)) → σ[j]? = some (some (.ref a)) → i = j

section
variable {K : PySem.W.Frag} {S : Bs} {H0 H H0' H' : Hp} {σ : L2.St} {Γ : Ct} {p : Addr} {o : HO}
theorem own_at {c : Cell} {x : Option V} (h : CellOk K S H0 H x c) (hc : c.isOwn = true) : ∃ a o, x = some (.ref a) ∧ H0 a = none ∧ S.Hs a = none ∧ H a = some o := by
  cases c with
  | no => cases hc
  | val d => cases hc
  | own b ds => obtain ⟨a, xs, e, h0, hs, _, h, _⟩ := h; exact ⟨a, _, e, h0, hs, h⟩
  | ownD ks => obtain ⟨a, xs, e, h0, hs, _, h, _⟩ := h; exact ⟨a, _, e, h0, hs, h⟩
  | ownT ks => obtain ⟨a, e, h0, hs, _, h⟩ := h; exact ⟨a, _, e, h0, hs, h⟩
theorem own_mu {c : Cell} {a : Addr} (h : CellOk K S H0 H (some (.ref a)) c) (hc : c.isOwn = true) : Mu (H a) := by
  have inj : ∀ {b : Addr}, some (V.ref a) = some (V.ref b) → a = b := fun e => V.ref.inj (Option.some.inj e)
  cases c with
  | no => cases hc
  | val d => cases hc
  | own b ds => obtain ⟨b, xs, e, h0, hs, _, h, _⟩ := h; rw [inj e]; exact ⟨_, h, fun _ z => nomatch z⟩
  | ownD ks => obtain ⟨b, xs, e, h0, hs, _, h, _⟩ := h; rw [inj e]; exact ⟨_, h, fun _ z => nomatch z⟩
  | ownT ks => obtain ⟨b, e, h0, hs, _, h⟩ := h; rw [inj e]; exact ⟨_, h, fun _ z => nomatch z⟩
/-- the frozen part grows by objects that are new, the whole keeps what is owned -/
theorem CellOk.grow {x : Option V} {c : Cell} (e0 : Ex H0 H0') (nw : ∀ a, H0' a ≠ none → H0 a = none → Nw H a) (k : ∀ a o, x = some (.ref a) → H a = some o → c.isOwn = true → H' a = some o) (h : CellOk K S H0 H x c) : CellOk K S H0' H' x c := by
  have nn : ∀ {a : Addr} {o : HO}, H0 a = none → H a = some o → (∀ xs, o ≠ .tup xs) → H0' a = none := fun {a o} h0 hh ht => by
    cases q : H0' a with
    | none => rfl
    | some u => exact absurd (nw a (by rw [q]; exact fun z => nomatch z) h0) (Mu.no ⟨o, hh, ht⟩)
  cases c with
  | no => trivial
  | val d => obtain ⟨v, e, r⟩ := h; exact ⟨v, e, r.mono e0⟩
  | own b ds => obtain ⟨a, xs, e, h0, hs, hf, h, r⟩ := h; exact ⟨a, xs, e, nn h0 h (fun _ z => nomatch z), hs, hf, k a _ e h rfl, r.mono e0⟩
  | ownD ks => obtain ⟨a, xs, e, h0, hs, hf, h, r⟩ := h; exact ⟨a, xs, e, nn h0 h (fun _ z => nomatch z), hs, hf, k a _ e h rfl, r.mono e0⟩
  | ownT ks => obtain ⟨a, e, h0, hs, hf, h⟩ := h; exact ⟨a, e, nn h0 h (fun _ z => nomatch z), hs, hf, k a _ e h rfl⟩
/-- behind something that made new objects, of which some are frozen -/
theorem En.grow (en : En K S H0 H σ Γ) (e0 : Ex H0 H0') (e : Ex H H') (s : Ex H0' H') (nw : ∀ a, H0' a ≠ none → H0 a = none → Nw H a) : En K S H0' H' σ Γ where
  sub := s
  bas := en.bas.trans e
  forb := fun a f => by
    obtain ⟨h0, h⟩ := en.forb a f
    constructor
    · cases q : H0' a with
      | none => rfl
      | some u => exact absurd (nw a (by rw [q]; exact fun z => nomatch z) h0) h.no
    · obtain ⟨u, h1, h2⟩ := h
      exact ⟨u, e a u h1, h2⟩
  len := en.len
  cells := fun i c hc => by
    obtain ⟨x, hx, q⟩ := en.cells i c hc
    exact ⟨x, hx, q.grow e0 nw fun a o _ h _ => e a o h⟩
  apart := en.apart
theorem En.new (en : En K S H0 H σ Γ) (hp : H p = none) : En K S (upd H0 p o) (upd H p o) σ Γ :=
  en.grow (Ex.upd (en.sub.back hp)) (Ex.upd hp) (fun a u h => by
    by_cases ha : a = p
    · subst ha; rw [upd_same] at h ⊢; exact h
    · rw [upd_ne ha] at h ⊢; exact en.sub a u h) fun a h h0 => by
      by_cases ha : a = p
      · subst ha; exact .inl hp
      · rw [upd_ne ha] at h; exact absurd h0 h
/-- a new object that is not frozen -/
theorem En.loose (en : En K S H0 H σ Γ) (hp : H p = none) : En K S H0 (upd H p o) σ Γ :=
  en.grow (Ex.refl _) (Ex.upd hp) (en.sub.trans (Ex.upd hp)) fun a h h0 => absurd h0 h
end
end Fl
namespace Fl
open PySem L2

/-! ### the strongest readings -/
section
variable {X : Cx} {σ : L2.St} {H : Hp}
def sE (X : Cx) (e : Expr) : TE := fun σ H Q => ∀ pins s, Inv X pins σ H s → wpAny (model X.prog X.w) X.A (eval e X.env) (EP X pins σ Q) X.xe s
def sT (X : Cx) (e : Expr) : TT := fun σ H Q => ∀ pins s, Inv X pins σ H s → wpAny (model X.prog X.w) X.A (isTrue e X.env (eval e X.env)) (TP X pins σ Q) X.xe s
def sW (X : Cx) (e : Expr) : TT := fun σ H Q => ∀ whole pins s, Inv X pins σ H s → wpAny (model X.prog X.w) X.A (isTrue e X.env whole) (TP X pins σ Q) X.xe s
def sA (X : Cx) (es : List Expr) : TA := fun σ H Q => ∀ pos pins s, Inv X pins σ H s → wpAny (model X.prog X.w) X.A (spliced (backTo pos (starEach es X.env))) (AP X pins σ Q) X.xe s
def sS (X : Cx) (st : Stmt) : TS := fun D σ H => ∀ pins s, Inv X pins σ H s → wpAny (model X.prog X.w) X.A (exec st X.env) (SP X pins D) X.xe s
def sSs (X : Cx) (st : List Stmt) : TS := fun D σ H => ∀ pins s, Inv X pins σ H s → wpAny (model X.prog X.w) X.A (execs st X.env) (SP X pins D) X.xe s
theorem pe_s {e : Expr} : PE X e (sE X e) := ⟨fun pins s _ _ _ I h => h pins s I⟩
theorem pt_s {e : Expr} : PT X e (sT X e) := ⟨fun pins s _ _ _ I h => h pins s I⟩
theorem pw_s {e : Expr} : PW X e (sW X e) := ⟨fun wh pins s _ _ _ I h => h wh pins s I⟩
theorem pa_s {es : List Expr} : PA X es (sA X es) := ⟨fun pos pins s _ _ _ I h => h pos pins s I⟩
theorem ps_s {st : Stmt} : PS X st (sS X st) := ⟨fun pins s _ _ _ I h => h pins s I⟩
theorem pss_s {st : List Stmt} : PSs X st (sSs X st) := ⟨fun pins s _ _ _ I h => h pins s I⟩
theorem s_e {e : Expr} {t : TE} {Q : VK} (h : PE X e t) (q : t σ H Q) : sE X e σ H Q := fun pins s I => h.run pins s σ H Q I q
theorem s_t {e : Expr} {t : TT} {Q : Bool → Hp → Prop} (h : PT X e t) (q : t σ H Q) : sT X e σ H Q := fun pins s I => h.run pins s σ H Q I q
theorem s_w {e : Expr} {t : TT} {Q : Bool → Hp → Prop} (h : PW X e t) (q : t σ H Q) : sW X e σ H Q := fun wh pins s I => h.run wh pins s σ H Q I q
theorem s_a {es : List Expr} {t : TA} {Q : List V → Hp → Prop} (h : PA X es t) (q : t σ H Q) : sA X es σ H Q := fun pos pins s I => h.run pos pins s σ H Q I q
theorem s_s {st : Stmt} {t : TS} {D : Ends} (h : PS X st t) (q : t D σ H) : sS X st D σ H := fun pins s I => h.run pins s σ H D I q
theorem s_ss {st : List Stmt} {t : TS} {D : Ends} (h : PSs X st t) (q : t D σ H) : sSs X st D σ H := fun pins s I => h.run pins s σ H D I q
theorem m_e {e : Expr} {Q Q' : VK} (h : sE X e σ H Q) (m : ∀ v H', Q v H' → Q' v H') : sE X e σ H Q' := fun pins s I => thn (h pins s I) fun _ _ ⟨v, H', I', r, q⟩ => ⟨v, H', I', r, m v H' q⟩
theorem m_t {e : Expr} {Q Q' : Bool → Hp → Prop} (h : sT X e σ H Q) (m : ∀ v H', Q v H' → Q' v H') : sT X e σ H Q' := fun pins s I => thn (h pins s I) fun _ _ ⟨H', I', q⟩ => ⟨H', I', m _ H' q⟩
theorem m_w {e : Expr} {Q Q' : Bool → Hp → Prop} (h : sW X e σ H Q) (m : ∀ v H', Q v H' → Q' v H') : sW X e σ H Q' := fun wh pins s I => thn (h wh pins s I) fun _ _ ⟨H', I', q⟩ => ⟨H', I', m _ H' q⟩
theorem m_a {es : List Expr} {Q Q' : List V → Hp → Prop} (h : sA X es σ H Q) (m : ∀ v H', Q v H' → Q' v H') : sA X es σ H Q' := fun pos pins s I => thn (h pos pins s I) fun _ _ ⟨v, H', I', r, q⟩ => ⟨v, H', I', r, m v H' q⟩
theorem m_SP {pins : List (Addr × Obj)} {D D' : Ends} {f : Flow} {s : Shared} (h : SP X pins D f s) (n : ∀ σ H, D.nx σ H → D'.nx σ H) (r : ∀ v H, D.rt v H → D'.rt v H) (b : ∀ σ H, D.bk σ H → D'.bk σ H) (c : ∀ σ H, D.ct σ H → D'.ct σ H) : SP X pins D' f s := by
  cases f with
  | next => obtain ⟨σ', H', I, q⟩ := h; exact ⟨σ', H', I, n _ _ q⟩
  | brk => obtain ⟨σ', H', I, q⟩ := h; exact ⟨σ', H', I, b _ _ q⟩
  | cont => obtain ⟨σ', H', I, q⟩ := h; exact ⟨σ', H', I, c _ _ q⟩
  | ret u => obtain ⟨v, σ', H', I, e, q⟩ := h; exact ⟨v, σ', H', I, e, r _ _ q⟩
theorem m_s {st : Stmt} {D D' : Ends} (h : sS X st D σ H) (n : ∀ σ H, D.nx σ H → D'.nx σ H) (r : ∀ v H, D.rt v H → D'.rt v H) (b : ∀ σ H, D.bk σ H → D'.bk σ H) (c : ∀ σ H, D.ct σ H → D'.ct σ H) : sS X st D' σ H := fun pins s I => thn (h pins s I) fun _ _ q => m_SP q n r b c
theorem m_ss {st : List Stmt} {D D' : Ends} (h : sSs X st D σ H) (n : ∀ σ H, D.nx σ H → D'.nx σ H) (r : ∀ v H, D.rt v H → D'.rt v H) (b : ∀ σ H, D.bk σ H → D'.bk σ H) (c : ∀ σ H, D.ct σ H → D'.ct σ H) : sSs X st D' σ H := fun pins s I => thn (h pins s I) fun _ _ q => m_SP q n r b c
end

/-! ### the judgements -/
def Pst (K : PySem.W.Frag) (S : Bs) (σ : L2.St) (H0 : Hp) (Γ : Ct) (d : Dt) : VK := fun v H' => ∃ H0', Ex H0 H0' ∧ En K S H0' H' σ Γ ∧ Dr K H0' v d
def Bst (K : PySem.W.Frag) (S : Bs) (σ : L2.St) (H0 : Hp) (Γ : Ct) (b : Bool) : Bool → Hp → Prop := fun c H' => c = b ∧ ∃ H0', Ex H0 H0' ∧ En K S H0' H' σ Γ
def Lst (K : PySem.W.Frag) (S : Bs) (σ : L2.St) (H0 : Hp) (Γ : Ct) (ds : List Dt) : List V → Hp → Prop := fun vs H' => ∃ H0', Ex H0 H0' ∧ En K S H0' H' σ Γ ∧ Drs K H0' vs ds
/-- a new list that nobody holds -/
def Nst (K : PySem.W.Frag) (S : Bs) (σ : L2.St) (H0 : Hp) (Γ : Ct) (ds : List Dt) : VK := fun v H' => ∃ H0' a xs, Ex H0 H0' ∧ En K S H0' H' σ Γ ∧ v = .ref a ∧ H0' a = none ∧ S.Hs a = none ∧ ¬ S.F a ∧ H' a = some (.lst xs) ∧ Drs K H0' xs ds ∧
  ∀ (i : Nat) (c : Cell), cg Γ i = some c → c.isOwn = true → σ[i]? ≠ some (some (.ref a))
structure Ev (X : Cx) (S : Bs) (Γ : Ct) (e : Expr) (d : Dt) (Γ' : Ct) : Prop where
  run : ∀ σ H0 H, En X.K S H0 H σ Γ → sE X e σ H (Pst X.K S σ H0 Γ' d)
structure EvN (X : Cx) (S : Bs) (Γ : Ct) (e : Expr) (ds : List Dt) (Γ' : Ct) : Prop where
  run : ∀ σ H0 H, En X.K S H0 H σ Γ → sE X e σ H (Nst X.K S σ H0 Γ' ds)
structure Ea (X : Cx) (S : Bs) (Γ : Ct) (es : List Expr) (ds : List Dt) (Γ' : Ct) : Prop where
  run : ∀ σ H0 H, En X.K S H0 H σ Γ → sA X es σ H (Lst X.K S σ H0 Γ' ds)
structure Tst (X : Cx) (S : Bs) (Γ : Ct) (e : Expr) (b : Bool) (Γ' : Ct) : Prop where
  run : ∀ σ H0 H, En X.K S H0 H σ Γ → sT X e σ H (Bst X.K S σ H0 Γ' b)
structure Twh (X : Cx) (S : Bs) (Γ : Ct) (e : Expr) (b : Bool) (Γ' : Ct) : Prop where
  run : ∀ σ H0 H, En X.K S H0 H σ Γ → sW X e σ H (Bst X.K S σ H0 Γ' b)
structure Pd where
  nx : Ct → Prop
  rt : Dt → Ct → Prop
  bk : Ct → Prop := fun _ => False
  ct : Ct → Prop := fun _ => False
def cnc (K : PySem.W.Frag) (S : Bs) (H0 : Hp) (D : Pd) : Ends where
  nx := fun σ H => ∃ H0' Γ, Ex H0 H0' ∧ En K S H0' H σ Γ ∧ D.nx Γ
  rt := fun v H => ∃ H0' σ Γ d, Ex H0 H0' ∧ En K S H0' H σ Γ ∧ Dr K H0' v d ∧ D.rt d Γ
  bk := fun σ H => ∃ H0' Γ, Ex H0 H0' ∧ En K S H0' H σ Γ ∧ D.bk Γ
  ct := fun σ H => ∃ H0' Γ, Ex H0 H0' ∧ En K S H0' H σ Γ ∧ D.ct Γ
structure W1 (X : Cx) (S : Bs) (Γ : Ct) (st : Stmt) (D : Pd) : Prop where
  run : ∀ σ H0 H, En X.K S H0 H σ Γ → sS X st (cnc X.K S H0 D) σ H
structure Ws (X : Cx) (S : Bs) (Γ : Ct) (st : List Stmt) (D : Pd) : Prop where
  run : ∀ σ H0 H, En X.K S H0 H σ Γ → sSs X st (cnc X.K S H0 D) σ H
section
variable {K : PySem.W.Frag} {S : Bs} {H0 H0' : Hp} {D : Pd}
theorem cnc_nx (e : Ex H0 H0') : ∀ σ H, (cnc K S H0' D).nx σ H → (cnc K S H0 D).nx σ H := fun _ _ ⟨h, Γ, e', q⟩ => ⟨h, Γ, e.trans e', q⟩
theorem cnc_rt (e : Ex H0 H0') : ∀ v H, (cnc K S H0' D).rt v H → (cnc K S H0 D).rt v H := fun _ _ ⟨h, σ, Γ, d, e', q⟩ => ⟨h, σ, Γ, d, e.trans e', q⟩
theorem cnc_bk (e : Ex H0 H0') : ∀ σ H, (cnc K S H0' D).bk σ H → (cnc K S H0 D).bk σ H := fun _ _ ⟨h, Γ, e', q⟩ => ⟨h, Γ, e.trans e', q⟩
theorem cnc_ct (e : Ex H0 H0') : ∀ σ H, (cnc K S H0' D).ct σ H → (cnc K S H0 D).ct σ H := fun _ _ ⟨h, Γ, e', q⟩ => ⟨h, Γ, e.trans e', q⟩
end

/-! ### names -/
structure Nam (X : Cx) (x : Str) (i : Nat) : Prop where
  ix : X.N[i]? = some x
  vis : Vis X.env.scope x
  d1 : (x == ("__debug__" : Str)) = false
  d2 : (x == ("__classdict__" : Str)) = false
structure Sto (X : Cx) (x : Str) (i : Nat) : Prop where
  ix : X.N[i]? = some x
  nd : X.N.Nodup
  loc : Loc X.env.scope x
  fn : X.fn x = true ∨ X.env.scope.names.lookup x = some .local
structure Blt (X : Cx) (x : Str) : Prop where
  gl : Gl X x
  mg : X.mg x = none

section
variable {X : Cx} {S : Bs} {Γ Γ1 Γ2 Γ3 : Ct} {a b e : Expr} {x y z d : Dt} {pos : Pos}
/-! ### expressions -/
theorem ev_name {n : Str} {i : Nat} (h : Nam X n i) (hg : cg Γ i = some (.val d)) : Ev X S Γ (.Name n pos) d Γ := .mk fun σ H0 H en => by
  obtain ⟨o, h1, v, rfl, r⟩ := en.cells i _ hg
  exact s_e (pe_var h.ix h.vis h.d1 h.d2) ⟨v, h1, H0, Ex.refl _, en, r⟩
theorem ev_int {i : Int} {j : Nat} : Ev X S Γ (.Constant (.int i) j pos) (.int i) Γ := .mk fun σ H0 H en => s_e pe_int ⟨H0, Ex.refl _, en, .int i⟩
theorem ev_bl {i : Bool} {j : Nat} : Ev X S Γ (.Constant (.bool i) j pos) (.bl i) Γ := .mk fun σ H0 H en => s_e pe_bl ⟨H0, Ex.refl _, en, .bl i⟩
theorem ev_non {j : Nat} : Ev X S Γ (.Constant .none j pos) .non Γ := .mk fun σ H0 H en => s_e pe_non ⟨H0, Ex.refl _, en, .non⟩
theorem ev_str {i : Str} {j : Nat} : Ev X S Γ (.Constant (.str i) j pos) (.str i) Γ := .mk fun σ H0 H en => s_e pe_str ⟨H0, Ex.refl _, en, .str i⟩
theorem ev_is (h : Ev X S Γ e x Γ1) (q : x = y) : Ev X S Γ e y Γ1 := q ▸ h
theorem tst_is {c c' : Bool} (h : Tst X S Γ e c Γ1) (q : c = c') : Tst X S Γ e c' Γ1 := q ▸ h

/-- an operation on values -/
def Rv (X : Cx) (r : V → V → Hp → VK → Prop) (x y z : Dt) : Prop := ∀ S Γ σ H0 H v u, En X.K S H0 H σ Γ → Dr X.K H0 v x → Dr X.K H0 u y → ∀ Q : VK, (∀ w H', Pst X.K S σ H0 Γ z w H' → Q w H') → r v u H Q
def RvN (X : Cx) (r : V → V → Hp → VK → Prop) (x y : Dt) (zs : List Dt) : Prop := ∀ S Γ σ H0 H v u, En X.K S H0 H σ Γ → Dr X.K H0 v x → Dr X.K H0 u y → ∀ Q : VK, (∀ w H', Nst X.K S σ H0 Γ zs w H' → Q w H') → r v u H Q
def Bop (X : Cx) (op : Operator) (x y z : Dt) : Prop := ∃ r, OpR X (binaryOp op) r ∧ Rv X r x y z
def BopN (X : Cx) (op : Operator) (x y : Dt) (zs : List Dt) : Prop := ∃ r, OpR X (binaryOp op) r ∧ RvN X r x y zs
def Cop (X : Cx) (op : CmpOp) (x y : Dt) (b : Bool) : Prop := ∃ r, OpR X (compareOp op) r ∧ Rv X r x y (.bl b)
theorem ev_bin {op : Operator} (ha : Ev X S Γ a x Γ1) (hb : Ev X S Γ1 b y Γ2) (ho : Bop X op x y z) : Ev X S Γ (.BinOp a op b pos) z Γ2 := by
  obtain ⟨r, ho, hr⟩ := ho
  exact .mk fun σ H0 H en => s_e (pe_op ho pe_s pe_s) (m_e (ha.run σ H0 H en) fun v H1 ⟨H01, e1, en1, d1⟩ => m_e (hb.run σ H01 H1 en1) fun u H2 ⟨H02, e2, en2, d2⟩ =>
    hr S Γ2 σ H02 H2 v u en2 (d1.mono e2) d2 _ fun w H3 ⟨H03, e3, en3, d3⟩ => ⟨H03, (e1.trans e2).trans e3, en3, d3⟩)
theorem evn_bin {op : Operator} {zs : List Dt} (ha : Ev X S Γ a x Γ1) (hb : Ev X S Γ1 b y Γ2) (ho : BopN X op x y zs) : EvN X S Γ (.BinOp a op b pos) zs Γ2 := by
  obtain ⟨r, ho, hr⟩ := ho
  exact .mk fun σ H0 H en => s_e (pe_op ho pe_s pe_s) (m_e (ha.run σ H0 H en) fun v H1 ⟨H01, e1, en1, d1⟩ => m_e (hb.run σ H01 H1 en1) fun u H2 ⟨H02, e2, en2, d2⟩ =>
    hr S Γ2 σ H02 H2 v u en2 (d1.mono e2) d2 _ fun w H3 ⟨H03, l, xs, e3, q⟩ => ⟨H03, l, xs, (e1.trans e2).trans e3, q⟩)
theorem ev_un {op : UnaryOp} {r : V → Hp → VK → Prop} (ho : UnR X (unaryOp op) r) (ha : Ev X S Γ a x Γ1)
    (hr : ∀ S Γ σ H0 H v, En X.K S H0 H σ Γ → Dr X.K H0 v x → ∀ Q : VK, (∀ w H', Pst X.K S σ H0 Γ z w H' → Q w H') → r v H Q) : Ev X S Γ (.UnaryOp op a pos) z Γ1 :=
  .mk fun σ H0 H en => s_e (pe_un ho pe_s) (m_e (ha.run σ H0 H en) fun v H1 ⟨H01, e1, en1, d1⟩ => hr S Γ1 σ H01 H1 v en1 d1 _ fun w H3 ⟨H03, e3, en3, d3⟩ => ⟨H03, e1.trans e3, en3, d3⟩)
theorem ev_neg {i : Int} (ha : Ev X S Γ a (.int i) Γ1) : Ev X S Γ (.UnaryOp .USub a pos) (.int (-i)) Γ1 :=
  ev_un un_neg ha fun S Γ σ H0 H v en h Q q => by cases h; exact ⟨i, rfl, q _ _ ⟨H0, Ex.refl _, en, .int _⟩⟩
theorem pst_int {K : PySem.W.Frag} {σ : L2.St} {H0 H : Hp} {i : Int} (en : En K S H0 H σ Γ) : Pst K S σ H0 Γ (.int i) (.int i) H := ⟨H0, Ex.refl _, en, .int _⟩
theorem pst_bl {K : PySem.W.Frag} {σ : L2.St} {H0 H : Hp} {i : Bool} (en : En K S H0 H σ Γ) : Pst K S σ H0 Γ (.bl i) (.bl i) H := ⟨H0, Ex.refl _, en, .bl _⟩
theorem pst_str {K : PySem.W.Frag} {σ : L2.St} {H0 H : Hp} {i : Str} (en : En K S H0 H σ Γ) : Pst K S σ H0 Γ (.str i) (.str i) H := ⟨H0, Ex.refl _, en, .str _⟩
/-- ints -/
theorem rv_i0 {g : Int → Int → V} {i j : Int} {z : Dt} (h : ∀ K H, Dr K H (g i j) z) : Rv X (rI0 g) (.int i) (.int j) z := fun S Γ σ H0 H v u en h1 h2 Q q => by
  cases h1; cases h2; exact ⟨i, j, rfl, rfl, q _ _ ⟨H0, Ex.refl _, en, h _ _⟩⟩
theorem rv_i {C : Int → Int → Prop} {g : Int → Int → V} {i j : Int} {z : Dt} (hc : C i j) (h : ∀ K H, Dr K H (g i j) z) : Rv X (rI C g) (.int i) (.int j) z := fun S Γ σ H0 H v u en h1 h2 Q q => by
  cases h1; cases h2; exact ⟨i, j, rfl, rfl, hc, q _ _ ⟨H0, Ex.refl _, en, h _ _⟩⟩
theorem b_add {i j : Int} : Bop X .Add (.int i) (.int j) (.int (i + j)) := ⟨_, op_add, rv_i0 fun _ _ => .int _⟩
theorem b_sub {i j : Int} : Bop X .Sub (.int i) (.int j) (.int (i - j)) := ⟨_, op_sub, rv_i0 fun _ _ => .int _⟩
theorem b_mul {i j : Int} (h : CMul i j) : Bop X .Mult (.int i) (.int j) (.int (i * j)) := ⟨_, op_mul, rv_i h fun _ _ => .int _⟩
theorem b_mod {i j : Int} (h : 0 < j) : Bop X .Mod (.int i) (.int j) (.int (i % j)) := ⟨_, op_mod, rv_i h fun _ _ => .int _⟩
theorem b_div {i j : Int} (h : CDiv i j) : Bop X .FloorDiv (.int i) (.int j) (.int (i / j)) := ⟨_, op_fdiv, rv_i h fun _ _ => .int _⟩
theorem b_pow {i j : Int} (h : CPow i j) : Bop X .Pow (.int i) (.int j) (.int (i ^ j.toNat)) := ⟨_, op_pow, rv_i h fun _ _ => .int _⟩
theorem c_lt {i j : Int} : Cop X .Lt (.int i) (.int j) (decide (i < j)) := ⟨_, op_lt, rv_i0 fun _ _ => .bl _⟩
theorem c_le {i j : Int} : Cop X .LtE (.int i) (.int j) (decide (i ≤ j)) := ⟨_, op_le, rv_i0 fun _ _ => .bl _⟩
theorem c_gt {i j : Int} : Cop X .Gt (.int i) (.int j) (decide (j < i)) := ⟨_, op_gt, rv_i0 fun _ _ => .bl _⟩
theorem c_ge {i j : Int} : Cop X .GtE (.int i) (.int j) (decide (j ≤ i)) := ⟨_, op_ge, rv_i0 fun _ _ => .bl _⟩
theorem c_eqI {i j : Int} : Cop X .Eq (.int i) (.int j) (decide (i = j)) := ⟨_, op_eq, fun S Γ σ H0 H v u en h1 h2 Q q => by
  cases h1; cases h2
  exact ⟨rfl, q _ _ ⟨H0, Ex.refl _, en, by rw [show decide (V.int i = V.int j) = decide (i = j) by simp]; exact .bl _⟩⟩⟩
theorem c_neI {i j : Int} : Cop X .NotEq (.int i) (.int j) (!decide (i = j)) := ⟨_, op_ne, fun S Γ σ H0 H v u en h1 h2 Q q => by
  cases h1; cases h2
  exact ⟨rfl, q _ _ ⟨H0, Ex.refl _, en, by rw [show decide (V.int i = V.int j) = decide (i = j) by simp]; exact .bl _⟩⟩⟩
theorem c_eqB {i j : Bool} : Cop X .Eq (.bl i) (.bl j) (i == j) := ⟨_, op_eq, fun S Γ σ H0 H v u en h1 h2 Q q => by
  cases h1; cases h2
  exact ⟨rfl, q _ _ ⟨H0, Ex.refl _, en, by rw [dec_bl]; exact .bl _⟩⟩⟩
theorem c_neB {i j : Bool} : Cop X .NotEq (.bl i) (.bl j) (!(i == j)) := ⟨_, op_ne, fun S Γ σ H0 H v u en h1 h2 Q q => by
  cases h1; cases h2
  exact ⟨rfl, q _ _ ⟨H0, Ex.refl _, en, by rw [dec_bl]; exact .bl _⟩⟩⟩
theorem c_eqS {i j : Str} : Cop X .Eq (.str i) (.str j) (decide (i = j)) := ⟨_, op_eq, fun S Γ σ H0 H v u en h1 h2 Q q => by
  cases h1; cases h2
  exact ⟨rfl, q _ _ ⟨H0, Ex.refl _, en, by rw [show decide (V.str i = V.str j) = decide (i = j) by simp]; exact .bl _⟩⟩⟩
theorem c_neS {i j : Str} : Cop X .NotEq (.str i) (.str j) (!decide (i = j)) := ⟨_, op_ne, fun S Γ σ H0 H v u en h1 h2 Q q => by
  cases h1; cases h2
  exact ⟨rfl, q _ _ ⟨H0, Ex.refl _, en, by rw [show decide (V.str i = V.str j) = decide (i = j) by simp]; exact .bl _⟩⟩⟩
theorem ev_cmp {op : CmpOp} {c : Bool} (hm : behindInMarks op b = false) (ha : Ev X S Γ a x Γ1) (hb : Ev X S Γ1 b y Γ2) (ho : Cop X op x y c) : Ev X S Γ (.Compare a [op] [b] pos) (.bl c) Γ2 := by
  obtain ⟨r, ho, hr⟩ := ho
  exact .mk fun σ H0 H en => s_e (pe_cmpR ho pe_s pe_s hm) (m_e (ha.run σ H0 H en) fun v H1 ⟨H01, e1, en1, d1⟩ => m_e (hb.run σ H01 H1 en1) fun u H2 ⟨H02, e2, en2, d2⟩ =>
    hr S Γ2 σ H02 H2 v u en2 (d1.mono e2) d2 _ fun w H3 ⟨H03, e3, en3, d3⟩ => ⟨H03, (e1.trans e2).trans e3, en3, d3⟩)
theorem tst_cmp {op : CmpOp} {c : Bool} (hm : behindInMarks op b = false) (ha : Ev X S Γ a x Γ1) (hb : Ev X S Γ1 b y Γ2) (ho : Cop X op x y c) : Tst X S Γ (.Compare a [op] [b] pos) c Γ2 := by
  obtain ⟨r, ho, hr⟩ := ho
  exact .mk fun σ H0 H en => s_t (pt_cmpR ho pe_s pe_s hm) (m_e (ha.run σ H0 H en) fun v H1 ⟨H01, e1, en1, d1⟩ => m_e (hb.run σ H01 H1 en1) fun u H2 ⟨H02, e2, en2, d2⟩ =>
    hr S Γ2 σ H02 H2 v u en2 (d1.mono e2) d2 _ fun w H3 ⟨H03, e3, en3, d3⟩ => by cases d3; exact ⟨c, rfl, rfl, H03, (e1.trans e2).trans e3, en3⟩)
/-! ### tests -/
theorem tst_val {c : Bool} (he : ∀ whole, isTrue e X.env whole = (do let v ← whole; standAt e.pos; holding [v] (truthy v))) (h : Ev X S Γ e (.bl c) Γ1) : Tst X S Γ e c Γ1 := .mk fun σ H0 H en =>
  s_t (pt_val pe_s he) (m_e (h.run σ H0 H en) fun v H1 ⟨H01, e1, en1, d1⟩ => by cases d1; exact ⟨c, rfl, rfl, H01, e1, en1⟩)
theorem tst_not {c : Bool} (h : Tst X S Γ e c Γ1) : Tst X S Γ (.UnaryOp .Not e pos) (!c) Γ1 := .mk fun σ H0 H en =>
  s_t (pt_not pt_s) (m_t (h.run σ H0 H en) fun v H1 ⟨q, H01, e1, en1⟩ => ⟨by rw [q], H01, e1, en1⟩)
theorem tst_w {c : Bool} (h : Twh X S Γ e c Γ1) : Tst X S Γ e c Γ1 := .mk fun σ H0 H en => s_t pw_s.pt (h.run σ H0 H en)
theorem tw_and1 {c : Bool} (h : Tst X S Γ e c Γ1) : Twh X S Γ (.BoolOp .And [e] pos) c Γ1 := .mk fun σ H0 H en => s_w (pw_and1 pt_s) (h.run σ H0 H en)
theorem tw_or1 {c : Bool} (h : Tst X S Γ e c Γ1) : Twh X S Γ (.BoolOp .Or [e] pos) c Γ1 := .mk fun σ H0 H en => s_w (pw_or1 pt_s) (h.run σ H0 H en)
theorem tw_and {c c' : Bool} {rest : List Expr} (h : Tst X S Γ a c Γ) (h' : c = true → Twh X S Γ (.BoolOp .And (b :: rest) pos) c' Γ) : Twh X S Γ (.BoolOp .And (a :: b :: rest) pos) (c && c') Γ := .mk fun σ H0 H en =>
  s_w (pw_and pt_s pw_s) (m_t (h.run σ H0 H en) fun v H1 ⟨q, H01, e1, en1⟩ => by
    cases c with
    | true => rw [q, if_pos rfl]; exact m_w ((h' rfl).run σ H01 H1 en1) fun v H2 ⟨q, H02, e2, en2⟩ => ⟨by rw [q]; rfl, H02, e1.trans e2, en2⟩
    | false => rw [q, if_neg Bool.false_ne_true]; exact ⟨rfl, H01, e1, en1⟩)
theorem tw_or {c c' : Bool} {rest : List Expr} (h : Tst X S Γ a c Γ) (h' : c = false → Twh X S Γ (.BoolOp .Or (b :: rest) pos) c' Γ) : Twh X S Γ (.BoolOp .Or (a :: b :: rest) pos) (c || c') Γ := .mk fun σ H0 H en =>
  s_w (pw_or pt_s pw_s) (m_t (h.run σ H0 H en) fun v H1 ⟨q, H01, e1, en1⟩ => by
    cases c with
    | false => rw [q, if_neg Bool.false_ne_true]; exact m_w ((h' rfl).run σ H01 H1 en1) fun v H2 ⟨q, H02, e2, en2⟩ => ⟨by rw [q]; rfl, H02, e1.trans e2, en2⟩
    | true => rw [q, if_pos rfl]; exact ⟨rfl, H01, e1, en1⟩)
theorem ev_one {op : BoolOp} (h : Ev X S Γ e x Γ1) : Ev X S Γ (.BoolOp op [e] pos) x Γ1 := .mk fun σ H0 H en => s_e (pe_one pe_s) (h.run σ H0 H en)
theorem ev_and {c c' : Bool} {rest : List Expr} (h : Ev X S Γ a (.bl c) Γ) (h' : c = true → Ev X S Γ (.BoolOp .And (b :: rest) pos) (.bl c') Γ) : Ev X S Γ (.BoolOp .And (a :: b :: rest) pos) (.bl (c && c')) Γ := .mk fun σ H0 H en =>
  s_e (pe_and pe_s pe_s) (m_e (h.run σ H0 H en) fun v H1 ⟨H01, e1, en1, d1⟩ => by
    cases d1
    refine ⟨c, rfl, ?_⟩
    cases c with
    | true => rw [if_pos rfl]; exact m_e ((h' rfl).run σ H01 H1 en1) fun v H2 ⟨H02, e2, en2, d2⟩ => ⟨H02, e1.trans e2, en2, d2⟩
    | false => rw [if_neg Bool.false_ne_true]; exact ⟨H01, e1, en1, .bl _⟩)
theorem ev_or {c c' : Bool} {rest : List Expr} (h : Ev X S Γ a (.bl c) Γ) (h' : c = false → Ev X S Γ (.BoolOp .Or (b :: rest) pos) (.bl c') Γ) : Ev X S Γ (.BoolOp .Or (a :: b :: rest) pos) (.bl (c || c')) Γ := .mk fun σ H0 H en =>
  s_e (pe_or pe_s pe_s) (m_e (h.run σ H0 H en) fun v H1 ⟨H01, e1, en1, d1⟩ => by
    cases d1
    refine ⟨c, rfl, ?_⟩
    cases c with
    | false => rw [if_neg Bool.false_ne_true]; exact m_e ((h' rfl).run σ H01 H1 en1) fun v H2 ⟨H02, e2, en2, d2⟩ => ⟨H02, e1.trans e2, en2, d2⟩
    | true => rw [if_pos rfl]; exact ⟨H01, e1, en1, .bl _⟩)
theorem ev_not {c : Bool} (h : Ev X S Γ e (.bl c) Γ1) : Ev X S Γ (.UnaryOp .Not e pos) (.bl (!c)) Γ1 := .mk fun σ H0 H en =>
  s_e (pe_not pe_s) (m_e (h.run σ H0 H en) fun v H1 ⟨H01, e1, en1, d1⟩ => by cases d1; exact ⟨c, rfl, H01, e1, en1, .bl _⟩)

/-! ### lists of arguments, displays -/
theorem ea_nil : Ea X S Γ [] [] Γ := .mk fun σ H0 H en => s_a pa_nil ⟨H0, Ex.refl _, en, .nil⟩
theorem ea_cons {es : List Expr} {ds : List Dt} (hs : starEach (e :: es) X.env = (false, eval e X.env) :: starEach es X.env) (h : Ev X S Γ e d Γ1) (hr : Ea X S Γ1 es ds Γ2) : Ea X S Γ (e :: es) (d :: ds) Γ2 := .mk fun σ H0 H en =>
  s_a (pa_cons pe_s pa_s hs) (m_e (h.run σ H0 H en) fun v H1 ⟨H01, e1, en1, d1⟩ => m_a (hr.run σ H01 H1 en1) fun vs H2 ⟨H02, e2, en2, d2⟩ => ⟨H02, e1.trans e2, en2, .cons (d1.mono e2) d2⟩)
theorem pst_new {σ : L2.St} {H0 H : Hp} {p : Addr} {o : HO} (en : En X.K S H0 H σ Γ) (hp : H p = none) (r : Dr X.K (upd H0 p o) (.ref p) d) : Pst X.K S σ H0 Γ d (.ref p) (upd H p o) :=
  ⟨upd H0 p o, Ex.upd (en.sub.back hp), en.new hp, r⟩
theorem nst_new {σ : L2.St} {H0 H : Hp} {p : Addr} {xs : List V} {ds : List Dt} (en : En X.K S H0 H σ Γ) (hp : H p = none) (r : Drs X.K H0 xs ds) : Nst X.K S σ H0 Γ ds (.ref p) (upd H p (.lst xs)) :=
  ⟨H0, p, xs, Ex.refl _, en.loose hp, rfl, en.sub.back hp, en.bas.back hp, fun f => (en.forb p f).2.nn hp, upd_same, r, fun i c hc ho q => by
    obtain ⟨o, e, k⟩ := en.cells i c hc
    obtain ⟨a, u, e2, _, _, h⟩ := own_at k ho
    rw [q] at e
    have e3 := Option.some.inj e
    rw [e2] at e3
    have e4 : p = a := V.ref.inj (Option.some.inj e3)
    rw [e4, h] at hp
    cases hp⟩
theorem ev_tup {es : List Expr} {ds : List Dt} {k : Nat} (h : Ea X S Γ es ds Γ1) (hl : ds.length ≤ sizeLine) : Ev X S Γ (.Tuple es k pos) (.tup ds) Γ1 := .mk fun σ H0 H en =>
  s_e (pe_tup pa_s) (m_a (h.run σ H0 H en) fun vs H1 ⟨H01, e1, en1, d1⟩ => ⟨by rw [d1.length]; exact hl, fun p hp => by
    obtain ⟨h2, e2, en2, d2⟩ := pst_new (d := .tup ds) en1 hp (.tup upd_same (d1.mono (Ex.upd (en1.sub.back hp))))
    exact ⟨h2, e1.trans e2, en2, d2⟩⟩)
theorem evn_lst {es : List Expr} {ds : List Dt} (h : Ea X S Γ es ds Γ1) (hl : ds.length ≤ sizeLine) : EvN X S Γ (.List es pos) ds Γ1 := .mk fun σ H0 H en =>
  s_e (pe_lst pa_s) (m_a (h.run σ H0 H en) fun vs H1 ⟨H01, e1, en1, d1⟩ => ⟨by rw [d1.length]; exact hl, fun p hp => by
    obtain ⟨h2, l, ys, e2, en2, q⟩ := nst_new (xs := vs) en1 hp d1
    exact ⟨h2, l, ys, e1.trans e2, en2, q⟩⟩)
/-- a new list is frozen -/
theorem pst_nst {σ : L2.St} {H0 H : Hp} {ds : List Dt} {v : V} (h : Nst X.K S σ H0 Γ ds v H) : Pst X.K S σ H0 Γ (.lst ds) v H := by
  obtain ⟨H0', p, xs, e, en, rfl, h0, hs, hf, h, r, no⟩ := h
  have e1 : Ex H0' (upd H0' p (.lst xs)) := Ex.upd h0
  refine ⟨upd H0' p (.lst xs), e.trans e1, ⟨fun a o q => ?_, en.bas, fun a f => ⟨?_, (en.forb a f).2⟩, en.len, fun i c hc => ?_, en.apart⟩, .lst upd_same (r.mono e1)⟩
  · by_cases ha : a = p
    · subst ha; rw [upd_same] at q; rw [h]; exact q
    · rw [upd_ne ha] at q; exact en.sub a o q
  · rw [upd_ne (fun z => hf (by rw [← z]; exact f))]; exact (en.forb a f).1
  · obtain ⟨o, ho, k⟩ := en.cells i c hc
    refine ⟨o, ho, ?_⟩
    have ne : ∀ b, c.isOwn = true → o = some (.ref b) → b ≠ p := fun b hb ho' z => no i c hc hb (by rw [ho, ho', z])
    cases c with
    | no => trivial
    | val d => obtain ⟨v, q, r⟩ := k; exact ⟨v, q, r.mono e1⟩
    | own b ds => obtain ⟨a, xs, q, h0, hs, hf, h, r⟩ := k; exact ⟨a, xs, q, by rw [upd_ne (ne a rfl q)]; exact h0, hs, hf, h, r.mono e1⟩
    | ownD ks => obtain ⟨a, xs, q, h0, hs, hf, h, r⟩ := k; exact ⟨a, xs, q, by rw [upd_ne (ne a rfl q)]; exact h0, hs, hf, h, r.mono e1⟩
    | ownT ks => obtain ⟨a, q, h0, hs, hf, h⟩ := k; exact ⟨a, q, by rw [upd_ne (ne a rfl q)]; exact h0, hs, hf, h⟩
theorem ev_of {ds : List Dt} (h : EvN X S Γ e ds Γ1) : Ev X S Γ e (.lst ds) Γ1 := .mk fun σ H0 H en => m_e (h.run σ H0 H en) fun v H1 q => pst_nst q
end
end Fl
namespace Fl
open PySem L2

/-! ### what one knows of a body's context -/
structure Bd (X : Cx) (P : Program) (w : World) (K : PySem.W.Frag) (mg : Str → Option Value) (base : Heap) (N : List Str) (sc : Scope) (k : Nat) : Prop where
  hP : X.prog = P
  hw : X.w = w
  hK : X.K = K
  hm : X.mg = mg
  hB : X.base = base
  hN : X.N = N
  hs : X.env.scope = sc
  nd : N.Nodup
  calm : X.calm = true
  po : PassesOwn (model X.prog X.w) X.A X.env X.xe
  room : Room k X.A
/-- the small part that most rules ask -/
structure Cxt (X : Cx) : Prop where
  calm : X.calm = true
  po : PassesOwn (model X.prog X.w) X.A X.env X.xe
  units : X.A.units + 65 < cLine
  nd : X.N.Nodup
def visB (sc : Scope) (x : Str) : Bool := match sc.names.lookup x with
  | some .local => true
  | some .cell => true
  | some .free => true
  | _ => false
def locB (sc : Scope) (x : Str) : Bool := match sc.names.lookup x with
  | some .local => true
  | some .cell => true
  | _ => false
def gloB (sc : Scope) (x : Str) : Bool := match sc.names.lookup x with
  | some .globalImplicit => true
  | _ => false
theorem visB_ok {sc : Scope} {x : Str} (h : visB sc x = true) : Vis sc x := by
  unfold visB at h
  split at h <;> first | exact .inl (by assumption) | exact .inr (.inl (by assumption)) | exact .inr (.inr (by assumption)) | cases h
theorem locB_ok {sc : Scope} {x : Str} (h : locB sc x = true) : L2.Loc sc x := by
  unfold locB at h
  split at h <;> first | exact .inl (by assumption) | exact .inr (by assumption) | cases h
theorem gloB_ok {sc : Scope} {x : Str} (h : gloB sc x = true) : sc.names.lookup x = some .globalImplicit := by
  unfold gloB at h
  split at h <;> first | assumption | cases h

def spF (K : PySem.W.Frag) (G : List Dt → Dt → Prop) : Sp := fun vs H Q _ => ∃ ds d H0, Ex H0 H ∧ Drs K H0 vs ds ∧ G ds d ∧
  ∀ v H' H0', Ex H0 H0' → Ex H0' H' → Ex H H' → (∀ a, H0' a ≠ none → H0 a = none → Nw H a) → Dr K H0' v d → Q v H'
/-- a def of the text that keeps the promise G -/
structure Cee (P : Program) (w : World) (K : PySem.W.Frag) (mg : Str → Option Value) (base : Heap) (k : Nat) (x : Str) (G : List Dt → Dt → Prop) : Prop where
  ex : ∃ (f : Addr) (fd : FuncData) (ps : List Str), FnOk P w K mg base CX0 k f fd ps (spF K G) ∧ mg x = some (.ref f) ∧ PySem.W.keepIn K (.ref f) = true ∧ Binds K fd ps []
structure Cal (X : Cx) (x : Str) (G : List Dt → Dt → Prop) : Prop where
  ex : ∃ (k : Nat) (f : Addr) (fd : FuncData) (ps : List Str), FnOk X.prog X.w X.K X.mg X.base CX0 k f fd ps (spF X.K G) ∧ Room k X.A ∧ X.mg x = some (.ref f) ∧ PySem.W.keepIn X.K (.ref f) = true ∧ Binds X.K fd ps []
  gl : Gl X x
  db : (x == ("__debug__" : Str)) = false
section
variable {X : Cx} {P : Program} {w : World} {K : PySem.W.Frag} {mg : Str → Option Value} {base : Heap} {N : List Str} {sc : Scope} {k : Nat}
theorem Bd.cxt (b : Bd X P w K mg base N sc k) : Cxt X := ⟨b.calm, b.po, by have := b.room.un; omega, by rw [b.hN]; exact b.nd⟩
theorem Bd.nam (b : Bd X P w K mg base N sc k) {x : Str} (i : Nat) (h : N[i]? = some x) (hv : visB sc x = true) (d1 : (x == ("__debug__" : Str)) = false) (d2 : (x == ("__classdict__" : Str)) = false) : Nam X x i :=
  ⟨by rw [b.hN]; exact h, by rw [b.hs]; exact visB_ok hv, d1, d2⟩
theorem Bd.sto (b : Bd X P w K mg base N sc k) (hf : ∀ x, X.fn x = true) {x : Str} (i : Nat) (h : N[i]? = some x) (hv : locB sc x = true) : Sto X x i :=
  ⟨by rw [b.hN]; exact h, by rw [b.hN]; exact b.nd, by rw [b.hs]; exact locB_ok hv, .inl (hf _)⟩
theorem Bd.blt (b : Bd X P w K mg base N sc k) {x : Str} (h : gloB sc x = true) (hm : mg x = none) : Blt X x :=
  ⟨by show X.env.scope.names.lookup x = _; rw [b.hs]; exact gloB_ok h, by rw [b.hm]; exact hm⟩
theorem Bd.cal (b : Bd X P w K mg base N sc k) {x : Str} {j : Nat} {G : List Dt → Dt → Prop} (c : Cee P w K mg base j x G) (hj : j ≤ k) (h : gloB sc x = true) (db : (x == ("__debug__" : Str)) = false) : Cal X x G := by
  obtain ⟨f, fd, ps, F, hm, hk, hb⟩ := c.ex
  refine ⟨⟨j, f, fd, ps, ?_, b.room.mono hj, by rw [b.hm]; exact hm, by rw [b.hK]; exact hk, by rw [b.hK]; exact hb⟩, by show X.env.scope.names.lookup x = _; rw [b.hs]; exact gloB_ok h, db⟩
  rw [b.hP, b.hw, b.hK, b.hm, b.hB]
  exact F
end

section
variable {X : Cx} {S : Bs} {Γ Γ1 Γ2 Γ3 : Ct} {a b e : Expr} {x y z d : Dt} {pos : Pos} {D : Pd}
/-- the lengths of what stands -/
def Lens (H : Hp) : Prop := ∀ a, (∀ xs, H a = some (.lst xs) → xs.length ≤ sizeLine) ∧ (∀ xs, H a = some (.tup xs) → xs.length ≤ sizeLine) ∧ ∀ ks, H a = some (.dK ks) → ks.length ≤ sizeLine
theorem lens_of {pins : List (Addr × Obj)} {σ : L2.St} {H : Hp} {s : Shared} (I : Inv X pins σ H s) : Lens H := fun a => ⟨fun xs h => (I.hok a _ h).1, fun xs h => (I.hok a _ h).1, fun ks h => (I.hok a _ h).1⟩
theorem m_eL {σ : L2.St} {H : Hp} {Q Q' : VK} (h : sE X e σ H Q) (m : ∀ v H', Lens H' → Q v H' → Q' v H') : sE X e σ H Q' := fun pins s I => thn (h pins s I) fun _ _ ⟨v, H', I', r, q⟩ => ⟨v, H', I', r, m v H' (lens_of I') q⟩
theorem m_aL {σ : L2.St} {H : Hp} {es : List Expr} {Q Q' : List V → Hp → Prop} (h : sA X es σ H Q) (m : ∀ v H', Lens H' → Q v H' → Q' v H') : sA X es σ H Q' := fun pos pins s I => thn (h pos pins s I) fun _ _ ⟨v, H', I', r, q⟩ => ⟨v, H', I', r, m v H' (lens_of I') q⟩
/-! ### calls -/
theorem ev_call {n : Str} {G : List Dt → Dt → Prop} {es : List Expr} {ds : List Dt} {p : Pos} (he : starEach (e :: es) X.env = (false, eval e X.env) :: starEach es X.env) (hpl : (backTo pos (starEach es X.env)).any (·.1) = false) (C : Cal X n G) (ha : Ea X S Γ (e :: es) ds Γ1) (hg : G ds d) : Ev X S Γ (.Call (.Name n p) (e :: es) [] pos) d Γ1 := by
  obtain ⟨k, f, fd, ps, F, hr, hm, hk, hb⟩ := C.ex
  exact .mk fun σ H0 H en => s_e (pe_call F hr C.gl hm hk hb .nil pass0 pa_s C.db he hpl) (m_a (ha.run σ H0 H en) fun vs H1 ⟨H01, e1, en1, d1⟩ => by
    rw [List.append_nil]
    exact ⟨ds, d, H01, en1.sub, d1, hg, fun v H' H0' q1 q2 q3 q4 q5 => ⟨H0', e1.trans q1, en1.grow q1 q3 q2 q4, q5⟩⟩)
/-- a built-in by values -/
def Kv (X : Cx) (r : List V → Hp → VK → Prop) (ds : List Dt) (z : Dt) : Prop := ∀ S Γ σ H0 H vs, En X.K S H0 H σ Γ → Drs X.K H0 vs ds → Lens H → ∀ Q : VK, (∀ w H', Pst X.K S σ H0 Γ z w H' → Q w H') → r vs H Q
def KvN (X : Cx) (r : List V → Hp → VK → Prop) (ds : List Dt) (zs : List Dt) : Prop := ∀ S Γ σ H0 H vs, En X.K S H0 H σ Γ → Drs X.K H0 vs ds → Lens H → ∀ Q : VK, (∀ w H', Nst X.K S σ H0 Γ zs w H' → Q w H') → r vs H Q
/-- the built-in n, called with ds, gives z -/
def Bfn (X : Cx) (n : Str) (ds : List Dt) (z : Dt) : Prop := ∃ r, ((∃ id, bootBuiltins n = some (.builtin id) ∧ CallR X (.builtin id) r) ∨ ∃ t, bootBuiltins n = some (.type t) ∧ CallR X (.type t) r) ∧ Kv X r ds z ∧ n ≠ "__name__" ∧ (n == ("__debug__" : Str)) = false
def BfnN (X : Cx) (n : Str) (ds : List Dt) (zs : List Dt) : Prop := ∃ r, ((∃ id, bootBuiltins n = some (.builtin id) ∧ CallR X (.builtin id) r) ∨ ∃ t, bootBuiltins n = some (.type t) ∧ CallR X (.type t) r) ∧ KvN X r ds zs ∧ n ≠ "__name__" ∧ (n == ("__debug__" : Str)) = false
theorem ev_blt {n : Str} {es : List Expr} {ds : List Dt} {p : Pos} (he : starEach (e :: es) X.env = (false, eval e X.env) :: starEach es X.env) (hpl : (backTo pos (starEach es X.env)).any (·.1) = false) (B : Blt X n) (ha : Ea X S Γ (e :: es) ds Γ1) (hb : Bfn X n ds z) : Ev X S Γ (.Call (.Name n p) (e :: es) [] pos) z Γ1 := by
  obtain ⟨r, hr, hk, n1, n2⟩ := hb
  have pe : PE X (.Call (.Name n p) (e :: es) [] pos) (tCB r (sA X (e :: es))) := by
    rcases hr with ⟨id, hv, hc⟩ | ⟨t, hv, hc⟩
    · exact pe_callB hc B.gl B.mg hv pa_s n1 n2 he hpl
    · exact pe_callTy hc B.gl B.mg hv pa_s n1 n2 he hpl
  exact .mk fun σ H0 H en => s_e pe (m_aL (ha.run σ H0 H en) fun vs H1 hL ⟨H01, e1, en1, d1⟩ => hk S Γ1 σ H01 H1 vs en1 d1 hL _ fun w H3 ⟨H03, e3, en3, d3⟩ => ⟨H03, e1.trans e3, en3, d3⟩)
theorem evn_blt {n : Str} {es : List Expr} {ds zs : List Dt} {p : Pos} (he : starEach (e :: es) X.env = (false, eval e X.env) :: starEach es X.env) (hpl : (backTo pos (starEach es X.env)).any (·.1) = false) (B : Blt X n) (ha : Ea X S Γ (e :: es) ds Γ1) (hb : BfnN X n ds zs) : EvN X S Γ (.Call (.Name n p) (e :: es) [] pos) zs Γ1 := by
  obtain ⟨r, hr, hk, n1, n2⟩ := hb
  have pe : PE X (.Call (.Name n p) (e :: es) [] pos) (tCB r (sA X (e :: es))) := by
    rcases hr with ⟨id, hv, hc⟩ | ⟨t, hv, hc⟩
    · exact pe_callB hc B.gl B.mg hv pa_s n1 n2 he hpl
    · exact pe_callTy hc B.gl B.mg hv pa_s n1 n2 he hpl
  exact .mk fun σ H0 H en => s_e pe (m_aL (ha.run σ H0 H en) fun vs H1 hL ⟨H01, e1, en1, d1⟩ => hk S Γ1 σ H01 H1 vs en1 d1 hL _ fun w H3 ⟨H03, l, xs, e3, q⟩ => ⟨H03, l, xs, e1.trans e3, q⟩)

/-! ### statements -/
theorem ws_nil (h : D.nx Γ) : Ws X S Γ [] D := .mk fun σ H0 H en => s_ss pss_nil ⟨H0, Γ, Ex.refl _, en, h⟩
theorem ws_cons {st : Stmt} {rest : List Stmt} (h : W1 X S Γ st { D with nx := fun Γ' => Ws X S Γ' rest D }) : Ws X S Γ (st :: rest) D := .mk fun σ H0 H en =>
  s_ss (pss_cons ps_s pss_s) (m_s (h.run σ H0 H en) (fun σ' H' ⟨H0', Γ', e, en', w⟩ => m_ss (w.run σ' H0' H' en') (cnc_nx e) (cnc_rt e) (cnc_bk e) (cnc_ct e)) (fun _ _ q => q) (fun _ _ q => q) (fun _ _ q => q))
theorem q_of {st : Stmt} {rest : List Stmt} (h : ∀ D : Pd, D.nx Γ1 → W1 X S Γ st D) (k : Ws X S Γ1 rest D) : Ws X S Γ (st :: rest) D := ws_cons (h _ k)
theorem w_ret (h : Ev X S Γ e d Γ1) (k : D.rt d Γ1) : W1 X S Γ (.Return (some e) pos) D := .mk fun σ H0 H en =>
  s_s (ps_ret pe_s) (m_e (h.run σ H0 H en) fun v H1 ⟨H01, e1, en1, r⟩ => ⟨H01, σ, Γ1, d, e1, en1, r, k⟩)
theorem w_retN (k : D.rt .non Γ) : W1 X S Γ (.Return none pos) D := .mk fun σ H0 H en => s_s ps_retN ⟨H0, σ, Γ, .non, Ex.refl _, en, .non, k⟩
theorem q_ret {rest : List Stmt} (h : Ev X S Γ e d Γ1) (k : D.rt d Γ1) : Ws X S Γ (.Return (some e) pos :: rest) D := ws_cons (w_ret h k)
theorem q_retN {rest : List Stmt} (k : D.rt .non Γ) : Ws X S Γ (.Return none pos :: rest) D := ws_cons (w_retN k)
theorem w_pass (k : D.nx Γ) : W1 X S Γ (.Pass pos) D := .mk fun σ H0 H en => s_s ps_pass ⟨H0, Γ, Ex.refl _, en, k⟩
theorem q_if {s1 s2 rest : List Stmt} {c : Bool} (h : Tst X S Γ e c Γ1) (h1 : c = true → Ws X S Γ1 s1 { D with nx := fun Γ' => Ws X S Γ' rest D }) (h2 : c = false → Ws X S Γ1 s2 { D with nx := fun Γ' => Ws X S Γ' rest D }) : Ws X S Γ (.If e s1 s2 pos :: rest) D :=
  ws_cons <| .mk fun σ H0 H en => s_s (ps_if pt_s pss_s pss_s) (m_t (h.run σ H0 H en) fun v H1 ⟨q, H01, e1, en1⟩ => by
    subst q
    cases v with
    | true => exact m_ss ((h1 rfl).run σ H01 H1 en1) (cnc_nx e1) (cnc_rt e1) (cnc_bk e1) (cnc_ct e1)
    | false => exact m_ss ((h2 rfl).run σ H01 H1 en1) (cnc_nx e1) (cnc_rt e1) (cnc_bk e1) (cnc_ct e1))
theorem q_when {s1 rest : List Stmt} {c : Bool} (h : Tst X S Γ e c Γ1) (h1 : c = true → Ws X S Γ1 s1 { D with nx := fun Γ' => Ws X S Γ' rest D }) (h2 : c = false → Ws X S Γ1 rest D) : Ws X S Γ (.If e s1 [] pos :: rest) D :=
  q_if h h1 fun hc => ws_nil (h2 hc)

/-! ### assignments -/
section
variable {K : PySem.W.Frag} {H0 H : Hp} {σ : L2.St}
theorem En.setv {i : Nat} {v : V} (en : En K S H0 H σ Γ) (r : Dr K H0 v d) : En K S H0 H (σ.set i (some v)) (cp Γ i (.val d)) := by
  refine ⟨en.sub, en.bas, en.forb, by rw [List.length_set, cp_len]; exact en.len, fun j c hc => ?_, fun j l c d' a h1 h2 o1 o2 s1 s2 => ?_⟩
  · by_cases hj : j = i
    · subst hj
      have e := cg_cp hc
      have hl : j < σ.length := by
        rw [en.len]
        rw [cg_eq] at hc
        have := (List.getElem?_eq_some_iff.mp hc).1
        rw [cp_len] at this
        exact this
      exact ⟨some v, List.getElem?_set_self hl, by rw [e]; exact ⟨v, rfl, r⟩⟩
    · rw [cg_cp_ne hj] at hc
      obtain ⟨o, e, k⟩ := en.cells j c hc
      exact ⟨o, by rw [List.getElem?_set_ne (Ne.symm hj)]; exact e, k⟩
  · have n1 : j ≠ i := fun z => by subst z; rw [cg_cp h1] at o1; cases o1
    have n2 : l ≠ i := fun z => by subst z; rw [cg_cp h2] at o2; cases o2
    rw [cg_cp_ne n1] at h1
    rw [cg_cp_ne n2] at h2
    rw [List.getElem?_set_ne (Ne.symm n1)] at s1
    rw [List.getElem?_set_ne (Ne.symm n2)] at s2
    exact en.apart j l c d' a h1 h2 o1 o2 s1 s2
/-- an own cell is stored -/
theorem En.seto {i : Nat} {a : Addr} {c : Cell} (en : En K S H0 H σ Γ) (hc : c.isOwn = true) (k : CellOk K S H0 H (some (.ref a)) c) (no : ∀ (j : Nat) (c : Cell), cg Γ j = some c → c.isOwn = true → σ[j]? ≠ some (some (.ref a))) : En K S H0 H (σ.set i (some (.ref a))) (cp Γ i c) := by
  have hset : ∀ {j : Nat} {c' : Cell}, cg (cp Γ i c) j = some c' → j = i → i < σ.length := fun {j c'} h e => by
    subst e
    rw [en.len]
    rw [cg_eq] at h
    have := (List.getElem?_eq_some_iff.mp h).1
    rw [cp_len] at this
    exact this
  refine ⟨en.sub, en.bas, en.forb, by rw [List.length_set, cp_len]; exact en.len, fun j c' hc' => ?_, fun j l c' d' b h1 h2 o1 o2 s1 s2 => ?_⟩
  · by_cases hj : j = i
    · have hl := hset hc' hj
      subst hj
      have e := cg_cp hc'
      exact ⟨_, List.getElem?_set_self hl, by rw [e]; exact k⟩
    · rw [cg_cp_ne hj] at hc'
      obtain ⟨o, e, k⟩ := en.cells j c' hc'
      exact ⟨o, by rw [List.getElem?_set_ne (Ne.symm hj)]; exact e, k⟩
  · by_cases n1 : j = i <;> by_cases n2 : l = i
    · rw [n1, n2]
    · have hl := hset h1 n1
      subst n1
      rw [List.getElem?_set_self hl] at s1
      have e : a = b := V.ref.inj (Option.some.inj (Option.some.inj s1))
      subst e
      rw [cg_cp_ne n2] at h2
      rw [List.getElem?_set_ne (Ne.symm n2)] at s2
      exact absurd s2 (no l d' h2 o2)
    · have hl := hset h2 n2
      subst n2
      rw [List.getElem?_set_self hl] at s2
      have e : a = b := V.ref.inj (Option.some.inj (Option.some.inj s2))
      subst e
      rw [cg_cp_ne n1] at h1
      rw [List.getElem?_set_ne (Ne.symm n1)] at s1
      exact absurd s1 (no j c' h1 o1)
    · rw [cg_cp_ne n1] at h1
      rw [cg_cp_ne n2] at h2
      rw [List.getElem?_set_ne (Ne.symm n1)] at s1
      rw [List.getElem?_set_ne (Ne.symm n2)] at s2
      exact en.apart j l c' d' b h1 h2 o1 o2 s1 s2
/-- what an own cell stands for has changed -/
theorem En.mut {i : Nat} {a : Addr} {c c' : Cell} {o : HO} (en : En K S H0 H σ Γ) (hc : cg Γ i = some c) (ho : c.isOwn = true) (ho' : c'.isOwn = true) (hs : σ[i]? = some (some (.ref a))) (k : CellOk K S H0 (upd H a o) (some (.ref a)) c') : En K S H0 (upd H a o) σ (cp Γ i c') := by
  obtain ⟨x, hx, kc⟩ := en.cells i c hc
  obtain ⟨a', u, e, h0, hS, hH⟩ := own_at kc ho
  have ea : a' = a := by
    rw [hs] at hx
    rw [← Option.some.inj hx] at e
    exact (V.ref.inj (Option.some.inj e)).symm
  subst ea
  refine ⟨fun b u' q => ?_, fun b u' q => ?_, fun b f => ⟨(en.forb b f).1, ?_⟩, by rw [cp_len]; exact en.len, fun j c2 hc2 => ?_, fun j l c2 d2 b h1 h2 o1 o2 s1 s2 => ?_⟩
  · rw [upd_ne (ne_of_none q h0)]; exact en.sub b u' q
  · rw [upd_ne (ne_of_none q hS)]; exact en.bas b u' q
  · by_cases hb : b = a'
    · subst hb; exact own_mu k ho'
    · rw [upd_ne hb]; exact (en.forb b f).2
  · by_cases hj : j = i
    · subst hj
      exact ⟨_, hs, by rw [cg_cp hc2]; exact k⟩
    · rw [cg_cp_ne hj] at hc2
      obtain ⟨x2, hx2, k2⟩ := en.cells j c2 hc2
      refine ⟨x2, hx2, ?_⟩
      refine k2.grow (Ex.refl _) (fun b h h' => absurd h' h) fun b u2 e2 h2 ow => ?_
      have hb : b ≠ a' := fun z => hj (en.apart j i c2 c a' hc2 hc ow ho (by rw [hx2, e2, z]) hs)
      rw [upd_ne hb]; exact h2
  · have conv : ∀ {m : Nat} {cm : Cell}, cg (cp Γ i c') m = some cm → cm.isOwn = true → ∃ cm', cg Γ m = some cm' ∧ cm'.isOwn = true := fun {m cm} h ho2 => by
      by_cases hm : m = i
      · subst hm; exact ⟨c, hc, ho⟩
      · rw [cg_cp_ne hm] at h; exact ⟨cm, h, ho2⟩
    obtain ⟨c3, g3, w3⟩ := conv h1 o1
    obtain ⟨c4, g4, w4⟩ := conv h2 o2
    exact en.apart j l c3 c4 b g3 g4 w3 w4 s1 s2
/-- an own list is frozen -/
theorem En.freeze {i : Nat} {ds : List Dt} (en : En K S H0 H σ Γ) (hc : cg Γ i = some (.own none ds)) : ∃ H0' a, Ex H0 H0' ∧ En K S H0' H σ (cp Γ i (.val (.lst ds))) ∧ σ[i]? = some (some (.ref a)) ∧ Dr K H0' (.ref a) (.lst ds) := by
  obtain ⟨x, hx, a, xs, rfl, h0, hS, hf, hH, r⟩ := en.cells i _ hc
  have e1 : Ex H0 (upd H0 a (.lst xs)) := Ex.upd h0
  have hv : Dr K (upd H0 a (.lst xs)) (.ref a) (.lst ds) := .lst upd_same (r.mono e1)
  refine ⟨upd H0 a (.lst xs), a, e1, ⟨fun b u q => ?_, en.bas, fun b f => ⟨?_, (en.forb b f).2⟩, by rw [cp_len]; exact en.len, fun j c2 hc2 => ?_, fun j l c2 d2 b h1 h2 o1 o2 s1 s2 => ?_⟩, hx, hv⟩
  · by_cases hb : b = a
    · subst hb; rw [upd_same] at q; rw [hH]; exact q
    · rw [upd_ne hb] at q; exact en.sub b u q
  · rw [upd_ne (fun z => hf (by rw [← z]; exact f))]; exact (en.forb b f).1
  · by_cases hj : j = i
    · subst hj
      exact ⟨_, hx, by rw [cg_cp hc2]; exact ⟨_, rfl, hv⟩⟩
    · rw [cg_cp_ne hj] at hc2
      obtain ⟨x2, hx2, k2⟩ := en.cells j c2 hc2
      refine ⟨x2, hx2, ?_⟩
      have ne : ∀ b, c2.isOwn = true → x2 = some (.ref b) → b ≠ a := fun b ow e2 z => hj (en.apart j i c2 _ a hc2 hc ow rfl (by rw [hx2, e2, z]) hx)
      cases c2 with
      | no => trivial
      | val d => obtain ⟨v, q, r⟩ := k2; exact ⟨v, q, r.mono e1⟩
      | own b ds => obtain ⟨a', xs, q, h0, hs, hf, h, r⟩ := k2; exact ⟨a', xs, q, by rw [upd_ne (ne a' rfl q)]; exact h0, hs, hf, h, r.mono e1⟩
      | ownD ks => obtain ⟨a', xs, q, h0, hs, hf, h, r⟩ := k2; exact ⟨a', xs, q, by rw [upd_ne (ne a' rfl q)]; exact h0, hs, hf, h, r.mono e1⟩
      | ownT ks => obtain ⟨a', q, h0, hs, hf, h⟩ := k2; exact ⟨a', q, by rw [upd_ne (ne a' rfl q)]; exact h0, hs, hf, h⟩
  · have n1 : j ≠ i := fun z => by subst z; rw [cg_cp h1] at o1; cases o1
    have n2 : l ≠ i := fun z => by subst z; rw [cg_cp h2] at o2; cases o2
    rw [cg_cp_ne n1] at h1
    rw [cg_cp_ne n2] at h2
    exact en.apart j l c2 d2 b h1 h2 o1 o2 s1 s2
/-- what is forgotten -/
def Fg : Ct → Ct → Prop
  | [], [] => True
  | c :: r, d :: s => (d = .no ∨ d = c) ∧ Fg r s
  | _, _ => False
theorem Fg.refl : ∀ Γ : Ct, Fg Γ Γ
  | [] => trivial
  | _ :: r => ⟨.inr rfl, Fg.refl r⟩
theorem Fg.get : ∀ {Γ Γ' : Ct} {i : Nat} {c : Cell}, Fg Γ Γ' → cg Γ' i = some c → c = .no ∧ (∃ c', cg Γ i = some c') ∨ cg Γ i = some c
  | [], [], _, _, _, h => by simp [cg] at h
  | c :: r, d :: s, 0, e, f, h => by
    have h' : d = e := Option.some.inj h
    rcases f.1 with z | z
    · exact .inl ⟨by rw [← h', z], c, rfl⟩
    · exact .inr (by rw [← h', z]; rfl)
  | c :: r, d :: s, i + 1, e, f, h => Fg.get (i := i) f.2 h
  | [], _ :: _, _, _, f, _ => f.elim
  | _ :: _, [], _, _, f, _ => f.elim
theorem Fg.len : ∀ {Γ Γ' : Ct}, Fg Γ Γ' → Γ.length = Γ'.length
  | [], [], _ => rfl
  | _ :: r, _ :: s, f => by rw [List.length_cons, List.length_cons, Fg.len f.2]
  | [], _ :: _, f => f.elim
  | _ :: _, [], f => f.elim
theorem En.forget {Γ' : Ct} (en : En K S H0 H σ Γ) (f : Fg Γ Γ') : En K S H0 H σ Γ' := by
  refine ⟨en.sub, en.bas, en.forb, by rw [← f.len]; exact en.len, fun i c hc => ?_, fun i j c d a h1 h2 o1 o2 s1 s2 => ?_⟩
  · rcases f.get hc with ⟨rfl, c', h'⟩ | h
    · obtain ⟨o, e, _⟩ := en.cells i c' h'
      exact ⟨o, e, trivial⟩
    · exact en.cells i c h
  · rcases f.get h1 with ⟨rfl, _⟩ | h1
    · cases o1
    · rcases f.get h2 with ⟨rfl, _⟩ | h2
      · cases o2
      · exact en.apart i j c d a h1 h2 o1 o2 s1 s2
end
theorem ws_forget {st : List Stmt} {Γ' : Ct} (f : Fg Γ Γ') (h : Ws X S Γ' st D) : Ws X S Γ st D := .mk fun σ H0 H en => h.run σ H0 H (en.forget f)
theorem ev_nameF {n : Str} {i : Nat} {ds : List Dt} (h : Nam X n i) (hg : cg Γ i = some (.own none ds)) : Ev X S Γ (.Name n pos) (.lst ds) (cp Γ i (.val (.lst ds))) := .mk fun σ H0 H en => by
  obtain ⟨H0', a, e, en', hs, r⟩ := en.freeze hg
  exact s_e (pe_var h.ix h.vis h.d1 h.d2) ⟨_, hs, H0', e, en', r⟩
theorem w_set {n : Str} {i : Nat} {p : Pos} (s : Sto X n i) (hs : swapsWith e (some (.Name n p)) pos.line X.env = pure false) (h : Ev X S Γ e d Γ1) (hp : cp Γ1 i (.val d) = Γ2) (k : D.nx Γ2) : W1 X S Γ (.Assign [.Name n p] e pos) D := .mk fun σ H0 H en =>
  s_s (ps_set s.nd s.ix s.loc pe_s hs s.fn) (m_e (h.run σ H0 H en) fun v H1 ⟨H01, e1, en1, r⟩ => ⟨H01, Γ2, e1, by rw [← hp]; exact en1.setv r, k⟩)
theorem w_setN {n : Str} {i : Nat} {p : Pos} {ds : List Dt} (s : Sto X n i) (hs : swapsWith e (some (.Name n p)) pos.line X.env = pure false) (h : EvN X S Γ e ds Γ1) (hp : cp Γ1 i (.own none ds) = Γ2) (k : D.nx Γ2) : W1 X S Γ (.Assign [.Name n p] e pos) D := .mk fun σ H0 H en =>
  s_s (ps_set s.nd s.ix s.loc pe_s hs s.fn) (m_e (h.run σ H0 H en) fun v H1 ⟨H01, a, xs, e1, en1, ev, h0, hS, hf, hH, r, no⟩ => by
    subst ev
    exact ⟨H01, Γ2, e1, by rw [← hp]; exact en1.seto rfl ⟨a, xs, rfl, h0, hS, hf, hH, r⟩ no, k⟩)
theorem q_set {n : Str} {i : Nat} {p : Pos} {rest : List Stmt} (s : Sto X n i) (hs : swapsWith e (some (.Name n p)) pos.line X.env = pure false) (h : Ev X S Γ e d Γ1) (hp : cp Γ1 i (.val d) = Γ2) (k : Ws X S Γ2 rest D) : Ws X S Γ (.Assign [.Name n p] e pos :: rest) D := ws_cons (w_set s hs h hp k)
theorem q_setN {n : Str} {i : Nat} {p : Pos} {ds : List Dt} {rest : List Stmt} (s : Sto X n i) (hs : swapsWith e (some (.Name n p)) pos.line X.env = pure false) (h : EvN X S Γ e ds Γ1) (hp : cp Γ1 i (.own none ds) = Γ2) (k : Ws X S Γ2 rest D) : Ws X S Γ (.Assign [.Name n p] e pos :: rest) D := ws_cons (w_setN s hs h hp k)
theorem w_drop (hs : swapsWith e none pos.line X.env = pure false) (h : Ev X S Γ e d Γ1) (k : D.nx Γ1) : W1 X S Γ (.Expr e pos) D := .mk fun σ H0 H en =>
  s_s (ps_expr pe_s hs) (m_e (h.run σ H0 H en) fun v H1 ⟨H01, e1, en1, r⟩ => ⟨H01, Γ1, e1, en1, k⟩)
theorem q_drop {rest : List Stmt} (hs : swapsWith e none pos.line X.env = pure false) (h : Ev X S Γ e d Γ1) (k : Ws X S Γ1 rest D) : Ws X S Γ (.Expr e pos :: rest) D := ws_cons (w_drop hs h k)
end

/-! ### a def by its body -/
def startC (N : List Str) (ds : List Dt) : Ct := ds.map Cell.val ++ List.replicate (N.length - ds.length) .no
theorem en_start {K : PySem.W.Frag} {H0 H : Hp} {N : List Str} {vs : List V} {ds : List Dt} (e : Ex H0 H) (r : Drs K H0 vs ds) (hl : ds.length ≤ N.length) : En K ⟨H, fun a => H0 a = none ∧ Mu (H a)⟩ H0 H (start N vs) (startC N ds) := by
  have hlen := r.length
  refine ⟨e, Ex.refl _, fun a h => h, ?_, fun i c hc => ?_, fun i j c d a h1 h2 o1 o2 s1 s2 => ?_⟩
  · unfold L2.start startC; simp; omega
  · rw [cg_eq] at hc
    unfold startC at hc
    unfold L2.start
    by_cases hi : i < ds.length
    · rw [List.getElem?_append_left (by simpa using hi), List.getElem?_map] at hc
      cases q : ds[i]? with
      | none => rw [q] at hc; cases hc
      | some d =>
        rw [q] at hc
        cases hc
        obtain ⟨v, h1, h2⟩ := r.get q
        exact ⟨some v, by rw [List.getElem?_append_left (by simp; omega), List.getElem?_map, h1]; rfl, v, rfl, h2⟩
    · rw [List.getElem?_append_right (by simpa using hi), List.getElem?_replicate] at hc
      split at hc
      · cases hc
        rename_i h
        refine ⟨none, ?_, trivial⟩
        rw [List.getElem?_append_right (by simp; omega), List.getElem?_replicate]
        rw [if_pos (by simp at h ⊢; omega)]
      · cases hc
  · have : c.isOwn = false := by
      rw [cg_eq] at h1
      unfold startC at h1
      have hm := List.mem_of_getElem? h1
      rcases List.mem_append.mp hm with q | q
      · obtain ⟨d, _, rfl⟩ := List.mem_map.mp q; rfl
      · rw [List.eq_of_mem_replicate q]; rfl
    rw [this] at o1; cases o1
theorem fn_pure {P : Program} {w : World} {K : PySem.W.Frag} {mg : Str → Option Value} {base : Heap} {x qual : Str} {st : Stmt} {f : Addr} {fd : FuncData} {N ps : List Str} {k : Nat} {G : List Dt → Dt → Prop}
    (F : Fun K x qual st f fd) (Sc : FnScope N ps (defScope st)) (hG : ∀ ds d, G ds d → ds.length = ps.length)
    (body : ∀ X : Cx, Bd X P w K mg base N (defScope st) k → (∀ x, X.fn x = true) → ∀ S ds d, G ds d → Ws X S (startC N ds) (defBody st) { nx := fun _ => d = .non, rt := fun d' _ => d' = d }) :
    FnOk P w K mg base CX0 (k + 1) f fd ps (spF K G) := by
  have hpl : ps.length ≤ N.length := by have := congrArg List.length Sc.pre; rw [List.length_take] at this; omega
  refine F.ok Sc (fun vs H Q E h => ?_) (fun cdv A outer s H vs Q E hr h => ?_)
  · obtain ⟨ds, d, H0, _, r, g, _⟩ := h
    rw [r.length, hG _ _ g]
  · obtain ⟨ds, d, H0, e, r, g, q⟩ := h
    have hb := body (cxOf CX0 P w K mg base N qual (defScope st) f cdv A outer s H E).nox ⟨rfl, rfl, rfl, rfl, rfl, rfl, rfl, Sc.nd, rfl, PassesOwn.never, hr⟩ (fun _ => rfl) ⟨H, fun a => H0 a = none ∧ Mu (H a)⟩ ds d g
    have en := en_start (N := N) e r (by rw [hG _ _ g]; exact hpl)
    have wp := hb.run _ _ _ en
    refine ⟨_, pss_s, m_ss wp ?_ ?_ (fun _ _ ⟨_, _, _, _, z⟩ => z.elim) (fun _ _ ⟨_, _, _, _, z⟩ => z.elim)⟩
    · intro σ' H' ⟨H0', Γ', e0, en', hd⟩
      refine q .non H' H0' e0 en'.sub en'.bas (fun a h1 h2 => (mu_or H a).resolve_right fun z => h1 (en'.forb a ⟨h2, z⟩).1) (by rw [hd]; exact .non)
    · intro v H' ⟨H0', σ', Γ', d', e0, en', r', hd⟩
      subst hd
      refine q v H' H0' e0 en'.sub en'.bas (fun a h1 h2 => (mu_or H a).resolve_right fun z => h1 (en'.forb a ⟨h2, z⟩).1) r'
theorem cee_of {P : Program} {w : World} {K : PySem.W.Frag} {mg : Str → Option Value} {base : Heap} {x qual n : Str} {st : Stmt} {f : Addr} {fd : FuncData} {ps : List Str} {k : Nat} {G : List Dt → Dt → Prop}
    (F : Fun K x qual st f fd) (b : Binds K fd ps []) (g : mg n = some (.ref f)) (h : FnOk P w K mg base CX0 k f fd ps (spF K G)) : Cee P w K mg base k n G := ⟨f, fd, ps, h, g, F.kp, b⟩
end Fl
namespace Fl
open PySem L2

/-! ### what is walked -/
def sI (X : Cx) (tg e : Expr) : TI := fun σ H R => ∀ pins s, Inv X pins σ H s → wpAny (model X.prog X.w) X.A (eval e X.env) (fun v s1 => wpAny (model X.prog X.w) X.A (pyIter v) (PIE X pins σ tg R) X.xe s1) X.xe s
section
variable {X : Cx} {S : Bs} {Γ Γ1 Γ2 Γ3 : Ct} {a b e tg : Expr} {x y z d : Dt} {pos : Pos} {D : Pd} {ds : List Dt}
theorem pi_s : PI X tg e (sI X tg e) := ⟨fun pins s _ _ _ I h => h pins s I⟩
theorem s_i {wi : TI} {σ : L2.St} {H : Hp} {R : It → Hp → Prop} (h : PI X tg e wi) (q : wi σ H R) : sI X tg e σ H R := fun pins s I => h.run pins s σ H R I q
/-- what an iterator stands for -/
def Wst (K : PySem.W.Frag) (S : Bs) (σ : L2.St) (H0 : Hp) (Γ : Ct) (ds : List Dt) : It → Hp → Prop := fun J H1 => ∃ H01, Ex H0 H01 ∧ En K S H01 H1 σ Γ ∧ ds.length ≤ sizeLine ∧
  ∃ (G : Hp → Prop) (Y : Nat → Hp → V → Hp → Prop), Walk J ds.length G Y ∧ (∀ H2, Ex H01 H2 → G H2) ∧ ∀ i H2 v H3, i < ds.length → Y i H2 v H3 → H3 = H2 ∧ ∃ d, ds[i]? = some d ∧ ∀ H02, Ex H01 H02 → Dr K H02 v d
structure Itd (X : Cx) (S : Bs) (Γ : Ct) (tg e : Expr) (ds : List Dt) (Γ' : Ct) : Prop where
  run : ∀ σ H0 H, En X.K S H0 H σ Γ → sI X tg e σ H (Wst X.K S σ H0 Γ' ds)
theorem line_range {n : Nat} (h : n ≤ sizeLine) : (n : Int) < 2 ^ 62 := by
  rw [sizeLine_eq] at h
  have : (n : Int) ≤ 16777216 := by omega
  have h2 : (16777216 : Int) < 2 ^ 62 := by decide
  omega
theorem it_lst (h : Ev X S Γ e (.lst ds) Γ1) : Itd X S Γ tg e ds Γ1 := .mk fun σ H0 H en =>
  s_i (pi_list pe_s) (m_eL (h.run σ H0 H en) fun v H1 hL ⟨H01, e1, en1, r⟩ => by
    cases r with
    | @lst a xs _ h0 r =>
      refine ⟨a, rfl, ⟨xs, .inl (.inl (en1.sub _ _ h0))⟩, H01, e1, en1, by rw [← r.length]; exact (hL a).1 xs (en1.sub _ _ h0), fun H => SqL X.K H a xs, YAt xs, by rw [← r.length]; exact walk_list, fun H2 e2 => .inl (.inl (e2 _ _ h0)), fun i H2 v H3 hi hy => ⟨hy.1, ?_⟩⟩
      obtain ⟨d, h1, h2⟩ := r.get' hy.2
      exact ⟨d, h1, fun H02 e2 => h2.mono e2⟩)
theorem it_tup (h : Ev X S Γ e (.tup ds) Γ1) : Itd X S Γ tg e ds Γ1 := .mk fun σ H0 H en =>
  s_i (pi_tup pe_s) (m_eL (h.run σ H0 H en) fun v H1 hL ⟨H01, e1, en1, r⟩ => by
    cases r with
    | @tup a xs _ h0 r =>
      refine ⟨a, rfl, ⟨xs, .inl (.inl (en1.sub _ _ h0))⟩, H01, e1, en1, by rw [← r.length]; exact (hL a).2.1 xs (en1.sub _ _ h0), fun H => SqT X.K H a xs, YAt xs, by rw [← r.length]; exact walk_tup, fun H2 e2 => .inl (.inl (e2 _ _ h0)), fun i H2 v H3 hi hy => ⟨hy.1, ?_⟩⟩
      obtain ⟨d, h1, h2⟩ := r.get' hy.2
      exact ⟨d, h1, fun H02 e2 => h2.mono e2⟩)
abbrev rngD (lo : Int) (n : Nat) : List Dt := (List.range n).map fun i => .int (lo + (i : Nat))
theorem rngD_len {lo : Int} {n : Nat} : (rngD lo n).length = n := by simp [rngD]
abbrev rng0 (n : Nat) : List Dt := (List.range n).map fun i => .int ((i : Nat) : Int)
theorem rng0_eq (n : Nat) : rngD 0 n = rng0 n := by unfold rngD rng0; refine List.map_congr_left fun i _ => ?_; rw [Int.zero_add]
theorem rngD_get {lo : Int} {n i : Nat} (h : i < n) : (rngD lo n)[i]? = some (.int (lo + (i : Nat))) := by simp [rngD, h]
theorem wst_range {K : PySem.W.Frag} {σ : L2.St} {H0 H01 H1 : Hp} {lo : Int} {n : Nat} (hn : n ≤ sizeLine) (e1 : Ex H0 H01) (en1 : En K S H01 H1 σ Γ1) : Wst K S σ H0 Γ1 (rngD lo n) (Itr lo n) H1 :=
  ⟨H01, e1, en1, by rw [rngD_len]; exact hn, fun _ => True, YFn fun i => .int (lo + i), by rw [rngD_len]; exact walk_range, fun _ _ => trivial, fun i H2 v H3 hi hy => ⟨hy.1, _, rngD_get (by rw [rngD_len] at hi; exact hi), fun _ _ => by rw [hy.2]; exact .int _⟩⟩
theorem it_range1 {n : Int} {p : Pos} (hs : starEach [a] X.env = [(false, eval a X.env)]) (B : Blt X "range") (h : Ea X S Γ [a] [.int n] Γ1) (h0 : -(2 ^ 62) ≤ n) (hn : n.toNat ≤ sizeLine) : Itd X S Γ tg (.Call (.Name "range" p) [a] [] pos) (rngD 0 n.toNat) Γ1 := .mk fun σ H0 H en =>
  s_i (pi_range1 B.gl B.mg pa_s hs) (m_a (h.run σ H0 H en) fun vs H1 ⟨H01, e1, en1, r⟩ => by
    cases r with
    | cons r rr =>
      cases rr
      cases r
      have h1 := line_range hn
      exact ⟨n, rfl, h0, by omega, wst_range hn e1 en1⟩)
theorem it_range2 {m n : Int} {p : Pos} (hs : starEach [a, b] X.env = [(false, eval a X.env), (false, eval b X.env)]) (hs2 : starEach [b] X.env = [(false, eval b X.env)]) (B : Blt X "range") (h : Ea X S Γ [a, b] [.int m, .int n] Γ1) (h0 : -(2 ^ 62) ≤ m ∧ m < 2 ^ 62 ∧ -(2 ^ 62) ≤ n ∧ n < 2 ^ 62) (hn : (n - m).toNat ≤ sizeLine) : Itd X S Γ tg (.Call (.Name "range" p) [a, b] [] pos) (rngD m (n - m).toNat) Γ1 := .mk fun σ H0 H en =>
  s_i (pi_range2 B.gl B.mg pa_s hs hs2) (m_a (h.run σ H0 H en) fun vs H1 ⟨H01, e1, en1, r⟩ => by
    cases r with
    | cons r rr =>
      cases rr with
      | cons r' rr =>
        cases rr
        cases r
        cases r'
        exact ⟨m, n, rfl, h0, wst_range hn e1 en1⟩)
abbrev strD (z : Str) : List Dt := z.cps.toList.map fun c => .str ⟨#[c]⟩
theorem it_str {z : Str} (h : Ev X S Γ e (.str z) Γ1) (hz : z.length ≤ sizeLine) : Itd X S Γ tg e (strD z) Γ1 := .mk fun σ H0 H en =>
  s_i (pi_str pe_s) (m_e (h.run σ H0 H en) fun v H1 ⟨H01, e1, en1, r⟩ => by
    cases r
    have hl : (strD z).length = z.cps.size := by simp [strD]
    refine ⟨z, rfl, H01, e1, en1, by rw [hl]; exact hz, fun _ => True, fun i H v H' => H' = H ∧ ∃ c, z.cps[i]? = some c ∧ v = .str ⟨#[c]⟩, by rw [hl]; exact walk_str, fun _ _ => trivial, fun i H2 v H3 hi hy => ⟨hy.1, ?_⟩⟩
    obtain ⟨c, h1, rfl⟩ := hy.2
    refine ⟨.str ⟨#[c]⟩, ?_, fun _ _ => .str _⟩
    unfold strD
    rw [List.getElem?_map, Array.getElem?_toList, h1]
    rfl)
theorem it_is {es : List Dt} (h : Itd X S Γ tg e ds Γ1) (q : ds = es) : Itd X S Γ tg e es Γ1 := q ▸ h

/-! ### for -/
theorem w_forI {n : Str} {i : Nat} {p : Pos} {body : List Stmt} (C : Cxt X) (s : Sto X n i) (hi : Itd X S Γ (.Name n p) e ds Γ1) (I : Nat → Ct → Prop) (h0 : I 0 Γ1)
    (hs : ∀ j d Γ', ds[j]? = some d → I j Γ' → Ws X S (cp Γ' i (.val d)) body { D with nx := I (j + 1), ct := I (j + 1), bk := D.nx }) (hd : ∀ Γ', I ds.length Γ' → D.nx Γ')
    (hf : ∀ x, foldedSetIterable e X.env x = pure x) : W1 X S Γ (.For (.Name n p) e body [] pos) D := .mk fun σ H0 H en => by
  refine s_s (ps_for C.po C.calm pi_s (pg_name s.nd s.ix s.loc s.fn) pss_s hf) ?_
  intro pins st Iv
  refine hi.run σ H0 H en pins st Iv |> fun h => thn h fun v s1 h1 => thn h1 fun itv s2 ⟨it, fp, tn, J, H', q1, q2, q3, q4, q5, H01, e1, en1, hz, G, Y, wk, hG, hY⟩ => ?_
  refine ⟨it, fp, tn, J, H', q1, q2, q3, q4, q5, ?_⟩
  refine for_it wk (fun j σ' H'' => ∃ H0j Γj, Ex H01 H0j ∧ En X.K S H0j H'' σ' Γj ∧ I j Γj) ⟨H01, Γ1, Ex.refl _, en1, h0⟩ (fun j σ' H'' _ ⟨H0j, Γj, e2, en2, _⟩ => hG _ (e2.trans en2.sub)) (fun j v' σ' H2 H3 hj ⟨H0j, Γj, e2, en2, hI⟩ hy => ?_) (fun σ' H'' ⟨H0j, Γj, e2, en2, hI⟩ => ⟨H0j, Γj, e1.trans e2, en2, hd _ hI⟩)
  obtain ⟨rfl, d, h1, h2⟩ := hY j H2 v' H3 hj hy
  have ex : Ex H0 H0j := e1.trans e2
  exact m_ss ((hs j d Γj h1 hI).run _ _ _ (en2.setv (h2 _ e2))) (fun σ4 H4 ⟨H04, Γ4, e4, en4, h4⟩ => ⟨H04, Γ4, e2.trans e4, en4, h4⟩) (cnc_rt ex) (fun σ4 H4 ⟨H04, Γ4, e4, en4, h4⟩ => ⟨H04, Γ4, ex.trans e4, en4, h4⟩) (fun σ4 H4 ⟨H04, Γ4, e4, en4, h4⟩ => ⟨H04, Γ4, e2.trans e4, en4, h4⟩)
theorem q_forI {n : Str} {i : Nat} {p : Pos} {body rest : List Stmt} (C : Cxt X) (s : Sto X n i) (hi : Itd X S Γ (.Name n p) e ds Γ1) (I : Nat → Ct → Prop) (h0 : I 0 Γ1)
    (hs : ∀ j d Γ', ds[j]? = some d → I j Γ' → Ws X S (cp Γ' i (.val d)) body { D with nx := I (j + 1), ct := I (j + 1), bk := fun Γ' => Ws X S Γ' rest D }) (hd : ∀ Γ', I ds.length Γ' → Ws X S Γ' rest D)
    (hf : ∀ x, foldedSetIterable e X.env x = pure x) : Ws X S Γ (.For (.Name n p) e body [] pos :: rest) D := ws_cons (w_forI C s hi I h0 hs hd hf)
/-- the environment at turn j is told by a function; what is not told is forgotten -/
theorem q_for {n : Str} {i : Nat} {p : Pos} {body rest : List Stmt} (C : Cxt X) (s : Sto X n i) (hi : Itd X S Γ (.Name n p) e ds Γ1) (E : Nat → Ct) (h0 : Fg Γ1 (E 0))
    (hs : ∀ j d, ds[j]? = some d → Ws X S (cp (E j) i (.val d)) body { D with nx := fun Γ' => Fg Γ' (E (j + 1)), ct := fun Γ' => Fg Γ' (E (j + 1)), bk := fun Γ' => Ws X S Γ' rest D }) (hd : Ws X S (E ds.length) rest D)
    (hf : ∀ x, foldedSetIterable e X.env x = pure x) : Ws X S Γ (.For (.Name n p) e body [] pos :: rest) D :=
  q_forI C s hi (fun j Γ' => Fg Γ' (E j)) h0 (fun j d Γ' h1 hI => ws_forget (by
    have : ∀ {Γ Γ' : Ct} {i : Nat} {c : Cell}, Fg Γ Γ' → Fg (cp Γ i c) (cp Γ' i c) := by
      intro Γ
      induction Γ with
      | nil => intro Γ' i c h; cases Γ' with
        | nil => exact h
        | cons _ _ => exact h.elim
      | cons a r ih =>
        intro Γ' i c h
        cases Γ' with
        | nil => exact h.elim
        | cons b s => cases i with
          | zero => exact ⟨.inr rfl, h.2⟩
          | succ i => exact ⟨h.1, ih h.2⟩
    exact this hI) (hs j d h1)) (fun Γ' hI => ws_forget hI hd) hf

/-! ### while -/
theorem q_whileI {body rest : List Stmt} (C : Cxt X) (I : Nat → Ct → Prop) (m0 : Nat) (h0 : I m0 Γ)
    (hs : ∀ m Γ', I m Γ' → ∃ c Γ2, Tst X S Γ' e c Γ2 ∧ (c = true → Ws X S Γ2 body { D with nx := fun Γ3 => ∃ m', m' < m ∧ I m' Γ3, ct := fun Γ3 => ∃ m', m' < m ∧ I m' Γ3, bk := fun Γ' => Ws X S Γ' rest D }) ∧ (c = false → Ws X S Γ2 rest D)) : Ws X S Γ (.While e body [] pos :: rest) D :=
  ws_cons <| .mk fun σ H0 H en => s_s (ps_while C.po pt_s pss_s) ⟨fun m σ' H' => ∃ H0' Γ', Ex H0 H0' ∧ En X.K S H0' H' σ' Γ' ∧ I m Γ', ⟨m0, H0, Γ, Ex.refl _, en, h0⟩, fun m σ' H' ⟨H0', Γ', e1, en1, hI⟩ => by
    obtain ⟨c, Γ2, ht, h1, h2⟩ := hs m Γ' hI
    refine m_t (ht.run σ' H0' H' en1) fun v H2 ⟨q, H02, e2, en2⟩ => ?_
    subst q
    have ex := e1.trans e2
    cases v with
    | true =>
      rw [if_pos rfl]
      refine ⟨fun σ3 H3 => ∃ m', m' < m ∧ ∃ H0' Γ', Ex H0 H0' ∧ En X.K S H0' H3 σ3 Γ' ∧ I m' Γ', fun σ3 H3 h => h, ?_⟩
      exact m_ss ((h1 rfl).run _ _ _ en2) (fun σ4 H4 ⟨H04, Γ4, e4, en4, m', hm, h4⟩ => ⟨m', hm, H04, Γ4, ex.trans e4, en4, h4⟩) (cnc_rt ex) (fun σ4 H4 ⟨H04, Γ4, e4, en4, h4⟩ => ⟨H04, Γ4, ex.trans e4, en4, h4⟩) (fun σ4 H4 ⟨H04, Γ4, e4, en4, m', hm, h4⟩ => ⟨m', hm, H04, Γ4, ex.trans e4, en4, h4⟩)
    | false =>
      rw [if_neg Bool.false_ne_true]
      exact ⟨H02, Γ2, ex, en2, h2 rfl⟩⟩
end
end Fl
namespace Fl
open PySem L2

/-! ### list comprehensions -/
section
variable {X : Cx} {S : Bs} {Γ Γ1 Γ2 Γ3 : Ct} {e elt : Expr} {pos : Pos} {D : Pd} {ds : List Dt} {P : Program} {w : World} {K : PySem.W.Frag} {mg : Str → Option Value} {base : Heap} {N : List Str} {sc scope : Scope} {k : Nat}
theorem Bd.blk (b : Bd X P w K mg base N sc k) (s : Shared) (H : Hp) (C : Addr) (cl : List (Str × Addr)) (fp : List Addr) : Bd (X.blk s H scope (compEnvC scope cl C X.env) fp) P w K mg base N (relS scope sc) k :=
  ⟨b.hP, b.hw, b.hK, b.hm, b.hB, b.hN, by show relS scope X.env.scope = relS scope sc; rw [b.hs], b.nd, b.calm, PassesOwn.never, b.room⟩
/-- a clause's tests -/
def Tsts (X : Cx) (S : Bs) (Γ : Ct) : List Expr → Bool → Prop
  | [], b => b = true
  | [c], b => Tst X S Γ c b Γ
  | _, _ => False
def sPs (X : Cx) (ifs : List Expr) : TT := fun σ H Q => ∀ pins s, Inv X pins σ H s →
    wpAny (model X.prog X.w) X.A (forIn ifs true fun c r => if r = true then do let ok ← isTrue c X.env (eval c X.env); pure (ForInStep.yield ok) else pure (ForInStep.yield r)) (TP X pins σ Q) X.xe s
theorem s_ps {ifs : List Expr} {b : Bool} (h : Tsts X S Γ ifs b) : ∀ σ H0 H, En X.K S H0 H σ Γ → sPs X ifs σ H (Bst X.K S σ H0 Γ b) := fun σ H0 H en pins s I => by
  match ifs, h with
  | [], h => exact pts_nil.run pins s σ H _ I ⟨h.symm, H0, Ex.refl _, en⟩
  | [c], h => exact (pts_one (pt_s (X := X) (e := c))).run pins s σ H _ I (h.run σ H0 H en)
theorem m_ps {ifs : List Expr} {σ : L2.St} {H : Hp} {Q Q' : Bool → Hp → Prop} (h : sPs X ifs σ H Q) (m : ∀ v H', Q v H' → Q' v H') : sPs X ifs σ H Q' := fun pins s I => thn (h pins s I) fun _ _ ⟨H', I', q⟩ => ⟨H', I', m _ H' q⟩
theorem m_i {tg : Expr} {σ : L2.St} {H : Hp} {R R' : It → Hp → Prop} (h : sI X tg e σ H R) (m : ∀ v H', R v H' → R' v H') : sI X tg e σ H R' := fun pins s I => thn (h pins s I) fun _ _ h1 => thn h1 fun _ _ ⟨it, fp, tn, J, H', q1, q2, q3, q4, q5, q6⟩ => ⟨it, fp, tn, J, H', q1, q2, q3, q4, q5, m _ _ q6⟩
theorem tLc_mono {tg : Expr} {g : TG} {tt : TT} {te : TE} {vs : List Nat} {σ : L2.St} {H : Hp} {Q Q' : VK} (h : tLc (sI X tg e) g tt te vs σ H Q) (m : ∀ v H', Q v H' → Q' v H') : tLc (sI X tg e) g tt te vs σ H Q' :=
  m_i h fun J H1 h2 A hA => by
    obtain ⟨W, h0, hs⟩ := h2 A hA
    refine ⟨W, h0, fun i m' H' hW => ?_⟩
    rcases hs i m' H' hW with ⟨h, q⟩ | h
    · exact .inl ⟨h, m _ _ q⟩
    · exact .inr h
theorem En.out {K : PySem.W.Frag} {S S' : Bs} {H0 H H0' H' : Hp} {σ : L2.St} {i : Nat} {v : V} {d : Dt} (en : En K S H0 H σ Γ) (e : Ex H0 H0') (hn : ∀ c, cg Γ i = some c → c.isOwn = false)
    (en' : En K S' H0' H' ((wipe σ [i]).set i (some v)) (cp Γ i (.val d))) : En K S' H0' H' σ Γ := by
  have hw : ∀ j, j ≠ i → ((wipe σ [i]).set i (some v))[j]? = σ[j]? := fun j hj => by
    rw [List.getElem?_set_ne (Ne.symm hj)]
    show (σ.set i none)[j]? = σ[j]?
    rw [List.getElem?_set_ne (Ne.symm hj)]
  refine ⟨en'.sub, en'.bas, en'.forb, en.len, fun j c hc => ?_, fun j l c d a h1 h2 o1 o2 s1 s2 => ?_⟩
  · by_cases hj : j = i
    · subst hj
      obtain ⟨o, ho, k⟩ := en.cells j c hc
      refine ⟨o, ho, ?_⟩
      cases c with
      | no => trivial
      | val d => obtain ⟨v, q, r⟩ := k; exact ⟨v, q, r.mono e⟩
      | own _ _ => cases hn _ hc
      | ownD _ => cases hn _ hc
      | ownT _ => cases hn _ hc
    · obtain ⟨o, ho, k⟩ := en'.cells j c (by rw [cg_cp_ne hj]; exact hc)
      exact ⟨o, by rw [← hw j hj]; exact ho, k⟩
  · have n1 : j ≠ i := fun z => by subst z; rw [hn _ h1] at o1; cases o1
    have n2 : l ≠ i := fun z => by subst z; rw [hn _ h2] at o2; cases o2
    exact en'.apart j l c d a (by rw [cg_cp_ne n1]; exact h1) (by rw [cg_cp_ne n2]; exact h2) o1 o2 (by rw [hw j n1]; exact s1) (by rw [hw l n2]; exact s2)
theorem En.inn {K : PySem.W.Frag} {S : Bs} {H0 H : Hp} {σ : L2.St} {i : Nat} {v : V} {d : Dt} (en : En K S H0 H σ Γ) (r : Dr K H0 v d) : En K S H0 H ((wipe σ [i]).set i (some v)) (cp Γ i (.val d)) := by
  have q := en.setv (i := i) r
  have e : (wipe σ [i]).set i (some v) = σ.set i (some v) := by
    show (σ.set i none).set i (some v) = _
    rw [List.set_set]
  rw [e]; exact q
/-- an object that no one holds changes -/
theorem En.chg {K : PySem.W.Frag} {S S' : Bs} {H0 H : Hp} {σ : L2.St} {p : Addr} {o : HO} (en : En K S H0 H σ Γ) (h0 : H0 p = none) (ho : ∀ xs, o ≠ .tup xs) (hb : Ex S'.Hs (upd H p o)) (hf : ∀ a, S'.F a → S.F a ∨ a = p) (hk : ∀ a, S.Hs a = none → a ≠ p → S'.Hs a = none)
    (no : ∀ (j : Nat) (c : Cell), cg Γ j = some c → c.isOwn = true → σ[j]? ≠ some (some (.ref p))) : En K S' H0 (upd H p o) σ Γ := by
  refine ⟨fun a u q => by rw [upd_ne (ne_of_none q h0)]; exact en.sub a u q, hb, fun a f => ?_, en.len, fun j c hc => ?_, en.apart⟩
  · by_cases ha : a = p
    · subst ha; exact ⟨h0, o, upd_same, ho⟩
    · rcases hf a f with f | f
      · rw [upd_ne ha]; exact en.forb a f
      · exact absurd f ha
  · obtain ⟨x, hx, kc⟩ := en.cells j c hc
    refine ⟨x, hx, ?_⟩
    have ne : ∀ b, c.isOwn = true → x = some (.ref b) → b ≠ p := fun b ow e z => no j c hc ow (by rw [hx, e, z])
    have nf : ∀ b, c.isOwn = true → x = some (.ref b) → ¬ S.F b → ¬ S'.F b := fun b ow e h f => by
      rcases hf b f with f | f
      · exact h f
      · exact ne b ow e f
    cases c with
    | no => trivial
    | val d => exact kc
    | own b ds => obtain ⟨a, xs, q, h0, hs, hf', h, r⟩ := kc; exact ⟨a, xs, q, h0, hk a hs (ne a rfl q), hf'.mono (nf a rfl q), by rw [upd_ne (ne a rfl q)]; exact h, r⟩
    | ownD ks => obtain ⟨a, xs, q, h0, hs, hf', h, r⟩ := kc; exact ⟨a, xs, q, h0, hk a hs (ne a rfl q), nf a rfl q hf', by rw [upd_ne (ne a rfl q)]; exact h, r⟩
    | ownT ks => obtain ⟨a, q, h0, hs, hf', h⟩ := kc; exact ⟨a, q, h0, hk a hs (ne a rfl q), nf a rfl q hf', by rw [upd_ne (ne a rfl q)]; exact h⟩
def ttB (X : Cx) (scope : Scope) (ifs : List Expr) : TT := fun σ H Q => ∀ (s : Shared) (H1 : Hp) (C : Addr) (cl : List (Str × Addr)) (fp : List Addr), sPs (X.blk s H1 scope (compEnvC scope cl C X.env) fp) ifs σ H Q
def teB (X : Cx) (scope : Scope) (elt : Expr) : TE := fun σ H Q => ∀ (s : Shared) (H1 : Hp) (C : Addr) (cl : List (Str × Addr)) (fp : List Addr), sE (X.blk s H1 scope (compEnvC scope cl C X.env) fp) elt σ H Q
def lcN (n : Nat) (p : Nat → Bool) (g : Nat → Dt) : List Dt := ((List.range n).filter p).map g
theorem lcN_snoc {p : Nat → Bool} {g : Nat → Dt} {i : Nat} : lcN (i + 1) p g = lcN i p g ++ (if p i = true then [g i] else []) := by
  unfold lcN
  rw [List.range_succ, List.filter_append, List.map_append]
  by_cases hp : p i = true
  · rw [if_pos hp, List.filter_cons, if_pos hp]; rfl
  · rw [if_neg hp, List.filter_cons, if_neg hp]; rfl
/-- a comprehension's reading -/
theorem lc_read {n : Str} {i : Nat} {p : Pos} {ifs : List Expr} (C : Bd X P w K mg base N sc k) (hi : Itd X S Γ (.Name n p) e ds Γ1) (hni : ∀ c, cg Γ1 i = some c → c.isOwn = false) (f : Nat → Bool) (g : Nat → Dt)
    (ht : ∀ Y, Bd Y P w K mg base N (relS scope sc) k → ∀ (S : Bs) (j : Nat) (d : Dt), ds[j]? = some d → Tsts Y S (cp Γ1 i (.val d)) ifs (f j))
    (he : ∀ Y, Bd Y P w K mg base N (relS scope sc) k → ∀ (S : Bs) (j : Nat) (d : Dt), ds[j]? = some d → f j = true → Ev Y S (cp Γ1 i (.val d)) elt (g j) (cp Γ1 i (.val d))) {σ : L2.St} {H0 H : Hp} (en : En X.K S H0 H σ Γ) :
    tLc (sI X (.Name n p) e) (gName i) (ttB X scope ifs)
      (teB X scope elt) [i] σ H (Nst X.K S σ H0 Γ1 (lcN ds.length f g)) := by
  refine m_i (hi.run σ H0 H en) fun J H1 ⟨H01, e1, en1, hz, G, Y, wk, hG, hY⟩ => ?_
  intro A hA
  have h0A : H01 A = none := en1.sub.back hA
  have hsA : S.Hs A = none := en1.bas.back hA
  have nfA : ¬ S.F A := fun f => (en1.forb A f).2.nn hA
  have noA : ∀ (j : Nat) (c : Cell), cg Γ1 j = some c → c.isOwn = true → σ[j]? ≠ some (some (.ref A)) := fun j c hc ho q => by
    obtain ⟨o, e, k⟩ := en1.cells j c hc
    obtain ⟨a, u, e2, _, _, h⟩ := own_at k ho
    rw [q] at e
    have e3 := Option.some.inj e
    rw [e2] at e3
    have e4 : A = a := V.ref.inj (Option.some.inj e3)
    rw [e4, h] at hA
    cases hA
  have hwp : ∀ x, wipe ((wipe σ [i]).set i (some x)) [i] = wipe σ [i] := fun x => by
    show ((σ.set i none).set i (some x)).set i none = σ.set i none
    rw [List.set_set, List.set_set]
  have mk : ∀ {S1 : Bs} {H0' H' : Hp} {acc : List V}, En X.K S1 H0' H' σ Γ1 → H0' A = none → Ex S.Hs H' → (∀ a, S.F a ∨ a = A → S1.F a ∨ a = A) → (∀ a, S1.Hs a = none → a ≠ A → S.Hs a = none) → En X.K ⟨upd S.Hs A (.lst acc), fun a => S.F a ∨ a = A⟩ H0' (upd H' A (.lst acc)) σ Γ1 := fun {S1 H0' H' acc} en h0 hb hf hk =>
    en.chg h0 (fun _ z => nomatch z) (fun a u q => by
      have q : upd S.Hs A (.lst acc) a = some u := q
      by_cases ha : a = A
      · subst ha; rw [upd_same] at q ⊢; exact q
      · rw [upd_ne ha] at q ⊢; exact hb a u q) hf (fun a h na => by show upd S.Hs A (.lst acc) a = none; rw [upd_ne na]; exact hk a h na) noA
  refine lc_it wk (g := gName i) (tt := ttB X scope ifs) (te := teB X scope elt) (vs := [i]) (fun j H' => ∃ H0j acc, Ex H01 H0j ∧ En X.K ⟨upd S.Hs A (.lst acc), fun a => S.F a ∨ a = A⟩ H0j H' σ Γ1 ∧ Drs X.K H0j acc (lcN j f g) ∧ acc.length ≤ j)
    ⟨H01, [], Ex.refl _, mk en1 h0A en1.bas (fun a h => h) (fun a h _ => h), .nil, Nat.le_refl _⟩ (fun j H' hj ⟨H0j, acc, e2, en2, _⟩ => hG _ (e2.trans en2.sub)) (fun j x H2 H3 hj ⟨H0j, acc, e2, en2, r2, hl⟩ hy => ?_) (fun H' ⟨H0n, acc, e2, en2, r2, hl⟩ => ?_)
  · obtain ⟨rfl, d, h1, h2⟩ := hY j H2 x H3 hj hy
    refine ⟨hwp x, fun s H1' C' cl fp => ?_⟩
    have enb := en2.inn (i := i) (h2 _ e2)
    refine m_ps (s_ps (ht _ (C.blk s H1' C' cl fp) _ j d h1) _ _ _ enb) fun c H4 ⟨q, H04, e4, en4⟩ => ?_
    subst q
    have out4 := en2.out e4 hni en4
    have b2 : ∀ {H5 : Hp}, Ex (upd S.Hs A (.lst acc)) H5 → Ex S.Hs H5 := fun {H5} h a u q => h a u (by rw [upd_ne (ne_of_none q hsA)]; exact q)
    by_cases hc : f j = true
    · rw [if_pos hc]
      intro s' H1'' C'' cl' fp'
      refine m_e ((he _ (C.blk s' H1'' C'' cl' fp') _ j d h1 hc).run _ _ _ en4) fun y H5 ⟨H05, e5, en5, r5⟩ => ?_
      have out5 := en2.out (e4.trans e5) hni en5
      refine ⟨acc, out5.bas A _ upd_same, Nat.lt_of_lt_of_le (Nat.lt_of_le_of_lt hl hj) hz, H05, acc ++ [y], (e2.trans e4).trans e5, ?_, ?_, ?_⟩
      · exact mk out5 (out5.forb A (.inr rfl)).1 (b2 out5.bas) (fun a h => .inl h) (fun a h na => by
          have h' : upd S.Hs A (.lst acc) a = none := h
          rw [upd_ne na] at h'; exact h')
      · rw [lcN_snoc, if_pos hc]
        exact (r2.mono (e4.trans e5)).snoc r5
      · rw [List.length_append]; show acc.length + 1 ≤ j + 1; omega
    · rw [if_neg hc]
      refine ⟨H04, acc, e2.trans e4, out4, ?_, Nat.le_succ_of_le hl⟩
      rw [lcN_snoc, if_neg hc, List.append_nil]
      exact r2.mono e4
  · refine ⟨H0n, A, acc, e1.trans e2, ?_, rfl, (en2.forb A (.inr rfl)).1, hsA, nfA, en2.bas A _ upd_same, ?_, noA⟩
    · refine ⟨en2.sub, fun a u q => en2.bas a u (by show upd S.Hs A (.lst acc) a = _; rw [upd_ne (ne_of_none q hsA)]; exact q), fun a h => en2.forb a (.inl h), en2.len, fun j c hc => ?_, en2.apart⟩
      obtain ⟨o, ho, kc⟩ := en2.cells j c hc
      refine ⟨o, ho, ?_⟩
      have hk : ∀ a, (upd S.Hs A (.lst acc)) a = none → S.Hs a = none := fun a h => by
        by_cases ha : a = A
        · rw [ha, upd_same] at h; cases h
        · rw [upd_ne ha] at h; exact h
      cases c with
      | no => trivial
      | val d => exact kc
      | own b ds => obtain ⟨a, xs, q, h0, hs, hf', h, r⟩ := kc; exact ⟨a, xs, q, h0, hk a hs, hf'.mono (fun g z => g (.inl z)), h, r⟩
      | ownD ks => obtain ⟨a, xs, q, h0, hs, hf', h, r⟩ := kc; exact ⟨a, xs, q, h0, hk a hs, fun z => hf' (.inl z), h, r⟩
      | ownT ks => obtain ⟨a, q, h0, hs, hf', h⟩ := kc; exact ⟨a, q, h0, hk a hs, fun z => hf' (.inl z), h⟩
    · exact r2
/-- the target of a comprehension: its own, read in another comprehension or not -/
def lcOk (sc scope : Scope) (n : Str) : Bool := decide ((relS scope sc).names.lookup n = some .local) || (decide ((relS scope sc).names.lookup n = some .cell) && (scope.names.lookup n == some .cell))
theorem lcOk_pg {n : Str} {i : Nat} {p : Pos} (hnd : X.N.Nodup) (hx : X.N[i]? = some n) (h : lcOk X.env.scope scope n = true) (s : Shared) (H : Hp) (C' : Addr) (cl : List (Str × Addr)) (fp : List Addr) : PG (X.blk s H scope (compEnvC scope cl C' X.env) fp) (.Name n p) (gName i) := by
  unfold lcOk at h
  rw [Bool.or_eq_true, Bool.and_eq_true, decide_eq_true_eq, decide_eq_true_eq] at h
  rcases h with h | ⟨h1, h2⟩
  · exact pg_name hnd hx (.inl h) (.inr h)
  · exact pg_name hnd hx (.inr h1) (.inl h2)
theorem evn_lc {n : Str} {i : Nat} {p p2 : Pos} {ifs : List Expr} (C : Bd X P w K mg base N sc k) (hix : N[i]? = some n) (bk : BlkOk N sc scope [(n, i)]) (hl : lcOk sc scope n = true)
    (hi : Itd X S Γ (.Name n p) e ds Γ1) (hni : ∀ c, cg Γ1 i = some c → c.isOwn = false) (f : Nat → Bool) (g : Nat → Dt)
    (ht : ∀ Y, Bd Y P w K mg base N (relS scope sc) k → ∀ (S : Bs) (j : Nat) (d : Dt), ds[j]? = some d → Tsts Y S (cp Γ1 i (.val d)) ifs (f j))
    (he : ∀ Y, Bd Y P w K mg base N (relS scope sc) k → ∀ (S : Bs) (j : Nat) (d : Dt), ds[j]? = some d → f j = true → Ev Y S (cp Γ1 i (.val d)) elt (g j) (cp Γ1 i (.val d)))
    (hf : ∀ x, foldedSetIterable e X.env x = pure x) : EvN X S Γ (.ListComp elt [⟨.Name n p, e, ifs, 0⟩] scope pos) (lcN ds.length f g) Γ1 := .mk fun σ H0 H en => by
  have hnd : X.N.Nodup := by rw [C.hN]; exact C.nd
  have hx : X.N[i]? = some n := by rw [C.hN]; exact hix
  have pgn : ∀ (s : Shared) (H : Hp) (C' : Addr) (cl : List (Str × Addr)) (fp : List Addr), PG (X.blk s H scope (compEnvC scope cl C' X.env) fp) (.Name n p) (gName i) := lcOk_pg hnd hx (by rw [C.hs]; exact hl)
  refine s_e (pe_lc (own := [(n, i)]) (g := gName i) (tt := ttB X scope ifs) (te := teB X scope elt) C.calm hnd pi_s (by rw [C.hN, C.hs]; exact bk) pgn (fun s H C' cl fp => ⟨fun pins st σ H Q I h => h s _ C' cl fp pins st I⟩) (fun s H C' cl fp => ⟨fun pins st σ H Q I h => h s _ C' cl fp pins st I⟩) hf) ?_
  exact lc_read C hi hni f g ht he en
/-- name = [..] on one line, the name a local -/
theorem lc_set {m n : Str} {i j : Nat} {p p2 q : Pos} {ifs : List Expr} (C : Bd X P w K mg base N sc k) (s : Sto X m j) (hml : sc.names.lookup m = some .local) (hix : N[i]? = some n) (bk : BlkOk N sc scope [(n, i)]) (hl : lcOk sc scope n = true)
    (hsw : swapsWith (.ListComp elt [⟨.Name n p, e, ifs, 0⟩] scope pos) (some (.Name m q)) p2.line X.env = pure true)
    (hi : Itd X S Γ (.Name n p) e ds Γ1) (hni : ∀ c, cg Γ1 i = some c → c.isOwn = false) (f : Nat → Bool) (g : Nat → Dt)
    (ht : ∀ Y, Bd Y P w K mg base N (relS scope sc) k → ∀ (S : Bs) (j : Nat) (d : Dt), ds[j]? = some d → Tsts Y S (cp Γ1 i (.val d)) ifs (f j))
    (he : ∀ Y, Bd Y P w K mg base N (relS scope sc) k → ∀ (S : Bs) (j : Nat) (d : Dt), ds[j]? = some d → f j = true → Ev Y S (cp Γ1 i (.val d)) elt (g j) (cp Γ1 i (.val d)))
    (hf : ∀ x, foldedSetIterable e X.env x = pure x) (hd : D.nx (cp Γ1 j (.own none (lcN ds.length f g)))) : W1 X S Γ (.Assign [.Name m q] (.ListComp elt [⟨.Name n p, e, ifs, 0⟩] scope pos) p2) D := .mk fun σ H0 H en => by
  have hnd : X.N.Nodup := by rw [C.hN]; exact C.nd
  have hx : X.N[i]? = some n := by rw [C.hN]; exact hix
  have pgn : ∀ (s : Shared) (H : Hp) (C' : Addr) (cl : List (Str × Addr)) (fp : List Addr), PG (X.blk s H scope (compEnvC scope cl C' X.env) fp) (.Name n p) (gName i) := lcOk_pg hnd hx (by rw [C.hs]; exact hl)
  refine s_s (ps_setLc (own := [(n, i)]) (g := gName i) (tt := ttB X scope ifs) (te := teB X scope elt) C.calm hnd s.ix (by rw [C.hs]; exact hml) hsw pi_s (by rw [C.hN, C.hs]; exact bk) pgn (fun s H C' cl fp => ⟨fun pins st σ H Q I h => h s _ C' cl fp pins st I⟩) (fun s H C' cl fp => ⟨fun pins st σ H Q I h => h s _ C' cl fp pins st I⟩) hf) ?_
  show tLc _ _ _ _ _ σ H (fun x H1 => (cnc X.K S H0 D).nx (σ.set j (some x)) H1)
  refine tLc_mono (lc_read C hi hni f g ht he en) fun v H1 ⟨H01, a, xs, e1, en1, ev, h0, hS, hf, hH, r, no⟩ => ?_
  subst ev
  exact ⟨H01, _, e1, en1.seto (c := .own none (lcN ds.length f g)) rfl ⟨a, xs, rfl, h0, hS, hf, hH, r⟩ no, hd⟩
end
end Fl
namespace Fl
open PySem L2

/-! ### data that is compared -/
mutual
def py : Dt → PyData
  | .non => .none
  | .bl b => .bool b
  | .int i => .int i
  | .str x => .str x
  | .lst ds => .list (pys ds)
  | .tup ds => .tuple (pys ds)
  | .dct _ => .dict []
  | .scr ns => .list (ns.map .int)
  | .ty _ => .dict []
  | .dcl _ => .dict []
  | .adr _ => .dict []
def pys : List Dt → List PyData
  | [] => []
  | d :: ds => py d :: pys ds
end
theorem pys_map : ∀ ds : List Dt, pys ds = ds.map py
  | [] => rfl
  | d :: ds => by rw [pys, pys_map ds]; rfl
def okD (d : Dt) : Bool := SeqAt.shaped (py d)
def deq (x y : Dt) : Bool := PyData.eqv (py x) (py y)
section
variable {K : PySem.W.Frag} {H : Hp}
theorem dpAll_ints : ∀ ns : List Int, DpAll K H (ns.map V.int) (ns.map PyData.int)
  | [] => .nil
  | n :: ns => .cons (.int n) (dpAll_ints ns)
mutual
theorem dp_of : ∀ {v : V} {d : Dt}, Dr K H v d → PyData.canLay0 (py d) = true → Dp K H v (py d)
  | _, _, .non, _ => .non
  | _, _, .bl b, _ => .bl b
  | _, _, .int i, _ => .int i
  | _, _, .str x, _ => .str x
  | _, _, .lst h q, hc => .lst (.inl (.inl h)) (dps_of q (by simpa [py, PyData.canLay0] using hc))
  | _, _, .tup h q, hc => .tup (.inl (.inl h)) (dps_of q (by simpa [py, PyData.canLay0] using hc))
  | _, _, .dct _ _, hc => by simp [py, PyData.canLay0] at hc
  | _, _, .scr h, hc => .lst h (dpAll_ints _)
  | _, _, .ty _, hc => by simp [py, PyData.canLay0] at hc
  | _, _, .dcl _ _, hc => by simp [py, PyData.canLay0] at hc
  | _, _, .adr _, hc => by simp [py, PyData.canLay0] at hc
theorem dps_of : ∀ {vs : List V} {ds : List Dt}, Drs K H vs ds → PyData.canLayAll0 (pys ds) = true → DpAll K H vs (pys ds)
  | _, _, .nil, _ => .nil
  | _, _, .cons h q, hc => by
    rw [pys, PyData.canLayAll0, Bool.and_eq_true] at hc
    exact .cons (dp_of h hc.1) (dps_of q hc.2)
end
end
section
variable {X : Cx} {S : Bs} {Γ Γ1 Γ2 Γ3 : Ct} {a b e : Expr} {x y z d : Dt} {pos : Pos} {D : Pd} {ds : List Dt}
theorem c_eqD (C : Cxt X) (hx : okD x = true) (hy : okD y = true) : Cop X .Eq x y (deq x y) := ⟨_, op_eqD (by have := C.units; omega), fun S Γ σ H0 H v u en h1 h2 Q q =>
  ⟨py x, py y, dp_of (h1.mono en.sub) (SeqAt.canLay_of_shaped hx), dp_of (h2.mono en.sub) (SeqAt.canLay_of_shaped hy), hx, hy, q _ _ (pst_bl en)⟩⟩
theorem c_neD (C : Cxt X) (hx : okD x = true) (hy : okD y = true) : Cop X .NotEq x y (!deq x y) := ⟨_, op_neD (by have := C.units; omega), fun S Γ σ H0 H v u en h1 h2 Q q =>
  ⟨py x, py y, dp_of (h1.mono en.sub) (SeqAt.canLay_of_shaped hx), dp_of (h2.mono en.sub) (SeqAt.canLay_of_shaped hy), hx, hy, q _ _ (pst_bl en)⟩⟩
theorem c_isN : Cop X .Is x .non (match x with | .non => true | _ => false) := ⟨_, op_isN, fun S Γ σ H0 H v u en h1 h2 Q q => by
  cases h2
  refine ⟨rfl, q _ _ ?_⟩
  cases h1 <;> exact pst_bl en⟩
theorem c_notN : Cop X .IsNot x .non (match x with | .non => false | _ => true) := ⟨_, op_notN, fun S Γ σ H0 H v u en h1 h2 Q q => by
  cases h2
  refine ⟨rfl, q _ _ ?_⟩
  cases h1 <;> exact pst_bl en⟩
theorem c_isB {i j : Bool} : Cop X .Is (.bl i) (.bl j) (decide (i = j)) := ⟨_, op_isBl, fun S Γ σ H0 H v u en h1 h2 Q q => by
  cases h1; cases h2; exact ⟨i, j, rfl, rfl, q _ _ (pst_bl en)⟩⟩
theorem c_notB {i j : Bool} : Cop X .IsNot (.bl i) (.bl j) (!decide (i = j)) := ⟨_, op_notBl, fun S Γ σ H0 H v u en h1 h2 Q q => by
  cases h1; cases h2; exact ⟨i, j, rfl, rfl, q _ _ (pst_bl en)⟩⟩
/-- x in xs, ints -/
theorem inV_ints (i : Int) (ns : List Int) : inV (.int i) (ns.map V.int) = decide (i ∈ ns) := by
  unfold inV
  rw [List.any_map]
  induction ns with
  | nil => simp
  | cons n ns ih =>
    rw [List.any_cons, ih]
    have : (Function.comp (fun y => eqV y (.int i)) V.int) n = decide (n = i) := by
      show (n == i) = decide (n = i)
      by_cases h : n = i <;> simp [h]
    rw [this]
    by_cases h : n = i
    · simp [h]
    · have h' : ¬ i = n := fun z => h z.symm
      simp [h, h', List.mem_cons]
theorem flat_ints (ns : List Int) : (ns.map V.int).all flatV = true := by
  rw [List.all_eq_true]
  intro v hv
  obtain ⟨n, _, rfl⟩ := List.mem_map.mp hv
  rfl
theorem c_inL {i : Int} {ns : List Int} : Cop X .In (.int i) (.lst (ns.map .int)) (decide (i ∈ ns)) := ⟨_, op_in_seq, fun S Γ σ H0 H v u en h1 h2 Q q => by
  cases h1
  cases h2 with
  | @lst a xs _ h0 r =>
    rw [r.ints] at h0
    exact ⟨a, _, rfl, .inl (.inl (.inl (en.sub _ _ h0))), rfl, flat_ints ns, by rw [if_neg Bool.false_ne_true, inV_ints]; exact q _ _ (pst_bl en)⟩⟩
theorem c_inT {i : Int} {ns : List Int} : Cop X .In (.int i) (.tup (ns.map .int)) (decide (i ∈ ns)) := ⟨_, op_in_seq, fun S Γ σ H0 H v u en h1 h2 Q q => by
  cases h1
  cases h2 with
  | @tup a xs _ h0 r =>
    rw [r.ints] at h0
    exact ⟨a, _, rfl, .inr (.inl (.inl (en.sub _ _ h0))), rfl, flat_ints ns, by rw [if_neg Bool.false_ne_true, inV_ints]; exact q _ _ (pst_bl en)⟩⟩
theorem c_ninL {i : Int} {ns : List Int} : Cop X .NotIn (.int i) (.lst (ns.map .int)) (!decide (i ∈ ns)) := ⟨_, op_notIn_seq, fun S Γ σ H0 H v u en h1 h2 Q q => by
  cases h1
  cases h2 with
  | @lst a xs _ h0 r =>
    rw [r.ints] at h0
    exact ⟨a, _, rfl, .inl (.inl (.inl (en.sub _ _ h0))), rfl, flat_ints ns, by rw [if_pos rfl, inV_ints]; exact q _ _ (pst_bl en)⟩⟩
theorem c_ninT {i : Int} {ns : List Int} : Cop X .NotIn (.int i) (.tup (ns.map .int)) (!decide (i ∈ ns)) := ⟨_, op_notIn_seq, fun S Γ σ H0 H v u en h1 h2 Q q => by
  cases h1
  cases h2 with
  | @tup a xs _ h0 r =>
    rw [r.ints] at h0
    exact ⟨a, _, rfl, .inr (.inl (.inl (en.sub _ _ h0))), rfl, flat_ints ns, by rw [if_pos rfl, inV_ints]; exact q _ _ (pst_bl en)⟩⟩
/-! ### dicts -/
def lookD (ks : List (Int × Dt)) (i : Int) : Option Dt := (ks.find? fun kv => decide (kv.1 = i)).map (·.2)
def putD (ks : List (Int × Dt)) (i : Int) (d : Dt) : List (Int × Dt) := if (ks.any fun kv => decide (kv.1 = i)) = true then ks.map (fun kv => if kv.1 = i then (kv.1, d) else kv) else ks ++ [(i, d)]
theorem key_eq (i j : Int) : decide ((Sum.inl i : Key) = Sum.inl j) = decide (i = j) := by
  by_cases h : i = j
  · simp [h]
  · have : ¬ (Sum.inl i : Key) = Sum.inl j := fun z => h (Sum.inl.inj z)
    simp [h]
theorem Drk.look {K : PySem.W.Frag} {H : Hp} (i : Int) : ∀ {vs : List (Key × V)} {ks : List (Int × Dt)}, Drk K H vs ks → (valV vs (.inl i) = none ∧ lookD ks i = none) ∨ ∃ v d, valV vs (.inl i) = some v ∧ lookD ks i = some d ∧ Dr K H v d
  | _, _, .nil => .inl ⟨rfl, rfl⟩
  | _, _, @Drk.cons _ _ j v d vs ks h q => by
    unfold valV lookD
    rw [List.find?_cons, List.find?_cons]
    simp only [key_eq]
    by_cases hj : j = i
    · rw [decide_eq_true hj]
      exact .inr ⟨v, d, rfl, rfl, h⟩
    · rw [decide_eq_false hj]
      exact Drk.look i q
theorem Drk.anyk {K : PySem.W.Frag} {H : Hp} (i : Int) : ∀ {vs : List (Key × V)} {ks : List (Int × Dt)}, Drk K H vs ks → (vs.any fun kv => decide (kv.1 = (Sum.inl i : Key))) = ks.any fun kv => decide (kv.1 = i)
  | _, _, .nil => rfl
  | _, _, .cons h q => by rw [List.any_cons, List.any_cons, Drk.anyk i q]; simp only [key_eq]
theorem Drk.snoc {K : PySem.W.Frag} {H : Hp} {i : Int} {v : V} {d : Dt} (r : Dr K H v d) : ∀ {vs : List (Key × V)} {ks : List (Int × Dt)}, Drk K H vs ks → Drk K H (vs ++ [(.inl i, v)]) (ks ++ [(i, d)])
  | _, _, .nil => .cons r .nil
  | _, _, .cons h q => .cons h (Drk.snoc r q)
theorem Drk.repl {K : PySem.W.Frag} {H : Hp} {i : Int} {v : V} {d : Dt} (r : Dr K H v d) : ∀ {vs : List (Key × V)} {ks : List (Int × Dt)}, Drk K H vs ks → Drk K H (vs.map fun kv => if kv.1 = (Sum.inl i : Key) then (kv.1, v) else kv) (ks.map fun kv => if kv.1 = i then (kv.1, d) else kv)
  | _, _, .nil => .nil
  | _, _, @Drk.cons _ _ j w e vs ks h q => by
    rw [List.map_cons, List.map_cons]
    by_cases hj : j = i
    · subst hj
      rw [if_pos rfl, if_pos rfl]
      exact .cons r (Drk.repl r q)
    · rw [if_neg hj, if_neg (fun z => hj (Sum.inl.inj z))]
      exact .cons h (Drk.repl r q)
theorem Drk.put {K : PySem.W.Frag} {H : Hp} {i : Int} {v : V} {d : Dt} (r : Dr K H v d) {vs : List (Key × V)} {ks : List (Int × Dt)} (h : Drk K H vs ks) : Drk K H (putK vs (.inl i) v) (putD ks i d) := by
  unfold putK putD
  rw [h.anyk i]
  split
  · exact h.repl r
  · exact h.snoc r
theorem dget_of {K : PySem.W.Frag} {S : Bs} {σ : L2.St} {H0 H : Hp} {u : V} {ks : List (Int × Dt)} {i : Int} (en : En K S H0 H σ Γ) (h : Dr K H0 u (.dct ks)) : ∃ p o, u = .ref p ∧ DGet H p (.int i) o ∧ ((o = none ∧ lookD ks i = none) ∨ ∃ v d, o = some v ∧ lookD ks i = some d ∧ Dr K H0 v d) := by
  cases h with
  | @dct p vs _ h0 r => exact ⟨p, valV vs (.inl i), rfl, DGet.k (k := .inl i) (en.sub _ _ h0), r.look i⟩
theorem isSome_of {o : Option V} {q : Option Dt} {P : V → Dt → Prop} (h : (o = none ∧ q = none) ∨ ∃ v d, o = some v ∧ q = some d ∧ P v d) : o.isSome = q.isSome := by
  rcases h with ⟨rfl, rfl⟩ | ⟨v, d, rfl, rfl, _⟩ <;> rfl
theorem op_inD {X : Cx} (hu : X.A.units + 1 < cLine) : OpR X (compareOp .In) (fun y x H Q => ∃ a o, x = .ref a ∧ DGet H a y o ∧ Q (.bl o.isSome) H) := by
  intro pins s σ H x y v u Q I rx ry h
  obtain ⟨a, o, rfl, g, q⟩ := h
  cases ry
  exact d_in hu I g rx fun s3 I3 => ⟨.bl o.isSome, H, I3, rfl, q⟩
theorem op_ninD {X : Cx} (hu : X.A.units + 1 < cLine) : OpR X (compareOp .NotIn) (fun y x H Q => ∃ a o, x = .ref a ∧ DGet H a y o ∧ Q (.bl (!o.isSome)) H) := by
  intro pins s σ H x y v u Q I rx ry h
  obtain ⟨a, o, rfl, g, q⟩ := h
  cases ry
  exact d_notIn hu I g rx fun s3 I3 => ⟨.bl (!o.isSome), H, I3, rfl, q⟩
theorem c_inD {i : Int} {ks : List (Int × Dt)} (C : Cxt X) : Cop X .In (.int i) (.dct ks) (lookD ks i).isSome := ⟨_, op_inD (by have := C.units; omega), fun S Γ σ H0 H v u en h1 h2 Q q => by
  cases h1
  obtain ⟨p, o, rfl, g, ho⟩ := dget_of (i := i) en h2
  exact ⟨p, o, rfl, g, by rw [isSome_of ho]; exact q _ _ (pst_bl en)⟩⟩
theorem c_ninD {i : Int} {ks : List (Int × Dt)} (C : Cxt X) : Cop X .NotIn (.int i) (.dct ks) (!(lookD ks i).isSome) := ⟨_, op_ninD (by have := C.units; omega), fun S Γ σ H0 H v u en h1 h2 Q q => by
  cases h1
  obtain ⟨p, o, rfl, g, ho⟩ := dget_of (i := i) en h2
  exact ⟨p, o, rfl, g, by rw [isSome_of ho]; exact q _ _ (pst_bl en)⟩⟩
theorem ix_dict {X : Cx} (hu : X.A.units + 1 < cLine) : IxR X (fun x y H Q => ∃ a v, x = .ref a ∧ DGet H a y (some v) ∧ Q v H) := by
  intro value slice pins s σ H x y v u Q I rx ry h hs
  obtain ⟨a, w, rfl, g, q⟩ := h
  cases rx
  have hT := dict_typeIs I g
  unfold PyProof.Rows.subscriptTail
  refine wpAny_bind ?_
  rw [getitemInPython_of_ne hT.not_modules]
  refine wpAny_bind (wpAny_specialOf hT PySem.F.slot_dict_getitem.lookup ?_)
  have fin : wpAny (model X.prog X.w) X.A (subscripted slice false (.ref a) u) (fun r s₃ => wpAny (model X.prog X.w) X.A (letTemporaryGo value (.ref a) r >>= fun _ => pure r) (EP X pins σ Q) X.xe s₃) X.xe s := by
    rw [hs]
    exact wpAny_operating (wpAny_mono (d_getItem (E := X.xe) (Q := EP X pins σ Q) hu I g ry fun w' s3 I3 rw' => ⟨w, H, I3, rw', q⟩) (fun r s₃ h₃ => wpAny_bind (wpAny_letTemporaryGo (wpAny_pure h₃))) fun _ _ x => x)
  first
    | exact wpAny_pure (wpAny_bind fin)
    | exact wpAny_bind (wpAny_pure (wpAny_bind fin))
    | exact wpAny_bind fin
/-! ### items -/
def Iop (X : Cx) (x y z : Dt) : Prop := ∃ r, IxR X r ∧ Rv X r x y z
theorem ev_idx (hs : PlainIx b) (ha : Ev X S Γ a x Γ1) (hb : Ev X S Γ1 b y Γ2) (ho : Iop X x y z) : Ev X S Γ (.Subscript a b pos) z Γ2 := by
  obtain ⟨r, ho, hr⟩ := ho
  exact .mk fun σ H0 H en => s_e (pe_ix ho pe_s pe_s hs) (m_e (ha.run σ H0 H en) fun v H1 ⟨H01, e1, en1, d1⟩ => m_e (hb.run σ H01 H1 en1) fun u H2 ⟨H02, e2, en2, d2⟩ =>
    hr S Γ2 σ H02 H2 v u en2 (d1.mono e2) d2 _ fun w H3 ⟨H03, e3, en3, d3⟩ => ⟨H03, (e1.trans e2).trans e3, en3, d3⟩)
theorem i_dct {i : Int} {ks : List (Int × Dt)} (C : Cxt X) (h : lookD ks i = some d) : Iop X (.dct ks) (.int i) d := ⟨_, ix_dict (by have := C.units; omega), fun S Γ σ H0 H v u en h1 h2 Q q => by
  cases h2
  obtain ⟨p, o, rfl, g, ho⟩ := dget_of (i := i) en h1
  rcases ho with ⟨_, h'⟩ | ⟨v, d', rfl, h', r⟩
  · rw [h] at h'; cases h'
  · rw [h] at h'; cases h'
    exact ⟨p, v, rfl, g, q _ _ ⟨H0, Ex.refl _, en, r⟩⟩⟩
theorem atI_dr {K : PySem.W.Frag} {H : Hp} {vs : List V} {ds : List Dt} {i : Int} (r : Drs K H vs ds) (h : atI ds i = some d) : ∃ v, atI vs i = some v ∧ Dr K H v d := by
  unfold atI at h ⊢
  rw [r.length]
  cases q : ixN ds.length i with
  | none => rw [q] at h; cases h
  | some j =>
    rw [q] at h
    obtain ⟨v, h1, h2⟩ := r.get (i := j) h
    exact ⟨v, h1, h2⟩
theorem i_lst {i : Int} (h : atI ds i = some d) : Iop X (.lst ds) (.int i) d := ⟨_, ix_list, fun S Γ σ H0 H v u en h1 h2 Q q => by
  cases h2
  cases h1 with
  | @lst a xs _ h0 r =>
    obtain ⟨v, h3, h4⟩ := atI_dr r h
    exact ⟨a, xs, i, v, rfl, rfl, .inl (.inl (en.sub _ _ h0)), h3, q _ _ ⟨H0, Ex.refl _, en, h4⟩⟩⟩
theorem i_tup {i : Int} (h : atI ds i = some d) : Iop X (.tup ds) (.int i) d := ⟨_, ix_tup, fun S Γ σ H0 H v u en h1 h2 Q q => by
  cases h2
  cases h1 with
  | @tup a xs _ h0 r =>
    obtain ⟨v, h3, h4⟩ := atI_dr r h
    exact ⟨a, xs, i, v, rfl, rfl, .inl (.inl (en.sub _ _ h0)), h3, q _ _ ⟨H0, Ex.refl _, en, h4⟩⟩⟩
theorem atI_map {α β : Type} (f : α → β) (xs : List α) (i : Int) : atI (xs.map f) i = (atI xs i).map f := by
  unfold atI
  rw [List.length_map]
  cases ixN xs.length i with
  | none => rfl
  | some j => exact List.getElem?_map ..
theorem i_scr {i n : Int} {ns : List Int} (h : atI ns i = some n) : Iop X (.scr ns) (.int i) (.int n) := ⟨_, ix_list, fun S Γ σ H0 H v u en h1 h2 Q q => by
  cases h2
  cases h1 with
  | @scr a _ h0 => exact ⟨a, _, i, .int n, rfl, rfl, en.sub.seq h0, by rw [atI_map, h]; rfl, q _ _ (pst_int en)⟩⟩
/-- an item of an own list -/
theorem ev_idxO {n : Str} {i : Nat} {f : Option Addr} {p : Pos} {j : Int} (hs : PlainIx b) (hn : Nam X n i) (hg : cg Γ i = some (.own f ds)) (hb : Ev X S Γ b (.int j) Γ) (h : atI ds j = some d) : Ev X S Γ (.Subscript (.Name n p) b pos) d Γ := .mk fun σ H0 H en => by
  obtain ⟨o, h1, k⟩ := en.cells i _ hg
  obtain ⟨A, xs, rfl, _⟩ := k
  refine s_e (pe_ix ix_list (pe_var hn.ix hn.vis hn.d1 hn.d2) pe_s hs) ⟨.ref A, h1, m_e (hb.run σ H0 H en) fun u H2 ⟨H02, e2, en2, d2⟩ => ?_⟩
  cases d2
  obtain ⟨o', h1', k'⟩ := en2.cells i _ hg
  obtain ⟨A', xs', e', h0', hS', hf', hH', r'⟩ := k'
  rw [h1] at h1'
  have ea : A = A' := by
    have := Option.some.inj h1'
    rw [← this] at e'
    exact V.ref.inj (Option.some.inj e')
  subst ea
  obtain ⟨v, h3, h4⟩ := atI_dr r' h
  exact ⟨A, xs', j, v, rfl, rfl, .inl (.inl hH'), h3, H02, e2, en2, h4⟩
/-! ### flat answers by the frozen environment -/
def Dt.flat : Dt → Bool
  | .non => true
  | .bl _ => true
  | .int _ => true
  | .str _ => true
  | _ => false
def frzC : Cell → Cell
  | .own _ ds => .val (.lst ds)
  | .ownD ks => .val (.dct ks)
  | .ownT _ => .no
  | c => c
def frz : Ct → Ct
  | [] => []
  | c :: r => frzC c :: frz r
theorem frz_cg : ∀ (Γ : Ct) (i : Nat), cg (frz Γ) i = (cg Γ i).map frzC
  | [], _ => rfl
  | _ :: _, 0 => rfl
  | _ :: r, i + 1 => frz_cg r i
theorem frz_len : ∀ (Γ : Ct), (frz Γ).length = Γ.length
  | [] => rfl
  | _ :: r => by rw [frz, List.length_cons, List.length_cons, frz_len r]
theorem frzC_own (c : Cell) : (frzC c).isOwn = false := by cases c <;> rfl
theorem En.frozen {K : PySem.W.Frag} {S : Bs} {H0 H : Hp} {σ : L2.St} (en : En K S H0 H σ Γ) : En K ⟨H, fun _ => False⟩ H H σ (frz Γ) := by
  refine ⟨Ex.refl _, Ex.refl _, fun _ f => f.elim, by rw [frz_len]; exact en.len, fun i c hc => ?_, fun i j c d a h1 h2 o1 o2 s1 s2 => ?_⟩
  · rw [frz_cg] at hc
    cases q : cg Γ i with
    | none => rw [q] at hc; cases hc
    | some c' =>
      rw [q] at hc
      cases hc
      obtain ⟨o, h1, k⟩ := en.cells i _ q
      refine ⟨o, h1, ?_⟩
      cases c' with
      | no => trivial
      | val d => obtain ⟨v, e, r⟩ := k; exact ⟨v, e, r.mono en.sub⟩
      | own b ds => obtain ⟨a, xs, e, _, _, _, h, r⟩ := k; exact ⟨.ref a, e, .lst h (r.mono en.sub)⟩
      | ownD ks => obtain ⟨a, xs, e, _, _, _, h, r⟩ := k; exact ⟨.ref a, e, .dct h (r.mono en.sub)⟩
      | ownT ks => trivial
  · rw [frz_cg] at h1
    cases q : cg Γ i with
    | none => rw [q] at h1; cases h1
    | some c' => rw [q] at h1; cases h1; rw [frzC_own] at o1; cases o1
theorem flat_dr {K : PySem.W.Frag} {H H' : Hp} {v : V} {d : Dt} (hd : d.flat = true) (h : Dr K H v d) : Dr K H' v d := by
  cases h <;> first | exact .non | exact .bl _ | exact .int _ | exact .str _ | cases hd
theorem ev_flat (h : ∀ S', Ev X S' (frz Γ) e d (frz Γ)) (hd : d.flat = true) : Ev X S Γ e d Γ := .mk fun σ H0 H en =>
  m_e ((h _).run σ H H en.frozen) fun v H1 ⟨H01, e1, en1, r⟩ => ⟨H0, Ex.refl _, en.grow (Ex.refl _) en1.bas (en.sub.trans en1.bas) (fun a h h0 => absurd h0 h), flat_dr hd r⟩
theorem tst_flat {c : Bool} (h : ∀ S', Tst X S' (frz Γ) e c (frz Γ)) : Tst X S Γ e c Γ := .mk fun σ H0 H en =>
  m_t ((h _).run σ H H en.frozen) fun v H1 ⟨q, H01, e1, en1⟩ => ⟨q, H0, Ex.refl _, en.grow (Ex.refl _) en1.bas (en.sub.trans en1.bas) (fun a h h0 => absurd h0 h)⟩
end
end Fl
namespace Fl
open PySem L2

section
variable {X : Cx} {S : Bs} {Γ Γ1 Γ2 Γ3 : Ct} {a b e : Expr} {x y z d : Dt} {pos : Pos} {D : Pd} {ds es : List Dt}
/-! ### built-ins -/
theorem bf_b {n id : String} {r : List V → Hp → VK → Prop} {ds : List Dt} {z : Dt} (hv : bootBuiltins (Str.ofString n) = some (.builtin id)) (hc : CallR X (.builtin id) r) (hk : Kv X r ds z) (h1 : Str.ofString n ≠ "__name__" := by decide +kernel) (h2 : (Str.ofString n == ("__debug__" : Str)) = false := by decide +kernel) : Bfn X (Str.ofString n) ds z :=
  ⟨r, .inl ⟨id, hv, hc⟩, hk, h1, h2⟩
theorem bf_t {n id : String} {r : List V → Hp → VK → Prop} {ds : List Dt} {z : Dt} (hv : bootBuiltins (Str.ofString n) = some (.type id)) (hc : CallR X (.type id) r) (hk : Kv X r ds z) (h1 : Str.ofString n ≠ "__name__" := by decide +kernel) (h2 : (Str.ofString n == ("__debug__" : Str)) = false := by decide +kernel) : Bfn X (Str.ofString n) ds z :=
  ⟨r, .inr ⟨id, hv, hc⟩, hk, h1, h2⟩
theorem bfn_b {n id : String} {r : List V → Hp → VK → Prop} {ds zs : List Dt} (hv : bootBuiltins (Str.ofString n) = some (.builtin id)) (hc : CallR X (.builtin id) r) (hk : KvN X r ds zs) (h1 : Str.ofString n ≠ "__name__" := by decide +kernel) (h2 : (Str.ofString n == ("__debug__" : Str)) = false := by decide +kernel) : BfnN X (Str.ofString n) ds zs :=
  ⟨r, .inl ⟨id, hv, hc⟩, hk, h1, h2⟩
theorem bfn_t {n id : String} {r : List V → Hp → VK → Prop} {ds zs : List Dt} (hv : bootBuiltins (Str.ofString n) = some (.type id)) (hc : CallR X (.type id) r) (hk : KvN X r ds zs) (h1 : Str.ofString n ≠ "__name__" := by decide +kernel) (h2 : (Str.ofString n == ("__debug__" : Str)) = false := by decide +kernel) : BfnN X (Str.ofString n) ds zs :=
  ⟨r, .inr ⟨id, hv, hc⟩, hk, h1, h2⟩
theorem dr1 {K : PySem.W.Frag} {H : Hp} {vs : List V} (r : Drs K H vs [x]) : ∃ v, vs = [v] ∧ Dr K H v x := by
  cases r with
  | cons h q => cases q; exact ⟨_, rfl, h⟩
theorem dr2 {K : PySem.W.Frag} {H : Hp} {vs : List V} (r : Drs K H vs [x, y]) : ∃ v u, vs = [v, u] ∧ Dr K H v x ∧ Dr K H u y := by
  cases r with
  | cons h q =>
    obtain ⟨u, rfl, h2⟩ := dr1 q
    exact ⟨_, u, rfl, h, h2⟩
theorem bf_lenL : Bfn X "len" [.lst ds] (.int (ds.length : Int)) := bf_b PySem.boot_len call_len_seq fun S Γ σ H0 H vs en r hL Q q => by
  obtain ⟨v, rfl, h⟩ := dr1 r
  cases h with
  | @lst p xs _ h0 r => exact ⟨p, xs, rfl, .inl (.inl (.inl (en.sub _ _ h0))), by rw [r.length]; exact q _ _ (pst_int en)⟩
theorem bf_lenT : Bfn X "len" [.tup ds] (.int (ds.length : Int)) := bf_b PySem.boot_len call_len_seq fun S Γ σ H0 H vs en r hL Q q => by
  obtain ⟨v, rfl, h⟩ := dr1 r
  cases h with
  | @tup p xs _ h0 r => exact ⟨p, xs, rfl, .inr (.inl (.inl (en.sub _ _ h0))), by rw [r.length]; exact q _ _ (pst_int en)⟩
theorem bf_lenC {ns : List Int} : Bfn X "len" [.scr ns] (.int (ns.length : Int)) := bf_b PySem.boot_len call_len_seq fun S Γ σ H0 H vs en r hL Q q => by
  obtain ⟨v, rfl, h⟩ := dr1 r
  cases h with
  | @scr p _ h0 => exact ⟨p, _, rfl, .inl (en.sub.seq h0), by rw [List.length_map]; exact q _ _ (pst_int en)⟩
theorem bf_lenS {z : Str} (hz : z.length ≤ sizeLine) : Bfn X "len" [.str z] (.int (z.length : Int)) := bf_b PySem.boot_len call_len_str fun S Γ σ H0 H vs en r hL Q q => by
  obtain ⟨v, rfl, h⟩ := dr1 r
  cases h
  exact ⟨z, rfl, hz, q _ _ (pst_int en)⟩
theorem bf_abs {i : Int} : Bfn X "abs" [.int i] (.int (i.natAbs : Int)) := bf_b PyProof.Rows.boot_abs call_abs fun S Γ σ H0 H vs en r hL Q q => by
  obtain ⟨v, rfl, h⟩ := dr1 r
  cases h
  refine ⟨i, rfl, ?_⟩
  have : (if i < 0 then -i else i) = (i.natAbs : Int) := by split <;> omega
  rw [this]
  exact q _ _ (pst_int en)
def b2z (b : Bool) : Int := if b then 1 else 0
theorem bf_intB {k : Bool} : Bfn X "int" [.bl k] (.int (b2z k)) := bf_t PyProof.Rows.boot_int call_int1 fun S Γ σ H0 H vs en r hL Q q => by
  obtain ⟨v, rfl, h⟩ := dr1 r
  cases h
  exact .inr ⟨k, rfl, q _ _ (pst_int en)⟩
theorem bf_all (C : Cxt X) {bs : List Bool} : Bfn X "all" [.lst (bs.map .bl)] (.bl (bs.all id)) := bf_b PyProof.Rows.boot_all (cr_all C.calm) fun S Γ σ H0 H vs en r hL Q q => by
  obtain ⟨v, rfl, h⟩ := dr1 r
  cases h with
  | @lst p xs _ h0 r => rw [r.bls] at h0; exact ⟨p, bs, rfl, .inl (.inl (en.sub _ _ h0)), q _ _ (pst_bl en)⟩
theorem bf_any (C : Cxt X) {bs : List Bool} : Bfn X "any" [.lst (bs.map .bl)] (.bl (bs.any id)) := bf_b PyProof.Rows.boot_any (cr_any C.calm) fun S Γ σ H0 H vs en r hL Q q => by
  obtain ⟨v, rfl, h⟩ := dr1 r
  cases h with
  | @lst p xs _ h0 r => rw [r.bls] at h0; exact ⟨p, bs, rfl, .inl (.inl (en.sub _ _ h0)), q _ _ (pst_bl en)⟩
theorem bf_max (C : Cxt X) {ns : List Int} {m : Int} (hm : m ∈ ns) (hle : ∀ y ∈ ns, y ≤ m) : Bfn X "max" [.lst (ns.map .int)] (.int m) := bf_b PyProof.Rows.boot_max (cr_max C.calm) fun S Γ σ H0 H vs en r hL Q q => by
  obtain ⟨v, rfl, h⟩ := dr1 r
  cases h with
  | @lst p xs _ h0 r =>
    rw [r.ints] at h0
    refine ⟨p, ns, rfl, .inl (.inl (en.sub _ _ h0)), List.length_pos_of_mem hm, fun m' h1 h2 => ?_⟩
    have : m' = m := Int.le_antisymm (hle _ h1) (h2 _ hm)
    rw [this]; exact q _ _ (pst_int en)
theorem bf_min (C : Cxt X) {ns : List Int} {m : Int} (hm : m ∈ ns) (hle : ∀ y ∈ ns, m ≤ y) : Bfn X "min" [.lst (ns.map .int)] (.int m) := bf_b PyProof.Rows.boot_min (cr_min C.calm) fun S Γ σ H0 H vs en r hL Q q => by
  obtain ⟨v, rfl, h⟩ := dr1 r
  cases h with
  | @lst p xs _ h0 r =>
    rw [r.ints] at h0
    refine ⟨p, ns, rfl, .inl (.inl (en.sub _ _ h0)), List.length_pos_of_mem hm, fun m' h1 h2 => ?_⟩
    have : m' = m := Int.le_antisymm (h2 _ hm) (hle _ h1)
    rw [this]; exact q _ _ (pst_int en)
theorem bfn_listL : BfnN X "list" [.lst ds] ds := bfn_t PyProof.Rows.boot_list call_list_of fun S Γ σ H0 H vs en r hL Q q => by
  obtain ⟨v, rfl, h⟩ := dr1 r
  cases h with
  | @lst p xs _ h0 r => exact ⟨p, xs, rfl, .inl (.inl (.inl (en.sub _ _ h0))), fun l hl => q _ _ (nst_new en hl r)⟩
theorem bfn_listT : BfnN X "list" [.tup ds] ds := bfn_t PyProof.Rows.boot_list call_list_of fun S Γ σ H0 H vs en r hL Q q => by
  obtain ⟨v, rfl, h⟩ := dr1 r
  cases h with
  | @tup p xs _ h0 r => exact ⟨p, xs, rfl, .inr (.inl (.inl (en.sub _ _ h0))), fun l hl => q _ _ (nst_new en hl r)⟩
theorem bf_tupL : Bfn X "tuple" [.lst ds] (.tup ds) := bf_t PyProof.Rows.boot_tuple call_tuple_of fun S Γ σ H0 H vs en r hL Q q => by
  obtain ⟨v, rfl, h⟩ := dr1 r
  cases h with
  | @lst p xs _ h0 r => exact ⟨p, xs, rfl, .inl ⟨.inl (.inl (en.sub _ _ h0)), fun l hl => q _ _ (pst_new en hl (.tup upd_same (r.mono (Ex.upd (en.sub.back hl)))))⟩⟩
theorem bf_tupT : Bfn X "tuple" [.tup ds] (.tup ds) := bf_t PyProof.Rows.boot_tuple call_tuple_of fun S Γ σ H0 H vs en r hL Q q => by
  obtain ⟨v, rfl, h⟩ := dr1 r
  cases h with
  | @tup p xs _ h0 r => exact ⟨p, xs, rfl, .inr ⟨.inl (.inl (en.sub _ _ h0)), q _ _ ⟨H0, Ex.refl _, en, .tup h0 r⟩⟩⟩
/-- sorted ints -/
def srt (ns : List Int) : List Int := ns.mergeSort (fun a b => decide (a ≤ b))
theorem srt_perm (ns : List Int) : (srt ns).Perm ns := List.mergeSort_perm ns _
theorem srt_pair (ns : List Int) : (srt ns).Pairwise (· ≤ ·) := by
  have h := List.pairwise_mergeSort (le := fun a b : Int => decide (a ≤ b)) (fun a b c h1 h2 => by simp at *; omega) (fun a b => by simp; omega) ns
  exact h.imp fun h => by simpa using h
theorem srt_uniq {ns ms : List Int} (p : ms.Perm ns) (s : ms.Pairwise (· ≤ ·)) : ms = srt ns :=
  List.Perm.eq_of_pairwise (fun a b _ _ h1 h2 => Int.le_antisymm h1 h2) s (srt_pair ns) (p.trans (srt_perm ns).symm)
theorem bfn_sortI {ns : List Int} : BfnN X "sorted" [.lst (ns.map .int)] ((srt ns).map .int) := bfn_b PyProof.Rows.boot_sorted cr_sortedI fun S Γ σ H0 H vs en r hL Q q => by
  obtain ⟨v, rfl, h⟩ := dr1 r
  cases h with
  | @lst p xs _ h0 r =>
    rw [r.ints] at h0
    exact ⟨p, ns, rfl, .inl (.inl (en.sub _ _ h0)), fun ns' l hp hs hl => q _ _ (by rw [← srt_uniq hp hs]; exact nst_new en hl (Drs.of_ints _))⟩
/-- str(n) -/
theorem bf_str {i : Int} (h : i.natAbs.log2 < 1920) : Bfn X "str" [.int i] (.str (toString i)) := bf_t PyProof.Rows.boot_str call_str_int fun S Γ σ H0 H vs en r hL Q q => by
  obtain ⟨v, rfl, h⟩ := dr1 r
  cases h
  exact ⟨i, rfl, h, q _ _ (pst_str en)⟩
/-! ### isinstance -/
def tyD : Dt → String
  | .non => "NoneType"
  | .bl _ => "bool"
  | .int _ => "int"
  | .str _ => "str"
  | .lst _ => "list"
  | .tup _ => "tuple"
  | .dct _ => "dict"
  | _ => ""
theorem tyx_of {K : PySem.W.Frag} {H0 H : Hp} {v : V} (e : Ex H0 H) (h : Dr K H0 v x) (hx : tyD x ≠ "") : TyX K H v (.type (tyD x)) := by
  cases h with
  | non => exact .base .non
  | bl b => exact .base (.bl b)
  | int i => exact .base (.int i)
  | str i => exact .base (.str i)
  | lst h _ => exact .base (.lst (e _ _ h))
  | tup h _ => exact .base (.tup (e _ _ h))
  | dct h _ => exact .base (.dK (e _ _ h))
  | scr _ => exact absurd rfl hx
  | ty _ => exact absurd rfl hx
  | dcl _ _ => exact absurd rfl hx
  | adr _ => exact absurd rfl hx
theorem bf_isi {n : String} {k : Bool} (hx : tyD x ≠ "") (h : kitB (tyD x) n = some k) : Bfn X "isinstance" [x, .ty n] (.bl k) := bf_b PyProof.Rows.boot_isinstance call_isi fun S Γ σ H0 H vs en r hL Q q => by
  obtain ⟨v, u, rfl, h1, h2⟩ := dr2 r
  cases h2
  exact ⟨v, .ty n, _, _, k, rfl, .ty n, tyx_of en.sub h1 hx, kit_ty h, q _ _ (pst_bl en)⟩
theorem ev_ty {n m : String} (B : Blt X (Str.ofString n)) (hv : bootBuiltins (Str.ofString n) = some (.type m)) (h1 : Str.ofString n ≠ "__name__" := by decide +kernel) (h2 : (Str.ofString n == ("__debug__" : Str)) = false := by decide +kernel) : Ev X S Γ (.Name (Str.ofString n) pos) (.ty m) Γ := .mk fun σ H0 H en =>
  s_e (pe_bltn (v := .ty m) B.gl B.mg hv rfl h1 h2) ⟨H0, Ex.refl _, en, .ty m⟩
/-! ### operators on lists, tuples, texts -/
theorem bn_catL (hz : ds.length + es.length ≤ sizeLine) : BopN X .Add (.lst ds) (.lst es) (ds ++ es) := ⟨_, op_cat, fun S Γ σ H0 H v u en h1 h2 Q q => by
  cases h1 with
  | @lst a xs _ ha r1 => cases h2 with
    | @lst b ys _ hb r2 => exact ⟨a, b, xs, ys, rfl, rfl, en.sub _ _ ha, en.sub _ _ hb, by rw [r1.length, r2.length]; exact hz, fun p hp => q _ _ (nst_new en hp (r1.append r2))⟩⟩
theorem flat_rep {K : PySem.W.Frag} {H : Hp} {vs : List V} (r : Drs K H vs ds) : ∀ k : Nat, Drs K H (List.replicate k vs).flatten (List.replicate k ds).flatten
  | 0 => .nil
  | k + 1 => by rw [List.replicate_succ, List.replicate_succ, List.flatten_cons, List.flatten_cons]; exact r.append (flat_rep r k)
theorem bn_rep {k : Int} (h1 : -(2 ^ 63) ≤ k) (h2 : k < 2 ^ 63) (hz : ds.length * k.toNat ≤ sizeLine) : BopN X .Mult (.lst ds) (.int k) (List.replicate k.toNat ds).flatten := ⟨_, op_rep, fun S Γ σ H0 H v u en g1 g2 Q q => by
  cases g2
  cases g1 with
  | @lst a xs _ ha r1 => exact ⟨a, k, xs, rfl, rfl, en.sub _ _ ha, h1, h2, by rw [r1.length]; exact hz, fun p hp => q _ _ (nst_new en hp (flat_rep r1 _))⟩⟩
theorem b_catT (hz : ds.length + es.length ≤ sizeLine) : Bop X .Add (.tup ds) (.tup es) (.tup (ds ++ es)) := ⟨_, op_catA, fun S Γ σ H0 H v u en h1 h2 Q q => by
  cases h1 with
  | @tup a xs _ ha r1 => cases h2 with
    | @tup b ys _ hb r2 =>
      refine ⟨a, b, xs, ys, rfl, rfl, .inl (.inl (en.sub _ _ ha)), .inl (.inl (en.sub _ _ hb)), by rw [r1.length, r2.length]; exact hz, fun e => ?_, fun _ e => ?_, fun _ _ p hp => q _ _ (pst_new en hp (.tup upd_same ((r1.append r2).mono (Ex.upd (en.sub.back hp)))))⟩
      · subst e; cases r1; exact q _ _ ⟨H0, Ex.refl _, en, .tup hb r2⟩
      · subst e; cases r2; rw [List.append_nil] at q; exact q _ _ ⟨H0, Ex.refl _, en, .tup ha r1⟩⟩
theorem b_catS {i j : Str} (hz : i.length + j.length ≤ sizeLine) : Bop X .Add (.str i) (.str j) (.str (i ++ j)) := ⟨_, op_add_str, fun S Γ σ H0 H v u en h1 h2 Q q => by
  cases h1; cases h2
  exact ⟨i, j, rfl, rfl, hz, q _ _ (pst_str en)⟩⟩
/-! ### slices -/
def Eo (X : Cx) (S : Bs) (Γ : Ct) (e : Option Expr) (o : Option Int) : Prop := match e with
  | none => o = none
  | some e => ∃ i, o = some i ∧ Ev X S Γ e (.int i) Γ
theorem eo_none : Eo X S Γ none none := rfl
theorem eo_some {i : Int} (h : Ev X S Γ e (.int i) Γ) : Eo X S Γ (some e) (some i) := ⟨i, rfl, h⟩
def sO (X : Cx) (e : Option Expr) : TO := match e with
  | none => tNoPart
  | some e => tPart (sE X e)
theorem po_s {e : Option Expr} : PO X e (sO X e) := by
  cases e with
  | none => exact po_none
  | some e => exact po_some pe_s
theorem sO_run {e : Option Expr} {o : Option Int} (h : Eo X S Γ e o) {σ : L2.St} {H0 H : Hp} (en : En X.K S H0 H σ Γ) {Q : Option Int → Hp → Prop} (q : ∀ H0' H', Ex H0 H0' → En X.K S H0' H' σ Γ → Q o H') : sO X e σ H Q := by
  cases e with
  | none => cases h; exact q H0 H (Ex.refl _) en
  | some e =>
    obtain ⟨i, rfl, h⟩ := h
    exact m_e (h.run σ H0 H en) fun v H1 ⟨H01, e1, en1, r⟩ => by cases r; exact ⟨i, rfl, q _ _ e1 en1⟩
def cutD {α : Type} (xs : List α) (lo hi : Option Int) : List α := (xs.drop (HT.sIx xs.length 0 lo)).take (HT.sIx xs.length xs.length hi - HT.sIx xs.length 0 lo)
theorem cut_dr {K : PySem.W.Frag} {H : Hp} {vs : List V} (r : Drs K H vs ds) (lo hi : Option Int) : Drs K H (cutV vs lo hi) (cutD ds lo hi) := by
  unfold cutV cutD
  rw [r.length]
  exact (r.drop _).take _
theorem evn_slL {lo hi : Option Expr} {l h : Option Int} {p2 : Pos} (ha : Ev X S Γ a (.lst ds) Γ1) (hl : Eo X S Γ1 lo l) (hh : Eo X S Γ1 hi h) : EvN X S Γ (.Subscript a (.Slice lo hi none p2) pos) (cutD ds l h) Γ1 := .mk fun σ H0 H en =>
  s_e (pe_slice sl_list pe_s po_s po_s) (m_e (ha.run σ H0 H en) fun v H1 ⟨H01, e1, en1, r⟩ => sO_run hl en1 fun H02 H2 e2 en2 => sO_run hh en2 fun H03 H3 e3 en3 => by
    cases r with
    | @lst p xs _ h0 r =>
      refine ⟨p, xs, rfl, .inl (.inl (en3.sub _ _ (e3 _ _ (e2 _ _ h0)))), fun l hl => ?_⟩
      obtain ⟨H04, A, ys, e4, q⟩ := nst_new en3 hl ((cut_dr r _ _).mono (e2.trans e3))
      exact ⟨H04, A, ys, ((e1.trans e2).trans e3).trans e4, q⟩)
theorem ev_slT {lo hi : Option Expr} {l h : Option Int} {p2 : Pos} (ha : Ev X S Γ a (.tup ds) Γ1) (hl : Eo X S Γ1 lo l) (hh : Eo X S Γ1 hi h) : Ev X S Γ (.Subscript a (.Slice lo hi none p2) pos) (.tup (cutD ds l h)) Γ1 := .mk fun σ H0 H en =>
  s_e (pe_slice sl_tupA pe_s po_s po_s) (m_e (ha.run σ H0 H en) fun v H1 ⟨H01, e1, en1, r⟩ => sO_run hl en1 fun H02 H2 e2 en2 => sO_run hh en2 fun H03 H3 e3 en3 => by
    have e13 := (e1.trans e2).trans e3
    cases r with
    | @tup p xs _ h0 r =>
      refine ⟨p, xs, rfl, .inl (.inl (en3.sub _ _ (e3 _ _ (e2 _ _ h0)))), fun hw => ?_, fun _ l hl => ?_⟩
      · refine ⟨H03, e13, en3, .tup (e3 _ _ (e2 _ _ h0)) ?_⟩
        have : cutD ds l h = ds := by
          unfold cutD
          rw [← r.length, hw.1, hw.2, List.drop_zero, Nat.sub_zero, r.length, List.take_length]
        rw [this]
        exact r.mono (e2.trans e3)
      · obtain ⟨H04, e4, q⟩ := pst_new (d := .tup (cutD ds _ _)) en3 hl (.tup upd_same (((cut_dr r _ _).mono (e2.trans e3)).mono (Ex.upd (en3.sub.back hl))))
        exact ⟨H04, e13.trans e4, q⟩)
theorem evn_rev {k : Nat} {p1 p2 p3 : Pos} (ha : Ev X S Γ a (.lst ds) Γ1) : EvN X S Γ (.Subscript a (.Slice none none (some (.UnaryOp .USub (.Constant (.int 1) k p1) p2)) p3) pos) ds.reverse Γ1 := .mk fun σ H0 H en =>
  s_e (pe_revL pe_s) (m_e (ha.run σ H0 H en) fun v H1 ⟨H01, e1, en1, r⟩ => by
    cases r with
    | @lst p xs _ h0 r =>
      refine ⟨p, xs, rfl, .inl (.inl (en1.sub _ _ h0)), fun l hl => ?_⟩
      obtain ⟨H04, A, ys, e4, q⟩ := nst_new en1 hl r.reverse
      exact ⟨H04, A, ys, e1.trans e4, q⟩)
/-! ### own lists are changed -/
theorem own_now {K : PySem.W.Frag} {σ : L2.St} {H0 H H0' H' : Hp} {i : Nat} {f : Option Addr} {ds' : List Dt} {A : Addr} (en : En K S H0 H σ Γ) (hx : σ[i]? = some (some (.ref A))) (hg : cg Γ i = some (.own f ds)) : ∃ xs, H0 A = none ∧ S.Hs A = none ∧ Oat S A f ∧ H A = some (.lst xs) ∧ Drs K H0 xs ds := by
  obtain ⟨o, h1, a, xs, e, h0, hS, hf, hH, r⟩ := en.cells i _ hg
  rw [hx] at h1
  have := Option.some.inj h1
  rw [← this] at e
  have ea : A = a := V.ref.inj (Option.some.inj e)
  subst ea
  exact ⟨xs, h0, hS, hf, hH, r⟩
theorem ev_app {n : Str} {i : Nat} {f : Option Addr} {p p2 : Pos} (hs : starEach [e] X.env = [(false, eval e X.env)]) (hfew : ((backTo pos (starEach [e] X.env)).all (fun x => !x.1) && (backToKw pos (keywordEach [] X.env)).all (fun x => x.1.isSome) && decide ([e].length + ([] : List Keyword).length + (if ([] : List Keyword).isEmpty then 0 else 1) < 30)) = true) (hline : (p2.endLine == pos.line) = true) (hn : Nam X n i) (hg : cg Γ i = some (.own f ds)) (h : Ev X S Γ e d Γ1) (hg1 : cg Γ1 i = some (.own f es)) (hz : es.length < sizeLine) (hp : cp Γ1 i (.own f (es ++ [d])) = Γ2) : Ev X S Γ (.Call (.Attribute (.Name n p) "append" p2) [e] [] pos) .non Γ2 := .mk fun σ H0 H en => by
  obtain ⟨o, h1, A, xs, rfl, h0, hS, hf, hH, r⟩ := en.cells i _ hg
  refine s_e (pe_bm PySem.F.plainAttrs_list PySem.F.slot_list_append PySem.F.type_list_append mt_append (pe_var hn.ix hn.vis hn.d1 hn.d2) (pa_cons pe_s pa_nil hs) rfl hfew hline hs rfl) ⟨.ref A, h1, .inl ⟨rfl, _, .inl (.inl hH)⟩, m_e (h.run σ H0 H en) fun v H1 ⟨H01, e1, en1, rv⟩ => ?_⟩
  obtain ⟨ys, h0', hS', hf', hH', r'⟩ := own_now (H0' := H0) (H' := H) (ds' := []) en1 h1 hg1
  refine ⟨A, ys, v, rfl, rfl, hH', by rw [r'.length]; exact hz, H01, e1, ?_, .non⟩
  rw [← hp]
  exact en1.mut hg1 rfl rfl h1 ⟨A, _, rfl, h0', hS', hf', upd_same, r'.snoc rv⟩
theorem ev_ext {n : Str} {i : Nat} {f : Option Addr} {p p2 : Pos} {zs : List Dt} (hs : starEach [e] X.env = [(false, eval e X.env)]) (hfew : ((backTo pos (starEach [e] X.env)).all (fun x => !x.1) && (backToKw pos (keywordEach [] X.env)).all (fun x => x.1.isSome) && decide ([e].length + ([] : List Keyword).length + (if ([] : List Keyword).isEmpty then 0 else 1) < 30)) = true) (hline : (p2.endLine == pos.line) = true) (hn : Nam X n i) (hg : cg Γ i = some (.own f ds)) (h : Ev X S Γ e (.lst zs) Γ1) (hg1 : cg Γ1 i = some (.own f es)) (hz : es.length + zs.length ≤ sizeLine) (hp : cp Γ1 i (.own f (es ++ zs)) = Γ2) : Ev X S Γ (.Call (.Attribute (.Name n p) "extend" p2) [e] [] pos) .non Γ2 := .mk fun σ H0 H en => by
  obtain ⟨o, h1, A, xs, rfl, h0, hS, hf, hH, r⟩ := en.cells i _ hg
  refine s_e (pe_bm PySem.F.plainAttrs_list PySem.F.slot_list_extend PySem.F.type_list_extend mt_extend (pe_var hn.ix hn.vis hn.d1 hn.d2) (pa_cons pe_s pa_nil hs) rfl hfew hline hs rfl) ⟨.ref A, h1, .inl ⟨rfl, _, .inl (.inl hH)⟩, m_e (h.run σ H0 H en) fun v H1 ⟨H01, e1, en1, rv⟩ => ?_⟩
  obtain ⟨ys, h0', hS', hf', hH', r'⟩ := own_now (H0' := H0) (H' := H) (ds' := []) en1 h1 hg1
  cases rv with
  | @lst b ws _ hb rb =>
    refine ⟨A, b, ys, ws, rfl, rfl, hH', en1.sub _ _ hb, by rw [r'.length, rb.length]; exact hz, H01, e1, ?_, .non⟩
    rw [← hp]
    exact en1.mut hg1 rfl rfl h1 ⟨A, _, rfl, h0', hS', hf', upd_same, r'.append rb⟩
theorem ev_pop {n : Str} {i : Nat} {f : Option Addr} {p p2 : Pos} (hn : Nam X n i) (hg : cg Γ i = some (.own f (ds ++ [d]))) (hp : cp Γ i (.own f ds) = Γ2) (hline : (p2.endLine == pos.line) = true) : Ev X S Γ (.Call (.Attribute (.Name n p) "pop" p2) [] [] pos) d Γ2 := .mk fun σ H0 H en => by
  obtain ⟨o, h1, A, xs, rfl, h0, hS, hf, hH, r⟩ := en.cells i _ hg
  have hl := r.length
  rw [List.length_append] at hl
  have hl : xs.length = ds.length + 1 := hl
  obtain ⟨v, hv, rv⟩ := r.get (i := ds.length) (d := d) (by rw [List.getElem?_append_right (Nat.le_refl _)]; simp)
  refine s_e (pe_bm0 PySem.F.plainAttrs_list PySem.F.slot_list_pop PySem.F.type_list_pop mt_pop (pe_var hn.ix hn.vis hn.d1 hn.d2) rfl hline) ⟨.ref A, h1, .inl ⟨rfl, _, .inl (.inl hH)⟩, A, xs, v, rfl, rfl, hH, by rw [hl]; exact hv, H0, Ex.refl _, ?_, rv⟩
  rw [← hp]
  refine en.mut hg rfl rfl h1 ⟨A, _, rfl, h0, hS, hf, upd_same, ?_⟩
  have : xs.dropLast = xs.take ds.length := by rw [List.dropLast_eq_take, hl]; rfl
  rw [this]
  have r2 := r.take ds.length
  rw [List.take_left] at r2
  exact r2
end
end Fl
namespace Fl
open PySem L2

def namB (sc : Scope) (n : Str) : Bool := visB sc n && !(n == ("__debug__" : Str)) && !(n == ("__classdict__" : Str))
def gloC (sc : Scope) (n : Str) : Bool := gloB sc n && !(n == ("__debug__" : Str))
section
variable {X : Cx} {S : Bs} {Γ Γ1 Γ2 Γ3 : Ct} {a b e elt : Expr} {x y z d : Dt} {pos : Pos} {D : Pd} {ds es : List Dt} {P : Program} {w : World} {K : PySem.W.Frag} {mg : Str → Option Value} {base : Heap} {N : List Str} {sc scope : Scope} {k : Nat}
theorem Bd.nam' (hb : Bd X P w K mg base N sc k) {n : Str} {i : Nat} (hix : N[i]? = some n) (hv : namB sc n = true) : Nam X n i := by
  unfold namB at hv
  simp only [Bool.and_eq_true, Bool.not_eq_true'] at hv
  exact hb.nam i hix hv.1.1 hv.1.2 hv.2
theorem Bd.cal' (hb : Bd X P w K mg base N sc k) {n : Str} {j : Nat} {G : List Dt → Dt → Prop} (c : Cee P w K mg base j n G) (hj : j ≤ k) (hv : gloC sc n = true) : Cal X n G := by
  unfold gloC at hv
  simp only [Bool.and_eq_true, Bool.not_eq_true'] at hv
  exact hb.cal c hj hv.1 hv.2
/-- a promise that is asked -/
structure Gg (G : List Dt → Dt → Prop) (ds : List Dt) (d : Dt) : Prop where
  ok : G ds d
/-- names by the table -/
theorem eb_name {n : Str} {i : Nat} (hb : Bd X P w K mg base N sc k) (hix : N[i]? = some n) (hg : cg Γ i = some (.val d)) (hv : namB sc n = true) : Ev X S Γ (.Name n pos) d Γ := ev_name (hb.nam' hix hv) hg
theorem eb_nameF {n : Str} {i : Nat} (hb : Bd X P w K mg base N sc k) (hix : N[i]? = some n) (hg : cg Γ i = some (.own none ds)) (hv : namB sc n = true) : Ev X S Γ (.Name n pos) (.lst ds) (cp Γ i (.val (.lst ds))) := ev_nameF (hb.nam' hix hv) hg
theorem eb_call {n : Str} {j : Nat} {G : List Dt → Dt → Prop} {es : List Expr} {ds : List Dt} {p : Pos} (he : starEach (e :: es) X.env = (false, eval e X.env) :: starEach es X.env) (hpl : (backTo pos (starEach es X.env)).any (·.1) = false)
    (c : Cee P w K mg base j n G) (hb : Bd X P w K mg base N sc k) (hj : j ≤ k) (hv : gloC sc n = true) (ha : Ea X S Γ (e :: es) ds Γ1) (hg : Gg G ds d) : Ev X S Γ (.Call (.Name n p) (e :: es) [] pos) d Γ1 := ev_call he hpl (hb.cal' c hj hv) ha hg.ok
theorem eb_blt {n : Str} {es : List Expr} {ds : List Dt} {p : Pos} (he : starEach (e :: es) X.env = (false, eval e X.env) :: starEach es X.env) (hpl : (backTo pos (starEach es X.env)).any (·.1) = false)
    (hm : mg n = none) (hb : Bd X P w K mg base N sc k) (hv : gloB sc n = true) (ha : Ea X S Γ (e :: es) ds Γ1) (hf : Bfn X n ds z) : Ev X S Γ (.Call (.Name n p) (e :: es) [] pos) z Γ1 := ev_blt he hpl (hb.blt hv hm) ha hf
theorem ebn_blt {n : Str} {es : List Expr} {ds zs : List Dt} {p : Pos} (he : starEach (e :: es) X.env = (false, eval e X.env) :: starEach es X.env) (hpl : (backTo pos (starEach es X.env)).any (·.1) = false)
    (hm : mg n = none) (hb : Bd X P w K mg base N sc k) (hv : gloB sc n = true) (ha : Ea X S Γ (e :: es) ds Γ1) (hf : BfnN X n ds zs) : EvN X S Γ (.Call (.Name n p) (e :: es) [] pos) zs Γ1 := evn_blt he hpl (hb.blt hv hm) ha hf
theorem eb_ty {n : Str} {m : String} (hv : bootBuiltins n = some (.type m)) (hm : mg n = none) (hb : Bd X P w K mg base N sc k) (hg : (gloC sc n && !decide (n = "__name__")) = true) : Ev X S Γ (.Name n pos) (.ty m) Γ := .mk fun σ H0 H en => by
  unfold gloC at hg
  simp only [Bool.and_eq_true, Bool.not_eq_true', decide_eq_false_iff_not] at hg
  have B := hb.blt hg.1.1 hm
  exact s_e (pe_bltn (v := .ty m) B.gl B.mg hv rfl hg.2 hg.1.2) ⟨H0, Ex.refl _, en, .ty m⟩
/-- a module's constant -/
structure Gcon (K : PySem.W.Frag) (mg : Str → Option Value) (n : Str) (i : Int) : Prop where
  ex : ∃ t, mg n = some (.int i t)
theorem eb_con {n : Str} {i : Int} (hc : Gcon K mg n i) (hb : Bd X P w K mg base N sc k) (hv : gloC sc n = true) : Ev X S Γ (.Name n pos) (.int i) Γ := .mk fun σ H0 H en => by
  obtain ⟨t, ht⟩ := hc.ex
  unfold gloC at hv
  simp only [Bool.and_eq_true, Bool.not_eq_true'] at hv
  exact s_e (pe_glob (v := .int i) (u := .int i t) (by show X.env.scope.names.lookup n = _; rw [hb.hs]; exact gloB_ok hv.1) (by rw [hb.hm]; exact ht) ⟨t, rfl⟩ hv.2) ⟨H0, Ex.refl _, en, .int i⟩
theorem qb_set {n : Str} {i : Nat} {p : Pos} {rest : List Stmt} (hs : swapsWith e (some (.Name n p)) pos.line X.env = pure false) (hb : Bd X P w K mg base N sc k) (hf : ∀ x, X.fn x = true) (hix : N[i]? = some n) (hv : locB sc n = true)
    (h : Ev X S Γ e d Γ1) (hp : cp Γ1 i (.val d) = Γ2) (kk : Ws X S Γ2 rest D) : Ws X S Γ (.Assign [.Name n p] e pos :: rest) D := q_set (hb.sto hf i hix hv) hs h hp kk
theorem qb_setN {n : Str} {i : Nat} {p : Pos} {ds : List Dt} {rest : List Stmt} (hs : swapsWith e (some (.Name n p)) pos.line X.env = pure false) (hb : Bd X P w K mg base N sc k) (hf : ∀ x, X.fn x = true) (hix : N[i]? = some n) (hv : locB sc n = true)
    (h : EvN X S Γ e ds Γ1) (hp : cp Γ1 i (.own none ds) = Γ2) (kk : Ws X S Γ2 rest D) : Ws X S Γ (.Assign [.Name n p] e pos :: rest) D := q_setN (hb.sto hf i hix hv) hs h hp kk
/-! ### comprehensions over encoded data -/
def ownB (Γ : Ct) (i : Nat) : Bool := match cg Γ i with
  | some c => c.isOwn
  | none => false
theorem ownB_ok {Γ : Ct} {i : Nat} (h : ownB Γ i = false) : ∀ c, cg Γ i = some c → c.isOwn = false := fun c hc => by
  unfold ownB at h
  rw [hc] at h
  exact h
def keysD (ks : List (Int × Dt)) : List Int := ks.map (·.1)
theorem Drk.keys {K : PySem.W.Frag} {H : Hp} : ∀ {vs : List (Key × V)} {ks : List (Int × Dt)}, Drk K H vs ks → (vs.map fun kv => kV kv.1) = (keysD ks).map V.int
  | _, _, .nil => rfl
  | _, _, .cons h q => by
    rw [List.map_cons, Drk.keys q]
    rfl
/-- a locked dict is walked -/
theorem it_dcl {tg : Expr} {ks : List (Int × Dt)} (h : Ev X S Γ e (.dcl ks) Γ1) (hl : ks.length ≤ sizeLine) : Itd X S Γ tg e ((keysD ks).map .int) Γ1 := .mk fun σ H0 H en =>
  s_i (pi_keys pe_s) (m_e (h.run σ H0 H en) fun v H1 ⟨H01, e1, en1, r⟩ => by
    cases r with
    | @dcl p o vs _ h0 r =>
      have el : ((keysD ks).map Dt.int).length = vs.length := by unfold keysD; rw [List.length_map, List.length_map]; exact r.length.symm
      refine ⟨p, o, rfl, .inl ⟨vs, en1.sub _ _ h0, H01, e1, en1, by rw [el, r.length]; exact hl, fun H => H p = some (.frz o (.dK vs)), fun i H x H' => H' = H ∧ ∃ k v, vs[i]? = some (k, v) ∧ x = kV k, by rw [el]; exact walk_keys, fun H2 e2 => e2 _ _ h0, fun i H2 v H3 hi hy => ⟨hy.1, ?_⟩⟩⟩
      obtain ⟨_, kk, vv, h1, rfl⟩ := hy
      have h2 : (vs.map fun kv => kV kv.1)[i]? = some (kV kk) := by rw [List.getElem?_map, h1]; rfl
      rw [r.keys, List.getElem?_map] at h2
      cases q : (keysD ks)[i]? with
      | none => rw [q] at h2; cases h2
      | some j =>
        rw [q] at h2
        refine ⟨.int j, by rw [List.getElem?_map, q]; rfl, fun _ _ => ?_⟩
        rw [← Option.some.inj h2]
        exact .int j)
/-- what is walked, by its data -/
inductive ItOf : Dt → List Dt → Prop
  | lst (ds : List Dt) : ItOf (.lst ds) ds
  | tup (ds : List Dt) : ItOf (.tup ds) ds
  | str (z : Str) (hz : z.length ≤ sizeLine) : ItOf (.str z) (strD z)
  | dcl (ks : List (Int × Dt)) (hz : ks.length ≤ sizeLine) : ItOf (.dcl ks) ((keysD ks).map .int)
theorem it_any {tg : Expr} (h : Ev X S Γ e d Γ1) (hd : ItOf d ds) : Itd X S Γ tg e ds Γ1 := by
  cases hd with
  | lst => exact it_lst h
  | tup => exact it_tup h
  | str z hz => exact it_str h hz
  | dcl ks hz => exact it_dcl h hz
section
variable {α : Type} {enc : α → Dt} {xs : List α} {n : Str} {i : Nat} {p p2 : Pos}
def atX {β : Type} (dflt : β) (xs : List α) (f : α → β) (j : Nat) : β := match xs[j]? with
  | some x => f x
  | none => dflt
theorem atX_cons {β : Type} {dflt : β} {x : α} {xs : List α} {f : α → β} {j : Nat} : atX dflt (x :: xs) f (j + 1) = atX dflt xs f j := by simp [atX]
theorem lcN_map (f' : α → Bool) (g' : α → Dt) : ∀ xs : List α, lcN xs.length (atX false xs f') (atX .non xs g') = (xs.filter f').map g'
  | [] => rfl
  | x :: r => by
    have ih := lcN_map f' g' r
    unfold lcN at ih ⊢
    rw [List.length_cons, List.range_succ_eq_map, List.filter_cons, List.filter_map, List.filter_cons]
    have e1 : (atX false (x :: r) f' ∘ Nat.succ) = atX false r f' := funext fun j => atX_cons
    have e2 : (atX Dt.non (x :: r) g' ∘ Nat.succ) = atX .non r g' := funext fun j => atX_cons
    have e0 : atX false (x :: r) f' 0 = f' x := rfl
    rw [e0, e1]
    cases h : f' x with
    | true =>
      rw [if_pos rfl, if_pos rfl, List.map_cons, List.map_cons, List.map_map, e2, ih]
      rfl
    | false =>
      rw [if_neg Bool.false_ne_true, if_neg Bool.false_ne_true, List.map_map, e2, ih]
theorem map_at {ds : List Dt} {enc : α → Dt} {xs : List α} (h : ds = xs.map enc) {j : Nat} {d : Dt} (hd : ds[j]? = some d) : ∃ x, xs[j]? = some x ∧ x ∈ xs ∧ d = enc x := by
  rw [h, List.getElem?_map] at hd
  cases q : xs[j]? with
  | none => rw [q] at hd; cases hd
  | some x => rw [q] at hd; exact ⟨x, rfl, List.mem_of_getElem? q, (Option.some.inj hd).symm⟩
/-- [elt for n in e if c] -/
theorem lc1 {c : Expr} {f' : α → Bool} {g' : α → Dt} (hb : Bd X P w K mg base N sc k) (hix : N[i]? = some n) (hkk : (blkC N sc scope [(n, i)] && lcOk sc scope n) = true) (hff : ∀ x, foldedSetIterable e X.env x = pure x)
    (hi : Itd X S Γ (.Name n p) e (xs.map enc) Γ1) (hni : ownB Γ1 i = false)
    (ht : ∀ Y, Bd Y P w K mg base N (relS scope sc) k → ∀ (S : Bs) (x : α), x ∈ xs → Tst Y S (cp Γ1 i (.val (enc x))) c (f' x) (cp Γ1 i (.val (enc x))))
    (he : ∀ Y, Bd Y P w K mg base N (relS scope sc) k → ∀ (S : Bs) (x : α), x ∈ xs → f' x = true → Ev Y S (cp Γ1 i (.val (enc x))) elt (g' x) (cp Γ1 i (.val (enc x)))) :
    EvN X S Γ (.ListComp elt [⟨.Name n p, e, [c], 0⟩] scope pos) ((xs.filter f').map g') Γ1 := by
  simp only [Bool.and_eq_true] at hkk
  have h := evn_lc (pos := pos) (p := p) (p2 := p) (elt := elt) (ifs := [c]) hb hix (blkOk_by hkk.1) hkk.2 hi (ownB_ok hni) (atX false xs f') (atX .non xs g') (fun Y bY S j d hj => by
    obtain ⟨x, h1, h2, rfl⟩ := map_at rfl hj
    have : atX false xs f' j = f' x := by unfold atX; rw [h1]
    rw [this]
    exact ht Y bY S x h2) (fun Y bY S j d hj hf => by
    obtain ⟨x, h1, h2, rfl⟩ := map_at rfl hj
    have e1 : atX false xs f' j = f' x := by unfold atX; rw [h1]
    have e2 : atX Dt.non xs g' j = g' x := by unfold atX; rw [h1]
    rw [e2]
    exact he Y bY S x h2 (by rw [← e1]; exact hf)) hff
  rw [List.length_map, lcN_map] at h
  exact h
/-- [elt for n in e] -/
theorem lc0 {g' : α → Dt} (hb : Bd X P w K mg base N sc k) (hix : N[i]? = some n) (hkk : (blkC N sc scope [(n, i)] && lcOk sc scope n) = true) (hff : ∀ x, foldedSetIterable e X.env x = pure x)
    (hi : Itd X S Γ (.Name n p) e (xs.map enc) Γ1) (hni : ownB Γ1 i = false)
    (he : ∀ Y, Bd Y P w K mg base N (relS scope sc) k → ∀ (S : Bs) (x : α), x ∈ xs → Ev Y S (cp Γ1 i (.val (enc x))) elt (g' x) (cp Γ1 i (.val (enc x)))) :
    EvN X S Γ (.ListComp elt [⟨.Name n p, e, [], 0⟩] scope pos) (xs.map g') Γ1 := by
  simp only [Bool.and_eq_true] at hkk
  have h := evn_lc (pos := pos) (p := p) (p2 := p) (elt := elt) (ifs := []) hb hix (blkOk_by hkk.1) hkk.2 hi (ownB_ok hni) (atX false xs fun _ => true) (atX .non xs g') (fun Y bY S j d hj => by
    obtain ⟨x, h1, h2, rfl⟩ := map_at rfl hj
    show atX false xs _ j = true
    unfold atX; rw [h1]) (fun Y bY S j d hj hf => by
    obtain ⟨x, h1, h2, rfl⟩ := map_at rfl hj
    have e2 : atX Dt.non xs g' j = g' x := by unfold atX; rw [h1]
    rw [e2]
    exact he Y bY S x h2) hff
  rw [List.length_map, lcN_map, List.filter_eq_self.mpr (fun _ _ => rfl)] at h
  exact h
/-- m = [elt for n in e if c], m a local, on one line -/
theorem qlc1 {c : Expr} {f' : α → Bool} {g' : α → Dt} {m : Str} {j : Nat} {q : Pos} {rest : List Stmt} (hb : Bd X P w K mg base N sc k) (hf : ∀ x, X.fn x = true) (hix : N[i]? = some n) (hkk : (blkC N sc scope [(n, i)] && lcOk sc scope n) = true) (hff : ∀ x, foldedSetIterable e X.env x = pure x)
    (hjx : N[j]? = some m) (hsw : (decide (sc.kind = .function) && decide (sc.names.lookup m = some .local) && (q.line == pos.line) && !(scope.names.any fun (n, k) => n == m && (k == .local || k == .cell))) = true)
    (hi : Itd X S Γ (.Name n p) e (xs.map enc) Γ1) (hni : ownB Γ1 i = false)
    (ht : ∀ Y, Bd Y P w K mg base N (relS scope sc) k → ∀ (S : Bs) (x : α), x ∈ xs → Tst Y S (cp Γ1 i (.val (enc x))) c (f' x) (cp Γ1 i (.val (enc x))))
    (he : ∀ Y, Bd Y P w K mg base N (relS scope sc) k → ∀ (S : Bs) (x : α), x ∈ xs → f' x = true → Ev Y S (cp Γ1 i (.val (enc x))) elt (g' x) (cp Γ1 i (.val (enc x))))
    (hp : cp Γ1 j (.own none ((xs.filter f').map g')) = Γ2) (kk : Ws X S Γ2 rest D) : Ws X S Γ (.Assign [.Name m q] (.ListComp elt [⟨.Name n p, e, [c], 0⟩] scope pos) p2 :: rest) D := by
  simp only [Bool.and_eq_true] at hkk
  simp only [Bool.and_eq_true, decide_eq_true_eq, Bool.not_eq_true'] at hsw
  refine ws_cons (lc_set (p2 := p2) hb (hb.sto hf j hjx (by unfold locB; rw [hsw.1.1.2])) hsw.1.1.2 hix (blkOk_by hkk.1) hkk.2 (sw_true (by rw [hb.hs]; exact hsw.1.1.1) (by rw [hb.hs]; exact hsw.1.1.2) hsw.1.2 hsw.2) hi (ownB_ok hni) (atX false xs f') (atX .non xs g') (fun Y bY S j d hj => ?_) (fun Y bY S j d hj hf => ?_) hff ?_)
  · obtain ⟨x, h1, h2, rfl⟩ := map_at rfl hj
    have : atX false xs f' j = f' x := by unfold atX; rw [h1]
    rw [this]
    exact ht Y bY S x h2
  · obtain ⟨x, h1, h2, rfl⟩ := map_at rfl hj
    have e1 : atX false xs f' j = f' x := by unfold atX; rw [h1]
    have e2 : atX Dt.non xs g' j = g' x := by unfold atX; rw [h1]
    rw [e2]
    exact he Y bY S x h2 (by rw [← e1]; exact hf)
  · show Ws X S _ rest D
    rw [List.length_map, lcN_map, hp]
    exact kk
theorem qlc0 {g' : α → Dt} {m : Str} {j : Nat} {q : Pos} {rest : List Stmt} (hb : Bd X P w K mg base N sc k) (hf : ∀ x, X.fn x = true) (hix : N[i]? = some n) (hkk : (blkC N sc scope [(n, i)] && lcOk sc scope n) = true) (hff : ∀ x, foldedSetIterable e X.env x = pure x)
    (hjx : N[j]? = some m) (hsw : (decide (sc.kind = .function) && decide (sc.names.lookup m = some .local) && (q.line == pos.line) && !(scope.names.any fun (n, k) => n == m && (k == .local || k == .cell))) = true)
    (hi : Itd X S Γ (.Name n p) e (xs.map enc) Γ1) (hni : ownB Γ1 i = false)
    (he : ∀ Y, Bd Y P w K mg base N (relS scope sc) k → ∀ (S : Bs) (x : α), x ∈ xs → Ev Y S (cp Γ1 i (.val (enc x))) elt (g' x) (cp Γ1 i (.val (enc x))))
    (hp : cp Γ1 j (.own none (xs.map g')) = Γ2) (kk : Ws X S Γ2 rest D) : Ws X S Γ (.Assign [.Name m q] (.ListComp elt [⟨.Name n p, e, [], 0⟩] scope pos) p2 :: rest) D := by
  simp only [Bool.and_eq_true] at hkk
  simp only [Bool.and_eq_true, decide_eq_true_eq, Bool.not_eq_true'] at hsw
  refine ws_cons (lc_set (p2 := p2) hb (hb.sto hf j hjx (by unfold locB; rw [hsw.1.1.2])) hsw.1.1.2 hix (blkOk_by hkk.1) hkk.2 (sw_true (by rw [hb.hs]; exact hsw.1.1.1) (by rw [hb.hs]; exact hsw.1.1.2) hsw.1.2 hsw.2) hi (ownB_ok hni) (atX false xs fun _ => true) (atX .non xs g') (fun Y bY S j d hj => ?_) (fun Y bY S j d hj hf => ?_) hff ?_)
  · obtain ⟨x, h1, h2, rfl⟩ := map_at rfl hj
    show atX false xs _ j = true
    unfold atX; rw [h1]
  · obtain ⟨x, h1, h2, rfl⟩ := map_at rfl hj
    have e2 : atX Dt.non xs g' j = g' x := by unfold atX; rw [h1]
    rw [e2]
    exact he Y bY S x h2
  · show Ws X S _ rest D
    rw [List.length_map, lcN_map, List.filter_eq_self.mpr (fun _ _ => rfl), hp]
    exact kk
end
end
end Fl
namespace Fl
open PySem L2

theorem lenLine {n : Nat} (h : n ≤ 16777216) : n ≤ sizeLine := by rw [sizeLine_eq]; exact h
theorem cmulL {i j : Int} (h : -(2 ^ 64) < i ∧ i < 2 ^ 64) : CMul i j := .inl h
theorem cmulR {i j : Int} (h : -(2 ^ 64) < j ∧ j < 2 ^ 64) : CMul i j := .inr h
/-! ### which data may be compared -/
def okn (n : Nat) (d : Dt) : Prop := PyData.canLay0 (py d) = true ∧ PyData.depth (py d) ≤ n
theorem okn_int {n : Nat} {i : Int} : okn n (.int i) := ⟨rfl, Nat.zero_le _⟩
theorem okn_bl {n : Nat} {i : Bool} : okn n (.bl i) := ⟨rfl, Nat.zero_le _⟩
theorem okn_non {n : Nat} : okn n .non := ⟨rfl, Nat.zero_le _⟩
theorem okn_str {n : Nat} {x : Str} (h : PyData.strOk x = true) : okn n (.str x) := ⟨h, Nat.zero_le _⟩
theorem pys_ok {n : Nat} : ∀ {ds : List Dt}, (∀ d ∈ ds, okn n d) → PyData.canLayAll0 (pys ds) = true ∧ PyData.depthAll (pys ds) ≤ n
  | [], _ => ⟨rfl, Nat.zero_le _⟩
  | d :: ds, h => by
    obtain ⟨h1, h2⟩ := h d (List.mem_cons_self ..)
    obtain ⟨h3, h4⟩ := pys_ok (ds := ds) fun y hy => h y (List.mem_cons_of_mem _ hy)
    refine ⟨by rw [pys, PyData.canLayAll0, h1, h3]; rfl, ?_⟩
    rw [pys, PyData.depthAll]
    omega
theorem okn_lst {n : Nat} {ds : List Dt} (h : ∀ d ∈ ds, okn n d) : okn (n + 1) (.lst ds) := by
  obtain ⟨h1, h2⟩ := pys_ok h
  exact ⟨by rw [py, PyData.canLay0, h1], by rw [py, PyData.depth]; omega⟩
theorem okn_tup {n : Nat} {ds : List Dt} (h : ∀ d ∈ ds, okn n d) : okn (n + 1) (.tup ds) := by
  obtain ⟨h1, h2⟩ := pys_ok h
  exact ⟨by rw [py, PyData.canLay0, h1], by rw [py, PyData.depth]; omega⟩
theorem okn_scr {n : Nat} {ns : List Int} : okn (n + 1) (.scr ns) := by
  have : py (.scr ns) = py (.lst (ns.map .int)) := by rw [py, py, pys_map, List.map_map]; rfl
  have h := okn_lst (n := n) (ds := ns.map .int) (fun d hd => by obtain ⟨i, _, rfl⟩ := List.mem_map.mp hd; exact okn_int)
  exact ⟨by rw [this]; exact h.1, by rw [this]; exact h.2⟩
theorem all_map {α : Type} {enc : α → Dt} {xs : List α} {P : Dt → Prop} (h : ∀ x ∈ xs, P (enc x)) : ∀ d ∈ xs.map enc, P d := fun d hd => by
  obtain ⟨x, hx, rfl⟩ := List.mem_map.mp hd
  exact h x hx
theorem all_nil {P : Dt → Prop} : ∀ d ∈ ([] : List Dt), P d := fun _ h => by cases h
theorem all_cons {P : Dt → Prop} {d : Dt} {ds : List Dt} (h : P d) (hs : ∀ d ∈ ds, P d) : ∀ e ∈ d :: ds, P e := fun e he => by
  rcases List.mem_cons.mp he with rfl | he
  · exact h
  · exact hs e he
theorem all_app {P : Dt → Prop} {ds es : List Dt} (h : ∀ d ∈ ds, P d) (hs : ∀ d ∈ es, P d) : ∀ e ∈ ds ++ es, P e := fun e he => by
  rcases List.mem_append.mp he with he | he
  · exact h e he
  · exact hs e he
theorem okD_of {d : Dt} (h : okn 60 d) : okD d = true := by
  unfold okD SeqAt.shaped
  rw [h.1, Bool.true_and, decide_eq_true_eq]
  exact Nat.le_trans h.2 (by decide)
section
variable {X : Cx} {x y : Dt}
theorem c_eqA (C : Cxt X) (hx : okn 60 x) (hy : okn 60 y) : Cop X .Eq x y (deq x y) := c_eqD C (okD_of hx) (okD_of hy)
theorem c_neA (C : Cxt X) (hx : okn 60 x) (hy : okn 60 y) : Cop X .NotEq x y (!deq x y) := c_neD C (okD_of hx) (okD_of hy)
end
/-! ### equality of encoded data -/
def Faith {α : Type} (enc : α → Dt) : Prop := ∀ x y, deq (enc x) (enc y) = true ↔ x = y
theorem faith_int : Faith Dt.int := fun x y => by
  show (x == y) = true ↔ x = y
  exact beq_iff_eq
theorem faith_bl : Faith Dt.bl := fun x y => by
  show (x == y) = true ↔ x = y
  exact beq_iff_eq
theorem faith_str : Faith Dt.str := fun x y => by
  show (x == y) = true ↔ x = y
  exact beq_iff_eq
theorem eqv_pys {α : Type} {enc : α → Dt} (f : Faith enc) : ∀ xs ys : List α, PyData.eqvAll (pys (xs.map enc)) (pys (ys.map enc)) = true ↔ xs = ys
  | [], [] => by simp [pys, PyData.eqvAll]
  | [], y :: ys => by simp [pys, PyData.eqvAll]
  | x :: xs, [] => by simp [pys, PyData.eqvAll]
  | x :: xs, y :: ys => by
    rw [List.map_cons, List.map_cons, pys, pys, PyData.eqvAll, Bool.and_eq_true, eqv_pys f xs ys, List.cons.injEq]
    exact and_congr_left' (f x y)
theorem faith_lst {α : Type} {enc : α → Dt} (f : Faith enc) : Faith (fun xs : List α => .lst (xs.map enc)) := fun xs ys => by
  show PyData.eqv (py (.lst _)) (py (.lst _)) = true ↔ _
  rw [py, py, PyData.eqv]
  exact eqv_pys f xs ys
theorem faith_tup {α : Type} {enc : α → Dt} (f : Faith enc) : Faith (fun xs : List α => .tup (xs.map enc)) := fun xs ys => by
  show PyData.eqv (py (.tup _)) (py (.tup _)) = true ↔ _
  rw [py, py, PyData.eqv]
  exact eqv_pys f xs ys
theorem faith_pair {α β : Type} {e1 : α → Dt} {e2 : β → Dt} (f1 : Faith e1) (f2 : Faith e2) : Faith (fun p : α × β => .tup [e1 p.1, e2 p.2]) := fun p q => by
  show PyData.eqv (py (.tup _)) (py (.tup _)) = true ↔ _
  rw [py, py, PyData.eqv, pys, pys, pys, pys, pys, pys, PyData.eqvAll, PyData.eqvAll, PyData.eqvAll, Bool.and_true, Bool.and_eq_true, Prod.ext_iff]
  exact and_congr (f1 p.1 q.1) (f2 p.2 q.2)
theorem faith_dec {α : Type} [DecidableEq α] {enc : α → Dt} (f : Faith enc) (x y : α) : deq (enc x) (enc y) = decide (x = y) := by
  by_cases h : x = y
  · rw [decide_eq_true h]; exact (f x y).mpr h
  · rw [decide_eq_false h]
    cases q : deq (enc x) (enc y) with
    | false => rfl
    | true => exact absurd ((f x y).mp q) h
/-- encoded lists of ints, tuples of ints and lists of these -/
abbrev eL (xs : List Int) : Dt := .lst (xs.map .int)
abbrev eT (xs : List Int) : Dt := .tup (xs.map .int)
abbrev eLL (xss : List (List Int)) : Dt := .lst (xss.map eL)
abbrev eLT (xss : List (List Int)) : Dt := .lst (xss.map eT)
theorem faith_eL : Faith eL := faith_lst faith_int
theorem faith_eT : Faith eT := faith_tup faith_int
theorem faith_eLL : Faith eLL := faith_lst faith_eL
theorem faith_eLT : Faith eLT := faith_lst faith_eT
theorem deq_nilL (ds : List Dt) : deq (.lst ds) (.lst []) = ds.isEmpty := by
  show PyData.eqv (py (.lst _)) (py (.lst _)) = _
  rw [py, py, PyData.eqv]
  cases ds with
  | nil => rfl
  | cons d ds => rw [pys]; rfl
theorem deq_nilT (ds : List Dt) : deq (.tup ds) (.tup []) = ds.isEmpty := by
  show PyData.eqv (py (.tup _)) (py (.tup _)) = _
  rw [py, py, PyData.eqv]
  cases ds with
  | nil => rfl
  | cons d ds => rw [pys]; rfl
theorem deq_nilC (ns : List Int) : deq (.scr ns) (.lst []) = ns.isEmpty := by
  show PyData.eqv (py (.scr _)) (py (.lst _)) = _
  rw [py, py, PyData.eqv]
  cases ns with
  | nil => rfl
  | cons d ds => rfl
end Fl
namespace Fl
open PySem L2

/-! ### own dicts -/
def NstO (K : PySem.W.Frag) (S : Bs) (σ : L2.St) (H0 : Hp) (Γ : Ct) (R : Hp → HO → Prop) : VK := fun v H' => ∃ H0' a o, Ex H0 H0' ∧ En K S H0' H' σ Γ ∧ v = .ref a ∧ H0' a = none ∧ S.Hs a = none ∧ ¬ S.F a ∧ H' a = some o ∧ R H0' o ∧
  ∀ (i : Nat) (c : Cell), cg Γ i = some c → c.isOwn = true → σ[i]? ≠ some (some (.ref a))
structure EvO (X : Cx) (S : Bs) (Γ : Ct) (e : Expr) (R : Hp → HO → Prop) (Γ' : Ct) : Prop where
  run : ∀ σ H0 H, En X.K S H0 H σ Γ → sE X e σ H (NstO X.K S σ H0 Γ' R)
def isDk (K : PySem.W.Frag) (ks : List (Int × Dt)) : Hp → HO → Prop := fun H o => ∃ xs, o = .dK xs ∧ Drk K H xs ks
def isDt (ks : List (List Int)) : Hp → HO → Prop := fun _ o => o = .dT (keysT ks)
section
variable {X : Cx} {S : Bs} {Γ Γ1 Γ2 Γ3 : Ct} {a b e elt : Expr} {x y z d : Dt} {pos : Pos} {D : Pd} {ds es : List Dt} {P : Program} {w : World} {K : PySem.W.Frag} {mg : Str → Option Value} {base : Heap} {N : List Str} {sc scope : Scope} {k : Nat}
theorem nstO_new {σ : L2.St} {H0 H : Hp} {p : Addr} {o : HO} {R : Hp → HO → Prop} (en : En X.K S H0 H σ Γ) (hp : H p = none) (r : R H0 o) : NstO X.K S σ H0 Γ R (.ref p) (upd H p o) :=
  ⟨H0, p, o, Ex.refl _, en.loose hp, rfl, en.sub.back hp, en.bas.back hp, fun f => (en.forb p f).2.nn hp, upd_same, r, fun i c hc ho q => by
    obtain ⟨o, e, k⟩ := en.cells i c hc
    obtain ⟨a, u, e2, _, _, h⟩ := own_at k ho
    rw [q] at e
    have e3 := Option.some.inj e
    rw [e2] at e3
    have e4 : p = a := V.ref.inj (Option.some.inj e3)
    rw [e4, h] at hp
    cases hp⟩
theorem eo_dict : EvO X S Γ (.Dict [] [] pos) (isDk X.K []) Γ := .mk fun σ H0 H en => s_e pe_dnewK fun p hp => nstO_new en hp ⟨[], rfl, .nil⟩
theorem eo_dictT : EvO X S Γ (.Dict [] [] pos) (isDt []) Γ := .mk fun σ H0 H en => s_e pe_dnewT fun p hp => nstO_new en hp rfl
/-- {name: True} -/
theorem eo_dict1 {n : Str} {i : Nat} {j : Int} {kk : Nat} {p1 p2 : Pos} (hb : Bd X P w K mg base N sc k) (hix : N[i]? = some n) (hg : cg Γ i = some (.val (.int j))) (hv : namB sc n = true) : EvO X S Γ (.Dict [some (.Name n p1)] [.Constant (.bool true) kk p2] pos) (isDk X.K [(j, .bl true)]) Γ := .mk fun σ H0 H en => by
  have h := hb.nam' hix hv
  obtain ⟨o, h1, v, rfl, r⟩ := en.cells i _ hg
  cases r
  refine s_e (pe_disp (pps_cons (pe_var h.ix h.vis h.d1 h.d2) pe_bl pps_nil) rfl rfl (fun z => by cases z) (Nat.le_of_ble_eq_true rfl)) fun p hp => ?_
  refine ⟨.int j, h1, upd_same, [(.inl j, .bl true)], rfl, Nat.le_of_ble_eq_true rfl, ?_⟩
  rw [upd_upd]
  exact nstO_new en hp ⟨_, rfl, .cons (.bl true) .nil⟩
theorem qb_setD {n : Str} {i : Nat} {p : Pos} {ks : List (Int × Dt)} {rest : List Stmt} (hs : swapsWith e (some (.Name n p)) pos.line X.env = pure false) (hb : Bd X P w K mg base N sc k) (hf : ∀ x, X.fn x = true) (hix : N[i]? = some n) (hv : locB sc n = true)
    (h : EvO X S Γ e (isDk X.K ks) Γ1) (hp : cp Γ1 i (.ownD ks) = Γ2) (kk : Ws X S Γ2 rest D) : Ws X S Γ (.Assign [.Name n p] e pos :: rest) D := by
  have s := hb.sto hf i hix hv
  exact ws_cons <| .mk fun σ H0 H en => s_s (ps_set s.nd s.ix s.loc pe_s hs s.fn) (m_e (h.run σ H0 H en) fun v H1 ⟨H01, a, o, e1, en1, ev, h0, hS, hf, hH, ⟨xs, ho, r⟩, no⟩ => by
    subst ev ho
    exact ⟨H01, Γ2, e1, by rw [← hp]; exact en1.seto rfl ⟨a, xs, rfl, h0, hS, hf, hH, r⟩ no, kk⟩)
theorem qb_setT {n : Str} {i : Nat} {p : Pos} {ks : List (List Int)} {rest : List Stmt} (hs : swapsWith e (some (.Name n p)) pos.line X.env = pure false) (hb : Bd X P w K mg base N sc k) (hf : ∀ x, X.fn x = true) (hix : N[i]? = some n) (hv : locB sc n = true)
    (h : EvO X S Γ e (isDt ks) Γ1) (hp : cp Γ1 i (.ownT ks) = Γ2) (kk : Ws X S Γ2 rest D) : Ws X S Γ (.Assign [.Name n p] e pos :: rest) D := by
  have s := hb.sto hf i hix hv
  exact ws_cons <| .mk fun σ H0 H en => s_s (ps_set s.nd s.ix s.loc pe_s hs s.fn) (m_e (h.run σ H0 H en) fun v H1 ⟨H01, a, o, e1, en1, ev, h0, hS, hf, hH, ho, no⟩ => by
    subst ev ho
    exact ⟨H01, Γ2, e1, by rw [← hp]; exact en1.seto rfl ⟨a, rfl, h0, hS, hf, hH⟩ no, kk⟩)
/-- dict(d) -/
theorem eo_copy {ks : List (Int × Dt)} {p : Pos} (he : starEach [e] X.env = [(false, eval e X.env)]) (hm : mg (Str.ofString "dict") = none) (hb : Bd X P w K mg base N sc k) (hv : gloB sc (Str.ofString "dict") = true) (h : Ev X S Γ e (.dct ks) Γ1) :
    EvO X S Γ (.Call (.Name (Str.ofString "dict") p) [e] [] pos) (isDk X.K ks) Γ1 := .mk fun σ H0 H en => by
  have B := hb.blt hv hm
  refine s_e (pe_callTy call_dictD B.gl B.mg PyProof.Rows.boot_dict (pa_cons pe_s pa_nil he) (by decide +kernel) (by decide +kernel) he rfl) (m_e (h.run σ H0 H en) fun v H1 ⟨H01, e1, en1, r⟩ => ?_)
  cases r with
  | @dct A xs _ h0 r =>
    refine ⟨A, xs, rfl, .inl (en1.sub _ _ h0), fun p hp => ?_⟩
    obtain ⟨H02, a, o, e2, q⟩ := nstO_new (R := isDk X.K ks) en1 hp ⟨xs, rfl, r⟩
    exact ⟨H02, a, o, e1.trans e2, q⟩
/-- an own dict is frozen when it is read as a value -/
theorem En.freezeD {K : PySem.W.Frag} {H0 H : Hp} {σ : L2.St} {i : Nat} {ks : List (Int × Dt)} (en : En K S H0 H σ Γ) (hc : cg Γ i = some (.ownD ks)) : ∃ H0' a, Ex H0 H0' ∧ En K S H0' H σ (cp Γ i (.val (.dct ks))) ∧ σ[i]? = some (some (.ref a)) ∧ Dr K H0' (.ref a) (.dct ks) := by
  obtain ⟨x, hx, a, xs, rfl, h0, hS, hf, hH, r⟩ := en.cells i _ hc
  have e1 : Ex H0 (upd H0 a (.dK xs)) := Ex.upd h0
  have hv : Dr K (upd H0 a (.dK xs)) (.ref a) (.dct ks) := .dct upd_same (r.mono e1)
  refine ⟨upd H0 a (.dK xs), a, e1, ⟨fun b u q => ?_, en.bas, fun b f => ⟨?_, (en.forb b f).2⟩, by rw [cp_len]; exact en.len, fun j c2 hc2 => ?_, fun j l c2 d2 b h1 h2 o1 o2 s1 s2 => ?_⟩, hx, hv⟩
  · by_cases hb : b = a
    · subst hb; rw [upd_same] at q; rw [hH]; exact q
    · rw [upd_ne hb] at q; exact en.sub b u q
  · rw [upd_ne (fun z => hf (by rw [← z]; exact f))]; exact (en.forb b f).1
  · by_cases hj : j = i
    · subst hj
      exact ⟨_, hx, by rw [cg_cp hc2]; exact ⟨_, rfl, hv⟩⟩
    · rw [cg_cp_ne hj] at hc2
      obtain ⟨x2, hx2, k2⟩ := en.cells j c2 hc2
      refine ⟨x2, hx2, ?_⟩
      have ne : ∀ b, c2.isOwn = true → x2 = some (.ref b) → b ≠ a := fun b ow e2 z => hj (en.apart j i c2 _ a hc2 hc ow rfl (by rw [hx2, e2, z]) hx)
      cases c2 with
      | no => trivial
      | val d => obtain ⟨v, q, r⟩ := k2; exact ⟨v, q, r.mono e1⟩
      | own b ds => obtain ⟨a', xs, q, h0, hs, hf, h, r⟩ := k2; exact ⟨a', xs, q, by rw [upd_ne (ne a' rfl q)]; exact h0, hs, hf, h, r.mono e1⟩
      | ownD ks => obtain ⟨a', xs, q, h0, hs, hf, h, r⟩ := k2; exact ⟨a', xs, q, by rw [upd_ne (ne a' rfl q)]; exact h0, hs, hf, h, r.mono e1⟩
      | ownT ks => obtain ⟨a', q, h0, hs, hf, h⟩ := k2; exact ⟨a', q, by rw [upd_ne (ne a' rfl q)]; exact h0, hs, hf, h⟩
  · have n1 : j ≠ i := fun z => by subst z; rw [cg_cp h1] at o1; cases o1
    have n2 : l ≠ i := fun z => by subst z; rw [cg_cp h2] at o2; cases o2
    rw [cg_cp_ne n1] at h1
    rw [cg_cp_ne n2] at h2
    exact en.apart j l c2 d2 b h1 h2 o1 o2 s1 s2
theorem eb_nameD {n : Str} {i : Nat} {ks : List (Int × Dt)} (hb : Bd X P w K mg base N sc k) (hix : N[i]? = some n) (hg : cg Γ i = some (.ownD ks)) (hv : namB sc n = true) : Ev X S Γ (.Name n pos) (.dct ks) (cp Γ i (.val (.dct ks))) := .mk fun σ H0 H en => by
  obtain ⟨H0', a, e, en', hs, r⟩ := en.freezeD hg
  have h := hb.nam' hix hv
  exact s_e (pe_var h.ix h.vis h.d1 h.d2) ⟨_, hs, H0', e, en', r⟩
theorem ownD_now {K : PySem.W.Frag} {σ : L2.St} {H0 H : Hp} {i : Nat} {ks : List (Int × Dt)} {A : Addr} (en : En K S H0 H σ Γ) (hx : σ[i]? = some (some (.ref A))) (hg : cg Γ i = some (.ownD ks)) : ∃ xs, H0 A = none ∧ S.Hs A = none ∧ ¬ S.F A ∧ H A = some (.dK xs) ∧ Drk K H0 xs ks := by
  obtain ⟨o, h1, a, xs, e, h0, hS, hf, hH, r⟩ := en.cells i _ hg
  rw [hx] at h1
  have := Option.some.inj h1
  rw [← this] at e
  have ea : A = a := V.ref.inj (Option.some.inj e)
  subst ea
  exact ⟨xs, h0, hS, hf, hH, r⟩
/-- m[key] = v, m an own dict -/
theorem qb_dput {n : Str} {i : Nat} {p p2 : Pos} {ks : List (Int × Dt)} {j : Int} {rest : List Stmt} (hs : swapsWith e (some (.Subscript (.Name n p) b p2)) pos.line X.env = pure false) (cx : Cxt X) (hb : Bd X P w K mg base N sc k) (hix : N[i]? = some n) (hv : namB sc n = true)
    (h : Ev X S Γ e d Γ1) (hg : cg Γ1 i = some (.ownD ks)) (h2 : Ev X S Γ1 b (.int j) Γ1) (hl : ks.length < sizeLine) (hp : cp Γ1 i (.ownD (putD ks j d)) = Γ2) (kk : Ws X S Γ2 rest D) : Ws X S Γ (.Assign [.Subscript (.Name n p) b p2] e pos :: rest) D := by
  have hn := hb.nam' hix hv
  refine ws_cons <| .mk fun σ H0 H en => s_s (ps_dput (by have := cx.units; omega) (pe_var hn.ix hn.vis hn.d1 hn.d2) pe_s pe_s hs) (m_e (h.run σ H0 H en) fun v H1 ⟨H01, e1, en1, r1⟩ => ?_)
  obtain ⟨o, h1, A, xs, rfl, _⟩ := en1.cells i _ hg
  refine ⟨.ref A, h1, m_e (h2.run σ H01 H1 en1) fun u H2 ⟨H02, e2, en2, r2⟩ => ?_⟩
  cases r2
  obtain ⟨ys, h0, hS, hf, hH, r⟩ := ownD_now en2 h1 hg
  refine ⟨A, _, rfl, DPut.k (k := .inl j) hH (by rw [r.length]; exact hl), H02, Γ2, e1.trans e2, ?_, kk⟩
  rw [← hp]
  exact en2.mut hg rfl rfl h1 ⟨A, _, rfl, h0, hS, hf, upd_same, r.put (r1.mono e2)⟩
/-- m[key] = True, m an own dict of tuples -/
theorem qb_tput {n : Str} {i : Nat} {p p2 : Pos} {ks : List (List Int)} {t : List Int} {rest : List Stmt} (hs : swapsWith e (some (.Subscript (.Name n p) b p2)) pos.line X.env = pure false) (cx : Cxt X) (hb : Bd X P w K mg base N sc k) (hix : N[i]? = some n) (hv : namB sc n = true)
    (h : Ev X S Γ e (.bl true) Γ1) (hg : cg Γ1 i = some (.ownT ks)) (h2 : Ev X S Γ1 b (.tup (t.map .int)) Γ1) (hl : ks.length < sizeLine) (hp : cp Γ1 i (.ownT (if t ∈ ks then ks else ks ++ [t])) = Γ2) (kk : Ws X S Γ2 rest D) : Ws X S Γ (.Assign [.Subscript (.Name n p) b p2] e pos :: rest) D := by
  have hn := hb.nam' hix hv
  refine ws_cons <| .mk fun σ H0 H en => s_s (ps_dput (by have := cx.units; omega) (pe_var hn.ix hn.vis hn.d1 hn.d2) pe_s pe_s hs) (m_e (h.run σ H0 H en) fun v H1 ⟨H01, e1, en1, r1⟩ => ?_)
  cases r1
  obtain ⟨o, h1, A, rfl, h0, hS, hf, hH⟩ := en1.cells i _ hg
  refine ⟨.ref A, h1, m_e (h2.run σ H01 H1 en1) fun u H2 ⟨H02, e2, en2, r2⟩ => ?_⟩
  cases r2 with
  | @tup B xs _ hB rB =>
    rw [rB.ints] at hB
    obtain ⟨o', h1', A', e', h0, hS, hf, hH⟩ := en2.cells i _ hg
    rw [h1] at h1'
    have eA : A = A' := by
      have q := Option.some.inj h1'
      rw [← q] at e'
      exact V.ref.inj (Option.some.inj e')
    subst eA
    have hk : H2 B = some (.tup ((t.map Sum.inl : List Key).map kV)) := by rw [List.map_map]; exact en2.sub _ _ hB
    refine ⟨A, _, rfl, DPut.t (k := t.map Sum.inl) hH hk (by unfold keysT; rw [List.length_map]; exact hl), H02, Γ2, e1.trans e2, ?_, kk⟩
    rw [← hp]
    refine en2.mut hg rfl rfl h1 ⟨A, rfl, h0, hS, hf, ?_⟩
    rw [upd_same]
    refine congrArg (fun z => some (HO.dT z)) ?_
    have inj : ∀ a b : List Int, (a.map Sum.inl : List Key) = b.map Sum.inl → a = b := fun a b h => by
      have := congrArg (fun l : List Key => l.filterMap fun k => match k with | .inl i => some i | .inr _ => none) h
      simpa [List.filterMap_map, Function.comp_def] using this
    unfold putK keysT
    have anyk : ((ks.map fun k => ((k.map Sum.inl : List Key), V.bl true)).any fun kv => decide (kv.1 = (t.map Sum.inl : List Key))) = decide (t ∈ ks) := by
      rw [List.any_map]
      induction ks with
      | nil => simp
      | cons c ks ih =>
        clear hp hg
        have ih' : ∀ ks : List (List Int), (ks.any ((fun kv : List Key × V => decide (kv.1 = (t.map Sum.inl : List Key))) ∘ fun k => ((k.map Sum.inl : List Key), V.bl true))) = decide (t ∈ ks) := by
          intro ks
          induction ks with
          | nil => simp
          | cons c ks ih =>
            rw [List.any_cons, ih]
            by_cases h : c = t
            · subst h; simp
            · have h' : ¬ t = c := fun z => h z.symm
              have h2 : ¬ (c.map Sum.inl : List Key) = t.map Sum.inl := fun z => h (inj _ _ z)
              simp [h', h2, List.mem_cons]
        exact ih' _
    rw [anyk]
    by_cases hm : t ∈ ks
    · rw [if_pos hm, if_pos (decide_eq_true hm), List.map_map]
      refine (List.map_congr_left fun c _ => ?_)
      show (if (c.map Sum.inl : List Key) = t.map Sum.inl then _ else _) = _
      split <;> rfl
    · rw [if_neg hm, if_neg (by rw [decide_eq_false hm]; exact Bool.false_ne_true), List.map_append]
      rfl
/-- list(d) -/
theorem bfn_listD (C : Cxt X) {ks : List (Int × Dt)} : BfnN X "list" [.dct ks] ((keysD ks).map .int) := bfn_t PyProof.Rows.boot_list (call_listD C.calm) fun S Γ σ H0 H vs en r hL Q q => by
  obtain ⟨v, rfl, h⟩ := dr1 r
  cases h with
  | @dct p xs _ h0 r => exact ⟨p, xs, rfl, .inl (en.sub _ _ h0), fun l hl => q _ _ (by rw [r.keys]; exact nst_new en hl (Drs.of_ints _))⟩
end
end Fl
namespace Fl
open PySem L2

section
variable {X : Cx} {S : Bs} {Γ Γ1 Γ2 Γ3 : Ct} {a b e elt : Expr} {x y z d : Dt} {pos : Pos} {D : Pd} {ds es : List Dt} {P : Program} {w : World} {K : PySem.W.Frag} {mg : Str → Option Value} {base : Heap} {N : List Str} {sc scope : Scope} {k : Nat}
/-! ### ranges by the table -/
theorem ib_range1 {tg : Expr} {n : Int} {p : Pos} (hs : starEach [a] X.env = [(false, eval a X.env)]) (hm : mg (Str.ofString "range") = none) (hb : Bd X P w K mg base N sc k) (hv : gloB sc (Str.ofString "range") = true) (h : Ea X S Γ [a] [.int n] Γ1) (h0 : -(2 ^ 62) ≤ n) (hn : n.toNat ≤ sizeLine) :
    Itd X S Γ tg (.Call (.Name (Str.ofString "range") p) [a] [] pos) (rng0 n.toNat) Γ1 := by
  rw [← rng0_eq]
  exact it_range1 hs (hb.blt hv hm) h h0 hn
theorem ib_range2 {tg : Expr} {m n : Int} {p : Pos} (hs : starEach [a, b] X.env = [(false, eval a X.env), (false, eval b X.env)]) (hs2 : starEach [b] X.env = [(false, eval b X.env)]) (hm : mg (Str.ofString "range") = none) (hb : Bd X P w K mg base N sc k) (hv : gloB sc (Str.ofString "range") = true)
    (h : Ea X S Γ [a, b] [.int m, .int n] Γ1) (h0 : -(2 ^ 62) ≤ m ∧ m < 2 ^ 62 ∧ -(2 ^ 62) ≤ n ∧ n < 2 ^ 62) (hn : (n - m).toNat ≤ sizeLine) : Itd X S Γ tg (.Call (.Name (Str.ofString "range") p) [a, b] [] pos) (rngD m (n - m).toNat) Γ1 :=
  it_range2 hs hs2 (hb.blt hv hm) h h0 hn
/-! ### for, over encoded data -/
theorem qb_for {α : Type} {enc : α → Dt} {xs : List α} {n : Str} {i : Nat} {p : Pos} {body rest : List Stmt} (E : Nat → Ct) (hff : ∀ x, foldedSetIterable e X.env x = pure x) (cx : Cxt X) (hb : Bd X P w K mg base N sc k) (hf : ∀ x, X.fn x = true) (hix : N[i]? = some n) (hv : locB sc n = true)
    (hi : Itd X S Γ (.Name n p) e (xs.map enc) Γ1) (h0 : Fg Γ1 (E 0))
    (hs : ∀ (j : Nat) (x : α), xs[j]? = some x → Ws X S (cp (E j) i (.val (enc x))) body { D with nx := fun Γ' => Fg Γ' (E (j + 1)), ct := fun Γ' => Fg Γ' (E (j + 1)), bk := fun Γ' => Ws X S Γ' rest D }) (hd : Ws X S (E xs.length) rest D) : Ws X S Γ (.For (.Name n p) e body [] pos :: rest) D :=
  q_for cx (hb.sto hf i hix hv) hi E h0 (fun j d hd => by
    obtain ⟨x, h1, _, rfl⟩ := map_at rfl hd
    exact hs j x h1) (by rw [List.length_map]; exact hd) hff
/-- the same, the environment told by a statement -/
theorem qb_forI {α : Type} {enc : α → Dt} {xs : List α} {n : Str} {i : Nat} {p : Pos} {body rest : List Stmt} (I : Nat → Ct → Prop) (hff : ∀ x, foldedSetIterable e X.env x = pure x) (cx : Cxt X) (hb : Bd X P w K mg base N sc k) (hf : ∀ x, X.fn x = true) (hix : N[i]? = some n) (hv : locB sc n = true)
    (hi : Itd X S Γ (.Name n p) e (xs.map enc) Γ1) (h0 : I 0 Γ1)
    (hs : ∀ (j : Nat) (x : α) (Γ' : Ct), xs[j]? = some x → I j Γ' → Ws X S (cp Γ' i (.val (enc x))) body { D with nx := I (j + 1), ct := I (j + 1), bk := fun Γ' => Ws X S Γ' rest D }) (hd : ∀ Γ', I xs.length Γ' → Ws X S Γ' rest D) : Ws X S Γ (.For (.Name n p) e body [] pos :: rest) D :=
  q_forI cx (hb.sto hf i hix hv) hi I h0 (fun j d Γ' hd hI => by
    obtain ⟨x, h1, _, rfl⟩ := map_at rfl hd
    exact hs j x Γ' h1 hI) (fun Γ' h => hd Γ' (by rw [List.length_map] at h; exact h)) hff
end
/-! ### dicts of ints -/
def dI (ks : List (Int × Int)) : List (Int × Dt) := ks.map fun p => (p.1, .int p.2)
def lookI (ks : List (Int × Int)) (i : Int) : Option Int := (ks.find? fun kv => decide (kv.1 = i)).map (·.2)
def putI (ks : List (Int × Int)) (i v : Int) : List (Int × Int) := if (ks.any fun kv => decide (kv.1 = i)) = true then ks.map (fun kv => if kv.1 = i then (kv.1, v) else kv) else ks ++ [(i, v)]
theorem dI_any (ks : List (Int × Int)) (i : Int) : ((dI ks).any fun kv => decide (kv.1 = i)) = ks.any fun kv => decide (kv.1 = i) := by
  unfold dI; rw [List.any_map]; rfl
theorem putD_dI (ks : List (Int × Int)) (i v : Int) : putD (dI ks) i (.int v) = dI (putI ks i v) := by
  unfold putD putI
  rw [dI_any]
  split
  · unfold dI
    rw [List.map_map, List.map_map]
    refine List.map_congr_left fun kv _ => ?_
    show (if kv.1 = i then (kv.1, Dt.int v) else (kv.1, Dt.int kv.2)) = ((if kv.1 = i then (kv.1, v) else kv).1, Dt.int (if kv.1 = i then (kv.1, v) else kv).2)
    split <;> rfl
  · unfold dI; rw [List.map_append]; rfl
theorem lookD_dI : ∀ (ks : List (Int × Int)) (i : Int), lookD (dI ks) i = (lookI ks i).map .int
  | [], _ => rfl
  | kv :: ks, i => by
    have ih := lookD_dI ks i
    unfold lookD lookI dI at ih ⊢
    rw [List.map_cons, List.find?_cons, List.find?_cons]
    by_cases h : kv.1 = i
    · rw [decide_eq_true h]; rfl
    · rw [decide_eq_false h]; exact ih
theorem keysD_dI (ks : List (Int × Int)) : keysD (dI ks) = ks.map (·.1) := by unfold keysD dI; rw [List.map_map]; rfl
theorem lookI_put (ks : List (Int × Int)) (i j v : Int) : lookI (putI ks i v) j = if j = i then some v else lookI ks j := by
  unfold putI
  split
  · rename_i h
    have : ∀ l : List (Int × Int), lookI (l.map fun kv => if kv.1 = i then (kv.1, v) else kv) j = (lookI l j).map fun x => if j = i then v else x := by
      intro l
      induction l with
      | nil => rfl
      | cons kv l ih =>
        unfold lookI at ih ⊢
        rw [List.map_cons, List.find?_cons, List.find?_cons]
        by_cases h1 : kv.1 = j
        · by_cases h2 : kv.1 = i
          · have : j = i := h1.symm.trans h2
            simp [h2, this]
          · have : ¬ j = i := fun z => h2 (h1.trans z)
            simp [h2, h1, this]
        · by_cases h2 : kv.1 = i
          · have h3 : ¬ i = j := fun z => h1 (h2.trans z)
            simp only [h2, if_true, h3, decide_false]
            simpa using ih
          · simp only [h2, if_false, h1, decide_false]
            exact ih
    rw [this]
    by_cases hj : j = i
    · subst hj
      rw [if_pos rfl]
      obtain ⟨kv, h1, h2⟩ := List.any_eq_true.mp h
      unfold lookI
      cases q : ks.find? fun kv => decide (kv.1 = j) with
      | none => exact absurd h2 (by simpa using List.find?_eq_none.mp q kv h1)
      | some z => simp
    · rw [if_neg hj]
      cases lookI ks j <;> simp [hj]
  · rename_i h
    have hn : lookI ks i = none := by
      unfold lookI
      rw [Option.map_eq_none_iff, List.find?_eq_none]
      intro x hx hc
      exact h (List.any_eq_true.mpr ⟨x, hx, hc⟩)
    unfold lookI at hn ⊢
    rw [List.find?_append]
    by_cases hj : j = i
    · subst hj
      rw [if_pos rfl]
      rw [Option.map_eq_none_iff] at hn
      rw [hn]
      simp
    · rw [if_neg hj]
      have : ¬ i = j := fun z => hj z.symm
      cases ks.find? (fun kv => decide (kv.1 = j)) <;> simp [this]
theorem putI_keys (ks : List (Int × Int)) (i v : Int) : (putI ks i v).map (·.1) = if i ∈ ks.map (·.1) then ks.map (·.1) else ks.map (·.1) ++ [i] := by
  unfold putI
  by_cases h : (ks.any fun kv => decide (kv.1 = i)) = true
  · have hm : i ∈ ks.map (·.1) := by
      obtain ⟨kv, h1, h2⟩ := List.any_eq_true.mp h
      exact List.mem_map.mpr ⟨kv, h1, of_decide_eq_true h2⟩
    rw [if_pos h, if_pos hm, List.map_map]
    refine List.map_congr_left fun kv _ => ?_
    show (if kv.1 = i then (kv.1, v) else kv).1 = kv.1
    split <;> rfl
  · have hm : ¬ i ∈ ks.map (·.1) := fun z => by
      obtain ⟨kv, h1, h2⟩ := List.mem_map.mp z
      exact h (List.any_eq_true.mpr ⟨kv, h1, decide_eq_true h2⟩)
    rw [if_neg h, if_neg hm, List.map_append]
    rfl
theorem putI_nodup {ks : List (Int × Int)} {i v : Int} (h : (ks.map (·.1)).Nodup) : ((putI ks i v).map (·.1)).Nodup := by
  rw [putI_keys]
  split
  · exact h
  · rename_i hm
    rw [List.nodup_append]
    exact ⟨h, by simp, fun a ha b hb => by rw [List.mem_singleton] at hb; subst hb; exact fun z => hm (z ▸ ha)⟩
theorem putI_len (ks : List (Int × Int)) (i v : Int) : (putI ks i v).length ≤ ks.length + 1 := by
  unfold putI
  split
  · rw [List.length_map]; omega
  · rw [List.length_append]; exact Nat.le_refl _
theorem lookI_mem {ks : List (Int × Int)} {i : Int} (h : i ∈ ks.map (·.1)) : ∃ v, lookI ks i = some v ∧ (i, v) ∈ ks := by
  unfold lookI
  cases q : ks.find? fun kv => decide (kv.1 = i) with
  | none =>
    obtain ⟨kv, h1, h2⟩ := List.mem_map.mp h
    exact absurd (decide_eq_true h2) (by simpa using List.find?_eq_none.mp q kv h1)
  | some kv =>
    have h1 := List.find?_some q
    have h2 := List.mem_of_find?_eq_some q
    refine ⟨kv.2, rfl, ?_⟩
    have e : kv.1 = i := by simpa using h1
    rw [← e]; exact h2
theorem lookI_isSome {ks : List (Int × Int)} {i : Int} : (lookI ks i).isSome = decide (i ∈ ks.map (·.1)) := by
  by_cases h : i ∈ ks.map (·.1)
  · obtain ⟨v, h1, _⟩ := lookI_mem h
    rw [h1, decide_eq_true h]; rfl
  · rw [decide_eq_false h]
    unfold lookI
    cases q : ks.find? fun kv => decide (kv.1 = i) with
    | none => rfl
    | some kv =>
      have h1 := List.find?_some q
      exact absurd (List.mem_map.mpr ⟨kv, List.mem_of_find?_eq_some q, by simpa using h1⟩) h
theorem putI_mem {ks : List (Int × Int)} {i v : Int} {p : Int × Int} (h : p ∈ putI ks i v) : p ∈ ks ∨ p = (i, v) := by
  unfold putI at h
  split at h
  · obtain ⟨kv, h1, h2⟩ := List.mem_map.mp h
    split at h2
    · rename_i h3; right; rw [← h2, h3]
    · left; rw [← h2]; exact h1
  · rcases List.mem_append.mp h with h | h
    · exact .inl h
    · exact .inr (List.mem_singleton.mp h)
section
variable {X : Cx}
theorem i_dctI {i : Int} {ks : List (Int × Int)} (C : Cxt X) (h : (lookI ks i).isSome = true) : Iop X (.dct (dI ks)) (.int i) (.int ((lookI ks i).getD 0)) := by
  obtain ⟨v, hv⟩ := Option.isSome_iff_exists.mp h
  rw [hv]
  exact i_dct C (by rw [lookD_dI, hv]; rfl)
theorem c_inDI {i : Int} {ks : List (Int × Int)} (C : Cxt X) : Cop X .In (.int i) (.dct (dI ks)) (decide (i ∈ ks.map (·.1))) := by
  have h := c_inD (i := i) (ks := dI ks) C
  rw [lookD_dI, Option.isSome_map, lookI_isSome] at h
  exact h
theorem c_ninDI {i : Int} {ks : List (Int × Int)} (C : Cxt X) : Cop X .NotIn (.int i) (.dct (dI ks)) (!decide (i ∈ ks.map (·.1))) := by
  have h := c_ninD (i := i) (ks := dI ks) C
  rw [lookD_dI, Option.isSome_map, lookI_isSome] at h
  exact h
theorem bf_of {n : Str} {ds zs : List Dt} (h : BfnN X n ds zs) : Bfn X n ds (.lst zs) := by
  obtain ⟨r, h1, hk, h2, h3⟩ := h
  exact ⟨r, h1, fun S Γ σ H0 H vs en hd hL Q q => hk S Γ σ H0 H vs en hd hL Q fun w H' hn => q w H' (pst_nst hn), h2, h3⟩
/-- the item at a place that is there -/
def atZ {α : Type} [Inhabited α] (xs : List α) (i : Int) : α := (atI xs i).getD default
theorem atZ_ok {α : Type} [Inhabited α] {xs : List α} {i : Int} (h0 : 0 ≤ i) (h : i < xs.length) : atI xs i = some (atZ xs i) := by
  obtain ⟨n, rfl⟩ := Int.eq_ofNat_of_zero_le h0
  have hn : n < xs.length := by omega
  have e : atI xs (n : Int) = some xs[n] := atI_nat (List.getElem?_eq_getElem hn)
  unfold atZ
  rw [e]; rfl
theorem atZ_nat {α : Type} [Inhabited α] {xs : List α} {n : Nat} (h : n < xs.length) : atZ xs (n : Int) = xs[n] := by
  have e : atI xs (n : Int) = some xs[n] := atI_nat (List.getElem?_eq_getElem h)
  unfold atZ
  rw [e]; rfl
theorem atZ_mem {α : Type} [Inhabited α] {xs : List α} {i : Int} (h0 : 0 ≤ i) (h : i < xs.length) : atZ xs i ∈ xs := by
  obtain ⟨n, rfl⟩ := Int.eq_ofNat_of_zero_le h0
  have hn : n < xs.length := by omega
  rw [atZ_nat hn]
  exact List.getElem_mem hn
/-- the bounds of an index -/
structure Bnd {α : Type} (xs : List α) (i : Int) : Prop where
  lo : 0 ≤ i
  hi : i < xs.length
theorem i_lstM {α : Type} [Inhabited α] {enc : α → Dt} {xs : List α} {i : Int} (h : Bnd xs i) : Iop X (.lst (xs.map enc)) (.int i) (enc (atZ xs i)) := i_lst (by rw [atI_map, atZ_ok h.lo h.hi]; rfl)
theorem i_tupM {α : Type} [Inhabited α] {enc : α → Dt} {xs : List α} {i : Int} (h : Bnd xs i) : Iop X (.tup (xs.map enc)) (.int i) (enc (atZ xs i)) := i_tup (by rw [atI_map, atZ_ok h.lo h.hi]; rfl)
theorem i_tup0 {a : Dt} {ds : List Dt} : Iop X (.tup (a :: ds)) (.int 0) a := i_tup (atI_nat (j := 0) rfl)
theorem i_tup1 {a b : Dt} {ds : List Dt} : Iop X (.tup (a :: b :: ds)) (.int 1) b := i_tup (atI_nat (j := 1) rfl)
theorem i_tup2 {a b c : Dt} {ds : List Dt} : Iop X (.tup (a :: b :: c :: ds)) (.int 2) c := i_tup (atI_nat (j := 2) rfl)
theorem i_lst0 {a : Dt} {ds : List Dt} : Iop X (.lst (a :: ds)) (.int 0) a := i_lst (atI_nat (j := 0) rfl)
theorem i_lst1 {a b : Dt} {ds : List Dt} : Iop X (.lst (a :: b :: ds)) (.int 1) b := i_lst (atI_nat (j := 1) rfl)
end
theorem cmul_sign {i j : Int} (h : j = 1 ∨ j = -1) : CMul i j := cmulR (by omega)
end Fl
namespace Fl
open PySem L2

/-! ### kinds -/
structure Knd (d : Dt) : Prop where
  h : tyD d ≠ ""
theorem knd_int {i : Int} : Knd (.int i) := ⟨(by decide : ¬ ("int" = ""))⟩
theorem knd_bl {i : Bool} : Knd (.bl i) := ⟨(by decide : ¬ ("bool" = ""))⟩
theorem knd_str {i : Str} : Knd (.str i) := ⟨(by decide : ¬ ("str" = ""))⟩
theorem knd_non : Knd .non := ⟨(by decide : ¬ ("NoneType" = ""))⟩
theorem knd_tup {ds : List Dt} : Knd (.tup ds) := ⟨(by decide : ¬ ("tuple" = ""))⟩
theorem knd_lst {ds : List Dt} : Knd (.lst ds) := ⟨(by decide : ¬ ("list" = ""))⟩
theorem knd_dct {ks : List (Int × Dt)} : Knd (.dct ks) := ⟨(by decide : ¬ ("dict" = ""))⟩
def isI : Dt → Bool
  | .int _ => true
  | _ => false
inductive Isi : Dt → String → Bool → Prop
  | ii {i} : Isi (.int i) "int" true
  | ib {i} : Isi (.int i) "bool" false
  | is {i} : Isi (.int i) "str" false
  | il {i} : Isi (.int i) "list" false
  | it {i} : Isi (.int i) "tuple" false
  | bi {i} : Isi (.bl i) "int" true
  | bb {i} : Isi (.bl i) "bool" true
  | bs {i} : Isi (.bl i) "str" false
  | bl {i} : Isi (.bl i) "list" false
  | bt {i} : Isi (.bl i) "tuple" false
  | ni : Isi .non "int" false
  | nb : Isi .non "bool" false
  | ns : Isi .non "str" false
  | nl : Isi .non "list" false
  | nt : Isi .non "tuple" false
  | si {i} : Isi (.str i) "int" false
  | sb {i} : Isi (.str i) "bool" false
  | ss {i} : Isi (.str i) "str" true
  | sl {i} : Isi (.str i) "list" false
  | st {i} : Isi (.str i) "tuple" false
  | li {i} : Isi (.lst i) "int" false
  | lb {i} : Isi (.lst i) "bool" false
  | ls {i} : Isi (.lst i) "str" false
  | ll {i} : Isi (.lst i) "list" true
  | lt {i} : Isi (.lst i) "tuple" false
  | ti {i} : Isi (.tup i) "int" false
  | tb {i} : Isi (.tup i) "bool" false
  | ts {i} : Isi (.tup i) "str" false
  | tl {i} : Isi (.tup i) "list" false
  | tt {i} : Isi (.tup i) "tuple" true
  | di {i} : Isi (.dct i) "int" false
  | db {i} : Isi (.dct i) "bool" false
  | ds {i} : Isi (.dct i) "str" false
  | dl {i} : Isi (.dct i) "list" false
  | dt {i} : Isi (.dct i) "tuple" false
theorem isi_kit {d : Dt} {n : String} {b : Bool} (h : Isi d n b) : tyD d ≠ "" ∧ kitB (tyD d) n = some b := by
  cases h <;> (simp only [tyD]; decide +kernel)
section
variable {X : Cx} {S : Bs} {Γ Γ1 Γ2 Γ3 : Ct} {a b e elt : Expr} {x y z d : Dt} {pos : Pos} {D : Pd} {ds es : List Dt} {P : Program} {w : World} {K : PySem.W.Frag} {mg : Str → Option Value} {base : Heap} {N : List Str} {sc scope : Scope} {k : Nat}
theorem bf_isk {n : String} {b : Bool} (h : Isi x n b) : Bfn X "isinstance" [x, .ty n] (.bl b) := bf_isi (isi_kit h).1 (isi_kit h).2
theorem bf_allM {α : Type} {xs : List α} {f : α → Bool} (C : Cxt X) : Bfn X "all" [.lst (xs.map fun x => .bl (f x))] (.bl (xs.all f)) := by
  have h := bf_all C (bs := xs.map f)
  rw [List.map_map, List.all_map] at h
  exact h
theorem bf_anyM {α : Type} {xs : List α} {f : α → Bool} (C : Cxt X) : Bfn X "any" [.lst (xs.map fun x => .bl (f x))] (.bl (xs.any f)) := by
  have h := bf_any C (bs := xs.map f)
  rw [List.map_map, List.any_map] at h
  exact h
theorem tw_orT {c : Bool} {rest : List Expr} (h : Tst X S Γ a c Γ) (hc : c = true) : Twh X S Γ (.BoolOp .Or (a :: b :: rest) pos) true Γ := by
  subst hc
  exact tw_or (c' := true) h (fun q => Bool.noConfusion q)
theorem tw_andF {c : Bool} {rest : List Expr} (h : Tst X S Γ a c Γ) (hc : c = false) : Twh X S Γ (.BoolOp .And (a :: b :: rest) pos) false Γ := by
  subst hc
  exact tw_and (c' := true) h (fun q => Bool.noConfusion q)
theorem ev_orT {c : Bool} {rest : List Expr} (h : Ev X S Γ a (.bl c) Γ) (hc : c = true) : Ev X S Γ (.BoolOp .Or (a :: b :: rest) pos) (.bl true) Γ := by
  subst hc
  exact ev_or (c' := true) h (fun q => Bool.noConfusion q)
theorem ev_andF {c : Bool} {rest : List Expr} (h : Ev X S Γ a (.bl c) Γ) (hc : c = false) : Ev X S Γ (.BoolOp .And (a :: b :: rest) pos) (.bl false) Γ := by
  subst hc
  exact ev_and (c' := true) h (fun q => Bool.noConfusion q)
theorem fg_cp : ∀ {Γ Γ' : Ct} {i : Nat} {c : Cell}, Fg Γ Γ' → Fg (cp Γ i c) (cp Γ' i c) := by
  intro Γ
  induction Γ with
  | nil => intro Γ' i c h; cases Γ' with
    | nil => exact h
    | cons _ _ => exact h.elim
  | cons a r ih =>
    intro Γ' i c h
    cases Γ' with
    | nil => exact h.elim
    | cons b s => cases i with
      | zero => exact ⟨.inr rfl, h.2⟩
      | succ i => exact ⟨h.1, ih h.2⟩
/-- for, with a state: what is left of the list, and the state -/
theorem qb_forR {α σ : Type} {enc : α → Dt} {xs : List α} {n : Str} {i : Nat} {p : Pos} {body rest : List Stmt} (E : σ → Ct) (I : List α → σ → Prop) (s0 : σ) (hff : ∀ x, foldedSetIterable e X.env x = pure x) (cx : Cxt X) (hb : Bd X P w K mg base N sc k) (hf : ∀ x, X.fn x = true) (hix : N[i]? = some n) (hv : locB sc n = true)
    (hi : Itd X S Γ (.Name n p) e (xs.map enc) Γ1) (h0 : Fg Γ1 (E s0)) (h1 : I xs s0)
    (hs : ∀ (x : α) (r : List α) (s : σ), x ∈ xs → I (x :: r) s → Ws X S (cp (E s) i (.val (enc x))) body { D with nx := fun Γ' => ∃ s', Fg Γ' (E s') ∧ I r s', ct := fun Γ' => ∃ s', Fg Γ' (E s') ∧ I r s', bk := fun Γ' => Ws X S Γ' rest D }) (hd : ∀ s, I [] s → Ws X S (E s) rest D) : Ws X S Γ (.For (.Name n p) e body [] pos :: rest) D :=
  qb_forI (fun j Γ' => ∃ s', Fg Γ' (E s') ∧ I (xs.drop j) s') hff cx hb hf hix hv hi ⟨s0, h0, h1⟩ (fun j x Γ' hj ⟨s, hg, hI⟩ => by
    obtain ⟨hjl, rfl⟩ := List.getElem?_eq_some_iff.mp hj
    rw [List.drop_eq_getElem_cons hjl] at hI
    exact ws_forget (fg_cp hg) (hs _ _ s (List.getElem_mem _) hI)) (fun Γ' ⟨s, hg, hI⟩ => by
    rw [List.drop_length] at hI
    exact ws_forget hg (hd s hI))
end
end Fl
namespace Fl
open PySem L2
theorem deq_self {d : Dt} (h : okn 60 d) : deq d d = true := SeqAt.eqv_refl _ h.1
section
variable {X : Cx} {S : Bs} {Γ Γ1 Γ2 Γ3 : Ct} {a b e elt : Expr} {x y z d : Dt} {pos : Pos} {D : Pd} {ds es : List Dt} {P : Program} {w : World} {K : PySem.W.Frag} {mg : Str → Option Value} {base : Heap} {N : List Str} {sc scope : Scope} {k : Nat}
/-- one of two -/
theorem i_two {x y : Dt} {c : Bool} : Iop X (.lst [x, y]) (.int (b2z c)) (if c then y else x) := by
  cases c
  · exact i_lst (atI_nat (j := 0) rfl)
  · exact i_lst (atI_nat (j := 1) rfl)
structure Bit (i : Int) : Prop where
  h : i = 0 ∨ i = 1
theorem i_bit {x y : Dt} {i : Int} (h : Bit i) : Iop X (.lst [x, y]) (.int i) (if decide (i = 1) then y else x) := by
  rcases h.h with rfl | rfl
  · exact i_lst (atI_nat (j := 0) rfl)
  · exact i_lst (atI_nat (j := 1) rfl)
theorem inV_strs (i : Str) (ns : List Str) : inV (.str i) (ns.map V.str) = decide (i ∈ ns) := by
  unfold inV
  rw [List.any_map]
  induction ns with
  | nil => simp
  | cons n ns ih =>
    rw [List.any_cons, ih]
    have : (Function.comp (fun y => eqV y (.str i)) V.str) n = decide (n = i) := by
      show (n == i) = decide (n = i)
      by_cases h : n = i <;> simp [h]
    rw [this]
    by_cases h : n = i
    · simp [h]
    · have h' : ¬ i = n := fun z => h z.symm
      simp [h, h', List.mem_cons]
theorem flat_strs (ns : List Str) : (ns.map V.str).all flatV = true := by
  rw [List.all_eq_true]
  intro v hv
  obtain ⟨n, _, rfl⟩ := List.mem_map.mp hv
  rfl
theorem drs_strs {K : PySem.W.Frag} {H : Hp} : ∀ {vs : List V} {ns : List Str}, Drs K H vs (ns.map .str) → vs = ns.map V.str
  | _, [], .nil => rfl
  | _, _ :: _, .cons h q => by cases h; rw [drs_strs q]; rfl
theorem c_inTS {i : Str} {ns : List Str} : Cop X .In (.str i) (.tup (ns.map .str)) (decide (i ∈ ns)) := ⟨_, op_in_seq, fun S Γ σ H0 H v u en h1 h2 Q q => by
  cases h1
  cases h2 with
  | @tup a xs _ h0 r =>
    rw [drs_strs r] at h0
    exact ⟨a, _, rfl, .inr (.inl (.inl (en.sub _ _ h0))), rfl, flat_strs ns, by rw [if_neg Bool.false_ne_true, inV_strs]; exact q _ _ (pst_bl en)⟩⟩
theorem c_ninTS {i : Str} {ns : List Str} : Cop X .NotIn (.str i) (.tup (ns.map .str)) (!decide (i ∈ ns)) := ⟨_, op_notIn_seq, fun S Γ σ H0 H v u en h1 h2 Q q => by
  cases h1
  cases h2 with
  | @tup a xs _ h0 r =>
    rw [drs_strs r] at h0
    exact ⟨a, _, rfl, .inr (.inl (.inl (en.sub _ _ h0))), rfl, flat_strs ns, by rw [if_pos rfl, inV_strs]; exact q _ _ (pst_bl en)⟩⟩
theorem c_in2 {i x y : Str} : Cop X .In (.str i) (.tup [.str x, .str y]) (decide (i ∈ [x, y])) := c_inTS (ns := [x, y])
theorem c_nin2 {i x y : Str} : Cop X .NotIn (.str i) (.tup [.str x, .str y]) (!decide (i ∈ [x, y])) := c_ninTS (ns := [x, y])
theorem b_of {op : Operator} {zs : List Dt} (h : BopN X op x y zs) : Bop X op x y (.lst zs) := by
  obtain ⟨r, h1, h2⟩ := h
  exact ⟨r, h1, fun S Γ σ H0 H v u en g1 g2 Q q => h2 S Γ σ H0 H v u en g1 g2 Q fun w H' hn => q w H' (pst_nst hn)⟩
theorem bn_catLM {α : Type} {enc : α → Dt} {xs ys : List α} (hz : xs.length + ys.length ≤ sizeLine) : BopN X .Add (.lst (xs.map enc)) (.lst (ys.map enc)) ((xs ++ ys).map enc) := by
  rw [List.map_append]; exact bn_catL (by rw [List.length_map, List.length_map]; exact hz)
theorem bn_catL1 {α : Type} {enc : α → Dt} {xs : List α} {y : α} (hz : xs.length + 1 ≤ sizeLine) : BopN X .Add (.lst (xs.map enc)) (.lst [enc y]) ((xs ++ [y]).map enc) := bn_catLM (ys := [y]) hz
theorem b_catTM {α : Type} {enc : α → Dt} {xs ys : List α} (hz : xs.length + ys.length ≤ sizeLine) : Bop X .Add (.tup (xs.map enc)) (.tup (ys.map enc)) (.tup ((xs ++ ys).map enc)) := by
  rw [List.map_append]; exact b_catT (by rw [List.length_map, List.length_map]; exact hz)
theorem b_catT1 {α : Type} {enc : α → Dt} {xs : List α} {y : α} (hz : xs.length + 1 ≤ sizeLine) : Bop X .Add (.tup (xs.map enc)) (.tup [enc y]) (.tup ((xs ++ [y]).map enc)) := b_catTM (ys := [y]) hz
theorem ws_wk {D' : Pd} {st : List Stmt} (h : Ws X S Γ st D') (hn : ∀ Γ', D'.nx Γ' → D.nx Γ') (hr : ∀ d Γ', D'.rt d Γ' → D.rt d Γ') (hb : ∀ Γ', D'.bk Γ' → D.bk Γ') (hc : ∀ Γ', D'.ct Γ' → D.ct Γ') : Ws X S Γ st D := .mk fun σ H0 H en =>
  m_ss (h.run σ H0 H en) (fun _ _ ⟨h, Γ, e, en, q⟩ => ⟨h, Γ, e, en, hn _ q⟩) (fun _ _ ⟨h, σ, Γ, d, e, en, r, q⟩ => ⟨h, σ, Γ, d, e, en, r, hr _ _ q⟩) (fun _ _ ⟨h, Γ, e, en, q⟩ => ⟨h, Γ, e, en, hb _ q⟩) (fun _ _ ⟨h, Γ, e, en, q⟩ => ⟨h, Γ, e, en, hc _ q⟩)
theorem q_whenJ {c : Bool} {s1 rest : List Stmt} (Γj : Ct) (ht : Tst X S Γ e c Γ1) (h1 : c = true → Ws X S Γ1 s1 { D with nx := fun Γ' => Fg Γ' Γj }) (h2 : c = false → Fg Γ1 Γj) (kk : Ws X S Γj rest D) : Ws X S Γ (.If e s1 [] pos :: rest) D :=
  q_when ht (fun hc => ws_wk (h1 hc) (fun Γ' hg => ws_forget hg kk) (fun _ _ h => h) (fun _ h => h) (fun _ h => h)) fun hc => ws_forget (h2 hc) kk
theorem bf_lenLM {α : Type} {enc : α → Dt} {xs : List α} : Bfn X "len" [.lst (xs.map enc)] (.int (xs.length : Int)) := by
  have h := bf_lenL (X := X) (ds := xs.map enc)
  rw [List.length_map] at h
  exact h
theorem bf_lenTM {α : Type} {enc : α → Dt} {xs : List α} : Bfn X "len" [.tup (xs.map enc)] (.int (xs.length : Int)) := by
  have h := bf_lenT (X := X) (ds := xs.map enc)
  rw [List.length_map] at h
  exact h
end
end Fl
/-! ### tuples are compared while they are sorted, the empty one among them -/
namespace FlS
open PySem PySem.Calls PyProof.Rows PySem.W PySem.SeqAt
section
variable {A : Around} {s : Shared}
theorem call_tuple_lt {prog : Program} {w : World} {E : Value → Shared → Prop} {Q : Value → Shared → Prop} {l b : Addr} {xs ys : Array Value} {e r : Nat → Bool} (hl : s.heap.IsTuple l xs) (hb : s.heap.IsTuple b ys)
    (he : ∀ j (h1 : j < xs.size) (h2 : j < ys.size), EqAt A.in1 s xs[j] ys[j] (e j)) (hr : ∀ j (h1 : j < xs.size) (h2 : j < ys.size), e j = false → RcLt A.in1 s xs[j] ys[j] (r j))
    (h : Q (.bool (firstLt e r (decide (xs.size < ys.size)) (List.range (min xs.size ys.size)))) s) : wpAny (model prog w) A (call (.builtin "tuple.__lt__") [.ref l, .ref b]) Q E s := by
  obtain ⟨⟨c1, d1, t1, s1⟩, ho, hc, n, hd⟩ := id hl
  obtain ⟨⟨c2, d2, t2, s2⟩, ho2, hc2, n2, hd2⟩ := id hb
  simp only at hc hd hc2 hd2
  subst hc hd hc2 hd2
  exact call_meets F.slot_tuple_lt ⟨_, ho, rfl⟩ F.entry_tuple_lt (F.args_tuple_lt_2 _ _) (tuple_ltAt l b xs ys n n2 d1 d2 s1 s2 e r) ⟨ho, ho2, he, hr, h⟩
theorem oneLt_tup {prog : Program} {w : World} {E : Value → Shared → Prop} {xs ys : List PyData} {a b : Value} {as bs : List Addr} {Q : Bool → Shared → Prop} (ra : Reads s.heap a (.tuple xs) as) (rb : Reads s.heap b (.tuple ys) bs) (h : alike (.tuple xs) (.tuple ys) = true)
    (hu : A.units + min (PyData.tuple xs).depth (PyData.tuple ys).depth < cLine) (hq : Q (dataLt (.tuple xs) (.tuple ys)) s) : wpAny (model prog w) A (oneLt' true a b) Q E s := by
  have hal : alikeAll xs ys = true := by simpa [alike] using h
  cases ra with
  | @tuple l o vs n _ as₁ h1 h2 h3 h4 =>
    cases rb with
    | @tuple l' o' vs' n' _ bs₁ k1 k2 k3 k4 =>
      have n1 : vs.size = xs.length := by simpa using ReadsAll.length _ _ _ h4
      have n2 : vs'.size = ys.length := by simpa using ReadsAll.length _ _ _ k4
      rw [dataLt_tuple, ← firstLt_toks xs ys hal, ← n1, ← n2] at hq
      rw [oneLt'_eq]
      simp only [if_true]
      refine wpAny_bind (wpAny_cRoomFor (room_here hu) ?_)
      refine wpAny_bind (wpAny_callSpecialIfBound?_slot (T := "tuple") ⟨_, h1, h2⟩ F.slot_tuple_lt (call_tuple_lt (e := pairEq xs ys) (r := fun j => dataLt (xs.getD j .none) (ys.getD j .none)) ⟨_, h1, h2, _, h3⟩ ⟨_, k1, k2, _, k3⟩ (fun j j1 j2 => ?_) (fun j j1 j2 hj => ?_) ?_))
      · have := eqAt_alikeAll xs ys A.in1 s vs.toList vs'.toList _ _ h4 k4 hal (room_in hu) j (by simpa using j1) (by simpa using j2)
        simpa using this
      · have := rcLt_alikeAll xs ys A.in1 s vs.toList vs'.toList _ _ h4 k4 hal (room_in hu) j (by simpa using j1) (by simpa using j2) hj
        simpa using this
      · exact wpAny_truthy_bool hq
theorem keyLt_general (x y : Value) : keyLt' general' x y = oneLt' false x y := rfl
/-- the first items of tuples -/
theorem firsts_of {h : Heap} : ∀ {vs : List Value} {ds : List PyData}, EachIs (fun v d => ∃ as, Reads h v d as) vs ds → (∀ d, d ∈ ds → ∃ xs, d = .tuple xs) → ∃ fs : List (Option Value), (fs.all (·.isSome) = true → ∀ d, d ∈ ds → ∃ x r, d = .tuple (x :: r)) ∧
    ∀ (M : Model) (A : Around) (E : Value → Shared → Prop) (s : Shared) (Q : List (Option Value) → Shared → Prop), s.heap = h → Q fs s → wpAny M A (vs.mapM firstOfTuple') Q E s
  | _, _, .nil, _ => ⟨[], fun _ d hd => absurd hd (by simp), fun M A E s Q _ q => by rw [List.mapM_nil]; exact wpAny_pure q⟩
  | _, _, .cons (b := d) ⟨as, r⟩ t, ht => by
    obtain ⟨fs, h1, h2⟩ := firsts_of t fun d hd => ht d (List.mem_cons_of_mem _ hd)
    obtain ⟨xs, rfl⟩ := ht d (List.mem_cons_self ..)
    cases r with
    | @tuple a o vs n _ _ ho hc hd hr =>
      refine ⟨vs[0]? :: fs, fun hall d hd => ?_, fun M A E s Q hs q => ?_⟩
      · rw [List.all_cons, Bool.and_eq_true] at hall
        rcases List.mem_cons.mp hd with rfl | hd
        · cases xs with
          | nil =>
            have : vs.toList = [] := by
              generalize vs.toList = l at hr
              cases hr; rfl
            have e : vs[0]? = none := by rw [← Array.getElem?_toList, this]; rfl
            rw [e] at hall
            exact absurd hall.1 (by simp)
          | cons x r => exact ⟨x, r, rfl⟩
        · exact h1 hall.2 d hd
      · subst hs
        rw [List.mapM_cons]
        refine wpAny_bind ?_
        rw [kas_first_eq]
        refine wpAny_bind ((hc ▸ (Looks.ld ho).andThen .now : Looks M s.heap (typeOf (Value.ref a)) (Value.type "tuple")).here ?_)
        rw [if_neg (by decide)]
        refine wpAny_bind (listItems_at ho hd (wpAny_pure ?_))
        exact wpAny_bind (h2 M A E s _ rfl (wpAny_pure q))
end
section
variable {prog : Program} {w : World} {A : Around} {s : Shared}
theorem sortsAt_tups {vs : List Value} {ds : List PyData} (e : EachIs (fun v d => ∃ as, Reads s.heap v d as) vs ds) (hal : AllAlike ds) (ht : ∀ d, d ∈ ds → ∃ xs, d = .tuple xs) (hu : ∀ d, d ∈ ds → A.units + d.depth < cLine) : SortsAt prog w A s (dataKind s.heap ds) vs := by
  by_cases hne : ∀ d, d ∈ ds → ∃ x r, d = .tuple (x :: r)
  · exact SortsAt.data e hal (.inl hne) hu
  have room : ∀ {d d' : PyData}, d ∈ ds → A.units + min d.depth d'.depth < cLine := fun {d d'} hd => Nat.lt_of_le_of_lt (Nat.add_le_add_left (Nat.min_le_left _ _) _) (hu d hd)
  obtain ⟨fs, h1, h2⟩ := firsts_of e ht
  have hnall : ¬ (fs.toArray.all fun x => x.isSome) = true := fun z => hne (h1 (by simpa using z))
  refine ⟨fun v hv => ?_, ?_⟩
  · obtain ⟨d, hd, as, r⟩ := e.left v hv
    exact ⟨_, dataKind_some hal hd r⟩
  by_cases h0 : (fs.toArray[0]?.bind id).isSome = true
  · refine ⟨general', fun E x y a b Q ha hb hq => ?_, fun hl E Q hq => ?_⟩
    · obtain ⟨d, as, hd, ra, rfl⟩ := dataKind_inv ha
      obtain ⟨d', as', hd', rb, rfl⟩ := dataKind_inv hb
      rw [keyLt_general]
      exact oneLt_alike (fun z => absurd z (by decide)) ra rb (hal d hd d' hd') (fun z => by obtain ⟨xs, q⟩ := ht d hd; rw [z] at q; cases q) (room hd) hq
    · rw [keyKind'_eq, List.mapM_toArray, map_eq_pure_bind]
      refine wpAny_bind (wpAny_bind (h2 _ _ _ _ _ rfl (wpAny_pure ?_)))
      rw [if_neg hnall, if_pos h0]
      exact wpAny_pure hq
  · refine ⟨oneType', fun E x y a b Q ha hb hq => ?_, fun hl E Q hq => ?_⟩
    · obtain ⟨d, as, hd, ra, rfl⟩ := dataKind_inv ha
      obtain ⟨d', as', hd', rb, rfl⟩ := dataKind_inv hb
      rw [keyLt'_oneType]
      obtain ⟨xs, rfl⟩ := ht d hd
      obtain ⟨ys, rfl⟩ := ht d' hd'
      exact oneLt_tup ra rb (hal _ hd _ hd') (room hd) hq
    · rw [keyKind'_eq, List.mapM_toArray, map_eq_pure_bind]
      refine wpAny_bind (wpAny_bind (h2 _ _ _ _ _ rfl (wpAny_pure ?_)))
      rw [if_neg hnall, if_neg h0, oneTypeOnly'_eq, List.mapM_toArray, map_eq_pure_bind]
      have hT : ∀ v ∈ vs, Looks (model prog w) s.heap (typeOf v) (Value.type "tuple") := fun v hv => by
        obtain ⟨d, hd, as, r⟩ := e.left v hv
        obtain ⟨xs, rfl⟩ := ht d hd
        exact looks_reads r
      refine wpAny_bind (wpAny_bind (wpAny_bind (kas_mapM (r := Value.type "tuple") _ (fun v hv Q' hq => (hT v hv).here hq) (wpAny_pure ?_))))
      cases vs with
      | nil => exact absurd hl (by simp)
      | cons v vs =>
        have hall : ((List.map (fun _ => Value.type "tuple") (v :: vs)).toArray.all fun x => x == Value.type "tuple") = true := by
          simp only [List.all_toArray, List.all_map, List.all_eq_true]
          intro _ _
          rfl
        have h3 : (List.map (fun _ => Value.type "tuple") (v :: vs)).toArray[0]? = some (Value.type "tuple") := by simp
        rw [h3]
        simp only [hall, if_true]
        exact wpAny_pure (wpAny_pure hq)
/-- sorted(xs), xs a list that reads as tuples -/
theorem sorted_tupD {E : Value → Shared → Prop} {β : Type} {vs : List Value} {bs : List β} {enc : β → PyData} {R : Value → β → Prop} {l : Addr} {Q : Value → Shared → Prop} (hl : s.heap.IsList l vs.toArray) (e : EachIs R vs bs) (er : EachIs (fun v b => ∃ as, Reads s.heap v (enc b) as) vs bs) (hal : AllAlike (bs.map enc)) (hk : ∀ d, d ∈ bs.map enc → ∃ xs, d = .tuple xs) (hL : bs.length ≤ sizeLine)
    (hu : ∀ b, b ∈ bs → A.units + 2 + (enc b).depth < cLine) (h : ∀ out, out.length = bs.length → EachIs R out (bs.mergeSort (dataLe false enc)) → Q (.ref (s.heap.objs.size + 1)) { s with heap := sortedAll s.heap vs (List.toArray out) }) :
    wpAny (model prog w) A (call (.builtin "sorted") [.ref l]) Q E s := by
  have er' : EachIs (fun v b => ∃ as, Reads (sortingHeap (copyHeap s.heap vs) (s.heap.objs.size + 1) vs) v (enc b) as) vs bs := er.mono fun _ _ ⟨as, r⟩ => ⟨as, PyProof.Rows.Reads.keeps (fun _ _ => sorting_copy_old) r⟩
  exact sorted_vals hl (sortsAt_tups (s := { s with heap := sortingHeap (copyHeap s.heap vs) (s.heap.objs.size + 1) vs }) (each_map (R := fun v d => ∃ as, Reads (sortingHeap (copyHeap s.heap vs) (s.heap.objs.size + 1) vs) v d as) enc er') hal hk (bound_map hu)) (by rw [e.length]; exact hL)
    (h _ (by rw [sortVals_length false rfl]; exact e.length) (sortVals_data false e er' hal))
end
end FlS
namespace Fl
open PySem L2
/-! ### sorted lists of rows -/
def srtR (bs : List (List Int)) : List (List Int) := bs.mergeSort fun a b => decide (a ≤ b)
theorem srtR_perm (bs : List (List Int)) : (srtR bs).Perm bs := List.mergeSort_perm bs _
theorem srtR_mem {bs : List (List Int)} {x : List Int} : x ∈ srtR bs ↔ x ∈ bs := (srtR_perm bs).mem_iff
theorem srtR_pair (bs : List (List Int)) : (srtR bs).Pairwise (· ≤ ·) := by
  have h := List.pairwise_mergeSort (le := fun a b : List Int => decide (a ≤ b)) (fun a b c h1 h2 => decide_eq_true (List.le_trans (of_decide_eq_true h1) (of_decide_eq_true h2))) (fun a b => by
    rcases List.le_total a b with h | h
    · rw [decide_eq_true h]; rfl
    · rw [decide_eq_true h, Bool.or_true]) bs
  exact h.imp fun h => by simpa using h
theorem srtR_of_perm {bs cs : List (List Int)} (h : bs.Perm cs) : srtR bs = srtR cs :=
  List.Perm.eq_of_pairwise (fun a b _ _ h1 h2 => List.le_antisymm h1 h2) (srtR_pair bs) (srtR_pair cs) ((srtR_perm bs).trans (h.trans (srtR_perm cs).symm))
theorem srtR_len (bs : List (List Int)) : (srtR bs).length = bs.length := (srtR_perm bs).length_eq
theorem pys_ints (x : List Int) : pys (x.map .int) = x.map .int := by rw [pys_map, List.map_map]; rfl
theorem dataLt_tupI (x y : List Int) : PySem.W.dataLt (.tuple (x.map .int)) (.tuple (y.map .int)) = decide (x < y) := by
  rw [PySem.W.dataLt_tuple]
  show PySem.W.rowLt (x.map .int) (y.map .int) = _
  rw [PySem.W.dataLt_ints]
theorem dataLe_tupI : PySem.W.dataLe false (fun x : List Int => .tuple (x.map .int)) = fun a b => decide (a ≤ b) := by
  funext p q
  show (!PySem.W.dataLt (.tuple (q.map .int)) (.tuple (p.map .int))) = _
  rw [dataLt_tupI]
  by_cases h : q < p
  · have h' : ¬ p ≤ q := fun r => List.not_lt.mpr r h
    simp [h, h']
  · have h' : p ≤ q := List.not_lt.mp h
    simp [h, h']
def rSortE (K : PySem.W.Frag) (enc : List Int → Dt) : List V → Hp → VK → Prop := fun vs H Q => ∃ (H0 : Hp) (a : Addr) (xs : List V) (bs : List (List Int)), vs = [V.ref a] ∧ SqL K H a xs ∧ Drs K H0 xs (bs.map enc) ∧ Ex H0 H ∧
  ∀ (ys : List V) (p : Addr), Drs K H0 ys ((srtR bs).map enc) → H p = none → Q (.ref p) (upd H p (.lst ys))
section
variable {K : PySem.W.Frag} {H0 : Hp} {α : Type} {enc : α → Dt}
/-- a value that stands for an item -/
def Stands (K : PySem.W.Frag) (H0 : Hp) (enc : α → Dt) (u : Value) (b : α) : Prop := ∃ v : V, RelV v u ∧ Dr K H0 v (enc b)
theorem each_stands : ∀ {xs : List V} {us : List Value} {bs : List α}, Vals xs us → Drs K H0 xs (bs.map enc) → PySem.W.EachIs (Stands K H0 enc) us bs
  | _, _, [], .nil, .nil => .nil
  | _, _, _ :: _, .cons r t, .cons h q => .cons ⟨_, r, h⟩ (each_stands t q)
theorem stands_each : ∀ {us : List Value} {bs : List α}, PySem.W.EachIs (Stands K H0 enc) us bs → ∃ xs, Vals xs us ∧ Drs K H0 xs (bs.map enc)
  | _, _, .nil => ⟨[], .nil, .nil⟩
  | _, _, .cons ⟨v, r, h⟩ t => by
    obtain ⟨xs, h1, h2⟩ := stands_each t
    exact ⟨v :: xs, .cons r h1, .cons h h2⟩
end
section
variable {X : Cx}
theorem reads_stands {pins : List (Addr × Obj)} {σ : L2.St} {H H0 : Hp} {s : Shared} (I : Inv X pins σ H s) (e : Ex H0 H) {α : Type} {enc : α → Dt} (hc : ∀ b, PyData.canLay0 (py (enc b)) = true) {us : List Value} {bs : List α} (h : PySem.W.EachIs (Stands X.K H0 enc) us bs) :
    PySem.W.EachIs (fun u b => ∃ as, Reads s.heap u (py (enc b)) as) us bs := h.mono fun u b ⟨v, r, d⟩ => Dp.reads I _ v u (dp_of (d.mono e) (hc b)) r
theorem sort_out {pins : List (Addr × Obj)} {σ : L2.St} {H H0 : Hp} {s : Shared} (I : Inv X pins σ H s) {α : Type} {enc : α → Dt} {its out : List Value} {bs : List α} {Q : VK} (hz : bs.length ≤ sizeLine) (h : PySem.W.EachIs (Stands X.K H0 enc) out bs)
    (q : ∀ (ys : List V) (p : Addr), Drs X.K H0 ys (bs.map enc) → H p = none → Q (.ref p) (upd H p (.lst ys))) : EP X pins σ Q (.ref (s.heap.objs.size + 1)) { s with heap := PyProof.Rows.sortedAll s.heap its out.toArray } := by
  obtain ⟨ys, h1, h2⟩ := stands_each h
  obtain ⟨ep, he'⟩ := PyProof.Rows.sortedAll_at s.heap its out.toArray
  have hlen : ys.length ≤ sizeLine := by rw [h2.length, List.length_map]; exact hz
  exact ⟨.ref _, upd H (s.heap.objs.size + 1) (.lst ys), I.laid (t' := s.toks) (fun _ _ => PyProof.Rows.sortedAll_old) (Nat.le_succ _) ⟨hlen, out, ep, h1, he'⟩, rfl, q _ _ h2 (I.hok.fresh (Nat.le_succ _))⟩
theorem tup_depth (x : List Int) : (PyData.tuple (x.map .int)).depth = 1 := by rw [PyData.depth, PySem.W.depth_ints]
theorem lst_depth (x : List Int) : (PyData.list (x.map .int)).depth = 1 := by rw [PyData.depth, PySem.W.depth_ints]
theorem cr_sortT (C : Cxt X) : CallR X (.builtin "sorted") (rSortE X.K fun x => .tup (x.map .int)) := by
  intro pins s σ H vs us Q I r h
  obtain ⟨H0, a, xs, bs, rfl, hs, hd, e, q⟩ := h
  obtain ⟨its, rv, hl, hz⟩ := I.list hs
  rw [Vals.ref1 r]
  have hb : bs.length = xs.length := by rw [hd.length, List.length_map]
  have ee := each_stands (enc := fun x : List Int => Dt.tup (x.map .int)) rv hd
  have pe : ∀ x : List Int, py (.tup (x.map .int)) = .tuple (x.map .int) := fun x => by rw [py, pys_ints]
  have er := reads_stands I e (enc := fun x : List Int => Dt.tup (x.map .int)) (fun b => (okn_tup (n := 0) (all_map fun _ _ => okn_int)).1) ee
  refine FlS.sorted_tupD (enc := fun x : List Int => PyData.tuple (x.map .int)) hl.isList ee (er.mono fun u b h => by rw [pe] at h; exact h) (PySem.W.AllAlike.of fun b b' => by simp [PySem.W.alike, PySem.W.alike_ints]) (fun d hd => by obtain ⟨x, _, rfl⟩ := List.mem_map.mp hd; exact ⟨_, rfl⟩) (by rw [hb]; exact hz) (fun b _ => by rw [tup_depth]; have := C.units; omega) fun out ho eo => ?_
  rw [dataLe_tupI] at eo
  exact sort_out I (by show (srtR bs).length ≤ _; rw [srtR_len, hb]; exact hz) eo q
theorem cr_sortL (C : Cxt X) : CallR X (.builtin "sorted") (rSortE X.K fun x => .lst (x.map .int)) := by
  intro pins s σ H vs us Q I r h
  obtain ⟨H0, a, xs, bs, rfl, hs, hd, e, q⟩ := h
  obtain ⟨its, rv, hl, hz⟩ := I.list hs
  rw [Vals.ref1 r]
  have hb : bs.length = xs.length := by rw [hd.length, List.length_map]
  have ee := each_stands (enc := fun x : List Int => Dt.lst (x.map .int)) rv hd
  have pe : ∀ x : List Int, py (.lst (x.map .int)) = .list (x.map .int) := fun x => by rw [py, pys_ints]
  have er := reads_stands I e (enc := fun x : List Int => Dt.lst (x.map .int)) (fun b => (okn_lst (n := 0) (all_map fun _ _ => okn_int)).1) ee
  refine PySem.W.sorted_data (enc := fun x : List Int => PyData.list (x.map .int)) hl.isList ee (er.mono fun u b h => by rw [pe] at h; exact h) (PySem.W.AllAlike.of fun b b' => by simp [PySem.W.alike, PySem.W.alike_ints]) (PySem.W.Sortable.others fun b => ⟨(fun z => nomatch z), fun xs z => nomatch z⟩) (by rw [hb]; exact hz) (fun b _ => by rw [lst_depth]; have := C.units; omega) fun out ho eo => ?_
  rw [PySem.W.dataLe_rows fun x => x] at eo
  exact sort_out I (by show (srtR bs).length ≤ _; rw [srtR_len, hb]; exact hz) eo q
theorem bfn_sortT (C : Cxt X) {bs : List (List Int)} : BfnN X "sorted" [.lst (bs.map eT)] ((srtR bs).map eT) := bfn_b PyProof.Rows.boot_sorted (cr_sortT C) fun S Γ σ H0 H vs en r hL Q q => by
  obtain ⟨v, rfl, h⟩ := dr1 r
  cases h with
  | @lst p xs _ h0 r => exact ⟨H0, p, xs, bs, rfl, .inl (.inl (en.sub _ _ h0)), r, en.sub, fun ys p hd hp => q _ _ (nst_new en hp hd)⟩
theorem bfn_sortL (C : Cxt X) {bs : List (List Int)} : BfnN X "sorted" [.lst (bs.map eL)] ((srtR bs).map eL) := bfn_b PyProof.Rows.boot_sorted (cr_sortL C) fun S Γ σ H0 H vs en r hL Q q => by
  obtain ⟨v, rfl, h⟩ := dr1 r
  cases h with
  | @lst p xs _ h0 r => exact ⟨H0, p, xs, bs, rfl, .inl (.inl (en.sub _ _ h0)), r, en.sub, fun ys p hd hp => q _ _ (nst_new en hp hd)⟩
end
end Fl
namespace Fl
open PySem L2
/-! ### sorted(xs, key=abs), sorted(xs, key=len) -/
def CallKb (X : Cx) (kid : String) (r : List V → Hp → VK → Prop) : Prop :=
  ∀ (pins : List (Addr × Obj)) (s : Shared) (σ : L2.St) (H : Hp) (xs : List V) (us : List Value) (Q : VK), Inv X pins σ H s → Vals xs us → r xs H Q → wpAny (model X.prog X.w) X.A (call (.builtin "sorted") us [(Str.ofString "key", .builtin kid)]) (EP X pins σ Q) X.xe s
def tKb (r : List V → Hp → VK → Prop) (t : TA) : TE := fun σ H Q => t σ H fun vs H1 => r vs H1 Q
section
variable {X : Cx} {S : Bs} {Γ Γ1 : Ct} {a : Expr} {pos p p2 kp : Pos} {t : TA} {r : List V → Hp → VK → Prop} {P : Program} {w : World} {K : PySem.W.Frag} {mg : Str → Option Value} {base : Heap} {N : List Str} {sc : Scope} {k : Nat}
theorem pe_sortK {kid : String} {kn : Str} (hc : CallKb X kid r) (B : Blt X (Str.ofString "sorted")) (B2 : Blt X kn) (hv2 : bootBuiltins kn = some (.builtin kid)) (h1 : kn ≠ "__name__") (h2 : (kn == ("__debug__" : Str)) = false) (ha : PA X [a] t)
    (he : backTo pos (starEach [a] X.env) = (false, eval a X.env) :: backTo pos (starEach [] X.env)) (hpl : (backTo pos (starEach [a] X.env)).any (·.1) = false) :
    PE X (.Call (.Name (Str.ofString "sorted") p) [a] [⟨some (Str.ofString "key"), .Name kn p2, kp⟩] pos) (tKb r t) := by
  refine ⟨fun pins s σ H Q I h => ?_⟩
  refine wpAny_Call_Name_kw (ld_blt I B.gl B.mg PyProof.Rows.boot_sorted ?_ (by decide +kernel) (by decide +kernel))
  refine PyProof.Rows.callWith_kw (thn (ha.run pos pins s σ H _ I h) fun us s1 ⟨vs, H1, I1, r1, q1⟩ => ?_) he hpl rfl rfl
  show wpAny _ _ (evalAll ((do let v ← eval (.Name kn p2) X.env; standAt pos; pure v) :: [])) _ _ s1
  refine wpAny_evalAll_cons (wpAny_bind (ld_blt I1 B2.gl B2.mg hv2 (wpAny_bind (wpAny_standAt (wpAny_pure ?_))) h1 h2))
  refine wpAny_evalAll_nil ?_
  exact hc pins s1 σ H1 vs us Q I1 r1 q1
/-- what sorted by a key answers -/
def srtK {α : Type} (f : α → Int) (bs : List α) : List α := bs.mergeSort fun a b => decide (f a ≤ f b)
def rSortK {α : Type} (K : PySem.W.Frag) (enc : α → Dt) (f : α → Int) : List V → Hp → VK → Prop := fun vs H Q => ∃ (H0 : Hp) (a : Addr) (xs : List V) (bs : List α), vs = [V.ref a] ∧ SqL K H a xs ∧ Drs K H0 xs (bs.map enc) ∧ Ex H0 H ∧
  ∀ (ys : List V) (p : Addr), Drs K H0 ys ((srtK f bs).map enc) → H p = none → Q (.ref p) (upd H p (.lst ys))
theorem sort_key {α : Type} {enc : α → Dt} {f : α → Int} {kid : String} (C : Cxt X)
    (ht : ∀ (pins : List (Addr × Obj)) (s : Shared) (σ : L2.St) (H H0 : Hp) (u : Value) (b : α), Inv X pins σ H s → Ex H0 H → Stands X.K H0 enc u b → ∀ (h : Heap) (tk : Nat), (∀ b o, s.heap.get? b = some o → h.get? b = some o) →
      wpAny (model X.prog X.w) X.A.in1.in1 (call (.builtin kid) [u]) (PySem.W.KeyPure (.int (f b)) { s with heap := h, toks := tk }) (fun _ _ => False) { s with heap := h, toks := tk }) : CallKb X kid (rSortK X.K enc f) := by
  intro pins s σ H vs us Q I r h
  obtain ⟨H0, a, xs, bs, rfl, hs, hd, e, q⟩ := h
  obtain ⟨its, rv, hl, hz⟩ := I.list hs
  rw [Vals.ref1 r]
  have hb : bs.length = xs.length := by rw [hd.length, List.length_map]
  refine PySem.W.sorted_key_data (b := false) (fun x => PyData.int (f x)) hl.isList (each_stands rv hd) (PySem.W.AllAlike.of fun _ _ => by simp [PySem.W.alike]) (PySem.W.Sortable.others fun _ => ⟨(fun z => nomatch z), fun xs z => nomatch z⟩) (by rw [hb]; exact hz) (fun _ _ => by have := C.units; show _ + 2 + 0 < _; omega)
    (PyProof.Rows.ksk_s1 _ _) (fun _ => PyProof.Rows.ksk_l1 _ _) (fun x => PyProof.Rows.ksk_t4 kid x) (fun v x hR _ h tk kp => ht pins s σ H H0 v x I e hR h tk kp) fun out c h' tk k0 hn he' ho eo => ?_
  rw [PySem.W.dataLe_int] at eo
  obtain ⟨ys, h1, h2⟩ := stands_each eo
  have hlen : ys.length ≤ sizeLine := by rw [h2.length, List.length_map, (List.mergeSort_perm bs _).length_eq, hb]; exact hz
  exact ⟨.ref _, upd H (s.heap.objs.size + 1) (.lst ys), I.laid (t' := tk) k0 (Nat.le_succ _) ⟨hlen, out, c, h1, he'⟩, rfl, q _ _ h2 (I.hok.fresh (Nat.le_succ _))⟩
theorem ck_abs (C : Cxt X) : CallKb X "abs" (rSortK X.K .int fun i : Int => (i.natAbs : Int)) := sort_key C fun pins s σ H H0 u b I e ⟨v, r, d⟩ h tk kp => by
  cases d
  obtain ⟨t, rfl⟩ := r
  refine PyProof.Rows.call_abs_int fun u tk' => ⟨h, tk', rfl, fun _ _ z => z, ?_⟩
  have : (if b < 0 then -b else b) = (b.natAbs : Int) := by split <;> omega
  rw [this]
  exact Reads.int _ _
theorem ck_len (C : Cxt X) : CallKb X "len" (rSortK X.K (fun x : List Int => .tup (x.map .int)) fun x : List Int => (x.length : Int)) := sort_key C fun pins s σ H H0 u b I e ⟨v, r, d⟩ h tk kp => by
  cases d with
  | @tup p xs _ h0 rr =>
    cases r
    obtain ⟨its, r', ⟨o, e1, hc, n, e2⟩, hz⟩ := I.tuple (.inl (.inl (e _ _ h0)) : SqT X.K H p xs)
    have hn := line63
    have hlen := r'.length
    have hl2 := rr.length
    rw [List.length_map] at hl2
    have hsz : its.toArray.size = b.length := by rw [List.size_toArray, ← hlen, hl2]
    refine PyProof.Rows.len_tuple (s := { s with heap := h, toks := tk }) ⟨o, kp _ _ e1, hc, n, e2⟩ (by rw [hsz, ← hl2]; omega) ⟨h, tk + 1 + 1, rfl, fun _ _ z => z, ?_⟩
    rw [hsz]
    exact Reads.int _ _
theorem ck_lenT (C : Cxt X) : CallKb X "len" (rSortK X.K eT fun x : List Int => (x.length : Int)) := ck_len C
theorem evn_sortK {α : Type} {enc : α → Dt} {f : α → Int} {kid : String} {kn : Str} {bs : List α} (he : backTo pos (starEach [a] X.env) = (false, eval a X.env) :: backTo pos (starEach [] X.env)) (hpl : (backTo pos (starEach [a] X.env)).any (·.1) = false) (hst : starEach [a] X.env = [(false, eval a X.env)])
    (hv2 : bootBuiltins kn = some (.builtin kid)) (hc : CallKb X kid (rSortK X.K enc f)) (hm : mg (Str.ofString "sorted") = none) (hm2 : mg kn = none) (hb : Bd X P w K mg base N sc k) (hv : (gloB sc (Str.ofString "sorted") && gloC sc kn && !decide (kn = "__name__")) = true) (h : Ev X S Γ a (.lst (bs.map enc)) Γ1) :
    EvN X S Γ (.Call (.Name (Str.ofString "sorted") p) [a] [⟨some (Str.ofString "key"), .Name kn p2, kp⟩] pos) ((srtK f bs).map enc) Γ1 := .mk fun σ H0 H en => by
  unfold gloC at hv
  simp only [Bool.and_eq_true, Bool.not_eq_true', decide_eq_false_iff_not] at hv
  refine s_e (pe_sortK hc (hb.blt hv.1.1 hm) (hb.blt hv.1.2.1 hm2) hv2 hv.2 hv.1.2.2 (pa_cons pe_s pa_nil hst) he hpl) (m_e (h.run σ H0 H en) fun v H1 ⟨H01, e1, en1, r⟩ => ?_)
  cases r with
  | @lst A xs _ h0 r =>
    refine ⟨H01, A, xs, bs, rfl, .inl (.inl (en1.sub _ _ h0)), r, en1.sub, fun ys q hd hq => ?_⟩
    obtain ⟨H02, l, zs, e2, z⟩ := nst_new en1 hq hd
    exact ⟨H02, l, zs, e1.trans e2, z⟩
end
theorem srtK_perm {α : Type} (f : α → Int) (bs : List α) : (srtK f bs).Perm bs := List.mergeSort_perm bs _
theorem srtK_pair {α : Type} (f : α → Int) (bs : List α) : (srtK f bs).Pairwise fun a b => f a ≤ f b := by
  have h := List.pairwise_mergeSort (le := fun a b : α => decide (f a ≤ f b)) (fun a b c h1 h2 => by simp at *; omega) (fun a b => by simp; omega) bs
  exact h.imp fun h => by simpa using h
end Fl
namespace Fl
open PySem L2
section
variable {X : Cx} {S : Bs} {Γ Γ1 Γ2 Γ3 : Ct} {a b e elt : Expr} {x y z d : Dt} {pos : Pos} {D : Pd} {ds es : List Dt} {P : Program} {w : World} {K : PySem.W.Frag} {mg : Str → Option Value} {base : Heap} {N : List Str} {sc scope : Scope} {k : Nat}
/-! ### own lists by the table -/
theorem eb_app {n : Str} {i : Nat} {f : Option Addr} {p p2 : Pos} (hs : starEach [e] X.env = [(false, eval e X.env)]) (hfew : ((backTo pos (starEach [e] X.env)).all (fun x => !x.1) && (backToKw pos (keywordEach [] X.env)).all (fun x => x.1.isSome) && decide ([e].length + ([] : List Keyword).length + (if ([] : List Keyword).isEmpty then 0 else 1) < 30)) = true) (hline : (p2.endLine == pos.line) = true)
    (hb : Bd X P w K mg base N sc k) (hix : N[i]? = some n) (hg : cg Γ i = some (.own f ds)) (hv : namB sc n = true) (h : Ev X S Γ e d Γ1) (hg1 : cg Γ1 i = some (.own f es)) (hz : es.length < sizeLine) (hp : cp Γ1 i (.own f (es ++ [d])) = Γ2) : Ev X S Γ (.Call (.Attribute (.Name n p) "append" p2) [e] [] pos) .non Γ2 :=
  ev_app hs hfew hline (hb.nam' hix hv) hg h hg1 hz hp
theorem eb_ext {n : Str} {i : Nat} {f : Option Addr} {p p2 : Pos} {zs : List Dt} (hs : starEach [e] X.env = [(false, eval e X.env)]) (hfew : ((backTo pos (starEach [e] X.env)).all (fun x => !x.1) && (backToKw pos (keywordEach [] X.env)).all (fun x => x.1.isSome) && decide ([e].length + ([] : List Keyword).length + (if ([] : List Keyword).isEmpty then 0 else 1) < 30)) = true) (hline : (p2.endLine == pos.line) = true)
    (hb : Bd X P w K mg base N sc k) (hix : N[i]? = some n) (hg : cg Γ i = some (.own f ds)) (hv : namB sc n = true) (h : Ev X S Γ e (.lst zs) Γ1) (hg1 : cg Γ1 i = some (.own f es)) (hz : es.length + zs.length ≤ sizeLine) (hp : cp Γ1 i (.own f (es ++ zs)) = Γ2) : Ev X S Γ (.Call (.Attribute (.Name n p) "extend" p2) [e] [] pos) .non Γ2 :=
  ev_ext hs hfew hline (hb.nam' hix hv) hg h hg1 hz hp
theorem eb_pop {n : Str} {i : Nat} {f : Option Addr} {p p2 : Pos} (hline : (p2.endLine == pos.line) = true) (hb : Bd X P w K mg base N sc k) (hix : N[i]? = some n) (hg : cg Γ i = some (.own f (ds ++ [d]))) (hv : namB sc n = true) (hp : cp Γ i (.own f ds) = Γ2) : Ev X S Γ (.Call (.Attribute (.Name n p) "pop" p2) [] [] pos) d Γ2 :=
  ev_pop (hb.nam' hix hv) hg hp hline
theorem eb_idxOM {α : Type} [Inhabited α] {enc : α → Dt} {xs : List α} {n : Str} {i : Nat} {f : Option Addr} {p : Pos} {j : Int} (hs : PlainIx b) (hb : Bd X P w K mg base N sc k) (hix : N[i]? = some n) (hg : cg Γ i = some (.own f (xs.map enc))) (hv : namB sc n = true) (h : Ev X S Γ b (.int j) Γ) (hj : Bnd xs j) : Ev X S Γ (.Subscript (.Name n p) b pos) (enc (atZ xs j)) Γ :=
  ev_idxO hs (hb.nam' hix hv) hg h (by rw [atI_map, atZ_ok hj.lo hj.hi]; rfl)
theorem sw_cell {gs : List Comprehension} {scp : Scope} {pos2 py : Pos} {y : Str} {l : Nat} (hb : Bd X P w K mg base N sc k) (h : decide (sc.names.lookup y = some .cell) = true) : swapsWith (.ListComp elt gs scp pos2) (some (.Name y py)) l X.env = pure false := by
  have ky : X.env.kindOf y = some .cell := by
    show X.env.scope.names.lookup y = _
    rw [hb.hs]
    exact of_decide_eq_true h
  unfold swapsWith
  simp only [ky]
  have : (some NameKind.cell == some NameKind.local) = false := by decide
  rw [this, Bool.and_false, Bool.false_and, Bool.false_and]
theorem qb_setNc {gs : List Comprehension} {scp : Scope} {pos2 : Pos} {n : Str} {i : Nat} {p : Pos} {ds : List Dt} {rest : List Stmt} (hc : decide (sc.names.lookup n = some .cell) = true) (hb : Bd X P w K mg base N sc k) (hf : ∀ x, X.fn x = true) (hix : N[i]? = some n) (hv : locB sc n = true)
    (h : EvN X S Γ (.ListComp elt gs scp pos2) ds Γ1) (hp : cp Γ1 i (.own none ds) = Γ2) (kk : Ws X S Γ2 rest D) : Ws X S Γ (.Assign [.Name n p] (.ListComp elt gs scp pos2) pos :: rest) D := qb_setN (sw_cell hb hc) hb hf hix hv h hp kk
theorem cutD_map {α β : Type} (f : α → β) (xs : List α) (lo hi : Option Int) : cutD (xs.map f) lo hi = (cutD xs lo hi).map f := by
  unfold cutD
  rw [List.length_map, List.map_take, List.map_drop]
theorem ev_slTM {α : Type} {enc : α → Dt} {xs : List α} {lo hi : Option Expr} {l h : Option Int} {p2 : Pos} (ha : Ev X S Γ a (.tup (xs.map enc)) Γ1) (hl : Eo X S Γ1 lo l) (hh : Eo X S Γ1 hi h) : Ev X S Γ (.Subscript a (.Slice lo hi none p2) pos) (.tup ((cutD xs l h).map enc)) Γ1 := by
  rw [← cutD_map]; exact ev_slT ha hl hh
theorem evn_slLM {α : Type} {enc : α → Dt} {xs : List α} {lo hi : Option Expr} {l h : Option Int} {p2 : Pos} (ha : Ev X S Γ a (.lst (xs.map enc)) Γ1) (hl : Eo X S Γ1 lo l) (hh : Eo X S Γ1 hi h) : EvN X S Γ (.Subscript a (.Slice lo hi none p2) pos) ((cutD xs l h).map enc) Γ1 := by
  rw [← cutD_map]; exact evn_slL ha hl hh
theorem wh_mk {D1 D2 : Pd} {c : Bool} {body rest : List Stmt} (ht : Tst X S Γ e c Γ2) (h1 : c = true → Ws X S Γ2 body D1) (h2 : c = false → Ws X S Γ2 rest D2) : ∃ c Γ2, Tst X S Γ e c Γ2 ∧ (c = true → Ws X S Γ2 body D1) ∧ (c = false → Ws X S Γ2 rest D2) := ⟨c, Γ2, ht, h1, h2⟩
end
theorem cdiv_pos {i j : Int} (h : 0 < j ∧ j < 1073741824) : CDiv i j := h
end Fl
/-! ### sorted(set(xs)), xs a list of tuples of ints -/
namespace FlS
open PySem PySem.Calls PyProof.Rows PySem.W PySem.SeqAt
theorem dataLe_pairs : dataLe false (fun b : Addr × List Int => .tuple (b.2.map .int)) = fun p q => decide (p.2 ≤ q.2) := by
  funext p q
  show (!dataLt (.tuple (q.2.map .int)) (.tuple (p.2.map .int))) = _
  rw [Fl.dataLt_tupI]
  by_cases h : q.2 < p.2
  · have h' : ¬ p.2 ≤ q.2 := fun r => List.not_lt.mpr r h
    simp [h, h']
  · have h' : p.2 ≤ q.2 := List.not_lt.mp h
    simp [h, h']
/-- a list of references to some of the rows -/
theorem refs_rows {L : List (Addr × List Int)} : ∀ vs : List Value, (∀ v ∈ vs, ∃ q ∈ L, v = Value.ref q.1) → ∃ M : List (Addr × List Int), vs = M.map (fun q => Value.ref q.1) ∧ ∀ q ∈ M, q ∈ L
  | [], _ => ⟨[], rfl, fun q hq => by cases hq⟩
  | v :: vs, h => by
    obtain ⟨q, hq, rfl⟩ := h v (List.mem_cons_self ..)
    obtain ⟨M, rfl, hM⟩ := refs_rows vs fun u hu => h u (List.mem_cons_of_mem _ hu)
    refine ⟨q :: M, rfl, fun r hr => ?_⟩
    rcases List.mem_cons.mp hr with z | z
    · rw [z]; exact hq
    · exact hM r z
theorem each_refs {h : Heap} : ∀ {M : List (Addr × List Int)}, (∀ q ∈ M, ∃ as, Reads h (.ref q.1) (.tuple (q.2.map .int)) as) → EachIs (fun v b => v = Value.ref b.1 ∧ ∃ as, Reads h v (.tuple (b.2.map .int)) as) (M.map fun q => Value.ref q.1) M
  | [], _ => .nil
  | q :: M, hq => .cons ⟨rfl, hq q (List.mem_cons_self ..)⟩ (each_refs fun r hr => hq r (List.mem_cons_of_mem _ hr))
theorem refs_each : ∀ {vs : List Value} {M : List (Addr × List Int)}, EachIs (fun v b => v = Value.ref b.1) vs M → vs = M.map fun q => Value.ref q.1
  | _, _, .nil => rfl
  | _, _, .cons h t => by rw [h, refs_each t]; rfl
theorem isT_reads {P : Program} {w : World} {h : Heap} {k : List Int} {b : Addr} (x : L2.IsT P w h k b) : ∃ as, Reads h (.ref b) (.tuple (k.map .int)) as := by
  obtain ⟨o, its, n, ho, hc, hd, hi⟩ := x
  exact ⟨[], .tuple ho hc hd (PyProof.Rows.IntsAre.reads h (L2.ints_of_items hi))⟩
section
variable {P : Program} {w : World} {A : Around} {E : Value → Shared → Prop} {s : Shared}
theorem sorted_setD {a : Addr} {L : List (Addr × List Int)} {es : Array (Int × Value)} {ep : Nat} {t : SetTable} {Q : Value → Shared → Prop} (R : L2.SetTR P w s.heap a L es ep t) (hh : A.handled = none) (hu : A.units + 9 < cLine)
    (hQ : ∀ s' p (out : Array Value) (c : Nat) (M : List (Addr × List Int)), (∀ b o, s.heap.get? b = some o → s'.heap.get? b = some o) → s'.gens = s.gens → s'.os = s.os → s.heap.objs.size ≤ p →
      s'.heap.get? p = some (seqObj "list" out c) → out.toList = M.map (fun q => Value.ref q.1) → M.Perm L → M.Pairwise (fun q r => q.2 ≤ r.2) → Q (.ref p) s') :
    wpAny (model P w) A (call (.builtin "sorted") [.ref a]) Q E s := by
  obtain ⟨o, ho, hex, hd⟩ := R.ob
  have few := R.few
  have sz := R.size
  refine call_function_entry kind_sorted plain_sorted entry_sorted (args_sorted1 _) ?_
  unfold Builtin.«sorted»
  refine wpAny_bind (m := checkCount "sorted" 1 1 _) (wpAny_pure ?_)
  refine wpAny_bind (L2.collect_set (A := A.in1) hh ⟨o, ho, hex.1, hd⟩ R.fits (by unfold scanBound; omega) R.tab.ris R.led fun s1 vs k1 z1 g1 o1 pm => ?_)
  rw [R.rows, show (L2.rowsOf P w L).map (·.2) = L.map (fun q => Value.ref q.1) by unfold L2.rowsOf; rw [List.map_map]; rfl] at pm
  obtain ⟨M, rfl, hM⟩ := refs_rows vs fun v hv => by
    obtain ⟨q, hq, e⟩ := List.mem_map.mp (pm.mem_iff.mp hv)
    exact ⟨q, hq, e.symm⟩
  have one : ∀ q ∈ L, ∀ r ∈ L, q.1 = r.1 → q = r := fun q hq r hr e => by
    have a1 := R.tup q hq
    rw [e] at a1
    exact Prod.ext e (a1.inj (R.tup r hr))
  have pML : M.Perm L := by
    have nL : L.Nodup := L2.nodup_of_map R.nd
    have nref : (L.map fun q => Value.ref q.1).Nodup := List.pairwise_map.mpr (List.Pairwise.imp_of_mem (fun {q r} hq hr hne e => hne (one q hq r hr (by injection e))) nL)
    have nM : M.Nodup := L2.nodup_of_map (pm.nodup_iff.mpr nref)
    refine (List.perm_ext_iff_of_nodup nM nL).mpr fun q => ⟨hM q, fun hq => ?_⟩
    obtain ⟨r, hr, e⟩ := List.mem_map.mp (pm.mem_iff.mpr (List.mem_map.mpr ⟨q, hq, rfl⟩))
    injection e with e
    rw [← one r (hM r hr) q hq e]
    exact hr
  have ml : M.length < 64 := by rw [pML.length_eq]; exact few
  refine wpAny_bind (wpAny_newList ?_ (by rw [sizeLine_eq, List.length_map]; omega))
  generalize hvs : M.map (fun q => Value.ref q.1) = vs
  have hoL : (s1.heap.push (seqObj "list" vs.toArray 0)).get? s1.heap.objs.size = some (seqObj "list" vs.toArray 0) := Heap.get?_push_size _ rfl
  have up : ∀ b u, s.heap.get? b = some u → (s1.heap.push (seqObj "list" vs.toArray 0)).get? b = some u := fun b u e => Heap.get?_push_of_some _ (k1 b u e)
  have er : EachIs (fun v b => v = Value.ref b.1 ∧ ∃ as, Reads (sortingHeap (s1.heap.push (seqObj "list" vs.toArray 0)) s1.heap.objs.size vs) v (.tuple (b.2.map .int)) as) vs M := by
    have er0 := each_refs (h := sortingHeap (s1.heap.push (seqObj "list" vs.toArray 0)) s1.heap.objs.size vs) (M := M) fun q hq => isT_reads (P := P) (w := w) (L2.isT_keep (R.tup q (hM q hq)) fun b u e => sortingHeap_old (Nat.ne_of_lt (Heap.lt_size (k1 b u e))) (up b u e))
    rw [hvs] at er0
    exact er0
  have ek : EachIs (fun v d => ∃ as, Reads (sortingHeap (s1.heap.push (seqObj "list" vs.toArray 0)) s1.heap.objs.size vs) v d as) vs (M.map fun b => PyData.tuple (b.2.map .int)) := each_map (R := fun v d => ∃ as, Reads (sortingHeap (s1.heap.push (seqObj "list" vs.toArray 0)) s1.heap.objs.size vs) v d as) (fun b : Addr × List Int => PyData.tuple (b.2.map .int)) (er.mono fun _ _ h => h.2)
  have hal : AllAlike (M.map fun b => PyData.tuple (b.2.map .int)) := AllAlike.of fun b b' => by simp [alike, alike_ints]
  have hvl : vs.length ≤ sizeLine := by rw [← hvs, List.length_map, sizeLine_eq]; omega
  refine wpAny_bind (wpAny_holding (wpAny_call_entry slot_list_sort ⟨_, hoL, rfl⟩ entry_list_sort (list_sort_vals (s := { s1 with heap := s1.heap.push (seqObj "list" vs.toArray 0) }) (κ := dataKind (sortingHeap (s1.heap.push (seqObj "list" vs.toArray 0)) s1.heap.objs.size vs) (M.map fun b => PyData.tuple (b.2.map .int))) hoL
    (sortsAt_tups ek hal (fun d hd => by obtain ⟨b, _, rfl⟩ := List.mem_map.mp hd; exact ⟨_, rfl⟩) (fun d hd => by obtain ⟨b, _, rfl⟩ := List.mem_map.mp hd; rw [Fl.tup_depth]; show A.units + 1 + 1 + 1 < cLine; omega)) hvl ⟨.none, rfl, ?_⟩) (args_list_sort _)))
  have eo := sortVals_data (h' := sortingHeap (s1.heap.push (seqObj "list" vs.toArray 0)) s1.heap.objs.size vs) (R := fun v b => v = Value.ref b.1) (enc := fun b : Addr × List Int => PyData.tuple (b.2.map .int)) false (er.mono fun _ _ h => h.1) (er.mono fun _ _ h => h.2) hal
  rw [dataLe_pairs] at eo
  obtain ⟨c, hc⟩ := sortedHeap_at (vs := vs) (out := (sortVals (dataKind (sortingHeap (s1.heap.push (seqObj "list" vs.toArray 0)) s1.heap.objs.size vs) (M.map fun b => PyData.tuple (b.2.map .int))) false vs vs).toArray) hoL
  refine wpAny_pure ⟨_, rfl, hQ _ s1.heap.objs.size _ c (M.mergeSort fun p q => decide (p.2 ≤ q.2)) (fun b u e => ?_) g1 o1 z1 hc (refs_each eo) ((List.mergeSort_perm M _).trans pML) ?_⟩
  · have hlt := Heap.lt_size (k1 b u e)
    show (sortedHeap (s1.heap.push (seqObj "list" vs.toArray 0)) s1.heap.objs.size vs _).get? b = some u
    rw [sortedHeap_old (Nat.ne_of_lt hlt) (by rw [size_push']; exact Nat.lt_succ_of_lt hlt)]
    exact up b u e
  · have h := List.pairwise_mergeSort (le := fun p q : Addr × List Int => decide (p.2 ≤ q.2)) (fun a b c h1 h2 => decide_eq_true (List.le_trans (of_decide_eq_true h1) (of_decide_eq_true h2))) (fun a b => by
      rcases List.le_total a.2 b.2 with h | h
      · rw [decide_eq_true h]; rfl
      · rw [decide_eq_true h, Bool.or_true]) M
    exact h.imp fun h => by simpa using h
end
end FlS
namespace Fl
open PySem L2
/-- the rows, each once -/
def ddup (xs : List (List Int)) : List (List Int) := xs.foldl (fun ks t => if t ∈ ks then ks else ks ++ [t]) []
theorem ddup_fold : ∀ (xs acc : List (List Int)), acc.Nodup → (xs.foldl (fun ks t => if t ∈ ks then ks else ks ++ [t]) acc).Nodup ∧ ∀ x, x ∈ xs.foldl (fun ks t => if t ∈ ks then ks else ks ++ [t]) acc ↔ x ∈ acc ∨ x ∈ xs
  | [], acc, h => ⟨h, fun x => by simp⟩
  | t :: xs, acc, h => by
    rw [List.foldl_cons]
    by_cases ht : t ∈ acc
    · rw [if_pos ht]
      obtain ⟨h1, h2⟩ := ddup_fold xs acc h
      refine ⟨h1, fun x => (h2 x).trans ?_⟩
      rw [List.mem_cons]
      constructor
      · rintro (a | a)
        · exact .inl a
        · exact .inr (.inr a)
      · rintro (a | rfl | a)
        · exact .inl a
        · exact .inl ht
        · exact .inr a
    · rw [if_neg ht]
      have hn : (acc ++ [t]).Nodup := by
        rw [List.nodup_append]
        exact ⟨h, by simp, fun a ha b hb => by rw [List.mem_singleton.mp hb]; exact fun z => ht (z ▸ ha)⟩
      obtain ⟨h1, h2⟩ := ddup_fold xs (acc ++ [t]) hn
      refine ⟨h1, fun x => (h2 x).trans ?_⟩
      rw [List.mem_append, List.mem_singleton, List.mem_cons]
      constructor
      · rintro ((a | a) | a)
        · exact .inl a
        · exact .inr (.inl a)
        · exact .inr (.inr a)
      · rintro (a | a | a)
        · exact .inl (.inl a)
        · exact .inl (.inr a)
        · exact .inr a
theorem ddup_nodup (xs : List (List Int)) : (ddup xs).Nodup := (ddup_fold xs [] List.nodup_nil).1
theorem ddup_mem {xs : List (List Int)} {x : List Int} : x ∈ ddup xs ↔ x ∈ xs := by
  have := (ddup_fold xs [] List.nodup_nil).2 x
  unfold ddup
  simpa using this
theorem ddup_le (xs : List (List Int)) : (ddup xs).length ≤ xs.length := by
  suffices ∀ (xs acc : List (List Int)), (xs.foldl (fun ks t => if t ∈ ks then ks else ks ++ [t]) acc).length ≤ acc.length + xs.length by
    have := this xs []
    simpa [ddup] using this
  intro xs
  induction xs with
  | nil => intro acc; exact Nat.le_refl _
  | cons t xs ih =>
    intro acc
    have h1 := ih (if t ∈ acc then acc else acc ++ [t])
    have h2 : (if t ∈ acc then acc else acc ++ [t]).length ≤ acc.length + 1 := by
      split
      · omega
      · rw [List.length_append]; exact Nat.le_refl _
    rw [List.foldl_cons, List.length_cons]
    omega
def rSSetD (K : PySem.W.Frag) (P : Program) (w : World) : List V → Hp → VK → Prop := fun vs H Q => ∃ (a : Addr) (L : List (Addr × List Int)), vs = [V.ref a] ∧ H a = some (SetTO P w a L) ∧ (∀ p ∈ L, SqT K H p.1 (p.2.map V.int)) ∧
  ∀ (M : List (Addr × List Int)) (p : Addr), M.Perm L → (M.map (·.2)).Nodup → M.Pairwise (fun q r => q.2 ≤ r.2) → H p = none → Q (.ref p) (upd H p (.lst (M.map fun q => V.ref q.1)))
section
variable {X : Cx} {S : Bs} {Γ Γ1 : Ct} {a : Expr} {pos p p2 pos2 : Pos} {P : Program} {w : World} {K : PySem.W.Frag} {mg : Str → Option Value} {base : Heap} {N : List Str} {sc : Scope} {k : Nat}
theorem cr_sortedD (C : Cxt X) : CallR X (.builtin "sorted") (rSSetD X.K X.prog X.w) := by
  intro pins s σ H vs us Q I r h
  obtain ⟨a, L, rfl, ha, hk, q⟩ := h
  obtain ⟨es, ep, t, R⟩ := SetT0.full ((I.hok a _ ha).1 : SetT0 X.prog X.w s.heap a L) fun p hp => I.isT (hk p hp)
  rw [Vals.ref1 r]
  refine FlS.sorted_setD R (I.ok.hd C.calm) (by have := C.units; omega) fun s' p out c M k0 g o hp hg hout pm pw => ?_
  have hfew : M.length < 64 := by rw [pm.length_eq]; exact R.few
  have hlen : (M.map fun q => V.ref q.1).length ≤ sizeLine := by rw [List.length_map, sizeLine_eq]; omega
  have hn : H p = none := I.hok.fresh hp
  have J : Inv X pins σ (upd H p (.lst (M.map fun q => V.ref q.1))) { s with heap := s'.heap, gens := s'.gens, drawn := s'.drawn, toks := s'.toks } :=
    I.call (ch := []) (Un.laid k0 hp hn) (I.hok.laid k0 hp ⟨hlen, out.toList, c, (by rw [hout]; exact vals_of_refs M), hg⟩) (by rw [g]; exact I.bare) (fun _ z => nomatch z)
  have e : s' = { s with heap := s'.heap, gens := s'.gens, drawn := s'.drawn, toks := s'.toks } := by
    cases s'; cases s; cases o; rfl
  rw [e]
  exact ⟨.ref p, _, J, rfl, q M p pm ((pm.map (·.2)).nodup_iff.mpr R.nd) pw hn⟩
theorem drs_pairs {K : PySem.W.Frag} {H0 : Hp} : ∀ {xs : List V} {bs : List (List Int)}, Drs K H0 xs (bs.map eT) → ∃ ks : List (Addr × List Int), xs = ks.map (fun p => V.ref p.1) ∧ ks.map (·.2) = bs ∧ ∀ p ∈ ks, H0 p.1 = some (.tup (p.2.map V.int))
  | _, [], .nil => ⟨[], rfl, rfl, fun p hp => by cases hp⟩
  | _, b :: bs, .cons h q => by
    obtain ⟨ks, rfl, h2, h3⟩ := drs_pairs q
    cases h with
    | @tup A ys _ h0 r =>
      rw [r.ints] at h0
      refine ⟨(A, b) :: ks, rfl, by rw [List.map_cons, h2], fun p hp => ?_⟩
      rcases List.mem_cons.mp hp with z | z
      · rw [z]; exact h0
      · exact h3 p z
theorem pairs_drs {K : PySem.W.Frag} {H0 : Hp} : ∀ {M : List (Addr × List Int)}, (∀ p ∈ M, H0 p.1 = some (.tup (p.2.map V.int))) → Drs K H0 (M.map fun p => V.ref p.1) ((M.map (·.2)).map eT)
  | [], _ => .nil
  | p :: M, h => .cons (.tup (h p (List.mem_cons_self ..)) (Drs.of_ints _)) (pairs_drs fun q hq => h q (List.mem_cons_of_mem _ hq))
/-- sorted(set(xs)) -/
theorem evn_sset {bs : List (List Int)} (he : starEach [a] X.env = (false, eval a X.env) :: starEach [] X.env) (he2 : starEach [.Call (.Name (Str.ofString "set") p2) [a] [] pos2] X.env = (false, eval (.Call (.Name (Str.ofString "set") p2) [a] [] pos2) X.env) :: starEach [] X.env)
    (hm : mg (Str.ofString "sorted") = none) (hm2 : mg (Str.ofString "set") = none) (hb : Bd X P w K mg base N sc k) (hv : (gloB sc (Str.ofString "sorted") && gloB sc (Str.ofString "set")) = true) (h : Ev X S Γ a (.lst (bs.map eT)) Γ1) (hl : bs.length < 64) :
    EvN X S Γ (.Call (.Name (Str.ofString "sorted") p) [.Call (.Name (Str.ofString "set") p2) [a] [] pos2] [] pos) ((srtR (ddup bs)).map eT) Γ1 := .mk fun σ H0 H en => by
  have C := hb.cxt
  rw [Bool.and_eq_true] at hv
  have B := hb.blt hv.1 hm
  have B2 := hb.blt hv.2 hm2
  refine s_e (pe_callB (cr_sortedD C) B.gl B.mg PyProof.Rows.boot_sorted (pa_cons (pe_callTy (cr_setOfT C.calm (by have := C.units; omega)) B2.gl B2.mg PyProof.Rows.boot_set (pa_cons pe_s pa_nil he) (by decide +kernel) (by decide +kernel) he rfl) pa_nil he2) (by decide +kernel) (by decide +kernel) he2 rfl) (m_e (h.run σ H0 H en) fun v H1 ⟨H01, e1, en1, r⟩ => ?_)
  cases r with
  | @lst A xs _ h0 r =>
    obtain ⟨ks, rfl, h2, h3⟩ := drs_pairs r
    refine ⟨A, ks, rfl, .inl (.inl (en1.sub _ _ h0)), fun p hp => .inl (.inl (en1.sub _ _ (h3 p hp))), by rw [← h2, List.length_map] at hl; exact hl, fun q L hq hL1 hL2 => ?_⟩
    have en2 : En X.K S H01 (upd H1 q (SetTO X.prog X.w q L)) σ Γ1 := en1.loose hq
    refine ⟨q, L, rfl, upd_same, fun p hp => .inl (.inl (en2.sub _ _ (h3 p (hL1 p hp)))), fun M p3 pm nd pw hp3 => ?_⟩
    have hM : ∀ p ∈ M, H01 p.1 = some (.tup (p.2.map V.int)) := fun p hp => h3 p (hL1 p (pm.mem_iff.mp hp))
    have eM : M.map (·.2) = srtR (ddup bs) := by
      refine List.Perm.eq_of_pairwise (fun a b _ _ h1 h2 => List.le_antisymm h1 h2) (List.pairwise_map.mpr pw) (srtR_pair _) (List.Perm.trans ?_ (srtR_perm _).symm)
      refine (List.perm_ext_iff_of_nodup nd (ddup_nodup bs)).mpr fun x => ?_
      rw [ddup_mem, ← h2]
      constructor
      · intro hx
        obtain ⟨p, hp, rfl⟩ := List.mem_map.mp hx
        exact List.mem_map.mpr ⟨p, hL1 p (pm.mem_iff.mp hp), rfl⟩
      · intro hx
        obtain ⟨p, hp, rfl⟩ := List.mem_map.mp hx
        exact ((pm.map (·.2)).mem_iff).mpr (hL2 p hp)
    rw [← eM]
    obtain ⟨H02, l, zs, e2, z⟩ := nst_new en2 hp3 (pairs_drs (K := X.K) hM)
    exact ⟨H02, l, zs, e1.trans e2, z⟩
end
end Fl
namespace Fl
open PySem L2
section
variable {X : Cx} {S : Bs} {Γ Γ1 Γ2 Γ3 : Ct} {a b e f elt : Expr} {x y z d : Dt} {pos : Pos} {D : Pd} {ds es : List Dt} {P : Program} {w : World} {K : PySem.W.Frag} {mg : Str → Option Value} {base : Heap} {N : List Str} {sc scope : Scope} {k : Nat}
/-! ### an own dict that is walked within an expression -/
theorem c_inDcl {i : Int} {ks : List (Int × Dt)} (C : Cxt X) : Cop X .In (.int i) (.dcl ks) (lookD ks i).isSome := ⟨_, op_inD (by have := C.units; omega), fun S Γ σ H0 H v u en h1 h2 Q q => by
  cases h1
  cases h2 with
  | @dcl p o vs _ h0 r => exact ⟨p, valV vs (.inl i), rfl, .inl ⟨vs, .inl i, .inr ⟨o, en.sub _ _ h0⟩, rfl, rfl⟩, by rw [isSome_of (r.look i)]; exact q _ _ (pst_bl en)⟩⟩
theorem ev_flatL {i : Nat} {ks : List (Int × Dt)} (hc : cg Γ i = some (.ownD ks)) (h : ∀ S', Ev X S' (cp (frz Γ) i (.val (.dcl ks))) e d (cp (frz Γ) i (.val (.dcl ks)))) (hd : d.flat = true) : Ev X S Γ e d Γ := .mk fun σ H0 H en => by
  obtain ⟨o, h1, A, xs, rfl, h0, hS, hf, hH, r⟩ := en.cells i _ hc
  refine s_e (pe_lock pe_s) ⟨A, .dK xs, hH, trivial, fun od => ?_⟩
  have fz := en.frozen
  have e2 : Ex H0 (upd H A (.frz od (.dK xs))) := fun b u q => by rw [upd_ne (ne_of_none q h0)]; exact en.sub b u q
  have en2 : En X.K ⟨upd H A (.frz od (.dK xs)), fun _ => False⟩ (upd H A (.frz od (.dK xs))) (upd H A (.frz od (.dK xs))) σ (cp (frz Γ) i (.val (.dcl ks))) := by
    refine ⟨Ex.refl _, Ex.refl _, fun _ f => f.elim, by rw [cp_len]; exact fz.len, fun j c hj => ?_, fun j l c d a g1 g2 o1 o2 s1 s2 => ?_⟩
    · by_cases hji : j = i
      · subst hji
        exact ⟨_, h1, by rw [cg_cp hj]; exact ⟨_, rfl, .dcl upd_same (r.mono e2)⟩⟩
      · rw [cg_cp_ne hji, frz_cg] at hj
        cases q : cg Γ j with
        | none => rw [q] at hj; cases hj
        | some c' =>
          rw [q] at hj
          cases hj
          obtain ⟨o, g1, kc⟩ := en.cells j _ q
          refine ⟨o, g1, ?_⟩
          have ne : ∀ a, c'.isOwn = true → o = some (.ref a) → a ≠ A := fun a ho ea z => hji (en.apart j i c' _ a q hc ho rfl (by rw [g1, ea]) (by rw [h1, z]))
          cases c' with
          | no => trivial
          | val d => obtain ⟨v, e, r⟩ := kc; exact ⟨v, e, r.mono e2⟩
          | own b ds => obtain ⟨a, ys, e, _, _, _, h, r⟩ := kc; exact ⟨.ref a, e, .lst (by rw [upd_ne (ne a rfl e)]; exact h) (r.mono e2)⟩
          | ownD ks => obtain ⟨a, ys, e, _, _, _, h, r⟩ := kc; exact ⟨.ref a, e, .dct (by rw [upd_ne (ne a rfl e)]; exact h) (r.mono e2)⟩
          | ownT ks => trivial
    · by_cases hji : j = i
      · subst hji; rw [cg_cp g1] at o1; cases o1
      · rw [cg_cp_ne hji, frz_cg] at g1
        cases q : cg Γ j with
        | none => rw [q] at g1; cases g1
        | some c' => rw [q] at g1; cases g1; rw [frzC_own] at o1; cases o1
  refine m_e ((h _).run σ _ _ en2) fun v H1 ⟨H01, e1, en1, rv⟩ => ?_
  have hA : H1 A = some (.frz od (.dK xs)) := en1.bas A _ upd_same
  refine ⟨hA, H0, Ex.refl _, ?_, flat_dr hd rv⟩
  have e3 : Ex H (upd H1 A (.dK xs)) := fun b u q => by
    by_cases hb : b = A
    · subst hb; rw [upd_same]; rw [hH] at q; exact q
    · rw [upd_ne hb]; exact en1.bas b u (by show upd H A _ b = _; rw [upd_ne hb]; exact q)
  exact en.grow (Ex.refl _) e3 (en.sub.trans e3) (fun a h h0 => absurd h0 h)
/-! ### list(m), m an own dict of tuples -/
theorem keys_tup {H : Hp} : ∀ {ks : List (List Int)} {bs : List Addr}, IsKeys H (keysT ks) bs → ∀ b ∈ bs, ∃ xs, H b = some (.tup xs)
  | [], _, .nil, b, hb => by cases hb
  | _ :: ks, _, .cons h t, b, hb => by
    rcases List.mem_cons.mp hb with z | z
    · rw [z]; exact ⟨_, h⟩
    · exact keys_tup (ks := ks) t b z
theorem keys_drs {K : PySem.W.Frag} {H H' : Hp} : ∀ {ks : List (List Int)} {bs : List Addr}, IsKeys H (keysT ks) bs → (∀ b ∈ bs, H' b = H b) → Drs K H' (bs.map V.ref) (ks.map eT)
  | [], _, .nil, _ => .nil
  | t :: ks, _, .cons h r, hk => .cons (.tup (by rw [hk _ (List.mem_cons_self ..)]; exact h) (by rw [List.map_map]; exact Drs.of_ints t)) (keys_drs (ks := ks) r fun b hb => hk b (List.mem_cons_of_mem _ hb))
theorem evn_listT {n : Str} {i : Nat} {p p2 : Pos} {ks : List (List Int)} (he : starEach [.Name n p] X.env = [(false, eval (.Name n p) X.env)]) (hm : mg (Str.ofString "list") = none) (hb : Bd X P w K mg base N sc k) (hv : gloB sc (Str.ofString "list") = true) (hix : N[i]? = some n) (hg : cg Γ i = some (.ownT ks)) (hvn : namB sc n = true) :
    EvN X S Γ (.Call (.Name (Str.ofString "list") p2) [.Name n p] [] pos) (ks.map eT) Γ := .mk fun σ H0 H en => by
  have B := hb.blt hv hm
  have hn := hb.nam' hix hvn
  obtain ⟨o, h1, A, rfl, h0, hS, hf, hH⟩ := en.cells i _ hg
  refine s_e (pe_callTy (call_list_dT hb.calm) B.gl B.mg PyProof.Rows.boot_list (pa_cons (pe_var hn.ix hn.vis hn.d1 hn.d2) pa_nil he) (by decide +kernel) (by decide +kernel) he rfl) ⟨.ref A, h1, A, _, rfl, .inl hH, fun p bs hp hk => ?_⟩
  have kt := keys_tup hk
  let H0' : Hp := fun a => if a ∈ bs then H a else H0 a
  have e0 : Ex H0 H0' := fun a u q => by
    show (if a ∈ bs then H a else H0 a) = _
    by_cases ha : a ∈ bs
    · rw [if_pos ha]; exact en.sub a u q
    · rw [if_neg ha]; exact q
  have s0 : Ex H0' H := fun a u q => by
    have q : (if a ∈ bs then H a else H0 a) = some u := q
    by_cases ha : a ∈ bs
    · rw [if_pos ha] at q; exact q
    · rw [if_neg ha] at q; exact en.sub a u q
  have en' : En X.K S H0' H σ Γ := en.grow e0 (Ex.refl _) s0 (fun a h1 h2 => by
    have h1 : (if a ∈ bs then H a else H0 a) ≠ none := h1
    by_cases ha : a ∈ bs
    · exact .inr (kt a ha)
    · rw [if_neg ha] at h1; exact absurd h2 h1)
  obtain ⟨H01, l, zs, e2, q⟩ := nst_new en' hp (keys_drs (K := X.K) (H' := H0') hk fun b hb => if_pos hb)
  exact ⟨H01, l, zs, e0.trans e2, q⟩
/-! ### an own list is lent to a def -/
theorem eb_adr {n : Str} {i : Nat} {A : Addr} (hb : Bd X P w K mg base N sc k) (hix : N[i]? = some n) (hg : cg Γ i = some (.own (some A) ds)) (hv : namB sc n = true) : Ev X S Γ (.Name n pos) (.adr A) Γ := .mk fun σ H0 H en => by
  obtain ⟨o, h1, a, xs, rfl, h0, hS, hf, hH, r⟩ := en.cells i _ hg
  have hf : a = A := hf
  subst hf
  have h := hb.nam' hix hv
  exact s_e (pe_var h.ix h.vis h.d1 h.d2) ⟨_, h1, H0, Ex.refl _, en, .adr a⟩
section
variable {H0 H H0' H' : Hp} {σ : L2.St} {i : Nat}
theorem own_cp {c c' cm : Cell} {j : Nat} (hc : cg Γ i = some c) (ho : c.isOwn = true) (h : cg (cp Γ i c') j = some cm) (hm : cm.isOwn = true) : ∃ cm', cg Γ j = some cm' ∧ cm'.isOwn = true := by
  by_cases hj : j = i
  · subst hj; exact ⟨c, hc, ho⟩
  · rw [cg_cp_ne hj] at h; exact ⟨cm, h, hm⟩
theorem En.pin (en : En K S H0 H σ Γ) (hg : cg Γ i = some (.own none ds)) : ∃ A, ¬ S.F A ∧ En K S H0 H σ (cp Γ i (.own (some A) ds)) := by
  obtain ⟨o, h1, a, xs, rfl, h0, hS, hf, hH, r⟩ := en.cells i _ hg
  refine ⟨a, hf, en.sub, en.bas, en.forb, by rw [cp_len]; exact en.len, fun j c hj => ?_, fun j l c d b g1 g2 o1 o2 s1 s2 => ?_⟩
  · by_cases hji : j = i
    · subst hji
      exact ⟨_, h1, by rw [cg_cp hj]; exact ⟨a, xs, rfl, h0, hS, rfl, hH, r⟩⟩
    · rw [cg_cp_ne hji] at hj; exact en.cells j c hj
  · obtain ⟨c3, g3, w3⟩ := own_cp hg rfl g1 o1
    obtain ⟨c4, g4, w4⟩ := own_cp hg rfl g2 o2
    exact en.apart j l c3 c4 b g3 g4 w3 w4 s1 s2
theorem En.unpin {A : Addr} (en : En K S H0 H σ Γ) (hg : cg Γ i = some (.own (some A) ds)) (hn : ¬ S.F A) : En K S H0 H σ (cp Γ i (.own none ds)) := by
  obtain ⟨o, h1, a, xs, rfl, h0, hS, hf, hH, r⟩ := en.cells i _ hg
  have hf : a = A := hf
  subst hf
  refine ⟨en.sub, en.bas, en.forb, by rw [cp_len]; exact en.len, fun j c hj => ?_, fun j l c d b g1 g2 o1 o2 s1 s2 => ?_⟩
  · by_cases hji : j = i
    · subst hji
      exact ⟨_, h1, by rw [cg_cp hj]; exact ⟨a, xs, rfl, h0, hS, hn, hH, r⟩⟩
    · rw [cg_cp_ne hji] at hj; exact en.cells j c hj
  · obtain ⟨c3, g3, w3⟩ := own_cp hg rfl g1 o1
    obtain ⟨c4, g4, w4⟩ := own_cp hg rfl g2 o2
    exact en.apart j l c3 c4 b g3 g4 w3 w4 s1 s2
theorem En.lent {A : Addr} {pre post : List Dt} {ys : List V} (en : En K S H0 H σ Γ) (hg : cg Γ i = some (.own (some A) pre)) (e0 : Ex H0 H0') (s : Ex H0' H') (keep : ∀ b o, b ≠ A → H b = some o → H' b = some o) (nw : ∀ a, H0' a ≠ none → H0 a = none → Nw H a)
    (hA : H' A = some (.lst ys)) (hA0 : H0' A = none) (r : Drs K H0' ys post) : En K S H0' H' σ (cp Γ i (.own (some A) post)) := by
  obtain ⟨o, h1, a, xs, rfl, h0, hS, hf, hH, _⟩ := en.cells i _ hg
  have hf : a = A := hf
  subst hf
  refine ⟨s, fun b u q => keep b u (ne_of_none q hS) (en.bas b u q), fun b f => ⟨?_, ?_⟩, by rw [cp_len]; exact en.len, fun j c hj => ?_, fun j l c d b g1 g2 o1 o2 s1 s2 => ?_⟩
  · obtain ⟨g0, g⟩ := en.forb b f
    cases q : H0' b with
    | none => rfl
    | some u => exact absurd (nw b (by rw [q]; exact fun z => nomatch z) g0) g.no
  · by_cases hb : b = a
    · subst hb; exact ⟨_, hA, fun _ z => nomatch z⟩
    · obtain ⟨u, g1, g2⟩ := (en.forb b f).2
      exact ⟨u, keep b u hb g1, g2⟩
  · by_cases hji : j = i
    · subst hji
      exact ⟨_, h1, by rw [cg_cp hj]; exact ⟨a, ys, rfl, hA0, hS, rfl, hA, r⟩⟩
    · rw [cg_cp_ne hji] at hj
      obtain ⟨x, hx, kc⟩ := en.cells j c hj
      exact ⟨x, hx, kc.grow e0 nw fun b o eb hb ow => keep b o (fun z => hji (en.apart j i c _ a hj hg ow rfl (by rw [hx, eb, z]) h1)) hb⟩
  · obtain ⟨c3, g3, w3⟩ := own_cp hg rfl g1 o1
    obtain ⟨c4, g4, w4⟩ := own_cp hg rfl g2 o2
    exact en.apart j l c3 c4 b g3 g4 w3 w4 s1 s2
end
theorem ws_pin {i : Nat} {st : List Stmt} (hg : cg Γ i = some (.own none ds)) (h : ∀ A, ¬ S.F A → Ws X S (cp Γ i (.own (some A) ds)) st D) : Ws X S Γ st D := .mk fun σ H0 H en => by
  obtain ⟨A, hn, en'⟩ := en.pin hg
  exact (h A hn).run σ H0 H en'
theorem ws_unpin {i : Nat} {st : List Stmt} {A : Addr} (hn : ¬ S.F A) (hg : cg Γ i = some (.own (some A) ds)) (h : Ws X S (cp Γ i (.own none ds)) st D) : Ws X S Γ st D := .mk fun σ H0 H en => h.run σ H0 H (en.unpin hg hn)
/-- the promise of a def that an own list of its caller is lent to: A its address, pre what it holds, post what it holds behind the call -/
def spB (K : PySem.W.Frag) (G : Addr → List Dt → List Dt → Dt → List Dt → Prop) : Sp := fun vs H Q _ => ∃ A ds pre d post H0 xs, Ex H0 H ∧ Drs K H0 vs ds ∧ H0 A = none ∧ H A = some (.lst xs) ∧ Drs K H0 xs pre ∧ G A ds pre d post ∧
  ∀ v H' H0' ys, Ex H0 H0' → Ex H0' H' → (∀ b o, b ≠ A → H b = some o → H' b = some o) → (∀ a, H0' a ≠ none → H0 a = none → Nw H a) → H' A = some (.lst ys) → H0' A = none → Drs K H0' ys post → Dr K H0' v d → Q v H'
structure CeeB (P : Program) (w : World) (K : PySem.W.Frag) (mg : Str → Option Value) (base : Heap) (k : Nat) (x : Str) (G : Addr → List Dt → List Dt → Dt → List Dt → Prop) : Prop where
  ex : ∃ (f : Addr) (fd : FuncData) (ps : List Str), FnOk P w K mg base CX0 k f fd ps (spB K G) ∧ mg x = some (.ref f) ∧ PySem.W.keepIn K (.ref f) = true ∧ Binds K fd ps []
theorem ceeB_of {x qual n : Str} {st : Stmt} {f : Addr} {fd : FuncData} {ps : List Str} {G : Addr → List Dt → List Dt → Dt → List Dt → Prop}
    (F : Fun K x qual st f fd) (b : Binds K fd ps []) (g : mg n = some (.ref f)) (h : FnOk P w K mg base CX0 k f fd ps (spB K G)) : CeeB P w K mg base k n G := ⟨f, fd, ps, h, g, F.kp, b⟩
theorem eb_callB {n : Str} {i j : Nat} {G : Addr → List Dt → List Dt → Dt → List Dt → Prop} {es : List Expr} {ds pre post : List Dt} {A : Addr} {p : Pos} (he : starEach (e :: es) X.env = (false, eval e X.env) :: starEach es X.env) (hpl : (backTo pos (starEach es X.env)).any (·.1) = false)
    (c : CeeB P w K mg base j n G) (hb : Bd X P w K mg base N sc k) (hj : j ≤ k) (hv : gloC sc n = true) (ha : Ea X S Γ (e :: es) ds Γ1) (hg : cg Γ1 i = some (.own (some A) pre)) (hG : G A ds pre d post) (hp : cp Γ1 i (.own (some A) post) = Γ2) :
    Ev X S Γ (.Call (.Name n p) (e :: es) [] pos) d Γ2 := by
  obtain ⟨f, fd, ps, F, hm, hk, hbi⟩ := c.ex
  unfold gloC at hv
  simp only [Bool.and_eq_true, Bool.not_eq_true'] at hv
  have hr : Room j X.A := hb.room.mono hj
  have gl : Gl X n := by show X.env.scope.names.lookup n = _; rw [hb.hs]; exact gloB_ok hv.1
  obtain ⟨rfl, rfl, rfl, rfl, rfl⟩ := hb.hP, hb.hw, hb.hK, hb.hm, hb.hB
  exact .mk fun σ H0 H en => s_e (pe_call F hr gl hm hk hbi .nil pass0 pa_s hv.2 he hpl) (m_a (ha.run σ H0 H en) fun vs H1 ⟨H01, e1, en1, d1⟩ => by
    rw [List.append_nil]
    obtain ⟨o, h1, a, xs, rfl, h0, hS, hf, hH, r⟩ := en1.cells i _ hg
    have hf : a = A := hf
    subst hf
    refine ⟨a, ds, pre, d, post, H01, xs, en1.sub, d1, h0, hH, r, hG, fun v H' H0' ys q1 q2 q3 q4 q5 q6 q7 q8 => ⟨H0', e1.trans q1, ?_, q8⟩⟩
    rw [← hp]
    exact en1.lent hg q1 q2 q3 q4 q5 q6 q7)
theorem fn_lent {x qual : Str} {st : Stmt} {f : Addr} {fd : FuncData} {ps : List Str} {G : Addr → List Dt → List Dt → Dt → List Dt → Prop} {i : Nat}
    (F : Fun K x qual st f fd) (Sc : FnScope N ps (defScope st)) (hG : ∀ A ds pre d post, G A ds pre d post → ds.length = ps.length ∧ ds[i]? = some (.adr A))
    (body : ∀ X : Cx, Bd X P w K mg base N (defScope st) k → (∀ x, X.fn x = true) → ∀ S A ds pre d post, G A ds pre d post → Ws X S (cp (startC N ds) i (.own (some A) pre)) (defBody st) { nx := fun _ => False, rt := fun d' Γ' => d' = d ∧ cg Γ' i = some (.own (some A) post) }) :
    FnOk P w K mg base CX0 (k + 1) f fd ps (spB K G) := by
  have hpl : ps.length ≤ N.length := by have := congrArg List.length Sc.pre; rw [List.length_take] at this; omega
  refine F.ok Sc (fun vs H Q E h => ?_) (fun cdv A outer s H vs Q E hr h => ?_)
  · obtain ⟨A, ds, pre, d, post, H0, xs, _, r, _, _, _, g, _⟩ := h
    rw [r.length, (hG _ _ _ _ _ g).1]
  · obtain ⟨B, ds, pre, d, post, H0, xs, e, r, h0, hB, rx, g, q⟩ := h
    have en0 := en_start (N := N) e r (by rw [(hG _ _ _ _ _ g).1]; exact hpl)
    let S : Bs := ⟨fun b => if b = B then none else H b, fun a => H0 a = none ∧ Mu (H a)⟩
    have hb := body (cxOf CX0 P w K mg base N qual (defScope st) f cdv A outer s H E).nox ⟨rfl, rfl, rfl, rfl, rfl, rfl, rfl, Sc.nd, rfl, PassesOwn.never, hr⟩ (fun _ => rfl) S B ds pre d post g
    have hi : cg (startC N ds) i = some (.val (.adr B)) := by
      have h1 := (hG _ _ _ _ _ g).2
      have hl := (List.getElem?_eq_some_iff.mp h1).1
      rw [cg_eq]
      unfold startC
      rw [List.getElem?_append_left (by simpa using hl), List.getElem?_map, h1]
      rfl
    have noOwn : ∀ (j : Nat) (c : Cell), cg (startC N ds) j = some c → c.isOwn = false := fun j c hc => by
      rw [cg_eq] at hc
      unfold startC at hc
      rcases List.mem_append.mp (List.mem_of_getElem? hc) with q | q
      · obtain ⟨d, _, rfl⟩ := List.mem_map.mp q; rfl
      · rw [List.eq_of_mem_replicate q]; rfl
    have en : En K S H0 H (start N vs) (cp (startC N ds) i (.own (some B) pre)) := by
      refine ⟨en0.sub, fun b u q => ?_, en0.forb, by rw [cp_len]; exact en0.len, fun j c hj => ?_, fun j l c c2 b g1 g2 o1 o2 s1 s2 => ?_⟩
      · have q : (if b = B then none else H b) = some u := q
        by_cases z : b = B
        · rw [if_pos z] at q; cases q
        · rw [if_neg z] at q; exact q
      · by_cases hji : j = i
        · subst hji
          obtain ⟨o, ho, v, rfl, rv⟩ := en0.cells j _ hi
          cases rv
          exact ⟨_, ho, by rw [cg_cp hj]; exact ⟨B, xs, rfl, h0, if_pos rfl, rfl, hB, rx⟩⟩
        · rw [cg_cp_ne hji] at hj
          obtain ⟨o, ho, kc⟩ := en0.cells j c hj
          refine ⟨o, ho, ?_⟩
          have := noOwn j c hj
          cases c with
          | no => trivial
          | val d => exact kc
          | own _ _ => cases this
          | ownD _ => cases this
          | ownT _ => cases this
      · have : ∀ {m : Nat} {cm : Cell}, cg (cp (startC N ds) i (.own (some B) pre)) m = some cm → cm.isOwn = true → m = i := fun {m cm} h ho => by
          by_cases hm : m = i
          · exact hm
          · rw [cg_cp_ne hm] at h
            rw [noOwn m cm h] at ho
            cases ho
        rw [this g1 o1, this g2 o2]
    have wp := hb.run _ _ _ en
    refine ⟨_, pss_s, m_ss wp ?_ ?_ (fun _ _ ⟨_, _, _, _, z⟩ => z.elim) (fun _ _ ⟨_, _, _, _, z⟩ => z.elim)⟩
    · exact fun _ _ ⟨_, _, _, _, z⟩ => z.elim
    · intro v H' ⟨H0', σ', Γ', d', e0, en', r', hd, hc⟩
      subst hd
      obtain ⟨o, _, a, ys, rfl, k0, kS, hf, kH, kr⟩ := en'.cells i _ hc
      have hf : a = B := hf
      subst hf
      exact q v H' H0' ys e0 en'.sub (fun b o hb hH => en'.bas b o (by show (if b = a then none else H b) = _; rw [if_neg hb]; exact hH)) (fun a h1 h2 => (mu_or H a).resolve_right fun z => h1 (en'.forb a ⟨h2, z⟩).1) kH k0 kr r'
/-! ### a, b = e -/
theorem qb_unp {n m : Str} {i j kk : Nat} {p p1 p2 : Pos} {rest : List Stmt} (hs : swapsWithSole [.Tuple [.Name n p1, .Name m p2] kk p] e pos.line X.env = pure false) (hw : swappedStores [.Tuple [.Name n p1, .Name m p2] kk p] e X.env = pure none)
    (cx : Cxt X) (hb : Bd X P w K mg base N sc k) (hf : ∀ x, X.fn x = true) (hix : N[i]? = some n) (hjx : N[j]? = some m) (hv : (locB sc n && locB sc m) = true)
    (h : Ev X S Γ e (.tup [x, y]) Γ1) (hp : cp (cp Γ1 i (.val x)) j (.val y) = Γ2) (q : Ws X S Γ2 rest D) : Ws X S Γ (.Assign [.Tuple [.Name n p1, .Name m p2] kk p] e pos :: rest) D := by
  rw [Bool.and_eq_true] at hv
  have s1 := hb.sto hf i hix hv.1
  have s2 := hb.sto hf j hjx hv.2
  refine ws_cons <| .mk fun σ H0 H en => s_s (ps_asg pe_s (pg_tup (n := 2) cx.calm (pgs_cons (pg_name s1.nd s1.ix s1.loc s1.fn) (pgs_cons (pg_name s2.nd s2.ix s2.loc s2.fn) pgs_nil))) hs hw) (m_e (h.run σ H0 H en) fun v H1 ⟨H01, e1, en1, r⟩ => ?_)
  cases r with
  | @tup A xs _ h0 r =>
    cases r with
    | cons r1 r =>
      cases r with
      | cons r2 r =>
        cases r
        exact ⟨A, _, rfl, .inl (.inl (en1.sub _ _ h0)), rfl, _, _, rfl, _, _, rfl, rfl, H01, Γ2, e1, by rw [← hp]; exact (en1.setv r1).setv r2, q⟩
/-! ### d.get(k, x) -/
theorem ev_dget {o : Expr} {ks : List (Int × Dt)} {i : Int} {apos cpos : Pos} (m : M2 X o "get" apos e f cpos) (C : Cxt X) (ho : Ev X S Γ o (.dct ks) Γ1) (he : Ev X S Γ1 e (.int i) Γ2) (hf : Ev X S Γ2 f z Γ3) :
    Ev X S Γ (.Call (.Attribute o "get" apos) [e, f] [] cpos) ((lookD ks i).getD z) Γ3 := .mk fun σ H0 H en =>
  s_e (pe_dget2 (by have := C.units; omega) pe_s pe_s pe_s m) (m_e (ho.run σ H0 H en) fun v H1 ⟨H01, e1, en1, r⟩ => by
    cases r with
    | @dct A vs _ h0 r =>
      refine ⟨A, rfl, .inl ⟨vs, .inl (en1.sub _ _ h0)⟩, m_e (he.run σ H01 H1 en1) fun u H2 ⟨H02, e2, en2, r2⟩ => m_e (hf.run σ H02 H2 en2) fun t H3 ⟨H03, e3, en3, r3⟩ => ?_⟩
      cases r2
      refine ⟨valV vs (.inl i), .inl ⟨vs, .inl i, .inl (en3.sub _ _ (e3 _ _ (e2 _ _ h0))), rfl, rfl⟩, H03, (e1.trans e2).trans e3, en3, ?_⟩
      rcases r.look i with ⟨h1, h2⟩ | ⟨v, d, h1, h2, h3⟩
      · rw [h1, h2]; exact r3
      · rw [h1, h2]; exact h3.mono (e2.trans e3))
/-! ### slices, by what is cut -/
inductive SlOf : Dt → Option Int → Option Int → Dt → Prop
  | tup {α : Type} {enc : α → Dt} {xs : List α} {l h : Option Int} : SlOf (.tup (xs.map enc)) l h (.tup ((cutD xs l h).map enc))
  | lst {α : Type} {enc : α → Dt} {xs : List α} {l h : Option Int} : SlOf (.lst (xs.map enc)) l h (.lst ((cutD xs l h).map enc))
theorem ev_slG {lo hi : Option Expr} {l h : Option Int} {p2 : Pos} (ha : Ev X S Γ a x Γ1) (hl : Eo X S Γ1 lo l) (hh : Eo X S Γ1 hi h) (hs : SlOf x l h z) : Ev X S Γ (.Subscript a (.Slice lo hi none p2) pos) z Γ1 := by
  cases hs with
  | tup => exact ev_slTM ha hl hh
  | lst => exact ev_of (evn_slLM ha hl hh)
end
end Fl
namespace Fl
open PySem L2
/-! ### classes of errors -/
abbrev bmVE : List Value := [.type "ValueError", .type "Exception", .type "BaseException", .type "object"]
structure ExK (K : PySem.W.Frag) (mg : Str → Option Value) (n : Str) (C : Addr) : Prop where
  gC : mg n = some (.ref C)
  xC : PySem.W.excIn K C bmVE "ValueError.__new__" = true
  kC : PySem.W.keepIn K (.ref C) = true
  bC : PySem.W.subIn K (.ref C) (.type "BaseException") = some true
  tC : PySem.W.typeIn K (.ref C) = some (.type "type")
  dC : PySem.W.hasDictIn K C = true
/-- an error of class n is what the clause that names m catches -/
structure Exm (K : PySem.W.Frag) (mg : Str → Option Value) (n m : Str) (b : Bool) : Prop where
  ex : ∃ C M, mg n = some (.ref C) ∧ mg m = some (.ref M) ∧ PySem.W.exmOne K (.ref C) (.ref M) = some b
theorem exm_mk {K : PySem.W.Frag} {mg : Str → Option Value} {n m : Str} {C M : Addr} {b : Bool} (h1 : ExK K mg n C) (h2 : ExK K mg m M) (h : PySem.W.subIn K (.ref C) (.ref M) = some b) : Exm K mg n m b :=
  ⟨C, M, h1.gC, h2.gC, PySem.W.exm_ref h2.bC h2.dC h2.tC h⟩
/-- what a caught error of class n answers to isinstance: of the class m, of ValueError -/
structure ExI (K : PySem.W.Frag) (mg : Str → Option Value) (n m : Str) : Prop where
  ex : ∃ C M, mg n = some (.ref C) ∧ mg m = some (.ref M) ∧ ExcC K C ∧ PySem.W.kitOne K (.ref C) (.ref M) = some true ∧ PySem.W.kitOne K (.ref C) (.type "ValueError") = some true
section
variable {X : Cx} {S : Bs} {Γ Γ1 Γ2 Γ3 : Ct} {a b e f elt : Expr} {x y z d : Dt} {pos : Pos} {D : Pd} {ds es : List Dt} {P : Program} {w : World} {K : PySem.W.Frag} {mg : Str → Option Value} {base : Heap} {N : List Str} {sc scope : Scope} {k : Nat}
/-- the promise of a def that raises an error of the class n -/
def spX (K : PySem.W.Frag) (mg : Str → Option Value) (G : List Dt → Str → Prop) : Sp := fun vs H _ E => ∃ ds n C H0, Ex H0 H ∧ Drs K H0 vs ds ∧ G ds n ∧ mg n = some (.ref C) ∧ ∀ H', Ex H H' → E (.ref C) none H'
structure CeeX (P : Program) (w : World) (K : PySem.W.Frag) (mg : Str → Option Value) (base : Heap) (k : Nat) (x : Str) (G : List Dt → Str → Prop) : Prop where
  ex : ∃ (f : Addr) (fd : FuncData) (ps : List Str), FnOk P w K mg base (L2.CX P w) k f fd ps (spX K mg G) ∧ mg x = some (.ref f) ∧ PySem.W.keepIn K (.ref f) = true ∧ Binds K fd ps []
  cl : ∀ ds n, G ds n → ∃ C, mg n = some (.ref C)
theorem ceeX_of {x qual n : Str} {st : Stmt} {f : Addr} {fd : FuncData} {ps : List Str} {G : List Dt → Str → Prop}
    (F : Fun K x qual st f fd) (b : Binds K fd ps []) (g : mg n = some (.ref f)) (hC : ∀ ds n, G ds n → ∃ C, mg n = some (.ref C)) (h : FnOk P w K mg base (L2.CX P w) k f fd ps (spX K mg G)) : CeeX P w K mg base k n G := ⟨⟨f, fd, ps, h, g, F.kp, b⟩, hC⟩
/-- e raises an error of the class n, the environment then Γ1 -/
structure EvX (X : Cx) (S : Bs) (Γ : Ct) (e : Expr) (n : Str) (Γ1 : Ct) : Prop where
  run : ∀ σ H0 H, En X.K S H0 H σ Γ → ∀ (W : WX) (C : Addr), Takes X W → X.mg n = some (.ref C) → (∀ H0' H', Ex H0 H0' → En X.K S H0' H' σ Γ1 → W (.ref C) none σ H') → ∀ Q : VK, sE X e σ H Q
/-- the context lets errors of the class n out -/
structure Lets (X : Cx) (S : Bs) (n : Str) : Prop where
  ex : ∃ (W : WX) (C : Addr), Takes X W ∧ X.mg n = some (.ref C) ∧ ∀ σ H0 H Γ, En X.K S H0 H σ Γ → W (.ref C) none σ H
theorem eb_callX {n nm : Str} {j : Nat} {G : List Dt → Str → Prop} {es : List Expr} {ds : List Dt} {p : Pos} (he : starEach (e :: es) X.env = (false, eval e X.env) :: starEach es X.env) (hpl : (backTo pos (starEach es X.env)).any (·.1) = false)
    (c : CeeX P w K mg base j n G) (hb : Bd X P w K mg base N sc k) (hj : j ≤ k) (hv : gloC sc n = true) (ha : Ea X S Γ (e :: es) ds Γ1) (hg : G ds nm) : EvX X S Γ (.Call (.Name n p) (e :: es) [] pos) nm Γ1 := by
  obtain ⟨f, fd, ps, F, hm, hk, hbi⟩ := c.ex
  unfold gloC at hv
  simp only [Bool.and_eq_true, Bool.not_eq_true'] at hv
  have hr : Room j X.A := hb.room.mono hj
  have gl : Gl X n := by show X.env.scope.names.lookup n = _; rw [hb.hs]; exact gloB_ok hv.1
  obtain ⟨rfl, rfl, rfl, rfl, rfl⟩ := hb.hP, hb.hw, hb.hK, hb.hm, hb.hB
  exact ⟨fun σ H0 H en W C tk hC hW Q => s_e (pe_callS F hr gl hm hk hbi (fun σ => passAt tk σ) pa_s hv.2 he hpl) (m_a (ha.run σ H0 H en) fun vs H1 ⟨H01, e1, en1, d1⟩ =>
    ⟨ds, nm, C, H01, en1.sub, d1, hg, hC, fun H' q => hW H01 H' e1 (en1.grow (Ex.refl _) q (en1.sub.trans q) fun a h h0 => absurd h0 h)⟩)⟩
theorem q_raise {n m : Str} {j : Nat} {C : Addr} {p p2 pos' : Pos} {rest : List Stmt} (hl : Lets X S n) (hb : Bd X P w K mg base N sc k) (kx : ExK K mg n C) (hv : gloC sc n = true) : Ws X S Γ (.Raise (some (.Call (.Name n p) [.Constant (.str m) j p2] [] pos)) none pos' :: rest) D := by
  obtain ⟨W, C', tk, hm, hw⟩ := hl.ex
  unfold gloC at hv
  simp only [Bool.and_eq_true, Bool.not_eq_true'] at hv
  have gl : Gl X n := by show X.env.scope.names.lookup n = _; rw [hb.hs]; exact gloB_ok hv.1
  have ec : C' = C := by
    rw [hb.hm] at hm
    have := hm.symm.trans kx.gC
    injection this with this
    injection this
  subst ec
  exact ws_cons <| .mk fun σ H0 H en => s_s (ps_raise hb.calm tk (pmk_own PySem.F.excBase_ValueError (by rw [hb.hK]; exact kx.xC) hm (by rw [hb.hK]; exact kx.kC) (raises_own (by rw [hb.hK]; exact kx.bC) (by rw [hb.hK]; exact kx.tC)) gl hv.2)) (hw σ H0 H Γ en)
theorem q_dropX {n : Str} {rest : List Stmt} (hs : swapsWith e none pos.line X.env = pure false) (hl : Lets X S n) (h : EvX X S Γ e n Γ1) : Ws X S Γ (.Expr e pos :: rest) D := by
  obtain ⟨W, C, tk, hm, hw⟩ := hl.ex
  exact ws_cons <| .mk fun σ H0 H en => s_s (ps_expr pe_s hs) (h.run σ H0 H en W C tk hm (fun H0' H' _ en' => hw σ H0' H' _ en') _)
theorem q_retX {n : Str} {rest : List Stmt} (hl : Lets X S n) (h : EvX X S Γ e n Γ1) : Ws X S Γ (.Return (some e) pos :: rest) D := by
  obtain ⟨W, C, tk, hm, hw⟩ := hl.ex
  exact ws_cons <| .mk fun σ H0 H en => s_s (ps_ret pe_s) (h.run σ H0 H en W C tk hm (fun H0' H' _ en' => hw σ H0' H' _ en') _)
theorem q_setX {n m : Str} {i : Nat} {p : Pos} {rest : List Stmt} (hs : swapsWith e (some (.Name m p)) pos.line X.env = pure false) (s : Sto X m i) (hl : Lets X S n) (h : EvX X S Γ e n Γ1) : Ws X S Γ (.Assign [.Name m p] e pos :: rest) D := by
  obtain ⟨W, C, tk, hm, hw⟩ := hl.ex
  exact ws_cons <| .mk fun σ H0 H en => s_s (ps_set s.nd s.ix s.loc pe_s hs s.fn) (h.run σ H0 H en W C tk hm (fun H0' H' _ en' => hw σ H0' H' _ en') _)
/-- a def that raises -/
theorem fn_raise {x qual : Str} {st : Stmt} {f : Addr} {fd : FuncData} {ps : List Str} {G : List Dt → Str → Prop}
    (F : Fun K x qual st f fd) (Sc : FnScope N ps (defScope st)) (hG : ∀ ds n, G ds n → ds.length = ps.length)
    (body : ∀ X : Cx, Bd X P w K mg base N (defScope st) k → (∀ x, X.fn x = true) → ∀ S ds n, G ds n → Lets X S n → Ws X S (startC N ds) (defBody st) { nx := fun _ => False, rt := fun _ _ => False }) :
    FnOk P w K mg base (L2.CX P w) (k + 1) f fd ps (spX K mg G) := by
  have hpl : ps.length ≤ N.length := by have := congrArg List.length Sc.pre; rw [List.length_take] at this; omega
  refine F.okX Sc (fun vs H Q E h => ?_) (fun cdv A outer s H vs Q E hr h => ?_)
  · obtain ⟨ds, n, C, H0, _, r, g, _⟩ := h
    rw [r.length, hG _ _ g]
  · obtain ⟨ds, n, C, H0, e, r, g, hm, q⟩ := h
    have hb := body (cxOf (L2.CX P w) P w K mg base N qual (defScope st) f cdv A outer s H E) ⟨rfl, rfl, rfl, rfl, rfl, rfl, rfl, Sc.nd, rfl, passes_of rfl, hr⟩ (fun _ => rfl) ⟨H, fun a => H0 a = none ∧ Mu (H a)⟩ ds n g
      ⟨fun cls d _ H => E cls d H, C, takes_of rfl rfl rfl rfl, hm, fun σ H0 H' Γ en => q H' en.bas⟩
    have en := en_start (N := N) e r (by rw [hG _ _ g]; exact hpl)
    exact ⟨_, pss_s, m_ss (hb.run _ _ _ en) (fun _ _ ⟨_, _, _, _, z⟩ => z.elim) (fun _ _ ⟨_, _, _, _, _, _, _, z⟩ => z.elim) (fun _ _ ⟨_, _, _, _, z⟩ => z.elim) (fun _ _ ⟨_, _, _, _, z⟩ => z.elim)⟩
/-! ### try -/
/-- what a try asks of its context -/
structure Tp (X : Cx) : Prop where
  stk : X.stack = X.env :: X.outer
  frm : X.env.frame = some X.env.locals
/-- the context of an except suite -/
structure Bz (Z : Cx) (P : Program) (w : World) (K : PySem.W.Frag) (mg : Str → Option Value) (N : List Str) (sc : Scope) : Prop where
  hP : Z.prog = P
  hw : Z.w = w
  hK : Z.K = K
  hm : Z.mg = mg
  hN : Z.N = N
  hs : Z.env.scope = sc
  nd : N.Nodup
theorem Bz.nam (b : Bz X P w K mg N sc) {n : Str} {i : Nat} (h : N[i]? = some n) (hv : namB sc n = true) : Nam X n i := by
  unfold namB at hv
  simp only [Bool.and_eq_true, Bool.not_eq_true'] at hv
  exact ⟨by rw [b.hN]; exact h, by rw [b.hs]; exact visB_ok hv.1.1, hv.1.2, hv.2⟩
theorem Bz.sto (b : Bz X P w K mg N sc) (hf : ∀ x, X.fn x = true) {n : Str} {i : Nat} (h : N[i]? = some n) (hv : locB sc n = true) : Sto X n i :=
  ⟨by rw [b.hN]; exact h, by rw [b.hN]; exact b.nd, by rw [b.hs]; exact locB_ok hv, .inl (hf _)⟩
theorem Bz.blt (b : Bz X P w K mg N sc) {n : Str} (h : gloB sc n = true) (hm : mg n = none) : Blt X n :=
  ⟨by show X.env.scope.names.lookup n = _; rw [b.hs]; exact gloB_ok h, by rw [b.hm]; exact hm⟩
theorem En.clr {H0 H : Hp} {σ : L2.St} {i : Nat} (en : En K S H0 H σ Γ) : En K S H0 H (σ.set i none) (cp Γ i .no) := by
  refine ⟨en.sub, en.bas, en.forb, by rw [List.length_set, cp_len]; exact en.len, fun j c hc => ?_, fun j l c d' a h1 h2 o1 o2 s1 s2 => ?_⟩
  · by_cases hj : j = i
    · subst hj
      have e := cg_cp hc
      have hl : j < σ.length := by
        rw [en.len]
        rw [cg_eq] at hc
        have := (List.getElem?_eq_some_iff.mp hc).1
        rw [cp_len] at this
        exact this
      exact ⟨none, List.getElem?_set_self hl, by rw [e]; trivial⟩
    · rw [cg_cp_ne hj] at hc
      obtain ⟨o, e, k⟩ := en.cells j c hc
      exact ⟨o, by rw [List.getElem?_set_ne (Ne.symm hj)]; exact e, k⟩
  · have n1 : j ≠ i := fun z => by subst z; rw [cg_cp h1] at o1; cases o1
    have n2 : l ≠ i := fun z => by subst z; rw [cg_cp h2] at o2; cases o2
    rw [cg_cp_ne n1] at h1
    rw [cg_cp_ne n2] at h2
    rw [List.getElem?_set_ne (Ne.symm n1)] at s1
    rw [List.getElem?_set_ne (Ne.symm n2)] at s2
    exact en.apart j l c d' a h1 h2 o1 o2 s1 s2
/-- a body of one statement that raises -/
inductive One (env : Env) : Expr → Stmt → Prop
  | expr {e : Expr} {p : Pos} (hs : swapsWith e none p.line env = pure false) : One env e (.Expr e p)
  | ret {e : Expr} {p : Pos} : One env e (.Return (some e) p)
theorem one_run {X : Cx} {st : Stmt} (o : One X.env e st) {σ : L2.St} {H : Hp} {E : Ends} (h : ∀ Q : VK, sE X e σ H Q) : sSs X [st] E σ H := by
  cases o with
  | expr hs => exact s_ss (pss_cons (ps_expr pe_s hs) pss_nil) (h _)
  | ret => exact s_ss (pss_cons (ps_ret pe_s) pss_nil) (h _)
def tBody (X : Cx) (body : List Stmt) : WX → TS := fun W D σ H => ∀ (pn : List (Addr × Obj)) (xe : Value → Shared → Prop), Takes (X.tr pn xe) W → PassesOwn (model X.prog X.w) X.A X.env xe → sSs (X.tr pn xe) body D σ H
def tSuite (X : Cx) (st : List Stmt) : Addr → Value → Option Addr → TS := fun a cls d D σ H => ∀ (oe : Obj) (pn : List (Addr × Obj)), Zc cls d oe → (∃ vs, oe.data = .fields vs) → sSs (X.suite a ((a, oe) :: pn)) st D σ H
/-- try: f(..) / except x: suite -/
theorem q_tryO {n x : Str} {st b₀ : Stmt} {suite rest : List Stmt} {np pos' : Pos} (hx : ∀ x, X.fn x = true) (tp : Tp X) (hb : Bd X P w K mg base N sc k) (m : Exm K mg n x true) (hv : gloC sc x = true) (o : One X.env e st)
    (h : ∀ Y, Bd Y P w K mg base N sc k → Y.env = X.env → EvX Y S Γ e n Γ1)
    (hs : ∀ Z, Bz Z P w K mg N sc → (∀ x, Z.fn x = true) → Z.env = X.env → Ws Z S Γ1 (b₀ :: suite) { D with nx := fun Γ' => Ws X S Γ' rest D }) :
    Ws X S Γ (.Try [st] [.ExceptHandler (some (.Name x np)) none (b₀ :: suite) pos'] [] [] pos :: rest) D := by
  obtain ⟨C, M, hC, hM, hm⟩ := m.ex
  unfold gloC at hv
  simp only [Bool.and_eq_true, Bool.not_eq_true'] at hv
  have gl : Gl X x := by show X.env.scope.names.lookup x = _; rw [hb.hs]; exact gloB_ok hv.1
  refine ws_cons <| .mk fun σ H0 H en => s_s (ps_try_only (tb := tBody X [st]) (ts := tSuite X (b₀ :: suite)) (Wout := fun _ _ _ _ => False) tp.stk tp.frm ⟨gl, hv.2, .inl (by rw [hb.hm]; exact hM)⟩ takes0
    (fun W pn xe tk po => ⟨fun pins s σ H D I q => q pn xe tk po pins s I⟩) (fun a oe cls d pn hz hf => ⟨fun pins s σ H D I q => q oe pn hz hf pins s I⟩)) ?_
  intro pn xe tk po
  have bY : Bd (X.tr pn xe) P w K mg base N sc k := ⟨hb.hP, hb.hw, hb.hK, hb.hm, hb.hB, hb.hN, hb.hs, hb.nd, hb.calm, po, hb.room⟩
  refine one_run (X := X.tr pn xe) o fun Q => (h _ bY rfl).run σ H0 H en _ C tk (by show X.mg n = _; rw [hb.hm]; exact hC) (fun H0' H' e1 en1 => ?_) Q
  refine ⟨true, by rw [hb.hK]; exact hm, fun _ a na oe pn' hz hf => ?_, fun z => nomatch z⟩
  have z := (hs (X.suite a ((a, oe) :: pn')) ⟨hb.hP, hb.hw, hb.hK, hb.hm, hb.hN, hb.hs, hb.nd⟩ hx rfl).run σ H0' H' en1
  exact m_ss z (cnc_nx e1) (cnc_rt e1) (cnc_bk e1) (cnc_ct e1)
/-- the built-in isinstance in a suite -/
def IsE (Z : Cx) (K : PySem.W.Frag) (C a : Addr) : Prop := CallR Z (.builtin "isinstance") (rIsE K C a)
/-- try: f(..) / except x as v: suite -/
theorem q_tryA {n x v : Str} {i : Nat} {st b₀ : Stmt} {suite rest : List Stmt} {np pos' : Pos} (hx : ∀ x, X.fn x = true) (tp : Tp X) (hb : Bd X P w K mg base N sc k) (hix : N[i]? = some v) (m : Exm K mg n x true) (kc : ∃ C, mg n = some (.ref C) ∧ ExcC K C)
    (hv : (gloC sc x && decide (sc.names.lookup v = some .local)) = true) (o : One X.env e st)
    (h : ∀ Y, Bd Y P w K mg base N sc k → Y.env = X.env → EvX Y S Γ e n Γ1)
    (hs : ∀ Z, Bz Z P w K mg N sc → (∀ x, Z.fn x = true) → Z.env = X.env → ∀ a C, mg n = some (.ref C) → IsE Z K C a → Ws Z S (cp Γ1 i (.val (.adr a))) (b₀ :: suite) { D with nx := fun Γ' => Ws X S (cp Γ' i .no) rest D, bk := fun Γ' => D.bk (cp Γ' i .no), ct := fun Γ' => D.ct (cp Γ' i .no) }) :
    Ws X S Γ (.Try [st] [.ExceptHandler (some (.Name x np)) (some v) (b₀ :: suite) pos'] [] [] pos :: rest) D := by
  obtain ⟨C, M, hC, hM, hm⟩ := m.ex
  obtain ⟨C', hC', kcc⟩ := kc
  have ec : C' = C := by
    have := hC'.symm.trans hC
    injection this with this
    injection this
  subst ec
  unfold gloC at hv
  simp only [Bool.and_eq_true, Bool.not_eq_true', decide_eq_true_eq] at hv
  have gl : Gl X x := by show X.env.scope.names.lookup x = _; rw [hb.hs]; exact gloB_ok hv.1.1
  have hlv : X.env.kindOf v = some .local := by show X.env.scope.names.lookup v = _; rw [hb.hs]; exact hv.2
  refine ws_cons <| .mk fun σ H0 H en => s_s (ps_try_as (i := i) (tb := tBody X [st]) (ts := tSuite X (b₀ :: suite)) (Wout := fun _ _ _ _ => False) tp.stk tp.frm (by rw [hb.hN]; exact hb.nd) (by rw [hb.hN]; exact hix) hlv ⟨gl, hv.1.2, .inl (by rw [hb.hm]; exact hM)⟩ takes0
    (fun W pn xe tk po => ⟨fun pins s σ H D I q => q pn xe tk po pins s I⟩) (fun a oe cls d pn hz hf => ⟨fun pins s σ H D I q => q oe pn hz hf pins s I⟩)) ?_
  intro pn xe tk po
  have bY : Bd (X.tr pn xe) P w K mg base N sc k := ⟨hb.hP, hb.hw, hb.hK, hb.hm, hb.hB, hb.hN, hb.hs, hb.nd, hb.calm, po, hb.room⟩
  refine one_run (X := X.tr pn xe) o fun Q => (h _ bY rfl).run σ H0 H en _ C' tk (by show X.mg n = _; rw [hb.hm]; exact hC) (fun H0' H' e1 en1 => ?_) Q
  refine ⟨true, by rw [hb.hK]; exact hm, fun _ a na oe pn' hz hf => ?_, fun z => nomatch z⟩
  have is : IsE (X.suite a ((a, oe) :: pn')) K C' a := by
    have := call_isE (X := X) (a := a) (D := C') (oe := oe) (pn := pn') (by rw [hb.hK]; exact kcc) hz hf
    rw [hb.hK] at this
    exact this
  have z := (hs (X.suite a ((a, oe) :: pn')) ⟨hb.hP, hb.hw, hb.hK, hb.hm, hb.hN, hb.hs, hb.nd⟩ hx rfl a C' hC is).run (σ.set i (some (.ref a))) H0' H' (en1.setv (.adr a))
  exact m_ss z (fun σ2 H2 ⟨h2, Γ2, e2, en2, q⟩ => ⟨h2, _, e1.trans e2, en2.clr, q⟩) (cnc_rt e1) (fun σ2 H2 ⟨h2, Γ2, e2, en2, q⟩ => ⟨h2, _, e1.trans e2, en2.clr, q⟩) (fun σ2 H2 ⟨h2, Γ2, e2, en2, q⟩ => ⟨h2, _, e1.trans e2, en2.clr, q⟩)
/-- a try that runs through -/
theorem q_tryN {body rest : List Stmt} {h₀ : ExceptHandler} {hs : List ExceptHandler} (hb : Bd X P w K mg base N sc k) (hf : ∀ x, X.fn x = true)
    (h : ∀ Y, Bd Y P w K mg base N sc k → (∀ x, Y.fn x = true) → Ws Y S Γ body { D with nx := fun Γ' => Ws X S Γ' rest D }) : Ws X S Γ (.Try body (h₀ :: hs) [] [] pos :: rest) D := by
  refine ws_cons <| .mk fun σ H0 H en => s_s (ps_try_thru0 pss_s) ?_
  exact (h X.nox ⟨hb.hP, hb.hw, hb.hK, hb.hm, hb.hB, hb.hN, hb.hs, hb.nd, hb.calm, PassesOwn.never, hb.room⟩ hf).run σ H0 H en
/-- a def with a try that lets nothing out -/
theorem fn_pureT {x qual : Str} {st : Stmt} {f : Addr} {fd : FuncData} {ps : List Str} {G : List Dt → Dt → Prop}
    (F : Fun K x qual st f fd) (Sc : FnScope N ps (defScope st)) (hG : ∀ ds d, G ds d → ds.length = ps.length)
    (body : ∀ X : Cx, Bd X P w K mg base N (defScope st) k → (∀ x, X.fn x = true) → Tp X → ∀ S ds d, G ds d → Ws X S (startC N ds) (defBody st) { nx := fun _ => d = .non, rt := fun d' _ => d' = d }) :
    FnOk P w K mg base CX0 (k + 1) f fd ps (spF K G) := by
  have hpl : ps.length ≤ N.length := by have := congrArg List.length Sc.pre; rw [List.length_take] at this; omega
  refine F.ok Sc (fun vs H Q E h => ?_) (fun cdv A outer s H vs Q E hr h => ?_)
  · obtain ⟨ds, d, H0, _, r, g, _⟩ := h
    rw [r.length, hG _ _ g]
  · obtain ⟨ds, d, H0, e, r, g, q⟩ := h
    have hb := body (cxOf CX0 P w K mg base N qual (defScope st) f cdv A outer s H E).nox ⟨rfl, rfl, rfl, rfl, rfl, rfl, rfl, Sc.nd, rfl, PassesOwn.never, hr⟩ (fun _ => rfl) ⟨rfl, rfl⟩ ⟨H, fun a => H0 a = none ∧ Mu (H a)⟩ ds d g
    have en := en_start (N := N) e r (by rw [hG _ _ g]; exact hpl)
    have wp := hb.run _ _ _ en
    refine ⟨_, pss_s, m_ss wp ?_ ?_ (fun _ _ ⟨_, _, _, _, z⟩ => z.elim) (fun _ _ ⟨_, _, _, _, z⟩ => z.elim)⟩
    · intro σ' H' ⟨H0', Γ', e0, en', hd⟩
      exact q .non H' H0' e0 en'.sub en'.bas (fun a h1 h2 => (mu_or H a).resolve_right fun z => h1 (en'.forb a ⟨h2, z⟩).1) (by rw [hd]; exact .non)
    · intro v H' ⟨H0', σ', Γ', d', e0, en', r', hd⟩
      subst hd
      exact q v H' H0' e0 en'.sub en'.bas (fun a h1 h2 => (mu_or H a).resolve_right fun z => h1 (en'.forb a ⟨h2, z⟩).1) r'
end
end Fl
namespace Fl
open PySem L2
/-! ### ints, each once; dicts of ints to True -/
def addI (l : List Int) (p : Int) : List Int := if p ∈ l then l else l ++ [p]
def dupI (ps : List Int) : List Int := ps.foldl addI []
theorem addI_mem {l : List Int} {p q : Int} : q ∈ addI l p ↔ q ∈ l ∨ q = p := by
  unfold addI
  split
  · rename_i h
    exact ⟨.inl, fun z => z.elim id fun z => z ▸ h⟩
  · rw [List.mem_append, List.mem_singleton]
theorem addI_nodup {l : List Int} {p : Int} (h : l.Nodup) : (addI l p).Nodup := by
  unfold addI
  split
  · exact h
  · rename_i hn
    rw [List.nodup_append]
    exact ⟨h, by simp, fun a ha b hb => by rw [List.mem_singleton.mp hb]; exact fun z => hn (z ▸ ha)⟩
theorem addI_len (l : List Int) (p : Int) : (addI l p).length ≤ l.length + 1 := by
  unfold addI
  split
  · omega
  · rw [List.length_append]; exact Nat.le_refl _
theorem addI_fold : ∀ (ps acc : List Int), acc.Nodup → (ps.foldl addI acc).Nodup ∧ (∀ x, x ∈ ps.foldl addI acc ↔ x ∈ acc ∨ x ∈ ps) ∧ (ps.foldl addI acc).length ≤ acc.length + ps.length
  | [], acc, h => ⟨h, fun x => by simp, Nat.le_refl _⟩
  | t :: ps, acc, h => by
    obtain ⟨h1, h2, h3⟩ := addI_fold ps (addI acc t) (addI_nodup h)
    refine ⟨h1, fun x => ?_, ?_⟩
    · rw [List.foldl_cons, h2, addI_mem, List.mem_cons, or_assoc]
    · have := addI_len acc t
      rw [List.foldl_cons, List.length_cons]
      omega
theorem dupI_nodup (ps : List Int) : (dupI ps).Nodup := (addI_fold ps [] List.nodup_nil).1
theorem dupI_mem {ps : List Int} {x : Int} : x ∈ dupI ps ↔ x ∈ ps := by
  have := (addI_fold ps [] List.nodup_nil).2.1 x
  unfold dupI
  simpa using this
theorem dupI_len (ps : List Int) : (dupI ps).length ≤ ps.length := by
  have := (addI_fold ps [] List.nodup_nil).2.2
  simpa [dupI] using this
def dB (l : List Int) : List (Int × Dt) := l.map fun p => (p, .bl true)
theorem dB_any (l : List Int) (p : Int) : ((dB l).any fun kv => decide (kv.1 = p)) = decide (p ∈ l) := by
  unfold dB
  rw [List.any_map]
  induction l with
  | nil => simp
  | cons q l ih =>
    rw [List.any_cons, ih]
    by_cases h : q = p
    · subst h; simp
    · have h' : ¬ p = q := fun z => h z.symm
      simp [h, h', List.mem_cons]
theorem putD_dB (l : List Int) (p : Int) : putD (dB l) p (.bl true) = dB (addI l p) := by
  unfold putD addI
  rw [dB_any]
  by_cases h : p ∈ l
  · rw [if_pos (decide_eq_true h), if_pos h]
    unfold dB
    rw [List.map_map]
    refine List.map_congr_left fun q _ => ?_
    show (if q = p then (q, Dt.bl true) else (q, Dt.bl true)) = _
    split <;> rfl
  · rw [if_neg (by rw [decide_eq_false h]; exact Bool.false_ne_true), if_neg h]
    unfold dB
    rw [List.map_append]
    rfl
theorem keysD_dB (l : List Int) : keysD (dB l) = l := by
  unfold keysD dB
  rw [List.map_map]
  exact List.map_id l
theorem lookD_dB (l : List Int) (i : Int) : lookD (dB l) i = if i ∈ l then some (.bl true) else none := by
  unfold lookD dB
  induction l with
  | nil => rfl
  | cons q l ih =>
    rw [List.map_cons, List.find?_cons]
    by_cases h : q = i
    · subst h; simp
    · have h' : ¬ i = q := fun z => h z.symm
      simp only [h, decide_false]
      rw [ih]
      simp [List.mem_cons, h']
theorem lookD_dBs (l : List Int) (i : Int) : (lookD (dB l) i).isSome = decide (i ∈ l) := by
  rw [lookD_dB]
  by_cases h : i ∈ l
  · rw [if_pos h, decide_eq_true h]; rfl
  · rw [if_neg h, decide_eq_false h]; rfl
theorem dB_len (l : List Int) : (dB l).length = l.length := by unfold dB; rw [List.length_map]
section
variable {X : Cx} {S : Bs} {Γ Γ1 Γ2 Γ3 : Ct} {a b e f elt : Expr} {x y z d : Dt} {pos : Pos} {D : Pd} {ds es : List Dt} {P : Program} {w : World} {K : PySem.W.Frag} {mg : Str → Option Value} {base : Heap} {N : List Str} {sc scope : Scope} {k : Nat}
theorem ev_dgetB {o : Expr} {l : List Int} {i : Int} {kk : Nat} {apos cpos p2 : Pos} (m : M2 X o "get" apos e (.Constant (.bool false) kk p2) cpos) (C : Cxt X) (ho : Ev X S Γ o (.dct (dB l)) Γ1) (he : Ev X S Γ1 e (.int i) Γ2) :
    Ev X S Γ (.Call (.Attribute o "get" apos) [e, .Constant (.bool false) kk p2] [] cpos) (.bl (decide (i ∈ l))) Γ2 := by
  have h := ev_dget m C ho he (ev_bl (i := false))
  rw [lookD_dB] at h
  by_cases hi : i ∈ l
  · rw [if_pos hi] at h; rw [decide_eq_true hi]; exact h
  · rw [if_neg hi] at h; rw [decide_eq_false hi]; exact h
theorem c_inDB {i : Int} {l : List Int} (C : Cxt X) : Cop X .In (.int i) (.dct (dB l)) (decide (i ∈ l)) := by
  have h := c_inD (i := i) (ks := dB l) C
  rw [lookD_dBs] at h
  exact h
theorem c_ninDB {i : Int} {l : List Int} (C : Cxt X) : Cop X .NotIn (.int i) (.dct (dB l)) (!decide (i ∈ l)) := by
  have h := c_ninD (i := i) (ks := dB l) C
  rw [lookD_dBs] at h
  exact h
theorem c_inDclB {i : Int} {l : List Int} (C : Cxt X) : Cop X .In (.int i) (.dcl (dB l)) (decide (i ∈ l)) := by
  have h := c_inDcl (i := i) (ks := dB l) C
  rw [lookD_dBs] at h
  exact h
/-- len(xs), xs an own list -/
theorem eb_lenO {n : Str} {i : Nat} {o : Option Addr} {p p2 : Pos} (he : starEach [.Name n p2] X.env = (false, eval (.Name n p2) X.env) :: starEach [] X.env) (hm : mg (Str.ofString "len") = none) (hb : Bd X P w K mg base N sc k) (hv : gloB sc (Str.ofString "len") = true) (hix : N[i]? = some n) (hg : cg Γ i = some (.own o ds)) (hvn : namB sc n = true) :
    Ev X S Γ (.Call (.Name (Str.ofString "len") p) [.Name n p2] [] pos) (.int (ds.length : Int)) Γ := .mk fun σ H0 H en => by
  have B := hb.blt hv hm
  have hn := hb.nam' hix hvn
  obtain ⟨o, h1, A, xs, rfl, h0, hS, hf, hH, r⟩ := en.cells i _ hg
  refine s_e (pe_callB call_len_seq B.gl B.mg PySem.boot_len (pa_cons (pe_var hn.ix hn.vis hn.d1 hn.d2) pa_nil he) (by decide +kernel) (by decide +kernel) he rfl) ⟨.ref A, h1, A, xs, rfl, .inl (.inl (.inl hH)), by rw [r.length]; exact pst_int en⟩
theorem eb_lenOM {α : Type} {enc : α → Dt} {xs : List α} {n : Str} {i : Nat} {o : Option Addr} {p p2 : Pos} (he : starEach [.Name n p2] X.env = (false, eval (.Name n p2) X.env) :: starEach [] X.env) (hm : mg (Str.ofString "len") = none) (hb : Bd X P w K mg base N sc k) (hv : gloB sc (Str.ofString "len") = true) (hix : N[i]? = some n) (hg : cg Γ i = some (.own o (xs.map enc))) (hvn : namB sc n = true) :
    Ev X S Γ (.Call (.Name (Str.ofString "len") p) [.Name n p2] [] pos) (.int (xs.length : Int)) Γ := by
  have h := eb_lenO (S := S) (pos := pos) (p := p) he hm hb hv hix hg hvn
  rw [List.length_map] at h
  exact h
/-- reversed(range(n)) -/
abbrev rngR (n : Nat) : List Dt := (List.range n).reverse.map fun i => .int ((i : Nat) : Int)
theorem ib_rev {tg : Expr} {n : Int} {p p2 pos2 : Pos} (he : starEach [a] X.env = (false, eval a X.env) :: starEach [] X.env) (he2 : starEach [.Call (.Name (Str.ofString "range") p2) [a] [] pos2] X.env = (false, eval (.Call (.Name (Str.ofString "range") p2) [a] [] pos2) X.env) :: starEach [] X.env)
    (hm : mg (Str.ofString "reversed") = none) (hm2 : mg (Str.ofString "range") = none) (hb : Bd X P w K mg base N sc k) (hv : (gloB sc (Str.ofString "reversed") && gloB sc (Str.ofString "range")) = true) (h : Ev X S Γ a (.int n) Γ1) (h0 : 0 ≤ n) (hn : n.toNat ≤ sizeLine) :
    Itd X S Γ tg (.Call (.Name (Str.ofString "reversed") p) [.Call (.Name (Str.ofString "range") p2) [a] [] pos2] [] pos) (rngR n.toNat) Γ1 := .mk fun σ H0 H en => by
  rw [Bool.and_eq_true] at hv
  have B := hb.blt hv.1 hm
  have B2 := hb.blt hv.2 hm2
  have h62 := line_range hn
  refine s_i (pi_revR B.gl B.mg (prg_1 B2.gl B2.mg pe_s he) he2) (m_e (h.run σ H0 H en) fun v H1 ⟨H01, e1, en1, r⟩ => ?_)
  cases r
  refine ⟨n, rfl, by omega, by omega, by omega, by omega, H01, e1, en1, ?_⟩
  have ez : (n - 0).toNat = n.toNat := by rw [Int.sub_zero]
  have el : (rngR n.toNat).length = n.toNat := by unfold rngR; rw [List.length_map, List.length_reverse, List.length_range]
  rw [el, ez]
  refine ⟨hn, fun _ => True, YFn fun i => .int (0 + ((n.toNat : Nat) : Int) - 1 + (i : Nat) * (-1)), walk_rangeC, fun _ _ => trivial, fun i H2 v H3 hi hy => ⟨hy.1, .int (((n.toNat - 1 - i : Nat) : Nat) : Int), ?_, fun _ _ => ?_⟩⟩
  · unfold rngR
    rw [List.getElem?_map, List.getElem?_reverse (by rw [List.length_range]; exact hi), List.length_range, List.getElem?_range (by omega)]
    rfl
  · rw [hy.2]
    show Dr X.K _ (V.int (0 + ((n.toNat : Nat) : Int) - 1 + (i : Nat) * (-1))) _
    rw [show (0 + ((n.toNat : Nat) : Int) - 1 + (i : Nat) * (-1)) = ((n.toNat - 1 - i : Nat) : Int) by omega]
    exact .int _
/-- xs.index(y) -/
theorem ev_index {o : Expr} {ns : List Int} {i : Int} {apos cpos : Pos} (hbase : attributeBase o "index" X.env (eval o X.env) = eval o X.env) (hfew : ((backTo cpos (starEach [e] X.env)).all (fun x => !x.1) && (backToKw cpos (keywordEach [] X.env)).all (fun x => x.1.isSome) && decide ([e].length + ([] : List Keyword).length + (if ([] : List Keyword).isEmpty then 0 else 1) < 30)) = true)
    (hline : (apos.endLine == cpos.line) = true) (hs : starEach [e] X.env = (false, eval e X.env) :: starEach [] X.env) (ho : Ev X S Γ o (.lst (ns.map .int)) Γ1) (he : Ev X S Γ1 e (.int i) Γ2) (hi : i ∈ ns) : Ev X S Γ (.Call (.Attribute o "index" apos) [e] [] cpos) (.int ((ns.idxOf i : Nat) : Int)) Γ2 := .mk fun σ H0 H en =>
  s_e (pe_bm PySem.F.plainAttrs_list PySem.F.slot_list_index PySem.F.type_list_index mt_index pe_s (pa_cons pe_s pa_nil hs) hbase hfew hline hs rfl) (m_e (ho.run σ H0 H en) fun v H1 ⟨H01, e1, en1, r⟩ => by
    cases r with
    | @lst A xs _ h0 r =>
      rw [r.ints] at h0
      refine ⟨.inl ⟨rfl, _, .inl (.inl (en1.sub _ _ h0))⟩, m_e (he.run σ H01 H1 en1) fun u H2 ⟨H02, e2, en2, r2⟩ => ?_⟩
      cases r2
      have hlt := List.idxOf_lt_length_iff.mpr hi
      have hget : ns[ns.idxOf i]? = some i := by rw [List.getElem?_eq_getElem hlt, List.getElem_idxOf hlt]
      refine ⟨A, ns.map V.int, .int i, ns.idxOf i, .int i, rfl, rfl, .inl (.inl (en2.sub _ _ (e2 _ _ h0))), rfl, flat_ints ns, by rw [List.getElem?_map, hget]; rfl, ?_, fun m z hm hz => ?_, H02, e1.trans e2, en2, .int _⟩
      · show (i == i) = true
        exact beq_self_eq_true i
      · rw [List.getElem?_map] at hz
        cases q : ns[m]? with
        | none => rw [q] at hz; cases hz
        | some c =>
          rw [q] at hz
          cases hz
          show (c == i) = false
          refine beq_eq_false_iff_ne.mpr fun e => ?_
          obtain ⟨hml, e2⟩ := List.getElem?_eq_some_iff.mp q
          have := List.not_of_lt_findIdx (p := fun x => x == i) (xs := ns) (i := m) hm
          rw [e2, e] at this
          simp at this)
theorem ev_dict0 : Ev X S Γ (.Dict [] [] pos) (.dct (dB [])) Γ := .mk fun σ H0 H en => s_e pe_dnewK fun p hp => pst_new en hp (.dct upd_same .nil)
/-- xs.pop(j), xs an own list -/
theorem eb_popAt {α : Type} [Inhabited α] {enc : α → Dt} {ns : List α} {n : Str} {i : Nat} {o : Option Addr} {j : Int} {p p2 : Pos} (hs : starEach [e] X.env = [(false, eval e X.env)]) (hfew : ((backTo pos (starEach [e] X.env)).all (fun x => !x.1) && (backToKw pos (keywordEach [] X.env)).all (fun x => x.1.isSome) && decide ([e].length + ([] : List Keyword).length + (if ([] : List Keyword).isEmpty then 0 else 1) < 30)) = true) (hline : (p2.endLine == pos.line) = true)
    (hb : Bd X P w K mg base N sc k) (hix : N[i]? = some n) (hg : cg Γ i = some (.own o (ns.map enc))) (hv : namB sc n = true) (h : Ev X S Γ e (.int j) Γ) (hj : Bnd ns j) (hl : ns.length ≤ 100000) (hp : cp Γ i (.own o ((ns.eraseIdx j.toNat).map enc)) = Γ2) :
    Ev X S Γ (.Call (.Attribute (.Name n p) "pop" p2) [e] [] pos) (enc (atZ ns j)) Γ2 := .mk fun σ H0 H en => by
  have hn := hb.nam' hix hv
  obtain ⟨q, h1, A, xs, rfl, h0, hS, hf, hH, r⟩ := en.cells i _ hg
  obtain ⟨m, rfl⟩ := Int.eq_ofNat_of_zero_le hj.lo
  have hm : m < ns.length := by have := hj.hi; omega
  refine s_e (pe_bm PySem.F.plainAttrs_list PySem.F.slot_list_pop PySem.F.type_list_pop mt_popAt (pe_var hn.ix hn.vis hn.d1 hn.d2) (pa_cons pe_s pa_nil hs) rfl hfew hline hs rfl) ⟨.ref A, h1, .inl ⟨rfl, _, .inl (.inl hH)⟩, m_e (h.run σ H0 H en) fun v H1 ⟨H01, e1, en1, rv⟩ => ?_⟩
  obtain ⟨ys, h0', hS', hf', hH', r'⟩ := own_now (H0' := H0) (H' := H) (ds' := []) en1 h1 hg
  cases rv
  have hyl : ys.length = ns.length := by rw [r'.length, List.length_map]
  obtain ⟨v, hv1, hv2⟩ := r'.get (i := m) (d := enc ns[m]) (by rw [List.getElem?_map, List.getElem?_eq_getElem hm]; rfl)
  refine ⟨A, ys, (m : Int), m, v, rfl, rfl, hH', by omega, by omega, ?_, hv1, H01, e1, ?_, by rw [atZ_nat hm]; exact hv2⟩
  · have n0 : ¬ ((m : Int) < 0) := by omega
    have n1 : (decide (0 ≤ (m : Int)) && decide ((m : Int) < ys.length)) = true := by
      rw [Bool.and_eq_true, decide_eq_true_eq, decide_eq_true_eq]
      omega
    unfold seqIndex?
    simp only [n0, if_false, n1, if_true, Int.toNat_natCast]
  · rw [← hp]
    refine en1.mut hg rfl rfl h1 ⟨A, _, rfl, h0', hS', hf', upd_same, ?_⟩
    rw [Int.toNat_natCast, List.eraseIdx_eq_take_drop_succ, List.eraseIdx_eq_take_drop_succ, List.map_append, List.map_take, List.map_drop]
    exact (r'.take m).append (r'.drop (m + 1))
theorem drs_rng {K : PySem.W.Frag} {H : Hp} {c : Int} : ∀ l : List Nat, Drs K H (l.map fun i : Nat => V.int (c + (i : Nat))) (l.map fun i : Nat => Dt.int (c + (i : Nat)))
  | [] => .nil
  | i :: l => .cons (.int _) (drs_rng l)
/-- list(range(a, b)) -/
theorem evn_listRg {m n : Int} {p p2 pos2 : Pos} (he : starEach [.Call (.Name (Str.ofString "range") p2) [a, b] [] pos2] X.env = (false, eval (.Call (.Name (Str.ofString "range") p2) [a, b] [] pos2) X.env) :: starEach [] X.env) (ha : starEach [a, b] X.env = (false, eval a X.env) :: starEach [b] X.env) (hb2 : starEach [b] X.env = (false, eval b X.env) :: starEach [] X.env) (hpl : (backTo pos2 (starEach [b] X.env)).any (·.1) = false)
    (hm : mg (Str.ofString "list") = none) (hm2 : mg (Str.ofString "range") = none) (hb : Bd X P w K mg base N sc k) (hv : (gloB sc (Str.ofString "list") && gloB sc (Str.ofString "range")) = true) (h : Ev X S Γ a (.int m) Γ1) (h2 : Ev X S Γ1 b (.int n) Γ2) (h0 : 0 ≤ m) (hn : 0 ≤ n) (hmz : m ≤ 16777216) (hz : n ≤ 16777216) :
    EvN X S Γ (.Call (.Name (Str.ofString "list") p) [.Call (.Name (Str.ofString "range") p2) [a, b] [] pos2] [] pos) (rngD m (n - m).toNat) Γ2 := .mk fun σ H0 H en => by
  rw [Bool.and_eq_true] at hv
  have B := hb.blt hv.1 hm
  have B2 := hb.blt hv.2 hm2
  refine s_e (pe_listRg hb.calm B.gl B.mg (prg_2 B2.gl B2.mg pe_s pe_s ha hb2 hpl) he) (m_e (h.run σ H0 H en) fun v H1 ⟨H01, e1, en1, r⟩ => m_e (h2.run σ H01 H1 en1) fun u H2 ⟨H02, e2, en2, r2⟩ => ?_)
  cases r
  cases r2
  refine ⟨m, n, rfl, rfl, RgOk.of_le h0 hz hmz hn, fun q hq => ?_⟩
  obtain ⟨H03, l, zs, e3, z⟩ := nst_new en2 hq (drs_rng (K := X.K) (c := m) (List.range (n - m).toNat))
  exact ⟨H03, l, zs, (e1.trans e2).trans e3, z⟩
/-- the first, the second item of an own list -/
theorem eb_idxO0 {d0 : Dt} {n : Str} {i : Nat} {o : Option Addr} {p : Pos} (hs : PlainIx b) (hb : Bd X P w K mg base N sc k) (hix : N[i]? = some n) (hg : cg Γ i = some (.own o (d0 :: ds))) (hv : namB sc n = true) (h : Ev X S Γ b (.int 0) Γ) : Ev X S Γ (.Subscript (.Name n p) b pos) d0 Γ :=
  ev_idxO hs (hb.nam' hix hv) hg h (atI_nat (j := 0) rfl)
theorem eb_idxO1 {d0 d1 : Dt} {n : Str} {i : Nat} {o : Option Addr} {p : Pos} (hs : PlainIx b) (hb : Bd X P w K mg base N sc k) (hix : N[i]? = some n) (hg : cg Γ i = some (.own o (d0 :: d1 :: ds))) (hv : namB sc n = true) (h : Ev X S Γ b (.int 1) Γ) : Ev X S Γ (.Subscript (.Name n p) b pos) d1 Γ :=
  ev_idxO hs (hb.nam' hix hv) hg h (atI_nat (j := 1) rfl)
end
end Fl
namespace Fl
open PySem L2
section
variable {X Z : Cx} {S : Bs} {Γ Γ1 Γ2 Γ3 : Ct} {a b e f elt : Expr} {x y z d : Dt} {pos : Pos} {D : Pd} {ds es : List Dt} {P : Program} {w : World} {K : PySem.W.Frag} {mg : Str → Option Value} {base : Heap} {N : List Str} {sc scope : Scope} {k : Nat}
/-! ### what stands in except suites -/
theorem op_smul1 : OpR X (binaryOp .Mult) (fun x y H Q => ∃ t : Str, x = .str t ∧ y = .int 1 ∧ Q (.str t) H) := by
  intro pins s σ H x y v u Q I rx ry h
  obtain ⟨t, rfl, rfl, q⟩ := h
  obtain ⟨t1, rfl⟩ := rx
  obtain ⟨t2, rfl⟩ := ry
  refine PySem.SB.mul ⟨by decide, fun _ h => by simp at h, fun _ h => by simp at h⟩ fun t' k => ⟨.str t, H, I.tok k, ⟨t', ?_⟩, q⟩
  have : Txt.mul t 1 = t := by unfold Txt.mul; simp
  rw [this]
theorem b_smul1 {t : Str} : Bop X .Mult (.str t) (.int 1) (.str t) := ⟨_, op_smul1, fun S Γ σ H0 H v u en h1 h2 Q q => by
  cases h1; cases h2
  exact ⟨t, rfl, rfl, q _ _ (pst_str en)⟩⟩
theorem ev_cls {n : Str} {C : Addr} (bz : Bz Z P w K mg N sc) (hm : mg n = some (.ref C)) (hv : gloC sc n = true) : Ev Z S Γ (.Name n pos) (.adr C) Γ := .mk fun σ H0 H en => by
  unfold gloC at hv
  simp only [Bool.and_eq_true, Bool.not_eq_true'] at hv
  exact s_e (pe_glob (v := .ref C) (u := .ref C) (by show Z.env.scope.names.lookup n = _; rw [bz.hs]; exact gloB_ok hv.1) (by rw [bz.hm]; exact hm) rfl hv.2) ⟨H0, Ex.refl _, en, .adr C⟩
theorem bf_isC {C A M : Addr} {t : Bool} (h : IsE Z K C A) (q : PySem.W.kitOne K (.ref C) (.ref M) = some t) : Bfn Z (Str.ofString "isinstance") [.adr A, .adr M] (.bl t) := bf_b PyProof.Rows.boot_isinstance h fun S Γ σ H0 H vs en r hL Q k => by
  obtain ⟨v, u, rfl, h1, h2⟩ := dr2 r
  cases h1; cases h2
  exact ⟨.ref M, .ref M, t, rfl, fun u r => r, q, k _ _ (pst_bl en)⟩
theorem bf_isV {C A : Addr} {m : String} {t : Bool} (h : IsE Z K C A) (q : PySem.W.kitOne K (.ref C) (.type m) = some t) : Bfn Z (Str.ofString "isinstance") [.adr A, .ty m] (.bl t) := bf_b PyProof.Rows.boot_isinstance h fun S Γ σ H0 H vs en r hL Q k => by
  obtain ⟨v, u, rfl, h1, h2⟩ := dr2 r
  cases h1; cases h2
  exact ⟨.ty m, .type m, t, rfl, fun u r => r, q, k _ _ (pst_bl en)⟩
/-- isinstance(v, ValueError) -/
theorem ev_isVE {v : Str} {i : Nat} {C A : Addr} {p p1 p2 : Pos} (he : starEach [.Name v p1, .Name (Str.ofString "ValueError") p2] Z.env = (false, eval (.Name v p1) Z.env) :: starEach [.Name (Str.ofString "ValueError") p2] Z.env) (he2 : starEach [.Name (Str.ofString "ValueError") p2] Z.env = (false, eval (.Name (Str.ofString "ValueError") p2) Z.env) :: starEach [] Z.env)
    (hpl : (backTo pos (starEach [.Name (Str.ofString "ValueError") p2] Z.env)).any (·.1) = false) (bz : Bz Z P w K mg N sc) (hix : N[i]? = some v) (hg : cg Γ i = some (.val (.adr A))) (h : IsE Z K C A) (q : PySem.W.kitOne K (.ref C) (.type "ValueError") = some true)
    (hm : mg (Str.ofString "isinstance") = none) (hm2 : mg (Str.ofString "ValueError") = none) (hv : (namB sc v && gloB sc (Str.ofString "isinstance") && gloC sc (Str.ofString "ValueError")) = true) : Ev Z S Γ (.Call (.Name (Str.ofString "isinstance") p) [.Name v p1, .Name (Str.ofString "ValueError") p2] [] pos) (.bl true) Γ := by
  rw [Bool.and_eq_true, Bool.and_eq_true] at hv
  unfold gloC at hv
  simp only [Bool.and_eq_true, Bool.not_eq_true'] at hv
  have B := bz.blt hv.2.1 hm2
  refine ev_blt he hpl (bz.blt hv.1.2 hm) (ea_cons he (ev_name (bz.nam hix hv.1.1) hg) (ea_cons he2 ?_ ea_nil)) (bf_isV h q)
  exact .mk fun σ H0 H en => s_e (pe_bltn (v := .ty "ValueError") B.gl B.mg (by decide +kernel) rfl (by decide +kernel) hv.2.2) ⟨H0, Ex.refl _, en, .ty _⟩
theorem ev_isME {v n : Str} {i : Nat} {C A M : Addr} {p p1 p2 : Pos} (he : starEach [.Name v p1, .Name n p2] Z.env = (false, eval (.Name v p1) Z.env) :: starEach [.Name n p2] Z.env) (he2 : starEach [.Name n p2] Z.env = (false, eval (.Name n p2) Z.env) :: starEach [] Z.env)
    (hpl : (backTo pos (starEach [.Name n p2] Z.env)).any (·.1) = false) (bz : Bz Z P w K mg N sc) (hix : N[i]? = some v) (hg : cg Γ i = some (.val (.adr A))) (h : IsE Z K C A) (q : PySem.W.kitOne K (.ref C) (.ref M) = some true)
    (hm : mg (Str.ofString "isinstance") = none) (hm2 : mg n = some (.ref M)) (hv : (namB sc v && gloB sc (Str.ofString "isinstance") && gloC sc n) = true) : Ev Z S Γ (.Call (.Name (Str.ofString "isinstance") p) [.Name v p1, .Name n p2] [] pos) (.bl true) Γ := by
  rw [Bool.and_eq_true, Bool.and_eq_true] at hv
  exact ev_blt he hpl (bz.blt hv.1.2 hm) (ea_cons he (ev_name (bz.nam hix hv.1.1) hg) (ea_cons he2 (ev_cls bz hm2 hv.2) ea_nil)) (bf_isC h q)
/-- return "word" * int(isinstance(v, m) and isinstance(v, ValueError)) -/
theorem suite_word {v n m wd : Str} {i j : Nat} {A C : Addr} {p0 p1 p2 p3 p4 p5 p6 p7 p8 p9 p10 p11 p12 : Pos} (bz : Bz Z P w K mg N sc) (hix : N[i]? = some v) (hg : cg Γ i = some (.val (.adr A))) (hI : ExI K mg n m) (hC : mg n = some (.ref C)) (h : IsE Z K C A)
    (hm : mg (Str.ofString "isinstance") = none) (hm2 : mg (Str.ofString "ValueError") = none) (hm3 : mg (Str.ofString "int") = none) (hv : (namB sc v && gloB sc (Str.ofString "isinstance") && gloC sc (Str.ofString "ValueError") && gloC sc m && gloB sc (Str.ofString "int")) = true)
    (k : D.rt (.str wd) Γ)
    (e1 : starEach [.Name v p3, .Name m p4] Z.env = (false, eval (.Name v p3) Z.env) :: starEach [.Name m p4] Z.env := by rfl) (e2 : starEach [.Name m p4] Z.env = (false, eval (.Name m p4) Z.env) :: starEach [] Z.env := by rfl) (e3 : (backTo p5 (starEach [.Name m p4] Z.env)).any (·.1) = false := by rfl)
    (f1 : starEach [.Name v p7, .Name (Str.ofString "ValueError") p8] Z.env = (false, eval (.Name v p7) Z.env) :: starEach [.Name (Str.ofString "ValueError") p8] Z.env := by rfl) (f2 : starEach [.Name (Str.ofString "ValueError") p8] Z.env = (false, eval (.Name (Str.ofString "ValueError") p8) Z.env) :: starEach [] Z.env := by rfl) (f3 : (backTo p9 (starEach [.Name (Str.ofString "ValueError") p8] Z.env)).any (·.1) = false := by rfl)
    (g1 : starEach [.BoolOp .And [.Call (.Name (Str.ofString "isinstance") p2) [.Name v p3, .Name m p4] [] p5, .Call (.Name (Str.ofString "isinstance") p6) [.Name v p7, .Name (Str.ofString "ValueError") p8] [] p9] p10] Z.env = (false, eval (.BoolOp .And [.Call (.Name (Str.ofString "isinstance") p2) [.Name v p3, .Name m p4] [] p5, .Call (.Name (Str.ofString "isinstance") p6) [.Name v p7, .Name (Str.ofString "ValueError") p8] [] p9] p10) Z.env) :: starEach [] Z.env := by rfl) :
    Ws Z S Γ [.Return (some (.BinOp (.Constant (.str wd) j p0) .Mult (.Call (.Name (Str.ofString "int") p1) [.BoolOp .And [.Call (.Name (Str.ofString "isinstance") p2) [.Name v p3, .Name m p4] [] p5, .Call (.Name (Str.ofString "isinstance") p6) [.Name v p7, .Name (Str.ofString "ValueError") p8] [] p9] p10] [] p11) pos)) p12] D := by
  obtain ⟨C', M, hC', hM, _, q1, q2⟩ := hI.ex
  have ec : C' = C := by
    have := hC'.symm.trans hC
    injection this with this
    injection this
  subst ec
  simp only [Bool.and_eq_true] at hv
  have h1 := ev_isME (S := S) (pos := p5) (p := p2) e1 e2 e3 bz hix hg h q1 hm hM (by rw [hv.1.1.1.1, hv.1.1.1.2, hv.1.2]; rfl)
  have h2 := ev_isVE (S := S) (pos := p9) (p := p6) f1 f2 f3 bz hix hg h q2 hm hm2 (by rw [hv.1.1.1.1, hv.1.1.1.2, hv.1.1.2]; rfl)
  refine q_ret (ev_bin ev_str (ev_blt g1 rfl (bz.blt hv.2 hm3) (ea_cons g1 (ev_and h1 fun _ => ev_one h2) ea_nil) bf_intB) b_smul1) k
/-- v = v + 1 -/
theorem suite_inc {v : Str} {i j : Nat} {c : Int} {p1 p2 p3 p4 : Pos} (bz : Bz Z P w K mg N sc) (hf : ∀ x, Z.fn x = true) (hix : N[i]? = some v) (hg : cg Γ i = some (.val (.int c))) (hv : (namB sc v && locB sc v) = true) (k : D.nx (cp Γ i (.val (.int (c + 1)))))
    (hs : swapsWith (.BinOp (.Name v p2) .Add (.Constant (.int 1) j p3) p4) (some (.Name v p1)) pos.line Z.env = pure false := by rfl) :
    Ws Z S Γ [.Assign [.Name v p1] (.BinOp (.Name v p2) .Add (.Constant (.int 1) j p3) p4) pos] D := by
  rw [Bool.and_eq_true] at hv
  exact q_set (bz.sto hf hix hv.2) hs (ev_bin (ev_name (bz.nam hix hv.1) hg) ev_int b_add) rfl (ws_nil k)
/-- v = v + int(isinstance(e, ValueError)) -/
theorem suite_inc2 {v u n m : Str} {i l : Nat} {c : Int} {A C : Addr} {p1 p2 p3 p4 p5 p6 p7 p8 p9 : Pos} (bz : Bz Z P w K mg N sc) (hf : ∀ x, Z.fn x = true) (hix : N[i]? = some v) (hlx : N[l]? = some u) (hg : cg Γ i = some (.val (.int c))) (hg2 : cg Γ l = some (.val (.adr A))) (hI : ExI K mg n m) (hC : mg n = some (.ref C)) (h : IsE Z K C A)
    (hm : mg (Str.ofString "isinstance") = none) (hm2 : mg (Str.ofString "ValueError") = none) (hm3 : mg (Str.ofString "int") = none) (hv : (namB sc v && locB sc v && (namB sc u && gloB sc (Str.ofString "isinstance") && gloC sc (Str.ofString "ValueError")) && gloB sc (Str.ofString "int")) = true) (k : D.nx (cp Γ i (.val (.int (c + 1)))))
    (f1 : starEach [.Name u p5, .Name (Str.ofString "ValueError") p6] Z.env = (false, eval (.Name u p5) Z.env) :: starEach [.Name (Str.ofString "ValueError") p6] Z.env := by rfl) (f2 : starEach [.Name (Str.ofString "ValueError") p6] Z.env = (false, eval (.Name (Str.ofString "ValueError") p6) Z.env) :: starEach [] Z.env := by rfl) (f3 : (backTo p7 (starEach [.Name (Str.ofString "ValueError") p6] Z.env)).any (·.1) = false := by rfl)
    (g1 : starEach [.Call (.Name (Str.ofString "isinstance") p4) [.Name u p5, .Name (Str.ofString "ValueError") p6] [] p7] Z.env = (false, eval (.Call (.Name (Str.ofString "isinstance") p4) [.Name u p5, .Name (Str.ofString "ValueError") p6] [] p7) Z.env) :: starEach [] Z.env := by rfl)
    (hs : swapsWith (.BinOp (.Name v p2) .Add (.Call (.Name (Str.ofString "int") p3) [.Call (.Name (Str.ofString "isinstance") p4) [.Name u p5, .Name (Str.ofString "ValueError") p6] [] p7] [] p8) p9) (some (.Name v p1)) pos.line Z.env = pure false := by rfl) :
    Ws Z S Γ [.Assign [.Name v p1] (.BinOp (.Name v p2) .Add (.Call (.Name (Str.ofString "int") p3) [.Call (.Name (Str.ofString "isinstance") p4) [.Name u p5, .Name (Str.ofString "ValueError") p6] [] p7] [] p8) p9) pos] D := by
  obtain ⟨C', M, hC', hM, _, q1, q2⟩ := hI.ex
  have ec : C' = C := by
    have := hC'.symm.trans hC
    injection this with this
    injection this
  subst ec
  simp only [Bool.and_eq_true] at hv
  have h2 := ev_isVE (S := S) (pos := p7) (p := p4) f1 f2 f3 bz hlx hg2 h q2 hm hm2 (by simp only [Bool.and_eq_true]; exact hv.1.2)
  exact q_set (bz.sto hf hix hv.1.1.2) hs (ev_bin (ev_name (bz.nam hix hv.1.1.1) hg) (ev_blt g1 rfl (bz.blt hv.2 hm3) (ea_cons g1 h2 ea_nil) bf_intB) b_add) rfl (ws_nil k)
/-- v = a number -/
theorem suite_set {v : Str} {i j : Nat} {c : Int} {p1 p2 : Pos} (bz : Bz Z P w K mg N sc) (hf : ∀ x, Z.fn x = true) (hix : N[i]? = some v) (hv : locB sc v = true) (k : D.nx (cp Γ i (.val (.int c))))
    (hs : swapsWith (.Constant (.int c) j p2) (some (.Name v p1)) pos.line Z.env = pure false := by rfl) : Ws Z S Γ [.Assign [.Name v p1] (.Constant (.int c) j p2) pos] D :=
  q_set (bz.sto hf hix hv) hs ev_int rfl (ws_nil k)
/-- return isinstance(v, ValueError) -/
theorem suite_is {v n m : Str} {i : Nat} {A C : Addr} {p p1 p2 p3 : Pos} (bz : Bz Z P w K mg N sc) (hix : N[i]? = some v) (hg : cg Γ i = some (.val (.adr A))) (hI : ExI K mg n m) (hC : mg n = some (.ref C)) (h : IsE Z K C A)
    (hm : mg (Str.ofString "isinstance") = none) (hm2 : mg (Str.ofString "ValueError") = none) (hv : (namB sc v && gloB sc (Str.ofString "isinstance") && gloC sc (Str.ofString "ValueError")) = true) (k : D.rt (.bl true) Γ)
    (f1 : starEach [.Name v p1, .Name (Str.ofString "ValueError") p2] Z.env = (false, eval (.Name v p1) Z.env) :: starEach [.Name (Str.ofString "ValueError") p2] Z.env := by rfl) (f2 : starEach [.Name (Str.ofString "ValueError") p2] Z.env = (false, eval (.Name (Str.ofString "ValueError") p2) Z.env) :: starEach [] Z.env := by rfl) (f3 : (backTo p3 (starEach [.Name (Str.ofString "ValueError") p2] Z.env)).any (·.1) = false := by rfl) :
    Ws Z S Γ [.Return (some (.Call (.Name (Str.ofString "isinstance") p) [.Name v p1, .Name (Str.ofString "ValueError") p2] [] p3)) pos] D := by
  obtain ⟨C', M, hC', hM, _, q1, q2⟩ := hI.ex
  have ec : C' = C := by
    have := hC'.symm.trans hC
    injection this with this
    injection this
  subst ec
  exact q_ret (ev_isVE f1 f2 f3 bz hix hg h q2 hm hm2 hv) k
theorem exi_kc {n m : Str} (h : ExI K mg n m) : ∃ C, mg n = some (.ref C) ∧ ExcC K C := by
  obtain ⟨C, _, h1, _, h2, _⟩ := h.ex
  exact ⟨C, h1, h2⟩
/-- an own list is frozen -/
theorem ws_frz {i : Nat} {st : List Stmt} (hg : cg Γ i = some (.own none ds)) (h : Ws X S (cp Γ i (.val (.lst ds))) st D) : Ws X S Γ st D := .mk fun σ H0 H en => by
  obtain ⟨H0', a, e, en', _, _⟩ := en.freeze hg
  exact m_ss (h.run σ H0' H en') (cnc_nx e) (cnc_rt e) (cnc_bk e) (cnc_ct e)
end
end Fl
/-! ### sorted(set(xs)), xs a list of ints -/
namespace FlI
open PySem PySem.Calls PyProof.Rows PySem.W PySem.SeqAt L2
/-- a set as it is made -/
abbrev oNew (w : World) : Obj := { cls := .type "set", dict := none, data := .set #[] 0 (.fresh 0 0 (!w.params.followText "set-order")) }
section
variable {P : Program} {w : World} {A : Around} {E : Value → Shared → Prop} {s : Shared}
/-- what the set is when it has met all -/
def Met (w : World) (s : Shared) (ns : List Int) (h' : Heap) (c : Nat) : Prop := SetR w h' s.heap.objs.size (fun j => decide (j ∈ ns)) c ∧ c ≤ ns.length ∧ ∀ b o, s.heap.get? b = some o → h'.get? b = some o
theorem set_lstI {l : Addr} {its : Array Value} (ns : List Int) {Q : Value → Shared → Prop} (hh : A.handled = none) (hl : s.heap.IsList l its) (hi : IntsAre its.toList ns) (hb : ns.length + 1 < scanBound)
    (hQ : ∀ (h' : Heap) (tk c : Nat), Met w s ns h' c → Q (.ref s.heap.objs.size) { s with heap := h', toks := tk }) : wpAny (model P w) A (call (.type "set") [.ref l]) Q E s := by
  have size_eq : its.size = ns.length := (Array.length_toList (xs := its)).symm.trans hi.length
  obtain ⟨c0, tl0, mro0⟩ := F.called_set.mro
  have made0 := F.called_set.made
  have sub0 := F.called_set.sub
  apply wpAny_call
  apply codeAny_of_tree
  show wpAny (model P w) _ (callAny (.type "set") _) _ _ _
  apply wpAny_pure
  refine ⟨Code.quiet_builtin _ (by decide +kernel), ?_⟩
  apply codeAny_builtin F.entry_type_call
  rw [Around.under_plain (weight_type_call_type "set" _ _) rfl]
  have a1 := F.called_set.notType
  have a2 := F.called_set.canCreate
  have a3 := F.typeCall_set_1 (.ref l)
  repeat (any_goals first | assumption | wp_step)
  apply codeAny_mono (code_set_led1 (.ref l) (E := E) (Q₁ := fun obj s₁ => obj = .ref s.heap.objs.size ∧ s₁ = { s with heap := s.heap.push (oNew w) }) ⟨rfl, rfl⟩)
  intro r s₁ hr
  cases r with
  | error e => exact hr
  | ok fl =>
    cases fl with
    | ret obj =>
      obtain ⟨rfl, rfl⟩ := hr
      have new0 : (s.heap.push (oNew w)).get? s.heap.objs.size = some (oNew w) := Heap.get?_push_size _ rfl
      have ty0 : Shared.TypeIs { s with heap := s.heap.push (oNew w) } (.ref s.heap.objs.size) "set" := ⟨_, new0, rfl⟩
      have i1 := F.called_set.init.lookup
      have i2 := F.called_set.init.bind (.ref s.heap.objs.size)
      repeat (any_goals first | assumption | wp_step)
      apply codeAny_mono (codeAny_call_builtin (R := wants (fun r s₂ => r = .none ∧ ∃ h' tk c, s₂ = { s with heap := h', toks := tk } ∧ Met w s ns h' c) E) F.called_set.init.plain F.entry_set_init (check_set_init_1 ty0 ?_))
      · intro r₂ s₂ hr₂
        cases r₂ with
        | error e => exact hr₂
        | ok fl₂ =>
          cases fl₂ with
          | ret r =>
            obtain ⟨rfl, h', tk, c, rfl, met⟩ := hr₂
            repeat (any_goals first | assumption | wp_step)
            exact hQ _ _ _ met
          | _ => exact hr₂.elim
      · obtain ⟨ol, hol, hcl, nl, hdl⟩ := hl
        obtain ⟨oc, od, oo, os⟩ := ol
        simp only at hcl hdl
        subst hcl; subst hdl
        have hol2 : (s.heap.push (oNew w)).get? l = some { cls := .type "list", dict := od, data := .seq its nl, slots := os } := Heap.get?_push_of_some _ hol
        have s1 := F.sub_list_set
        have s2 := F.sub_list_frozenset
        have s3 : (Value.type "list" == Value.type "dict") = false := by decide
        have isl : (s.heap.push (oNew w)).IsList l its := ⟨_, hol2, rfl, nl, rfl⟩
        unfold Builtin.«set.__init__» noKeywords Builtin.Frozenset.updateFrom
        generalize eI : pyIter = PI
        wp_walk
        subst eI
        apply wpAny_pyIter_list isl
        apply wpAny_bind
        apply wpAny_runValue
        have llt : l < s.heap.objs.size := Heap.lt_size hol
        have hh3 : A.in1.in1.in1.handled = none := by simp [hh]
        have zz : (s.heap.push (oNew w)).objs.size = s.heap.objs.size + 1 := Heap.size_push ..
        have ne1 : l ≠ (s.heap.push (oNew w)).objs.size := by rw [zz]; exact Nat.ne_of_lt (Nat.lt_succ_of_lt llt)
        have ne2 : s.heap.objs.size ∉ [(s.heap.push (oNew w)).objs.size, l] := by
          rw [zz]
          simp only [List.mem_cons, List.not_mem_nil, or_false, not_or]
          exact ⟨Nat.ne_of_lt (Nat.lt_succ_self _), Nat.ne_of_gt llt⟩
        have vals : ∀ (i : Nat) (v : Value), its[i]? = some v → ∃ k t, ns[i]? = some k ∧ v = .int k t := fun i v hv => by
          have il : i < ns.length := by rw [← size_eq]; exact (Array.getElem?_eq_some_iff.mp hv).1
          obtain ⟨t, e⟩ := IntsAre.int_at hi i v (by rw [Array.getElem?_toList]; exact hv)
          exact ⟨ns[i], t, List.getElem?_eq_getElem il, by rw [e, List.getD_eq_getElem?_getD, List.getElem?_eq_getElem il]; rfl⟩
        apply set_update_ints (Walks.list hh3 _ l ne1 its).toS s.heap.objs.size ne2 ns size_eq hb vals (its.size - 0) 0 _ (by omega) (Nat.zero_le _)
        · exact ⟨⟨_, Heap.get?_push_size _ rfl, rfl, rfl⟩, isl.push _⟩
        · exact ⟨0, Nat.le_refl 0, setR_new_at (Heap.get?_push_of_some _ new0)⟩
        · intro s' c' hm hc' hS'
          obtain ⟨h', g2, d', tk', os'⟩ := s'
          have eg : g2 = s.gens := hm.gens
          have ed : d' = s.drawn := hm.drawn
          have eo : os' = s.os := hm.os
          subst eg; subst ed; subst eo
          show wpAny (model P w) _ _ _ _ _
          apply wpAny_pure
          show wpAny (model P w) _ (ret Value.none) _ _ _
          rw [size_eq] at hc'
          apply wpAny_pure
          refine ⟨rfl, h', tk', c', rfl, hS', hc', fun b o e => ?_⟩
          have b0 : b < s.heap.objs.size := Heap.lt_size e
          refine hm.heap b o ?_ (Heap.get?_push_of_some _ (Heap.get?_push_of_some _ e))
          simp only [List.mem_cons, List.not_mem_nil, or_false, not_or]
          rw [zz]
          exact ⟨Nat.ne_of_lt b0, Nat.ne_of_lt (Nat.lt_succ_of_lt b0)⟩
    | _ => exact hr.elim
end
end FlI
namespace Fl
open PySem L2
/-- the ints, each once, rising -/
def dupZ (ns : List Int) : List Int := ns.foldl (fun ks t => if t ∈ ks then ks else ks ++ [t]) []
theorem dupZ_fold : ∀ (xs acc : List Int), acc.Nodup → (xs.foldl (fun ks t => if t ∈ ks then ks else ks ++ [t]) acc).Nodup ∧ (∀ x, x ∈ xs.foldl (fun ks t => if t ∈ ks then ks else ks ++ [t]) acc ↔ x ∈ acc ∨ x ∈ xs)
  | [], acc, h => ⟨h, fun x => by simp⟩
  | t :: xs, acc, h => by
    rw [List.foldl_cons]
    by_cases ht : t ∈ acc
    · rw [if_pos ht]
      obtain ⟨h1, h2⟩ := dupZ_fold xs acc h
      refine ⟨h1, fun x => (h2 x).trans ?_⟩
      rw [List.mem_cons]
      constructor
      · rintro (a | a)
        · exact .inl a
        · exact .inr (.inr a)
      · rintro (a | rfl | a)
        · exact .inl a
        · exact .inl ht
        · exact .inr a
    · rw [if_neg ht]
      have hn : (acc ++ [t]).Nodup := by
        rw [List.nodup_append]
        exact ⟨h, by simp, fun a ha b hb => by rw [List.mem_singleton.mp hb]; exact fun z => ht (z ▸ ha)⟩
      obtain ⟨h1, h2⟩ := dupZ_fold xs (acc ++ [t]) hn
      refine ⟨h1, fun x => (h2 x).trans ?_⟩
      rw [List.mem_append, List.mem_singleton, List.mem_cons]
      constructor
      · rintro ((a | a) | a)
        · exact .inl a
        · exact .inr (.inl a)
        · exact .inr (.inr a)
      · rintro (a | a | a)
        · exact .inl (.inl a)
        · exact .inl (.inr a)
        · exact .inr a
def sset (ns : List Int) : List Int := srt (dupZ ns)
theorem sset_mem {ns : List Int} {x : Int} : x ∈ sset ns ↔ x ∈ ns := by
  have := (dupZ_fold ns [] List.nodup_nil).2 x
  unfold sset
  rw [(srt_perm _).mem_iff]
  unfold dupZ
  simpa using this
theorem sset_lt (ns : List Int) : (sset ns).Pairwise (· < ·) := by
  have h1 := srt_pair (dupZ ns)
  have h2 : (srt (dupZ ns)).Nodup := (srt_perm (dupZ ns)).nodup_iff.mpr (dupZ_fold ns [] List.nodup_nil).1
  exact (List.pairwise_and_iff.mpr ⟨h1, h2⟩).imp fun ⟨a, b⟩ => by omega
theorem lt_uniq {as bs : List Int} (h1 : as.Pairwise (· < ·)) (h2 : bs.Pairwise (· < ·)) (h : ∀ x, x ∈ as ↔ x ∈ bs) : as = bs := by
  refine List.Perm.eq_of_pairwise (fun a b _ _ x y => by omega) h1 h2 ?_
  exact (List.perm_ext_iff_of_nodup (h1.imp fun z => by omega) (h2.imp fun z => by omega)).mpr h
def rSetLI (K : PySem.W.Frag) (w : World) : List V → Hp → VK → Prop := fun vs H Q => ∃ (l : Addr) (ns : List Int), vs = [V.ref l] ∧ SqL K H l (ns.map V.int) ∧ ns.length ≤ 1000 ∧
  ∀ (p : Addr) (c : Nat), c ≤ ns.length → H p = none → Q (.ref p) (upd H p (SetO w p (fun j => decide (j ∈ ns)) c))
section
variable {X : Cx} {S : Bs} {Γ Γ1 : Ct} {a : Expr} {pos p p2 pos2 : Pos} {P : Program} {w : World} {K : PySem.W.Frag} {mg : Str → Option Value} {base : Heap} {N : List Str} {sc : Scope} {k : Nat}
theorem cr_setLI (hc : X.calm = true) : CallR X (.type "set") (rSetLI X.K X.w) := by
  intro pins s σ H vs us Q I r h
  obtain ⟨l, ns, rfl, hq, hl, q⟩ := h
  rw [Vals.ref1 r]
  obtain ⟨its, rv, pt, hz⟩ := I.list hq
  refine FlI.set_lstI ns (I.ok.hd hc) pt.isList (by simpa using L2.ints_of_vals rv) (by unfold scanBound; omega) fun h' tk c ⟨R, hcl, kk⟩ => ?_
  have hn : H s.heap.objs.size = none := I.hok.fresh (Nat.le_refl _)
  exact ⟨.ref _, upd H s.heap.objs.size (SetO X.w s.heap.objs.size (fun j => decide (j ∈ ns)) c), I.laid (t' := tk) kk (Nat.le_refl _) (setO_new R), rfl, q _ c hcl hn⟩
/-- sorted(set(xs)) -/
theorem evn_ssetI {ns : List Int} (he : starEach [a] X.env = (false, eval a X.env) :: starEach [] X.env) (he2 : starEach [.Call (.Name (Str.ofString "set") p2) [a] [] pos2] X.env = (false, eval (.Call (.Name (Str.ofString "set") p2) [a] [] pos2) X.env) :: starEach [] X.env)
    (hm : mg (Str.ofString "sorted") = none) (hm2 : mg (Str.ofString "set") = none) (hb : Bd X P w K mg base N sc k) (hv : (gloB sc (Str.ofString "sorted") && gloB sc (Str.ofString "set")) = true) (h : Ev X S Γ a (.lst (ns.map .int)) Γ1) (hl : ns.length < 64) :
    EvN X S Γ (.Call (.Name (Str.ofString "sorted") p) [.Call (.Name (Str.ofString "set") p2) [a] [] pos2] [] pos) ((sset ns).map .int) Γ1 := .mk fun σ H0 H en => by
  have C := hb.cxt
  rw [Bool.and_eq_true] at hv
  have B := hb.blt hv.1 hm
  have B2 := hb.blt hv.2 hm2
  refine s_e (pe_callB (cr_sortedSet C.calm) B.gl B.mg PyProof.Rows.boot_sorted (pa_cons (pe_callTy (cr_setLI C.calm) B2.gl B2.mg PyProof.Rows.boot_set (pa_cons pe_s pa_nil he) (by decide +kernel) (by decide +kernel) he rfl) pa_nil he2) (by decide +kernel) (by decide +kernel) he2 rfl) (m_e (h.run σ H0 H en) fun v H1 ⟨H01, e1, en1, r⟩ => ?_)
  cases r with
  | @lst A xs _ h0 r =>
    rw [r.ints] at h0
    refine ⟨A, ns, rfl, .inl (.inl (en1.sub _ _ h0)), by omega, fun q c hc hq => ?_⟩
    have en2 : En X.K S H01 (upd H1 q (SetO X.w q (fun j => decide (j ∈ ns)) c)) σ Γ1 := en1.loose hq
    refine ⟨q, _, c, rfl, upd_same, by omega, fun ms p3 ps hm3 hl3 hp3 => ?_⟩
    have em : ms = sset ns := lt_uniq ps (sset_lt ns) fun x => by rw [hm3 x, sset_mem, decide_eq_true_eq]
    rw [em]
    obtain ⟨H02, l, zs, e2, z⟩ := nst_new en2 hp3 (Drs.of_ints (K := X.K) (H := H01) (sset ns))
    exact ⟨H02, l, zs, e1.trans e2, z⟩
end
end Fl
namespace Fl
open PySem L2
/-! ### a def that tells a new list -/
def spN (K : PySem.W.Frag) (G : List Dt → List Dt → Prop) : Sp := fun vs H Q _ => ∃ ds zs H0, Ex H0 H ∧ Drs K H0 vs ds ∧ G ds zs ∧
  ∀ l xs H' H0', Ex H0 H0' → Ex H0' H' → Ex H H' → (∀ a, H0' a ≠ none → H0 a = none → Nw H a) → H l = none → H0' l = none → H' l = some (.lst xs) → Drs K H0' xs zs → Q (.ref l) H'
structure CeeN (P : Program) (w : World) (K : PySem.W.Frag) (mg : Str → Option Value) (base : Heap) (k : Nat) (x : Str) (G : List Dt → List Dt → Prop) : Prop where
  ex : ∃ (f : Addr) (fd : FuncData) (ps : List Str), FnOk P w K mg base CX0 k f fd ps (spN K G) ∧ mg x = some (.ref f) ∧ PySem.W.keepIn K (.ref f) = true ∧ Binds K fd ps []
theorem ceeN_of {P : Program} {w : World} {K : PySem.W.Frag} {mg : Str → Option Value} {base : Heap} {x qual n : Str} {st : Stmt} {f : Addr} {fd : FuncData} {ps : List Str} {k : Nat} {G : List Dt → List Dt → Prop}
    (F : Fun K x qual st f fd) (b : Binds K fd ps []) (g : mg n = some (.ref f)) (h : FnOk P w K mg base CX0 k f fd ps (spN K G)) : CeeN P w K mg base k n G := ⟨f, fd, ps, h, g, F.kp, b⟩
section
variable {X : Cx} {S : Bs} {Γ Γ1 : Ct} {e : Expr} {pos : Pos} {D : Pd} {P : Program} {w : World} {K : PySem.W.Frag} {mg : Str → Option Value} {base : Heap} {N : List Str} {sc : Scope} {k : Nat}
theorem ebn_callN {n : Str} {j : Nat} {G : List Dt → List Dt → Prop} {es : List Expr} {ds zs : List Dt} {p : Pos} (he : starEach (e :: es) X.env = (false, eval e X.env) :: starEach es X.env) (hpl : (backTo pos (starEach es X.env)).any (·.1) = false)
    (c : CeeN P w K mg base j n G) (hb : Bd X P w K mg base N sc k) (hj : j ≤ k) (hv : gloC sc n = true) (ha : Ea X S Γ (e :: es) ds Γ1) (hg : G ds zs) : EvN X S Γ (.Call (.Name n p) (e :: es) [] pos) zs Γ1 := by
  obtain ⟨f, fd, ps, F, hm, hk, hbi⟩ := c.ex
  unfold gloC at hv
  simp only [Bool.and_eq_true, Bool.not_eq_true'] at hv
  have hr : Room j X.A := hb.room.mono hj
  have gl : Gl X n := by show X.env.scope.names.lookup n = _; rw [hb.hs]; exact gloB_ok hv.1
  obtain ⟨rfl, rfl, rfl, rfl, rfl⟩ := hb.hP, hb.hw, hb.hK, hb.hm, hb.hB
  exact .mk fun σ H0 H en => s_e (pe_call F hr gl hm hk hbi .nil pass0 pa_s hv.2 he hpl) (m_a (ha.run σ H0 H en) fun vs H1 ⟨H01, e1, en1, d1⟩ => by
    rw [List.append_nil]
    refine ⟨ds, zs, H01, en1.sub, d1, hg, fun l xs H' H0' q1 q2 q3 q4 n1 n2 n3 r => ⟨H0', l, xs, e1.trans q1, en1.grow q1 q3 q2 q4, rfl, n2, en1.bas.back n1, fun f => (en1.forb l f).2.nn n1, n3, r, fun i c hc ho q => ?_⟩⟩
    obtain ⟨o, e, k⟩ := en1.cells i c hc
    obtain ⟨a, u, e2, _, _, h⟩ := own_at k ho
    rw [q] at e
    have e3 := Option.some.inj e
    rw [e2] at e3
    have e4 : l = a := V.ref.inj (Option.some.inj e3)
    rw [e4, h] at n1
    cases n1)
theorem q_retNew {rest : List Stmt} {zs : List Dt} (h : EvN X S Γ e zs Γ1) (k : ∀ l, D.rt (.adr l) [.own (some l) zs]) : Ws X S Γ (.Return (some e) pos :: rest) D := ws_cons <| .mk fun σ H0 H en =>
  s_s (ps_ret pe_s) (m_e (h.run σ H0 H en) fun v H1 ⟨H01, l, xs, e1, en1, ev, h0, hS, hf, hH, r, no⟩ => by
    subst ev
    refine ⟨H01, [some (.ref l)], [.own (some l) zs], .adr l, e1, ⟨en1.sub, en1.bas, en1.forb, rfl, fun i c hc => ?_, fun i j c d a h1 h2 o1 o2 s1 s2 => ?_⟩, .adr l, k l⟩
    · cases i with
      | zero =>
        have hc : Cell.own (some l) zs = c := Option.some.inj hc
        subst hc
        exact ⟨_, rfl, l, xs, rfl, h0, hS, rfl, hH, r⟩
      | succ i => exact absurd hc (by simp [cg])
    · cases i with
      | zero =>
        cases j with
        | zero => rfl
        | succ j => exact absurd h2 (by simp [cg])
      | succ i => exact absurd h1 (by simp [cg]))
theorem fn_new {x qual : Str} {st : Stmt} {f : Addr} {fd : FuncData} {ps : List Str} {G : List Dt → List Dt → Prop}
    (F : Fun K x qual st f fd) (Sc : FnScope N ps (defScope st)) (hG : ∀ ds d, G ds d → ds.length = ps.length)
    (body : ∀ X : Cx, Bd X P w K mg base N (defScope st) k → (∀ x, X.fn x = true) → ∀ S ds zs, G ds zs → Ws X S (startC N ds) (defBody st) { nx := fun _ => False, rt := fun d Γ' => ∃ l, d = .adr l ∧ Γ' = [.own (some l) zs] }) :
    FnOk P w K mg base CX0 (k + 1) f fd ps (spN K G) := by
  have hpl : ps.length ≤ N.length := by have := congrArg List.length Sc.pre; rw [List.length_take] at this; omega
  refine F.ok Sc (fun vs H Q E h => ?_) (fun cdv A outer s H vs Q E hr h => ?_)
  · obtain ⟨ds, d, H0, _, r, g, _⟩ := h
    rw [r.length, hG _ _ g]
  · obtain ⟨ds, zs, H0, e, r, g, q⟩ := h
    have hb := body (cxOf CX0 P w K mg base N qual (defScope st) f cdv A outer s H E).nox ⟨rfl, rfl, rfl, rfl, rfl, rfl, rfl, Sc.nd, rfl, PassesOwn.never, hr⟩ (fun _ => rfl) ⟨H, fun a => H0 a = none ∧ Mu (H a)⟩ ds zs g
    have en := en_start (N := N) e r (by rw [hG _ _ g]; exact hpl)
    refine ⟨_, pss_s, m_ss (hb.run _ _ _ en) (fun _ _ ⟨_, _, _, _, z⟩ => z.elim) ?_ (fun _ _ ⟨_, _, _, _, z⟩ => z.elim) (fun _ _ ⟨_, _, _, _, z⟩ => z.elim)⟩
    intro v H' ⟨H0', σ', Γ', d', e0, en', r', l, hd, hΓ⟩
    subst hd hΓ
    cases r'
    obtain ⟨o, ho, a, xs, ho2, n0, nS, na, nH, nr⟩ := en'.cells 0 _ rfl
    have na : a = l := na
    subst na
    exact q a xs H' H0' e0 en'.sub en'.bas (fun b h1 h2 => (mu_or H b).resolve_right fun z => h1 (en'.forb b ⟨h2, z⟩).1) nS n0 nH nr
end
end Fl
namespace FlI
open PySem PyProof.Rows PySem.W PySem.SeqAt L2 Calls
/-! ### sorted(t), max(t) of a tuple of ints -/
section
variable {P : Program} {w : World} {A : Around} {E : Value → Shared → Prop} {s : Shared}
theorem sorted_tupI {l : Addr} {o : Obj} {vs : List Value} {ns : List Int} {n : Nat} {Q : Value → Shared → Prop} (ho : s.heap.get? l = some o) (hc : o.cls = .type "tuple") (hd : o.data = .seq vs.toArray n)
    (hi : IntsAre vs ns) (hz : vs.length ≤ sizeLine)
    (hQ : ∀ h' p (out : List Value) (c : Nat) (ms : List Int), (∀ b o, s.heap.get? b = some o → h'.get? b = some o) → s.heap.get? p = none →
      h'.get? p = some (seqObj "list" out.toArray c) → IntsAre out ms → ms.Perm ns → ms.Pairwise (· ≤ ·) → Q (.ref p) { s with heap := h' }) :
    wpAny (model P w) A (call (.builtin "sorted") [.ref l]) Q E s := by
  refine call_function_entry kind_sorted plain_sorted entry_sorted (args_sorted1 _) ?_
  unfold Builtin.«sorted»
  refine wpAny_bind (m := checkCount "sorted" 1 1 _) (wpAny_pure ?_)
  refine wpAny_bind (wpAny_collect_seq (A := A.in1) l (.inr rfl) ho hc hd (fun h1 k1 => ?_) (by rw [List.size_toArray]; exact hz))
  refine wpAny_bind (wpAny_newList ?_ hz)
  have hoL : (h1.push (seqObj "list" vs.toArray 0)).get? h1.objs.size = some (seqObj "list" vs.toArray 0) := Heap.get?_push_size _ rfl
  have z1 : s.heap.get? h1.objs.size = none := by
    cases e : s.heap.get? h1.objs.size with
    | none => rfl
    | some u => exact absurd (Heap.lt_size (k1 _ _ e)) (Nat.lt_irrefl _)
  refine wpAny_bind (wpAny_holding (wpAny_call_entry slot_list_sort ⟨_, hoL, rfl⟩ entry_list_sort
    (SrtO.list_sort_ord (s := { s with heap := h1.push (seqObj "list" vs.toArray 0) }) SrtO.swo_int hoL hz (fun h2 => SrtO.ints_sortable hi h2) fun out hs hb => ⟨_, rfl, ?_⟩) (args_list_sort _)))
  obtain ⟨a1, a2, a3⟩ := SrtO.ints_out hi hs hb
  obtain ⟨c, hcc⟩ := sortedHeap_at (vs := vs) (out := out.toArray) hoL
  refine wpAny_pure ⟨_, rfl, hQ _ h1.objs.size out c _ (fun b u e => ?_) z1 hcc a1 a2 a3⟩
  have hlt := Heap.lt_size (k1 b u e)
  show (sortedHeap (h1.push (seqObj "list" vs.toArray 0)) h1.objs.size vs _).get? b = some u
  rw [sortedHeap_old (Nat.ne_of_lt hlt) (by rw [size_push']; exact Nat.lt_succ_of_lt hlt)]
  exact Heap.get?_push_of_some _ (k1 b u e)
theorem int_at : ∀ {vs : List Value} {ns : List Int} {i : Nat} {v : Value}, IntsAre vs ns → vs[i]? = some v → ∃ t, v = .int (ns.getD i 0) t
  | _, _, _, _, .nil, h => by cases h
  | _, _, 0, _, .cons n t r, h => by cases h; exact ⟨t, rfl⟩
  | _, _, i + 1, _, .cons n t r, h => int_at (i := i) r (by simpa using h)
theorem max_tupI {l : Addr} {o : Obj} {vs : List Value} {ns : List Int} {n : Nat} {Q : Value → Shared → Prop} (hh : A.handled = none) (ho : s.heap.get? l = some o) (hc : o.cls = .type "tuple") (hd : o.data = .seq vs.toArray n)
    (hi : IntsAre vs ns) (hne : 0 < ns.length)
    (h : ∀ h' tk M t', (∀ b o, s.heap.get? b = some o → h'.get? b = some o) → M ∈ ns → (∀ a, a ∈ ns → a ≤ M) → Q (.int M t') { s with heap := h', toks := tk }) :
    wpAny (model P w) A (call (.builtin "max") [.ref l]) Q E s := by
  have hl : vs.length = ns.length := hi.length
  refine call_max_walkH (iter_tupleW (A := A.in1) (vs := vs.toArray) hh ⟨o, ho, hc, n, hd⟩ fun s₂ e W st hfp hw hk => ?_)
  refine ⟨_, _, _, _, _, _, _, s.heap, (fun i j => decide (ns.getD i 0 > ns.getD j 0)), rfl, W, st, hfp, by rw [List.size_toArray, hl]; exact hne, hw, hk,
    fun i j vi vj s1 Q1 E1 _ hi' hj' hq => CmpOf.ints_gt (P := fun i v => vs[i]? = some v) (fun i => ns.getD i 0) (fun i v hv => int_at hi hv) i j vi vj s1 Q1 E1 (by simpa using hi') (by simpa using hj') hq, fun v s' hP m => ?_⟩
  obtain ⟨h', tk, rfl, hk'⟩ := moved_old e rfl m
  rw [List.getElem?_toArray] at hP
  obtain ⟨t, rfl⟩ := int_at hi hP
  obtain ⟨h1, h2⟩ := argBest_gt (fun i => ns.getD i 0) (vs.toArray.size - 1)
  rw [List.size_toArray] at h1 h2
  refine h h' tk _ t hk' ?_ fun a ha => ?_
  · rw [List.size_toArray]
    exact PySem.getD_mem (by omega)
  · obtain ⟨j, hj, rfl⟩ := List.getElem_of_mem ha
    have := h2 j (by omega)
    rw [List.size_toArray]
    rw [List.getD_eq_getElem?_getD, List.getElem?_eq_getElem hj] at this
    exact this
end
end FlI
namespace Fl
open PySem L2
def rTupI (K : PySem.W.Frag) : List V → Hp → VK → Prop := fun vs H Q => ∃ (a : Addr) (ns : List Int), vs = [V.ref a] ∧ SqT K H a (ns.map V.int) ∧
  ∀ (ns' : List Int) (p : Addr), ns'.Perm ns → ns'.Pairwise (· ≤ ·) → H p = none → Q (.ref p) (upd H p (.lst (ns'.map V.int)))
def rMaxT (K : PySem.W.Frag) : List V → Hp → VK → Prop := fun vs H Q => ∃ (a : Addr) (ns : List Int), vs = [V.ref a] ∧ SqT K H a (ns.map V.int) ∧ 0 < ns.length ∧ ∀ m, m ∈ ns → (∀ y, y ∈ ns → y ≤ m) → Q (.int m) H
section
variable {X : Cx}
theorem cr_sortedTI : CallR X (.builtin "sorted") (rTupI X.K) := by
  intro pins s σ H vs us Q I r h
  obtain ⟨a, ns, rfl, hk, q⟩ := h
  obtain ⟨its, rv, ⟨o, ho, hc, n, hd⟩, hz⟩ := I.tuple hk
  have hI := rv.ints
  rw [Vals.ref1 r]
  refine FlI.sorted_tupI (vs := its) ho hc hd hI (by rw [← rv.length]; exact hz) fun h' p out c ms k0 hp hcc hI2 pm pw => ?_
  have hlen : (ms.map V.int).length ≤ sizeLine := by rw [List.length_map, pm.length_eq]; rw [List.length_map] at hz; exact hz
  have hn : H p = none := by
    cases e : H p with
    | none => rfl
    | some u =>
      obtain ⟨u', e'⟩ := objOk_get (I.hok p u e)
      rw [hp] at e'; cases e'
  exact ⟨.ref p, _, I.laidN (o := .lst (ms.map V.int)) (t' := s.toks) k0 hp hn ⟨hlen, out, c, vals_of_ints hI2, hcc⟩, rfl, q ms p pm pw hn⟩
theorem cr_maxT (hc : X.calm = true) : CallR X (.builtin "max") (rMaxT X.K) := by
  intro pins s σ H vs us Q I r h
  obtain ⟨a, ns, rfl, hk, hne, q⟩ := h
  obtain ⟨its, rv, ⟨o, ho, hcl, n, hd⟩, hz⟩ := I.tuple hk
  rw [Vals.ref1 r]
  exact FlI.max_tupI (vs := its) (I.ok.hd hc) ho hcl hd rv.ints hne fun h' tk m t' hk h1 h2 => ⟨.int _, H, I.kept hk, ⟨_, rfl⟩, q m h1 h2⟩
theorem bfn_sortTI {ns : List Int} : BfnN X "sorted" [.tup (ns.map .int)] ((srt ns).map .int) := bfn_b PyProof.Rows.boot_sorted cr_sortedTI fun S Γ σ H0 H vs en r hL Q q => by
  obtain ⟨v, rfl, h⟩ := dr1 r
  cases h with
  | @tup p xs _ h0 r =>
    rw [r.ints] at h0
    exact ⟨p, ns, rfl, .inl (.inl (en.sub _ _ h0)), fun ns' l hp hs hl => q _ _ (by rw [← srt_uniq hp hs]; exact nst_new en hl (Drs.of_ints _))⟩
theorem bf_maxT (C : Cxt X) {ns : List Int} {m : Int} (hm : m ∈ ns) (hle : ∀ y ∈ ns, y ≤ m) : Bfn X "max" [.tup (ns.map .int)] (.int m) := bf_b PyProof.Rows.boot_max (cr_maxT C.calm) fun S Γ σ H0 H vs en r hL Q q => by
  obtain ⟨v, rfl, h⟩ := dr1 r
  cases h with
  | @tup p xs _ h0 r =>
    rw [r.ints] at h0
    refine ⟨p, ns, rfl, .inl (.inl (en.sub _ _ h0)), List.length_pos_of_mem hm, fun m' h1 h2 => ?_⟩
    have : m' = m := Int.le_antisymm (hle _ h1) (h2 _ hm)
    rw [this]; exact q _ _ (pst_int en)
/-- the greatest -/
def mxZ : List Int → Int
  | [] => 0
  | [a] => a
  | a :: b :: r => if a ≤ mxZ (b :: r) then mxZ (b :: r) else a
theorem mxZ_ok : ∀ {ns : List Int}, ns ≠ [] → mxZ ns ∈ ns ∧ ∀ y ∈ ns, y ≤ mxZ ns
  | [], h => absurd rfl h
  | [a], _ => ⟨List.mem_singleton.mpr rfl, fun y hy => by rw [List.mem_singleton.mp hy]; exact Int.le_refl _⟩
  | a :: b :: r, _ => by
    obtain ⟨h1, h2⟩ := mxZ_ok (ns := b :: r) (by simp)
    rw [mxZ]
    split
    · rename_i h
      refine ⟨List.mem_cons_of_mem _ h1, fun y hy => ?_⟩
      rcases List.mem_cons.mp hy with rfl | hy
      · exact h
      · exact h2 y hy
    · rename_i h
      refine ⟨List.mem_cons_self .., fun y hy => ?_⟩
      rcases List.mem_cons.mp hy with rfl | hy
      · exact Int.le_refl _
      · have := h2 y hy; omega
theorem bf_maxZ (C : Cxt X) {ns : List Int} (h : ns ≠ []) : Bfn X "max" [.tup (ns.map .int)] (.int (mxZ ns)) := bf_maxT C (mxZ_ok h).1 (mxZ_ok h).2
theorem i_lstE {α : Type} [Inhabited α] {enc : α → Dt} {xs : List α} (h : xs ≠ []) : Iop X (.lst (xs.map enc)) (.int (-1)) (enc (xs.getLast h)) := i_lst (by
  have hp : 0 < xs.length := List.length_pos_iff.mpr h
  unfold atI ixN
  rw [if_neg (by decide), if_pos (by rw [List.length_map]; omega), List.length_map]
  show (xs.map enc)[((-1 : Int) + xs.length).toNat]? = _
  rw [show ((-1 : Int) + xs.length).toNat = xs.length - 1 by omega, List.getElem?_map, List.getElem?_eq_getElem (by omega), List.getLast_eq_getElem]
  rfl)
end
end Fl
namespace Fl
open PySem L2
/-! ### answers that stay as they are: flat ones, and tuples of them -/
mutual
def Dt.imm : Dt → Bool
  | .non => true
  | .bl _ => true
  | .int _ => true
  | .str _ => true
  | .tup ds => immAll ds
  | _ => false
def immAll : List Dt → Bool
  | [] => true
  | d :: ds => d.imm && immAll ds
end
def tupsOf (H0 H1 : Hp) : Hp := fun a => match H0 a with
  | some o => some o
  | none => match H1 a with
    | some (.tup xs) => some (.tup xs)
    | _ => none
section
variable {K : PySem.W.Frag} {H0 H01 H1 : Hp}
theorem tupsOf_tup {a : Addr} {xs : List V} (e : Ex H0 H1) (h : H1 a = some (.tup xs)) : tupsOf H0 H1 a = some (.tup xs) := by
  unfold tupsOf
  cases q : H0 a with
  | some o =>
    have := e a o q
    rw [h] at this
    cases this
    rfl
  | none => rw [h]
theorem tupsOf_base : Ex H0 (tupsOf H0 H1) := fun a o q => by unfold tupsOf; rw [q]
theorem tupsOf_some {a : Addr} {o : HO} (h : tupsOf H0 H1 a = some o) : H0 a = some o ∨ (H0 a = none ∧ H1 a = some o ∧ ∃ xs, o = .tup xs) := by
  unfold tupsOf at h
  cases q : H0 a with
  | some o' => rw [q] at h; exact .inl h
  | none =>
    rw [q] at h
    cases q1 : H1 a with
    | none => rw [q1] at h; cases h
    | some o' =>
      rw [q1] at h
      cases o' <;> first | (cases h; exact .inr ⟨rfl, rfl, _, rfl⟩) | cases h
mutual
theorem imm_dr (e : Ex H0 H1) (s : Ex H01 H1) : ∀ {v : V} {d : Dt}, d.imm = true → Dr K H01 v d → Dr K (tupsOf H0 H1) v d
  | _, _, _, .non => .non
  | _, _, _, .bl b => .bl b
  | _, _, _, .int i => .int i
  | _, _, _, .str x => .str x
  | _, _, h, .tup q r => .tup (tupsOf_tup e (s _ _ q)) (imm_drs e s h r)
  | _, _, h, .lst _ _ => nomatch h
  | _, _, h, .dct _ _ => nomatch h
  | _, _, h, .scr _ => nomatch h
  | _, _, h, .ty _ => nomatch h
  | _, _, h, .dcl _ _ => nomatch h
  | _, _, h, .adr _ => nomatch h
theorem imm_drs (e : Ex H0 H1) (s : Ex H01 H1) : ∀ {vs : List V} {ds : List Dt}, immAll ds = true → Drs K H01 vs ds → Drs K (tupsOf H0 H1) vs ds
  | _, _, _, .nil => .nil
  | _, _, h, .cons r t => by
    rw [immAll, Bool.and_eq_true] at h
    exact .cons (imm_dr e s h.1 r) (imm_drs e s h.2 t)
end
end
section
variable {X : Cx} {S : Bs} {Γ Γ1 Γ2 : Ct} {e : Expr} {d : Dt}
theorem ev_imm (h : ∀ S', Ev X S' (frz Γ) e d (frz Γ)) (hd : d.imm = true) : Ev X S Γ e d Γ := .mk fun σ H0 H en =>
  m_e ((h _).run σ H H en.frozen) fun v H1 ⟨H01, e1, en1, r⟩ => by
    have eb : Ex H H1 := en1.bas
    have e0 : Ex H0 H1 := en.sub.trans eb
    refine ⟨tupsOf H0 H1, tupsOf_base, en.grow tupsOf_base eb (fun a o q => ?_) (fun a hn h0 => ?_), imm_dr e0 en1.sub hd r⟩
    · rcases tupsOf_some q with z | ⟨_, z, _⟩
      · exact e0 a o z
      · exact z
    · cases q : tupsOf H0 H1 a with
      | none => exact absurd q hn
      | some o =>
        rcases tupsOf_some q with z | ⟨_, z, xs, ez⟩
        · rw [h0] at z; cases z
        · cases q2 : H a with
          | none => exact .inl q2
          | some u =>
            have := eb a u q2
            rw [z, ez] at this
            cases this
            exact .inr ⟨xs, q2⟩
theorem ws_frzD {i : Nat} {ks : List (Int × Dt)} {st : List Stmt} {D : Pd} (hg : cg Γ i = some (.ownD ks)) (h : Ws X S (cp Γ i (.val (.dct ks))) st D) : Ws X S Γ st D := .mk fun σ H0 H en => by
  obtain ⟨H0', a, e, en', _, _⟩ := en.freezeD hg
  exact m_ss (h.run σ H0' H en') (cnc_nx e) (cnc_rt e) (cnc_bk e) (cnc_ct e)
theorem bfn_sortIM {α : Type} {xs : List α} {f : α → Int} : BfnN X "sorted" [.lst (xs.map fun x => .int (f x))] ((srt (xs.map f)).map .int) := by
  have := bfn_sortI (X := X) (ns := xs.map f)
  rw [List.map_map] at this
  exact this
/-- sorted(set([x, y])) -/
theorem evn_sset2 {x y : Int} {a b : Expr} {p p2 p3 pos2 pos : Pos} {P : Program} {w : World} {K : PySem.W.Frag} {mg : Str → Option Value} {base : Heap} {N : List Str} {sc : Scope} {k : Nat}
    (he : starEach [.List [a, b] p3] X.env = (false, eval (.List [a, b] p3) X.env) :: starEach [] X.env)
    (he2 : starEach [.Call (.Name (Str.ofString "set") p2) [.List [a, b] p3] [] pos2] X.env = (false, eval (.Call (.Name (Str.ofString "set") p2) [.List [a, b] p3] [] pos2) X.env) :: starEach [] X.env)
    (he3 : starEach [a, b] X.env = (false, eval a X.env) :: starEach [b] X.env) (he4 : starEach [b] X.env = (false, eval b X.env) :: starEach [] X.env)
    (hm : mg (Str.ofString "sorted") = none) (hm2 : mg (Str.ofString "set") = none) (hb : Bd X P w K mg base N sc k) (hv : (gloB sc (Str.ofString "sorted") && gloB sc (Str.ofString "set")) = true)
    (h1 : Ev X S Γ a (.int x) Γ1) (h2 : Ev X S Γ1 b (.int y) Γ2) :
    EvN X S Γ (.Call (.Name (Str.ofString "sorted") p) [.Call (.Name (Str.ofString "set") p2) [.List [a, b] p3] [] pos2] [] pos) ((sset [x, y]).map .int) Γ2 :=
  evn_ssetI (ns := [x, y]) he he2 hm hm2 hb hv (ev_of (evn_lst (ea_cons he3 h1 (ea_cons he4 h2 ea_nil)) (by rw [PySem.sizeLine_eq]; show 2 ≤ _; decide))) (by show 2 < 64; decide)
end
end Fl
namespace FlI
open PySem PyProof.Rows PySem.W PySem.SeqAt L2 Calls
/-! ### t[::-1] of a tuple -/
section
variable {P : Program} {w : World} {A : Around} {E : Value → Shared → Prop} {s : Shared}
theorem sliceApplied_back {sl : Addr} {vl vu vs : Value} {n : Nat} {Q : Int × Int × Nat → Shared → Prop} (hs : s.heap.IsSliceOf sl vl vu vs) (pl : IsPart vl none) (pu : IsPart vu none) (pt : IsPart vs (some (-1)))
    (h : Q ((n : Int) - 1, -1, n) s) : wpAny (model P w) A (Builtin.Slice.sliceApplied (.ref sl) (pure (n : Int))) Q E s := by
  obtain ⟨os, hos, hcs, hds⟩ := id hs
  unfold Builtin.Slice.sliceApplied Builtin.Slice.sliceFields
  refine wpAny_bind (wpAny_bind (wpAny_field hos hds (x := vl) rfl (wpAny_bind (wpAny_field hos hds (x := vu) rfl (wpAny_bind (wpAny_field hos hds (x := vs) rfl (wpAny_pure ?_)))))))
  refine wpAny_bind (HT.slicePart_ pt ?_)
  show wpAny _ _ (if ((-1 : Int) == 0) = true then _ else _) _ _ s
  rw [if_neg (by decide)]
  refine wpAny_bind (HT.slicePart_ pl (wpAny_bind (HT.slicePart_ pu (wpAny_bind (wpAny_pure ?_)))))
  show wpAny _ _ (match Builtin.Slice.sliceAdjust none none (-1) (n : Int) with | (lo, hi) => pure (lo, (-1 : Int), Builtin.Slice.slicePlaces lo hi (-1))) _ _ s
  have e1 : Builtin.Slice.sliceAdjust none none (-1) (n : Int) = ((n : Int) - 1, -1) := rfl
  have e2 : Builtin.Slice.slicePlaces ((n : Int) - 1) (-1) (-1) = n := by
    unfold Builtin.Slice.slicePlaces
    rw [if_neg (by decide)]
    by_cases hn : (n : Int) - 1 > -1
    · rw [if_pos hn, show -(-1 : Int) = 1 by decide, Int.ediv_one]; omega
    · rw [if_neg hn]; omega
  rw [e1]
  show wpAny _ _ (pure ((n : Int) - 1, (-1 : Int), Builtin.Slice.slicePlaces ((n : Int) - 1) (-1) (-1))) _ _ s
  rw [e2]
  exact wpAny_pure h
theorem pick_back (xs : Array Value) : ((List.range xs.size).filterMap fun (m : Nat) => xs[((xs.size : Int) - 1 + (m : Int) * (-1)).toNat]?).toArray = xs.toList.reverse.toArray := by
  congr 1
  have e : (fun m : Nat => xs[((xs.size : Int) - 1 + (m : Int) * (-1)).toNat]?) = (fun i : Nat => xs[i]?) ∘ fun m : Nat => xs.size - 1 - m := by
    funext m
    have : ((xs.size : Int) - 1 + (m : Int) * (-1)).toNat = xs.size - 1 - m := by omega
    show xs[_]? = xs[_]?
    rw [this]
  rw [e, ← List.filterMap_map, krv_range, List.filterMap_reverse, krv_all]
theorem tup_back {t sl : Addr} {items : Array Value} {vl vu vs : Value} {Q : Value → Shared → Prop} (ht : IsTup s.heap t items) (hs : s.heap.IsSliceOf sl vl vu vs) (pl : IsPart vl none) (pu : IsPart vu none) (pt : IsPart vs (some (-1)))
    (h : Q (.ref s.heap.objs.size) { s with heap := s.heap.push { cls := .type "tuple", data := .seq items.toList.reverse.toArray } }) (hsz : items.size ≤ sizeLine) :
    wpAny (model P w) A (getItem (.ref t) (.ref sl)) Q E s := by
  have hfit : sizeOk (.seq items.toList.reverse.toArray) := by
    show items.toList.reverse.toArray.size ≤ sizeLine
    rw [List.size_toArray, List.length_reverse, Array.length_toList]
    exact hsz
  obtain ⟨os, hos, hcs, hds⟩ := id hs
  have hTs : s.TypeIs (.ref sl) "slice" := ⟨os, hos, hcs⟩
  unfold getItem
  try with_reducible refine wpAny_holding ?_
  first | refine wpAny_bind (wpAny_pure ?_) | skip
  refine wpAny_bind (wpAny_sequenceKey ht.typeIs (by decide) ?_)
  refine wpAny_bind (wpAny_callSpecial?_slot (name := Str.ofString "__getitem__") ht.typeIs PyProof.Rows.slot_tuple_getitem
    (wpAny_call_entry PyProof.Rows.slot_tuple_getitem ht.typeIs entry_tuple_getitem ?_ (args_tuple_getitem _ _)))
  show wpAny _ _ (Builtin.Tuple.tupleItemsOf (.ref t) >>= _) _ _ s
  refine wpAny_bind (tupleItemsOf_ ht ?_)
  refine wpAny_bind (wpAny_typeOf hTs ?_)
  rw [if_pos (by decide)]
  refine wpAny_bind (sliceApplied_back hs pl pu pt ?_)
  show wpAny _ _ (if (((items.size : Int) - 1) == 0 && (-1 : Int) == 1 && items.size == items.size) = true then _ else _) _ _ s
  rw [if_neg (by rw [show ((-1 : Int) == 1) = false by decide, Bool.and_false, Bool.false_and]; exact Bool.false_ne_true), pick_back]
  exact wpAny_bind (m := Builtin.Tuple.tupleExact _) (wpAny_newObj_type (wpAny_pure ⟨_, rfl, wpAny_pure h⟩) hfit)
end
end FlI
namespace Fl
open PySem PySem.Spec PyProof.Rows L2
def tRevT (K : PySem.W.Frag) (te : TE) : TE := fun σ H Q => te σ H fun x H1 => ∃ a xs, x = .ref a ∧ SqT K H1 a xs ∧ ∀ p, H1 p = none → Q (.ref p) (upd H1 p (.tup xs.reverse))
section
variable {X : Cx} {S : Bs} {Γ Γ1 : Ct} {a : Expr} {te : TE} {ds : List Dt}
theorem pe_revT {e : Expr} {k : Nat} {p1 p2 p3 pos : Pos} (he : PE X e te) : PE X (.Subscript e (.Slice none none (some (.UnaryOp .USub (.Constant (.int 1) k p1) p2)) p3) pos) (tRevT X.K te) := by
  refine ⟨fun pins s σ H Q I h => ?_⟩
  refine Subscript_ (thn (he.run pins s σ H _ I h) fun v s1 ⟨x, H1, I1, r1, q1⟩ => ?_)
  obtain ⟨a, xs, ex, hx, q⟩ := q1
  subst ex
  cases r1
  have hst : PO X (some (.UnaryOp .USub (.Constant (.int 1) k p1) p2)) (tPart (tUn (rU fun i => .int (-i)) (tC (.int 1)))) := po_some (pe_un un_neg pe_int)
  refine wpAny_Slice (thn (po_none.run pins s1 σ H1 (fun o H2 => o = none ∧ H2 = H1) I1 ⟨rfl, rfl⟩) fun vl s2 ⟨l, H2, I2, pl, el, e2⟩ => ?_)
  subst el e2
  refine thn (po_none.run pins s2 σ H2 (fun o H3 => o = none ∧ H3 = H2) I2 ⟨rfl, rfl⟩) fun vu s3 ⟨u, H3, I3, pu, eu, e3⟩ => ?_
  subst eu e3
  refine thn (hst.run pins s3 σ H3 (fun o H4 => o = some (-1) ∧ H4 = H3) I3 ⟨1, rfl, -1, rfl, rfl, rfl⟩) fun vs s4 ⟨o, H4, I4, ps, eo, e4⟩ => ?_
  subst eo e4
  have I5 : Inv X pins σ H4 { s4 with heap := s4.heap.push { cls := .type "slice", data := .fields #[vl, vu, vs] } } := I4.kept (t' := s4.toks) fun b ob q => Heap.get?_push_of_some _ q
  obtain ⟨its, r, ht, hz⟩ := I5.tuple hx
  show wpAny (model X.prog X.w) X.A (subscriptTail e (.Slice none none (some (.UnaryOp .USub (.Constant (.int 1) k p1) p2)) p3) (.ref a) (.ref s4.heap.objs.size)) (EP X pins σ Q) X.xe { s4 with heap := s4.heap.push { cls := .type "slice", data := .fields #[vl, vu, vs] } }
  refine tail_any (ops := [.ref a, .ref s4.heap.objs.size]) ht.typeIs (PyProof.Rows.slot_tuple_getitem.lookup) ?_ (by with_unfolding_all rfl)
  refine FlI.tup_back ht (Heap.IsSliceOf.new _ vl vu vs) pl pu ps ?_ (by rw [List.size_toArray, ← r.length]; exact hz)
  refine ⟨.ref _, _, I5.laid (t' := s4.toks) (o := .tup xs.reverse) (fun b ob q => Heap.get?_push_of_some _ q) (Nat.le_refl _) ?_, rfl, q _ (I5.hok.fresh (Nat.le_refl _))⟩
  exact ⟨by rw [List.length_reverse]; exact hz, _, r.reverse, PyProof.Rows.IsTup.new _ _⟩
theorem ev_revT {k : Nat} {p1 p2 p3 pos : Pos} (ha : Ev X S Γ a (.tup ds) Γ1) : Ev X S Γ (.Subscript a (.Slice none none (some (.UnaryOp .USub (.Constant (.int 1) k p1) p2)) p3) pos) (.tup ds.reverse) Γ1 := .mk fun σ H0 H en =>
  s_e (pe_revT pe_s) (m_e (ha.run σ H0 H en) fun v H1 ⟨H01, e1, en1, r⟩ => by
    cases r with
    | @tup p xs _ h0 r =>
      refine ⟨p, xs, rfl, .inl (.inl (en1.sub _ _ h0)), fun l hl => ?_⟩
      exact ⟨upd H01 l (.tup xs.reverse), e1.trans (Ex.upd (en1.sub.back hl)), en1.new hl, .tup upd_same (r.reverse.mono (Ex.upd (en1.sub.back hl)))⟩)
theorem ev_revTM {α : Type} {enc : α → Dt} {xs : List α} {k : Nat} {p1 p2 p3 pos : Pos} (ha : Ev X S Γ a (.tup (xs.map enc)) Γ1) : Ev X S Γ (.Subscript a (.Slice none none (some (.UnaryOp .USub (.Constant (.int 1) k p1) p2)) p3) pos) (.tup (xs.reverse.map enc)) Γ1 := by
  have := ev_revT (k := k) (p1 := p1) (p2 := p2) (p3 := p3) (pos := pos) ha
  rw [← List.map_reverse] at this
  exact this
theorem b_ten6 : Bop X .Pow (.int 10) (.int 6) (.int 1000000) := b_pow (i := 10) (j := 6) ⟨by decide, by decide, by decide⟩
end
end Fl
namespace Fl
open PySem PySem.Spec PyProof.Rows L2
section
variable {X : Cx} {S : Bs} {Γ Γ1 Γ2 : Ct} {a b e : Expr} {ds : List Dt} {apos pos : Pos} {x y : Str}
/-! ### methods of texts -/
theorem ev_m1 {id : String} {name : Str} {r : V → List V → Hp → VK → Prop} {z : Dt} (slot : Slot "str" name id) (ty : typeOf (.builtin id) = pure (.type "method_descriptor")) (rule : MtR X id r)
    (hs : starEach [b] X.env = [(false, eval b X.env)]) (hbase : attributeBase a name X.env (eval a X.env) = eval a X.env) (hline : (apos.endLine == pos.line) = true)
    (ha : Ev X S Γ a (.str x) Γ1) (hb : Ev X S Γ1 b d Γ2)
    (k : ∀ (σ : L2.St) (H0 H : Hp) (v : V), En X.K S H0 H σ Γ2 → Dr X.K H0 v d → ∀ Q : VK, (∀ u H', Pst X.K S σ H0 Γ2 z u H' → Q u H') → r (.str x) [v] H Q) : Ev X S Γ (.Call (.Attribute a name apos) [b] [] pos) z Γ2 := .mk fun σ H0 H en =>
  s_e (pe_m1 slot ty rule pe_s pe_s hs hbase hline) (m_e (ha.run σ H0 H en) fun v H1 ⟨H01, e1, en1, r1⟩ => by
    cases r1
    exact ⟨⟨_, rfl⟩, m_e (hb.run σ H01 H1 en1) fun u H2 ⟨H02, e2, en2, r2⟩ => k σ H02 H2 u en2 r2 _ fun w H3 ⟨H03, e3, en3, r3⟩ => ⟨H03, (e1.trans e2).trans e3, en3, r3⟩⟩)
theorem ev_startswith (hs : starEach [b] X.env = [(false, eval b X.env)]) (hbase : attributeBase a (Str.ofString "startswith") X.env (eval a X.env) = eval a X.env) (hline : (apos.endLine == pos.line) = true)
    (ha : Ev X S Γ a (.str x) Γ1) (hb : Ev X S Γ1 b (.str y) Γ2) : Ev X S Γ (.Call (.Attribute a (Str.ofString "startswith") apos) [b] [] pos) (.bl (Txt.startswith x y)) Γ2 :=
  ev_m1 F.slot_str_startswith F.type_str_startswith mt_startswith hs hbase hline ha hb fun σ H0 H v en r Q q => by
    cases r
    exact ⟨x, y, rfl, rfl, q _ _ (pst_bl en)⟩
theorem ev_endswith (hs : starEach [b] X.env = [(false, eval b X.env)]) (hbase : attributeBase a (Str.ofString "endswith") X.env (eval a X.env) = eval a X.env) (hline : (apos.endLine == pos.line) = true)
    (ha : Ev X S Γ a (.str x) Γ1) (hb : Ev X S Γ1 b (.str y) Γ2) : Ev X S Γ (.Call (.Attribute a (Str.ofString "endswith") apos) [b] [] pos) (.bl (Txt.endswith x y)) Γ2 :=
  ev_m1 F.slot_str_endswith F.type_str_endswith mt_endswith hs hbase hline ha hb fun σ H0 H v en r Q q => by
    cases r
    exact ⟨x, y, rfl, rfl, q _ _ (pst_bl en)⟩
theorem ev_join {ys : List Str} (hs : starEach [b] X.env = [(false, eval b X.env)]) (hbase : attributeBase a (Str.ofString "join") X.env (eval a X.env) = eval a X.env) (hline : (apos.endLine == pos.line) = true)
    (ha : Ev X S Γ a (.str x) Γ1) (hb : Ev X S Γ1 b (.lst (ys.map .str)) Γ2) (hz : (ys.map (·.length)).sum + ys.length * x.length ≤ 16777216) : Ev X S Γ (.Call (.Attribute a (Str.ofString "join") apos) [b] [] pos) (.str (Txt.join x ys)) Γ2 :=
  ev_m1 F.slot_str_join F.type_str_join mt_join hs hbase hline ha hb fun σ H0 H v en r Q q => by
    cases r with
    | @lst p xs _ h0 r =>
      rw [r.strs] at h0
      exact ⟨x, p, ys, rfl, rfl, .inl (.inl (.inl (en.sub _ _ h0))), hz, q _ _ (pst_str en)⟩
theorem evn_split (hs : starEach [b] X.env = [(false, eval b X.env)]) (hbase : attributeBase a (Str.ofString "split") X.env (eval a X.env) = eval a X.env) (hline : (apos.endLine == pos.line) = true)
    (ha : Ev X S Γ a (.str x) Γ1) (hb : Ev X S Γ1 b (.str y) Γ2) (hy : (y.length == 0) = false) (hz : x.length + 2 ≤ sizeLine) : EvN X S Γ (.Call (.Attribute a (Str.ofString "split") apos) [b] [] pos) ((Txt.split x y).map .str) Γ2 := .mk fun σ H0 H en =>
  s_e (pe_m1 F.slot_str_split F.type_str_split mt_split pe_s pe_s hs hbase hline) (m_e (ha.run σ H0 H en) fun v H1 ⟨H01, e1, en1, r1⟩ => by
    cases r1
    refine ⟨⟨_, rfl⟩, m_e (hb.run σ H01 H1 en1) fun u H2 ⟨H02, e2, en2, r2⟩ => ?_⟩
    cases r2
    refine ⟨x, y, rfl, rfl, hy, hz, fun p hp => ?_⟩
    obtain ⟨H03, l, zs, e3, q⟩ := nst_new en2 hp (Drs.of_strs (K := X.K) (H := H02) (Txt.split x y))
    exact ⟨H03, l, zs, (e1.trans e2).trans e3, q⟩)
theorem ev_slS {lo hi : Option Expr} {l h : Option Int} {p2 : Pos} (ha : Ev X S Γ a (.str x) Γ1) (hl : Eo X S Γ1 lo l) (hh : Eo X S Γ1 hi h) (hz : x.length ≤ sizeLine) : Ev X S Γ (.Subscript a (.Slice lo hi none p2) pos) (.str (cutS x l h)) Γ1 := .mk fun σ H0 H en =>
  s_e (pe_slice sl_str pe_s po_s po_s) (m_e (ha.run σ H0 H en) fun v H1 ⟨H01, e1, en1, r⟩ => sO_run hl en1 fun H02 H2 e2 en2 => sO_run hh en2 fun H03 H3 e3 en3 => by
    cases r
    exact ⟨x, rfl, hz, H03, (e1.trans e2).trans e3, en3, .str _⟩)
theorem i_str {i : Int} {c : Nat} (hz : x.length ≤ sizeLine) (h : atI x.cps.toList i = some c) : Iop X (.str x) (.int i) (.str ⟨#[c]⟩) := ⟨_, ix_str, fun S Γ σ H0 H v u en h1 h2 Q q => by
  cases h1; cases h2
  exact ⟨x, i, c, rfl, rfl, hz, h, q _ _ (pst_str en)⟩⟩
theorem i_str0 {c : Nat} {r : List Nat} (h : x.cps.toList = c :: r) (hz : x.length ≤ sizeLine) : Iop X (.str x) (.int 0) (.str ⟨#[c]⟩) := i_str hz (by rw [h]; exact atI_nat (j := 0) rfl)
theorem c_inS {c : Nat} {z : Str} : Cop X .In (.str ⟨#[c]⟩) (.str z) (decide (c ∈ z.cps.toList)) := ⟨_, op_inS, fun S Γ σ H0 H v u en h1 h2 Q q => by
  cases h1; cases h2
  exact ⟨c, z, rfl, rfl, q _ _ (pst_bl en)⟩⟩
theorem c_ninS {c : Nat} {z : Str} : Cop X .NotIn (.str ⟨#[c]⟩) (.str z) (!decide (c ∈ z.cps.toList)) := ⟨_, op_notInS, fun S Γ σ H0 H v u en h1 h2 Q q => by
  cases h1; cases h2
  exact ⟨c, z, rfl, rfl, q _ _ (pst_bl en)⟩⟩
theorem bf_intS {n : Int} (h : PySem.intText? x = some n) (hz : x.length ≤ 640) : Bfn X "int" [.str x] (.int n) := bf_t PyProof.Rows.boot_int call_int_str fun S Γ σ H0 H vs en r hL Q q => by
  obtain ⟨v, rfl, h1⟩ := dr1 r
  cases h1
  exact ⟨x, n, rfl, h, hz, q _ _ (pst_int en)⟩
theorem ev_joinM {α : Type} {f : α → Str} {xs : List α} (hs : starEach [b] X.env = [(false, eval b X.env)]) (hbase : attributeBase a (Str.ofString "join") X.env (eval a X.env) = eval a X.env) (hline : (apos.endLine == pos.line) = true)
    (ha : Ev X S Γ a (.str x) Γ1) (hb : Ev X S Γ1 b (.lst (xs.map fun p => .str (f p))) Γ2) (hz : ((xs.map f).map (·.length)).sum + (xs.map f).length * x.length ≤ 16777216) : Ev X S Γ (.Call (.Attribute a (Str.ofString "join") apos) [b] [] pos) (.str (Txt.join x (xs.map f))) Γ2 := by
  refine ev_join hs hbase hline ha ?_ hz
  rw [List.map_map]
  exact hb
theorem evn_splitM {α : Type} {f : α → Str} {xs : List α} (hsp : Txt.split x y = xs.map f) (hs : starEach [b] X.env = [(false, eval b X.env)]) (hbase : attributeBase a (Str.ofString "split") X.env (eval a X.env) = eval a X.env) (hline : (apos.endLine == pos.line) = true)
    (ha : Ev X S Γ a (.str x) Γ1) (hb : Ev X S Γ1 b (.str y) Γ2) (hy : (y.length == 0) = false) (hz : x.length + 2 ≤ sizeLine) : EvN X S Γ (.Call (.Attribute a (Str.ofString "split") apos) [b] [] pos) (xs.map fun p => .str (f p)) Γ2 := by
  have := evn_split hs hbase hline ha hb hy hz
  rw [hsp, List.map_map] at this
  exact this
/-- x.split(y)[:-1] -/
theorem evn_splitC {α : Type} {f : α → Str} {xs : List α} {k : Nat} {p1 p2 p3 pos2 : Pos} (hsp : cutD (Txt.split x y) none (some (-1)) = xs.map f) (hs : starEach [b] X.env = [(false, eval b X.env)]) (hbase : attributeBase a (Str.ofString "split") X.env (eval a X.env) = eval a X.env) (hline : (apos.endLine == pos.line) = true)
    (ha : Ev X S Γ a (.str x) Γ1) (hb : Ev X S Γ1 b (.str y) Γ2) (hy : (y.length == 0) = false) (hz : x.length + 2 ≤ sizeLine) :
    EvN X S Γ (.Subscript (.Call (.Attribute a (Str.ofString "split") apos) [b] [] pos) (.Slice none (some (.UnaryOp .USub (.Constant (.int 1) k p1) p2)) none p3) pos2) (xs.map fun p => .str (f p)) Γ2 := by
  have := evn_slLM (pos := pos2) (p2 := p3) (enc := Dt.str) (ev_of (evn_split hs hbase hline ha hb hy hz)) eo_none (eo_some (e := .UnaryOp .USub (.Constant (.int 1) k p1) p2) (ev_neg ev_int))
  rw [hsp, List.map_map] at this
  exact this
end
end Fl
namespace Fl
open PySem L2
section
variable {X Z : Cx} {S : Bs} {Γ Γ1 : Ct} {e : Expr} {pos : Pos} {D : Pd} {P : Program} {w : World} {K : PySem.W.Frag} {mg : Str → Option Value} {base : Heap} {N : List Str} {sc : Scope} {k : Nat}
/-! ### a try with several except clauses -/
abbrev Cl : Type := Str × Addr × Stmt × List Stmt
inductive HdL (mg : Str → Option Value) (sc : Scope) : List ExceptHandler → List Cl → Prop
  | nil : HdL mg sc [] []
  | cons {x : Str} {M : Addr} {b₀ : Stmt} {suite : List Stmt} {np pos' : Pos} {hds : List ExceptHandler} {l : List Cl} (hM : mg x = some (.ref M)) (hv : gloC sc x = true) (r : HdL mg sc hds l) :
      HdL mg sc (.ExceptHandler (some (.Name x np)) none (b₀ :: suite) pos' :: hds) ((x, M, b₀, suite) :: l)
/-- the clause that takes an error of the class n -/
inductive HitL (K : PySem.W.Frag) (C : Addr) (R : List Stmt → Prop) : List Cl → Prop
  | hit {x : Str} {M : Addr} {b₀ : Stmt} {suite : List Stmt} {l : List Cl} (h : PySem.W.exmOne K (.ref C) (.ref M) = some true) (r : R (b₀ :: suite)) : HitL K C R ((x, M, b₀, suite) :: l)
  | miss {x : Str} {M : Addr} {b₀ : Stmt} {suite : List Stmt} {l : List Cl} (h : PySem.W.exmOne K (.ref C) (.ref M) = some false) (r : HitL K C R l) : HitL K C R ((x, M, b₀, suite) :: l)
def clT (X : Cx) (q : Cl) : Value × (Addr → Value → Option Addr → TS) := (.ref q.2.1, tSuite X (q.2.2.1 :: q.2.2.2))
theorem hdl_ok (hb : Bd X P w K mg base N sc k) : ∀ {hds : List ExceptHandler} {l : List Cl}, HdL mg sc hds l → HdsOk X hds (l.map (clT X))
  | _, _, .nil => .nil
  | _, _, .cons hM hv r => by
    unfold gloC at hv
    simp only [Bool.and_eq_true, Bool.not_eq_true'] at hv
    refine .cons ⟨?_, hv.2, .inl (by rw [hb.hm]; exact hM)⟩ (fun a oe cls d pn hz hf => ⟨fun pins s σ H D I q => q oe pn hz hf pins s I⟩) (hdl_ok hb r)
    show X.env.scope.names.lookup _ = _
    rw [hb.hs]
    exact gloB_ok hv.1
theorem q_tryM {n : Str} {st : Stmt} {rest : List Stmt} {h₀ : ExceptHandler} {hds : List ExceptHandler} {l : List Cl} {C : Addr} (hx : ∀ x, X.fn x = true) (tp : Tp X) (hb : Bd X P w K mg base N sc k) (o : One X.env e st)
    (L : HdL mg sc (h₀ :: hds) l) (hC : mg n = some (.ref C))
    (h : ∀ Y, Bd Y P w K mg base N sc k → Y.env = X.env → EvX Y S Γ e n Γ1)
    (hs : HitL K C (fun ss => ∀ Z, Bz Z P w K mg N sc → (∀ x, Z.fn x = true) → Z.env = X.env → Ws Z S Γ1 ss { D with nx := fun Γ' => Ws X S Γ' rest D }) l) :
    Ws X S Γ (.Try [st] (h₀ :: hds) [] [] pos :: rest) D := by
  refine ws_cons <| .mk fun σ H0 H en => s_s (ps_try_many (tb := tBody X [st]) (Wout := fun _ _ _ _ => False) tp.stk tp.frm takes0
    (fun W pn xe tk po => ⟨fun pins s σ H D I q => q pn xe tk po pins s I⟩) (hdl_ok hb L)) ?_
  intro pn xe tk po
  have bY : Bd (X.tr pn xe) P w K mg base N sc k := ⟨hb.hP, hb.hw, hb.hK, hb.hm, hb.hB, hb.hN, hb.hs, hb.nd, hb.calm, po, hb.room⟩
  refine one_run (X := X.tr pn xe) o fun Q => (h _ bY rfl).run σ H0 H en _ C tk (by show X.mg n = _; rw [hb.hm]; exact hC) (fun H0' H' e1 en1 => ?_) Q
  clear L tk
  induction hs with
  | hit hm r =>
    refine ⟨true, by rw [hb.hK]; exact hm, fun _ a na oe pn' hz hf => ?_, fun z => nomatch z⟩
    have z := (r (X.suite a ((a, oe) :: pn')) ⟨hb.hP, hb.hw, hb.hK, hb.hm, hb.hN, hb.hs, hb.nd⟩ hx rfl).run σ H0' H' en1
    exact m_ss z (cnc_nx e1) (cnc_rt e1) (cnc_bk e1) (cnc_ct e1)
  | miss hm r ih =>
    exact ⟨false, by rw [hb.hK]; exact hm, (fun z => nomatch z), fun _ => ih⟩
/-- clauses that stand behind the one that takes -/
inductive NmL (mg : Str → Option Value) (sc : Scope) : List ExceptHandler → Prop
  | nil : NmL mg sc []
  | cons {x : Str} {b₀ : Stmt} {suite : List Stmt} {np pos' : Pos} {hds : List ExceptHandler} (hM : ∃ M, mg x = some (.ref M)) (hv : gloC sc x = true) (r : NmL mg sc hds) : NmL mg sc (.ExceptHandler (some (.Name x np)) none (b₀ :: suite) pos' :: hds)
inductive HL (K : PySem.W.Frag) (mg : Str → Option Value) (sc : Scope) (n : Str) (R : List Stmt → Prop) : List ExceptHandler → Prop
  | hit {x : Str} {b₀ : Stmt} {suite : List Stmt} {np pos' : Pos} {hds : List ExceptHandler} (m : Exm K mg n x true) (hv : gloC sc x = true) (t : NmL mg sc hds) (r : R (b₀ :: suite)) : HL K mg sc n R (.ExceptHandler (some (.Name x np)) none (b₀ :: suite) pos' :: hds)
  | miss {x : Str} {b₀ : Stmt} {suite : List Stmt} {np pos' : Pos} {hds : List ExceptHandler} (m : Exm K mg n x false) (hv : gloC sc x = true) (t : HL K mg sc n R hds) : HL K mg sc n R (.ExceptHandler (some (.Name x np)) none (b₀ :: suite) pos' :: hds)
theorem nml_l : ∀ {hds : List ExceptHandler}, NmL mg sc hds → ∃ l, HdL mg sc hds l
  | _, .nil => ⟨[], .nil⟩
  | _, .cons ⟨M, hM⟩ hv r => by
    obtain ⟨l, h⟩ := nml_l r
    exact ⟨_, .cons hM hv h⟩
theorem exm_at {n x : Str} {C : Addr} {b : Bool} (m : Exm K mg n x b) (hC : mg n = some (.ref C)) : ∃ M, mg x = some (.ref M) ∧ PySem.W.exmOne K (.ref C) (.ref M) = some b := by
  obtain ⟨C', M, h1, h2, h3⟩ := m.ex
  have e : C' = C := by
    have := h1.symm.trans hC
    injection this with this
    injection this
  subst e
  exact ⟨M, h2, h3⟩
theorem hl_l {n : Str} {C : Addr} {R : List Stmt → Prop} (hC : mg n = some (.ref C)) : ∀ {hds : List ExceptHandler}, HL K mg sc n R hds → ∃ l, HdL mg sc hds l ∧ HitL K C R l
  | _, .hit m hv t r => by
    obtain ⟨M, hM, h⟩ := exm_at m hC
    obtain ⟨l, hl⟩ := nml_l t
    exact ⟨_, .cons hM hv hl, .hit h r⟩
  | _, .miss m hv t => by
    obtain ⟨M, hM, h⟩ := exm_at m hC
    obtain ⟨l, h1, h2⟩ := hl_l hC t
    exact ⟨_, .cons hM hv h1, .miss h h2⟩
theorem q_tryH {n : Str} {st : Stmt} {rest : List Stmt} {h₀ : ExceptHandler} {hds : List ExceptHandler} (hx : ∀ x, X.fn x = true) (tp : Tp X) (hb : Bd X P w K mg base N sc k) (o : One X.env e st) (hC : ∃ C, mg n = some (.ref C))
    (h : ∀ Y, Bd Y P w K mg base N sc k → Y.env = X.env → EvX Y S Γ e n Γ1)
    (hs : HL K mg sc n (fun ss => ∀ Z, Bz Z P w K mg N sc → (∀ x, Z.fn x = true) → Z.env = X.env → Ws Z S Γ1 ss { D with nx := fun Γ' => Ws X S Γ' rest D }) (h₀ :: hds)) :
    Ws X S Γ (.Try [st] (h₀ :: hds) [] [] pos :: rest) D := by
  obtain ⟨C, hC⟩ := hC
  obtain ⟨l, h1, h2⟩ := hl_l hC hs
  exact q_tryM hx tp hb o h1 hC h h2
end
end Fl
namespace Sg
open PySem L2 Fl
/-! ### the draws of a script -/
def at0 (s : List Int) (k : Int) : Int := (atI s k).getD 0
def cellAt (s : List Int) (k : Int) : Int := if k < s.length then at0 s k else if s = [] then 0 else at0 s (k % s.length) * 31 + k
theorem at0_ok {s : List Int} {k : Int} (h0 : 0 ≤ k) (h : k < s.length) : atI s k = some (at0 s k) := by
  obtain ⟨n, rfl⟩ := Int.eq_ofNat_of_zero_le h0
  have hn : n < s.length := by omega
  have e : atI s (n : Int) = some s[n] := atI_nat (List.getElem?_eq_getElem hn)
  unfold at0
  rw [e]; rfl
theorem at0_lst {ns : List Int} {k : Int} (h0 : 0 ≤ k) (h : k < ns.length) : atI (ns.map Dt.int) k = some (.int (at0 ns k)) := by rw [atI_map, at0_ok h0 h]; rfl
def drawn (s : List Int) (k : Int) : Int := (cellAt s k + 7919 * k + 1) * 48271 % 2147483647
def mixed (s : List Int) (k m : Int) : Int := (drawn s k * drawn s k + 7 * drawn s k + k) % 2147483629 % m
theorem mixed_range {s : List Int} {k m : Int} (h : 0 < m) : 0 ≤ mixed s k m ∧ mixed s k m < m := ⟨Int.emod_nonneg _ (by omega), Int.emod_lt_of_pos _ h⟩
inductive G_L_cell_at : List Dt → Dt → Prop
  | mk (s : List Int) (k : Int) (h : 0 ≤ k) : G_L_cell_at [.scr s, .int k] (.int (cellAt s k))
inductive G_L_mixed : List Dt → Dt → Prop
  | mk (s : List Int) (k m : Int) (h : 0 ≤ k) (hm : 0 < m) : G_L_mixed [.scr s, .int k, .int m] (.int (mixed s k m))
/-! ### sayings -/
def Say (m : Int) (x : List Int) : Prop := x.Pairwise (fun a b => a.natAbs < b.natAbs) ∧ ∀ p ∈ x, 0 < p.natAbs ∧ (p.natAbs : Int) ≤ m
def thingAt (s : List Int) (a m : Int) (k : Nat) : Int := 1 + mixed s (a + 1 + k) m
def signAt (s : List Int) (a m : Int) (k : Nat) : Int := 1 - 2 * (mixed s (a + 1 + k) (2 * m) / m)
def partsN (s : List Int) (a m : Int) : Nat → List (Int × Int)
  | 0 => []
  | k + 1 => putI (partsN s a m k) (thingAt s a m k) (signAt s a m k)
def cntAt (s : List Int) (a : Int) : Int := at0 [1, 2, 2, 3, 3, 3, 0] (mixed s a 7)
def signsOf (ps : List (Int × Int)) : List Int := (srt (ps.map (·.1))).map fun t => t * (lookI ps t).getD 0
def sayingOf (s : List Int) (a m : Int) : List Int := signsOf (partsN s a m (cntAt s a).toNat)
def sayingsOf (s : List Int) (a m most : Int) : List (List Int) := (List.range (mixed s a (most + 1)).toNat).map fun k => sayingOf s (a + 1 + 4 * (k : Nat)) m
theorem cntAt_range (s : List Int) (a : Int) : 0 ≤ cntAt s a ∧ cntAt s a ≤ 3 := by
  have h := mixed_range (s := s) (k := a) (m := 7) (by decide)
  unfold cntAt
  generalize mixed s a 7 = z at h
  have hz : z = 0 ∨ z = 1 ∨ z = 2 ∨ z = 3 ∨ z = 4 ∨ z = 5 ∨ z = 6 := by omega
  rcases hz with rfl | rfl | rfl | rfl | rfl | rfl | rfl <;> decide
theorem sign_ok {s : List Int} {a m : Int} {k : Nat} (hm : 0 < m) : signAt s a m k = 1 ∨ signAt s a m k = -1 := by
  have h := mixed_range (s := s) (k := a + 1 + k) (m := 2 * m) (by omega)
  unfold signAt
  generalize mixed s (a + 1 + k) (2 * m) = z at h
  have h0 : 0 ≤ z / m := Int.ediv_nonneg h.1 (by omega)
  have h1 : z / m < 2 := Int.ediv_lt_of_lt_mul hm h.2
  omega
theorem parts_inv {s : List Int} {a m : Int} (hm : 0 < m) : ∀ k : Nat, ((partsN s a m k).map (·.1)).Nodup ∧ (∀ p ∈ partsN s a m k, 1 ≤ p.1 ∧ p.1 ≤ m ∧ (p.2 = 1 ∨ p.2 = -1)) ∧ (partsN s a m k).length ≤ k
  | 0 => ⟨List.nodup_nil, (fun p h => absurd h List.not_mem_nil), Nat.le_refl _⟩
  | k + 1 => by
    obtain ⟨h1, h2, h3⟩ := parts_inv (s := s) (a := a) hm k
    refine ⟨putI_nodup h1, fun p hp => ?_, ?_⟩
    · rcases putI_mem hp with h | rfl
      · exact h2 p h
      · have := mixed_range (s := s) (k := a + 1 + k) hm
        exact ⟨by show 1 ≤ 1 + _; omega, by show 1 + mixed s (a + 1 + k) m ≤ m; omega, sign_ok hm⟩
    · have := putI_len (partsN s a m k) (thingAt s a m k) (signAt s a m k)
      show (putI _ _ _).length ≤ k + 1
      omega
theorem srt_len (ns : List Int) : (srt ns).length = ns.length := (srt_perm ns).length_eq
theorem srt_mem {ns : List Int} {x : Int} : x ∈ srt ns ↔ x ∈ ns := (srt_perm ns).mem_iff
theorem srt_lt {ns : List Int} (h : ns.Nodup) : (srt ns).Pairwise (· < ·) := by
  have h1 := srt_pair ns
  have h2 : (srt ns).Nodup := (srt_perm ns).nodup_iff.mpr h
  exact (h1.and h2).imp fun ⟨a, b⟩ => by omega
theorem say_signs {m : Int} {ps : List (Int × Int)} (h1 : (ps.map (·.1)).Nodup) (h2 : ∀ p ∈ ps, 1 ≤ p.1 ∧ p.1 ≤ m ∧ (p.2 = 1 ∨ p.2 = -1)) : Say m (signsOf ps) := by
  have look : ∀ t ∈ srt (ps.map (·.1)), 1 ≤ t ∧ t ≤ m ∧ ((lookI ps t).getD 0 = 1 ∨ (lookI ps t).getD 0 = -1) := fun t ht => by
    obtain ⟨v, e, hv⟩ := lookI_mem (srt_mem.mp ht)
    have := h2 _ hv
    rw [e]
    exact this
  have abs : ∀ t ∈ srt (ps.map (·.1)), ((t * (lookI ps t).getD 0).natAbs : Int) = t := fun t ht => by
    obtain ⟨a, b, c⟩ := look t ht
    rcases c with c | c <;> rw [c] <;> omega
  constructor
  · unfold signsOf
    rw [List.pairwise_map]
    refine (List.Pairwise.and_mem.mp (srt_lt h1)).imp fun ⟨ha, hb, hlt⟩ => ?_
    have := abs _ ha
    have := abs _ hb
    omega
  · intro p hp
    obtain ⟨t, ht, rfl⟩ := List.mem_map.mp hp
    have := abs t ht
    obtain ⟨a, b, c⟩ := look t ht
    omega
theorem sayingOf_say {s : List Int} {a m : Int} (hm : 0 < m) : Say m (sayingOf s a m) := by
  obtain ⟨h1, h2, _⟩ := parts_inv (s := s) (a := a) hm (cntAt s a).toNat
  exact say_signs h1 h2
theorem sayingOf_len {s : List Int} {a m : Int} (hm : 0 < m) : (sayingOf s a m).length ≤ 3 := by
  obtain ⟨_, _, h⟩ := parts_inv (s := s) (a := a) hm (cntAt s a).toNat
  have := cntAt_range s a
  unfold sayingOf signsOf
  rw [List.length_map, srt_len, List.length_map]
  omega
theorem sayingsOf_say {s : List Int} {a m most : Int} (hm : 0 < m) : ∀ x ∈ sayingsOf s a m most, Say m x ∧ x.length ≤ 3 := fun x hx => by
  obtain ⟨k, _, rfl⟩ := List.mem_map.mp hx
  exact ⟨sayingOf_say hm, sayingOf_len hm⟩
theorem sayingsOf_len {s : List Int} {a m most : Int} (h : 0 ≤ most) : ((sayingsOf s a m most).length : Int) ≤ most := by
  have := mixed_range (s := s) (k := a) (m := most + 1) (by omega)
  unfold sayingsOf
  rw [List.length_map, List.length_range]
  omega
inductive G_L_saying : List Dt → Dt → Prop
  | mk (s : List Int) (a m : Int) (h : 0 ≤ a) (hm : 0 < m) (hm2 : m ≤ 16) : G_L_saying [.scr s, .int a, .int m] (eT (sayingOf s a m))
inductive G_L_sayings : List Dt → Dt → Prop
  | mk (s : List Int) (a m most : Int) (h : 0 ≤ a) (hm : 0 < m) (hm2 : m ≤ 16) (h1 : 0 ≤ most) (h2 : most ≤ 100) : G_L_sayings [.scr s, .int a, .int m, .int most] (eLT (sayingsOf s a m most))
end Sg
namespace Sg
open PySem L2 Fl
/-! ### common functions -/
inductive G_whole : List Dt → Dt → Prop
  | mk (d : Dt) (h : Knd d) : G_whole [d] (.bl (isI d))
def sayD : List Dt → Int → Int → Bool
  | [], _, _ => true
  | .int p :: ds, last, m => if (decide ((p.natAbs : Int) ≤ last) || decide (m < p.natAbs)) = true then false else sayD ds p.natAbs m
  | _ :: _, _, _ => false
inductive G_say : List Dt → Dt → Prop
  | tup (ds : List Dt) (m : Int) (h : ∀ d ∈ ds, Knd d) : G_say [.tup ds, .int m] (.bl (sayD ds 0 m))
  | lst (ds : List Dt) (m : Int) : G_say [.lst ds, .int m] (.bl false)
  | int (i : Int) (m : Int) : G_say [.int i, .int m] (.bl false)
  | bl (i : Bool) (m : Int) : G_say [.bl i, .int m] (.bl false)
  | str (i : Str) (m : Int) : G_say [.str i, .int m] (.bl false)
  | non (m : Int) : G_say [.non, .int m] (.bl false)
theorem sayD_iff {m : Int} : ∀ (x : List Int) (last : Int), sayD (x.map .int) last m = true ↔ (x.Pairwise (fun a b => a.natAbs < b.natAbs) ∧ ∀ p ∈ x, last < p.natAbs ∧ (p.natAbs : Int) ≤ m)
  | [], last => by simp [sayD]
  | p :: x, last => by
    rw [List.map_cons, sayD]
    have ih := sayD_iff (m := m) x p.natAbs
    split
    · rename_i h
      simp only [Bool.or_eq_true, decide_eq_true_eq] at h
      refine ⟨fun z => absurd z (by decide), fun ⟨_, z⟩ => ?_⟩
      have := z p (List.mem_cons_self ..)
      omega
    · rename_i h
      simp only [Bool.or_eq_true, decide_eq_true_eq, not_or] at h
      rw [ih, List.pairwise_cons]
      constructor
      · intro ⟨h1, h2⟩
        refine ⟨⟨fun q hq => by have := h2 q hq; omega, h1⟩, fun q hq => ?_⟩
        rcases List.mem_cons.mp hq with rfl | hq
        · omega
        · have := h2 q hq; omega
      · intro ⟨⟨h1, h2⟩, h3⟩
        exact ⟨h2, fun q hq => by have a := h1 q hq; have b := h3 q (List.mem_cons_of_mem _ hq); omega⟩
theorem sayD_say {m : Int} {x : List Int} (h : Say m x) : sayD (x.map .int) 0 m = true := (sayD_iff x 0).mpr ⟨h.1, fun p hp => by have := h.2 p hp; omega⟩
theorem say_of {m : Int} {x : List Int} (h : sayD (x.map .int) 0 m = true) : Say m x := by
  obtain ⟨h1, h2⟩ := (sayD_iff x 0).mp h
  exact ⟨h1, fun p hp => by have := h2 p hp; omega⟩
inductive G_checked : List Dt → Dt → Prop
  | mk (xs : List (List Int)) (m : Int) (h1 : 1 ≤ m) (h2 : m ≤ 16) (h3 : xs.length ≤ 24) (h : ∀ x ∈ xs, Say m x) : G_checked [eLT xs, .int m] (eLT xs)
def soB (c : List Int) (p : Int) : Bool := decide (0 < p) == decide (atZ c ((p.natAbs : Int) - 1) = 1)
def trueIn (c : List Int) (x : List Int) : Bool := x.any (soB c)
def allTrue (xs : List (List Int)) (c : List Int) : Bool := xs.all (trueIn c)
def Rng (n : Nat) (x : List Int) : Prop := ∀ p ∈ x, 0 < p.natAbs ∧ p.natAbs ≤ n
theorem Say.rng {m : Int} {n : Nat} {x : List Int} (h : Say m x) (e : m = n) : Rng n x := fun p hp => by have := h.2 p hp; omega
theorem rng_bnd {p : Int} {c : List Int} (h : 0 < p.natAbs ∧ p.natAbs ≤ c.length) : Bnd c ((p.natAbs : Int) - 1) := ⟨by omega, by omega⟩
inductive G_so : List Dt → Dt → Prop
  | mk (p : Int) (c : List Int) (h : 0 < p.natAbs ∧ p.natAbs ≤ c.length) : G_so [.int p, eL c] (.bl (soB c p))
inductive G_true : List Dt → Dt → Prop
  | mk (x c : List Int) (h : Rng c.length x) : G_true [eT x, eL c] (.bl (trueIn c x))
inductive G_alltrue : List Dt → Dt → Prop
  | mk (xs : List (List Int)) (c : List Int) (h : ∀ x ∈ xs, Rng c.length x) : G_alltrue [eLT xs, eL c] (.bl (allTrue xs c))
theorem none_left {α : Type} {enc : α → Dt} (f : α → Bool) : ∀ xs : List α, deq (.lst ((xs.filter fun x => !f x).map enc)) (.lst []) = xs.all f := fun xs => by
  rw [deq_nilL]
  induction xs with
  | nil => rfl
  | cons x xs ih =>
    rw [List.filter_cons, List.all_cons]
    cases f x
    · rfl
    · exact ih
inductive G_is_case : List Dt → Dt → Prop
  | mk (c : List Int) (m : Int) (h : (c.length : Int) = m) (hc : ∀ v ∈ c, 0 ≤ v ∧ v ≤ 1) : G_is_case [eL c, .int m] (.bl true)
inductive G_need_case : List Dt → Dt → Prop
  | mk (c : List Int) (m : Int) (h : (c.length : Int) = m) (hc : ∀ v ∈ c, 0 ≤ v ∧ v ≤ 1) : G_need_case [eL c, .int m] .non
/-! ### the law's start -/
inductive G_law : List Dt → Dt → Prop
  | mk (s : List Int) (h : s.length ≤ 63) : G_law [.scr s] (.bl true)
theorem law_start {K : PySem.W.Frag} {H : Hp} {a : Addr} {ns : List Int} (hl : ns.length ≤ 63) (hS : SqL K H a (ns.map V.int)) : spF K G_law [.ref a] H (fun v _ => v = .bl true) fun _ _ _ => False :=
  ⟨[.scr ns], .bl true, H, Ex.refl _, .cons (.scr hS) .nil, .mk ns hl, fun v H' H0' _ _ _ _ r => by cases r; rfl⟩
end Sg
namespace Sg
open PySem L2 Fl
/-! ### all cases -/
def exts : Nat → List (List Int)
  | 0 => [[]]
  | k + 1 => (exts k).flatMap fun r => [r ++ [0], r ++ [1]]
def lawC : Nat → List (List Int)
  | 0 => [[]]
  | k + 1 => (lawC k).map (fun r => r ++ [0]) ++ (lawC k).map (fun r => r ++ [1])
def IsC (n : Nat) (c : List Int) : Prop := c.length = n ∧ ∀ v ∈ c, v = 0 ∨ v = 1
theorem isC_snoc {n : Nat} {r : List Int} {b : Int} : IsC (n + 1) (r ++ [b]) ↔ IsC n r ∧ (b = 0 ∨ b = 1) := by
  unfold IsC
  rw [List.length_append]
  constructor
  · intro ⟨h1, h2⟩
    refine ⟨⟨?_, fun v hv => h2 v (List.mem_append.mpr (.inl hv))⟩, h2 b (List.mem_append.mpr (.inr (List.mem_singleton_self b)))⟩
    have h1 : r.length + 1 = n + 1 := h1
    omega
  · intro ⟨⟨h1, h2⟩, h3⟩
    refine ⟨by show r.length + 1 = n + 1; omega, fun v hv => ?_⟩
    rcases List.mem_append.mp hv with hv | hv
    · exact h2 v hv
    · rw [List.mem_singleton.mp hv]; exact h3
theorem isC_last {n : Nat} {c : List Int} (h : IsC (n + 1) c) : ∃ r b, c = r ++ [b] := by
  rcases List.eq_nil_or_concat c with z | ⟨r, b, z⟩
  · rw [z] at h; exact absurd h.1 (by simp)
  · exact ⟨r, b, by rw [z, List.concat_eq_append]⟩
theorem exts_mem : ∀ {n : Nat} {c : List Int}, c ∈ exts n ↔ IsC n c
  | 0, c => by
    unfold exts IsC
    rw [List.mem_singleton]
    constructor
    · rintro rfl; exact ⟨rfl, by simp⟩
    · exact fun h => List.length_eq_zero_iff.mp h.1
  | n + 1, c => by
    unfold exts
    rw [List.mem_flatMap]
    constructor
    · rintro ⟨r, hr, hc⟩
      have ih := exts_mem.mp hr
      simp only [List.mem_cons, List.not_mem_nil, or_false] at hc
      rcases hc with rfl | rfl
      · exact isC_snoc.mpr ⟨ih, .inl rfl⟩
      · exact isC_snoc.mpr ⟨ih, .inr rfl⟩
    · intro h
      obtain ⟨r, b, rfl⟩ := isC_last h
      obtain ⟨h1, h2⟩ := isC_snoc.mp h
      refine ⟨r, exts_mem.mpr h1, ?_⟩
      rcases h2 with rfl | rfl <;> simp
theorem lawC_mem : ∀ {n : Nat} {c : List Int}, c ∈ lawC n ↔ IsC n c
  | 0, c => exts_mem (n := 0)
  | n + 1, c => by
    unfold lawC
    rw [List.mem_append, List.mem_map, List.mem_map]
    constructor
    · rintro (⟨r, hr, rfl⟩ | ⟨r, hr, rfl⟩)
      · exact isC_snoc.mpr ⟨lawC_mem.mp hr, .inl rfl⟩
      · exact isC_snoc.mpr ⟨lawC_mem.mp hr, .inr rfl⟩
    · intro h
      obtain ⟨r, b, rfl⟩ := isC_last h
      obtain ⟨h1, h2⟩ := isC_snoc.mp h
      rcases h2 with rfl | rfl
      · exact .inl ⟨r, lawC_mem.mpr h1, rfl⟩
      · exact .inr ⟨r, lawC_mem.mpr h1, rfl⟩
theorem exts_len : ∀ n, (exts n).length = 2 ^ n
  | 0 => rfl
  | n + 1 => by
    have : ∀ l : List (List Int), (l.flatMap fun r => [r ++ [0], r ++ [1]]).length = l.length * 2 := by
      intro l
      induction l with
      | nil => rfl
      | cons x l ih => simp only [List.flatMap_cons, List.length_append, ih, List.length_cons, List.length_nil]; omega
    unfold exts
    rw [this, exts_len n, Nat.pow_succ]
theorem lawC_len : ∀ n, (lawC n).length = 2 ^ n
  | 0 => rfl
  | n + 1 => by
    unfold lawC
    rw [List.length_append, List.length_map, List.length_map, lawC_len n, Nat.pow_succ]
    omega
theorem pow_five {n : Nat} (h : n ≤ 5) : 2 ^ n ≤ 32 := Nat.pow_le_pow_right (by decide) h
theorem exts_le {n : Nat} (h : n ≤ 5) : (exts n).length ≤ 32 := by rw [exts_len]; exact pow_five h
theorem lawC_le {n : Nat} (h : n ≤ 5) : (lawC n).length ≤ 32 := by rw [lawC_len]; exact pow_five h
inductive G_all_cases : List Dt → Dt → Prop
  | mk (m : Int) (h0 : 0 ≤ m) (h : m ≤ 5) : G_all_cases [.int m] (eLL (exts m.toNat))
inductive G_fitting : List Dt → Dt → Prop
  | mk (xs : List (List Int)) (m : Int) (h0 : 0 ≤ m) (h : m ≤ 5) (hx : ∀ x ∈ xs, Say m x) : G_fitting [eLT xs, .int m] (eLL ((exts m.toNat).filter (allTrue xs)))
inductive G_L_cases : List Dt → Dt → Prop
  | mk (m : Int) (h0 : 0 ≤ m) (h : m ≤ 5) : G_L_cases [.int m] (eLL (srtR (lawC m.toNat)))
inductive G_L_fitting : List Dt → Dt → Prop
  | mk (xs : List (List Int)) (m : Int) (h0 : 0 ≤ m) (h : m ≤ 5) (hx : ∀ x ∈ xs, Say m x) : G_L_fitting [eLT xs, .int m] (eLL ((srtR (lawC m.toNat)).filter (allTrue xs)))
theorem Say.rngC {m : Int} {x c : List Int} {n : Nat} (h : Say m x) (hc : IsC n c) (e : m.toNat = n) (h0 : 0 ≤ m) : Rng c.length x := h.rng (by rw [hc.1]; omega)
inductive G_is_caseL : List Dt → Dt → Prop
  | mk (c : List Int) (m : Int) (h0 : 0 ≤ m) (hc : IsC m.toNat c) : G_is_caseL [eL c, .int m] (.bl true)
/-! ### the law's own putting in order -/
def keptOf (ps : List Int) : List (Int × Int) := ps.foldl (fun ks p => putI ks (p.natAbs : Int) p) []
def byT (ps : List Int) : List Int := (srt ((keptOf ps).map (·.1))).map fun t => (lookI (keptOf ps) t).getD 0
def KInv (Q : Int → Prop) (ks : List (Int × Int)) : Prop := (ks.map (·.1)).Nodup ∧ ∀ kv ∈ ks, kv.1 = (kv.2.natAbs : Int) ∧ Q kv.2
theorem kinv_put {Q : Int → Prop} {ks : List (Int × Int)} {p : Int} (h : KInv Q ks) (hp : Q p) : KInv Q (putI ks (p.natAbs : Int) p) :=
  ⟨putI_nodup h.1, fun kv hk => by
    rcases putI_mem hk with z | z
    · exact h.2 kv z
    · rw [z]; exact ⟨rfl, hp⟩⟩
theorem kinv_fold {Q : Int → Prop} : ∀ (ps : List Int) {ks : List (Int × Int)}, KInv Q ks → (∀ p ∈ ps, Q p) → KInv Q (ps.foldl (fun ks p => putI ks (p.natAbs : Int) p) ks)
  | [], _, h, _ => h
  | p :: ps, _, h, hp => kinv_fold ps (kinv_put h (hp p (List.mem_cons_self ..))) fun q hq => hp q (List.mem_cons_of_mem _ hq)
theorem kept_inv {Q : Int → Prop} {ps : List Int} (h : ∀ p ∈ ps, Q p) : KInv Q (keptOf ps) := kinv_fold ps ⟨List.nodup_nil, fun kv hk => by cases hk⟩ h
theorem kept_len (ps : List Int) : (keptOf ps).length ≤ ps.length := by
  suffices ∀ (ps : List Int) (ks : List (Int × Int)), (ps.foldl (fun ks p => putI ks (p.natAbs : Int) p) ks).length ≤ ks.length + ps.length by
    have := this ps []
    simpa [keptOf] using this
  intro ps
  induction ps with
  | nil => intro ks; exact Nat.le_refl _
  | cons p ps ih =>
    intro ks
    have h1 := ih (putI ks (p.natAbs : Int) p)
    have h2 := putI_len ks (p.natAbs : Int) p
    rw [List.length_cons]
    show (ps.foldl _ (putI ks (p.natAbs : Int) p)).length ≤ _
    omega
theorem byT_say {m : Int} {ps : List Int} (h : ∀ p ∈ ps, 0 < p.natAbs ∧ (p.natAbs : Int) ≤ m) : Say m (byT ps) := by
  obtain ⟨h1, h2⟩ := kept_inv h
  have look : ∀ t ∈ srt ((keptOf ps).map (·.1)), (((lookI (keptOf ps) t).getD 0).natAbs : Int) = t ∧ 0 < ((lookI (keptOf ps) t).getD 0).natAbs ∧ (((lookI (keptOf ps) t).getD 0).natAbs : Int) ≤ m := fun t ht => by
    obtain ⟨v, e, hv⟩ := lookI_mem (srt_mem.mp ht)
    have := h2 _ hv
    rw [e]
    exact ⟨this.1.symm, this.2⟩
  constructor
  · unfold byT
    rw [List.pairwise_map]
    refine (List.Pairwise.and_mem.mp (srt_lt h1)).imp fun ⟨ha, hb, hlt⟩ => ?_
    have := (look _ ha).1
    have := (look _ hb).1
    omega
  · intro p hp
    obtain ⟨t, ht, rfl⟩ := List.mem_map.mp hp
    exact (look t ht).2
inductive G_L_by_things : List Dt → Dt → Prop
  | mk (ps : List Int) (hl : ps.length ≤ 1000) : G_L_by_things [eL ps] (eT (byT ps))
end Sg
namespace Sg
open PySem L2 Fl
/-! ### all sayings, and the sharpest -/
def says : Nat → List (List Int)
  | 0 => [[]]
  | k + 1 => (says k).flatMap fun s => [s, s ++ [1 + (k : Int)], s ++ [-(1 + (k : Int))]]
theorem say_mono {m m' : Int} {s : List Int} (h : Say m s) (e : m ≤ m') : Say m' s := ⟨h.1, fun p hp => by have := h.2 p hp; omega⟩
theorem say_snoc {m : Int} {s : List Int} {p : Int} (h0 : 0 ≤ m) (h : Say m s) (e : (p.natAbs : Int) = m + 1) : Say (m + 1) (s ++ [p]) := by
  refine ⟨List.pairwise_append.mpr ⟨h.1, List.pairwise_singleton _ _, fun a ha b hb => ?_⟩, fun q hq => ?_⟩
  · rw [List.mem_singleton.mp hb]
    have := h.2 a ha
    omega
  · rcases List.mem_append.mp hq with hq | hq
    · have := h.2 q hq
      omega
    · rw [List.mem_singleton.mp hq]
      omega
theorem say_sub {m : Int} {s t : List Int} (h : Say m s) (e : t.Sublist s) : Say m t := ⟨h.1.sublist e, fun p hp => h.2 p (e.subset hp)⟩
theorem say_last {m : Int} {s : List Int} {p : Int} (h : Say m (s ++ [p])) : Say (p.natAbs - 1) s := by
  obtain ⟨h1, _, h2⟩ := List.pairwise_append.mp h.1
  refine ⟨h1, fun q hq => ?_⟩
  have := h2 q hq p (List.mem_singleton_self p)
  have := h.2 q (List.mem_append.mpr (.inl hq))
  omega
theorem says_mem : ∀ {n : Nat} {s : List Int}, s ∈ says n ↔ Say n s
  | 0, s => by
    unfold says
    rw [List.mem_singleton]
    constructor
    · rintro rfl; exact ⟨List.Pairwise.nil, fun p hp => by cases hp⟩
    · intro h
      cases s with
      | nil => rfl
      | cons p s => have := h.2 p (List.mem_cons_self ..); omega
  | n + 1, s => by
    unfold says
    rw [List.mem_flatMap]
    constructor
    · rintro ⟨t, ht, hs⟩
      have ih := says_mem.mp ht
      simp only [List.mem_cons, List.not_mem_nil, or_false] at hs
      rcases hs with rfl | rfl | rfl
      · exact say_mono ih (by omega)
      · exact say_snoc (by omega) ih (by omega)
      · exact say_snoc (by omega) ih (by omega)
    · intro h
      rcases List.eq_nil_or_concat s with z | ⟨t, p, z⟩
      · subst z
        exact ⟨[], says_mem.mpr ⟨List.Pairwise.nil, fun p hp => by cases hp⟩, by simp⟩
      · rw [List.concat_eq_append] at z
        subst z
        have hp := h.2 p (List.mem_append.mpr (.inr (List.mem_singleton_self p)))
        have hl := say_last h
        by_cases e : (p.natAbs : Int) = n + 1
        · refine ⟨t, says_mem.mpr (say_mono hl (by omega)), ?_⟩
          have : p = 1 + (n : Int) ∨ p = -(1 + (n : Int)) := by omega
          rcases this with rfl | rfl <;> simp
        · refine ⟨t ++ [p], says_mem.mpr ⟨h.1, fun q hq => ?_⟩, by simp⟩
          rcases List.mem_append.mp hq with hq | hq
          · have := hl.2 q hq
            omega
          · rw [List.mem_singleton.mp hq]
            omega
theorem say_nodup {m : Int} {s : List Int} (h : Say m s) : s.Nodup := h.1.imp fun h e => by rw [e] at h; exact absurd h (Nat.lt_irrefl _)
theorem say_eq {m : Int} {s t : List Int} (hs : Say m s) (ht : Say m t) (h1 : ∀ p ∈ s, p ∈ t) (h2 : ∀ p ∈ t, p ∈ s) : s = t :=
  List.Perm.eq_of_pairwise (fun a b _ _ x y => absurd x (Nat.lt_asymm y)) hs.1 ht.1 ((List.perm_ext_iff_of_nodup (say_nodup hs) (say_nodup ht)).mpr fun a => ⟨h1 a, h2 a⟩)
theorem says_nodup : ∀ n, (says n).Nodup
  | 0 => by simp [says]
  | n + 1 => by
    unfold says
    rw [List.Nodup, List.pairwise_flatMap]
    refine ⟨fun s hs => ?_, ?_⟩
    · simp
      omega
    · refine (List.Pairwise.and_mem.mp (says_nodup n)).imp fun {s t} ⟨hs, ht, hne⟩ => ?_
      have ks := says_mem.mp hs
      have kt := says_mem.mp ht
      have big : ∀ {u v : List Int} {p : Int}, Say n u → u = v ++ [p] → (p.natAbs : Int) = n + 1 → False := fun {u v p} hu e hp => by
        have := hu.2 p (by rw [e]; exact List.mem_append.mpr (.inr (List.mem_singleton_self p)))
        omega
      intro x hx y hy exy
      subst exy
      simp only [List.mem_cons, List.not_mem_nil, or_false] at hx hy
      rcases hx with rfl | rfl | rfl <;> rcases hy with e | e | e
      · exact hne e
      · exact big ks e (by omega)
      · exact big ks e (by omega)
      · exact big kt e.symm (by omega)
      · exact hne (List.append_cancel_right e)
      · have := (List.append_inj' e rfl).2
        simp at this
        omega
      · exact big kt e.symm (by omega)
      · have := (List.append_inj' e rfl).2
        simp at this
        omega
      · exact hne (List.append_cancel_right e)
def fol (K : List (List Int)) (s : List Int) : Bool := K.all fun c => trueIn c s
def hasP (s t : List Int) : Bool := t.all fun p => decide (p ∈ s)
def shStep (K : List (List Int)) (made : List (List Int)) (s : List Int) : List (List Int) := if (!(made.any fun t => hasP s t) && fol K s) = true then made ++ [s] else made
def shList (K : List (List Int)) (L : List (List Int)) : List (List Int) := L.foldl (shStep K) []
structure IsMin (K : List (List Int)) (m : Int) (s : List Int) : Prop where
  sy : Say m s
  fl : fol K s = true
  mi : ∀ t, Say m t → fol K t = true → (∀ p ∈ t, p ∈ s) → t = s
theorem hasP_iff {s t : List Int} : hasP s t = true ↔ ∀ p ∈ t, p ∈ s := by unfold hasP; simp
theorem say_filter {m : Int} {s t : List Int} (hs : Say m s) (ht : Say m t) (h : ∀ p ∈ t, p ∈ s) : t = s.filter fun p => decide (p ∈ t) :=
  say_eq ht (say_sub hs List.filter_sublist) (fun p hp => List.mem_filter.mpr ⟨h p hp, decide_eq_true hp⟩) fun p hp => by simpa using (List.mem_filter.mp hp).2
theorem sub_len {m : Int} {s t : List Int} (hs : Say m s) (ht : Say m t) (h : ∀ p ∈ t, p ∈ s) (hne : t ≠ s) : t.length < s.length := by
  have e := say_filter hs ht h
  have h1 : t.length ≤ s.length := by rw [e]; exact List.length_filter_le ..
  rcases Nat.lt_or_eq_of_le h1 with z | z
  · exact z
  · refine absurd (say_eq ht hs h fun p hp => ?_) hne
    rw [e, List.length_filter_eq_length_iff] at z
    simpa using z p hp
theorem min_ex {K : List (List Int)} {m : Int} : ∀ (n : Nat) {t : List Int}, t.length ≤ n → Say m t → fol K t = true → ∃ u, IsMin K m u ∧ ∀ p ∈ u, p ∈ t
  | 0, t, hn, ht, hf => by
    refine ⟨t, ⟨ht, hf, fun u hu _ hs => ?_⟩, fun p hp => hp⟩
    rcases Decidable.em (u = t) with z | z
    · exact z
    · have := sub_len ht hu hs z
      omega
  | n + 1, t, hn, ht, hf => by
    by_cases h : ∃ u, Say m u ∧ fol K u = true ∧ (∀ p ∈ u, p ∈ t) ∧ u ≠ t
    · obtain ⟨u, h1, h2, h3, h4⟩ := h
      have := sub_len ht h1 h3 h4
      obtain ⟨v, h5, h6⟩ := min_ex n (by omega) h1 h2
      exact ⟨v, h5, fun p hp => h3 p (h6 p hp)⟩
    · refine ⟨t, ⟨ht, hf, fun u hu hg hs => ?_⟩, fun p hp => hp⟩
      rcases Decidable.em (u = t) with z | z
      · exact z
      · exact absurd ⟨u, hu, hg, hs, z⟩ h
theorem sh_fold {K L : List (List Int)} {m : Int} (hm : ∀ s, s ∈ L ↔ Say m s) (hl : L.Pairwise fun a b => a.length ≤ b.length) (hd : L.Nodup) : ∀ (R P made : List (List Int)), P ++ R = L → made.Nodup → (∀ s, s ∈ made ↔ s ∈ P ∧ IsMin K m s) → (R.foldl (shStep K) made).Nodup ∧ ∀ s, s ∈ R.foldl (shStep K) made ↔ s ∈ L ∧ IsMin K m s
  | [], P, made, e, h1, h2 => by
    rw [List.append_nil] at e
    subst e
    exact ⟨h1, h2⟩
  | s :: R, P, made, e, h1, h2 => by
    have hs : Say m s := (hm s).mp (by rw [← e]; simp)
    have hsP : s ∉ P := fun z => by
      rw [← e, List.nodup_append] at hd
      exact hd.2.2 s z s (List.mem_cons_self ..) rfl
    have e' : (P ++ [s]) ++ R = L := by rw [← e]; simp
    have key : (!(made.any fun t => hasP s t) && fol K s) = true ↔ IsMin K m s := by
      rw [Bool.and_eq_true, Bool.not_eq_true', List.any_eq_false]
      constructor
      · intro ⟨k1, k2⟩
        refine ⟨hs, k2, fun t ht hf hsub => ?_⟩
        rcases Decidable.em (t = s) with z | z
        · exact z
        · exfalso
          obtain ⟨u, g1, g2⟩ := min_ex t.length (Nat.le_refl _) ht hf
          have lt := sub_len hs ht hsub z
          have lu : u.length ≤ t.length := by
            rcases Decidable.em (u = t) with y | y
            · rw [y]; exact Nat.le_refl _
            · exact Nat.le_of_lt (sub_len ht g1.sy g2 y)
          have hu : u ∈ L := (hm u).mpr g1.sy
          have huP : u ∈ P := by
            rw [← e] at hu hl
            rcases List.mem_append.mp hu with y | y
            · exact y
            · rcases List.mem_cons.mp y with y | y
              · rw [y] at lu; omega
              · have := (List.pairwise_cons.mp (List.pairwise_append.mp hl).2.1).1 u y
                omega
          exact k1 u ((h2 u).mpr ⟨huP, g1⟩) (hasP_iff.mpr fun p hp => hsub p (g2 p hp))
      · intro g
        refine ⟨fun t ht hp => ?_, g.fl⟩
        obtain ⟨y1, y2⟩ := (h2 t).mp ht
        have := g.mi t y2.sy y2.fl (hasP_iff.mp hp)
        rw [this] at y1
        exact hsP y1
    show ((R.foldl (shStep K) (shStep K made s)).Nodup ∧ ∀ x, x ∈ R.foldl (shStep K) (shStep K made s) ↔ x ∈ L ∧ IsMin K m x)
    unfold shStep
    by_cases hk : (!(made.any fun t => hasP s t) && fol K s) = true
    · rw [if_pos hk]
      refine sh_fold hm hl hd R (P ++ [s]) (made ++ [s]) e' ?_ fun x => ?_
      · rw [List.nodup_append]
        exact ⟨h1, by simp, fun a ha b hb => by rw [List.mem_singleton.mp hb]; exact fun z => hsP (z ▸ ((h2 a).mp ha).1)⟩
      · rw [List.mem_append, List.mem_append, h2 x, List.mem_singleton]
        constructor
        · rintro (⟨a, b⟩ | rfl)
          · exact ⟨.inl a, b⟩
          · exact ⟨.inr rfl, key.mp hk⟩
        · rintro ⟨a | rfl, b⟩
          · exact .inl ⟨a, b⟩
          · exact .inr rfl
    · rw [if_neg hk]
      refine sh_fold hm hl hd R (P ++ [s]) made e' h1 fun x => ?_
      rw [List.mem_append, h2 x, List.mem_singleton]
      constructor
      · exact fun ⟨a, b⟩ => ⟨.inl a, b⟩
      · rintro ⟨a | rfl, b⟩
        · exact ⟨a, b⟩
        · exact absurd (key.mpr b) hk
/-- removal of one part -/
def cutK (s : List Int) (k : Nat) : List Int := s.take k ++ s.drop (k + 1)
def dueB (K : List (List Int)) (s : List Int) : Bool := fol K s && !(((List.range s.length).map (cutK s)).any (fol K))
theorem fol_mono {K : List (List Int)} {s t : List Int} (h : ∀ p ∈ t, p ∈ s) (hf : fol K t = true) : fol K s = true := by
  unfold fol at hf ⊢
  rw [List.all_eq_true] at hf ⊢
  intro c hc
  obtain ⟨p, h1, h2⟩ := List.any_eq_true.mp (hf c hc)
  exact List.any_eq_true.mpr ⟨p, h p h1, h2⟩
theorem cutK_sub (s : List Int) (k : Nat) : (cutK s k).Sublist s := by
  have h := List.take_append_drop k s
  have : (s.take k ++ s.drop (k + 1)).Sublist (s.take k ++ s.drop k) := List.Sublist.append (List.Sublist.refl _) (by rw [← List.drop_drop]; exact List.drop_sublist ..)
  rw [h] at this
  exact this
theorem cutK_len {s : List Int} {k : Nat} (h : k < s.length) : (cutK s k).length + 1 = s.length := by
  unfold cutK
  rw [List.length_append, List.length_take, List.length_drop]
  omega
theorem due_min {K : List (List Int)} {m : Int} {s : List Int} (hs : Say m s) : dueB K s = true ↔ IsMin K m s := by
  unfold dueB
  rw [Bool.and_eq_true, Bool.not_eq_true', List.any_eq_false]
  constructor
  · intro ⟨h1, h2⟩
    refine ⟨hs, h1, fun t ht hf hsub => ?_⟩
    rcases Decidable.em (t = s) with z | z
    · exact z
    · exfalso
      have : ∃ p ∈ s, p ∉ t := Classical.byContradiction fun y => z (say_eq ht hs hsub fun p hp => Classical.byContradiction fun w => y ⟨p, hp, w⟩)
      obtain ⟨p, hp, hpt⟩ := this
      obtain ⟨k, hk, rfl⟩ := List.getElem_of_mem hp
      refine h2 (cutK s k) (List.mem_map.mpr ⟨k, List.mem_range.mpr hk, rfl⟩) (fol_mono (fun q hq => ?_) hf)
      have hqs := hsub q hq
      have e : s = s.take k ++ s[k] :: s.drop (k + 1) := by rw [← List.drop_eq_getElem_cons hk, List.take_append_drop]
      have hqs2 : q ∈ s.take k ++ s[k] :: s.drop (k + 1) := e ▸ hqs
      rcases List.mem_append.mp hqs2 with y | y
      · exact List.mem_append.mpr (.inl y)
      · rcases List.mem_cons.mp y with y | y
        · exact absurd (y ▸ hq) hpt
        · exact List.mem_append.mpr (.inr y)
  · intro g
    refine ⟨g.fl, fun t ht hf => ?_⟩
    obtain ⟨k, hk, rfl⟩ := List.mem_map.mp ht
    have hk := List.mem_range.mp hk
    have := g.mi _ (say_sub hs (cutK_sub s k)) hf fun p hp => (cutK_sub s k).subset hp
    have h2 := cutK_len hk
    rw [this] at h2
    omega
theorem sh_list {K : List (List Int)} {n : Nat} : (shList K (srtK (fun x => (x.length : Int)) (says n))).Nodup ∧ ∀ s, s ∈ shList K (srtK (fun x => (x.length : Int)) (says n)) ↔ IsMin K n s := by
  have p := srtK_perm (fun x : List Int => (x.length : Int)) (says n)
  have hm : ∀ s, s ∈ srtK (fun x : List Int => (x.length : Int)) (says n) ↔ Say n s := fun s => p.mem_iff.trans says_mem
  obtain ⟨h1, h2⟩ := sh_fold (K := K) hm ((srtK_pair _ _).imp fun h => by omega) (p.nodup_iff.mpr (says_nodup n)) _ [] [] rfl List.nodup_nil (fun s => by simp)
  exact ⟨h1, fun s => (h2 s).trans ⟨fun h => h.2, fun h => ⟨(hm s).mpr h.sy, h⟩⟩⟩
theorem sharp_due {K : List (List Int)} {n : Nat} : srtR (shList K (srtK (fun x => (x.length : Int)) (says n))) = srtR ((says n).filter (dueB K)) := by
  obtain ⟨h1, h2⟩ := sh_list (K := K) (n := n)
  refine srtR_of_perm ((List.perm_ext_iff_of_nodup h1 ((says_nodup n).filter _)).mpr fun s => ?_)
  rw [h2, List.mem_filter, says_mem]
  exact ⟨fun h => ⟨h.sy, (due_min h.sy).mpr h⟩, fun h => (due_min h.1).mp h.2⟩
theorem says_len : ∀ n, (says n).length = 3 ^ n
  | 0 => rfl
  | n + 1 => by
    have : ∀ l : List (List Int), (l.flatMap fun s => [s, s ++ [1 + (n : Int)], s ++ [-(1 + (n : Int))]]).length = l.length * 3 := by
      intro l
      induction l with
      | nil => rfl
      | cons x l ih => simp only [List.flatMap_cons, List.length_append, ih, List.length_cons, List.length_nil]; omega
    unfold says
    rw [this, says_len n, Nat.pow_succ]
theorem says_le {n : Nat} (h : n ≤ 5) : (says n).length ≤ 243 := by rw [says_len]; exact Nat.pow_le_pow_right (n := 3) (by decide) h
theorem say_len {n : Nat} {s : List Int} (h : Say n s) : s.length ≤ n := by
  suffices ∀ (s : List Int) (k : Nat), s.Pairwise (fun a b => a.natAbs < b.natAbs) → (∀ p ∈ s, k < p.natAbs ∧ p.natAbs ≤ n) → s.length + k ≤ n ∨ s = [] by
    rcases this s 0 h.1 (fun p hp => by have := h.2 p hp; omega) with z | z
    · omega
    · rw [z]; exact Nat.zero_le _
  intro s
  induction s with
  | nil => intro k _ _; exact .inr rfl
  | cons p s ih =>
    intro k h1 h2
    have hp := h2 p (List.mem_cons_self ..)
    rw [List.pairwise_cons] at h1
    rcases ih p.natAbs h1.2 (fun q hq => ⟨h1.1 q hq, (h2 q (List.mem_cons_of_mem _ hq)).2⟩) with z | z
    · left; rw [List.length_cons]; omega
    · left; rw [z]; show 1 + k ≤ n; omega
def knownOf (xs : List (List Int)) (n : Nat) : List (List Int) := (exts n).filter (allTrue xs)
inductive G_all_sayings : List Dt → Dt → Prop
  | mk (m : Int) (h0 : 0 ≤ m) (h : m ≤ 5) : G_all_sayings [.int m] (eLT (srtK (fun x => (x.length : Int)) (says m.toNat)))
inductive G_L_all_sayings : List Dt → Dt → Prop
  | mk (m : Int) (h0 : 0 ≤ m) (h : m ≤ 5) : G_L_all_sayings [.int m] (eLT (says m.toNat))
inductive G_has_parts : List Dt → Dt → Prop
  | mk (s t : List Int) : G_has_parts [eT s, eT t] (.bl (hasP s t))
inductive G_L_follows : List Dt → Dt → Prop
  | mk (K : List (List Int)) (s : List Int) (h : ∀ c ∈ K, Rng c.length s) : G_L_follows [eLL K, eT s] (.bl (fol K s))
def sharpOf (xs : List (List Int)) (n : Nat) : List (List Int) := srtR (shList (knownOf xs n) (srtK (fun x => (x.length : Int)) (says n)))
inductive G_sharpest_of : List Dt → Dt → Prop
  | mk (xs : List (List Int)) (m : Int) (h0 : 0 ≤ m) (h : m ≤ 5) (hx : ∀ x ∈ xs, Say m x) : G_sharpest_of [eLT xs, .int m] (eLT (sharpOf xs m.toNat))
inductive G_sharpest : List Dt → Dt → Prop
  | mk (xs : List (List Int)) (m : Int) (h0 : 1 ≤ m) (h : m ≤ 5) (hl : xs.length ≤ 24) (hx : ∀ x ∈ xs, Say m x) : G_sharpest [eLT xs, .int m] (eLT (sharpOf xs m.toNat))
def optC : Option (List Int) → Dt
  | none => .non
  | some c => eL c
def alikeOf (xs ys : List (List Int)) (n : Nat) : Option (List Int) := (exts n).find? fun c => !(allTrue xs c == allTrue ys c)
inductive G_alike : List Dt → Dt → Prop
  | mk (xs ys : List (List Int)) (m : Int) (h0 : 1 ≤ m) (h : m ≤ 5) (hl : xs.length ≤ 24) (hl2 : ys.length ≤ 24) (hx : ∀ x ∈ xs, Say m x) (hy : ∀ x ∈ ys, Say m x) : G_alike [eLT xs, eLT ys, .int m] (optC (alikeOf xs ys m.toNat))
theorem cut_take (s : List Int) (k : Nat) : cutD s none (some (k : Int)) = s.take k := by
  unfold cutD
  rw [HT.sIx_none, HT.sIx_nat, List.drop_zero, Nat.sub_zero, ← List.take_eq_take_min]
theorem cut_drop (s : List Int) (k : Nat) : cutD s (some ((k : Int) + 1)) none = s.drop (k + 1) := by
  unfold cutD
  rw [HT.sIx_none, show ((k : Int) + 1) = ((k + 1 : Nat) : Int) from rfl, HT.sIx_nat]
  rw [List.take_of_length_le (by rw [List.length_drop]; exact Nat.le_refl _)]
  rcases Nat.le_total (k + 1) s.length with h | h
  · rw [Nat.min_eq_left h]
  · rw [Nat.min_eq_right h, List.drop_length, List.drop_eq_nil_of_le h]
theorem cut_both (s : List Int) (k : Nat) : cutD s none (some (k : Int)) ++ cutD s (some ((k : Int) + 1)) none = cutK s k := by rw [cut_take, cut_drop]; rfl
theorem rep_flat {α : Type} (x : α) : ∀ n : Nat, (List.replicate n [x]).flatten = List.replicate n x
  | 0 => rfl
  | n + 1 => by rw [List.replicate_succ, List.flatten_cons, rep_flat x n]; rfl
end Sg
namespace Sg
open PySem L2 Fl
/-! ### things that may be sayings, and things that may be a number of things -/
inductive Th
  | tp (ds : List Dt)
  | ls (ds : List Dt)
  | nt (i : Int)
  | bo (b : Bool)
  | st (s : Str)
  | no
instance : Inhabited Th := ⟨.no⟩
def thD : Th → Dt
  | .tp ds => .tup ds
  | .ls ds => .lst ds
  | .nt i => .int i
  | .bo b => .bl b
  | .st s => .str s
  | .no => .non
def sayB (m : Int) : Th → Bool
  | .tp ds => sayD ds 0 m
  | _ => false
def OkTh : Th → Prop
  | .tp ds => (∀ d ∈ ds, Knd d) ∧ (∀ d ∈ ds, okn 5 d) ∧ ds.length ≤ 100
  | .ls ds => (∀ d ∈ ds, okn 5 d) ∧ ds.length ≤ 100
  | .st s => PyData.strOk s = true
  | _ => True
theorem okn_th {t : Th} (h : OkTh t) : okn 7 (thD t) := by
  have up : ∀ {d : Dt}, okn 5 d → okn 6 d := fun {d} h => ⟨h.1, Nat.le_succ_of_le h.2⟩
  cases t with
  | tp ds => exact okn_tup fun d hd => up (h.2.1 d hd)
  | ls ds => exact okn_lst fun d hd => up (h.1 d hd)
  | nt i => exact okn_int
  | bo b => exact okn_bl
  | st s => exact okn_str h
  | no => exact okn_non
theorem okn_up {m n : Nat} {d : Dt} (h : okn m d) (e : m ≤ n) : okn n d := ⟨h.1, Nat.le_trans h.2 e⟩
theorem say_th {t : Th} {m : Int} (h : OkTh t) : G_say [thD t, .int m] (.bl (sayB m t)) := by
  cases t with
  | tp ds => exact .tup ds m h.1
  | ls ds => exact .lst ds m
  | nt i => exact .int i m
  | bo b => exact .bl b m
  | st s => exact .str s m
  | no => exact .non m
abbrev tI (x : List Int) : Th := .tp (x.map .int)
theorem okI (x : List Int) (h : x.length ≤ 100) : OkTh (tI x) := ⟨fun d hd => by obtain ⟨i, _, rfl⟩ := List.mem_map.mp hd; exact knd_int, fun d hd => by obtain ⟨i, _, rfl⟩ := List.mem_map.mp hd; exact okn_int, by rw [List.length_map]; exact h⟩
/-- sayings, or what was given for them -/
inductive Tg
  | li (ts : List Th)
  | tu (ds : List Dt)
  | no
instance : Inhabited Tg := ⟨.no⟩
def tgD : Tg → Dt
  | .li ts => .lst (ts.map thD)
  | .tu ds => .tup ds
  | .no => .non
def OkTg : Tg → Prop
  | .li ts => (∀ t ∈ ts, OkTh t) ∧ ts.length ≤ 100
  | _ => True
def areB (g : Tg) (c : Th) : Bool :=
  match c with
  | .nt m => decide (1 ≤ m) && decide (m ≤ 16) && (match g with
    | .li ts => decide (ts.length ≤ 24) && ts.all (sayB m)
    | _ => false)
  | _ => false
/-- none that can be asked -/
def CtK : Th → Prop
  | .tp _ => False
  | .ls _ => False
  | .st s => PyData.strOk s = true
  | _ => True
theorem sayD_ints {m : Int} : ∀ {ds : List Dt} {last : Int}, sayD ds last m = true → ∃ x : List Int, ds = x.map .int
  | [], _, _ => ⟨[], rfl⟩
  | .int p :: ds, last, h => by
    rw [sayD] at h
    split at h
    · cases h
    · obtain ⟨x, rfl⟩ := sayD_ints h
      exact ⟨p :: x, rfl⟩
  | .non :: _, _, h => by cases h
  | .bl _ :: _, _, h => by cases h
  | .str _ :: _, _, h => by cases h
  | .lst _ :: _, _, h => by cases h
  | .tup _ :: _, _, h => by cases h
  | .dct _ :: _, _, h => by cases h
  | .scr _ :: _, _, h => by cases h
  | .ty _ :: _, _, h => by cases h
  | .dcl _ :: _, _, h => by cases h
  | .adr _ :: _, _, h => by cases h
theorem sayB_ints {m : Int} {t : Th} (h : sayB m t = true) : ∃ x : List Int, t = tI x ∧ Say m x := by
  cases t with
  | tp ds =>
    obtain ⟨x, rfl⟩ := sayD_ints h
    exact ⟨x, rfl, say_of h⟩
  | _ => cases h
theorem all_ints {m : Int} : ∀ {ts : List Th}, (∀ t ∈ ts, sayB m t = true) → ∃ xs : List (List Int), ts = xs.map tI ∧ ∀ x ∈ xs, Say m x
  | [], _ => ⟨[], rfl, fun x hx => by cases hx⟩
  | t :: ts, h => by
    obtain ⟨x, rfl, hx⟩ := sayB_ints (h t (List.mem_cons_self ..))
    obtain ⟨xs, rfl, hxs⟩ := all_ints fun u hu => h u (List.mem_cons_of_mem _ hu)
    refine ⟨x :: xs, rfl, fun y hy => ?_⟩
    rcases List.mem_cons.mp hy with rfl | hy
    · exact hx
    · exact hxs y hy
theorem are_true {g : Tg} {c : Th} (h : areB g c = true) : ∃ (m : Int) (xs : List (List Int)), c = .nt m ∧ g = .li (xs.map tI) ∧ 1 ≤ m ∧ m ≤ 16 ∧ xs.length ≤ 24 ∧ ∀ x ∈ xs, Say m x := by
  unfold areB at h
  cases c with
  | nt m =>
    cases g with
    | li ts =>
      simp only [Bool.and_eq_true, decide_eq_true_eq] at h
      obtain ⟨⟨h1, h2⟩, h3, h4⟩ := h
      obtain ⟨xs, rfl, hx⟩ := all_ints fun t ht => List.all_eq_true.mp h4 t ht
      rw [List.length_map] at h3
      exact ⟨m, xs, rfl, rfl, h1, h2, h3, hx⟩
    | tu _ => simp at h
    | no => simp at h
  | _ => cases h
theorem eLT_tI (xs : List (List Int)) : eLT xs = .lst ((xs.map tI).map thD) := by
  unfold eLT
  rw [List.map_map]
  rfl
inductive G_checkedN : List Dt → List Dt → Prop
  | mk (xs : List (List Int)) (m : Int) (h1 : 1 ≤ m) (h2 : m ≤ 16) (h3 : xs.length ≤ 24) (h : ∀ x ∈ xs, Say m x) : G_checkedN [eLT xs, .int m] (xs.map eT)
inductive GX_checked : List Dt → Str → Prop
  | mk (g : Tg) (c : Th) (hg : OkTg g) (hc : CtK c) (h : areB g c = false) : GX_checked [tgD g, thD c] (Str.ofString "NoSayings")
inductive G_are_sayings : List Dt → Dt → Prop
  | mk (g : Tg) (c : Th) (hg : OkTg g) (hc : CtK c) : G_are_sayings [tgD g, thD c] (.bl (areB g c))
inductive G_refused : List Dt → Dt → Prop
  | mk (g : Tg) (c : Th) (hg : OkTg g) (hc : CtK c) (h : areB g c = false) : G_refused [tgD g, thD c] (.bl true)
/-! ### the spoilt ones -/
theorem cutD_le {α : Type} (xs : List α) (lo hi : Option Int) : (cutD xs lo hi).length ≤ xs.length := by
  unfold cutD
  rw [List.length_take, List.length_drop]
  omega
theorem cutD_sub {α : Type} (xs : List α) (lo hi : Option Int) : ∀ x ∈ cutD xs lo hi, x ∈ xs := fun x h => List.mem_of_mem_drop (List.mem_of_mem_take h)
def spL (x : List Int) (m : Int) : List Th :=
  [.ls (x.map .int), tI x.reverse, tI (x ++ cutD x (some (-1)) none), tI (x ++ [m + 1]), tI (x ++ [-m - 1]), tI ([0] ++ x), tI [1, -1], .tp [.bl true], .tp [.str (Str.ofString "1")], .no, .nt 1, tI [2, 1], .tp (x.map .int ++ [.non]), tI [-1]]
inductive G_spoilt_saying : List Dt → Dt → Prop
  | mk (x : List Int) (m cell : Int) (hx : x.length ≤ 20) (h0 : 0 ≤ cell) : G_spoilt_saying [eT x, .int m, .int cell] (thD (atZ (spL x m) (cell % 14)))
theorem spL_ok {x : List Int} {m cell : Int} (hx : x.length ≤ 20) : OkTh (atZ (spL x m) (cell % 14)) := by
  have hm := Int.emod_nonneg cell (by decide : (14 : Int) ≠ 0)
  have hm2 := Int.emod_lt_of_pos cell (by decide : (0 : Int) < 14)
  have hall : ∀ t ∈ spL x m, OkTh t := by
    have one : ∀ y : List Int, y.length ≤ 100 → OkTh (tI y) := okI
    have hc : (cutD x (some (-1)) none).length ≤ 20 := by
      have := cutD_le x (some (-1)) none
      omega
    intro t ht
    simp only [spL, List.mem_cons, List.not_mem_nil, or_false] at ht
    rcases ht with rfl | rfl | rfl | rfl | rfl | rfl | rfl | rfl | rfl | rfl | rfl | rfl | rfl | rfl
    · exact ⟨fun d hd => by obtain ⟨i, _, rfl⟩ := List.mem_map.mp hd; exact okn_int, by rw [List.length_map]; omega⟩
    · exact one _ (by rw [List.length_reverse]; omega)
    · exact one _ (by rw [List.length_append]; omega)
    · exact one _ (by rw [List.length_append, List.length_singleton]; omega)
    · exact one _ (by rw [List.length_append, List.length_singleton]; omega)
    · exact one _ (by rw [List.length_append, List.length_singleton]; omega)
    · exact one _ (by show 2 ≤ 100; decide)
    · exact ⟨fun d hd => by rw [List.mem_singleton.mp hd]; exact knd_bl, fun d hd => by rw [List.mem_singleton.mp hd]; exact okn_bl, by show 1 ≤ 100; decide⟩
    · exact ⟨fun d hd => by rw [List.mem_singleton.mp hd]; exact knd_str, fun d hd => by rw [List.mem_singleton.mp hd]; exact okn_str (by decide +kernel), by show 1 ≤ 100; decide⟩
    · trivial
    · trivial
    · exact one _ (by show 2 ≤ 100; decide)
    · refine ⟨fun d hd => ?_, fun d hd => ?_, by rw [List.length_append, List.length_map, List.length_singleton]; omega⟩
      · rcases List.mem_append.mp hd with hd | hd
        · obtain ⟨i, _, rfl⟩ := List.mem_map.mp hd; exact knd_int
        · rw [List.mem_singleton.mp hd]; exact knd_non
      · rcases List.mem_append.mp hd with hd | hd
        · obtain ⟨i, _, rfl⟩ := List.mem_map.mp hd; exact okn_int
        · rw [List.mem_singleton.mp hd]; exact okn_non
    · exact one _ (by show 1 ≤ 100; decide)
  exact hall _ (atZ_mem hm (by show cell % 14 < ((14 : Nat) : Int); exact hm2))
def spG (xs : List (List Int)) (m cell : Int) : Tg × Th :=
  if cell % 4 = 0 then (atZ [.tu (xs.map eT), .li (List.replicate 25 (tI [])), .no, .li (List.replicate 24 (tI []))] (cell / 4 % 4), .nt m)
  else if cell % 4 = 1 then (.li (xs.map tI), atZ [.nt 0, .nt 17, .bo true, .st (Str.ofString "2"), .no, .nt (m + 1), .nt 16] (cell / 4 % 7))
  else (.li ((cutD xs none (some (cell / 4 % ((xs.length : Nat) + 1)))).map tI ++ [atZ (spL (atZ (xs ++ [[1]]) (cell / 4 % ((xs.length : Nat) + 1))) m) (cell / 40 % 14)] ++ (cutD xs (some (cell / 4 % ((xs.length : Nat) + 1) + 1)) none).map tI), .nt m)
inductive G_spoilt : List Dt → Dt → Prop
  | mk (xs : List (List Int)) (m cell : Int) (hl : xs.length ≤ 9) (hx : ∀ x ∈ xs, x.length ≤ 3) (h0 : 0 ≤ cell) (hm : 1 ≤ m ∧ m ≤ 5) : G_spoilt [eLT xs, .int m, .int cell] (.tup [tgD (spG xs m cell).1, thD (spG xs m cell).2])
theorem spG_ok {xs : List (List Int)} {m cell : Int} (hl : xs.length ≤ 9) (hx : ∀ x ∈ xs, x.length ≤ 3) : OkTg (spG xs m cell).1 ∧ CtK (spG xs m cell).2 := by
  have e1 : OkTg (.li (xs.map tI)) := ⟨fun t ht => by obtain ⟨x, h, rfl⟩ := List.mem_map.mp ht; exact okI x (by have := hx x h; omega), by rw [List.length_map]; omega⟩
  have rep : ∀ n, n ≤ 100 → OkTg (.li (List.replicate n (tI []))) := fun n hn => ⟨fun t ht => by rw [List.eq_of_mem_replicate ht]; exact okI [] (by decide), by rw [List.length_replicate]; exact hn⟩
  unfold spG
  split
  · refine ⟨?_, trivial⟩
    have h1 := Int.emod_nonneg (cell / 4) (by decide : (4 : Int) ≠ 0)
    have h2 := Int.emod_lt_of_pos (cell / 4) (by decide : (0 : Int) < 4)
    have := atZ_mem (xs := [Tg.tu (xs.map eT), .li (List.replicate 25 (tI [])), .no, .li (List.replicate 24 (tI []))]) h1 (by show _ < ((4 : Nat) : Int); exact h2)
    simp only [List.mem_cons, List.not_mem_nil, or_false] at this
    rcases this with h | h | h | h <;> rw [h]
    · trivial
    · exact rep 25 (by decide)
    · trivial
    · exact rep 24 (by decide)
  · split
    · refine ⟨e1, ?_⟩
      have h1 := Int.emod_nonneg (cell / 4) (by decide : (7 : Int) ≠ 0)
      have h2 := Int.emod_lt_of_pos (cell / 4) (by decide : (0 : Int) < 7)
      have := atZ_mem (xs := [Th.nt 0, .nt 17, .bo true, .st (Str.ofString "2"), .no, .nt (m + 1), .nt 16]) h1 (by show _ < ((7 : Nat) : Int); exact h2)
      simp only [List.mem_cons, List.not_mem_nil, or_false] at this
      rcases this with h | h | h | h | h | h | h <;> rw [h]
      · trivial
      · trivial
      · trivial
      · show PyData.strOk _ = true; decide +kernel
      · trivial
      · trivial
      · trivial
    · refine ⟨⟨fun t ht => ?_, ?_⟩, trivial⟩
      · have b1 := Int.emod_nonneg (cell / 4) (b := ((xs.length : Nat) : Int) + 1) (by omega)
        have b2 := Int.emod_lt_of_pos (cell / 4) (b := ((xs.length : Nat) : Int) + 1) (by omega)
        have hy : (atZ (xs ++ [[1]]) (cell / 4 % (((xs.length : Nat) : Int) + 1))).length ≤ 3 := by
          have := atZ_mem (xs := xs ++ [[1]]) b1 (by rw [List.length_append]; show _ < ((xs.length + 1 : Nat) : Int); omega)
          rcases List.mem_append.mp this with h | h
          · exact hx _ h
          · rw [List.mem_singleton.mp h]; decide
        rcases List.mem_append.mp ht with ht | ht
        · rcases List.mem_append.mp ht with ht | ht
          · obtain ⟨x, h, rfl⟩ := List.mem_map.mp ht
            exact okI x (by have := hx x (cutD_sub _ _ _ x h); omega)
          · rw [List.mem_singleton.mp ht]
            exact spL_ok (by omega)
        · obtain ⟨x, h, rfl⟩ := List.mem_map.mp ht
          exact okI x (by have := hx x (cutD_sub _ _ _ x h); omega)
      · have c1 := cutD_le xs none (some (cell / 4 % (((xs.length : Nat) : Int) + 1)))
        have c2 := cutD_le xs (some (cell / 4 % (((xs.length : Nat) : Int) + 1) + 1)) none
        rw [List.length_append, List.length_append, List.length_map, List.length_map]
        show _ + 1 + _ ≤ _
        omega
def isL : Tg → Bool
  | .li _ => true
  | _ => false
end Sg
namespace Sg
open PySem L2 Fl
/-! ### data that is made of ints, truth values, texts, nothing, tuples and lists -/
mutual
def goodD : Dt → Bool
  | .non => true
  | .bl _ => true
  | .int _ => true
  | .str s => PyData.strOk s
  | .tup ds => goodA ds
  | .lst ds => goodA ds
  | _ => false
def goodA : List Dt → Bool
  | [] => true
  | d :: ds => goodD d && goodA ds
end
theorem good_knd {d : Dt} (h : goodD d = true) : Knd d := by
  cases d with
  | non => exact knd_non
  | bl _ => exact knd_bl
  | int _ => exact knd_int
  | str _ => exact knd_str
  | tup _ => exact knd_tup
  | lst _ => exact knd_lst
  | dct _ => cases h
  | scr _ => cases h
  | ty _ => cases h
  | dcl _ => cases h
  | adr _ => cases h
theorem good_mem : ∀ {ds : List Dt} {d : Dt}, goodA ds = true → d ∈ ds → goodD d = true
  | e :: ds, d, h, hd => by
    rw [goodA, Bool.and_eq_true] at h
    rcases List.mem_cons.mp hd with rfl | hd
    · exact h.1
    · exact good_mem h.2 hd
/-! ### spoilt cases -/
inductive Cs
  | li (ds : List Dt)
  | tu (ds : List Dt)
  | no
def csD : Cs → Dt
  | .li ds => .lst ds
  | .tu ds => .tup ds
  | .no => .non
def bitB : Dt → Bool
  | .int i => decide (0 ≤ i) && decide (i ≤ 1)
  | _ => false
def caseB (m : Int) : Cs → Bool
  | .li ds => decide ((ds.length : Int) = m) && ds.all bitB
  | _ => false
def OkCs : Cs → Prop
  | .li ds => goodA ds = true
  | _ => True
inductive G_is_caseB : List Dt → Dt → Prop
  | mk (b : Cs) (m : Int) (h : OkCs b) : G_is_caseB [csD b, .int m] (.bl (caseB m b))
inductive GX_need_case : List Dt → Str → Prop
  | mk (b : Cs) (m : Int) (h : OkCs b) (hb : caseB m b = false) : GX_need_case [csD b, .int m] (Str.ofString "NoCase")
def toI : Dt → Int
  | .int i => i
  | _ => 0
theorem cop_ge0 {Y : Cx} {x : Dt} (h : isI x = true) : Cop Y .LtE (.int 0) x (decide (0 ≤ toI x)) := by
  cases x <;> first | exact c_le | cases h
theorem cop_le1 {Y : Cx} {x : Dt} (h : isI x = true) : Cop Y .LtE x (.int 1) (decide (toI x ≤ 1)) := by
  cases x <;> first | exact c_le | cases h
theorem bit_is (x : Dt) : (isI x && (decide (0 ≤ toI x) && decide (toI x ≤ 1))) = bitB x := by
  cases x <;> rfl
/-! ### spoilt kinds -/
inductive Kd
  | li (ds : List Dt)
  | tu (ds : List Dt)
  | st (s : Str)
  | no
def kdD : Kd → Dt
  | .li ds => .lst ds
  | .tu ds => .tup ds
  | .st s => .str s
  | .no => .non
def kindB : Dt → Bool
  | .str s => decide (s = Str.ofString "some") || decide (s = Str.ofString "all")
  | _ => false
def kindsB (m : Int) : Kd → Bool
  | .li ds => decide ((ds.length : Int) = m) && ds.all kindB
  | _ => false
def OkKd : Kd → Prop
  | .li ds => goodA ds = true
  | _ => True
inductive GX_need_kinds : List Dt → Str → Prop
  | mk (b : Kd) (m : Int) (h : OkKd b) (hb : kindsB m b = false) : GX_need_kinds [kdD b, .int m] (Str.ofString "NoKinds")
/-! ### spoilt sentences -/
def wT : Str := Str.ofString "thing"
def wN : Str := Str.ofString "not"
def szG : Nat → Dt → Int → Int → Int
  | 0, _, _, room => room + 1
  | n + 1, d, m, room => if room < 1 then room + 1 else
    match d with
    | .tup [.str w, x] => if w = Str.ofString "thing" then (match x with
        | .int i => if 1 ≤ i ∧ i ≤ m then 1 else room + 1
        | _ => room + 1)
      else if w = Str.ofString "not" then 1 + szG n x m (room - 1) else room + 1
    | .tup [.str w, x, y] => if w = Str.ofString "and" ∨ w = Str.ofString "or" then
        (if room - 1 < szG n x m (room - 1) then room + 1 else 1 + szG n x m (room - 1) + szG n y m (room - 1 - szG n x m (room - 1))) else room + 1
    | _ => room + 1
inductive G_sizeG (n : Nat) : List Dt → Dt → Prop
  | mk (d : Dt) (m room : Int) (hn : room < n) (h : goodD d = true) : G_sizeG n [d, .int m, .int room] (.int (szG n d m room))
def thing1 : Dt := .tup [.str (Str.ofString "thing"), .int 1]
inductive G_need_th : List Dt → Dt → Prop
  | mk (m : Int) (h1 : 1 ≤ m) (h2 : m ≤ 5) : G_need_th [thing1, .int m] .non
def fewB : Th → Bool
  | .nt m => decide (1 ≤ m) && decide (m ≤ 5)
  | _ => false
inductive GX_need_sen : List Dt → Str → Prop
  | many (d : Dt) (t : Th) (hc : CtK t) (h : fewB t = false) : GX_need_sen [d, thD t] (Str.ofString "NoSentence")
  | sen (d : Dt) (m : Int) (h1 : 1 ≤ m) (h2 : m ≤ 5) (h : goodD d = true) (hs : 12 < szG 13 d m 12) : GX_need_sen [d, .int m] (Str.ofString "NoSentence")
inductive GX_is_true : List Dt → Str → Prop
  | many (d x : Dt) (t : Th) (hc : CtK t) (h : fewB t = false) : GX_is_true [d, thD t, x] (Str.ofString "NoSentence")
  | sen (d x : Dt) (m : Int) (h1 : 1 ≤ m) (h2 : m ≤ 5) (h : goodD d = true) (hs : 12 < szG 13 d m 12) : GX_is_true [d, .int m, x] (Str.ofString "NoSentence")
  | case (b : Cs) (m : Int) (h1 : 1 ≤ m) (h2 : m ≤ 5) (h : OkCs b) (hb : caseB m b = false) : GX_is_true [thing1, .int m, csD b] (Str.ofString "NoCase")
/-! ### what takes sayings -/
inductive GX_al : List Dt → Str → Prop
  | one (g : Tg) (c : Th) (hg : OkTg g) (hc : CtK c) (h : areB g c = false) : GX_al [tgD g, .lst [], thD c] (Str.ofString "NoSayings")
  | two (g : Tg) (c : Th) (hg : OkTg g) (hc : CtK c) (h : areB g c = false) : GX_al [.lst [], tgD g, thD c] (Str.ofString "NoSayings")
inductive GX_fits : List Dt → Str → Prop
  | say (g : Tg) (c : Th) (x : Dt) (hg : OkTg g) (hc : CtK c) (h : areB g c = false) : GX_fits [tgD g, thD c, x] (Str.ofString "NoSayings")
  | case (b : Cs) (m : Int) (h1 : 1 ≤ m) (h2 : m ≤ 5) (h : OkCs b) (hb : caseB m b = false) : GX_fits [.lst [], .int m, csD b] (Str.ofString "NoCase")
inductive GX_follows : List Dt → Str → Prop
  | say (g : Tg) (c : Th) (x : Dt) (hg : OkTg g) (hc : CtK c) (h : areB g c = false) : GX_follows [tgD g, thD c, x] (Str.ofString "NoSayings")
  | one (t : Th) (m : Int) (h1 : 1 ≤ m) (h2 : m ≤ 5) (h : OkTh t) (hb : sayB m t = false) : GX_follows [.lst [], .int m, thD t] (Str.ofString "NoSaying")
def thingB (m : Int) : Th → Bool
  | .nt i => decide (1 ≤ i) && decide (i ≤ m)
  | _ => false
inductive GX_forgotten : List Dt → Str → Prop
  | say (g : Tg) (c : Th) (x : Dt) (hg : OkTg g) (hc : CtK c) (h : areB g c = false) : GX_forgotten [tgD g, thD c, x] (Str.ofString "NoSayings")
  | thing (t : Th) (m : Int) (h1 : 1 ≤ m) (h2 : m ≤ 5) (h : CtK t) (hb : thingB m t = false) : GX_forgotten [.lst [], .int m, thD t] (Str.ofString "NoThing")
inductive GX_played : List Dt → Str → Prop
  | say (g : Tg) (c : Th) (x : Dt) (hg : OkTg g) (hc : CtK c) (h : areB g c = false) : GX_played [tgD g, thD c, x] (Str.ofString "NoSayings")
  | kinds (b : Kd) (m : Int) (h1 : 1 ≤ m) (h2 : m ≤ 5) (h : OkKd b) (hb : kindsB m b = false) : GX_played [.lst [], .int m, kdD b] (Str.ofString "NoKinds")
inductive GX_with_sayings : List Dt → Str → Prop
  | mk (w : Int) (g : Tg) (c : Th) (h0 : 0 ≤ w) (h1 : w ≤ 13) (hg : OkTg g) (hc : CtK c) (h : areB g c = false) : GX_with_sayings [.int w, tgD g, thD c] (Str.ofString "NoSayings")
/-- the other ways -/
inductive Oth : Int → Dt → Int → Str → Prop
  | w1 (b : Cs) (m : Int) (h1 : 1 ≤ m) (h2 : m ≤ 5) (h : OkCs b) (hb : caseB m b = false) : Oth 1 (csD b) m (Str.ofString "NoCase")
  | w2 (b : Cs) (m : Int) (h1 : 1 ≤ m) (h2 : m ≤ 5) (h : OkCs b) (hb : caseB m b = false) : Oth 2 (csD b) m (Str.ofString "NoCase")
  | w3 (t : Th) (m : Int) (h1 : 1 ≤ m) (h2 : m ≤ 5) (h : OkTh t) (hb : sayB m t = false) : Oth 3 (thD t) m (Str.ofString "NoSaying")
  | w4 (t : Th) (m : Int) (h1 : 1 ≤ m) (h2 : m ≤ 5) (h : CtK t) (hb : thingB m t = false) : Oth 4 (thD t) m (Str.ofString "NoThing")
  | w5 (b : Kd) (m : Int) (h1 : 1 ≤ m) (h2 : m ≤ 5) (h : OkKd b) (hb : kindsB m b = false) : Oth 5 (kdD b) m (Str.ofString "NoKinds")
  | w6 (d : Dt) (m : Int) (h1 : 1 ≤ m) (h2 : m ≤ 5) (h : goodD d = true) (hs : 12 < szG 13 d m 12) : Oth 6 d m (Str.ofString "NoSentence")
  | w7 (d : Dt) (m : Int) (h1 : 1 ≤ m) (h2 : m ≤ 5) (h : goodD d = true) (hs : 12 < szG 13 d m 12) : Oth 7 d m (Str.ofString "NoSentence")
  | w8 (t : Th) (m : Int) (h1 : 1 ≤ m) (h2 : m ≤ 5) (h : CtK t) (hb : fewB t = false) : Oth 8 (thD t) m (Str.ofString "NoSentence")
  | w9 (t : Th) (m : Int) (h1 : 1 ≤ m) (h2 : m ≤ 5) (h : CtK t) (hb : fewB t = false) : Oth 9 (thD t) m (Str.ofString "NoSentence")
inductive GX_with_other : List Dt → Str → Prop
  | mk (w : Int) (d x : Dt) (m : Int) (n : Str) (h : Oth w d m n) : GX_with_other [.int w, d, .int m, x] n
inductive GX_asked : List Dt → Str → Prop
  | say (w : Int) (g : Tg) (c : Th) (x : Dt) (h0 : 0 ≤ w) (h1 : w ≤ 13) (hg : OkTg g) (hc : CtK c) (h : areB g c = false) : GX_asked [.int 0, .int w, tgD g, thD c, x] (Str.ofString "NoSayings")
  | oth (w v : Int) (d x : Dt) (m : Int) (n : Str) (h : Oth w d m n) : GX_asked [.int w, .int v, d, .int m, x] n
def dueW (w : Int) : Int := atZ [0, 1, 1, 2, 3, 4, 5, 5, 5, 5] w
inductive G_kind : List Dt → Dt → Prop
  | say (w : Int) (g : Tg) (c : Th) (x : Dt) (h0 : 0 ≤ w) (h1 : w ≤ 13) (hg : OkTg g) (hc : CtK c) (h : areB g c = false) : G_kind [.int 0, .int w, tgD g, thD c, x] (.int 0)
  | oth (w v : Int) (d x : Dt) (m : Int) (n : Str) (h : Oth w d m n) : G_kind [.int w, .int v, d, .int m, x] (.int (dueW w))
inductive G_by_base : List Dt → Dt → Prop
  | say (w : Int) (g : Tg) (c : Th) (x : Dt) (h0 : 0 ≤ w) (h1 : w ≤ 13) (hg : OkTg g) (hc : CtK c) (h : areB g c = false) : G_by_base [.int 0, .int w, tgD g, thD c, x] (.bl true)
  | oth (w v : Int) (d x : Dt) (m : Int) (n : Str) (h : Oth w d m n) : G_by_base [.int w, .int v, d, .int m, x] (.bl true)
theorem cop_leL {Y : Cx} {j : Int} {x : Dt} (h : isI x = true) : Cop Y .LtE (.int j) x (decide (j ≤ toI x)) := by
  cases x <;> first | exact c_le | cases h
theorem cop_leR {Y : Cx} {j : Int} {x : Dt} (h : isI x = true) : Cop Y .LtE x (.int j) (decide (toI x ≤ j)) := by
  cases x <;> first | exact c_le | cases h
theorem wneG : ¬ (Str.ofString "thing" = Str.ofString "not") ∧ ¬ (Str.ofString "thing" = Str.ofString "and") ∧ ¬ (Str.ofString "thing" = Str.ofString "or") ∧ ¬ (Str.ofString "not" = Str.ofString "thing") ∧ ¬ (Str.ofString "not" = Str.ofString "and") ∧ ¬ (Str.ofString "not" = Str.ofString "or") ∧ ¬ (Str.ofString "and" = Str.ofString "thing") ∧ ¬ (Str.ofString "and" = Str.ofString "not") ∧ ¬ (Str.ofString "and" = Str.ofString "or") ∧ ¬ (Str.ofString "or" = Str.ofString "thing") ∧ ¬ (Str.ofString "or" = Str.ofString "not") ∧ ¬ (Str.ofString "or" = Str.ofString "and") := by decide +kernel
theorem szG_low {n : Nat} {d : Dt} {m room : Int} (h : room < 1) : szG n d m room = room + 1 := by
  cases n with
  | zero => rfl
  | succ n => simp [szG, h]
theorem szG_pos : ∀ (n : Nat) (d : Dt) (m room : Int), 0 ≤ room → 1 ≤ szG n d m room
  | 0, _, _, _, h => by show (1 : Int) ≤ _ + 1; omega
  | n + 1, d, m, room, h => by
    unfold szG
    split
    · omega
    · rename_i h1
      split
      · split
        · split
          · split <;> omega
          · omega
        · split
          · rename_i x _ _
            have := szG_pos n x m (room - 1) (by omega)
            omega
          · omega
      · rename_i w x y
        split
        · split
          · omega
          · have h2 := szG_pos n x m (room - 1) (by omega)
            have h3 := szG_pos n y m (room - 1 - szG n x m (room - 1)) (by omega)
            omega
        · omega
      · omega
/-! ### the spoilt ones -/
def notsD : Nat → Dt
  | 0 => thing1
  | n + 1 => .tup [.str (Str.ofString "not"), notsD n]
def andsD : Nat → Dt
  | 0 => thing1
  | n + 1 => .tup [.str (Str.ofString "and"), andsD n, thing1]
abbrev sD (x : String) : Dt := .str (Str.ofString x)
def bsL (m : Int) : List Dt :=
  [.non, sD "thing", .tup [sD "thing", .int 0], .tup [sD "thing", .int (m + 1)], .tup [sD "thing", .bl true], .tup [sD "thing", sD "1"], .tup [sD "thing"],
   .tup [sD "thing", .int 1, .int 1], .tup [sD "not", thing1, thing1], .tup [sD "not"], .tup [sD "and", thing1], .tup [sD "or", thing1, thing1, thing1], .tup [sD "also", thing1, thing1],
   .lst [sD "thing", .int 1], .tup [sD "and", thing1, .non], .tup [sD "or", .tup [sD "thing", .int 0], thing1], .tup [.int 1, thing1], .tup [], notsD 12, andsD 6]
theorem bsL_bad : ∀ m ∈ ([1, 2, 3, 4, 5] : List Int), ∀ d ∈ bsL m, goodD d = true ∧ 12 < szG 13 d m 12 := by decide +kernel
instance : Inhabited Dt := ⟨.non⟩
inductive G_bad_sentence : List Dt → Dt → Prop
  | mk (m cell : Int) (h1 : 1 ≤ m) (h2 : m ≤ 5) (h0 : 0 ≤ cell) : G_bad_sentence [.int m, .int cell] (atZ (bsL m) (cell % 20))
def bcL (m : Int) (c : List Int) : List Cs :=
  [.tu (c.map .int), .li ((c ++ [0]).map .int), .li ((cutD c (some 1) none).map .int), .li ((cutD c none (some (-1)) ++ [2]).map .int), .li (.bl true :: (cutD c (some 1) none).map .int),
   .li (sD "0" :: (cutD c (some 1) none).map .int), .no, .li ((cutD c none (some (-1)) ++ [-1]).map .int)]
def btL (m : Int) : List Th := [.ls [.int 1], tI [0], tI [m + 1], tI [1, 1], tI [1, -1], .tp [.bl true], .tp [sD "1"], .no, tI [2, 1], .nt 1]
def bnL (m : Int) : List Th := [.nt 0, .nt (m + 1), .nt (-1), .bo true, .st (Str.ofString "1"), .no]
def somesL (m : Int) : List Dt := List.replicate m.toNat (sD "some")
def bkL (m : Int) : List Kd :=
  [.tu (somesL m), .li (somesL m ++ [sD "all"]), .li (cutD (somesL m) (some 1) none), .li (sD "none" :: cutD (somesL m) (some 1) none), .li (.non :: cutD (somesL m) (some 1) none), .no, .st (Str.ofString "some"),
   .li (cutD (somesL m) (some 1) none ++ [.int 0]), .li (cutD (somesL m) (some 1) none ++ [sD "so"])]
def bmL : List Th := [.nt 0, .nt 6, .bo true, .no, .st (Str.ofString "1"), .nt (-1)]
instance : Inhabited Cs := ⟨.no⟩
instance : Inhabited Kd := ⟨.no⟩
inductive Bad (m : Int) (c : List Int) (cell : Int) : Int → Dt → Prop
  | c1 : Bad m c cell 1 (csD (atZ (bcL m c) (cell % 8)))
  | c2 : Bad m c cell 2 (csD (atZ (bcL m c) (cell % 8)))
  | s : Bad m c cell 3 (thD (atZ (btL m) (cell % 10)))
  | t : Bad m c cell 4 (thD (atZ (bnL m) (cell % 6)))
  | k : Bad m c cell 5 (kdD (atZ (bkL m) (cell % 9)))
  | e6 : Bad m c cell 6 (atZ (bsL m) (cell % 20))
  | e7 : Bad m c cell 7 (atZ (bsL m) (cell % 20))
  | m8 : Bad m c cell 8 (thD (atZ bmL (cell % 6)))
  | m9 : Bad m c cell 9 (thD (atZ bmL (cell % 6)))
inductive G_bad : List Dt → Dt → Prop
  | mk (w m : Int) (c : List Int) (cell : Int) (d : Dt) (h1 : 1 ≤ m) (h2 : m ≤ 5) (hl : (c.length : Int) = m) (h0 : 0 ≤ cell) (h : Bad m c cell w d) : G_bad [.int w, .int m, eL c, .int cell] d
theorem somes_all {m : Int} (h1 : 1 ≤ m) (h2 : m ≤ 5) : ∀ b ∈ bkL m, kindsB m b = false ∧ (match b with | .li ds => goodA ds | _ => true) = true := by
  have : m = 1 ∨ m = 2 ∨ m = 3 ∨ m = 4 ∨ m = 5 := by omega
  rcases this with rfl | rfl | rfl | rfl | rfl <;> decide +kernel
theorem bt_all {m : Int} (h1 : 1 ≤ m) (h2 : m ≤ 5) : ∀ b ∈ btL m, sayB m b = false := by
  have : m = 1 ∨ m = 2 ∨ m = 3 ∨ m = 4 ∨ m = 5 := by omega
  rcases this with rfl | rfl | rfl | rfl | rfl <;> decide +kernel
theorem bn_all {m : Int} (h1 : 1 ≤ m) (h2 : m ≤ 5) : ∀ b ∈ bnL m, thingB m b = false := by
  have : m = 1 ∨ m = 2 ∨ m = 3 ∨ m = 4 ∨ m = 5 := by omega
  rcases this with rfl | rfl | rfl | rfl | rfl <;> decide +kernel
theorem bm_all : ∀ b ∈ bmL, fewB b = false := by decide +kernel
theorem good_ints : ∀ (c : List Int), goodA (c.map .int) = true
  | [] => rfl
  | _ :: c => by rw [List.map_cons, goodA, good_ints c]; rfl
theorem cut_tl {α : Type} (c : List α) : cutD c (some 1) none = c.drop 1 := by
  unfold cutD HT.sIx
  cases c with
  | nil => simp
  | cons x c =>
    have e : min 1 (c.length + 1) = 1 := by omega
    simp [e]
theorem cut_dl {α : Type} (c : List α) : cutD c none (some (-1)) = c.take (c.length - 1) := by
  unfold cutD HT.sIx
  have e : min (-1 + (c.length : Int)).toNat c.length = c.length - 1 := by omega
  simp [e]
theorem bc_all {m : Int} {c : List Int} (h1 : 1 ≤ m) (hl : (c.length : Int) = m) : ∀ b ∈ bcL m c, caseB m b = false ∧ OkCs b := by
  intro b hb
  simp only [bcL, List.mem_cons, List.not_mem_nil, or_false] at hb
  rcases hb with rfl | rfl | rfl | rfl | rfl | rfl | rfl | rfl
  · exact ⟨rfl, trivial⟩
  · refine ⟨?_, good_ints _⟩
    show (decide (_ = m) && _) = false
    rw [decide_eq_false (by rw [List.length_map, List.length_append, List.length_singleton]; omega)]; rfl
  · refine ⟨?_, good_ints _⟩
    show (decide (_ = m) && _) = false
    rw [decide_eq_false (by rw [List.length_map, cut_tl, List.length_drop]; omega)]; rfl
  · refine ⟨?_, good_ints _⟩
    show (_ && List.all _ bitB) = false
    rw [List.map_append, List.all_append]
    simp [bitB]
  · refine ⟨?_, by rw [OkCs, goodA, good_ints]; rfl⟩
    show (_ && List.all _ bitB) = false
    rw [List.all_cons]
    simp [bitB]
  · refine ⟨?_, by rw [OkCs, goodA, good_ints]; decide +kernel⟩
    show (_ && List.all _ bitB) = false
    rw [List.all_cons]
    simp [bitB]
  · exact ⟨rfl, trivial⟩
  · refine ⟨?_, good_ints _⟩
    show (_ && List.all _ bitB) = false
    rw [List.map_append, List.all_append]
    simp [bitB]
theorem bad_oth {m : Int} {c : List Int} {cell w : Int} {d : Dt} (h1 : 1 ≤ m) (h2 : m ≤ 5) (hl : (c.length : Int) = m) (h : Bad m c cell w d) : ∃ n, Oth w d m n := by
  have r : ∀ k : Int, 0 < k → 0 ≤ cell % k ∧ cell % k < k := fun k hk => ⟨Int.emod_nonneg _ (by omega), Int.emod_lt_of_pos _ hk⟩
  have hm : m ∈ ([1, 2, 3, 4, 5] : List Int) := by
    have : m = 1 ∨ m = 2 ∨ m = 3 ∨ m = 4 ∨ m = 5 := by omega
    rcases this with rfl | rfl | rfl | rfl | rfl <;> decide
  cases h with
  | c1 => have z := bc_all h1 hl _ (atZ_mem (r 8 (by decide)).1 (by show _ < ((8 : Nat) : Int); exact (r 8 (by decide)).2)); exact ⟨_, .w1 _ m h1 h2 z.2 z.1⟩
  | c2 => have z := bc_all h1 hl _ (atZ_mem (r 8 (by decide)).1 (by show _ < ((8 : Nat) : Int); exact (r 8 (by decide)).2)); exact ⟨_, .w2 _ m h1 h2 z.2 z.1⟩
  | s =>
    have hx := atZ_mem (xs := btL m) (r 10 (by decide)).1 (by show _ < ((10 : Nat) : Int); exact (r 10 (by decide)).2)
    have z := bt_all h1 h2 _ hx
    refine ⟨_, .w3 _ m h1 h2 ?_ z⟩
    generalize atZ (btL m) (cell % 10) = t at hx
    simp only [btL, List.mem_cons, List.not_mem_nil, or_false] at hx
    rcases hx with rfl | rfl | rfl | rfl | rfl | rfl | rfl | rfl | rfl | rfl
    · exact ⟨fun d hd => by rw [List.mem_singleton.mp hd]; exact okn_int, by show 1 ≤ 100; decide⟩
    · exact okI _ (by show 1 ≤ 100; decide)
    · exact okI _ (by show 1 ≤ 100; decide)
    · exact okI _ (by show 2 ≤ 100; decide)
    · exact okI _ (by show 2 ≤ 100; decide)
    · exact ⟨fun d hd => by rw [List.mem_singleton.mp hd]; exact knd_bl, fun d hd => by rw [List.mem_singleton.mp hd]; exact okn_bl, by show 1 ≤ 100; decide⟩
    · exact ⟨fun d hd => by rw [List.mem_singleton.mp hd]; exact knd_str, fun d hd => by rw [List.mem_singleton.mp hd]; exact okn_str (by decide +kernel), by show 1 ≤ 100; decide⟩
    · trivial
    · exact okI _ (by show 2 ≤ 100; decide)
    · trivial
  | t =>
    have hx := atZ_mem (xs := bnL m) (r 6 (by decide)).1 (by show _ < ((6 : Nat) : Int); exact (r 6 (by decide)).2)
    have z := bn_all h1 h2 _ hx
    refine ⟨_, .w4 _ m h1 h2 ?_ z⟩
    generalize atZ (bnL m) (cell % 6) = t at hx
    simp only [bnL, List.mem_cons, List.not_mem_nil, or_false] at hx
    rcases hx with rfl | rfl | rfl | rfl | rfl | rfl <;> first | trivial | (show PyData.strOk _ = true; decide +kernel)
  | k =>
    have z := somes_all h1 h2 _ (atZ_mem (r 9 (by decide)).1 (by show _ < ((9 : Nat) : Int); exact (r 9 (by decide)).2))
    refine ⟨_, .w5 _ m h1 h2 ?_ z.1⟩
    have z := z.2
    generalize atZ (bkL m) (cell % 9) = t at z
    cases t <;> first | exact z | trivial
  | e6 => have z := bsL_bad m hm _ (atZ_mem (r 20 (by decide)).1 (by show _ < ((20 : Nat) : Int); exact (r 20 (by decide)).2)); exact ⟨_, .w6 _ m h1 h2 z.1 z.2⟩
  | e7 => have z := bsL_bad m hm _ (atZ_mem (r 20 (by decide)).1 (by show _ < ((20 : Nat) : Int); exact (r 20 (by decide)).2)); exact ⟨_, .w7 _ m h1 h2 z.1 z.2⟩
  | m8 =>
    have hx := atZ_mem (xs := bmL) (r 6 (by decide)).1 (by show _ < ((6 : Nat) : Int); exact (r 6 (by decide)).2)
    have z := bm_all _ hx
    refine ⟨_, .w8 _ m h1 h2 ?_ z⟩
    generalize atZ bmL (cell % 6) = t at hx
    simp only [bmL, List.mem_cons, List.not_mem_nil, or_false] at hx
    rcases hx with rfl | rfl | rfl | rfl | rfl | rfl <;> first | trivial | (show PyData.strOk _ = true; decide +kernel)
  | m9 =>
    have hx := atZ_mem (xs := bmL) (r 6 (by decide)).1 (by show _ < ((6 : Nat) : Int); exact (r 6 (by decide)).2)
    have z := bm_all _ hx
    refine ⟨_, .w9 _ m h1 h2 ?_ z⟩
    generalize atZ bmL (cell % 6) = t at hx
    simp only [bmL, List.mem_cons, List.not_mem_nil, or_false] at hx
    rcases hx with rfl | rfl | rfl | rfl | rfl | rfl <;> first | trivial | (show PyData.strOk _ = true; decide +kernel)
theorem bad_cs {m : Int} {c : List Int} {cell w : Int} {d : Dt} (h1 : 1 ≤ m) (hl : (c.length : Int) = m) (h : Bad m c cell w d) (hw : w = 1 ∨ w = 2) : ∃ b, d = csD b ∧ caseB m b = false ∧ OkCs b := by
  have r : ∀ k : Int, 0 < k → 0 ≤ cell % k ∧ cell % k < k := fun k hk => ⟨Int.emod_nonneg _ (by omega), Int.emod_lt_of_pos _ hk⟩
  cases h with
  | c1 => exact ⟨_, rfl, bc_all h1 hl _ (atZ_mem (r 8 (by decide)).1 (by show _ < ((8 : Nat) : Int); exact (r 8 (by decide)).2))⟩
  | c2 => exact ⟨_, rfl, bc_all h1 hl _ (atZ_mem (r 8 (by decide)).1 (by show _ < ((8 : Nat) : Int); exact (r 8 (by decide)).2))⟩
  | _ => exact absurd hw (by decide)
theorem bad_w {m : Int} {c : List Int} {cell w : Int} {d : Dt} (h : Bad m c cell w d) : 1 ≤ w ∧ w ≤ 9 := by cases h <;> decide
theorem bad_ex {m : Int} {c : List Int} {cell w : Int} (h1 : 1 ≤ w) (h2 : w ≤ 9) : ∃ d, Bad m c cell w d := by
  have : w = 1 ∨ w = 2 ∨ w = 3 ∨ w = 4 ∨ w = 5 ∨ w = 6 ∨ w = 7 ∨ w = 8 ∨ w = 9 := by omega
  rcases this with rfl | rfl | rfl | rfl | rfl | rfl | rfl | rfl | rfl
  · exact ⟨_, .c1⟩
  · exact ⟨_, .c2⟩
  · exact ⟨_, .s⟩
  · exact ⟨_, .t⟩
  · exact ⟨_, .k⟩
  · exact ⟨_, .e6⟩
  · exact ⟨_, .e7⟩
  · exact ⟨_, .m8⟩
  · exact ⟨_, .m9⟩
/-! ### the first way -/
def bgL (xs : List (List Int)) (m : Int) : List Tg :=
  [.tu (xs.map eT), .li (xs.map tI ++ List.replicate 25 (tI [])), .no, .li (xs.map tI ++ [tI [0]]), .li (tI [m + 1] :: xs.map tI)]
def bmM : List Th := [.nt 0, .nt 17, .bo true, .st (Str.ofString "1"), .no]
def way0 (xs : List (List Int)) (m cell : Int) : Tg × Th :=
  if cell % 5 = 4 ∧ cell / 5 % 2 = 1 then (.li (xs.map tI), atZ bmM (cell / 10 % 5)) else (atZ (bgL xs m) (cell % 5), .nt m)
theorem way0_ok {xs : List (List Int)} {m cell : Int} (hl : xs.length ≤ 9) (hx : ∀ x ∈ xs, x.length ≤ 3) (h1 : 1 ≤ m) (h2 : m ≤ 5) : OkTg (way0 xs m cell).1 ∧ CtK (way0 xs m cell).2 ∧ areB (way0 xs m cell).1 (way0 xs m cell).2 = false := by
  have r : ∀ j k : Int, 0 < k → 0 ≤ j % k ∧ j % k < k := fun j k hk => ⟨Int.emod_nonneg _ (by omega), Int.emod_lt_of_pos _ hk⟩
  have ex : ∀ t ∈ xs.map tI, OkTh t := fun t ht => by obtain ⟨x, h, rfl⟩ := List.mem_map.mp ht; exact okI x (by have := hx x h; omega)
  unfold way0
  split
  · have hz := atZ_mem (xs := bmM) (r (cell / 10) 5 (by decide)).1 (by show _ < ((5 : Nat) : Int); exact (r (cell / 10) 5 (by decide)).2)
    generalize atZ bmM (cell / 10 % 5) = t at hz
    refine ⟨⟨ex, by rw [List.length_map]; omega⟩, ?_⟩
    simp only [bmM, List.mem_cons, List.not_mem_nil, or_false] at hz
    rcases hz with rfl | rfl | rfl | rfl | rfl
    · exact ⟨trivial, rfl⟩
    · exact ⟨trivial, rfl⟩
    · exact ⟨trivial, rfl⟩
    · exact ⟨by show PyData.strOk _ = true; decide +kernel, rfl⟩
    · exact ⟨trivial, rfl⟩
  · have hz := atZ_mem (xs := bgL xs m) (r cell 5 (by decide)).1 (by show _ < ((5 : Nat) : Int); exact (r cell 5 (by decide)).2)
    generalize atZ (bgL xs m) (cell % 5) = g at hz
    simp only [bgL, List.mem_cons, List.not_mem_nil, or_false] at hz
    rcases hz with rfl | rfl | rfl | rfl | rfl
    · exact ⟨trivial, trivial, by simp [areB]⟩
    · refine ⟨⟨fun t ht => ?_, by rw [List.length_append, List.length_map, List.length_replicate]; omega⟩, trivial, ?_⟩
      · rcases List.mem_append.mp ht with ht | ht
        · exact ex t ht
        · rw [List.eq_of_mem_replicate ht]; exact okI [] (by decide)
      · unfold areB
        dsimp only
        rw [decide_eq_false (p := List.length _ ≤ 24) (by rw [List.length_append, List.length_replicate]; omega)]
        simp
    · exact ⟨trivial, trivial, by simp [areB]⟩
    · refine ⟨⟨fun t ht => ?_, by rw [List.length_append, List.length_map, List.length_singleton]; omega⟩, trivial, ?_⟩
      · rcases List.mem_append.mp ht with ht | ht
        · exact ex t ht
        · rw [List.mem_singleton.mp ht]; exact okI [0] (by decide)
      · unfold areB
        dsimp only
        rw [List.all_append]
        simp [sayB, sayD]
    · refine ⟨⟨fun t ht => ?_, by rw [List.length_cons, List.length_map]; omega⟩, trivial, ?_⟩
      · rcases List.mem_cons.mp ht with rfl | ht
        · exact okI _ (by show 1 ≤ 100; decide)
        · exact ex t ht
      · unfold areB
        dsimp only
        rw [List.all_cons]
        have : sayB m (tI [m + 1]) = false := by
          simp [sayB, sayD]
          omega
        rw [this]
        simp
theorem good_tup {d : Dt} (h : goodD d = true) : (∃ ds, d = .tup ds) ∨ (Isi d "tuple" false ∧ ∀ (n : Nat) (m room : Int), szG (n + 1) d m room = room + 1) := by
  cases d with
  | tup ds => exact .inl ⟨ds, rfl⟩
  | non => exact .inr ⟨.nt, fun n m room => by simp [szG]⟩
  | bl b => exact .inr ⟨.bt, fun n m room => by simp [szG]⟩
  | int i => exact .inr ⟨.it, fun n m room => by simp [szG]⟩
  | str s => exact .inr ⟨.st, fun n m room => by simp [szG]⟩
  | lst ds => exact .inr ⟨.lt, fun n m room => by simp [szG]⟩
  | dct _ => cases h
  | scr _ => cases h
  | ty _ => cases h
  | dcl _ => cases h
  | adr _ => cases h
theorem good_str {x : Dt} (h : goodD x = true) : (∃ w, x = .str w) ∨ (Isi x "str" false ∧ ∀ (n : Nat) (y : Dt) (r : List Dt) (m room : Int), szG (n + 1) (.tup (x :: y :: r)) m room = room + 1) := by
  cases x with
  | str w => exact .inl ⟨w, rfl⟩
  | non => exact .inr ⟨.ns, fun n y r m room => by simp [szG]⟩
  | bl b => exact .inr ⟨.bs, fun n y r m room => by simp [szG]⟩
  | int i => exact .inr ⟨.is, fun n y r m room => by simp [szG]⟩
  | tup ds => exact .inr ⟨.ts, fun n y r m room => by simp [szG]⟩
  | lst ds => exact .inr ⟨.ls, fun n y r m room => by simp [szG]⟩
  | dct _ => cases h
  | scr _ => cases h
  | ty _ => cases h
  | dcl _ => cases h
  | adr _ => cases h
theorem sz_short {ds : List Dt} (h : ds.length < 2) (n : Nat) (m room : Int) : szG (n + 1) (.tup ds) m room = room + 1 := by
  match ds, h with
  | [], _ => simp [szG]
  | [x], _ => simp [szG]
theorem bad_lt {m cell w : Int} {c : List Int} {d : Dt} (h : Bad m c cell w d) (hw : w < 3) : d = csD (atZ (bcL m c) (cell % 8)) := by
  cases h <;> first | rfl | exact absurd hw (by decide)
theorem bad_3 {m cell w : Int} {c : List Int} {d : Dt} (h : Bad m c cell w d) (hw : w = 3) : d = thD (atZ (btL m) (cell % 10)) := by
  cases h <;> first | rfl | exact absurd hw (by decide)
theorem bad_4 {m cell w : Int} {c : List Int} {d : Dt} (h : Bad m c cell w d) (hw : w = 4) : d = thD (atZ (bnL m) (cell % 6)) := by
  cases h <;> first | rfl | exact absurd hw (by decide)
theorem bad_5 {m cell w : Int} {c : List Int} {d : Dt} (h : Bad m c cell w d) (hw : w = 5) : d = kdD (atZ (bkL m) (cell % 9)) := by
  cases h <;> first | rfl | exact absurd hw (by decide)
theorem bad_6 {m cell w : Int} {c : List Int} {d : Dt} (h : Bad m c cell w d) (h1 : ¬ w < 3) (h3 : ¬ w = 3) (h4 : ¬ w = 4) (h5 : ¬ w = 5) (hw : w < 8) : d = atZ (bsL m) (cell % 20) := by
  cases h <;> first | rfl | exact absurd hw (by decide) | exact absurd (by decide) h1 | exact absurd rfl h3 | exact absurd rfl h4 | exact absurd rfl h5
theorem bad_8 {m cell w : Int} {c : List Int} {d : Dt} (h : Bad m c cell w d) (hw : ¬ w < 8) : d = thD (atZ bmL (cell % 6)) := by
  cases h <;> first | rfl | exact absurd (by decide) hw
theorem and_len2 {w v : Str} {a y : Dt} {r : List Dt} : (decide (w = v) && decide ((((a :: y :: r).length : Nat) : Int) = 2)) = true ↔ w = v ∧ r = [] := by
  rw [Bool.and_eq_true, decide_eq_true_eq, decide_eq_true_eq]
  refine and_congr_right fun _ => ?_
  cases r with
  | nil => simp
  | cons z r =>
    simp
    omega
theorem and_len3 {w u v : Str} {a y : Dt} {r : List Dt} : (decide (w ∈ [u, v]) && decide ((((a :: y :: r).length : Nat) : Int) = 3)) = true ↔ (w = u ∨ w = v) ∧ ∃ z, r = [z] := by
  rw [Bool.and_eq_true, decide_eq_true_eq, decide_eq_true_eq]
  have : w ∈ [u, v] ↔ w = u ∨ w = v := by simp
  rw [this]
  refine and_congr_right fun _ => ?_
  match r with
  | [] => simp
  | [z] => simp
  | z :: z2 :: r =>
    simp
    omega
theorem sz_else {n : Nat} {w : Str} {y : Dt} {r : List Dt} {m room : Int} (h1 : ¬ room < 1) (q1 : ¬ (w = Str.ofString "thing" ∧ r = [])) (q2 : ¬ (w = Str.ofString "not" ∧ r = [])) (q3 : ¬ ((w = Str.ofString "and" ∨ w = Str.ofString "or") ∧ ∃ z, r = [z])) : szG (n + 1) (.tup (.str w :: y :: r)) m room = room + 1 := by
  match r with
  | [] =>
    have a : ¬ w = Str.ofString "thing" := fun z => q1 ⟨z, rfl⟩
    have b : ¬ w = Str.ofString "not" := fun z => q2 ⟨z, rfl⟩
    simp [szG, h1, a, b]
  | [z] =>
    have a : ¬ (w = Str.ofString "and" ∨ w = Str.ofString "or") := fun e => q3 ⟨e, z, rfl⟩
    simp [szG, h1, a]
  | z :: z2 :: r => simp [szG, h1]
end Sg
open PySem L2 Fl
local macro_rules | `(tactic| walk_at "cx") => `(tactic| first | (with_reducible assumption) | ((with_reducible apply Bd.cxt); (with_reducible assumption)))
local macro_rules | `(tactic| walk_at "ok") => `(tactic| repeat' first
  | (with_reducible exact okn_int) | (with_reducible exact okn_bl) | (with_reducible exact okn_non) | (with_reducible exact okn_scr) | (with_reducible exact all_nil) | (with_reducible assumption)
  | (with_reducible apply okn_lst) | (with_reducible apply okn_tup) | ((with_reducible apply okn_str); (try decide +kernel)) | ((with_reducible show ∀ d, d ∈ _ → okn _ d); (first | ((with_reducible apply all_map); intro _ _) | (with_reducible apply all_cons) | (with_reducible apply all_app))))
local macro_rules | `(tactic| walk_at "op") => `(tactic| first
  | (with_reducible exact c_inS) | (with_reducible exact c_ninS) | (with_reducible apply bf_str) | (with_reducible apply bf_lenS) | ((with_reducible apply i_str0); (with_reducible assumption)) | (with_reducible apply i_str)
  | (with_reducible exact b_ten6) | (with_reducible exact b_add) | (with_reducible exact b_sub)
  | (with_reducible exact c_lt) | (with_reducible exact c_le) | (with_reducible exact c_gt) | (with_reducible exact c_ge)
  | (with_reducible exact c_eqI) | (with_reducible exact c_neI) | (with_reducible exact c_eqB) | (with_reducible exact c_neB) | (with_reducible exact c_eqS) | (with_reducible exact c_neS)
  | (with_reducible exact c_isN) | (with_reducible exact c_notN)
  | (with_reducible exact c_isB) | (with_reducible exact c_notB)
  | (with_reducible exact c_inL) | (with_reducible exact c_inT) | (with_reducible exact c_ninL) | (with_reducible exact c_ninT)
  | ((with_reducible apply c_inDB); (walk_at "cx")) | ((with_reducible apply c_ninDB); (walk_at "cx")) | ((with_reducible apply c_inDclB); (walk_at "cx"))
  | ((with_reducible apply c_inDI); (walk_at "cx")) | ((with_reducible apply c_ninDI); (walk_at "cx")) | ((with_reducible apply c_inDcl); (walk_at "cx")) | ((with_reducible apply c_inD); (walk_at "cx")) | ((with_reducible apply c_ninD); (walk_at "cx"))
  | (with_reducible apply b_mul) | (with_reducible apply b_mod) | (with_reducible apply b_div) | (with_reducible apply b_catS) | (with_reducible apply b_catTM) | ((with_reducible show Bop _ Operator.Add (Dt.tup _) (Dt.tup _) _); (first | (apply b_catT1) | (with_reducible apply b_catT)))
  | (with_reducible apply bn_catLM) | ((with_reducible show BopN _ Operator.Add (Dt.lst _) (Dt.lst _) _); (first | (apply bn_catL1) | (with_reducible apply bn_catL))) | (with_reducible apply Sg.bn_repI) | (with_reducible apply bn_rep)
  | ((with_reducible apply b_of); (first | (with_reducible apply bn_catLM) | (apply bn_catL1) | (with_reducible apply bn_catL) | (with_reducible apply Sg.bn_repI) | (with_reducible apply bn_rep)))
  | (with_reducible exact Sg.i_coc) | (with_reducible exact i_tup0) | (with_reducible exact i_tup1) | (with_reducible exact i_tup2) | (with_reducible exact i_lst0) | (with_reducible exact i_lst1) | (with_reducible exact i_two) | (with_reducible apply i_bit) | (with_reducible apply i_lstE) | (with_reducible apply i_lstM) | (with_reducible apply i_tupM) | (with_reducible apply i_scr) | (with_reducible apply i_lst) | (with_reducible apply i_tup) | ((with_reducible apply i_dctI); (walk_at "cx")) | ((with_reducible apply i_dct); (walk_at "cx"))
  | (with_reducible exact bf_lenLM) | (with_reducible exact bf_lenTM) | (with_reducible exact bf_lenL) | (with_reducible exact bf_lenT) | (with_reducible exact bf_lenC) | (with_reducible exact bf_abs) | (with_reducible exact bf_intB) | (with_reducible apply bf_intS)
  | ((with_reducible apply bf_all); (walk_at "cx")) | ((with_reducible apply bf_any); (walk_at "cx"))
  | ((with_reducible apply bf_maxZ); (walk_at "cx")) | ((with_reducible apply Sg.bf_minB); (walk_at "cx")) | ((with_reducible apply Sg.bf_maxB); (walk_at "cx"))
  | (with_reducible exact bfn_listL) | (with_reducible exact bfn_listT) | (with_reducible exact bf_tupL) | (with_reducible exact bf_tupT) | (with_reducible exact bfn_sortI) | (with_reducible exact bfn_sortTI) | (with_reducible exact bfn_sortIM) | ((with_reducible apply bfn_listD); (walk_at "cx"))
  | ((with_reducible apply bfn_sortL); (walk_at "cx")) | ((with_reducible apply bfn_sortT); (walk_at "cx"))
  | ((with_reducible apply bf_of); (with_reducible apply bfn_sortL); (walk_at "cx")) | ((with_reducible apply bf_of); (with_reducible apply bfn_sortT); (walk_at "cx"))
  | (with_reducible exact bf_of bfn_listL) | (with_reducible exact bf_of bfn_listT) | (with_reducible exact bf_of bfn_sortI) | (with_reducible exact bf_of bfn_sortTI) | (with_reducible exact bf_of bfn_sortIM) | ((with_reducible apply bf_of); (with_reducible apply bfn_listD); (walk_at "cx"))
  | ((with_reducible apply bf_isk); constructor)
  | (with_reducible exact c_in2) | (with_reducible exact c_nin2)
  | ((with_reducible apply bf_allM); (walk_at "cx")) | ((with_reducible apply bf_anyM); (walk_at "cx"))
  | (with_reducible apply b_smul)
  | ((with_reducible apply c_eqA); (walk_at "cx"); (walk_at "ok")) | ((with_reducible apply c_neA); (walk_at "cx"); (walk_at "ok")))
local macro_rules | `(tactic| walk_at "e") => `(tactic| first
  | (with_reducible exact ev_int) | (with_reducible exact ev_bl) | (with_reducible exact ev_str) | (with_reducible exact ev_non)
  | ((with_reducible apply eb_name); (with_reducible assumption); (with_reducible assumption); rfl; decide +kernel)
  | ((with_reducible apply eb_nameF); (with_reducible assumption); (with_reducible assumption); rfl; decide +kernel)
  | ((with_reducible apply eb_nameD); (with_reducible assumption); (with_reducible assumption); rfl; decide +kernel)
  | ((with_reducible apply eb_adr); (with_reducible assumption); (with_reducible assumption); (exact rfl); decide +kernel)
  | ((with_reducible apply eb_con); (with_reducible assumption); (with_reducible assumption); decide +kernel)
  | ((with_reducible apply eb_ty PyProof.Rows.boot_int); (with_reducible assumption); (with_reducible assumption); decide +kernel)
  | ((with_reducible apply eb_ty PyProof.Rows.boot_bool); (with_reducible assumption); (with_reducible assumption); decide +kernel)
  | ((with_reducible apply eb_ty PyProof.Rows.boot_tuple); (with_reducible assumption); (with_reducible assumption); decide +kernel)
  | ((with_reducible apply eb_ty PyProof.Rows.boot_list); (with_reducible assumption); (with_reducible assumption); decide +kernel)
  | ((with_reducible apply eb_ty PyProof.Rows.boot_str); (with_reducible assumption); (with_reducible assumption); decide +kernel)
  | (with_reducible exact ev_dict0)
  | (with_reducible exact ea_nil)
  | ((with_reducible apply ea_cons); rfl)
  | (with_reducible apply ev_bin) | (with_reducible apply ev_neg) | (with_reducible apply ev_not) | (with_reducible apply ev_one)
  | ((with_reducible apply ev_and); rotate_left; intro _; rotate_left)
  | ((with_reducible apply ev_or); rotate_left; intro _; rotate_left)
  | ((with_reducible apply ev_dgetB); (exact ⟨rfl, rfl, rfl, rfl⟩); (walk_at "cx"))
  | ((with_reducible apply eb_lenOM); rfl; (with_reducible assumption); (with_reducible assumption); decide +kernel; (with_reducible assumption); (exact rfl); decide +kernel)
  | ((with_reducible apply ev_find); rfl; rfl; rfl) | ((with_reducible apply ev_startswith); rfl; rfl; rfl) | ((with_reducible apply ev_endswith); rfl; rfl; rfl) | ((with_reducible apply ev_joinM); rfl; rfl; rfl)
  | ((with_reducible apply evn_splitC); (with_reducible assumption); rfl; rfl; rfl) | ((with_reducible apply ev_of); (with_reducible apply evn_splitC); (with_reducible assumption); rfl; rfl; rfl)
  | ((with_reducible apply evn_splitM); (with_reducible assumption); rfl; rfl; rfl) | ((with_reducible apply ev_of); (with_reducible apply evn_splitM); (with_reducible assumption); rfl; rfl; rfl)
  | ((with_reducible apply ev_slS); ((with_reducible apply eb_name); (with_reducible assumption); (with_reducible assumption); (exact rfl); decide +kernel))
  | ((with_reducible apply ev_index); rfl; rfl; rfl; rfl)
  | ((with_reducible apply ib_rev); rfl; rfl; (with_reducible assumption); (with_reducible assumption); (with_reducible assumption); decide +kernel)
  | ((with_reducible apply evn_sset2); rfl; rfl; rfl; rfl; (with_reducible assumption); (with_reducible assumption); (with_reducible assumption); decide +kernel)
  | ((with_reducible apply ev_of); (with_reducible apply evn_sset2); rfl; rfl; rfl; rfl; (with_reducible assumption); (with_reducible assumption); (with_reducible assumption); decide +kernel)
  | ((with_reducible apply evn_ssetI); rfl; rfl; (with_reducible assumption); (with_reducible assumption); (with_reducible assumption); decide +kernel; ((with_reducible apply eb_name); (with_reducible assumption); (with_reducible assumption); (exact rfl); decide +kernel))
  | ((with_reducible apply ev_of); (with_reducible apply evn_ssetI); rfl; rfl; (with_reducible assumption); (with_reducible assumption); (with_reducible assumption); decide +kernel; ((with_reducible apply eb_name); (with_reducible assumption); (with_reducible assumption); (exact rfl); decide +kernel))
  | ((with_reducible apply evn_sset); rfl; rfl; (with_reducible assumption); (with_reducible assumption); (with_reducible assumption); decide +kernel)
  | ((with_reducible apply ev_of); (with_reducible apply evn_sset); rfl; rfl; (with_reducible assumption); (with_reducible assumption); (with_reducible assumption); decide +kernel)
  | ((with_reducible apply evn_listT); rfl; (with_reducible assumption); (with_reducible assumption); decide +kernel; (with_reducible assumption); (exact rfl); decide +kernel)
  | ((with_reducible apply ev_of); (with_reducible apply evn_listT); rfl; (with_reducible assumption); (with_reducible assumption); decide +kernel; (with_reducible assumption); (exact rfl); decide +kernel)
  | ((with_reducible apply eb_call); rfl; rfl; (with_reducible assumption); (with_reducible assumption); (first | decide | omega); decide +kernel)
  | ((with_reducible apply eb_blt); rfl; rfl; (with_reducible assumption); (with_reducible assumption); decide +kernel)
  | ((with_reducible apply ev_cmp); first | exact nomark _ | rfl | with_unfolding_all rfl)
  | ((with_reducible apply eb_app); rfl; rfl; rfl; (with_reducible assumption); (with_reducible assumption); rfl; decide +kernel)
  | ((with_reducible apply eb_ext); rfl; rfl; rfl; (with_reducible assumption); (with_reducible assumption); rfl; decide +kernel)
  | ((with_reducible apply eb_pop); rfl; (with_reducible assumption); (with_reducible assumption); rfl; decide +kernel; (first | (dsimp only [cp]; done) | (dsimp only [cp]; exact rfl)))
  | ((with_reducible apply eb_popAt (α := Int)); rfl; rfl; rfl; (with_reducible assumption); (with_reducible assumption); (exact rfl); decide +kernel)
  | ((with_reducible apply evn_listRg); rfl; rfl; rfl; rfl; (with_reducible assumption); (with_reducible assumption); (with_reducible assumption); decide +kernel)
  | ((with_reducible apply eb_idxO0); (intro _ _; rfl); (with_reducible assumption); (with_reducible assumption); (with_reducible exact rfl); decide +kernel; (with_reducible exact ev_int))
  | ((with_reducible apply eb_idxO1); (intro _ _; rfl); (with_reducible assumption); (with_reducible assumption); (with_reducible exact rfl); decide +kernel; (with_reducible exact ev_int))
  | ((with_reducible apply eb_idxOM (α := List Int)); (intro _ _; rfl); (with_reducible assumption); (with_reducible assumption); exact rfl; decide +kernel)
  | ((with_reducible apply eb_idxOM (α := List Int × List Int)); (intro _ _; rfl); (with_reducible assumption); (with_reducible assumption); exact rfl; decide +kernel)
  | ((with_reducible apply eb_idxOM (α := Int)); (intro _ _; rfl); (with_reducible assumption); (with_reducible assumption); exact rfl; decide +kernel)
  | (with_reducible apply ev_slG) | (with_reducible apply evn_slLM) | (with_reducible exact SlOf.tup) | (with_reducible exact SlOf.lst) | (with_reducible exact eo_none) | (with_reducible apply eo_some)
  | ((with_reducible apply ev_revTM); ((with_reducible apply eb_name); (with_reducible assumption); (with_reducible assumption); (exact rfl); decide +kernel))
  | (with_reducible apply evn_rev) | ((with_reducible apply ev_of); (with_reducible apply evn_rev))
  | ((with_reducible apply ev_idx); (intro _ _; rfl))
  | ((with_reducible apply ev_tup))
  | ((with_reducible apply evn_sortK); rfl; rfl; rfl; (first | (exact PySem.boot_len; exact ck_lenT (by walk_at "cx")) | (exact PyProof.Rows.boot_abs; exact ck_abs (by walk_at "cx"))); (with_reducible assumption); (with_reducible assumption); (with_reducible assumption); decide +kernel)
  | ((with_reducible apply ev_of); (with_reducible apply evn_sortK); rfl; rfl; rfl; (first | (exact PySem.boot_len; exact ck_lenT (by walk_at "cx")) | (exact PyProof.Rows.boot_abs; exact ck_abs (by walk_at "cx"))); (with_reducible assumption); (with_reducible assumption); (with_reducible assumption); decide +kernel)
  | ((with_reducible apply evn_lst)) | (with_reducible apply evn_bin) | ((with_reducible apply ebn_blt); rfl; rfl; (with_reducible assumption); (with_reducible assumption); decide +kernel) | ((with_reducible apply ebn_callN); rfl; rfl; (with_reducible assumption); (with_reducible assumption); (first | decide | omega); decide +kernel)
  | ((with_reducible apply ev_of); (with_reducible apply evn_lst)) | ((with_reducible apply ev_of); (with_reducible apply evn_bin)) | ((with_reducible apply ev_of); (with_reducible apply ebn_blt); rfl; rfl; (with_reducible assumption); (with_reducible assumption); decide +kernel)
  | ((with_reducible apply lc0); (with_reducible assumption); (with_reducible assumption); decide +kernel; (intro _; rfl)) | ((with_reducible apply lc1); (with_reducible assumption); (with_reducible assumption); decide +kernel; (intro _; rfl))
  | ((with_reducible apply ev_of); (with_reducible apply lc0); (with_reducible assumption); (with_reducible assumption); decide +kernel; (intro _; rfl)) | ((with_reducible apply ev_of); (with_reducible apply lc1); (with_reducible assumption); (with_reducible assumption); decide +kernel; (intro _; rfl))
  | ((with_reducible apply ib_range1); rfl; (with_reducible assumption); (with_reducible assumption); decide +kernel) | ((with_reducible apply ib_range2); rfl; rfl; (with_reducible assumption); (with_reducible assumption); decide +kernel)
  | (with_reducible exact ItOf.lst _) | (with_reducible exact ItOf.tup _) | (with_reducible apply ItOf.str) | (with_reducible apply ItOf.dcl)
  | ((with_reducible show ownB _ _ = false); rfl)
  | ((with_reducible show ∀ Y, Bd Y _ _ _ _ _ _ _ _ → ∀ (S : Bs) x, x ∈ _ → _); intro _ _ _ _ _) | ((with_reducible show _ = true → Ev _ _ _ _ _ _); intro _)
  | (with_reducible apply it_any)
  | (with_reducible apply tst_not)
  | ((with_reducible apply tst_w); (with_reducible apply tw_and); rotate_left; intro _; rotate_left)
  | ((with_reducible apply tst_w); (with_reducible apply tw_or); rotate_left; intro _; rotate_left)
  | ((with_reducible apply tw_and); rotate_left; intro _; rotate_left)
  | ((with_reducible apply tw_or); rotate_left; intro _; rotate_left)
  | (with_reducible apply tw_and1) | (with_reducible apply tw_or1)
  | ((with_reducible apply tst_cmp); first | exact nomark _ | rfl | with_unfolding_all rfl)
  | ((with_reducible apply tst_val); (intro _; rfl))
  | (with_reducible exact knd_int) | (with_reducible exact knd_tup) | (with_reducible exact knd_lst) | (with_reducible exact knd_bl) | (with_reducible exact knd_str) | (with_reducible exact knd_non)
  | ((with_reducible show ∀ d ∈ List.map _ _, Knd d); (with_reducible apply all_map); intro _ _)
  | ((with_reducible show Gg _ _ _); (with_reducible assumption))
  | ((with_reducible apply Gg.mk); constructor)
  | ((with_reducible apply lenLine); (first | exact Nat.le_of_ble_eq_true rfl | omega | (rw [List.length_append]; omega)))
  | ((with_reducible apply cdiv_pos); (first | decide | (constructor <;> omega)))
  | ((with_reducible apply cmulL); decide) | ((with_reducible apply cmulR); decide) | ((with_reducible apply cmulL); constructor <;> omega) | ((with_reducible apply cmulR); constructor <;> omega)
  | ((with_reducible show (_ : Int) ≤ _); omega) | ((with_reducible show (_ : Int) < _); omega) | ((with_reducible show (_ : Nat) ≤ _); omega) | ((with_reducible show (_ : Nat) < _); omega)
  | ((with_reducible show _ ∧ _ ∧ _ ∧ _); (refine ⟨?_, ?_, ?_, ?_⟩ <;> omega))
  | ((with_reducible show ∀ x, x ∈ _ → _); (with_reducible assumption)) | ((with_reducible show (_ : Int) = _); (first | rfl | (with_reducible assumption) | omega)) | ((with_reducible show (_ : Nat) = _); (first | rfl | (with_reducible assumption) | omega)) | ((with_reducible show Bnd _ _); (with_reducible assumption))
  | ((with_reducible show cg _ _ = some (Cell.own _ _)); exact rfl) | ((with_reducible show cp _ _ (Cell.own _ _) = _); (first | (dsimp only [cp]; done) | (dsimp only [cp]; exact rfl)))
  | ((with_reducible show List.length _ < sizeLine); (with_reducible assumption))
  | walk_at "op")
local macro_rules | `(tactic| walk_at "ev") => `(tactic| repeat' walk_at "e")
local macro_rules | `(tactic| walk_at "set") => `(tactic| ((with_reducible apply qb_set); rfl; (with_reducible assumption); (with_reducible assumption); (with_reducible assumption); decide +kernel; (walk_at "ev"); (all_goals try (first | (dsimp only [cp]; done) | (dsimp only [cp]; exact rfl)))))
local macro_rules | `(tactic| walk_at "setN") => `(tactic| ((with_reducible apply qb_setN); rfl; (with_reducible assumption); (with_reducible assumption); (with_reducible assumption); decide +kernel; (walk_at "ev"); (all_goals try (first | (dsimp only [cp]; done) | (dsimp only [cp]; exact rfl)))))
local macro_rules | `(tactic| walk_at "ret") => `(tactic| ((with_reducible apply q_ret); (walk_at "ev")))
local macro_rules | `(tactic| walk_at "when") => `(tactic| ((with_reducible apply q_when); (walk_at "ev")))
local macro_rules | `(tactic| walk_at "if") => `(tactic| ((with_reducible apply q_if); (walk_at "ev")))
local macro_rules | `(tactic| walk_at "setD") => `(tactic| ((with_reducible apply qb_setD); rfl; (with_reducible assumption); (with_reducible assumption); (with_reducible assumption); decide +kernel; exact eo_dict; (all_goals try (first | (dsimp only [cp]; done) | (dsimp only [cp]; exact rfl)))))
local macro_rules | `(tactic| walk_at "dput") => `(tactic| ((with_reducible apply qb_dput); rfl; (with_reducible assumption); (with_reducible assumption); (with_reducible assumption); decide +kernel; (walk_at "ev"); (case hg => exact rfl); (walk_at "ev"); (all_goals try (first | (dsimp only [cp]; done) | (dsimp only [cp]; exact rfl)))))
local macro_rules | `(tactic| walk_at "for") => `(tactic| ((intro _; rfl); (with_reducible assumption); (with_reducible assumption); (with_reducible assumption); (with_reducible assumption); decide +kernel))
local macro_rules | `(tactic| walk_at "forR") => `(tactic| ((intro _; rfl); (with_reducible assumption); (with_reducible assumption); (with_reducible assumption); (with_reducible assumption); decide +kernel))
local macro_rules | `(tactic| walk_at "call") => `(tactic| ((with_reducible apply q_drop); rfl; (walk_at "ev")))
local macro_rules | `(tactic| walk_at "setC") => `(tactic| (((first | ((with_reducible apply qlc0); (with_reducible assumption); (with_reducible assumption); (with_reducible assumption); decide +kernel; (intro _; rfl); (with_reducible assumption); decide +kernel) | ((with_reducible apply qlc1); (with_reducible assumption); (with_reducible assumption); (with_reducible assumption); decide +kernel; (intro _; rfl); (with_reducible assumption); decide +kernel) | ((with_reducible apply qb_setNc); rotate_left; (with_reducible assumption); (with_reducible assumption); (with_reducible assumption); decide +kernel; rotate_right; decide +kernel))); (walk_at "ev"); (all_goals try (first | (dsimp only [cp]; done) | (dsimp only [cp]; exact rfl)))))
local macro_rules | `(tactic| walk_at "whenF") => `(tactic| ((with_reducible apply q_when); (with_reducible apply tst_flat); (intro _); (dsimp only [cp, frz, frzC]); (walk_at "ev")))
local macro_rules | `(tactic| walk_at "ifF") => `(tactic| ((with_reducible apply q_if); (with_reducible apply tst_flat); (intro _); (dsimp only [cp, frz, frzC]); (walk_at "ev")))
local macro_rules | `(tactic| walk_at "testF") => `(tactic| ((with_reducible apply tst_flat); (intro _); (dsimp only [cp, frz, frzC]); (walk_at "ev")))
local macro_rules | `(tactic| walk_at "setT") => `(tactic| ((with_reducible apply qb_setT); rfl; (with_reducible assumption); (with_reducible assumption); (with_reducible assumption); decide +kernel; exact eo_dictT; (all_goals try (first | (dsimp only [cp]; done) | (dsimp only [cp]; exact rfl)))))
local macro_rules | `(tactic| walk_at "tput") => `(tactic| ((with_reducible apply qb_tput); rfl; (with_reducible assumption); (with_reducible assumption); (with_reducible assumption); decide +kernel; (walk_at "ev"); (case hg => exact rfl); (walk_at "ev"); (all_goals try (first | (dsimp only [cp]; done) | (dsimp only [cp]; exact rfl)))))
local macro_rules | `(tactic| walk_at "unp") => `(tactic| ((with_reducible apply qb_unp); rfl; rfl; (with_reducible assumption); (with_reducible assumption); (with_reducible assumption); (with_reducible assumption); (with_reducible assumption); decide +kernel; (walk_at "ev"); (all_goals try (first | (dsimp only [cp]; done) | (dsimp only [cp]; exact rfl)))))
local macro_rules | `(tactic| walk_at "setDc") => `(tactic| ((with_reducible apply qb_setD); rfl; (with_reducible assumption); (with_reducible assumption); (with_reducible assumption); decide +kernel; ((with_reducible apply eo_copy); rfl; (with_reducible assumption); (with_reducible assumption); decide +kernel; (walk_at "ev")); (all_goals try (first | (dsimp only [cp]; done) | (dsimp only [cp]; exact rfl)))))
local macro_rules | `(tactic| walk_at "setD1") => `(tactic| ((with_reducible apply qb_setD); rfl; (with_reducible assumption); (with_reducible assumption); (with_reducible assumption); decide +kernel; ((with_reducible apply eo_dict1); (with_reducible assumption); (with_reducible assumption); rfl; decide +kernel); (all_goals try (first | (dsimp only [cp]; done) | (dsimp only [cp]; exact rfl)))))
local macro_rules | `(tactic| walk_at "lend3") => `(tactic| ((apply eb_callB (i := 3)); rfl; rfl; (with_reducible assumption); (with_reducible assumption); (first | decide | omega); decide +kernel; (walk_at "ev")))
local macro_rules | `(tactic| walk_at "lend1") => `(tactic| ((apply eb_callB (i := 1)); rfl; rfl; (with_reducible assumption); (with_reducible assumption); (first | decide | omega); decide +kernel; (walk_at "ev")))
local macro_rules | `(tactic| walk_at "unpL") => `(tactic| ((with_reducible apply qb_unp); rfl; rfl; (with_reducible assumption); (with_reducible assumption); (with_reducible assumption); (with_reducible assumption); (with_reducible assumption); decide +kernel))
local macro_rules | `(tactic| walk_at "cp") => `(tactic| (first | (dsimp only [cp]; done) | (dsimp only [cp]; exact rfl)))
local macro_rules | `(tactic| walk_at "orT") => `(tactic| ((with_reducible apply q_when); (with_reducible apply tst_w); (with_reducible apply tw_orT); (walk_at "ev"); (exact rfl)))
local macro_rules | `(tactic| walk_at "callX") => `(tactic| ((with_reducible apply eb_callX); rfl; rfl; (with_reducible assumption); (with_reducible assumption); (first | decide | omega); decide +kernel; (walk_at "ev")))
local macro_rules | `(tactic| walk_at "setF") => `(tactic| ((with_reducible apply qb_set); rfl; (with_reducible assumption); (with_reducible assumption); (with_reducible assumption); decide +kernel; (with_reducible apply ev_imm); (intro _); (dsimp only [cp, frz, frzC]); (walk_at "ev"); (all_goals try (first | (dsimp only [cp]; done) | (dsimp only [cp]; exact rfl)))))
local macro_rules | `(tactic| walk_at "lend2") => `(tactic| ((apply eb_callB (i := 2)); rfl; rfl; (with_reducible assumption); (with_reducible assumption); (first | decide | omega); decide +kernel; (walk_at "ev")))
local macro_rules | `(tactic| walk_at "lset") => `(tactic| ((with_reducible apply qb_lset); rfl; rfl; (intro _; rfl); (with_reducible assumption); (with_reducible assumption); decide +kernel; (walk_at "ev"); (case hg => exact rfl); (walk_at "ev"); (all_goals try (first | (dsimp only [cp]; done) | (dsimp only [cp]; exact rfl)))))
namespace Sg
def topS (i : Nat) : Stmt := PySem.Challenge.pw_sayhall_k15_refusals.main.body.getD i (.Pass ⟨0, 0, 0, 0⟩)
section
variable {P : Program} {w : World} {K : PySem.W.Frag} {mg : Str → Option Value} {base : Heap}
abbrev s_L_cell_at : Stmt := topS 69
abbrev n_L_cell_at : List Str := [Str.ofString "_law_script", Str.ofString "_law_k"]
theorem sc_L_cell_at : FnScope n_L_cell_at [(Str.ofString "_law_script"), (Str.ofString "_law_k")] (defScope s_L_cell_at) := ⟨rfl, rfl, rfl, by decide +kernel, rfl, by decide +kernel, by decide +kernel⟩
abbrev s_L_mixed : Stmt := topS 70
abbrev n_L_mixed : List Str := [Str.ofString "_law_script", Str.ofString "_law_k", Str.ofString "_law_many", Str.ofString "_law_drawn"]
theorem sc_L_mixed : FnScope n_L_mixed [(Str.ofString "_law_script"), (Str.ofString "_law_k"), (Str.ofString "_law_many")] (defScope s_L_mixed) := ⟨rfl, rfl, rfl, by decide +kernel, rfl, by decide +kernel, by decide +kernel⟩
abbrev s_L_saying : Stmt := topS 71
abbrev n_L_saying : List Str := [Str.ofString "_law_script", Str.ofString "_law_at", Str.ofString "_law_many", Str.ofString "_law_parts", Str.ofString "_law_k", Str.ofString "_law_thing"]
theorem sc_L_saying : FnScope n_L_saying [(Str.ofString "_law_script"), (Str.ofString "_law_at"), (Str.ofString "_law_many")] (defScope s_L_saying) := ⟨rfl, rfl, rfl, by decide +kernel, rfl, by decide +kernel, by decide +kernel⟩
abbrev s_L_sayings : Stmt := topS 72
abbrev n_L_sayings : List Str := [Str.ofString "_law_script", Str.ofString "_law_at", Str.ofString "_law_many", Str.ofString "_law_most", Str.ofString "_law_k"]
theorem sc_L_sayings : FnScope n_L_sayings [(Str.ofString "_law_script"), (Str.ofString "_law_at"), (Str.ofString "_law_many"), (Str.ofString "_law_most")] (defScope s_L_sayings) := ⟨rfl, rfl, rfl, by decide +kernel, rfl, by decide +kernel, by decide +kernel⟩
abbrev s_L_bad_sentence : Stmt := topS 78
abbrev n_L_bad_sentence : List Str := [Str.ofString "_law_many", Str.ofString "_law_cell", Str.ofString "_law_one", Str.ofString "_law_some", Str.ofString "_law_long", Str.ofString "_law_k", Str.ofString "_law_wide"]
theorem sc_L_bad_sentence : FnScope n_L_bad_sentence [(Str.ofString "_law_many"), (Str.ofString "_law_cell")] (defScope s_L_bad_sentence) := ⟨rfl, rfl, rfl, by decide +kernel, rfl, by decide +kernel, by decide +kernel⟩
abbrev s_L_bad : Stmt := topS 79
abbrev n_L_bad : List Str := [Str.ofString "_law_way", Str.ofString "_law_many", Str.ofString "_law_case", Str.ofString "_law_cell", Str.ofString "_law_some", Str.ofString "_law_kinds"]
theorem sc_L_bad : FnScope n_L_bad [(Str.ofString "_law_way"), (Str.ofString "_law_many"), (Str.ofString "_law_case"), (Str.ofString "_law_cell")] (defScope s_L_bad) := ⟨rfl, rfl, rfl, by decide +kernel, rfl, by decide +kernel, by decide +kernel⟩
abbrev s_is_whole : Stmt := topS 14
abbrev n_is_whole : List Str := [Str.ofString "thing"]
theorem sc_is_whole : FnScope n_is_whole [(Str.ofString "thing")] (defScope s_is_whole) := ⟨rfl, rfl, rfl, by decide +kernel, rfl, by decide +kernel, by decide +kernel⟩
abbrev s_is_saying : Stmt := topS 15
abbrev n_is_saying : List Str := [Str.ofString "thing", Str.ofString "many", Str.ofString "last", Str.ofString "part"]
theorem sc_is_saying : FnScope n_is_saying [(Str.ofString "thing"), (Str.ofString "many")] (defScope s_is_saying) := ⟨rfl, rfl, rfl, by decide +kernel, rfl, by decide +kernel, by decide +kernel⟩
abbrev s_checked : Stmt := topS 17
abbrev n_checked : List Str := [Str.ofString "sayings", Str.ofString "many", Str.ofString "saying"]
theorem sc_checked : FnScope n_checked [(Str.ofString "sayings"), (Str.ofString "many")] (defScope s_checked) := ⟨rfl, rfl, rfl, by decide +kernel, rfl, by decide +kernel, by decide +kernel⟩
abbrev s_cases : Stmt := topS 31
abbrev n_cases : List Str := [Str.ofString "sayings", Str.ofString "many"]
theorem sc_cases : FnScope n_cases [(Str.ofString "sayings"), (Str.ofString "many")] (defScope s_cases) := ⟨rfl, rfl, rfl, by decide +kernel, rfl, by decide +kernel, by decide +kernel⟩
abbrev s_settled : Stmt := topS 32
abbrev n_settled : List Str := [Str.ofString "sayings", Str.ofString "many", Str.ofString "found", Str.ofString "made", Str.ofString "thing", Str.ofString "values", Str.ofString "case"]
theorem sc_settled : FnScope n_settled [(Str.ofString "sayings"), (Str.ofString "many")] (defScope s_settled) := ⟨rfl, rfl, rfl, by decide +kernel, rfl, by decide +kernel, by decide +kernel⟩
abbrev s_case_or_clash : Stmt := topS 40
abbrev n_case_or_clash : List Str := [Str.ofString "sayings", Str.ofString "many", Str.ofString "case", Str.ofString "steps"]
theorem sc_case_or_clash : FnScope n_case_or_clash [(Str.ofString "sayings"), (Str.ofString "many")] (defScope s_case_or_clash) := ⟨rfl, rfl, rfl, by decide +kernel, rfl, by decide +kernel, by decide +kernel⟩
abbrev s_follows : Stmt := topS 41
abbrev n_follows : List Str := [Str.ofString "sayings", Str.ofString "many", Str.ofString "saying", Str.ofString "given", Str.ofString "part", Str.ofString "case", Str.ofString "steps"]
theorem sc_follows : FnScope n_follows [(Str.ofString "sayings"), (Str.ofString "many"), (Str.ofString "saying")] (defScope s_follows) := ⟨rfl, rfl, rfl, by decide +kernel, rfl, by decide +kernel, by decide +kernel⟩
abbrev s_sharpest : Stmt := topS 46
abbrev n_sharpest : List Str := [Str.ofString "sayings", Str.ofString "many"]
theorem sc_sharpest : FnScope n_sharpest [(Str.ofString "sayings"), (Str.ofString "many")] (defScope s_sharpest) := ⟨rfl, rfl, rfl, by decide +kernel, rfl, by decide +kernel, by decide +kernel⟩
abbrev s_alike : Stmt := topS 47
abbrev n_alike : List Str := [Str.ofString "one", Str.ofString "other", Str.ofString "many", Str.ofString "case"]
theorem sc_alike : FnScope n_alike [(Str.ofString "one"), (Str.ofString "other"), (Str.ofString "many")] (defScope s_alike) := ⟨rfl, rfl, rfl, by decide +kernel, rfl, by decide +kernel, by decide +kernel⟩
abbrev s_least_clash : Stmt := topS 50
abbrev n_least_clash : List Str := [Str.ofString "sayings", Str.ofString "many", Str.ofString "left", Str.ofString "k", Str.ofString "fewer", Str.ofString "place"]
theorem sc_least_clash : FnScope n_least_clash [(Str.ofString "sayings"), (Str.ofString "many")] (defScope s_least_clash) := ⟨rfl, rfl, rfl, by decide +kernel, rfl, by decide +kernel, by decide +kernel⟩
abbrev s_between : Stmt := topS 52
abbrev n_between : List Str := [Str.ofString "one", Str.ofString "other", Str.ofString "many", Str.ofString "case", Str.ofString "here", Str.ofString "there", Str.ofString "made", Str.ofString "saying", Str.ofString "part"]
theorem sc_between : FnScope n_between [(Str.ofString "one"), (Str.ofString "other"), (Str.ofString "many")] (defScope s_between) := ⟨rfl, rfl, rfl, by decide +kernel, rfl, by decide +kernel, by decide +kernel⟩
abbrev s_forgotten : Stmt := topS 54
abbrev n_forgotten : List Str := [Str.ofString "sayings", Str.ofString "many", Str.ofString "thing", Str.ofString "made", Str.ofString "saying", Str.ofString "other", Str.ofString "together"]
theorem sc_forgotten : FnScope n_forgotten [(Str.ofString "sayings"), (Str.ofString "many"), (Str.ofString "thing")] (defScope s_forgotten) := ⟨rfl, rfl, rfl, by decide +kernel, rfl, by decide +kernel, by decide +kernel⟩
abbrev s_least_case : Stmt := topS 58
abbrev n_least_case : List Str := [Str.ofString "sayings", Str.ofString "many", Str.ofString "known", Str.ofString "order", Str.ofString "found", Str.ofString "thing"]
theorem sc_least_case : FnScope n_least_case [(Str.ofString "sayings"), (Str.ofString "many")] (defScope s_least_case) := ⟨rfl, rfl, rfl, by decide +kernel, rfl, by decide +kernel, by decide +kernel⟩
abbrev s_need_kinds : Stmt := topS 25
abbrev n_need_kinds : List Str := [Str.ofString "kinds", Str.ofString "many", Str.ofString "kind"]
theorem sc_need_kinds : FnScope n_need_kinds [(Str.ofString "kinds"), (Str.ofString "many")] (defScope s_need_kinds) := ⟨rfl, rfl, rfl, by decide +kernel, rfl, by decide +kernel, by decide +kernel⟩
abbrev s_played : Stmt := topS 27
abbrev n_played : List Str := [Str.ofString "sayings", Str.ofString "many", Str.ofString "kinds"]
theorem sc_played : FnScope n_played [(Str.ofString "sayings"), (Str.ofString "many"), (Str.ofString "kinds")] (defScope s_played) := ⟨rfl, rfl, rfl, by decide +kernel, rfl, by decide +kernel, by decide +kernel⟩
abbrev s_is_case : Stmt := topS 16
abbrev n_is_case : List Str := [Str.ofString "thing", Str.ofString "many", Str.ofString "value"]
theorem sc_is_case : FnScope n_is_case [(Str.ofString "thing"), (Str.ofString "many")] (defScope s_is_case) := ⟨rfl, rfl, rfl, by decide +kernel, rfl, by decide +kernel, by decide +kernel⟩
abbrev s_need_case : Stmt := topS 18
abbrev n_need_case : List Str := [Str.ofString "case", Str.ofString "many"]
theorem sc_need_case : FnScope n_need_case [(Str.ofString "case"), (Str.ofString "many")] (defScope s_need_case) := ⟨rfl, rfl, rfl, by decide +kernel, rfl, by decide +kernel, by decide +kernel⟩
abbrev s_fits : Stmt := topS 22
abbrev n_fits : List Str := [Str.ofString "sayings", Str.ofString "many", Str.ofString "case"]
theorem sc_fits : FnScope n_fits [(Str.ofString "sayings"), (Str.ofString "many"), (Str.ofString "case")] (defScope s_fits) := ⟨rfl, rfl, rfl, by decide +kernel, rfl, by decide +kernel, by decide +kernel⟩
abbrev s_L_with_sayings : Stmt := topS 73
abbrev n_L_with_sayings : List Str := [Str.ofString "_law_what", Str.ofString "_law_bad_here", Str.ofString "_law_many"]
theorem sc_L_with_sayings : FnScope n_L_with_sayings [(Str.ofString "_law_what"), (Str.ofString "_law_bad_here"), (Str.ofString "_law_many")] (defScope s_L_with_sayings) := ⟨rfl, rfl, rfl, by decide +kernel, rfl, by decide +kernel, by decide +kernel⟩
abbrev s_size_of : Stmt := topS 62
abbrev n_size_of : List Str := [Str.ofString "thing", Str.ofString "many", Str.ofString "room", Str.ofString "first"]
theorem sc_size_of : FnScope n_size_of [(Str.ofString "thing"), (Str.ofString "many"), (Str.ofString "room")] (defScope s_size_of) := ⟨rfl, rfl, rfl, by decide +kernel, rfl, by decide +kernel, by decide +kernel⟩
abbrev s_need_sentence : Stmt := topS 63
abbrev n_need_sentence : List Str := [Str.ofString "thing", Str.ofString "many"]
theorem sc_need_sentence : FnScope n_need_sentence [(Str.ofString "thing"), (Str.ofString "many")] (defScope s_need_sentence) := ⟨rfl, rfl, rfl, by decide +kernel, rfl, by decide +kernel, by decide +kernel⟩
abbrev s_is_true : Stmt := topS 65
abbrev n_is_true : List Str := [Str.ofString "sentence", Str.ofString "many", Str.ofString "case"]
theorem sc_is_true : FnScope n_is_true [(Str.ofString "sentence"), (Str.ofString "many"), (Str.ofString "case")] (defScope s_is_true) := ⟨rfl, rfl, rfl, by decide +kernel, rfl, by decide +kernel, by decide +kernel⟩
abbrev s_sayings_of : Stmt := topS 67
abbrev n_sayings_of : List Str := [Str.ofString "sentence", Str.ofString "many", Str.ofString "made", Str.ofString "own", Str.ofString "whole"]
theorem sc_sayings_of : FnScope n_sayings_of [(Str.ofString "sentence"), (Str.ofString "many")] (defScope s_sayings_of) := ⟨rfl, rfl, rfl, by decide +kernel, rfl, by decide +kernel, by decide +kernel⟩
abbrev s_L_with_other : Stmt := topS 74
abbrev n_L_with_other : List Str := [Str.ofString "_law_way", Str.ofString "_law_bad_here", Str.ofString "_law_many", Str.ofString "_law_case"]
theorem sc_L_with_other : FnScope n_L_with_other [(Str.ofString "_law_way"), (Str.ofString "_law_bad_here"), (Str.ofString "_law_many"), (Str.ofString "_law_case")] (defScope s_L_with_other) := ⟨rfl, rfl, rfl, by decide +kernel, rfl, by decide +kernel, by decide +kernel⟩
abbrev s_L_asked : Stmt := topS 75
abbrev n_L_asked : List Str := [Str.ofString "_law_way", Str.ofString "_law_what", Str.ofString "_law_bad_here", Str.ofString "_law_many", Str.ofString "_law_case"]
theorem sc_L_asked : FnScope n_L_asked [(Str.ofString "_law_way"), (Str.ofString "_law_what"), (Str.ofString "_law_bad_here"), (Str.ofString "_law_many"), (Str.ofString "_law_case")] (defScope s_L_asked) := ⟨rfl, rfl, rfl, by decide +kernel, rfl, by decide +kernel, by decide +kernel⟩
abbrev s_L_by_base : Stmt := topS 77
abbrev n_L_by_base : List Str := [Str.ofString "_law_way", Str.ofString "_law_what", Str.ofString "_law_bad_here", Str.ofString "_law_many", Str.ofString "_law_case", Str.ofString "e"]
theorem sc_L_by_base : FnScope n_L_by_base [(Str.ofString "_law_way"), (Str.ofString "_law_what"), (Str.ofString "_law_bad_here"), (Str.ofString "_law_many"), (Str.ofString "_law_case")] (defScope s_L_by_base) := ⟨rfl, rfl, rfl, by decide +kernel, rfl, by decide +kernel, by decide +kernel⟩
abbrev s_L_kind : Stmt := topS 76
abbrev n_L_kind : List Str := [Str.ofString "_law_way", Str.ofString "_law_what", Str.ofString "_law_bad_here", Str.ofString "_law_many", Str.ofString "_law_case", Str.ofString "_law_found"]
theorem sc_L_kind : FnScope n_L_kind [(Str.ofString "_law_way"), (Str.ofString "_law_what"), (Str.ofString "_law_bad_here"), (Str.ofString "_law_many"), (Str.ofString "_law_case")] (defScope s_L_kind) := ⟨rfl, rfl, rfl, by decide +kernel, rfl, by decide +kernel, by decide +kernel⟩
abbrev s_law : Stmt := topS 80
abbrev n_law : List Str := [Str.ofString "_law_script", Str.ofString "_law_many", Str.ofString "_law_case", Str.ofString "_law_way", Str.ofString "_law_cell", Str.ofString "_law_what", Str.ofString "_law_sayings_here", Str.ofString "_law_bad_here", Str.ofString "_law_due", Str.ofString "_law_k"]
theorem sc_law : FnScope n_law [(Str.ofString "_law_script")] (defScope s_law) := ⟨rfl, rfl, rfl, by decide +kernel, rfl, by decide +kernel, by decide +kernel⟩
theorem ok_L_cell_at {f : Addr} {fd : FuncData} (F : Fun K (Str.ofString "_law_cell_at") (Str.ofString "_law_cell_at") s_L_cell_at f fd) (m_len : mg (Str.ofString "len") = none) : FnOk P w K mg base CX0 1 f fd [(Str.ofString "_law_script"), (Str.ofString "_law_k")] (spF K G_L_cell_at) := by
  refine fn_pure F sc_L_cell_at (fun ds d g => by cases g <;> rfl) fun X hb hf S ds d g => ?_
  have cx := hb.cxt
  have n0 : n_L_cell_at[0]? = some (Str.ofString "_law_script") := rfl
  have n1 : n_L_cell_at[1]? = some (Str.ofString "_law_k") := rfl
  cases g with
  | mk s k h =>
    change Ws X S [.val (.scr s), .val (.int k)] (_ :: _) _
    walk_at "when"
    · intro hc
      simp only [decide_eq_true_eq] at hc
      walk_at "ret"
      · exact at0_ok h hc
      · show Dt.int _ = Dt.int _
        rw [cellAt, if_pos hc]
    · intro hc
      simp only [decide_eq_false_iff_not] at hc
      walk_at "when"
      · intro h2
        rw [deq_nilC, List.isEmpty_iff] at h2
        walk_at "ret"
        show Dt.int _ = Dt.int _
        rw [cellAt, if_neg hc, if_pos h2]
      · intro h2
        have h2 : s ≠ [] := fun z => by rw [deq_nilC, z] at h2; cases h2
        have hl : (0 : Int) < s.length := by have := List.length_pos_iff.mpr h2; omega
        walk_at "ret"
        · exact at0_ok (Int.emod_nonneg _ (by omega)) (Int.emod_lt_of_pos _ hl)
        · show Dt.int _ = Dt.int _
          rw [cellAt, if_neg hc, if_neg h2]
theorem ok_L_mixed {f : Addr} {fd : FuncData} (F : Fun K (Str.ofString "_law_mixed") (Str.ofString "_law_mixed") s_L_mixed f fd) (c_L_cell_at : Cee P w K mg base 1 (Str.ofString "_law_cell_at") G_L_cell_at) : FnOk P w K mg base CX0 2 f fd [(Str.ofString "_law_script"), (Str.ofString "_law_k"), (Str.ofString "_law_many")] (spF K G_L_mixed) := by
  refine fn_pure F sc_L_mixed (fun ds d g => by cases g <;> rfl) fun X hb hf S ds d g => ?_
  have cx := hb.cxt
  have n0 : n_L_mixed[0]? = some (Str.ofString "_law_script") := rfl
  have n1 : n_L_mixed[1]? = some (Str.ofString "_law_k") := rfl
  have n2 : n_L_mixed[2]? = some (Str.ofString "_law_many") := rfl
  have n3 : n_L_mixed[3]? = some (Str.ofString "_law_drawn") := rfl
  cases g with
  | mk s k m h hm =>
    change Ws X S [.val (.scr s), .val (.int k), .val (.int m), .no] (_ :: _) _
    walk_at "set"
    have hd : 0 ≤ drawn s k ∧ drawn s k < 2147483647 := ⟨Int.emod_nonneg _ (by decide), Int.emod_lt_of_pos _ (by decide)⟩
    walk_at "ret"
    exact rfl
theorem ok_L_saying {f : Addr} {fd : FuncData} (F : Fun K (Str.ofString "_law_saying") (Str.ofString "_law_saying") s_L_saying f fd) (c_L_mixed : Cee P w K mg base 2 (Str.ofString "_law_mixed") G_L_mixed) (m_range : mg (Str.ofString "range") = none) (m_tuple : mg (Str.ofString "tuple") = none) (m_sorted : mg (Str.ofString "sorted") = none) (m_list : mg (Str.ofString "list") = none) : FnOk P w K mg base CX0 3 f fd [(Str.ofString "_law_script"), (Str.ofString "_law_at"), (Str.ofString "_law_many")] (spF K G_L_saying) := by
  refine fn_pure F sc_L_saying (fun ds d g => by cases g <;> rfl) fun X hb hf S ds d g => ?_
  have cx := hb.cxt
  have n0 : n_L_saying[0]? = some (Str.ofString "_law_script") := rfl
  have n1 : n_L_saying[1]? = some (Str.ofString "_law_at") := rfl
  have n2 : n_L_saying[2]? = some (Str.ofString "_law_many") := rfl
  have n3 : n_L_saying[3]? = some (Str.ofString "_law_parts") := rfl
  have n4 : n_L_saying[4]? = some (Str.ofString "_law_k") := rfl
  have n5 : n_L_saying[5]? = some (Str.ofString "_law_thing") := rfl
  cases g with
  | mk s a m h hm hm2 =>
    change Ws X S [.val (.scr s), .val (.int a), .val (.int m), .no, .no, .no] (_ :: _) _
    have hc := cntAt_range s a
    have h62 : (3 : Int) < 2 ^ 62 := by decide
    walk_at "setD"
    apply qb_for (fun j => [.val (.scr s), .val (.int a), .val (.int m), .ownD (dI (partsN s a m j)), .no, .no]); walk_at "for"
    · walk_at "ev"
      · have := mixed_range (s := s) (k := a) (m := 7) (by decide)
        exact at0_lst (ns := [1, 2, 2, 3, 3, 3, 0]) this.1 (by show _ < (7 : Int); omega)
      · show _ ≤ cntAt s a; omega
      · exact lenLine (by show (cntAt s a).toNat ≤ _; omega)
    · exact Fg.refl _
    · intro j x hj
      obtain ⟨hjl, rfl⟩ := List.getElem?_eq_some_iff.mp hj
      rw [List.getElem_range] at *
      rw [List.length_range] at hjl
      have hjl : j < (cntAt s a).toNat := hjl
      obtain ⟨h1, h2, h3⟩ := parts_inv (s := s) (a := a) hm j
      walk_at "set"
      walk_at "dput"
      · exact Nat.lt_of_lt_of_le (by show (dI _).length < 1000; unfold dI; rw [List.length_map]; omega) (lenLine (Nat.le_of_ble_eq_true rfl))
      · apply ws_nil
        refine ⟨.inr rfl, .inr rfl, .inr rfl, .inr ?_, .inl rfl, .inl rfl, trivial⟩
        rw [putD_dI]
        rfl
    · rw [List.length_range]
      show Ws X S [.val (.scr s), .val (.int a), .val (.int m), .ownD (dI (partsN s a m (cntAt s a).toNat)), .no, .no] _ _
      walk_at "ret"
      · rename_i S x hx
        rw [srt_mem, keysD_dI] at hx
        rw [lookI_isSome, decide_eq_true hx]
      · rename_i S x hx
        rw [srt_mem, keysD_dI] at hx
        obtain ⟨h1, h2, h3⟩ := parts_inv (s := s) (a := a) hm (cntAt s a).toNat
        obtain ⟨v, e, hv⟩ := lookI_mem hx
        rw [e]
        have := (h2 _ hv).2.2
        exact cmul_sign this
      · show (_ : Dt) = _
        unfold sayingOf signsOf
        rw [keysD_dI, eT, List.map_map]
        rfl
theorem ok_L_sayings {f : Addr} {fd : FuncData} (F : Fun K (Str.ofString "_law_sayings") (Str.ofString "_law_sayings") s_L_sayings f fd) (c_L_saying : Cee P w K mg base 3 (Str.ofString "_law_saying") G_L_saying) (c_L_mixed : Cee P w K mg base 2 (Str.ofString "_law_mixed") G_L_mixed) (m_range : mg (Str.ofString "range") = none) : FnOk P w K mg base CX0 4 f fd [(Str.ofString "_law_script"), (Str.ofString "_law_at"), (Str.ofString "_law_many"), (Str.ofString "_law_most")] (spF K G_L_sayings) := by
  refine fn_pure F sc_L_sayings (fun ds d g => by cases g <;> rfl) fun X hb hf S ds d g => ?_
  have cx := hb.cxt
  have n0 : n_L_sayings[0]? = some (Str.ofString "_law_script") := rfl
  have n1 : n_L_sayings[1]? = some (Str.ofString "_law_at") := rfl
  have n2 : n_L_sayings[2]? = some (Str.ofString "_law_many") := rfl
  have n3 : n_L_sayings[3]? = some (Str.ofString "_law_most") := rfl
  have n4 : n_L_sayings[4]? = some (Str.ofString "_law_k") := rfl
  cases g with
  | mk s a m most h hm hm2 h1 h2 =>
    change Ws X S [.val (.scr s), .val (.int a), .val (.int m), .val (.int most), .no] (_ :: _) _
    have hr := mixed_range (s := s) (k := a) (m := most + 1) (by omega)
    walk_at "ret"
    · show (_ : Dt) = _
      unfold sayingsOf
      rw [eLT, List.map_map]
      rfl
theorem ok_L_bad_sentence {f : Addr} {fd : FuncData} (F : Fun K (Str.ofString "_law_bad_sentence") (Str.ofString "_law_bad_sentence") s_L_bad_sentence f fd) (m_range : mg (Str.ofString "range") = none) : FnOk P w K mg base CX0 1 f fd [(Str.ofString "_law_many"), (Str.ofString "_law_cell")] (spF K G_bad_sentence) := by
  refine fn_pure F sc_L_bad_sentence (fun ds d g => by cases g <;> rfl) fun X hb hf S ds d g => ?_
  have cx := hb.cxt
  have n0 : n_L_bad_sentence[0]? = some (Str.ofString "_law_many") := rfl
  have n1 : n_L_bad_sentence[1]? = some (Str.ofString "_law_cell") := rfl
  have n2 : n_L_bad_sentence[2]? = some (Str.ofString "_law_one") := rfl
  have n3 : n_L_bad_sentence[3]? = some (Str.ofString "_law_some") := rfl
  have n4 : n_L_bad_sentence[4]? = some (Str.ofString "_law_long") := rfl
  have n5 : n_L_bad_sentence[5]? = some (Str.ofString "_law_k") := rfl
  have n6 : n_L_bad_sentence[6]? = some (Str.ofString "_law_wide") := rfl
  cases g with
  | mk m cell h1 h2 h0 =>
    have h62 : (100 : Int) < 2 ^ 62 := by decide
    change Ws X S [.val (.int m), .val (.int cell), .no, .no, .no, .no, .no] (_ :: _) _
    walk_at "set"
    walk_at "setN"
    walk_at "call"
    walk_at "call"
    walk_at "set"
    apply qb_for (fun j => [.val (.int m), .val (.int cell), .val thing1, .own none ((bsL m).take 18), .val (notsD j), .no, .no]); walk_at "for"
    · walk_at "ev"
    · exact Fg.refl _
    · intro j x hj
      walk_at "set"
      apply ws_nil
      exact ⟨.inr rfl, .inr rfl, .inr rfl, .inr rfl, .inr rfl, .inl rfl, .inl rfl, trivial⟩
    rw [List.length_range]
    change Ws X S [.val (.int m), .val (.int cell), .val thing1, .own none ((bsL m).take 18), .val (notsD 12), .no, .no] (_ :: _) _
    walk_at "set"
    apply qb_for (fun j => [.val (.int m), .val (.int cell), .val thing1, .own none ((bsL m).take 18), .val (notsD 12), .no, .val (andsD j)]); walk_at "for"
    · walk_at "ev"
    · exact Fg.refl _
    · intro j x hj
      walk_at "set"
      apply ws_nil
      exact ⟨.inr rfl, .inr rfl, .inr rfl, .inr rfl, .inr rfl, .inl rfl, .inr rfl, trivial⟩
    rw [List.length_range]
    change Ws X S [.val (.int m), .val (.int cell), .val thing1, .own none ((bsL m).take 18), .val (notsD 12), .no, .val (andsD 6)] (_ :: _) _
    walk_at "call"
    apply ws_frz (i := 3) rfl
    have b1 := Int.emod_nonneg cell (by decide : (20 : Int) ≠ 0)
    have b2 := Int.emod_lt_of_pos cell (by decide : (0 : Int) < 20)
    have hB : Bnd (bsL m) (cell % 20) := ⟨b1, b2⟩
    change Ws X S [.val (.int m), .val (.int cell), .val thing1, .val (.lst (bsL m)), .val (notsD 12), .no, .val (andsD 6)] _ _
    walk_at "ret"
    · exact atZ_ok b1 b2
    exact rfl
theorem ok_L_bad {f : Addr} {fd : FuncData} (F : Fun K (Str.ofString "_law_bad") (Str.ofString "_law_bad") s_L_bad f fd) (c_L_bad_sentence : Cee P w K mg base 1 (Str.ofString "_law_bad_sentence") G_bad_sentence) (m_tuple : mg (Str.ofString "tuple") = none) : FnOk P w K mg base CX0 2 f fd [(Str.ofString "_law_way"), (Str.ofString "_law_many"), (Str.ofString "_law_case"), (Str.ofString "_law_cell")] (spF K G_bad) := by
  refine fn_pure F sc_L_bad (fun ds d g => by cases g <;> rfl) fun X hb hf S ds d g => ?_
  have cx := hb.cxt
  have n0 : n_L_bad[0]? = some (Str.ofString "_law_way") := rfl
  have n1 : n_L_bad[1]? = some (Str.ofString "_law_many") := rfl
  have n2 : n_L_bad[2]? = some (Str.ofString "_law_case") := rfl
  have n3 : n_L_bad[3]? = some (Str.ofString "_law_cell") := rfl
  have n4 : n_L_bad[4]? = some (Str.ofString "_law_some") := rfl
  have n5 : n_L_bad[5]? = some (Str.ofString "_law_kinds") := rfl
  cases g with
  | mk w m c cell d h1 h2 hl h0 hB =>
    have r : ∀ k : Int, 0 < k → 0 ≤ cell % k ∧ cell % k < k := fun k hk => ⟨Int.emod_nonneg _ (by omega), Int.emod_lt_of_pos _ hk⟩
    have hc1 := cutD_le c (some 1) none
    have hc2 := cutD_le c none (some (-1))
    have hcl : c.length ≤ 5 := by omega
    have hk1 := cutD_le (somesL m) (some 1) none
    have hkl : (somesL m).length ≤ 5 := by unfold somesL; rw [List.length_replicate]; omega
    have r8 := r 8 (by decide)
    have r10 := r 10 (by decide)
    have r6 := r 6 (by decide)
    have r9 := r 9 (by decide)
    have a8 : atI ((bcL m c).map csD) (cell % 8) = some (csD (atZ (bcL m c) (cell % 8))) := by
      rw [atI_map, atZ_ok r8.1 (by show _ < ((8 : Nat) : Int); exact r8.2)]
      rfl
    have a10 : atI ((btL m).map thD) (cell % 10) = some (thD (atZ (btL m) (cell % 10))) := by
      rw [atI_map, atZ_ok r10.1 (by show _ < ((10 : Nat) : Int); exact r10.2)]
      rfl
    have a6 : atI ((bnL m).map thD) (cell % 6) = some (thD (atZ (bnL m) (cell % 6))) := by
      rw [atI_map, atZ_ok r6.1 (by show _ < ((6 : Nat) : Int); exact r6.2)]
      rfl
    have a9 : atI ((bkL m).map kdD) (cell % 9) = some (kdD (atZ (bkL m) (cell % 9))) := by
      rw [atI_map, atZ_ok r9.1 (by show _ < ((9 : Nat) : Int); exact r9.2)]
      rfl
    have am : atI (bmL.map thD) (cell % 6) = some (thD (atZ bmL (cell % 6))) := by
      rw [atI_map, atZ_ok r6.1 (by show _ < ((6 : Nat) : Int); exact r6.2)]
      rfl
    change Ws X S [.val (.int w), .val (.int m), .val (eL c), .val (.int cell), .no, .no] (_ :: _) _
    walk_at "when"
    · intro q
      rw [bad_lt hB (of_decide_eq_true q)]
      walk_at "setN"
      · exact lenLine (by rw [List.length_map]; show 1 + _ ≤ _; omega)
      · exact lenLine (by rw [List.length_map]; show 1 + _ ≤ _; omega)
      apply ws_frz (i := 4) rfl
      dsimp only [cp]
      walk_at "ret"
      · exact a8
      exact rfl
    intro q1
    walk_at "when"
    · intro q
      rw [bad_3 hB (of_decide_eq_true q)]
      walk_at "ret"
      · exact a10
      exact rfl
    intro q3
    walk_at "when"
    · intro q
      rw [bad_4 hB (of_decide_eq_true q)]
      walk_at "ret"
      · exact a6
      exact rfl
    intro q4
    walk_at "when"
    · intro q
      rw [bad_5 hB (of_decide_eq_true q)]
      walk_at "setN"
      · exact lenLine (by show 1 * _ ≤ _; omega)
      rw [show (List.replicate m.toNat [Dt.str (Str.ofString "some")]).flatten = (somesL m).map (fun d => d) by unfold somesL sD; simp]
      apply ws_frz (i := 5) rfl
      dsimp only [cp]
      walk_at "setN"
      · exact lenLine (by rw [List.length_map]; show 1 + _ ≤ _; omega)
      · exact lenLine (by rw [List.length_map]; show 1 + _ ≤ _; omega)
      apply ws_frz (i := 4) rfl
      dsimp only [cp]
      walk_at "ret"
      · rw [← a9]
        simp only [List.map_id']
        rfl
      exact rfl
    intro q5
    walk_at "when"
    · intro q
      rw [bad_6 hB (of_decide_eq_false q1) (of_decide_eq_false q3) (of_decide_eq_false q4) (of_decide_eq_false q5) (of_decide_eq_true q)]
      have hG : Gg G_bad_sentence [.int m, .int cell] (atZ (bsL m) (cell % 20)) := ⟨.mk m cell h1 h2 h0⟩
      walk_at "ret"
      exact rfl
    intro q
    rw [bad_8 hB (of_decide_eq_false q)]
    walk_at "ret"
    · exact am
    exact rfl
theorem ok_is_whole {f : Addr} {fd : FuncData} (F : Fun K (Str.ofString "is_whole") (Str.ofString "is_whole") s_is_whole f fd) (m_isinstance : mg (Str.ofString "isinstance") = none) (m_int : mg (Str.ofString "int") = none) (m_bool : mg (Str.ofString "bool") = none) : FnOk P w K mg base CX0 1 f fd [(Str.ofString "thing")] (spF K G_whole) := by
  refine fn_pure F sc_is_whole (fun ds d g => by cases g <;> rfl) fun X hb hf S ds d g => ?_
  have cx := hb.cxt
  have n0 : n_is_whole[0]? = some (Str.ofString "thing") := rfl
  cases g with
  | mk d h =>
    change Ws X S [.val d] (_ :: _) _
    cases d <;> first | exact absurd rfl h.h | ((walk_at "ret") <;> exact rfl)
theorem ok_is_saying {f : Addr} {fd : FuncData} (F : Fun K (Str.ofString "is_saying") (Str.ofString "is_saying") s_is_saying f fd) (c_is_whole : Cee P w K mg base 1 (Str.ofString "is_whole") G_whole) (m_isinstance : mg (Str.ofString "isinstance") = none) (m_tuple : mg (Str.ofString "tuple") = none) (m_abs : mg (Str.ofString "abs") = none) : FnOk P w K mg base CX0 2 f fd [(Str.ofString "thing"), (Str.ofString "many")] (spF K G_say) := by
  refine fn_pure F sc_is_saying (fun ds d g => by cases g <;> rfl) fun X hb hf S ds d g => ?_
  have cx := hb.cxt
  have n0 : n_is_saying[0]? = some (Str.ofString "thing") := rfl
  have n1 : n_is_saying[1]? = some (Str.ofString "many") := rfl
  have n2 : n_is_saying[2]? = some (Str.ofString "last") := rfl
  have n3 : n_is_saying[3]? = some (Str.ofString "part") := rfl
  cases g with
  | tup ds m h =>
    change Ws X S [.val (.tup ds), .val (.int m), .no, .no] (_ :: _) _
    walk_at "when"
    · intro q; cases q
    intro _
    walk_at "set"
    apply qb_forR (enc := fun d => d) (xs := ds) (fun last => [.val (.tup ds), .val (.int m), .val (.int last), .no]) (fun r last => 0 ≤ last ∧ sayD r last m = sayD ds 0 m) 0; walk_at "forR"
    · rw [List.map_id']; walk_at "ev"
    · exact ⟨.inr rfl, .inr rfl, .inr rfl, .inl rfl, trivial⟩
    · exact ⟨Int.le_refl _, rfl⟩
    · intro d r last hd hI
      have hk := h d hd
      cases d with
      | int p =>
        walk_at "when"
        · intro hc
          walk_at "ret"
          show _ = _
          have hc' : (decide ((p.natAbs : Int) ≤ last) || decide (m < (p.natAbs : Int))) = true := hc
          rw [← hI.2, sayD, if_pos hc']
        · intro hc
          walk_at "set"
          apply ws_nil
          refine ⟨_, ⟨.inr rfl, .inr rfl, .inr rfl, .inl rfl, trivial⟩, ?_⟩
          have hc' : ¬ (decide ((p.natAbs : Int) ≤ last) || decide (m < (p.natAbs : Int))) = true := fun z => absurd (hc.symm.trans z) (by decide)
          rw [← hI.2, sayD, if_neg hc']
          exact ⟨by omega, rfl⟩
      | _ =>
        (with_reducible apply q_when)
        (with_reducible apply tst_w)
        (with_reducible apply tw_orT)
        walk_at "ev"
        all_goals (try exact hk)
        rfl
        · intro _
          walk_at "ret"
          show _ = _
          rw [← hI.2]; rfl
        · intro hc; cases hc
    · intro last hI
      walk_at "ret"
      show _ = _
      rw [← hI.2]; rfl
  | _ =>
    change Ws X S [.val _, .val _, .no, .no] (_ :: _) _
    (with_reducible apply q_when)
    walk_at "ev"
    · intro _
      walk_at "ret"
      exact rfl
    · intro hc; cases hc
theorem okX_checked {f : Addr} {fd : FuncData} (F : Fun K (Str.ofString "checked") (Str.ofString "checked") s_checked f fd) (c_is_whole : Cee P w K mg base 1 (Str.ofString "is_whole") G_whole) (c_is_saying : Cee P w K mg base 2 (Str.ofString "is_saying") G_say) (m_list : mg (Str.ofString "list") = none) (m_isinstance : mg (Str.ofString "isinstance") = none) (m_len : mg (Str.ofString "len") = none) (g_THINGS_sayings : Gcon K mg (Str.ofString "THINGS_sayings") 16) (g_SAYINGS : Gcon K mg (Str.ofString "SAYINGS") 24) {C_NoSayings : Addr} (e_NoSayings : ExK K mg (Str.ofString "NoSayings") C_NoSayings) : FnOk P w K mg base (L2.CX P w) 3 f fd [(Str.ofString "sayings"), (Str.ofString "many")] (spX K mg GX_checked) := by
  refine fn_raise F sc_checked (fun ds n g => by cases g <;> rfl) fun X hb hf S ds n g hl => ?_
  have cx := hb.cxt
  have n0 : n_checked[0]? = some (Str.ofString "sayings") := rfl
  have n1 : n_checked[1]? = some (Str.ofString "many") := rfl
  have n2 : n_checked[2]? = some (Str.ofString "saying") := rfl
  cases g with
  | mk g c hg hc h =>
    change Ws X S [.val (tgD g), .val (thD c), .no] (_ :: _) _
    cases c with
    | tp ds => exact hc.elim
    | ls ds => exact hc.elim
    | nt m =>
      cases g with
      | li ts =>
        rw [show tgD (.li ts) = .lst (ts.map thD) from rfl, show thD (.nt m) = .int m from rfl]
        have hl24 := hg.2
        walk_at "when"
        · intro _
          exact q_raise hl hb e_NoSayings (by decide +kernel)
        intro q
        have hb2 : 1 ≤ m ∧ m ≤ 16 ∧ ts.length ≤ 24 := by
          simp [isI] at q
          omega
        have hall : ¬ ∀ t ∈ ts, sayB m t = true := fun z => by
          unfold areB at h
          simp only [decide_eq_true hb2.1, decide_eq_true hb2.2.1, decide_eq_true hb2.2.2, Bool.true_and] at h
          rw [List.all_eq_true.mpr z] at h
          cases h
        apply qb_forR (enc := thD) (xs := ts) (fun _ : Unit => [.val (.lst (ts.map thD)), .val (.int m), .no]) (fun r _ => ¬ ∀ t ∈ r, sayB m t = true) (); walk_at "forR"
        · walk_at "ev"
        · exact Fg.refl _
        · exact hall
        · intro t r _ ht hI
          walk_at "when"
          · exact ⟨say_th (hg.1 t ht)⟩
          · intro _
            exact q_raise hl hb e_NoSayings (by decide +kernel)
          · intro q
            have q : sayB m t = true := by simpa using q
            apply ws_nil
            refine ⟨(), ⟨.inr rfl, .inr rfl, .inl rfl, trivial⟩, fun z => hI fun u hu => ?_⟩
            rcases List.mem_cons.mp hu with rfl | hu
            · exact q
            · exact z u hu
        · intro _ hI
          exfalso
          exact hI fun t ht => by cases ht
      | tu ds =>
        rw [show tgD (.tu ds) = .tup ds from rfl, show thD (.nt m) = .int m from rfl]
        walk_at "when"
        · intro _
          exact q_raise hl hb e_NoSayings (by decide +kernel)
        · intro q
          exfalso
          simp at q
      | no =>
        rw [show tgD .no = .non from rfl, show thD (.nt m) = .int m from rfl]
        apply q_when
        · apply tst_w
          apply tw_or
          · walk_at "ev"
          · intro _
            apply tw_or
            · walk_at "ev"
            · intro _
              apply tw_or
              · walk_at "ev"
              · intro _
                apply tw_orT
                · walk_at "ev"
                · rfl
        · intro _
          exact q_raise hl hb e_NoSayings (by decide +kernel)
        · intro q
          exfalso
          simp at q
    | bo b =>
      rw [show thD (.bo b) = .bl b from rfl]
      (with_reducible apply q_when)
      (with_reducible apply tst_w)
      (with_reducible apply tw_orT)
      · walk_at "ev"
      · rfl
      · intro _
        exact q_raise hl hb e_NoSayings (by decide +kernel)
      · intro q; cases q
    | st t =>
      rw [show thD (.st t) = .str t from rfl]
      (with_reducible apply q_when)
      (with_reducible apply tst_w)
      (with_reducible apply tw_orT)
      · walk_at "ev"
      · rfl
      · intro _
        exact q_raise hl hb e_NoSayings (by decide +kernel)
      · intro q; cases q
    | no =>
      rw [show thD .no = .non from rfl]
      (with_reducible apply q_when)
      (with_reducible apply tst_w)
      (with_reducible apply tw_orT)
      · walk_at "ev"
      · rfl
      · intro _
        exact q_raise hl hb e_NoSayings (by decide +kernel)
      · intro q; cases q
theorem okX_cases {f : Addr} {fd : FuncData} (F : Fun K (Str.ofString "cases") (Str.ofString "cases") s_cases f fd) (r_checked : CeeX P w K mg base 3 (Str.ofString "checked") GX_checked) : FnOk P w K mg base (L2.CX P w) 5 f fd [(Str.ofString "sayings"), (Str.ofString "many")] (spX K mg GX_checked) := by
  refine fn_raise F sc_cases (fun ds n g => by cases g <;> rfl) fun X hb hf S ds n g hl => ?_
  have cx := hb.cxt
  have n0 : n_cases[0]? = some (Str.ofString "sayings") := rfl
  have n1 : n_cases[1]? = some (Str.ofString "many") := rfl
  cases g with
  | mk g c hg hc h =>
    change Ws X S [.val (tgD g), .val (thD c)] (_ :: _) _
    apply q_dropX rfl hl
    walk_at "callX"
    exact GX_checked.mk g c hg hc h
theorem okX_settled {f : Addr} {fd : FuncData} (F : Fun K (Str.ofString "settled") (Str.ofString "settled") s_settled f fd) (r_checked : CeeX P w K mg base 3 (Str.ofString "checked") GX_checked) (m_range : mg (Str.ofString "range") = none) (m_min : mg (Str.ofString "min") = none) (m_max : mg (Str.ofString "max") = none) : FnOk P w K mg base (L2.CX P w) 5 f fd [(Str.ofString "sayings"), (Str.ofString "many")] (spX K mg GX_checked) := by
  refine fn_raise F sc_settled (fun ds n g => by cases g <;> rfl) fun X hb hf S ds n g hl => ?_
  have cx := hb.cxt
  have n0 : n_settled[0]? = some (Str.ofString "sayings") := rfl
  have n1 : n_settled[1]? = some (Str.ofString "many") := rfl
  have n2 : n_settled[2]? = some (Str.ofString "found") := rfl
  have n3 : n_settled[3]? = some (Str.ofString "made") := rfl
  have n4 : n_settled[4]? = some (Str.ofString "thing") := rfl
  have n5 : n_settled[5]? = some (Str.ofString "values") := rfl
  have n6 : n_settled[6]? = some (Str.ofString "case") := rfl
  cases g with
  | mk g c hg hc h =>
    change Ws X S [.val (tgD g), .val (thD c), .no, .no, .no, .no, .no] (_ :: _) _
    apply q_dropX rfl hl
    walk_at "callX"
    exact GX_checked.mk g c hg hc h
theorem okX_case_or_clash {f : Addr} {fd : FuncData} (F : Fun K (Str.ofString "case_or_clash") (Str.ofString "case_or_clash") s_case_or_clash f fd) (r_checked : CeeX P w K mg base 3 (Str.ofString "checked") GX_checked) : FnOk P w K mg base (L2.CX P w) 11 f fd [(Str.ofString "sayings"), (Str.ofString "many")] (spX K mg GX_checked) := by
  refine fn_raise F sc_case_or_clash (fun ds n g => by cases g <;> rfl) fun X hb hf S ds n g hl => ?_
  have cx := hb.cxt
  have n0 : n_case_or_clash[0]? = some (Str.ofString "sayings") := rfl
  have n1 : n_case_or_clash[1]? = some (Str.ofString "many") := rfl
  have n2 : n_case_or_clash[2]? = some (Str.ofString "case") := rfl
  have n3 : n_case_or_clash[3]? = some (Str.ofString "steps") := rfl
  cases g with
  | mk g c hg hc h =>
    change Ws X S [.val (tgD g), .val (thD c), .no, .no] (_ :: _) _
    apply q_dropX rfl hl
    walk_at "callX"
    exact GX_checked.mk g c hg hc h
theorem ok_checked {f : Addr} {fd : FuncData} (F : Fun K (Str.ofString "checked") (Str.ofString "checked") s_checked f fd) (c_is_whole : Cee P w K mg base 1 (Str.ofString "is_whole") G_whole) (c_is_saying : Cee P w K mg base 2 (Str.ofString "is_saying") G_say) (m_list : mg (Str.ofString "list") = none) (m_isinstance : mg (Str.ofString "isinstance") = none) (m_len : mg (Str.ofString "len") = none) (g_THINGS_sayings : Gcon K mg (Str.ofString "THINGS_sayings") 16) (g_SAYINGS : Gcon K mg (Str.ofString "SAYINGS") 24) : FnOk P w K mg base CX0 3 f fd [(Str.ofString "sayings"), (Str.ofString "many")] (spF K G_checked) := by
  refine fn_pure F sc_checked (fun ds d g => by cases g <;> rfl) fun X hb hf S ds d g => ?_
  have cx := hb.cxt
  have n0 : n_checked[0]? = some (Str.ofString "sayings") := rfl
  have n1 : n_checked[1]? = some (Str.ofString "many") := rfl
  have n2 : n_checked[2]? = some (Str.ofString "saying") := rfl
  cases g with
  | mk xs m h1 h2 h3 h =>
    change Ws X S [.val (eLT xs), .val (.int m), .no] (_ :: _) _
    walk_at "when"
    · intro hc
      exfalso
      simp [isI] at hc
      omega
    intro _
    apply qb_forR (enc := eT) (xs := xs) (fun _ : Unit => [.val (eLT xs), .val (.int m), .no]) (fun r _ => True) (); walk_at "forR"
    · walk_at "ev"
    · exact ⟨.inr rfl, .inr rfl, .inl rfl, trivial⟩
    · trivial
    · intro x r _ hx _
      walk_at "when"
      · intro hc
        exfalso
        rw [sayD_say (h x hx)] at hc
        cases hc
      · intro _
        apply ws_nil
        exact ⟨(), ⟨.inr rfl, .inr rfl, .inl rfl, trivial⟩, trivial⟩
    · intro _ _
      walk_at "ret"
      exact rfl
theorem okX_follows {f : Addr} {fd : FuncData} (F : Fun K (Str.ofString "follows") (Str.ofString "follows") s_follows f fd) (c_checked : Cee P w K mg base 3 (Str.ofString "checked") G_checked) (c_is_saying : Cee P w K mg base 2 (Str.ofString "is_saying") G_say) (r_checked : CeeX P w K mg base 3 (Str.ofString "checked") GX_checked) {C_NoSaying : Addr} (e_NoSaying : ExK K mg (Str.ofString "NoSaying") C_NoSaying) : FnOk P w K mg base (L2.CX P w) 11 f fd [(Str.ofString "sayings"), (Str.ofString "many"), (Str.ofString "saying")] (spX K mg GX_follows) := by
  refine fn_raise F sc_follows (fun ds n g => by cases g <;> rfl) fun X hb hf S ds n g hl => ?_
  have cx := hb.cxt
  have n0 : n_follows[0]? = some (Str.ofString "sayings") := rfl
  have n1 : n_follows[1]? = some (Str.ofString "many") := rfl
  have n2 : n_follows[2]? = some (Str.ofString "saying") := rfl
  have n3 : n_follows[3]? = some (Str.ofString "given") := rfl
  have n4 : n_follows[4]? = some (Str.ofString "part") := rfl
  have n5 : n_follows[5]? = some (Str.ofString "case") := rfl
  have n6 : n_follows[6]? = some (Str.ofString "steps") := rfl
  cases g with
  | say g c x hg hc h =>
    change Ws X S [.val (tgD g), .val (thD c), .val x, .no, .no, .no, .no] (_ :: _) _
    apply q_dropX rfl hl
    walk_at "callX"
    exact GX_checked.mk g c hg hc h
  | one t m h1 h2 h hv =>
    change Ws X S [.val (.lst []), .val (.int m), .val (thD t), .no, .no, .no, .no] (_ :: _) _
    have hG : Gg G_checked [.lst [], .int m] (eLT []) := ⟨.mk [] m h1 (by omega) (by decide) (fun x hx => by cases hx)⟩
    walk_at "call"
    have hS : Gg G_say [thD t, .int m] (.bl (sayB m t)) := ⟨say_th h⟩
    walk_at "when"
    · intro _
      exact q_raise hl hb e_NoSaying (by decide +kernel)
    · rw [hv]
      intro q; cases q
theorem okX_sharpest {f : Addr} {fd : FuncData} (F : Fun K (Str.ofString "sharpest") (Str.ofString "sharpest") s_sharpest f fd) (r_checked : CeeX P w K mg base 3 (Str.ofString "checked") GX_checked) : FnOk P w K mg base (L2.CX P w) 6 f fd [(Str.ofString "sayings"), (Str.ofString "many")] (spX K mg GX_checked) := by
  refine fn_raise F sc_sharpest (fun ds n g => by cases g <;> rfl) fun X hb hf S ds n g hl => ?_
  have cx := hb.cxt
  have n0 : n_sharpest[0]? = some (Str.ofString "sayings") := rfl
  have n1 : n_sharpest[1]? = some (Str.ofString "many") := rfl
  cases g with
  | mk g c hg hc h =>
    change Ws X S [.val (tgD g), .val (thD c)] (_ :: _) _
    apply q_dropX rfl hl
    walk_at "callX"
    exact GX_checked.mk g c hg hc h
theorem okX_alike {f : Addr} {fd : FuncData} (F : Fun K (Str.ofString "alike") (Str.ofString "alike") s_alike f fd) (c_checked : Cee P w K mg base 3 (Str.ofString "checked") G_checked) (r_checked : CeeX P w K mg base 3 (Str.ofString "checked") GX_checked) : FnOk P w K mg base (L2.CX P w) 4 f fd [(Str.ofString "one"), (Str.ofString "other"), (Str.ofString "many")] (spX K mg GX_al) := by
  refine fn_raise F sc_alike (fun ds n g => by cases g <;> rfl) fun X hb hf S ds n g hl => ?_
  have cx := hb.cxt
  have n0 : n_alike[0]? = some (Str.ofString "one") := rfl
  have n1 : n_alike[1]? = some (Str.ofString "other") := rfl
  have n2 : n_alike[2]? = some (Str.ofString "many") := rfl
  have n3 : n_alike[3]? = some (Str.ofString "case") := rfl
  cases g with
  | one g c hg hc h =>
    change Ws X S [.val (tgD g), .val (.lst []), .val (thD c), .no] (_ :: _) _
    apply q_dropX rfl hl
    walk_at "callX"
    exact GX_checked.mk g c hg hc h
  | two g c hg hc h =>
    change Ws X S [.val (.lst []), .val (tgD g), .val (thD c), .no] (_ :: _) _
    cases e : areB (.li []) c with
    | false =>
      apply q_dropX rfl hl
      walk_at "callX"
      exact GX_checked.mk (.li []) c ⟨(fun t ht => by cases ht), Nat.zero_le _⟩ hc e
    | true =>
      obtain ⟨m, xs, rfl, _, h1, h2, _, _⟩ := are_true e
      rw [show thD (.nt m) = .int m from rfl]
      have hG : Gg G_checked [.lst [], .int m] (eLT []) := ⟨.mk [] m h1 h2 (by decide) (fun x hx => by cases hx)⟩
      walk_at "call"
      apply q_dropX rfl hl
      walk_at "callX"
      exact GX_checked.mk g (.nt m) hg hc h
theorem okX_least_clash {f : Addr} {fd : FuncData} (F : Fun K (Str.ofString "least_clash") (Str.ofString "least_clash") s_least_clash f fd) (r_checked : CeeX P w K mg base 3 (Str.ofString "checked") GX_checked) (m_range : mg (Str.ofString "range") = none) (m_len : mg (Str.ofString "len") = none) : FnOk P w K mg base (L2.CX P w) 12 f fd [(Str.ofString "sayings"), (Str.ofString "many")] (spX K mg GX_checked) := by
  refine fn_raise F sc_least_clash (fun ds n g => by cases g <;> rfl) fun X hb hf S ds n g hl => ?_
  have cx := hb.cxt
  have n0 : n_least_clash[0]? = some (Str.ofString "sayings") := rfl
  have n1 : n_least_clash[1]? = some (Str.ofString "many") := rfl
  have n2 : n_least_clash[2]? = some (Str.ofString "left") := rfl
  have n3 : n_least_clash[3]? = some (Str.ofString "k") := rfl
  have n4 : n_least_clash[4]? = some (Str.ofString "fewer") := rfl
  have n5 : n_least_clash[5]? = some (Str.ofString "place") := rfl
  cases g with
  | mk g c hg hc h =>
    change Ws X S [.val (tgD g), .val (thD c), .no, .no, .no, .no] (_ :: _) _
    apply q_dropX rfl hl
    walk_at "callX"
    exact GX_checked.mk g c hg hc h
theorem okX_between {f : Addr} {fd : FuncData} (F : Fun K (Str.ofString "between") (Str.ofString "between") s_between f fd) (c_checked : Cee P w K mg base 3 (Str.ofString "checked") G_checked) (r_checked : CeeX P w K mg base 3 (Str.ofString "checked") GX_checked) (m_all : mg (Str.ofString "all") = none) (m_abs : mg (Str.ofString "abs") = none) : FnOk P w K mg base (L2.CX P w) 11 f fd [(Str.ofString "one"), (Str.ofString "other"), (Str.ofString "many")] (spX K mg GX_al) := by
  refine fn_raise F sc_between (fun ds n g => by cases g <;> rfl) fun X hb hf S ds n g hl => ?_
  have cx := hb.cxt
  have n0 : n_between[0]? = some (Str.ofString "one") := rfl
  have n1 : n_between[1]? = some (Str.ofString "other") := rfl
  have n2 : n_between[2]? = some (Str.ofString "many") := rfl
  have n3 : n_between[3]? = some (Str.ofString "case") := rfl
  have n4 : n_between[4]? = some (Str.ofString "here") := rfl
  have n5 : n_between[5]? = some (Str.ofString "there") := rfl
  have n6 : n_between[6]? = some (Str.ofString "made") := rfl
  have n7 : n_between[7]? = some (Str.ofString "saying") := rfl
  have n8 : n_between[8]? = some (Str.ofString "part") := rfl
  cases g with
  | one g c hg hc h =>
    change Ws X S [.val (tgD g), .val (.lst []), .val (thD c), .no, .no, .no, .no, .no, .no] (_ :: _) _
    apply q_dropX rfl hl
    walk_at "callX"
    exact GX_checked.mk g c hg hc h
  | two g c hg hc h =>
    change Ws X S [.val (.lst []), .val (tgD g), .val (thD c), .no, .no, .no, .no, .no, .no] (_ :: _) _
    cases e : areB (.li []) c with
    | false =>
      apply q_dropX rfl hl
      walk_at "callX"
      exact GX_checked.mk (.li []) c ⟨(fun t ht => by cases ht), Nat.zero_le _⟩ hc e
    | true =>
      obtain ⟨m, xs, rfl, _, h1, h2, _, _⟩ := are_true e
      rw [show thD (.nt m) = .int m from rfl]
      have hG : Gg G_checked [.lst [], .int m] (eLT []) := ⟨.mk [] m h1 h2 (by decide) (fun x hx => by cases hx)⟩
      walk_at "call"
      apply q_dropX rfl hl
      walk_at "callX"
      exact GX_checked.mk g (.nt m) hg hc h
theorem okX_forgotten {f : Addr} {fd : FuncData} (F : Fun K (Str.ofString "forgotten") (Str.ofString "forgotten") s_forgotten f fd) (c_checked : Cee P w K mg base 3 (Str.ofString "checked") G_checked) (c_is_whole : Cee P w K mg base 1 (Str.ofString "is_whole") G_whole) (r_checked : CeeX P w K mg base 3 (Str.ofString "checked") GX_checked) (m_sorted : mg (Str.ofString "sorted") = none) (m_list : mg (Str.ofString "list") = none) {C_NoThing : Addr} (e_NoThing : ExK K mg (Str.ofString "NoThing") C_NoThing) : FnOk P w K mg base (L2.CX P w) 4 f fd [(Str.ofString "sayings"), (Str.ofString "many"), (Str.ofString "thing")] (spX K mg GX_forgotten) := by
  refine fn_raise F sc_forgotten (fun ds n g => by cases g <;> rfl) fun X hb hf S ds n g hl => ?_
  have cx := hb.cxt
  have n0 : n_forgotten[0]? = some (Str.ofString "sayings") := rfl
  have n1 : n_forgotten[1]? = some (Str.ofString "many") := rfl
  have n2 : n_forgotten[2]? = some (Str.ofString "thing") := rfl
  have n3 : n_forgotten[3]? = some (Str.ofString "made") := rfl
  have n4 : n_forgotten[4]? = some (Str.ofString "saying") := rfl
  have n5 : n_forgotten[5]? = some (Str.ofString "other") := rfl
  have n6 : n_forgotten[6]? = some (Str.ofString "together") := rfl
  cases g with
  | say g c x hg hc h =>
    change Ws X S [.val (tgD g), .val (thD c), .val x, .no, .no, .no, .no] (_ :: _) _
    apply q_dropX rfl hl
    walk_at "callX"
    exact GX_checked.mk g c hg hc h
  | thing t m h1 h2 h hv =>
    change Ws X S [.val (.lst []), .val (.int m), .val (thD t), .no, .no, .no, .no] (_ :: _) _
    have hG : Gg G_checked [.lst [], .int m] (eLT []) := ⟨.mk [] m h1 (by omega) (by decide) (fun x hx => by cases hx)⟩
    walk_at "call"
    cases t with
    | tp ds => exact h.elim
    | ls ds => exact h.elim
    | nt i =>
      rw [show thD (.nt i) = .int i from rfl]
      have hv2 : ¬ (1 ≤ i ∧ i ≤ m) := fun z => by
        unfold thingB at hv
        simp [z] at hv
      walk_at "when"
      · intro _
        exact q_raise hl hb e_NoThing (by decide +kernel)
      · intro q
        exfalso
        simp [isI] at q
        omega
    | bo b =>
      rw [show thD (.bo b) = .bl b from rfl]
      (with_reducible apply q_when)
      (with_reducible apply tst_w)
      (with_reducible apply tw_orT)
      · walk_at "ev"
      · rfl
      · intro _
        exact q_raise hl hb e_NoThing (by decide +kernel)
      · intro q; cases q
    | st s =>
      rw [show thD (.st s) = .str s from rfl]
      (with_reducible apply q_when)
      (with_reducible apply tst_w)
      (with_reducible apply tw_orT)
      · walk_at "ev"
      · rfl
      · intro _
        exact q_raise hl hb e_NoThing (by decide +kernel)
      · intro q; cases q
    | no =>
      rw [show thD .no = .non from rfl]
      (with_reducible apply q_when)
      (with_reducible apply tst_w)
      (with_reducible apply tw_orT)
      · walk_at "ev"
      · rfl
      · intro _
        exact q_raise hl hb e_NoThing (by decide +kernel)
      · intro q; cases q
theorem okX_least_case {f : Addr} {fd : FuncData} (F : Fun K (Str.ofString "least_case") (Str.ofString "least_case") s_least_case f fd) (r_checked : CeeX P w K mg base 3 (Str.ofString "checked") GX_checked) (m_int : mg (Str.ofString "int") = none) (m_range : mg (Str.ofString "range") = none) : FnOk P w K mg base (L2.CX P w) 4 f fd [(Str.ofString "sayings"), (Str.ofString "many")] (spX K mg GX_checked) := by
  refine fn_raise F sc_least_case (fun ds n g => by cases g <;> rfl) fun X hb hf S ds n g hl => ?_
  have cx := hb.cxt
  have n0 : n_least_case[0]? = some (Str.ofString "sayings") := rfl
  have n1 : n_least_case[1]? = some (Str.ofString "many") := rfl
  have n2 : n_least_case[2]? = some (Str.ofString "known") := rfl
  have n3 : n_least_case[3]? = some (Str.ofString "order") := rfl
  have n4 : n_least_case[4]? = some (Str.ofString "found") := rfl
  have n5 : n_least_case[5]? = some (Str.ofString "thing") := rfl
  cases g with
  | mk g c hg hc h =>
    change Ws X S [.val (tgD g), .val (thD c), .no, .no, .no, .no] (_ :: _) _
    apply q_dropX rfl hl
    walk_at "callX"
    exact GX_checked.mk g c hg hc h
theorem okX_need_kinds {f : Addr} {fd : FuncData} (F : Fun K (Str.ofString "need_kinds") (Str.ofString "need_kinds") s_need_kinds f fd) (m_isinstance : mg (Str.ofString "isinstance") = none) (m_list : mg (Str.ofString "list") = none) (m_len : mg (Str.ofString "len") = none) (m_str : mg (Str.ofString "str") = none) {C_NoKinds : Addr} (e_NoKinds : ExK K mg (Str.ofString "NoKinds") C_NoKinds) : FnOk P w K mg base (L2.CX P w) 1 f fd [(Str.ofString "kinds"), (Str.ofString "many")] (spX K mg GX_need_kinds) := by
  refine fn_raise F sc_need_kinds (fun ds n g => by cases g <;> rfl) fun X hb hf S ds n g hl => ?_
  have cx := hb.cxt
  have n0 : n_need_kinds[0]? = some (Str.ofString "kinds") := rfl
  have n1 : n_need_kinds[1]? = some (Str.ofString "many") := rfl
  have n2 : n_need_kinds[2]? = some (Str.ofString "kind") := rfl
  cases g with
  | mk b m h hv =>
    change Ws X S [.val (kdD b), .val (.int m), .no] (_ :: _) _
    cases b with
    | li ds =>
      rw [show kdD (.li ds) = .lst (ds.map fun d => d) by rw [List.map_id']; rfl]
      have hcB : kindsB m (.li ds) = (decide ((ds.length : Int) = m) && ds.all kindB) := rfl
      walk_at "when"
      · intro _
        exact q_raise hl hb e_NoKinds (by decide +kernel)
      intro q
      have q : (ds.length : Int) = m := by simpa using q
      rw [hcB, decide_eq_true q, Bool.true_and] at hv
      apply qb_forR (enc := fun d : Dt => d) (xs := ds) (fun _ : Unit => [.val (.lst (ds.map fun d => d)), .val (.int m), .no]) (fun r _ => r.all kindB = false) (); walk_at "forR"
      · walk_at "ev"
      · exact Fg.refl _
      · exact hv
      · intro d r _ hd hI
        have hk := good_mem h hd
        rw [List.all_cons] at hI
        have step : kindB d = true → ∀ Γ' : Ct, Fg Γ' [.val (.lst (ds.map fun d => d)), .val (.int m), .no] → ∃ s' : Unit, Fg Γ' [.val (.lst (ds.map fun d => d)), .val (.int m), .no] ∧ r.all kindB = false := fun e Γ' hF => by
          rw [e, Bool.true_and] at hI
          exact ⟨(), hF, hI⟩
        cases d with
        | str s =>
          walk_at "when"
          · intro _
            exact q_raise hl hb e_NoKinds (by decide +kernel)
          · intro q
            apply ws_nil
            apply step
            · by_cases e : s = Str.ofString "some"
              · simp [kindB, e]
              · simp [kindB, e]
                simpa [e] using q
            · exact ⟨.inr rfl, .inr rfl, .inl rfl, trivial⟩
        | dct _ => cases hk
        | scr _ => cases hk
        | ty _ => cases hk
        | dcl _ => cases hk
        | adr _ => cases hk
        | _ =>
          (with_reducible apply q_when)
          (with_reducible apply tst_w)
          (with_reducible apply tw_orT)
          walk_at "ev"
          rfl
          · intro _
            exact q_raise hl hb e_NoKinds (by decide +kernel)
          · intro hc; cases hc
      · intro _ hI
        cases hI
    | tu ds =>
      rw [show kdD (.tu ds) = .tup ds from rfl]
      walk_at "when"
      · intro _
        exact q_raise hl hb e_NoKinds (by decide +kernel)
      · intro q
        exfalso
        simp at q
    | st s =>
      rw [show kdD (.st s) = .str s from rfl]
      (with_reducible apply q_when)
      (with_reducible apply tst_w)
      (with_reducible apply tw_orT)
      · walk_at "ev"
      · rfl
      · intro _
        exact q_raise hl hb e_NoKinds (by decide +kernel)
      · intro q; cases q
    | no =>
      rw [show kdD .no = .non from rfl]
      (with_reducible apply q_when)
      (with_reducible apply tst_w)
      (with_reducible apply tw_orT)
      · walk_at "ev"
      · rfl
      · intro _
        exact q_raise hl hb e_NoKinds (by decide +kernel)
      · intro q; cases q
theorem okX_played {f : Addr} {fd : FuncData} (F : Fun K (Str.ofString "played") (Str.ofString "played") s_played f fd) (c_checked : Cee P w K mg base 3 (Str.ofString "checked") G_checked) (r_checked : CeeX P w K mg base 3 (Str.ofString "checked") GX_checked) (r_need_kinds : CeeX P w K mg base 1 (Str.ofString "need_kinds") GX_need_kinds) : FnOk P w K mg base (L2.CX P w) 11 f fd [(Str.ofString "sayings"), (Str.ofString "many"), (Str.ofString "kinds")] (spX K mg GX_played) := by
  refine fn_raise F sc_played (fun ds n g => by cases g <;> rfl) fun X hb hf S ds n g hl => ?_
  have cx := hb.cxt
  have n0 : n_played[0]? = some (Str.ofString "sayings") := rfl
  have n1 : n_played[1]? = some (Str.ofString "many") := rfl
  have n2 : n_played[2]? = some (Str.ofString "kinds") := rfl
  cases g with
  | say g c x hg hc h =>
    change Ws X S [.val (tgD g), .val (thD c), .val x] (_ :: _) _
    apply q_dropX rfl hl
    walk_at "callX"
    exact GX_checked.mk g c hg hc h
  | kinds b m h1 h2 h hv =>
    change Ws X S [.val (.lst []), .val (.int m), .val (kdD b)] (_ :: _) _
    have hG : Gg G_checked [.lst [], .int m] (eLT []) := ⟨.mk [] m h1 (by omega) (by decide) (fun x hx => by cases hx)⟩
    walk_at "call"
    apply q_dropX rfl hl
    walk_at "callX"
    exact GX_need_kinds.mk b m h hv
theorem ok_is_case {f : Addr} {fd : FuncData} (F : Fun K (Str.ofString "is_case") (Str.ofString "is_case") s_is_case f fd) (c_is_whole : Cee P w K mg base 1 (Str.ofString "is_whole") G_whole) (m_all : mg (Str.ofString "all") = none) (m_isinstance : mg (Str.ofString "isinstance") = none) (m_list : mg (Str.ofString "list") = none) (m_len : mg (Str.ofString "len") = none) : FnOk P w K mg base CX0 2 f fd [(Str.ofString "thing"), (Str.ofString "many")] (spF K G_is_caseB) := by
  refine fn_pure F sc_is_case (fun ds d g => by cases g <;> rfl) fun X hb hf S ds d g => ?_
  have cx := hb.cxt
  have n0 : n_is_case[0]? = some (Str.ofString "thing") := rfl
  have n1 : n_is_case[1]? = some (Str.ofString "many") := rfl
  have n2 : n_is_case[2]? = some (Str.ofString "value") := rfl
  cases g with
  | mk b m h =>
    change Ws X S [.val (csD b), .val (.int m), .no] (_ :: _) _
    cases b with
    | li ds =>
      rw [show csD (.li ds) = .lst (ds.map fun d => d) by rw [List.map_id']; rfl]
      have hcB : caseB m (.li ds) = (decide ((ds.length : Int) = m) && ds.all bitB) := rfl
      walk_at "when"
      · intro q
        walk_at "ret"
        show Dt.bl false = Dt.bl _
        have q : ¬ (ds.length : Int) = m := by simpa using q
        rw [hcB, decide_eq_false q]
        rfl
      · intro q
        have q : (ds.length : Int) = m := by simpa using q
        walk_at "ret"
        · exact good_knd (good_mem h (by assumption))
        · exact cop_ge0 (by assumption)
        · exact cop_le1 (by assumption)
        show Dt.bl _ = Dt.bl _
        rw [hcB, decide_eq_true q, Bool.true_and]
        congr 1
        exact congrArg (fun f => ds.all f) (funext bit_is)
    | tu ds =>
      rw [show csD (.tu ds) = .tup ds from rfl]
      walk_at "when"
      · intro _
        walk_at "ret"
        exact rfl
      · intro q
        exfalso
        simp at q
    | no =>
      rw [show csD .no = .non from rfl]
      (with_reducible apply q_when)
      (with_reducible apply tst_w)
      (with_reducible apply tw_orT)
      · walk_at "ev"
      · rfl
      · intro _
        walk_at "ret"
        exact rfl
      · intro q; cases q
theorem okX_need_case {f : Addr} {fd : FuncData} (F : Fun K (Str.ofString "need_case") (Str.ofString "need_case") s_need_case f fd) (c_is_case : Cee P w K mg base 2 (Str.ofString "is_case") G_is_caseB) {C_NoCase : Addr} (e_NoCase : ExK K mg (Str.ofString "NoCase") C_NoCase) : FnOk P w K mg base (L2.CX P w) 3 f fd [(Str.ofString "case"), (Str.ofString "many")] (spX K mg GX_need_case) := by
  refine fn_raise F sc_need_case (fun ds n g => by cases g <;> rfl) fun X hb hf S ds n g hl => ?_
  have cx := hb.cxt
  have n0 : n_need_case[0]? = some (Str.ofString "case") := rfl
  have n1 : n_need_case[1]? = some (Str.ofString "many") := rfl
  cases g with
  | mk b m h hv =>
    change Ws X S [.val (csD b), .val (.int m)] (_ :: _) _
    walk_at "when"
    · exact h
    · intro _
      exact q_raise hl hb e_NoCase (by decide +kernel)
    · rw [hv]
      intro q; cases q
theorem okX_fits {f : Addr} {fd : FuncData} (F : Fun K (Str.ofString "fits") (Str.ofString "fits") s_fits f fd) (c_checked : Cee P w K mg base 3 (Str.ofString "checked") G_checked) (r_checked : CeeX P w K mg base 3 (Str.ofString "checked") GX_checked) (r_need_case : CeeX P w K mg base 3 (Str.ofString "need_case") GX_need_case) : FnOk P w K mg base (L2.CX P w) 4 f fd [(Str.ofString "sayings"), (Str.ofString "many"), (Str.ofString "case")] (spX K mg GX_fits) := by
  refine fn_raise F sc_fits (fun ds n g => by cases g <;> rfl) fun X hb hf S ds n g hl => ?_
  have cx := hb.cxt
  have n0 : n_fits[0]? = some (Str.ofString "sayings") := rfl
  have n1 : n_fits[1]? = some (Str.ofString "many") := rfl
  have n2 : n_fits[2]? = some (Str.ofString "case") := rfl
  cases g with
  | say g c x hg hc h =>
    change Ws X S [.val (tgD g), .val (thD c), .val x] (_ :: _) _
    apply q_dropX rfl hl
    walk_at "callX"
    exact GX_checked.mk g c hg hc h
  | case b m h1 h2 h hv =>
    change Ws X S [.val (.lst []), .val (.int m), .val (csD b)] (_ :: _) _
    have hG : Gg G_checked [.lst [], .int m] (eLT []) := ⟨.mk [] m h1 (by omega) (by decide) (fun x hx => by cases hx)⟩
    walk_at "call"
    apply q_dropX rfl hl
    walk_at "callX"
    exact GX_need_case.mk b m h hv
theorem okX_L_with_sayings {f : Addr} {fd : FuncData} (F : Fun K (Str.ofString "_law_with_sayings") (Str.ofString "_law_with_sayings") s_L_with_sayings f fd) (r_cases : CeeX P w K mg base 5 (Str.ofString "cases") GX_checked) (r_settled : CeeX P w K mg base 5 (Str.ofString "settled") GX_checked) (r_case_or_clash : CeeX P w K mg base 11 (Str.ofString "case_or_clash") GX_checked) (r_follows : CeeX P w K mg base 11 (Str.ofString "follows") GX_follows) (r_sharpest : CeeX P w K mg base 6 (Str.ofString "sharpest") GX_checked) (r_alike : CeeX P w K mg base 4 (Str.ofString "alike") GX_al) (r_least_clash : CeeX P w K mg base 12 (Str.ofString "least_clash") GX_checked) (r_between : CeeX P w K mg base 11 (Str.ofString "between") GX_al) (r_forgotten : CeeX P w K mg base 4 (Str.ofString "forgotten") GX_forgotten) (r_least_case : CeeX P w K mg base 4 (Str.ofString "least_case") GX_checked) (r_played : CeeX P w K mg base 11 (Str.ofString "played") GX_played) (r_fits : CeeX P w K mg base 4 (Str.ofString "fits") GX_fits) : FnOk P w K mg base (L2.CX P w) 13 f fd [(Str.ofString "_law_what"), (Str.ofString "_law_bad_here"), (Str.ofString "_law_many")] (spX K mg GX_with_sayings) := by
  refine fn_raise F sc_L_with_sayings (fun ds n g => by cases g <;> rfl) fun X hb hf S ds n g hl => ?_
  have cx := hb.cxt
  have n0 : n_L_with_sayings[0]? = some (Str.ofString "_law_what") := rfl
  have n1 : n_L_with_sayings[1]? = some (Str.ofString "_law_bad_here") := rfl
  have n2 : n_L_with_sayings[2]? = some (Str.ofString "_law_many") := rfl
  cases g with
  | mk w g c h0 h1 hg hc h =>
    change Ws X S [.val (.int w), .val (tgD g), .val (thD c)] (_ :: _) _
    walk_at "when"
    · intro _
      apply q_retX hl
      walk_at "callX"
      exact GX_checked.mk g c hg hc h
    intro q0
    walk_at "when"
    · intro _
      apply q_retX hl
      walk_at "callX"
      exact GX_checked.mk g c hg hc h
    intro q1
    walk_at "when"
    · intro _
      apply q_retX hl
      walk_at "callX"
      exact GX_checked.mk g c hg hc h
    intro q2
    walk_at "when"
    · intro _
      apply q_retX hl
      walk_at "callX"
      exact GX_follows.say g c _ hg hc h
    intro q3
    walk_at "when"
    · intro _
      apply q_retX hl
      walk_at "callX"
      exact GX_checked.mk g c hg hc h
    intro q4
    walk_at "when"
    · intro _
      apply q_retX hl
      walk_at "callX"
      exact GX_al.one g c hg hc h
    intro q5
    walk_at "when"
    · intro _
      apply q_retX hl
      walk_at "callX"
      exact GX_al.two g c hg hc h
    intro q6
    walk_at "when"
    · intro _
      apply q_retX hl
      walk_at "callX"
      exact GX_checked.mk g c hg hc h
    intro q7
    walk_at "when"
    · intro _
      apply q_retX hl
      walk_at "callX"
      exact GX_al.one g c hg hc h
    intro q8
    walk_at "when"
    · intro _
      apply q_retX hl
      walk_at "callX"
      exact GX_al.two g c hg hc h
    intro q9
    walk_at "when"
    · intro _
      apply q_retX hl
      walk_at "callX"
      exact GX_forgotten.say g c _ hg hc h
    intro q10
    walk_at "when"
    · intro _
      apply q_retX hl
      walk_at "callX"
      exact GX_checked.mk g c hg hc h
    intro q11
    walk_at "when"
    · intro _
      apply q_retX hl
      walk_at "callX"
      exact GX_played.say g c _ hg hc h
    intro q12
    apply q_retX hl
    walk_at "callX"
    exact GX_fits.say g c _ hg hc h
theorem ok_size_of {f : Addr} {fd : FuncData} (F : Fun K (Str.ofString "size_of") (Str.ofString "size_of") s_size_of f fd) (BB : Binds K fd [(Str.ofString "thing"), (Str.ofString "many"), (Str.ofString "room")] []) (mm : mg (Str.ofString "size_of") = some (.ref f)) (c_is_whole : Cee P w K mg base 1 (Str.ofString "is_whole") G_whole) (m_isinstance : mg (Str.ofString "isinstance") = none) (m_tuple : mg (Str.ofString "tuple") = none) (m_len : mg (Str.ofString "len") = none) (m_str : mg (Str.ofString "str") = none) : ∀ n, FnOk P w K mg base CX0 (1 + n + 1) f fd [(Str.ofString "thing"), (Str.ofString "many"), (Str.ofString "room")] (spF K (G_sizeG n)) := by
  intro n
  induction n with
  | zero =>
    refine fn_pure (k := 1 + 0) F sc_size_of (fun ds d g => by cases g <;> rfl) fun X hb hf S ds d g => ?_
    have cx := hb.cxt
    have n0 : n_size_of[0]? = some (Str.ofString "thing") := rfl
    have n1 : n_size_of[1]? = some (Str.ofString "many") := rfl
    have n2 : n_size_of[2]? = some (Str.ofString "room") := rfl
    have n3 : n_size_of[3]? = some (Str.ofString "first") := rfl
    cases g with
    | mk d m room hn h =>
      have h1 : room < 1 := by have : room < ((0 : Nat) : Int) := hn; omega
      change Ws X S [.val d, .val (.int m), .val (.int room), .no] (_ :: _) _
      apply q_when
      · apply tst_w
        apply tw_orT
        · walk_at "ev"
        · exact decide_eq_true h1
      · intro _
        walk_at "ret"
        show Dt.int _ = Dt.int _
        rw [szG_low h1]
      · intro q
        exfalso
        simp at q
  | succ n ih =>
    have c_size_of := cee_of F BB mm ih
    refine fn_pure (k := 1 + n + 1) F sc_size_of (fun ds d g => by cases g <;> rfl) fun X hb hf S ds d g => ?_
    have cx := hb.cxt
    have n0 : n_size_of[0]? = some (Str.ofString "thing") := rfl
    have n1 : n_size_of[1]? = some (Str.ofString "many") := rfl
    have n2 : n_size_of[2]? = some (Str.ofString "room") := rfl
    have n3 : n_size_of[3]? = some (Str.ofString "first") := rfl
    cases g with
    | mk d m room hn h =>
      change Ws X S [.val d, .val (.int m), .val (.int room), .no] (_ :: _) _
      have wn := wneG
      by_cases h1 : room < 1
      · apply q_when
        · apply tst_w
          apply tw_orT
          · walk_at "ev"
          · exact decide_eq_true h1
        · intro _
          walk_at "ret"
          show Dt.int _ = Dt.int _
          rw [szG_low h1]
        · intro q
          exfalso
          simp at q
      · rcases good_tup h with ⟨ds, rfl⟩ | ⟨hT, hz⟩
        · by_cases h2 : ds.length < 2
          · apply q_when
            · apply tst_w
              apply tw_or
              · walk_at "ev"
              · intro _
                apply tw_or
                · walk_at "ev"
                · intro _
                  apply tw_orT
                  · walk_at "ev"
                  · exact decide_eq_true (by omega)
            · intro _
              walk_at "ret"
              rw [sz_short h2]
            · intro q
              exfalso
              simp at q
          · match ds, h, h2 with
            | [], _, h2 => exact absurd (by show 0 < 2; decide) h2
            | [_], _, h2 => exact absurd (by show 1 < 2; decide) h2
            | x :: y :: r, h, h2 =>
              rw [goodD, goodA, goodA, Bool.and_eq_true, Bool.and_eq_true] at h
              obtain ⟨hx, hy, hr⟩ := h
              rcases good_str hx with ⟨w, rfl⟩ | ⟨hS, hz⟩
              · have hk : Knd y := good_knd hy
                walk_at "when"
                · intro hc
                  exfalso
                  simp at hc
                  omega
                intro qn
                walk_at "when"
                · intro qo
                  obtain ⟨rfl, rfl⟩ := and_len2.mp qo
                  walk_at "when"
                  · exact hk
                  · exact cop_leL (by assumption)
                  · exact cop_leR (by assumption)
                  · intro q
                    walk_at "ret"
                    show Dt.int _ = Dt.int _
                    congr 1
                    cases y <;> simp [isI, toI] at q
                    rename_i i
                    have q2 : 1 ≤ i ∧ i ≤ m := ⟨of_decide_eq_true q.1, of_decide_eq_true q.2⟩
                    simp [szG, h1]
                    omega
                  · intro q
                    walk_at "ret"
                    show Dt.int _ = Dt.int _
                    congr 1
                    cases y <;> first | (simp [szG, h1]; done) | skip
                    rename_i i
                    simp [isI, toI] at q
                    have q : ¬ (1 ≤ i ∧ i ≤ m) := fun z => of_decide_eq_false (q (decide_eq_true z.1)) z.2
                    simp [szG, h1, q]
                intro q1
                have q1 : ¬ (w = Str.ofString "thing" ∧ r = []) := fun z => by rw [and_len2.mpr z] at q1; cases q1
                walk_at "when"
                · intro q
                  obtain ⟨rfl, rfl⟩ := and_len2.mp q
                  walk_at "ret"
                  · exact hy
                  · show Dt.int _ = Dt.int _
                    congr 1
                    simp [szG, h1, wn]
                intro q2
                have q2 : ¬ (w = Str.ofString "not" ∧ r = []) := fun z => by rw [and_len2.mpr z] at q2; cases q2
                walk_at "when"
                · intro q
                  obtain ⟨w3, z, rfl⟩ := and_len3.mp q
                  rw [goodA, Bool.and_eq_true] at hr
                  have hz := hr.1
                  have hp := szG_pos n y m (room - 1) (by omega)
                  walk_at "set"
                  · exact hy
                  walk_at "when"
                  · intro q
                    have q := of_decide_eq_true q
                    walk_at "ret"
                    show Dt.int _ = Dt.int _
                    congr 1
                    simp [szG, h1, w3, q]
                  · intro q
                    have q := of_decide_eq_false q
                    walk_at "ret"
                    · exact hz
                    · show Dt.int _ = Dt.int _
                      congr 1
                      simp [szG, h1, w3, q]
                intro q3
                have q3 : ¬ ((w = Str.ofString "and" ∨ w = Str.ofString "or") ∧ ∃ z, r = [z]) := fun z => by rw [and_len3.mpr z] at q3; cases q3
                walk_at "ret"
                rw [sz_else h1 q1 q2 q3]
              · apply q_when
                · apply tst_w
                  apply tw_or
                  · walk_at "ev"
                  · intro _
                    apply tw_or
                    · walk_at "ev"
                    · intro _
                      apply tw_or
                      · walk_at "ev"
                      · intro _
                        apply tw_or1
                        walk_at "ev"
                        exact bf_isk hS
                · intro _
                  walk_at "ret"
                  rw [hz]
                · intro q
                  exfalso
                  simp at q
        · apply q_when
          · apply tst_w
            apply tw_or
            · walk_at "ev"
            · intro _
              apply tw_orT
              · walk_at "ev"
                exact bf_isk hT
              · rfl
          · intro _
            walk_at "ret"
            rw [hz]
          · intro q
            exfalso
            simp at q
theorem ok_need_sentence {f : Addr} {fd : FuncData} (F : Fun K (Str.ofString "need_sentence") (Str.ofString "need_sentence") s_need_sentence f fd) (c_is_whole : Cee P w K mg base 1 (Str.ofString "is_whole") G_whole) (c_size_of : Cee P w K mg base 15 (Str.ofString "size_of") (G_sizeG 13)) (g_THINGS_sentences : Gcon K mg (Str.ofString "THINGS_sentences") 5) (g_TUPLES : Gcon K mg (Str.ofString "TUPLES") 12) : FnOk P w K mg base CX0 16 f fd [(Str.ofString "thing"), (Str.ofString "many")] (spF K G_need_th) := by
  refine fn_pure F sc_need_sentence (fun ds d g => by cases g <;> rfl) fun X hb hf S ds d g => ?_
  have cx := hb.cxt
  have n0 : n_need_sentence[0]? = some (Str.ofString "thing") := rfl
  have n1 : n_need_sentence[1]? = some (Str.ofString "many") := rfl
  cases g with
  | mk m h1 h2 =>
    change Ws X S [.val thing1, .val (.int m)] (_ :: _) _
    have hsz : szG 13 thing1 m 12 = 1 := by
      show (if (12 : Int) < 1 then _ else if Str.ofString "thing" = Str.ofString "thing" then (if (1 : Int) ≤ 1 ∧ 1 ≤ m then (1 : Int) else _) else _) = 1
      rw [if_neg (by decide), if_pos rfl, if_pos ⟨by decide, h1⟩]
    walk_at "when"
    · decide +kernel
    · intro q
      exfalso
      rw [hsz] at q
      simp [isI] at q
      omega
    intro _
    apply ws_nil
    exact rfl
theorem okX_need_sentence {f : Addr} {fd : FuncData} (F : Fun K (Str.ofString "need_sentence") (Str.ofString "need_sentence") s_need_sentence f fd) (c_is_whole : Cee P w K mg base 1 (Str.ofString "is_whole") G_whole) (c_size_of : Cee P w K mg base 15 (Str.ofString "size_of") (G_sizeG 13)) (g_THINGS_sentences : Gcon K mg (Str.ofString "THINGS_sentences") 5) (g_TUPLES : Gcon K mg (Str.ofString "TUPLES") 12) {C_NoSentence : Addr} (e_NoSentence : ExK K mg (Str.ofString "NoSentence") C_NoSentence) : FnOk P w K mg base (L2.CX P w) 16 f fd [(Str.ofString "thing"), (Str.ofString "many")] (spX K mg GX_need_sen) := by
  refine fn_raise F sc_need_sentence (fun ds n g => by cases g <;> rfl) fun X hb hf S ds n g hl => ?_
  have cx := hb.cxt
  have n0 : n_need_sentence[0]? = some (Str.ofString "thing") := rfl
  have n1 : n_need_sentence[1]? = some (Str.ofString "many") := rfl
  cases g with
  | many d t hc h =>
    change Ws X S [.val d, .val (thD t)] (_ :: _) _
    cases t with
    | tp ds => exact hc.elim
    | ls ds => exact hc.elim
    | nt i =>
      rw [show thD (.nt i) = .int i from rfl]
      have h : ¬ (1 ≤ i ∧ i ≤ 5) := fun z => by
        unfold fewB at h
        simp [z] at h
      by_cases h1 : i < 1
      · apply q_when
        · apply tst_w
          apply tw_or
          · walk_at "ev"
          · intro _
            apply tw_orT
            · walk_at "ev"
            · exact decide_eq_true h1
        · intro _
          exact q_raise hl hb e_NoSentence (by decide +kernel)
        · intro q
          exfalso
          simp at q
      · apply q_when
        · apply tst_w
          apply tw_or
          · walk_at "ev"
          · intro _
            apply tw_or
            · walk_at "ev"
            · intro _
              apply tw_orT
              · walk_at "ev"
              · exact decide_eq_true (by omega)
        · intro _
          exact q_raise hl hb e_NoSentence (by decide +kernel)
        · intro q
          exfalso
          simp at q
    | bo b =>
      rw [show thD (.bo b) = .bl b from rfl]
      (with_reducible apply q_when)
      (with_reducible apply tst_w)
      (with_reducible apply tw_orT)
      · walk_at "ev"
      · rfl
      · intro _
        exact q_raise hl hb e_NoSentence (by decide +kernel)
      · intro q; cases q
    | st s =>
      rw [show thD (.st s) = .str s from rfl]
      (with_reducible apply q_when)
      (with_reducible apply tst_w)
      (with_reducible apply tw_orT)
      · walk_at "ev"
      · rfl
      · intro _
        exact q_raise hl hb e_NoSentence (by decide +kernel)
      · intro q; cases q
    | no =>
      rw [show thD .no = .non from rfl]
      (with_reducible apply q_when)
      (with_reducible apply tst_w)
      (with_reducible apply tw_orT)
      · walk_at "ev"
      · rfl
      · intro _
        exact q_raise hl hb e_NoSentence (by decide +kernel)
      · intro q; cases q
  | sen d m h1 h2 h hs =>
    change Ws X S [.val d, .val (.int m)] (_ :: _) _
    walk_at "when"
    · exact h
    · intro _
      exact q_raise hl hb e_NoSentence (by decide +kernel)
    · intro q
      exfalso
      simp [hs] at q
theorem okX_is_true {f : Addr} {fd : FuncData} (F : Fun K (Str.ofString "is_true") (Str.ofString "is_true") s_is_true f fd) (c_need_sentence : Cee P w K mg base 16 (Str.ofString "need_sentence") G_need_th) (r_need_sentence : CeeX P w K mg base 16 (Str.ofString "need_sentence") GX_need_sen) (r_need_case : CeeX P w K mg base 3 (Str.ofString "need_case") GX_need_case) : FnOk P w K mg base (L2.CX P w) 17 f fd [(Str.ofString "sentence"), (Str.ofString "many"), (Str.ofString "case")] (spX K mg GX_is_true) := by
  refine fn_raise F sc_is_true (fun ds n g => by cases g <;> rfl) fun X hb hf S ds n g hl => ?_
  have cx := hb.cxt
  have n0 : n_is_true[0]? = some (Str.ofString "sentence") := rfl
  have n1 : n_is_true[1]? = some (Str.ofString "many") := rfl
  have n2 : n_is_true[2]? = some (Str.ofString "case") := rfl
  cases g with
  | many d x t hc h =>
    change Ws X S [.val d, .val (thD t), .val x] (_ :: _) _
    apply q_dropX rfl hl
    walk_at "callX"
    exact GX_need_sen.many d t hc h
  | sen d x m h1 h2 h hs =>
    change Ws X S [.val d, .val (.int m), .val x] (_ :: _) _
    apply q_dropX rfl hl
    walk_at "callX"
    exact GX_need_sen.sen d m h1 h2 h hs
  | case b m h1 h2 h hb2 =>
    change Ws X S [.val thing1, .val (.int m), .val (csD b)] (_ :: _) _
    have hG : Gg G_need_th [thing1, .int m] .non := ⟨.mk m h1 h2⟩
    walk_at "call"
    apply q_dropX rfl hl
    walk_at "callX"
    exact GX_need_case.mk b m h hb2
theorem okX_sayings_of {f : Addr} {fd : FuncData} (F : Fun K (Str.ofString "sayings_of") (Str.ofString "sayings_of") s_sayings_of f fd) (r_need_sentence : CeeX P w K mg base 16 (Str.ofString "need_sentence") GX_need_sen) : FnOk P w K mg base (L2.CX P w) 17 f fd [(Str.ofString "sentence"), (Str.ofString "many")] (spX K mg GX_need_sen) := by
  refine fn_raise F sc_sayings_of (fun ds n g => by cases g <;> rfl) fun X hb hf S ds n g hl => ?_
  have cx := hb.cxt
  have n0 : n_sayings_of[0]? = some (Str.ofString "sentence") := rfl
  have n1 : n_sayings_of[1]? = some (Str.ofString "many") := rfl
  have n2 : n_sayings_of[2]? = some (Str.ofString "made") := rfl
  have n3 : n_sayings_of[3]? = some (Str.ofString "own") := rfl
  have n4 : n_sayings_of[4]? = some (Str.ofString "whole") := rfl
  cases g with
  | many d t hc h =>
    change Ws X S [.val d, .val (thD t), .no, .no, .no] (_ :: _) _
    apply q_dropX rfl hl
    walk_at "callX"
    exact GX_need_sen.many d t hc h
  | sen d m h1 h2 h hs =>
    change Ws X S [.val d, .val (.int m), .no, .no, .no] (_ :: _) _
    apply q_dropX rfl hl
    walk_at "callX"
    exact GX_need_sen.sen d m h1 h2 h hs
theorem okX_L_with_other {f : Addr} {fd : FuncData} (F : Fun K (Str.ofString "_law_with_other") (Str.ofString "_law_with_other") s_L_with_other f fd) (r_fits : CeeX P w K mg base 4 (Str.ofString "fits") GX_fits) (r_is_true : CeeX P w K mg base 17 (Str.ofString "is_true") GX_is_true) (r_follows : CeeX P w K mg base 11 (Str.ofString "follows") GX_follows) (r_forgotten : CeeX P w K mg base 4 (Str.ofString "forgotten") GX_forgotten) (r_played : CeeX P w K mg base 11 (Str.ofString "played") GX_played) (r_sayings_of : CeeX P w K mg base 17 (Str.ofString "sayings_of") GX_need_sen) : FnOk P w K mg base (L2.CX P w) 18 f fd [(Str.ofString "_law_way"), (Str.ofString "_law_bad_here"), (Str.ofString "_law_many"), (Str.ofString "_law_case")] (spX K mg GX_with_other) := by
  refine fn_raise F sc_L_with_other (fun ds n g => by cases g <;> rfl) fun X hb hf S ds n g hl => ?_
  have cx := hb.cxt
  have n0 : n_L_with_other[0]? = some (Str.ofString "_law_way") := rfl
  have n1 : n_L_with_other[1]? = some (Str.ofString "_law_bad_here") := rfl
  have n2 : n_L_with_other[2]? = some (Str.ofString "_law_many") := rfl
  have n3 : n_L_with_other[3]? = some (Str.ofString "_law_case") := rfl
  cases g with
  | mk w d x m n hO =>
    change Ws X S [.val (.int w), .val d, .val (.int m), .val x] (_ :: _) _
    walk_at "when"
    · intro q
      have q := of_decide_eq_true q
      cases hO with
      | w1 b _ h1 h2 h hv =>
        apply q_retX hl
        walk_at "callX"
        exact GX_fits.case b m h1 h2 h hv
      | _ => exact absurd q (by decide)
    intro q1
    have q1 := of_decide_eq_false q1
    walk_at "when"
    · intro q
      have q := of_decide_eq_true q
      cases hO with
      | w2 b _ h1 h2 h hv =>
        apply q_retX hl
        walk_at "callX"
        exact GX_is_true.case b m h1 h2 h hv
      | _ => exact absurd q (by decide)
    intro q2
    have q2 := of_decide_eq_false q2
    walk_at "when"
    · intro q
      have q := of_decide_eq_true q
      cases hO with
      | w3 t _ h1 h2 h hv =>
        apply q_retX hl
        walk_at "callX"
        exact GX_follows.one t m h1 h2 h hv
      | _ => exact absurd q (by decide)
    intro q3
    have q3 := of_decide_eq_false q3
    walk_at "when"
    · intro q
      have q := of_decide_eq_true q
      cases hO with
      | w4 t _ h1 h2 h hv =>
        apply q_retX hl
        walk_at "callX"
        exact GX_forgotten.thing t m h1 h2 h hv
      | _ => exact absurd q (by decide)
    intro q4
    have q4 := of_decide_eq_false q4
    walk_at "when"
    · intro q
      have q := of_decide_eq_true q
      cases hO with
      | w5 b _ h1 h2 h hv =>
        apply q_retX hl
        walk_at "callX"
        exact GX_played.kinds b m h1 h2 h hv
      | _ => exact absurd q (by decide)
    intro q5
    have q5 := of_decide_eq_false q5
    walk_at "when"
    · intro q
      have q := of_decide_eq_true q
      cases hO with
      | w6 d _ h1 h2 h hv =>
        apply q_retX hl
        walk_at "callX"
        exact GX_is_true.sen d _ m h1 h2 h hv
      | _ => exact absurd q (by decide)
    intro q6
    have q6 := of_decide_eq_false q6
    walk_at "when"
    · intro q
      have q := of_decide_eq_true q
      cases hO with
      | w7 d _ h1 h2 h hv =>
        apply q_retX hl
        walk_at "callX"
        exact GX_need_sen.sen d m h1 h2 h hv
      | _ => exact absurd q (by decide)
    intro q7
    have q7 := of_decide_eq_false q7
    walk_at "when"
    · intro q
      have q := of_decide_eq_true q
      cases hO with
      | w8 t _ h1 h2 h hv =>
        apply q_retX hl
        walk_at "callX"
        exact GX_need_sen.many _ t h hv
      | _ => exact absurd q (by decide)
    intro q8
    have q8 := of_decide_eq_false q8
    cases hO with
    | w9 t _ h1 h2 h hv =>
      apply q_retX hl
      walk_at "callX"
      exact GX_is_true.many _ _ t h hv
    | w1 _ _ _ _ _ _ => exact absurd rfl q1
    | w2 _ _ _ _ _ _ => exact absurd rfl q2
    | w3 _ _ _ _ _ _ => exact absurd rfl q3
    | w4 _ _ _ _ _ _ => exact absurd rfl q4
    | w5 _ _ _ _ _ _ => exact absurd rfl q5
    | w6 _ _ _ _ _ _ => exact absurd rfl q6
    | w7 _ _ _ _ _ _ => exact absurd rfl q7
    | w8 _ _ _ _ _ _ => exact absurd rfl q8
theorem okX_L_asked {f : Addr} {fd : FuncData} (F : Fun K (Str.ofString "_law_asked") (Str.ofString "_law_asked") s_L_asked f fd) (r_L_with_sayings : CeeX P w K mg base 13 (Str.ofString "_law_with_sayings") GX_with_sayings) (r_L_with_other : CeeX P w K mg base 18 (Str.ofString "_law_with_other") GX_with_other) : FnOk P w K mg base (L2.CX P w) 19 f fd [(Str.ofString "_law_way"), (Str.ofString "_law_what"), (Str.ofString "_law_bad_here"), (Str.ofString "_law_many"), (Str.ofString "_law_case")] (spX K mg GX_asked) := by
  refine fn_raise F sc_L_asked (fun ds n g => by cases g <;> rfl) fun X hb hf S ds n g hl => ?_
  have cx := hb.cxt
  have n0 : n_L_asked[0]? = some (Str.ofString "_law_way") := rfl
  have n1 : n_L_asked[1]? = some (Str.ofString "_law_what") := rfl
  have n2 : n_L_asked[2]? = some (Str.ofString "_law_bad_here") := rfl
  have n3 : n_L_asked[3]? = some (Str.ofString "_law_many") := rfl
  have n4 : n_L_asked[4]? = some (Str.ofString "_law_case") := rfl
  cases g with
  | say w g c x h0 h1 hg hc h =>
    change Ws X S [.val (.int 0), .val (.int w), .val (tgD g), .val (thD c), .val x] (_ :: _) _
    walk_at "when"
    · intro _
      apply q_retX hl
      walk_at "callX"
      exact GX_with_sayings.mk w g c h0 h1 hg hc h
    · intro q; cases q
  | oth w v d x m n hO =>
    have hw : ¬ w = 0 := by cases hO <;> decide
    change Ws X S [.val (.int w), .val (.int v), .val d, .val (.int m), .val x] (_ :: _) _
    walk_at "when"
    · intro q
      exact absurd (of_decide_eq_true q) hw
    intro _
    apply q_retX hl
    walk_at "callX"
    exact GX_with_other.mk w d x m n hO
theorem ok_L_by_base {f : Addr} {fd : FuncData} (F : Fun K (Str.ofString "_law_by_base") (Str.ofString "_law_by_base") s_L_by_base f fd) (r_L_asked : CeeX P w K mg base 19 (Str.ofString "_law_asked") GX_asked) (m_isinstance : mg (Str.ofString "isinstance") = none) (m_ValueError : mg (Str.ofString "ValueError") = none) (x_NoSayings_SayError : Exm K mg (Str.ofString "NoSayings") (Str.ofString "SayError") true) (x_NoCase_SayError : Exm K mg (Str.ofString "NoCase") (Str.ofString "SayError") true) (x_NoSaying_SayError : Exm K mg (Str.ofString "NoSaying") (Str.ofString "SayError") true) (x_NoThing_SayError : Exm K mg (Str.ofString "NoThing") (Str.ofString "SayError") true) (x_NoKinds_SayError : Exm K mg (Str.ofString "NoKinds") (Str.ofString "SayError") true) (x_NoSentence_SayError : Exm K mg (Str.ofString "NoSentence") (Str.ofString "SayError") true) (i_NoSayings : ExI K mg (Str.ofString "NoSayings") (Str.ofString "SayError")) (i_NoCase : ExI K mg (Str.ofString "NoCase") (Str.ofString "SayError")) (i_NoSaying : ExI K mg (Str.ofString "NoSaying") (Str.ofString "SayError")) (i_NoThing : ExI K mg (Str.ofString "NoThing") (Str.ofString "SayError")) (i_NoKinds : ExI K mg (Str.ofString "NoKinds") (Str.ofString "SayError")) (i_NoSentence : ExI K mg (Str.ofString "NoSentence") (Str.ofString "SayError")) : FnOk P w K mg base CX0 20 f fd [(Str.ofString "_law_way"), (Str.ofString "_law_what"), (Str.ofString "_law_bad_here"), (Str.ofString "_law_many"), (Str.ofString "_law_case")] (spF K G_by_base) := by
  refine fn_pureT F sc_L_by_base (fun ds d g => by cases g <;> rfl) fun X hb hf tp S ds d g => ?_
  have cx := hb.cxt
  have n0 : n_L_by_base[0]? = some (Str.ofString "_law_way") := rfl
  have n1 : n_L_by_base[1]? = some (Str.ofString "_law_what") := rfl
  have n2 : n_L_by_base[2]? = some (Str.ofString "_law_bad_here") := rfl
  have n3 : n_L_by_base[3]? = some (Str.ofString "_law_many") := rfl
  have n4 : n_L_by_base[4]? = some (Str.ofString "_law_case") := rfl
  have n5 : n_L_by_base[5]? = some (Str.ofString "e") := rfl
  cases g with
  | say w g c x h0 h1 hg hc h =>
    change Ws X S [.val (.int 0), .val (.int w), .val (tgD g), .val (thD c), .val x, .no] (_ :: _) _
    apply q_tryA (n := Str.ofString "NoSayings") (i := 5) (Γ1 := [.val (.int 0), .val (.int w), .val (tgD g), .val (thD c), .val x, .no]) hf tp hb n5 x_NoSayings_SayError (exi_kc i_NoSayings) (by decide +kernel) (One.expr rfl)
    · intro Y hY hE
      walk_at "callX"
      exact GX_asked.say w g c x h0 h1 hg hc h
    intro Z hZ hfZ hE A C hC is
    dsimp only [cp]
    refine suite_is (Γ := [.val (.int 0), .val (.int w), .val (tgD g), .val (thD c), .val x, .val (.adr A)]) hZ n5 rfl i_NoSayings hC is m_isinstance m_ValueError (by decide +kernel) ?_
    exact rfl
  | oth w v d x m n hO =>
    cases hO with
    | w1 b m h1 h2 h hv =>
      change Ws X S [.val (.int 1), .val (.int v), .val (csD b), .val (.int m), .val x, .no] (_ :: _) _
      apply q_tryA (n := Str.ofString "NoCase") (i := 5) (Γ1 := [.val (.int 1), .val (.int v), .val (csD b), .val (.int m), .val x, .no]) hf tp hb n5 x_NoCase_SayError (exi_kc i_NoCase) (by decide +kernel) (One.expr rfl)
      · intro Y hY hE
        walk_at "callX"
        exact GX_asked.oth 1 v _ x m _ (.w1 b m h1 h2 h hv)
      intro Z hZ hfZ hE A C hC is
      dsimp only [cp]
      refine suite_is (Γ := [.val (.int 1), .val (.int v), .val (csD b), .val (.int m), .val x, .val (.adr A)]) hZ n5 rfl i_NoCase hC is m_isinstance m_ValueError (by decide +kernel) ?_
      exact rfl
    | w2 b m h1 h2 h hv =>
      change Ws X S [.val (.int 2), .val (.int v), .val (csD b), .val (.int m), .val x, .no] (_ :: _) _
      apply q_tryA (n := Str.ofString "NoCase") (i := 5) (Γ1 := [.val (.int 2), .val (.int v), .val (csD b), .val (.int m), .val x, .no]) hf tp hb n5 x_NoCase_SayError (exi_kc i_NoCase) (by decide +kernel) (One.expr rfl)
      · intro Y hY hE
        walk_at "callX"
        exact GX_asked.oth 2 v _ x m _ (.w2 b m h1 h2 h hv)
      intro Z hZ hfZ hE A C hC is
      dsimp only [cp]
      refine suite_is (Γ := [.val (.int 2), .val (.int v), .val (csD b), .val (.int m), .val x, .val (.adr A)]) hZ n5 rfl i_NoCase hC is m_isinstance m_ValueError (by decide +kernel) ?_
      exact rfl
    | w3 t m h1 h2 h hv =>
      change Ws X S [.val (.int 3), .val (.int v), .val (thD t), .val (.int m), .val x, .no] (_ :: _) _
      apply q_tryA (n := Str.ofString "NoSaying") (i := 5) (Γ1 := [.val (.int 3), .val (.int v), .val (thD t), .val (.int m), .val x, .no]) hf tp hb n5 x_NoSaying_SayError (exi_kc i_NoSaying) (by decide +kernel) (One.expr rfl)
      · intro Y hY hE
        walk_at "callX"
        exact GX_asked.oth 3 v _ x m _ (.w3 t m h1 h2 h hv)
      intro Z hZ hfZ hE A C hC is
      dsimp only [cp]
      refine suite_is (Γ := [.val (.int 3), .val (.int v), .val (thD t), .val (.int m), .val x, .val (.adr A)]) hZ n5 rfl i_NoSaying hC is m_isinstance m_ValueError (by decide +kernel) ?_
      exact rfl
    | w4 t m h1 h2 h hv =>
      change Ws X S [.val (.int 4), .val (.int v), .val (thD t), .val (.int m), .val x, .no] (_ :: _) _
      apply q_tryA (n := Str.ofString "NoThing") (i := 5) (Γ1 := [.val (.int 4), .val (.int v), .val (thD t), .val (.int m), .val x, .no]) hf tp hb n5 x_NoThing_SayError (exi_kc i_NoThing) (by decide +kernel) (One.expr rfl)
      · intro Y hY hE
        walk_at "callX"
        exact GX_asked.oth 4 v _ x m _ (.w4 t m h1 h2 h hv)
      intro Z hZ hfZ hE A C hC is
      dsimp only [cp]
      refine suite_is (Γ := [.val (.int 4), .val (.int v), .val (thD t), .val (.int m), .val x, .val (.adr A)]) hZ n5 rfl i_NoThing hC is m_isinstance m_ValueError (by decide +kernel) ?_
      exact rfl
    | w5 b m h1 h2 h hv =>
      change Ws X S [.val (.int 5), .val (.int v), .val (kdD b), .val (.int m), .val x, .no] (_ :: _) _
      apply q_tryA (n := Str.ofString "NoKinds") (i := 5) (Γ1 := [.val (.int 5), .val (.int v), .val (kdD b), .val (.int m), .val x, .no]) hf tp hb n5 x_NoKinds_SayError (exi_kc i_NoKinds) (by decide +kernel) (One.expr rfl)
      · intro Y hY hE
        walk_at "callX"
        exact GX_asked.oth 5 v _ x m _ (.w5 b m h1 h2 h hv)
      intro Z hZ hfZ hE A C hC is
      dsimp only [cp]
      refine suite_is (Γ := [.val (.int 5), .val (.int v), .val (kdD b), .val (.int m), .val x, .val (.adr A)]) hZ n5 rfl i_NoKinds hC is m_isinstance m_ValueError (by decide +kernel) ?_
      exact rfl
    | w6 d m h1 h2 h hv =>
      change Ws X S [.val (.int 6), .val (.int v), .val (d), .val (.int m), .val x, .no] (_ :: _) _
      apply q_tryA (n := Str.ofString "NoSentence") (i := 5) (Γ1 := [.val (.int 6), .val (.int v), .val (d), .val (.int m), .val x, .no]) hf tp hb n5 x_NoSentence_SayError (exi_kc i_NoSentence) (by decide +kernel) (One.expr rfl)
      · intro Y hY hE
        walk_at "callX"
        exact GX_asked.oth 6 v _ x m _ (.w6 d m h1 h2 h hv)
      intro Z hZ hfZ hE A C hC is
      dsimp only [cp]
      refine suite_is (Γ := [.val (.int 6), .val (.int v), .val (d), .val (.int m), .val x, .val (.adr A)]) hZ n5 rfl i_NoSentence hC is m_isinstance m_ValueError (by decide +kernel) ?_
      exact rfl
    | w7 d m h1 h2 h hv =>
      change Ws X S [.val (.int 7), .val (.int v), .val (d), .val (.int m), .val x, .no] (_ :: _) _
      apply q_tryA (n := Str.ofString "NoSentence") (i := 5) (Γ1 := [.val (.int 7), .val (.int v), .val (d), .val (.int m), .val x, .no]) hf tp hb n5 x_NoSentence_SayError (exi_kc i_NoSentence) (by decide +kernel) (One.expr rfl)
      · intro Y hY hE
        walk_at "callX"
        exact GX_asked.oth 7 v _ x m _ (.w7 d m h1 h2 h hv)
      intro Z hZ hfZ hE A C hC is
      dsimp only [cp]
      refine suite_is (Γ := [.val (.int 7), .val (.int v), .val (d), .val (.int m), .val x, .val (.adr A)]) hZ n5 rfl i_NoSentence hC is m_isinstance m_ValueError (by decide +kernel) ?_
      exact rfl
    | w8 t m h1 h2 h hv =>
      change Ws X S [.val (.int 8), .val (.int v), .val (thD t), .val (.int m), .val x, .no] (_ :: _) _
      apply q_tryA (n := Str.ofString "NoSentence") (i := 5) (Γ1 := [.val (.int 8), .val (.int v), .val (thD t), .val (.int m), .val x, .no]) hf tp hb n5 x_NoSentence_SayError (exi_kc i_NoSentence) (by decide +kernel) (One.expr rfl)
      · intro Y hY hE
        walk_at "callX"
        exact GX_asked.oth 8 v _ x m _ (.w8 t m h1 h2 h hv)
      intro Z hZ hfZ hE A C hC is
      dsimp only [cp]
      refine suite_is (Γ := [.val (.int 8), .val (.int v), .val (thD t), .val (.int m), .val x, .val (.adr A)]) hZ n5 rfl i_NoSentence hC is m_isinstance m_ValueError (by decide +kernel) ?_
      exact rfl
    | w9 t m h1 h2 h hv =>
      change Ws X S [.val (.int 9), .val (.int v), .val (thD t), .val (.int m), .val x, .no] (_ :: _) _
      apply q_tryA (n := Str.ofString "NoSentence") (i := 5) (Γ1 := [.val (.int 9), .val (.int v), .val (thD t), .val (.int m), .val x, .no]) hf tp hb n5 x_NoSentence_SayError (exi_kc i_NoSentence) (by decide +kernel) (One.expr rfl)
      · intro Y hY hE
        walk_at "callX"
        exact GX_asked.oth 9 v _ x m _ (.w9 t m h1 h2 h hv)
      intro Z hZ hfZ hE A C hC is
      dsimp only [cp]
      refine suite_is (Γ := [.val (.int 9), .val (.int v), .val (thD t), .val (.int m), .val x, .val (.adr A)]) hZ n5 rfl i_NoSentence hC is m_isinstance m_ValueError (by decide +kernel) ?_
      exact rfl
theorem ok_L_kind {f : Addr} {fd : FuncData} (F : Fun K (Str.ofString "_law_kind") (Str.ofString "_law_kind") s_L_kind f fd) (r_L_asked : CeeX P w K mg base 19 (Str.ofString "_law_asked") GX_asked) {C_NoSayings : Addr} (e_NoSayings : ExK K mg (Str.ofString "NoSayings") C_NoSayings) {C_NoCase : Addr} (e_NoCase : ExK K mg (Str.ofString "NoCase") C_NoCase) {C_NoSaying : Addr} (e_NoSaying : ExK K mg (Str.ofString "NoSaying") C_NoSaying) {C_NoThing : Addr} (e_NoThing : ExK K mg (Str.ofString "NoThing") C_NoThing) {C_NoKinds : Addr} (e_NoKinds : ExK K mg (Str.ofString "NoKinds") C_NoKinds) {C_NoSentence : Addr} (e_NoSentence : ExK K mg (Str.ofString "NoSentence") C_NoSentence) (x_NoSayings_NoSayings : Exm K mg (Str.ofString "NoSayings") (Str.ofString "NoSayings") true) (x_NoCase_NoCase : Exm K mg (Str.ofString "NoCase") (Str.ofString "NoCase") true) (x_NoSaying_NoSaying : Exm K mg (Str.ofString "NoSaying") (Str.ofString "NoSaying") true) (x_NoThing_NoThing : Exm K mg (Str.ofString "NoThing") (Str.ofString "NoThing") true) (x_NoKinds_NoKinds : Exm K mg (Str.ofString "NoKinds") (Str.ofString "NoKinds") true) (x_NoSentence_NoSentence : Exm K mg (Str.ofString "NoSentence") (Str.ofString "NoSentence") true) (y_NoCase_NoSayings : Exm K mg (Str.ofString "NoCase") (Str.ofString "NoSayings") false) (y_NoSaying_NoSayings : Exm K mg (Str.ofString "NoSaying") (Str.ofString "NoSayings") false) (y_NoSaying_NoCase : Exm K mg (Str.ofString "NoSaying") (Str.ofString "NoCase") false) (y_NoThing_NoSayings : Exm K mg (Str.ofString "NoThing") (Str.ofString "NoSayings") false) (y_NoThing_NoCase : Exm K mg (Str.ofString "NoThing") (Str.ofString "NoCase") false) (y_NoThing_NoSaying : Exm K mg (Str.ofString "NoThing") (Str.ofString "NoSaying") false) (y_NoKinds_NoSayings : Exm K mg (Str.ofString "NoKinds") (Str.ofString "NoSayings") false) (y_NoKinds_NoCase : Exm K mg (Str.ofString "NoKinds") (Str.ofString "NoCase") false) (y_NoKinds_NoSaying : Exm K mg (Str.ofString "NoKinds") (Str.ofString "NoSaying") false) (y_NoKinds_NoThing : Exm K mg (Str.ofString "NoKinds") (Str.ofString "NoThing") false) (y_NoSentence_NoSayings : Exm K mg (Str.ofString "NoSentence") (Str.ofString "NoSayings") false) (y_NoSentence_NoCase : Exm K mg (Str.ofString "NoSentence") (Str.ofString "NoCase") false) (y_NoSentence_NoSaying : Exm K mg (Str.ofString "NoSentence") (Str.ofString "NoSaying") false) (y_NoSentence_NoThing : Exm K mg (Str.ofString "NoSentence") (Str.ofString "NoThing") false) (y_NoSentence_NoKinds : Exm K mg (Str.ofString "NoSentence") (Str.ofString "NoKinds") false) : FnOk P w K mg base CX0 20 f fd [(Str.ofString "_law_way"), (Str.ofString "_law_what"), (Str.ofString "_law_bad_here"), (Str.ofString "_law_many"), (Str.ofString "_law_case")] (spF K G_kind) := by
  refine fn_pureT F sc_L_kind (fun ds d g => by cases g <;> rfl) fun X hb hf tp S ds d g => ?_
  have cx := hb.cxt
  have n0 : n_L_kind[0]? = some (Str.ofString "_law_way") := rfl
  have n1 : n_L_kind[1]? = some (Str.ofString "_law_what") := rfl
  have n2 : n_L_kind[2]? = some (Str.ofString "_law_bad_here") := rfl
  have n3 : n_L_kind[3]? = some (Str.ofString "_law_many") := rfl
  have n4 : n_L_kind[4]? = some (Str.ofString "_law_case") := rfl
  have n5 : n_L_kind[5]? = some (Str.ofString "_law_found") := rfl
  cases g with
  | say w g c x h0 h1 hg hc h =>
    change Ws X S [.val (.int 0), .val (.int w), .val (tgD g), .val (thD c), .val x, .no] (_ :: _) _
    walk_at "set"
    apply q_tryH (n := Str.ofString "NoSayings") (Γ1 := [.val (.int 0), .val (.int w), .val (tgD g), .val (thD c), .val x, .val (.int (-1))]) hf tp hb (One.expr rfl) ⟨_, e_NoSayings.gC⟩
    · intro Y hY hE
      walk_at "callX"
      exact GX_asked.say w g c x h0 h1 hg hc h
    refine .hit x_NoSayings_NoSayings (by decide +kernel) (.cons ⟨_, e_NoCase.gC⟩ (by decide +kernel) (.cons ⟨_, e_NoSaying.gC⟩ (by decide +kernel) (.cons ⟨_, e_NoThing.gC⟩ (by decide +kernel) (.cons ⟨_, e_NoKinds.gC⟩ (by decide +kernel) (.cons ⟨_, e_NoSentence.gC⟩ (by decide +kernel) (.nil)))))) fun Z hZ hfZ hE => ?_
    refine suite_set (Γ := [.val (.int 0), .val (.int w), .val (tgD g), .val (thD c), .val x, .val (.int (-1))]) hZ hfZ n5 (by decide +kernel) ?_
    dsimp only [cp]
    walk_at "ret"
    exact rfl
  | oth w v d x m n hO =>
    cases hO with
    | w1 b m h1 h2 h hv =>
      change Ws X S [.val (.int 1), .val (.int v), .val (csD b), .val (.int m), .val x, .no] (_ :: _) _
      walk_at "set"
      apply q_tryH (n := Str.ofString "NoCase") (Γ1 := [.val (.int 1), .val (.int v), .val (csD b), .val (.int m), .val x, .val (.int (-1))]) hf tp hb (One.expr rfl) ⟨_, e_NoCase.gC⟩
      · intro Y hY hE
        walk_at "callX"
        exact GX_asked.oth 1 v _ x m _ (.w1 b m h1 h2 h hv)
      refine .miss y_NoCase_NoSayings (by decide +kernel) (.hit x_NoCase_NoCase (by decide +kernel) (.cons ⟨_, e_NoSaying.gC⟩ (by decide +kernel) (.cons ⟨_, e_NoThing.gC⟩ (by decide +kernel) (.cons ⟨_, e_NoKinds.gC⟩ (by decide +kernel) (.cons ⟨_, e_NoSentence.gC⟩ (by decide +kernel) (.nil))))) fun Z hZ hfZ hE => ?_)
      refine suite_set (Γ := [.val (.int 1), .val (.int v), .val (csD b), .val (.int m), .val x, .val (.int (-1))]) hZ hfZ n5 (by decide +kernel) ?_
      dsimp only [cp]
      walk_at "ret"
      exact rfl
    | w2 b m h1 h2 h hv =>
      change Ws X S [.val (.int 2), .val (.int v), .val (csD b), .val (.int m), .val x, .no] (_ :: _) _
      walk_at "set"
      apply q_tryH (n := Str.ofString "NoCase") (Γ1 := [.val (.int 2), .val (.int v), .val (csD b), .val (.int m), .val x, .val (.int (-1))]) hf tp hb (One.expr rfl) ⟨_, e_NoCase.gC⟩
      · intro Y hY hE
        walk_at "callX"
        exact GX_asked.oth 2 v _ x m _ (.w2 b m h1 h2 h hv)
      refine .miss y_NoCase_NoSayings (by decide +kernel) (.hit x_NoCase_NoCase (by decide +kernel) (.cons ⟨_, e_NoSaying.gC⟩ (by decide +kernel) (.cons ⟨_, e_NoThing.gC⟩ (by decide +kernel) (.cons ⟨_, e_NoKinds.gC⟩ (by decide +kernel) (.cons ⟨_, e_NoSentence.gC⟩ (by decide +kernel) (.nil))))) fun Z hZ hfZ hE => ?_)
      refine suite_set (Γ := [.val (.int 2), .val (.int v), .val (csD b), .val (.int m), .val x, .val (.int (-1))]) hZ hfZ n5 (by decide +kernel) ?_
      dsimp only [cp]
      walk_at "ret"
      exact rfl
    | w3 t m h1 h2 h hv =>
      change Ws X S [.val (.int 3), .val (.int v), .val (thD t), .val (.int m), .val x, .no] (_ :: _) _
      walk_at "set"
      apply q_tryH (n := Str.ofString "NoSaying") (Γ1 := [.val (.int 3), .val (.int v), .val (thD t), .val (.int m), .val x, .val (.int (-1))]) hf tp hb (One.expr rfl) ⟨_, e_NoSaying.gC⟩
      · intro Y hY hE
        walk_at "callX"
        exact GX_asked.oth 3 v _ x m _ (.w3 t m h1 h2 h hv)
      refine .miss y_NoSaying_NoSayings (by decide +kernel) (.miss y_NoSaying_NoCase (by decide +kernel) (.hit x_NoSaying_NoSaying (by decide +kernel) (.cons ⟨_, e_NoThing.gC⟩ (by decide +kernel) (.cons ⟨_, e_NoKinds.gC⟩ (by decide +kernel) (.cons ⟨_, e_NoSentence.gC⟩ (by decide +kernel) (.nil)))) fun Z hZ hfZ hE => ?_))
      refine suite_set (Γ := [.val (.int 3), .val (.int v), .val (thD t), .val (.int m), .val x, .val (.int (-1))]) hZ hfZ n5 (by decide +kernel) ?_
      dsimp only [cp]
      walk_at "ret"
      exact rfl
    | w4 t m h1 h2 h hv =>
      change Ws X S [.val (.int 4), .val (.int v), .val (thD t), .val (.int m), .val x, .no] (_ :: _) _
      walk_at "set"
      apply q_tryH (n := Str.ofString "NoThing") (Γ1 := [.val (.int 4), .val (.int v), .val (thD t), .val (.int m), .val x, .val (.int (-1))]) hf tp hb (One.expr rfl) ⟨_, e_NoThing.gC⟩
      · intro Y hY hE
        walk_at "callX"
        exact GX_asked.oth 4 v _ x m _ (.w4 t m h1 h2 h hv)
      refine .miss y_NoThing_NoSayings (by decide +kernel) (.miss y_NoThing_NoCase (by decide +kernel) (.miss y_NoThing_NoSaying (by decide +kernel) (.hit x_NoThing_NoThing (by decide +kernel) (.cons ⟨_, e_NoKinds.gC⟩ (by decide +kernel) (.cons ⟨_, e_NoSentence.gC⟩ (by decide +kernel) (.nil))) fun Z hZ hfZ hE => ?_)))
      refine suite_set (Γ := [.val (.int 4), .val (.int v), .val (thD t), .val (.int m), .val x, .val (.int (-1))]) hZ hfZ n5 (by decide +kernel) ?_
      dsimp only [cp]
      walk_at "ret"
      exact rfl
    | w5 b m h1 h2 h hv =>
      change Ws X S [.val (.int 5), .val (.int v), .val (kdD b), .val (.int m), .val x, .no] (_ :: _) _
      walk_at "set"
      apply q_tryH (n := Str.ofString "NoKinds") (Γ1 := [.val (.int 5), .val (.int v), .val (kdD b), .val (.int m), .val x, .val (.int (-1))]) hf tp hb (One.expr rfl) ⟨_, e_NoKinds.gC⟩
      · intro Y hY hE
        walk_at "callX"
        exact GX_asked.oth 5 v _ x m _ (.w5 b m h1 h2 h hv)
      refine .miss y_NoKinds_NoSayings (by decide +kernel) (.miss y_NoKinds_NoCase (by decide +kernel) (.miss y_NoKinds_NoSaying (by decide +kernel) (.miss y_NoKinds_NoThing (by decide +kernel) (.hit x_NoKinds_NoKinds (by decide +kernel) (.cons ⟨_, e_NoSentence.gC⟩ (by decide +kernel) (.nil)) fun Z hZ hfZ hE => ?_))))
      refine suite_set (Γ := [.val (.int 5), .val (.int v), .val (kdD b), .val (.int m), .val x, .val (.int (-1))]) hZ hfZ n5 (by decide +kernel) ?_
      dsimp only [cp]
      walk_at "ret"
      exact rfl
    | w6 d m h1 h2 h hv =>
      change Ws X S [.val (.int 6), .val (.int v), .val (d), .val (.int m), .val x, .no] (_ :: _) _
      walk_at "set"
      apply q_tryH (n := Str.ofString "NoSentence") (Γ1 := [.val (.int 6), .val (.int v), .val (d), .val (.int m), .val x, .val (.int (-1))]) hf tp hb (One.expr rfl) ⟨_, e_NoSentence.gC⟩
      · intro Y hY hE
        walk_at "callX"
        exact GX_asked.oth 6 v _ x m _ (.w6 d m h1 h2 h hv)
      refine .miss y_NoSentence_NoSayings (by decide +kernel) (.miss y_NoSentence_NoCase (by decide +kernel) (.miss y_NoSentence_NoSaying (by decide +kernel) (.miss y_NoSentence_NoThing (by decide +kernel) (.miss y_NoSentence_NoKinds (by decide +kernel) (.hit x_NoSentence_NoSentence (by decide +kernel) (.nil) fun Z hZ hfZ hE => ?_)))))
      refine suite_set (Γ := [.val (.int 6), .val (.int v), .val (d), .val (.int m), .val x, .val (.int (-1))]) hZ hfZ n5 (by decide +kernel) ?_
      dsimp only [cp]
      walk_at "ret"
      exact rfl
    | w7 d m h1 h2 h hv =>
      change Ws X S [.val (.int 7), .val (.int v), .val (d), .val (.int m), .val x, .no] (_ :: _) _
      walk_at "set"
      apply q_tryH (n := Str.ofString "NoSentence") (Γ1 := [.val (.int 7), .val (.int v), .val (d), .val (.int m), .val x, .val (.int (-1))]) hf tp hb (One.expr rfl) ⟨_, e_NoSentence.gC⟩
      · intro Y hY hE
        walk_at "callX"
        exact GX_asked.oth 7 v _ x m _ (.w7 d m h1 h2 h hv)
      refine .miss y_NoSentence_NoSayings (by decide +kernel) (.miss y_NoSentence_NoCase (by decide +kernel) (.miss y_NoSentence_NoSaying (by decide +kernel) (.miss y_NoSentence_NoThing (by decide +kernel) (.miss y_NoSentence_NoKinds (by decide +kernel) (.hit x_NoSentence_NoSentence (by decide +kernel) (.nil) fun Z hZ hfZ hE => ?_)))))
      refine suite_set (Γ := [.val (.int 7), .val (.int v), .val (d), .val (.int m), .val x, .val (.int (-1))]) hZ hfZ n5 (by decide +kernel) ?_
      dsimp only [cp]
      walk_at "ret"
      exact rfl
    | w8 t m h1 h2 h hv =>
      change Ws X S [.val (.int 8), .val (.int v), .val (thD t), .val (.int m), .val x, .no] (_ :: _) _
      walk_at "set"
      apply q_tryH (n := Str.ofString "NoSentence") (Γ1 := [.val (.int 8), .val (.int v), .val (thD t), .val (.int m), .val x, .val (.int (-1))]) hf tp hb (One.expr rfl) ⟨_, e_NoSentence.gC⟩
      · intro Y hY hE
        walk_at "callX"
        exact GX_asked.oth 8 v _ x m _ (.w8 t m h1 h2 h hv)
      refine .miss y_NoSentence_NoSayings (by decide +kernel) (.miss y_NoSentence_NoCase (by decide +kernel) (.miss y_NoSentence_NoSaying (by decide +kernel) (.miss y_NoSentence_NoThing (by decide +kernel) (.miss y_NoSentence_NoKinds (by decide +kernel) (.hit x_NoSentence_NoSentence (by decide +kernel) (.nil) fun Z hZ hfZ hE => ?_)))))
      refine suite_set (Γ := [.val (.int 8), .val (.int v), .val (thD t), .val (.int m), .val x, .val (.int (-1))]) hZ hfZ n5 (by decide +kernel) ?_
      dsimp only [cp]
      walk_at "ret"
      exact rfl
    | w9 t m h1 h2 h hv =>
      change Ws X S [.val (.int 9), .val (.int v), .val (thD t), .val (.int m), .val x, .no] (_ :: _) _
      walk_at "set"
      apply q_tryH (n := Str.ofString "NoSentence") (Γ1 := [.val (.int 9), .val (.int v), .val (thD t), .val (.int m), .val x, .val (.int (-1))]) hf tp hb (One.expr rfl) ⟨_, e_NoSentence.gC⟩
      · intro Y hY hE
        walk_at "callX"
        exact GX_asked.oth 9 v _ x m _ (.w9 t m h1 h2 h hv)
      refine .miss y_NoSentence_NoSayings (by decide +kernel) (.miss y_NoSentence_NoCase (by decide +kernel) (.miss y_NoSentence_NoSaying (by decide +kernel) (.miss y_NoSentence_NoThing (by decide +kernel) (.miss y_NoSentence_NoKinds (by decide +kernel) (.hit x_NoSentence_NoSentence (by decide +kernel) (.nil) fun Z hZ hfZ hE => ?_)))))
      refine suite_set (Γ := [.val (.int 9), .val (.int v), .val (thD t), .val (.int m), .val x, .val (.int (-1))]) hZ hfZ n5 (by decide +kernel) ?_
      dsimp only [cp]
      walk_at "ret"
      exact rfl
theorem ok_law {f : Addr} {fd : FuncData} (F : Fun K (Str.ofString "law") (Str.ofString "law") s_law f fd) (c_L_mixed : Cee P w K mg base 2 (Str.ofString "_law_mixed") G_L_mixed) (c_L_sayings : Cee P w K mg base 4 (Str.ofString "_law_sayings") G_L_sayings) (c_L_bad : Cee P w K mg base 2 (Str.ofString "_law_bad") G_bad) (c_L_by_base : Cee P w K mg base 20 (Str.ofString "_law_by_base") G_by_base) (c_is_case : Cee P w K mg base 2 (Str.ofString "is_case") G_is_caseB) (c_L_kind : Cee P w K mg base 20 (Str.ofString "_law_kind") G_kind) (m_range : mg (Str.ofString "range") = none) (m_tuple : mg (Str.ofString "tuple") = none) : FnOk P w K mg base CX0 21 f fd [(Str.ofString "_law_script")] (spF K G_law) := by
  refine fn_pure F sc_law (fun ds d g => by cases g <;> rfl) fun X hb hf S ds d g => ?_
  have cx := hb.cxt
  have n0 : n_law[0]? = some (Str.ofString "_law_script") := rfl
  have n1 : n_law[1]? = some (Str.ofString "_law_many") := rfl
  have n2 : n_law[2]? = some (Str.ofString "_law_case") := rfl
  have n3 : n_law[3]? = some (Str.ofString "_law_way") := rfl
  have n4 : n_law[4]? = some (Str.ofString "_law_cell") := rfl
  have n5 : n_law[5]? = some (Str.ofString "_law_what") := rfl
  have n6 : n_law[6]? = some (Str.ofString "_law_sayings_here") := rfl
  have n7 : n_law[7]? = some (Str.ofString "_law_bad_here") := rfl
  have n8 : n_law[8]? = some (Str.ofString "_law_due") := rfl
  have n9 : n_law[9]? = some (Str.ofString "_law_k") := rfl
  cases g with
  | mk s h63 =>
    have h62 : (100 : Int) < 2 ^ 62 := by decide
    change Ws X S [.val (.scr s), .no, .no, .no, .no, .no, .no, .no, .no, .no] (_ :: _) _
    walk_at "set"
    have hmr := mixed_range (s := s) (k := 0) (m := 5) (by decide)
    generalize hm : 1 + mixed s 0 5 = m
    have hm1 : 1 ≤ m := by omega
    have hm5 : m ≤ 5 := by omega
    walk_at "setC"
    rw [show (List.range m.toNat).map (fun x : Nat => Dt.int (mixed s (1 + (x : Int)) 2)) = (((List.range m.toNat).map fun x : Nat => mixed s (1 + (x : Int)) 2)).map Dt.int by rw [List.map_map]; rfl]
    have hcl : ((((List.range m.toNat).map fun x : Nat => mixed s (1 + (x : Int)) 2).length : Nat) : Int) = m := by rw [List.length_map, List.length_range]; omega
    generalize ((List.range m.toNat).map fun x : Nat => mixed s (1 + (x : Int)) 2) = c at hcl
    apply ws_frz (i := 2) rfl
    dsimp only [cp]
    walk_at "set"
    have hwr := mixed_range (s := s) (k := 6) (m := 10) (by decide)
    generalize mixed s 6 10 = w at hwr
    walk_at "set"
    have hcr := mixed_range (s := s) (k := 7) (m := 1000000) (by decide)
    generalize mixed s 7 1000000 = cell at hcr
    walk_at "set"
    have hwh := mixed_range (s := s) (k := 8) (m := 14) (by decide)
    generalize mixed s 8 14 = wh at hwh
    have due : atI (([0, 1, 1, 2, 3, 4, 5, 5, 5, 5] : List Int).map Dt.int) w = some (.int (dueW w)) := by
      rw [atI_map, atZ_ok hwr.1 (by show _ < ((10 : Nat) : Int); exact hwr.2)]
      rfl
    have fin : ∀ (M d : Dt), (decide (w ∈ ([1, 2] : List Int)) = true → Gg G_is_caseB [d, M] (.bl false)) → Gg G_kind [.int w, .int wh, d, M, eL c] (.int (dueW w)) → Gg G_by_base [.int w, .int wh, d, M, eL c] (.bl true) →
        Ws X S [.val (.scr s), .val M, .val (.lst (c.map .int)), .val (.int w), .val (.int cell), .val (.int wh), .no, .val d, .no, .no] (defBody s_law |>.drop 6) { nx := fun _ => Dt.bl true = .non, rt := fun d' _ => d' = Dt.bl true } := fun M d hcs hGk hGb => by
      change Ws X S _ (_ :: _) _
      refine q_when (c := false) (tst_is (tst_w (tw_and (c := decide (w ∈ ([1, 2] : List Int))) (c' := false) ?_ fun q => ?_)) (Bool.and_false _)) (fun q => by cases q) fun _ => ?_
      · walk_at "ev"
        exact c_inT (ns := [1, 2])
      · have hGc := hcs q
        refine tw_and1 (tst_is (c := !decide (false = false)) ?_ rfl)
        walk_at "ev"
      walk_at "set"
      · exact due
      walk_at "ret"
      show Dt.bl (decide (dueW w = dueW w) && true) = Dt.bl true
      simp
    walk_at "if"
    · intro hw0
      have hw0 := of_decide_eq_true hw0
      subst hw0
      have hno : ¬ decide ((0 : Int) ∈ ([1, 2] : List Int)) = true := by decide
      walk_at "set"
      have hxs := sayingsOf_say (s := s) (a := 10) (most := 6) (m := m) (by omega)
      have hxl := sayingsOf_len (s := s) (a := 10) (m := m) (most := 6) (by decide)
      generalize sayingsOf s 10 m 6 = xs at hxs hxl
      obtain ⟨hg, hc, hA⟩ := way0_ok (xs := xs) (m := m) (cell := cell) (by omega) (fun x hx => (hxs x hx).2) hm1 hm5
      have hway : way0 xs m cell = if cell % 5 = 4 ∧ cell / 5 % 2 = 1 then (.li (xs.map tI), atZ bmM (cell / 10 % 5)) else (atZ (bgL xs m) (cell % 5), .nt m) := rfl
      have hGk : Gg G_kind [.int 0, .int wh, tgD (way0 xs m cell).1, thD (way0 xs m cell).2, eL c] (.int (dueW 0)) := ⟨.say wh _ _ _ hwh.1 (by omega) hg hc hA⟩
      have hGb : Gg G_by_base [.int 0, .int wh, tgD (way0 xs m cell).1, thD (way0 xs m cell).2, eL c] (.bl true) := ⟨.say wh _ _ _ hwh.1 (by omega) hg hc hA⟩
      have r5 : 0 ≤ cell % 5 ∧ cell % 5 < 5 := ⟨Int.emod_nonneg _ (by decide), Int.emod_lt_of_pos _ (by decide)⟩
      have q5 : 0 ≤ cell / 10 % 5 ∧ cell / 10 % 5 < 5 := ⟨Int.emod_nonneg _ (by decide), Int.emod_lt_of_pos _ (by decide)⟩
      have ha : atI ((bgL xs m).map tgD) (cell % 5) = some (tgD (atZ (bgL xs m) (cell % 5))) := by
        rw [atI_map, atZ_ok r5.1 (by show _ < ((5 : Nat) : Int); exact r5.2)]
        rfl
      have hb5 : atI (bmM.map thD) (cell / 10 % 5) = some (thD (atZ bmM (cell / 10 % 5))) := by
        rw [atI_map, atZ_ok q5.1 (by show _ < ((5 : Nat) : Int); exact q5.2)]
        rfl
      have e : (xs.map tI).map thD = xs.map eT := by rw [List.map_map]; rfl
      have fg : ∀ M d : Dt, Fg [.val (.scr s), .val M, .val (.lst (c.map .int)), .val (.int 0), .val (.int cell), .val (.int wh), .val (.lst (xs.map eT)), .val d, .no, .no] [.val (.scr s), .val M, .val (.lst (c.map .int)), .val (.int 0), .val (.int cell), .val (.int wh), .no, .val d, .no, .no] := fun M d => ⟨.inr rfl, .inr rfl, .inr rfl, .inr rfl, .inr rfl, .inr rfl, .inl rfl, .inr rfl, .inl rfl, .inl rfl, trivial⟩
      walk_at "set"
      · exact lenLine (by rw [List.length_map]; show _ + 25 ≤ _; omega)
      · exact lenLine (by rw [List.length_map]; show _ + 1 ≤ _; omega)
      · exact lenLine (by rw [List.length_map]; show 1 + _ ≤ _; omega)
      · rw [← ha]
        simp only [bgL, tgD, List.map_cons, List.map_append, List.map_nil, e]
        rfl
      by_cases hq : cell % 5 = 4 ∧ cell / 5 % 2 = 1
      · rw [if_pos hq] at hway
        rw [hway] at hGk hGb
        dsimp only at hGk hGb
        rw [show tgD (.li (xs.map tI)) = .lst (xs.map eT) by show Dt.lst _ = _; rw [e]] at hGk hGb
        walk_at "when"
        · intro _
          walk_at "set"
          walk_at "set"
          · exact hb5
          apply ws_nil
          exact ws_nil (ws_forget (fg _ _) (fin _ _ (fun z => absurd z hno) hGk hGb))
        · rw [hq.1, hq.2]
          intro q; cases q
      · rw [if_neg hq] at hway
        rw [hway] at hGk hGb
        dsimp only at hGk hGb
        walk_at "when"
        · intro q
          exact absurd (by simpa using q) hq
        · intro _
          apply ws_nil
          exact ws_forget (fg _ _) (fin _ _ (fun z => absurd z hno) hGk hGb)
    · intro hw0
      have hw0 := of_decide_eq_false hw0
      obtain ⟨d, hB⟩ := bad_ex (m := m) (c := c) (cell := cell) (w := w) (by omega) (by omega)
      obtain ⟨n, hO⟩ := bad_oth hm1 hm5 hcl hB
      have hGd : Gg G_bad [.int w, .int m, eL c, .int cell] d := ⟨.mk w m c cell d hm1 hm5 hcl hcr.1 hB⟩
      walk_at "set"
      apply ws_nil
      refine fin _ _ (fun z => ?_) ⟨.oth w wh d _ m n hO⟩ ⟨.oth w wh d _ m n hO⟩
      have z : w = 1 ∨ w = 2 := by simpa using z
      obtain ⟨b, rfl, hcb, hok⟩ := bad_cs hm1 hcl hB z
      exact ⟨by have := G_is_caseB.mk b m hok; rw [hcb] at this; exact this⟩
theorem all_mk {l : PySem.W.OpenLaw} {w : World} {K : PySem.W.Frag} {h : Heap} {mg : Str → Option Value} {fa : Addr} (X : K.In h) (G : h.Ns mainGlobals mg) (hfa : mg "law" = some (.ref fa))
    {f0 : Addr} {od0 an0 : Option Addr} {sl0 : Array (Option Value)} {oc0 kV0 dc0 pm0 cd0 ct0 : Value}
    (a0 : PySem.W.nsIn K mainGlobals (Str.ofString "_law_cell_at") = some (some (.ref f0))) (l0 : K.lookup f0 = some ⟨oc0, od0, .func (PySem.W.fnOf (Str.ofString "_law_cell_at") (Str.ofString "_law_cell_at") (defArgs s_L_cell_at) (defBody s_L_cell_at) (defScope s_L_cell_at) .none kV0 dc0 pm0 an0 cd0 ct0), sl0⟩) (d0 : PySem.W.codeIn K cd0 (Str.ofString "_law_cell_at") = true) (e0 : PySem.W.keepIn K (.ref f0) = true)
    {f1 : Addr} {od1 an1 : Option Addr} {sl1 : Array (Option Value)} {oc1 kV1 dc1 pm1 cd1 ct1 : Value}
    (a1 : PySem.W.nsIn K mainGlobals (Str.ofString "_law_mixed") = some (some (.ref f1))) (l1 : K.lookup f1 = some ⟨oc1, od1, .func (PySem.W.fnOf (Str.ofString "_law_mixed") (Str.ofString "_law_mixed") (defArgs s_L_mixed) (defBody s_L_mixed) (defScope s_L_mixed) .none kV1 dc1 pm1 an1 cd1 ct1), sl1⟩) (d1 : PySem.W.codeIn K cd1 (Str.ofString "_law_mixed") = true) (e1 : PySem.W.keepIn K (.ref f1) = true)
    {f2 : Addr} {od2 an2 : Option Addr} {sl2 : Array (Option Value)} {oc2 kV2 dc2 pm2 cd2 ct2 : Value}
    (a2 : PySem.W.nsIn K mainGlobals (Str.ofString "_law_saying") = some (some (.ref f2))) (l2 : K.lookup f2 = some ⟨oc2, od2, .func (PySem.W.fnOf (Str.ofString "_law_saying") (Str.ofString "_law_saying") (defArgs s_L_saying) (defBody s_L_saying) (defScope s_L_saying) .none kV2 dc2 pm2 an2 cd2 ct2), sl2⟩) (d2 : PySem.W.codeIn K cd2 (Str.ofString "_law_saying") = true) (e2 : PySem.W.keepIn K (.ref f2) = true)
    {f3 : Addr} {od3 an3 : Option Addr} {sl3 : Array (Option Value)} {oc3 kV3 dc3 pm3 cd3 ct3 : Value}
    (a3 : PySem.W.nsIn K mainGlobals (Str.ofString "_law_sayings") = some (some (.ref f3))) (l3 : K.lookup f3 = some ⟨oc3, od3, .func (PySem.W.fnOf (Str.ofString "_law_sayings") (Str.ofString "_law_sayings") (defArgs s_L_sayings) (defBody s_L_sayings) (defScope s_L_sayings) .none kV3 dc3 pm3 an3 cd3 ct3), sl3⟩) (d3 : PySem.W.codeIn K cd3 (Str.ofString "_law_sayings") = true) (e3 : PySem.W.keepIn K (.ref f3) = true)
    {f4 : Addr} {od4 an4 : Option Addr} {sl4 : Array (Option Value)} {oc4 kV4 dc4 pm4 cd4 ct4 : Value}
    (a4 : PySem.W.nsIn K mainGlobals (Str.ofString "_law_bad_sentence") = some (some (.ref f4))) (l4 : K.lookup f4 = some ⟨oc4, od4, .func (PySem.W.fnOf (Str.ofString "_law_bad_sentence") (Str.ofString "_law_bad_sentence") (defArgs s_L_bad_sentence) (defBody s_L_bad_sentence) (defScope s_L_bad_sentence) .none kV4 dc4 pm4 an4 cd4 ct4), sl4⟩) (d4 : PySem.W.codeIn K cd4 (Str.ofString "_law_bad_sentence") = true) (e4 : PySem.W.keepIn K (.ref f4) = true)
    {f5 : Addr} {od5 an5 : Option Addr} {sl5 : Array (Option Value)} {oc5 kV5 dc5 pm5 cd5 ct5 : Value}
    (a5 : PySem.W.nsIn K mainGlobals (Str.ofString "_law_bad") = some (some (.ref f5))) (l5 : K.lookup f5 = some ⟨oc5, od5, .func (PySem.W.fnOf (Str.ofString "_law_bad") (Str.ofString "_law_bad") (defArgs s_L_bad) (defBody s_L_bad) (defScope s_L_bad) .none kV5 dc5 pm5 an5 cd5 ct5), sl5⟩) (d5 : PySem.W.codeIn K cd5 (Str.ofString "_law_bad") = true) (e5 : PySem.W.keepIn K (.ref f5) = true)
    {f6 : Addr} {od6 an6 : Option Addr} {sl6 : Array (Option Value)} {oc6 kV6 dc6 pm6 cd6 ct6 : Value}
    (a6 : PySem.W.nsIn K mainGlobals (Str.ofString "is_whole") = some (some (.ref f6))) (l6 : K.lookup f6 = some ⟨oc6, od6, .func (PySem.W.fnOf (Str.ofString "is_whole") (Str.ofString "is_whole") (defArgs s_is_whole) (defBody s_is_whole) (defScope s_is_whole) .none kV6 dc6 pm6 an6 cd6 ct6), sl6⟩) (d6 : PySem.W.codeIn K cd6 (Str.ofString "is_whole") = true) (e6 : PySem.W.keepIn K (.ref f6) = true)
    {f7 : Addr} {od7 an7 : Option Addr} {sl7 : Array (Option Value)} {oc7 kV7 dc7 pm7 cd7 ct7 : Value}
    (a7 : PySem.W.nsIn K mainGlobals (Str.ofString "is_saying") = some (some (.ref f7))) (l7 : K.lookup f7 = some ⟨oc7, od7, .func (PySem.W.fnOf (Str.ofString "is_saying") (Str.ofString "is_saying") (defArgs s_is_saying) (defBody s_is_saying) (defScope s_is_saying) .none kV7 dc7 pm7 an7 cd7 ct7), sl7⟩) (d7 : PySem.W.codeIn K cd7 (Str.ofString "is_saying") = true) (e7 : PySem.W.keepIn K (.ref f7) = true)
    {f8 : Addr} {od8 an8 : Option Addr} {sl8 : Array (Option Value)} {oc8 kV8 dc8 pm8 cd8 ct8 : Value}
    (a8 : PySem.W.nsIn K mainGlobals (Str.ofString "checked") = some (some (.ref f8))) (l8 : K.lookup f8 = some ⟨oc8, od8, .func (PySem.W.fnOf (Str.ofString "checked") (Str.ofString "checked") (defArgs s_checked) (defBody s_checked) (defScope s_checked) .none kV8 dc8 pm8 an8 cd8 ct8), sl8⟩) (d8 : PySem.W.codeIn K cd8 (Str.ofString "checked") = true) (e8 : PySem.W.keepIn K (.ref f8) = true)
    {f9 : Addr} {od9 an9 : Option Addr} {sl9 : Array (Option Value)} {oc9 kV9 dc9 pm9 cd9 ct9 : Value}
    (a9 : PySem.W.nsIn K mainGlobals (Str.ofString "cases") = some (some (.ref f9))) (l9 : K.lookup f9 = some ⟨oc9, od9, .func (PySem.W.fnOf (Str.ofString "cases") (Str.ofString "cases") (defArgs s_cases) (defBody s_cases) (defScope s_cases) .none kV9 dc9 pm9 an9 cd9 ct9), sl9⟩) (d9 : PySem.W.codeIn K cd9 (Str.ofString "cases") = true) (e9 : PySem.W.keepIn K (.ref f9) = true)
    {f10 : Addr} {od10 an10 : Option Addr} {sl10 : Array (Option Value)} {oc10 kV10 dc10 pm10 cd10 ct10 : Value}
    (a10 : PySem.W.nsIn K mainGlobals (Str.ofString "settled") = some (some (.ref f10))) (l10 : K.lookup f10 = some ⟨oc10, od10, .func (PySem.W.fnOf (Str.ofString "settled") (Str.ofString "settled") (defArgs s_settled) (defBody s_settled) (defScope s_settled) .none kV10 dc10 pm10 an10 cd10 ct10), sl10⟩) (d10 : PySem.W.codeIn K cd10 (Str.ofString "settled") = true) (e10 : PySem.W.keepIn K (.ref f10) = true)
    {f11 : Addr} {od11 an11 : Option Addr} {sl11 : Array (Option Value)} {oc11 kV11 dc11 pm11 cd11 ct11 : Value}
    (a11 : PySem.W.nsIn K mainGlobals (Str.ofString "case_or_clash") = some (some (.ref f11))) (l11 : K.lookup f11 = some ⟨oc11, od11, .func (PySem.W.fnOf (Str.ofString "case_or_clash") (Str.ofString "case_or_clash") (defArgs s_case_or_clash) (defBody s_case_or_clash) (defScope s_case_or_clash) .none kV11 dc11 pm11 an11 cd11 ct11), sl11⟩) (d11 : PySem.W.codeIn K cd11 (Str.ofString "case_or_clash") = true) (e11 : PySem.W.keepIn K (.ref f11) = true)
    {f12 : Addr} {od12 an12 : Option Addr} {sl12 : Array (Option Value)} {oc12 kV12 dc12 pm12 cd12 ct12 : Value}
    (a12 : PySem.W.nsIn K mainGlobals (Str.ofString "follows") = some (some (.ref f12))) (l12 : K.lookup f12 = some ⟨oc12, od12, .func (PySem.W.fnOf (Str.ofString "follows") (Str.ofString "follows") (defArgs s_follows) (defBody s_follows) (defScope s_follows) .none kV12 dc12 pm12 an12 cd12 ct12), sl12⟩) (d12 : PySem.W.codeIn K cd12 (Str.ofString "follows") = true) (e12 : PySem.W.keepIn K (.ref f12) = true)
    {f13 : Addr} {od13 an13 : Option Addr} {sl13 : Array (Option Value)} {oc13 kV13 dc13 pm13 cd13 ct13 : Value}
    (a13 : PySem.W.nsIn K mainGlobals (Str.ofString "sharpest") = some (some (.ref f13))) (l13 : K.lookup f13 = some ⟨oc13, od13, .func (PySem.W.fnOf (Str.ofString "sharpest") (Str.ofString "sharpest") (defArgs s_sharpest) (defBody s_sharpest) (defScope s_sharpest) .none kV13 dc13 pm13 an13 cd13 ct13), sl13⟩) (d13 : PySem.W.codeIn K cd13 (Str.ofString "sharpest") = true) (e13 : PySem.W.keepIn K (.ref f13) = true)
    {f14 : Addr} {od14 an14 : Option Addr} {sl14 : Array (Option Value)} {oc14 kV14 dc14 pm14 cd14 ct14 : Value}
    (a14 : PySem.W.nsIn K mainGlobals (Str.ofString "alike") = some (some (.ref f14))) (l14 : K.lookup f14 = some ⟨oc14, od14, .func (PySem.W.fnOf (Str.ofString "alike") (Str.ofString "alike") (defArgs s_alike) (defBody s_alike) (defScope s_alike) .none kV14 dc14 pm14 an14 cd14 ct14), sl14⟩) (d14 : PySem.W.codeIn K cd14 (Str.ofString "alike") = true) (e14 : PySem.W.keepIn K (.ref f14) = true)
    {f15 : Addr} {od15 an15 : Option Addr} {sl15 : Array (Option Value)} {oc15 kV15 dc15 pm15 cd15 ct15 : Value}
    (a15 : PySem.W.nsIn K mainGlobals (Str.ofString "least_clash") = some (some (.ref f15))) (l15 : K.lookup f15 = some ⟨oc15, od15, .func (PySem.W.fnOf (Str.ofString "least_clash") (Str.ofString "least_clash") (defArgs s_least_clash) (defBody s_least_clash) (defScope s_least_clash) .none kV15 dc15 pm15 an15 cd15 ct15), sl15⟩) (d15 : PySem.W.codeIn K cd15 (Str.ofString "least_clash") = true) (e15 : PySem.W.keepIn K (.ref f15) = true)
    {f16 : Addr} {od16 an16 : Option Addr} {sl16 : Array (Option Value)} {oc16 kV16 dc16 pm16 cd16 ct16 : Value}
    (a16 : PySem.W.nsIn K mainGlobals (Str.ofString "between") = some (some (.ref f16))) (l16 : K.lookup f16 = some ⟨oc16, od16, .func (PySem.W.fnOf (Str.ofString "between") (Str.ofString "between") (defArgs s_between) (defBody s_between) (defScope s_between) .none kV16 dc16 pm16 an16 cd16 ct16), sl16⟩) (d16 : PySem.W.codeIn K cd16 (Str.ofString "between") = true) (e16 : PySem.W.keepIn K (.ref f16) = true)
    {f17 : Addr} {od17 an17 : Option Addr} {sl17 : Array (Option Value)} {oc17 kV17 dc17 pm17 cd17 ct17 : Value}
    (a17 : PySem.W.nsIn K mainGlobals (Str.ofString "forgotten") = some (some (.ref f17))) (l17 : K.lookup f17 = some ⟨oc17, od17, .func (PySem.W.fnOf (Str.ofString "forgotten") (Str.ofString "forgotten") (defArgs s_forgotten) (defBody s_forgotten) (defScope s_forgotten) .none kV17 dc17 pm17 an17 cd17 ct17), sl17⟩) (d17 : PySem.W.codeIn K cd17 (Str.ofString "forgotten") = true) (e17 : PySem.W.keepIn K (.ref f17) = true)
    {f18 : Addr} {od18 an18 : Option Addr} {sl18 : Array (Option Value)} {oc18 kV18 dc18 pm18 cd18 ct18 : Value}
    (a18 : PySem.W.nsIn K mainGlobals (Str.ofString "least_case") = some (some (.ref f18))) (l18 : K.lookup f18 = some ⟨oc18, od18, .func (PySem.W.fnOf (Str.ofString "least_case") (Str.ofString "least_case") (defArgs s_least_case) (defBody s_least_case) (defScope s_least_case) .none kV18 dc18 pm18 an18 cd18 ct18), sl18⟩) (d18 : PySem.W.codeIn K cd18 (Str.ofString "least_case") = true) (e18 : PySem.W.keepIn K (.ref f18) = true)
    {f19 : Addr} {od19 an19 : Option Addr} {sl19 : Array (Option Value)} {oc19 kV19 dc19 pm19 cd19 ct19 : Value}
    (a19 : PySem.W.nsIn K mainGlobals (Str.ofString "need_kinds") = some (some (.ref f19))) (l19 : K.lookup f19 = some ⟨oc19, od19, .func (PySem.W.fnOf (Str.ofString "need_kinds") (Str.ofString "need_kinds") (defArgs s_need_kinds) (defBody s_need_kinds) (defScope s_need_kinds) .none kV19 dc19 pm19 an19 cd19 ct19), sl19⟩) (d19 : PySem.W.codeIn K cd19 (Str.ofString "need_kinds") = true) (e19 : PySem.W.keepIn K (.ref f19) = true)
    {f20 : Addr} {od20 an20 : Option Addr} {sl20 : Array (Option Value)} {oc20 kV20 dc20 pm20 cd20 ct20 : Value}
    (a20 : PySem.W.nsIn K mainGlobals (Str.ofString "played") = some (some (.ref f20))) (l20 : K.lookup f20 = some ⟨oc20, od20, .func (PySem.W.fnOf (Str.ofString "played") (Str.ofString "played") (defArgs s_played) (defBody s_played) (defScope s_played) .none kV20 dc20 pm20 an20 cd20 ct20), sl20⟩) (d20 : PySem.W.codeIn K cd20 (Str.ofString "played") = true) (e20 : PySem.W.keepIn K (.ref f20) = true)
    {f21 : Addr} {od21 an21 : Option Addr} {sl21 : Array (Option Value)} {oc21 kV21 dc21 pm21 cd21 ct21 : Value}
    (a21 : PySem.W.nsIn K mainGlobals (Str.ofString "is_case") = some (some (.ref f21))) (l21 : K.lookup f21 = some ⟨oc21, od21, .func (PySem.W.fnOf (Str.ofString "is_case") (Str.ofString "is_case") (defArgs s_is_case) (defBody s_is_case) (defScope s_is_case) .none kV21 dc21 pm21 an21 cd21 ct21), sl21⟩) (d21 : PySem.W.codeIn K cd21 (Str.ofString "is_case") = true) (e21 : PySem.W.keepIn K (.ref f21) = true)
    {f22 : Addr} {od22 an22 : Option Addr} {sl22 : Array (Option Value)} {oc22 kV22 dc22 pm22 cd22 ct22 : Value}
    (a22 : PySem.W.nsIn K mainGlobals (Str.ofString "need_case") = some (some (.ref f22))) (l22 : K.lookup f22 = some ⟨oc22, od22, .func (PySem.W.fnOf (Str.ofString "need_case") (Str.ofString "need_case") (defArgs s_need_case) (defBody s_need_case) (defScope s_need_case) .none kV22 dc22 pm22 an22 cd22 ct22), sl22⟩) (d22 : PySem.W.codeIn K cd22 (Str.ofString "need_case") = true) (e22 : PySem.W.keepIn K (.ref f22) = true)
    {f23 : Addr} {od23 an23 : Option Addr} {sl23 : Array (Option Value)} {oc23 kV23 dc23 pm23 cd23 ct23 : Value}
    (a23 : PySem.W.nsIn K mainGlobals (Str.ofString "fits") = some (some (.ref f23))) (l23 : K.lookup f23 = some ⟨oc23, od23, .func (PySem.W.fnOf (Str.ofString "fits") (Str.ofString "fits") (defArgs s_fits) (defBody s_fits) (defScope s_fits) .none kV23 dc23 pm23 an23 cd23 ct23), sl23⟩) (d23 : PySem.W.codeIn K cd23 (Str.ofString "fits") = true) (e23 : PySem.W.keepIn K (.ref f23) = true)
    {f24 : Addr} {od24 an24 : Option Addr} {sl24 : Array (Option Value)} {oc24 kV24 dc24 pm24 cd24 ct24 : Value}
    (a24 : PySem.W.nsIn K mainGlobals (Str.ofString "_law_with_sayings") = some (some (.ref f24))) (l24 : K.lookup f24 = some ⟨oc24, od24, .func (PySem.W.fnOf (Str.ofString "_law_with_sayings") (Str.ofString "_law_with_sayings") (defArgs s_L_with_sayings) (defBody s_L_with_sayings) (defScope s_L_with_sayings) .none kV24 dc24 pm24 an24 cd24 ct24), sl24⟩) (d24 : PySem.W.codeIn K cd24 (Str.ofString "_law_with_sayings") = true) (e24 : PySem.W.keepIn K (.ref f24) = true)
    {f25 : Addr} {od25 an25 : Option Addr} {sl25 : Array (Option Value)} {oc25 kV25 dc25 pm25 cd25 ct25 : Value}
    (a25 : PySem.W.nsIn K mainGlobals (Str.ofString "size_of") = some (some (.ref f25))) (l25 : K.lookup f25 = some ⟨oc25, od25, .func (PySem.W.fnOf (Str.ofString "size_of") (Str.ofString "size_of") (defArgs s_size_of) (defBody s_size_of) (defScope s_size_of) .none kV25 dc25 pm25 an25 cd25 ct25), sl25⟩) (d25 : PySem.W.codeIn K cd25 (Str.ofString "size_of") = true) (e25 : PySem.W.keepIn K (.ref f25) = true)
    {f26 : Addr} {od26 an26 : Option Addr} {sl26 : Array (Option Value)} {oc26 kV26 dc26 pm26 cd26 ct26 : Value}
    (a26 : PySem.W.nsIn K mainGlobals (Str.ofString "need_sentence") = some (some (.ref f26))) (l26 : K.lookup f26 = some ⟨oc26, od26, .func (PySem.W.fnOf (Str.ofString "need_sentence") (Str.ofString "need_sentence") (defArgs s_need_sentence) (defBody s_need_sentence) (defScope s_need_sentence) .none kV26 dc26 pm26 an26 cd26 ct26), sl26⟩) (d26 : PySem.W.codeIn K cd26 (Str.ofString "need_sentence") = true) (e26 : PySem.W.keepIn K (.ref f26) = true)
    {f27 : Addr} {od27 an27 : Option Addr} {sl27 : Array (Option Value)} {oc27 kV27 dc27 pm27 cd27 ct27 : Value}
    (a27 : PySem.W.nsIn K mainGlobals (Str.ofString "is_true") = some (some (.ref f27))) (l27 : K.lookup f27 = some ⟨oc27, od27, .func (PySem.W.fnOf (Str.ofString "is_true") (Str.ofString "is_true") (defArgs s_is_true) (defBody s_is_true) (defScope s_is_true) .none kV27 dc27 pm27 an27 cd27 ct27), sl27⟩) (d27 : PySem.W.codeIn K cd27 (Str.ofString "is_true") = true) (e27 : PySem.W.keepIn K (.ref f27) = true)
    {f28 : Addr} {od28 an28 : Option Addr} {sl28 : Array (Option Value)} {oc28 kV28 dc28 pm28 cd28 ct28 : Value}
    (a28 : PySem.W.nsIn K mainGlobals (Str.ofString "sayings_of") = some (some (.ref f28))) (l28 : K.lookup f28 = some ⟨oc28, od28, .func (PySem.W.fnOf (Str.ofString "sayings_of") (Str.ofString "sayings_of") (defArgs s_sayings_of) (defBody s_sayings_of) (defScope s_sayings_of) .none kV28 dc28 pm28 an28 cd28 ct28), sl28⟩) (d28 : PySem.W.codeIn K cd28 (Str.ofString "sayings_of") = true) (e28 : PySem.W.keepIn K (.ref f28) = true)
    {f29 : Addr} {od29 an29 : Option Addr} {sl29 : Array (Option Value)} {oc29 kV29 dc29 pm29 cd29 ct29 : Value}
    (a29 : PySem.W.nsIn K mainGlobals (Str.ofString "_law_with_other") = some (some (.ref f29))) (l29 : K.lookup f29 = some ⟨oc29, od29, .func (PySem.W.fnOf (Str.ofString "_law_with_other") (Str.ofString "_law_with_other") (defArgs s_L_with_other) (defBody s_L_with_other) (defScope s_L_with_other) .none kV29 dc29 pm29 an29 cd29 ct29), sl29⟩) (d29 : PySem.W.codeIn K cd29 (Str.ofString "_law_with_other") = true) (e29 : PySem.W.keepIn K (.ref f29) = true)
    {f30 : Addr} {od30 an30 : Option Addr} {sl30 : Array (Option Value)} {oc30 kV30 dc30 pm30 cd30 ct30 : Value}
    (a30 : PySem.W.nsIn K mainGlobals (Str.ofString "_law_asked") = some (some (.ref f30))) (l30 : K.lookup f30 = some ⟨oc30, od30, .func (PySem.W.fnOf (Str.ofString "_law_asked") (Str.ofString "_law_asked") (defArgs s_L_asked) (defBody s_L_asked) (defScope s_L_asked) .none kV30 dc30 pm30 an30 cd30 ct30), sl30⟩) (d30 : PySem.W.codeIn K cd30 (Str.ofString "_law_asked") = true) (e30 : PySem.W.keepIn K (.ref f30) = true)
    {f31 : Addr} {od31 an31 : Option Addr} {sl31 : Array (Option Value)} {oc31 kV31 dc31 pm31 cd31 ct31 : Value}
    (a31 : PySem.W.nsIn K mainGlobals (Str.ofString "_law_by_base") = some (some (.ref f31))) (l31 : K.lookup f31 = some ⟨oc31, od31, .func (PySem.W.fnOf (Str.ofString "_law_by_base") (Str.ofString "_law_by_base") (defArgs s_L_by_base) (defBody s_L_by_base) (defScope s_L_by_base) .none kV31 dc31 pm31 an31 cd31 ct31), sl31⟩) (d31 : PySem.W.codeIn K cd31 (Str.ofString "_law_by_base") = true) (e31 : PySem.W.keepIn K (.ref f31) = true)
    {f32 : Addr} {od32 an32 : Option Addr} {sl32 : Array (Option Value)} {oc32 kV32 dc32 pm32 cd32 ct32 : Value}
    (a32 : PySem.W.nsIn K mainGlobals (Str.ofString "_law_kind") = some (some (.ref f32))) (l32 : K.lookup f32 = some ⟨oc32, od32, .func (PySem.W.fnOf (Str.ofString "_law_kind") (Str.ofString "_law_kind") (defArgs s_L_kind) (defBody s_L_kind) (defScope s_L_kind) .none kV32 dc32 pm32 an32 cd32 ct32), sl32⟩) (d32 : PySem.W.codeIn K cd32 (Str.ofString "_law_kind") = true) (e32 : PySem.W.keepIn K (.ref f32) = true)
    {f33 : Addr} {od33 an33 : Option Addr} {sl33 : Array (Option Value)} {oc33 kV33 dc33 pm33 cd33 ct33 : Value}
    (a33 : PySem.W.nsIn K mainGlobals (Str.ofString "law") = some (some (.ref f33))) (l33 : K.lookup f33 = some ⟨oc33, od33, .func (PySem.W.fnOf (Str.ofString "law") (Str.ofString "law") (defArgs s_law) (defBody s_law) (defScope s_law) .none kV33 dc33 pm33 an33 cd33 ct33), sl33⟩) (d33 : PySem.W.codeIn K cd33 (Str.ofString "law") = true) (e33 : PySem.W.keepIn K (.ref f33) = true)
    (z_len : PySem.W.nsIn K mainGlobals (Str.ofString "len") = some none)
    (z_range : PySem.W.nsIn K mainGlobals (Str.ofString "range") = some none)
    (z_tuple : PySem.W.nsIn K mainGlobals (Str.ofString "tuple") = some none)
    (z_sorted : PySem.W.nsIn K mainGlobals (Str.ofString "sorted") = some none)
    (z_list : PySem.W.nsIn K mainGlobals (Str.ofString "list") = some none)
    (z_isinstance : PySem.W.nsIn K mainGlobals (Str.ofString "isinstance") = some none)
    (z_int : PySem.W.nsIn K mainGlobals (Str.ofString "int") = some none)
    (z_bool : PySem.W.nsIn K mainGlobals (Str.ofString "bool") = some none)
    (z_abs : PySem.W.nsIn K mainGlobals (Str.ofString "abs") = some none)
    (z_min : PySem.W.nsIn K mainGlobals (Str.ofString "min") = some none)
    (z_max : PySem.W.nsIn K mainGlobals (Str.ofString "max") = some none)
    (z_all : PySem.W.nsIn K mainGlobals (Str.ofString "all") = some none)
    (z_str : PySem.W.nsIn K mainGlobals (Str.ofString "str") = some none)
    (z_ValueError : PySem.W.nsIn K mainGlobals (Str.ofString "ValueError") = some none)
    {tk_THINGS_sayings : Tok} (y_THINGS_sayings : PySem.W.nsIn K mainGlobals (Str.ofString "THINGS_sayings") = some (some (.int 16 tk_THINGS_sayings)))
    {tk_SAYINGS : Tok} (y_SAYINGS : PySem.W.nsIn K mainGlobals (Str.ofString "SAYINGS") = some (some (.int 24 tk_SAYINGS)))
    {tk_THINGS_sentences : Tok} (y_THINGS_sentences : PySem.W.nsIn K mainGlobals (Str.ofString "THINGS_sentences") = some (some (.int 5 tk_THINGS_sentences)))
    {tk_TUPLES : Tok} (y_TUPLES : PySem.W.nsIn K mainGlobals (Str.ofString "TUPLES") = some (some (.int 12 tk_TUPLES)))
    {C_NoSayings : Addr} (ka_NoSayings : PySem.W.nsIn K mainGlobals (Str.ofString "NoSayings") = some (some (.ref C_NoSayings))) (kx_NoSayings : PySem.W.excIn K C_NoSayings bmVE "ValueError.__new__" = true) (kk_NoSayings : PySem.W.keepIn K (.ref C_NoSayings) = true) (kb_NoSayings : PySem.W.subIn K (.ref C_NoSayings) (.type "BaseException") = some true) (kt_NoSayings : PySem.W.typeIn K (.ref C_NoSayings) = some (.type "type")) (kd_NoSayings : PySem.W.hasDictIn K C_NoSayings = true)
    {C_NoSaying : Addr} (ka_NoSaying : PySem.W.nsIn K mainGlobals (Str.ofString "NoSaying") = some (some (.ref C_NoSaying))) (kx_NoSaying : PySem.W.excIn K C_NoSaying bmVE "ValueError.__new__" = true) (kk_NoSaying : PySem.W.keepIn K (.ref C_NoSaying) = true) (kb_NoSaying : PySem.W.subIn K (.ref C_NoSaying) (.type "BaseException") = some true) (kt_NoSaying : PySem.W.typeIn K (.ref C_NoSaying) = some (.type "type")) (kd_NoSaying : PySem.W.hasDictIn K C_NoSaying = true)
    {C_NoThing : Addr} (ka_NoThing : PySem.W.nsIn K mainGlobals (Str.ofString "NoThing") = some (some (.ref C_NoThing))) (kx_NoThing : PySem.W.excIn K C_NoThing bmVE "ValueError.__new__" = true) (kk_NoThing : PySem.W.keepIn K (.ref C_NoThing) = true) (kb_NoThing : PySem.W.subIn K (.ref C_NoThing) (.type "BaseException") = some true) (kt_NoThing : PySem.W.typeIn K (.ref C_NoThing) = some (.type "type")) (kd_NoThing : PySem.W.hasDictIn K C_NoThing = true)
    {C_NoKinds : Addr} (ka_NoKinds : PySem.W.nsIn K mainGlobals (Str.ofString "NoKinds") = some (some (.ref C_NoKinds))) (kx_NoKinds : PySem.W.excIn K C_NoKinds bmVE "ValueError.__new__" = true) (kk_NoKinds : PySem.W.keepIn K (.ref C_NoKinds) = true) (kb_NoKinds : PySem.W.subIn K (.ref C_NoKinds) (.type "BaseException") = some true) (kt_NoKinds : PySem.W.typeIn K (.ref C_NoKinds) = some (.type "type")) (kd_NoKinds : PySem.W.hasDictIn K C_NoKinds = true)
    {C_NoCase : Addr} (ka_NoCase : PySem.W.nsIn K mainGlobals (Str.ofString "NoCase") = some (some (.ref C_NoCase))) (kx_NoCase : PySem.W.excIn K C_NoCase bmVE "ValueError.__new__" = true) (kk_NoCase : PySem.W.keepIn K (.ref C_NoCase) = true) (kb_NoCase : PySem.W.subIn K (.ref C_NoCase) (.type "BaseException") = some true) (kt_NoCase : PySem.W.typeIn K (.ref C_NoCase) = some (.type "type")) (kd_NoCase : PySem.W.hasDictIn K C_NoCase = true)
    {C_NoSentence : Addr} (ka_NoSentence : PySem.W.nsIn K mainGlobals (Str.ofString "NoSentence") = some (some (.ref C_NoSentence))) (kx_NoSentence : PySem.W.excIn K C_NoSentence bmVE "ValueError.__new__" = true) (kk_NoSentence : PySem.W.keepIn K (.ref C_NoSentence) = true) (kb_NoSentence : PySem.W.subIn K (.ref C_NoSentence) (.type "BaseException") = some true) (kt_NoSentence : PySem.W.typeIn K (.ref C_NoSentence) = some (.type "type")) (kd_NoSentence : PySem.W.hasDictIn K C_NoSentence = true)
    {C_SayError : Addr} (ka_SayError : PySem.W.nsIn K mainGlobals (Str.ofString "SayError") = some (some (.ref C_SayError))) (kx_SayError : PySem.W.excIn K C_SayError bmVE "ValueError.__new__" = true) (kk_SayError : PySem.W.keepIn K (.ref C_SayError) = true) (kb_SayError : PySem.W.subIn K (.ref C_SayError) (.type "BaseException") = some true) (kt_SayError : PySem.W.typeIn K (.ref C_SayError) = some (.type "type")) (kd_SayError : PySem.W.hasDictIn K C_SayError = true)
    (ks_x_NoSayings_SayError : PySem.W.subIn K (.ref C_NoSayings) (.ref C_SayError) = some true)
    (ks_x_NoCase_SayError : PySem.W.subIn K (.ref C_NoCase) (.ref C_SayError) = some true)
    (ks_x_NoSaying_SayError : PySem.W.subIn K (.ref C_NoSaying) (.ref C_SayError) = some true)
    (ks_x_NoThing_SayError : PySem.W.subIn K (.ref C_NoThing) (.ref C_SayError) = some true)
    (ks_x_NoKinds_SayError : PySem.W.subIn K (.ref C_NoKinds) (.ref C_SayError) = some true)
    (ks_x_NoSentence_SayError : PySem.W.subIn K (.ref C_NoSentence) (.ref C_SayError) = some true)
    (kg_NoSayings : PySem.W.findIn K (.ref C_NoSayings) "__getattribute__" = some (some (.builtin "BaseException.__getattribute__"))) (kh_NoSayings : PySem.W.findIn K (.ref C_NoSayings) "__getattr__" = some none) (ki_NoSayings : PySem.W.findIn K (.ref C_NoSayings) "__class__" = some (some (.builtin "object.__class__"))) (kj_NoSayings : PySem.W.specialIn K (.builtin "object.__class__") "__get__" = some (some (.builtin "getset_descriptor.__get__"))) (kl_NoSayings : PySem.W.takesIn K (.builtin "object.__class__") = some true) (km_NoSayings : PySem.W.mroIn K C_NoSayings (.type "object") = some true) (kn_NoSayings : PySem.W.kitOne K (.ref C_NoSayings) (.ref C_SayError) = some true) (ko_NoSayings : PySem.W.kitOne K (.ref C_NoSayings) (.type "ValueError") = some true)
    (kg_NoCase : PySem.W.findIn K (.ref C_NoCase) "__getattribute__" = some (some (.builtin "BaseException.__getattribute__"))) (kh_NoCase : PySem.W.findIn K (.ref C_NoCase) "__getattr__" = some none) (ki_NoCase : PySem.W.findIn K (.ref C_NoCase) "__class__" = some (some (.builtin "object.__class__"))) (kj_NoCase : PySem.W.specialIn K (.builtin "object.__class__") "__get__" = some (some (.builtin "getset_descriptor.__get__"))) (kl_NoCase : PySem.W.takesIn K (.builtin "object.__class__") = some true) (km_NoCase : PySem.W.mroIn K C_NoCase (.type "object") = some true) (kn_NoCase : PySem.W.kitOne K (.ref C_NoCase) (.ref C_SayError) = some true) (ko_NoCase : PySem.W.kitOne K (.ref C_NoCase) (.type "ValueError") = some true)
    (kg_NoSaying : PySem.W.findIn K (.ref C_NoSaying) "__getattribute__" = some (some (.builtin "BaseException.__getattribute__"))) (kh_NoSaying : PySem.W.findIn K (.ref C_NoSaying) "__getattr__" = some none) (ki_NoSaying : PySem.W.findIn K (.ref C_NoSaying) "__class__" = some (some (.builtin "object.__class__"))) (kj_NoSaying : PySem.W.specialIn K (.builtin "object.__class__") "__get__" = some (some (.builtin "getset_descriptor.__get__"))) (kl_NoSaying : PySem.W.takesIn K (.builtin "object.__class__") = some true) (km_NoSaying : PySem.W.mroIn K C_NoSaying (.type "object") = some true) (kn_NoSaying : PySem.W.kitOne K (.ref C_NoSaying) (.ref C_SayError) = some true) (ko_NoSaying : PySem.W.kitOne K (.ref C_NoSaying) (.type "ValueError") = some true)
    (kg_NoThing : PySem.W.findIn K (.ref C_NoThing) "__getattribute__" = some (some (.builtin "BaseException.__getattribute__"))) (kh_NoThing : PySem.W.findIn K (.ref C_NoThing) "__getattr__" = some none) (ki_NoThing : PySem.W.findIn K (.ref C_NoThing) "__class__" = some (some (.builtin "object.__class__"))) (kj_NoThing : PySem.W.specialIn K (.builtin "object.__class__") "__get__" = some (some (.builtin "getset_descriptor.__get__"))) (kl_NoThing : PySem.W.takesIn K (.builtin "object.__class__") = some true) (km_NoThing : PySem.W.mroIn K C_NoThing (.type "object") = some true) (kn_NoThing : PySem.W.kitOne K (.ref C_NoThing) (.ref C_SayError) = some true) (ko_NoThing : PySem.W.kitOne K (.ref C_NoThing) (.type "ValueError") = some true)
    (kg_NoKinds : PySem.W.findIn K (.ref C_NoKinds) "__getattribute__" = some (some (.builtin "BaseException.__getattribute__"))) (kh_NoKinds : PySem.W.findIn K (.ref C_NoKinds) "__getattr__" = some none) (ki_NoKinds : PySem.W.findIn K (.ref C_NoKinds) "__class__" = some (some (.builtin "object.__class__"))) (kj_NoKinds : PySem.W.specialIn K (.builtin "object.__class__") "__get__" = some (some (.builtin "getset_descriptor.__get__"))) (kl_NoKinds : PySem.W.takesIn K (.builtin "object.__class__") = some true) (km_NoKinds : PySem.W.mroIn K C_NoKinds (.type "object") = some true) (kn_NoKinds : PySem.W.kitOne K (.ref C_NoKinds) (.ref C_SayError) = some true) (ko_NoKinds : PySem.W.kitOne K (.ref C_NoKinds) (.type "ValueError") = some true)
    (kg_NoSentence : PySem.W.findIn K (.ref C_NoSentence) "__getattribute__" = some (some (.builtin "BaseException.__getattribute__"))) (kh_NoSentence : PySem.W.findIn K (.ref C_NoSentence) "__getattr__" = some none) (ki_NoSentence : PySem.W.findIn K (.ref C_NoSentence) "__class__" = some (some (.builtin "object.__class__"))) (kj_NoSentence : PySem.W.specialIn K (.builtin "object.__class__") "__get__" = some (some (.builtin "getset_descriptor.__get__"))) (kl_NoSentence : PySem.W.takesIn K (.builtin "object.__class__") = some true) (km_NoSentence : PySem.W.mroIn K C_NoSentence (.type "object") = some true) (kn_NoSentence : PySem.W.kitOne K (.ref C_NoSentence) (.ref C_SayError) = some true) (ko_NoSentence : PySem.W.kitOne K (.ref C_NoSentence) (.type "ValueError") = some true)
    (ks_x_NoSayings_NoSayings : PySem.W.subIn K (.ref C_NoSayings) (.ref C_NoSayings) = some true)
    (ks_x_NoCase_NoCase : PySem.W.subIn K (.ref C_NoCase) (.ref C_NoCase) = some true)
    (ks_x_NoSaying_NoSaying : PySem.W.subIn K (.ref C_NoSaying) (.ref C_NoSaying) = some true)
    (ks_x_NoThing_NoThing : PySem.W.subIn K (.ref C_NoThing) (.ref C_NoThing) = some true)
    (ks_x_NoKinds_NoKinds : PySem.W.subIn K (.ref C_NoKinds) (.ref C_NoKinds) = some true)
    (ks_x_NoSentence_NoSentence : PySem.W.subIn K (.ref C_NoSentence) (.ref C_NoSentence) = some true)
    (ks_y_NoCase_NoSayings : PySem.W.subIn K (.ref C_NoCase) (.ref C_NoSayings) = some false)
    (ks_y_NoSaying_NoSayings : PySem.W.subIn K (.ref C_NoSaying) (.ref C_NoSayings) = some false)
    (ks_y_NoSaying_NoCase : PySem.W.subIn K (.ref C_NoSaying) (.ref C_NoCase) = some false)
    (ks_y_NoThing_NoSayings : PySem.W.subIn K (.ref C_NoThing) (.ref C_NoSayings) = some false)
    (ks_y_NoThing_NoCase : PySem.W.subIn K (.ref C_NoThing) (.ref C_NoCase) = some false)
    (ks_y_NoThing_NoSaying : PySem.W.subIn K (.ref C_NoThing) (.ref C_NoSaying) = some false)
    (ks_y_NoKinds_NoSayings : PySem.W.subIn K (.ref C_NoKinds) (.ref C_NoSayings) = some false)
    (ks_y_NoKinds_NoCase : PySem.W.subIn K (.ref C_NoKinds) (.ref C_NoCase) = some false)
    (ks_y_NoKinds_NoSaying : PySem.W.subIn K (.ref C_NoKinds) (.ref C_NoSaying) = some false)
    (ks_y_NoKinds_NoThing : PySem.W.subIn K (.ref C_NoKinds) (.ref C_NoThing) = some false)
    (ks_y_NoSentence_NoSayings : PySem.W.subIn K (.ref C_NoSentence) (.ref C_NoSayings) = some false)
    (ks_y_NoSentence_NoCase : PySem.W.subIn K (.ref C_NoSentence) (.ref C_NoCase) = some false)
    (ks_y_NoSentence_NoSaying : PySem.W.subIn K (.ref C_NoSentence) (.ref C_NoSaying) = some false)
    (ks_y_NoSentence_NoThing : PySem.W.subIn K (.ref C_NoSentence) (.ref C_NoThing) = some false)
    (ks_y_NoSentence_NoKinds : PySem.W.subIn K (.ref C_NoSentence) (.ref C_NoKinds) = some false)
    : ∃ fd : FuncData, (∀ (s : Shared) (v : Value), BindsTo s fd ⟨[v], []⟩ [((Str.ofString "_law_script"), v)]) ∧ ∀ base : Heap, K.In base → base.Ns mainGlobals mg → FnOk l.prog w K mg base CX0 21 fa fd [(Str.ofString "_law_script")] (spF K G_law) := by
  have e := hfa.symm.trans (PySem.W.mg_of X G a33)
  cases e
  have F0 := fun_mk (st := s_L_cell_at) l0 d0 e0
  have B0 := F0.binds (ps := [(Str.ofString "_law_script"), (Str.ofString "_law_k")]) fun _ _ _ _ _ _ us hl => match us, hl with | [_, _], _ => rfl
  have F1 := fun_mk (st := s_L_mixed) l1 d1 e1
  have B1 := F1.binds (ps := [(Str.ofString "_law_script"), (Str.ofString "_law_k"), (Str.ofString "_law_many")]) fun _ _ _ _ _ _ us hl => match us, hl with | [_, _, _], _ => rfl
  have F2 := fun_mk (st := s_L_saying) l2 d2 e2
  have B2 := F2.binds (ps := [(Str.ofString "_law_script"), (Str.ofString "_law_at"), (Str.ofString "_law_many")]) fun _ _ _ _ _ _ us hl => match us, hl with | [_, _, _], _ => rfl
  have F3 := fun_mk (st := s_L_sayings) l3 d3 e3
  have B3 := F3.binds (ps := [(Str.ofString "_law_script"), (Str.ofString "_law_at"), (Str.ofString "_law_many"), (Str.ofString "_law_most")]) fun _ _ _ _ _ _ us hl => match us, hl with | [_, _, _, _], _ => rfl
  have F4 := fun_mk (st := s_L_bad_sentence) l4 d4 e4
  have B4 := F4.binds (ps := [(Str.ofString "_law_many"), (Str.ofString "_law_cell")]) fun _ _ _ _ _ _ us hl => match us, hl with | [_, _], _ => rfl
  have F5 := fun_mk (st := s_L_bad) l5 d5 e5
  have B5 := F5.binds (ps := [(Str.ofString "_law_way"), (Str.ofString "_law_many"), (Str.ofString "_law_case"), (Str.ofString "_law_cell")]) fun _ _ _ _ _ _ us hl => match us, hl with | [_, _, _, _], _ => rfl
  have F6 := fun_mk (st := s_is_whole) l6 d6 e6
  have B6 := F6.binds (ps := [(Str.ofString "thing")]) fun _ _ _ _ _ _ us hl => match us, hl with | [_], _ => rfl
  have F7 := fun_mk (st := s_is_saying) l7 d7 e7
  have B7 := F7.binds (ps := [(Str.ofString "thing"), (Str.ofString "many")]) fun _ _ _ _ _ _ us hl => match us, hl with | [_, _], _ => rfl
  have F8 := fun_mk (st := s_checked) l8 d8 e8
  have B8 := F8.binds (ps := [(Str.ofString "sayings"), (Str.ofString "many")]) fun _ _ _ _ _ _ us hl => match us, hl with | [_, _], _ => rfl
  have F9 := fun_mk (st := s_cases) l9 d9 e9
  have B9 := F9.binds (ps := [(Str.ofString "sayings"), (Str.ofString "many")]) fun _ _ _ _ _ _ us hl => match us, hl with | [_, _], _ => rfl
  have F10 := fun_mk (st := s_settled) l10 d10 e10
  have B10 := F10.binds (ps := [(Str.ofString "sayings"), (Str.ofString "many")]) fun _ _ _ _ _ _ us hl => match us, hl with | [_, _], _ => rfl
  have F11 := fun_mk (st := s_case_or_clash) l11 d11 e11
  have B11 := F11.binds (ps := [(Str.ofString "sayings"), (Str.ofString "many")]) fun _ _ _ _ _ _ us hl => match us, hl with | [_, _], _ => rfl
  have F12 := fun_mk (st := s_follows) l12 d12 e12
  have B12 := F12.binds (ps := [(Str.ofString "sayings"), (Str.ofString "many"), (Str.ofString "saying")]) fun _ _ _ _ _ _ us hl => match us, hl with | [_, _, _], _ => rfl
  have F13 := fun_mk (st := s_sharpest) l13 d13 e13
  have B13 := F13.binds (ps := [(Str.ofString "sayings"), (Str.ofString "many")]) fun _ _ _ _ _ _ us hl => match us, hl with | [_, _], _ => rfl
  have F14 := fun_mk (st := s_alike) l14 d14 e14
  have B14 := F14.binds (ps := [(Str.ofString "one"), (Str.ofString "other"), (Str.ofString "many")]) fun _ _ _ _ _ _ us hl => match us, hl with | [_, _, _], _ => rfl
  have F15 := fun_mk (st := s_least_clash) l15 d15 e15
  have B15 := F15.binds (ps := [(Str.ofString "sayings"), (Str.ofString "many")]) fun _ _ _ _ _ _ us hl => match us, hl with | [_, _], _ => rfl
  have F16 := fun_mk (st := s_between) l16 d16 e16
  have B16 := F16.binds (ps := [(Str.ofString "one"), (Str.ofString "other"), (Str.ofString "many")]) fun _ _ _ _ _ _ us hl => match us, hl with | [_, _, _], _ => rfl
  have F17 := fun_mk (st := s_forgotten) l17 d17 e17
  have B17 := F17.binds (ps := [(Str.ofString "sayings"), (Str.ofString "many"), (Str.ofString "thing")]) fun _ _ _ _ _ _ us hl => match us, hl with | [_, _, _], _ => rfl
  have F18 := fun_mk (st := s_least_case) l18 d18 e18
  have B18 := F18.binds (ps := [(Str.ofString "sayings"), (Str.ofString "many")]) fun _ _ _ _ _ _ us hl => match us, hl with | [_, _], _ => rfl
  have F19 := fun_mk (st := s_need_kinds) l19 d19 e19
  have B19 := F19.binds (ps := [(Str.ofString "kinds"), (Str.ofString "many")]) fun _ _ _ _ _ _ us hl => match us, hl with | [_, _], _ => rfl
  have F20 := fun_mk (st := s_played) l20 d20 e20
  have B20 := F20.binds (ps := [(Str.ofString "sayings"), (Str.ofString "many"), (Str.ofString "kinds")]) fun _ _ _ _ _ _ us hl => match us, hl with | [_, _, _], _ => rfl
  have F21 := fun_mk (st := s_is_case) l21 d21 e21
  have B21 := F21.binds (ps := [(Str.ofString "thing"), (Str.ofString "many")]) fun _ _ _ _ _ _ us hl => match us, hl with | [_, _], _ => rfl
  have F22 := fun_mk (st := s_need_case) l22 d22 e22
  have B22 := F22.binds (ps := [(Str.ofString "case"), (Str.ofString "many")]) fun _ _ _ _ _ _ us hl => match us, hl with | [_, _], _ => rfl
  have F23 := fun_mk (st := s_fits) l23 d23 e23
  have B23 := F23.binds (ps := [(Str.ofString "sayings"), (Str.ofString "many"), (Str.ofString "case")]) fun _ _ _ _ _ _ us hl => match us, hl with | [_, _, _], _ => rfl
  have F24 := fun_mk (st := s_L_with_sayings) l24 d24 e24
  have B24 := F24.binds (ps := [(Str.ofString "_law_what"), (Str.ofString "_law_bad_here"), (Str.ofString "_law_many")]) fun _ _ _ _ _ _ us hl => match us, hl with | [_, _, _], _ => rfl
  have F25 := fun_mk (st := s_size_of) l25 d25 e25
  have B25 := F25.binds (ps := [(Str.ofString "thing"), (Str.ofString "many"), (Str.ofString "room")]) fun _ _ _ _ _ _ us hl => match us, hl with | [_, _, _], _ => rfl
  have F26 := fun_mk (st := s_need_sentence) l26 d26 e26
  have B26 := F26.binds (ps := [(Str.ofString "thing"), (Str.ofString "many")]) fun _ _ _ _ _ _ us hl => match us, hl with | [_, _], _ => rfl
  have F27 := fun_mk (st := s_is_true) l27 d27 e27
  have B27 := F27.binds (ps := [(Str.ofString "sentence"), (Str.ofString "many"), (Str.ofString "case")]) fun _ _ _ _ _ _ us hl => match us, hl with | [_, _, _], _ => rfl
  have F28 := fun_mk (st := s_sayings_of) l28 d28 e28
  have B28 := F28.binds (ps := [(Str.ofString "sentence"), (Str.ofString "many")]) fun _ _ _ _ _ _ us hl => match us, hl with | [_, _], _ => rfl
  have F29 := fun_mk (st := s_L_with_other) l29 d29 e29
  have B29 := F29.binds (ps := [(Str.ofString "_law_way"), (Str.ofString "_law_bad_here"), (Str.ofString "_law_many"), (Str.ofString "_law_case")]) fun _ _ _ _ _ _ us hl => match us, hl with | [_, _, _, _], _ => rfl
  have F30 := fun_mk (st := s_L_asked) l30 d30 e30
  have B30 := F30.binds (ps := [(Str.ofString "_law_way"), (Str.ofString "_law_what"), (Str.ofString "_law_bad_here"), (Str.ofString "_law_many"), (Str.ofString "_law_case")]) fun _ _ _ _ _ _ us hl => match us, hl with | [_, _, _, _, _], _ => rfl
  have F31 := fun_mk (st := s_L_by_base) l31 d31 e31
  have B31 := F31.binds (ps := [(Str.ofString "_law_way"), (Str.ofString "_law_what"), (Str.ofString "_law_bad_here"), (Str.ofString "_law_many"), (Str.ofString "_law_case")]) fun _ _ _ _ _ _ us hl => match us, hl with | [_, _, _, _, _], _ => rfl
  have F32 := fun_mk (st := s_L_kind) l32 d32 e32
  have B32 := F32.binds (ps := [(Str.ofString "_law_way"), (Str.ofString "_law_what"), (Str.ofString "_law_bad_here"), (Str.ofString "_law_many"), (Str.ofString "_law_case")]) fun _ _ _ _ _ _ us hl => match us, hl with | [_, _, _, _, _], _ => rfl
  have F33 := fun_mk (st := s_law) l33 d33 e33
  refine ⟨PySem.W.fnOf (Str.ofString "law") (Str.ofString "law") (defArgs s_law) (defBody s_law) (defScope s_law) .none kV33 dc33 pm33 an33 cd33 ct33, fun s v => .of_eq rfl, fun base _ _ => ?_⟩
  have m_len : mg (Str.ofString "len") = none := PySem.W.mg_none_of X G z_len
  have m_range : mg (Str.ofString "range") = none := PySem.W.mg_none_of X G z_range
  have m_tuple : mg (Str.ofString "tuple") = none := PySem.W.mg_none_of X G z_tuple
  have m_sorted : mg (Str.ofString "sorted") = none := PySem.W.mg_none_of X G z_sorted
  have m_list : mg (Str.ofString "list") = none := PySem.W.mg_none_of X G z_list
  have m_isinstance : mg (Str.ofString "isinstance") = none := PySem.W.mg_none_of X G z_isinstance
  have m_int : mg (Str.ofString "int") = none := PySem.W.mg_none_of X G z_int
  have m_bool : mg (Str.ofString "bool") = none := PySem.W.mg_none_of X G z_bool
  have m_abs : mg (Str.ofString "abs") = none := PySem.W.mg_none_of X G z_abs
  have m_min : mg (Str.ofString "min") = none := PySem.W.mg_none_of X G z_min
  have m_max : mg (Str.ofString "max") = none := PySem.W.mg_none_of X G z_max
  have m_all : mg (Str.ofString "all") = none := PySem.W.mg_none_of X G z_all
  have m_str : mg (Str.ofString "str") = none := PySem.W.mg_none_of X G z_str
  have m_ValueError : mg (Str.ofString "ValueError") = none := PySem.W.mg_none_of X G z_ValueError
  have g_THINGS_sayings : Gcon K mg (Str.ofString "THINGS_sayings") 16 := ⟨_, PySem.W.mg_of X G y_THINGS_sayings⟩
  have g_SAYINGS : Gcon K mg (Str.ofString "SAYINGS") 24 := ⟨_, PySem.W.mg_of X G y_SAYINGS⟩
  have g_THINGS_sentences : Gcon K mg (Str.ofString "THINGS_sentences") 5 := ⟨_, PySem.W.mg_of X G y_THINGS_sentences⟩
  have g_TUPLES : Gcon K mg (Str.ofString "TUPLES") 12 := ⟨_, PySem.W.mg_of X G y_TUPLES⟩
  have e_NoSayings : ExK K mg (Str.ofString "NoSayings") C_NoSayings := ⟨PySem.W.mg_of X G ka_NoSayings, kx_NoSayings, kk_NoSayings, kb_NoSayings, kt_NoSayings, kd_NoSayings⟩
  have e_NoSaying : ExK K mg (Str.ofString "NoSaying") C_NoSaying := ⟨PySem.W.mg_of X G ka_NoSaying, kx_NoSaying, kk_NoSaying, kb_NoSaying, kt_NoSaying, kd_NoSaying⟩
  have e_NoThing : ExK K mg (Str.ofString "NoThing") C_NoThing := ⟨PySem.W.mg_of X G ka_NoThing, kx_NoThing, kk_NoThing, kb_NoThing, kt_NoThing, kd_NoThing⟩
  have e_NoKinds : ExK K mg (Str.ofString "NoKinds") C_NoKinds := ⟨PySem.W.mg_of X G ka_NoKinds, kx_NoKinds, kk_NoKinds, kb_NoKinds, kt_NoKinds, kd_NoKinds⟩
  have e_NoCase : ExK K mg (Str.ofString "NoCase") C_NoCase := ⟨PySem.W.mg_of X G ka_NoCase, kx_NoCase, kk_NoCase, kb_NoCase, kt_NoCase, kd_NoCase⟩
  have e_NoSentence : ExK K mg (Str.ofString "NoSentence") C_NoSentence := ⟨PySem.W.mg_of X G ka_NoSentence, kx_NoSentence, kk_NoSentence, kb_NoSentence, kt_NoSentence, kd_NoSentence⟩
  have e_SayError : ExK K mg (Str.ofString "SayError") C_SayError := ⟨PySem.W.mg_of X G ka_SayError, kx_SayError, kk_SayError, kb_SayError, kt_SayError, kd_SayError⟩
  have x_NoSayings_SayError : Exm K mg (Str.ofString "NoSayings") (Str.ofString "SayError") true := exm_mk e_NoSayings e_SayError ks_x_NoSayings_SayError
  have x_NoCase_SayError : Exm K mg (Str.ofString "NoCase") (Str.ofString "SayError") true := exm_mk e_NoCase e_SayError ks_x_NoCase_SayError
  have x_NoSaying_SayError : Exm K mg (Str.ofString "NoSaying") (Str.ofString "SayError") true := exm_mk e_NoSaying e_SayError ks_x_NoSaying_SayError
  have x_NoThing_SayError : Exm K mg (Str.ofString "NoThing") (Str.ofString "SayError") true := exm_mk e_NoThing e_SayError ks_x_NoThing_SayError
  have x_NoKinds_SayError : Exm K mg (Str.ofString "NoKinds") (Str.ofString "SayError") true := exm_mk e_NoKinds e_SayError ks_x_NoKinds_SayError
  have x_NoSentence_SayError : Exm K mg (Str.ofString "NoSentence") (Str.ofString "SayError") true := exm_mk e_NoSentence e_SayError ks_x_NoSentence_SayError
  have i_NoSayings : ExI K mg (Str.ofString "NoSayings") (Str.ofString "SayError") := ⟨C_NoSayings, C_SayError, e_NoSayings.gC, e_SayError.gC, ⟨kg_NoSayings, kh_NoSayings, kb_NoSayings, kd_NoSayings, ki_NoSayings, kj_NoSayings, kl_NoSayings, km_NoSayings⟩, kn_NoSayings, ko_NoSayings⟩
  have i_NoCase : ExI K mg (Str.ofString "NoCase") (Str.ofString "SayError") := ⟨C_NoCase, C_SayError, e_NoCase.gC, e_SayError.gC, ⟨kg_NoCase, kh_NoCase, kb_NoCase, kd_NoCase, ki_NoCase, kj_NoCase, kl_NoCase, km_NoCase⟩, kn_NoCase, ko_NoCase⟩
  have i_NoSaying : ExI K mg (Str.ofString "NoSaying") (Str.ofString "SayError") := ⟨C_NoSaying, C_SayError, e_NoSaying.gC, e_SayError.gC, ⟨kg_NoSaying, kh_NoSaying, kb_NoSaying, kd_NoSaying, ki_NoSaying, kj_NoSaying, kl_NoSaying, km_NoSaying⟩, kn_NoSaying, ko_NoSaying⟩
  have i_NoThing : ExI K mg (Str.ofString "NoThing") (Str.ofString "SayError") := ⟨C_NoThing, C_SayError, e_NoThing.gC, e_SayError.gC, ⟨kg_NoThing, kh_NoThing, kb_NoThing, kd_NoThing, ki_NoThing, kj_NoThing, kl_NoThing, km_NoThing⟩, kn_NoThing, ko_NoThing⟩
  have i_NoKinds : ExI K mg (Str.ofString "NoKinds") (Str.ofString "SayError") := ⟨C_NoKinds, C_SayError, e_NoKinds.gC, e_SayError.gC, ⟨kg_NoKinds, kh_NoKinds, kb_NoKinds, kd_NoKinds, ki_NoKinds, kj_NoKinds, kl_NoKinds, km_NoKinds⟩, kn_NoKinds, ko_NoKinds⟩
  have i_NoSentence : ExI K mg (Str.ofString "NoSentence") (Str.ofString "SayError") := ⟨C_NoSentence, C_SayError, e_NoSentence.gC, e_SayError.gC, ⟨kg_NoSentence, kh_NoSentence, kb_NoSentence, kd_NoSentence, ki_NoSentence, kj_NoSentence, kl_NoSentence, km_NoSentence⟩, kn_NoSentence, ko_NoSentence⟩
  have x_NoSayings_NoSayings : Exm K mg (Str.ofString "NoSayings") (Str.ofString "NoSayings") true := exm_mk e_NoSayings e_NoSayings ks_x_NoSayings_NoSayings
  have x_NoCase_NoCase : Exm K mg (Str.ofString "NoCase") (Str.ofString "NoCase") true := exm_mk e_NoCase e_NoCase ks_x_NoCase_NoCase
  have x_NoSaying_NoSaying : Exm K mg (Str.ofString "NoSaying") (Str.ofString "NoSaying") true := exm_mk e_NoSaying e_NoSaying ks_x_NoSaying_NoSaying
  have x_NoThing_NoThing : Exm K mg (Str.ofString "NoThing") (Str.ofString "NoThing") true := exm_mk e_NoThing e_NoThing ks_x_NoThing_NoThing
  have x_NoKinds_NoKinds : Exm K mg (Str.ofString "NoKinds") (Str.ofString "NoKinds") true := exm_mk e_NoKinds e_NoKinds ks_x_NoKinds_NoKinds
  have x_NoSentence_NoSentence : Exm K mg (Str.ofString "NoSentence") (Str.ofString "NoSentence") true := exm_mk e_NoSentence e_NoSentence ks_x_NoSentence_NoSentence
  have y_NoCase_NoSayings : Exm K mg (Str.ofString "NoCase") (Str.ofString "NoSayings") false := exm_mk e_NoCase e_NoSayings ks_y_NoCase_NoSayings
  have y_NoSaying_NoSayings : Exm K mg (Str.ofString "NoSaying") (Str.ofString "NoSayings") false := exm_mk e_NoSaying e_NoSayings ks_y_NoSaying_NoSayings
  have y_NoSaying_NoCase : Exm K mg (Str.ofString "NoSaying") (Str.ofString "NoCase") false := exm_mk e_NoSaying e_NoCase ks_y_NoSaying_NoCase
  have y_NoThing_NoSayings : Exm K mg (Str.ofString "NoThing") (Str.ofString "NoSayings") false := exm_mk e_NoThing e_NoSayings ks_y_NoThing_NoSayings
  have y_NoThing_NoCase : Exm K mg (Str.ofString "NoThing") (Str.ofString "NoCase") false := exm_mk e_NoThing e_NoCase ks_y_NoThing_NoCase
  have y_NoThing_NoSaying : Exm K mg (Str.ofString "NoThing") (Str.ofString "NoSaying") false := exm_mk e_NoThing e_NoSaying ks_y_NoThing_NoSaying
  have y_NoKinds_NoSayings : Exm K mg (Str.ofString "NoKinds") (Str.ofString "NoSayings") false := exm_mk e_NoKinds e_NoSayings ks_y_NoKinds_NoSayings
  have y_NoKinds_NoCase : Exm K mg (Str.ofString "NoKinds") (Str.ofString "NoCase") false := exm_mk e_NoKinds e_NoCase ks_y_NoKinds_NoCase
  have y_NoKinds_NoSaying : Exm K mg (Str.ofString "NoKinds") (Str.ofString "NoSaying") false := exm_mk e_NoKinds e_NoSaying ks_y_NoKinds_NoSaying
  have y_NoKinds_NoThing : Exm K mg (Str.ofString "NoKinds") (Str.ofString "NoThing") false := exm_mk e_NoKinds e_NoThing ks_y_NoKinds_NoThing
  have y_NoSentence_NoSayings : Exm K mg (Str.ofString "NoSentence") (Str.ofString "NoSayings") false := exm_mk e_NoSentence e_NoSayings ks_y_NoSentence_NoSayings
  have y_NoSentence_NoCase : Exm K mg (Str.ofString "NoSentence") (Str.ofString "NoCase") false := exm_mk e_NoSentence e_NoCase ks_y_NoSentence_NoCase
  have y_NoSentence_NoSaying : Exm K mg (Str.ofString "NoSentence") (Str.ofString "NoSaying") false := exm_mk e_NoSentence e_NoSaying ks_y_NoSentence_NoSaying
  have y_NoSentence_NoThing : Exm K mg (Str.ofString "NoSentence") (Str.ofString "NoThing") false := exm_mk e_NoSentence e_NoThing ks_y_NoSentence_NoThing
  have y_NoSentence_NoKinds : Exm K mg (Str.ofString "NoSentence") (Str.ofString "NoKinds") false := exm_mk e_NoSentence e_NoKinds ks_y_NoSentence_NoKinds
  have c_L_cell_at : Cee l.prog w K mg base 1 (Str.ofString "_law_cell_at") G_L_cell_at := cee_of F0 B0 (PySem.W.mg_of X G a0) (ok_L_cell_at (P := l.prog) (w := w) (mg := mg) (base := base) F0 m_len)
  have c_L_mixed : Cee l.prog w K mg base 2 (Str.ofString "_law_mixed") G_L_mixed := cee_of F1 B1 (PySem.W.mg_of X G a1) (ok_L_mixed (P := l.prog) (w := w) (mg := mg) (base := base) F1 c_L_cell_at)
  have c_L_saying : Cee l.prog w K mg base 3 (Str.ofString "_law_saying") G_L_saying := cee_of F2 B2 (PySem.W.mg_of X G a2) (ok_L_saying (P := l.prog) (w := w) (mg := mg) (base := base) F2 c_L_mixed m_range m_tuple m_sorted m_list)
  have c_L_sayings : Cee l.prog w K mg base 4 (Str.ofString "_law_sayings") G_L_sayings := cee_of F3 B3 (PySem.W.mg_of X G a3) (ok_L_sayings (P := l.prog) (w := w) (mg := mg) (base := base) F3 c_L_saying c_L_mixed m_range)
  have c_L_bad_sentence : Cee l.prog w K mg base 1 (Str.ofString "_law_bad_sentence") G_bad_sentence := cee_of F4 B4 (PySem.W.mg_of X G a4) (ok_L_bad_sentence (P := l.prog) (w := w) (mg := mg) (base := base) F4 m_range)
  have c_L_bad : Cee l.prog w K mg base 2 (Str.ofString "_law_bad") G_bad := cee_of F5 B5 (PySem.W.mg_of X G a5) (ok_L_bad (P := l.prog) (w := w) (mg := mg) (base := base) F5 c_L_bad_sentence m_tuple)
  have c_is_whole : Cee l.prog w K mg base 1 (Str.ofString "is_whole") G_whole := cee_of F6 B6 (PySem.W.mg_of X G a6) (ok_is_whole (P := l.prog) (w := w) (mg := mg) (base := base) F6 m_isinstance m_int m_bool)
  have c_is_saying : Cee l.prog w K mg base 2 (Str.ofString "is_saying") G_say := cee_of F7 B7 (PySem.W.mg_of X G a7) (ok_is_saying (P := l.prog) (w := w) (mg := mg) (base := base) F7 c_is_whole m_isinstance m_tuple m_abs)
  have r_checked : CeeX l.prog w K mg base 3 (Str.ofString "checked") GX_checked := ceeX_of F8 B8 (PySem.W.mg_of X G a8) (fun ds n g => by cases g <;> first | exact ⟨_, e_NoSayings.gC⟩ | exact ⟨_, e_NoSaying.gC⟩ | exact ⟨_, e_NoThing.gC⟩ | exact ⟨_, e_NoKinds.gC⟩ | exact ⟨_, e_NoCase.gC⟩ | exact ⟨_, e_NoSentence.gC⟩ | exact ⟨_, e_SayError.gC⟩ | (rename_i h; cases h <;> first | exact ⟨_, e_NoSayings.gC⟩ | exact ⟨_, e_NoSaying.gC⟩ | exact ⟨_, e_NoThing.gC⟩ | exact ⟨_, e_NoKinds.gC⟩ | exact ⟨_, e_NoCase.gC⟩ | exact ⟨_, e_NoSentence.gC⟩ | exact ⟨_, e_SayError.gC⟩)) (okX_checked (P := l.prog) (w := w) (mg := mg) (base := base) F8 c_is_whole c_is_saying m_list m_isinstance m_len g_THINGS_sayings g_SAYINGS e_NoSayings)
  have r_cases : CeeX l.prog w K mg base 5 (Str.ofString "cases") GX_checked := ceeX_of F9 B9 (PySem.W.mg_of X G a9) (fun ds n g => by cases g <;> first | exact ⟨_, e_NoSayings.gC⟩ | exact ⟨_, e_NoSaying.gC⟩ | exact ⟨_, e_NoThing.gC⟩ | exact ⟨_, e_NoKinds.gC⟩ | exact ⟨_, e_NoCase.gC⟩ | exact ⟨_, e_NoSentence.gC⟩ | exact ⟨_, e_SayError.gC⟩ | (rename_i h; cases h <;> first | exact ⟨_, e_NoSayings.gC⟩ | exact ⟨_, e_NoSaying.gC⟩ | exact ⟨_, e_NoThing.gC⟩ | exact ⟨_, e_NoKinds.gC⟩ | exact ⟨_, e_NoCase.gC⟩ | exact ⟨_, e_NoSentence.gC⟩ | exact ⟨_, e_SayError.gC⟩)) (okX_cases (P := l.prog) (w := w) (mg := mg) (base := base) F9 r_checked)
  have r_settled : CeeX l.prog w K mg base 5 (Str.ofString "settled") GX_checked := ceeX_of F10 B10 (PySem.W.mg_of X G a10) (fun ds n g => by cases g <;> first | exact ⟨_, e_NoSayings.gC⟩ | exact ⟨_, e_NoSaying.gC⟩ | exact ⟨_, e_NoThing.gC⟩ | exact ⟨_, e_NoKinds.gC⟩ | exact ⟨_, e_NoCase.gC⟩ | exact ⟨_, e_NoSentence.gC⟩ | exact ⟨_, e_SayError.gC⟩ | (rename_i h; cases h <;> first | exact ⟨_, e_NoSayings.gC⟩ | exact ⟨_, e_NoSaying.gC⟩ | exact ⟨_, e_NoThing.gC⟩ | exact ⟨_, e_NoKinds.gC⟩ | exact ⟨_, e_NoCase.gC⟩ | exact ⟨_, e_NoSentence.gC⟩ | exact ⟨_, e_SayError.gC⟩)) (okX_settled (P := l.prog) (w := w) (mg := mg) (base := base) F10 r_checked m_range m_min m_max)
  have r_case_or_clash : CeeX l.prog w K mg base 11 (Str.ofString "case_or_clash") GX_checked := ceeX_of F11 B11 (PySem.W.mg_of X G a11) (fun ds n g => by cases g <;> first | exact ⟨_, e_NoSayings.gC⟩ | exact ⟨_, e_NoSaying.gC⟩ | exact ⟨_, e_NoThing.gC⟩ | exact ⟨_, e_NoKinds.gC⟩ | exact ⟨_, e_NoCase.gC⟩ | exact ⟨_, e_NoSentence.gC⟩ | exact ⟨_, e_SayError.gC⟩ | (rename_i h; cases h <;> first | exact ⟨_, e_NoSayings.gC⟩ | exact ⟨_, e_NoSaying.gC⟩ | exact ⟨_, e_NoThing.gC⟩ | exact ⟨_, e_NoKinds.gC⟩ | exact ⟨_, e_NoCase.gC⟩ | exact ⟨_, e_NoSentence.gC⟩ | exact ⟨_, e_SayError.gC⟩)) (okX_case_or_clash (P := l.prog) (w := w) (mg := mg) (base := base) F11 r_checked)
  have c_checked : Cee l.prog w K mg base 3 (Str.ofString "checked") G_checked := cee_of F8 B8 (PySem.W.mg_of X G a8) (ok_checked (P := l.prog) (w := w) (mg := mg) (base := base) F8 c_is_whole c_is_saying m_list m_isinstance m_len g_THINGS_sayings g_SAYINGS)
  have r_follows : CeeX l.prog w K mg base 11 (Str.ofString "follows") GX_follows := ceeX_of F12 B12 (PySem.W.mg_of X G a12) (fun ds n g => by cases g <;> first | exact ⟨_, e_NoSayings.gC⟩ | exact ⟨_, e_NoSaying.gC⟩ | exact ⟨_, e_NoThing.gC⟩ | exact ⟨_, e_NoKinds.gC⟩ | exact ⟨_, e_NoCase.gC⟩ | exact ⟨_, e_NoSentence.gC⟩ | exact ⟨_, e_SayError.gC⟩ | (rename_i h; cases h <;> first | exact ⟨_, e_NoSayings.gC⟩ | exact ⟨_, e_NoSaying.gC⟩ | exact ⟨_, e_NoThing.gC⟩ | exact ⟨_, e_NoKinds.gC⟩ | exact ⟨_, e_NoCase.gC⟩ | exact ⟨_, e_NoSentence.gC⟩ | exact ⟨_, e_SayError.gC⟩)) (okX_follows (P := l.prog) (w := w) (mg := mg) (base := base) F12 c_checked c_is_saying r_checked e_NoSaying)
  have r_sharpest : CeeX l.prog w K mg base 6 (Str.ofString "sharpest") GX_checked := ceeX_of F13 B13 (PySem.W.mg_of X G a13) (fun ds n g => by cases g <;> first | exact ⟨_, e_NoSayings.gC⟩ | exact ⟨_, e_NoSaying.gC⟩ | exact ⟨_, e_NoThing.gC⟩ | exact ⟨_, e_NoKinds.gC⟩ | exact ⟨_, e_NoCase.gC⟩ | exact ⟨_, e_NoSentence.gC⟩ | exact ⟨_, e_SayError.gC⟩ | (rename_i h; cases h <;> first | exact ⟨_, e_NoSayings.gC⟩ | exact ⟨_, e_NoSaying.gC⟩ | exact ⟨_, e_NoThing.gC⟩ | exact ⟨_, e_NoKinds.gC⟩ | exact ⟨_, e_NoCase.gC⟩ | exact ⟨_, e_NoSentence.gC⟩ | exact ⟨_, e_SayError.gC⟩)) (okX_sharpest (P := l.prog) (w := w) (mg := mg) (base := base) F13 r_checked)
  have r_alike : CeeX l.prog w K mg base 4 (Str.ofString "alike") GX_al := ceeX_of F14 B14 (PySem.W.mg_of X G a14) (fun ds n g => by cases g <;> first | exact ⟨_, e_NoSayings.gC⟩ | exact ⟨_, e_NoSaying.gC⟩ | exact ⟨_, e_NoThing.gC⟩ | exact ⟨_, e_NoKinds.gC⟩ | exact ⟨_, e_NoCase.gC⟩ | exact ⟨_, e_NoSentence.gC⟩ | exact ⟨_, e_SayError.gC⟩ | (rename_i h; cases h <;> first | exact ⟨_, e_NoSayings.gC⟩ | exact ⟨_, e_NoSaying.gC⟩ | exact ⟨_, e_NoThing.gC⟩ | exact ⟨_, e_NoKinds.gC⟩ | exact ⟨_, e_NoCase.gC⟩ | exact ⟨_, e_NoSentence.gC⟩ | exact ⟨_, e_SayError.gC⟩)) (okX_alike (P := l.prog) (w := w) (mg := mg) (base := base) F14 c_checked r_checked)
  have r_least_clash : CeeX l.prog w K mg base 12 (Str.ofString "least_clash") GX_checked := ceeX_of F15 B15 (PySem.W.mg_of X G a15) (fun ds n g => by cases g <;> first | exact ⟨_, e_NoSayings.gC⟩ | exact ⟨_, e_NoSaying.gC⟩ | exact ⟨_, e_NoThing.gC⟩ | exact ⟨_, e_NoKinds.gC⟩ | exact ⟨_, e_NoCase.gC⟩ | exact ⟨_, e_NoSentence.gC⟩ | exact ⟨_, e_SayError.gC⟩ | (rename_i h; cases h <;> first | exact ⟨_, e_NoSayings.gC⟩ | exact ⟨_, e_NoSaying.gC⟩ | exact ⟨_, e_NoThing.gC⟩ | exact ⟨_, e_NoKinds.gC⟩ | exact ⟨_, e_NoCase.gC⟩ | exact ⟨_, e_NoSentence.gC⟩ | exact ⟨_, e_SayError.gC⟩)) (okX_least_clash (P := l.prog) (w := w) (mg := mg) (base := base) F15 r_checked m_range m_len)
  have r_between : CeeX l.prog w K mg base 11 (Str.ofString "between") GX_al := ceeX_of F16 B16 (PySem.W.mg_of X G a16) (fun ds n g => by cases g <;> first | exact ⟨_, e_NoSayings.gC⟩ | exact ⟨_, e_NoSaying.gC⟩ | exact ⟨_, e_NoThing.gC⟩ | exact ⟨_, e_NoKinds.gC⟩ | exact ⟨_, e_NoCase.gC⟩ | exact ⟨_, e_NoSentence.gC⟩ | exact ⟨_, e_SayError.gC⟩ | (rename_i h; cases h <;> first | exact ⟨_, e_NoSayings.gC⟩ | exact ⟨_, e_NoSaying.gC⟩ | exact ⟨_, e_NoThing.gC⟩ | exact ⟨_, e_NoKinds.gC⟩ | exact ⟨_, e_NoCase.gC⟩ | exact ⟨_, e_NoSentence.gC⟩ | exact ⟨_, e_SayError.gC⟩)) (okX_between (P := l.prog) (w := w) (mg := mg) (base := base) F16 c_checked r_checked m_all m_abs)
  have r_forgotten : CeeX l.prog w K mg base 4 (Str.ofString "forgotten") GX_forgotten := ceeX_of F17 B17 (PySem.W.mg_of X G a17) (fun ds n g => by cases g <;> first | exact ⟨_, e_NoSayings.gC⟩ | exact ⟨_, e_NoSaying.gC⟩ | exact ⟨_, e_NoThing.gC⟩ | exact ⟨_, e_NoKinds.gC⟩ | exact ⟨_, e_NoCase.gC⟩ | exact ⟨_, e_NoSentence.gC⟩ | exact ⟨_, e_SayError.gC⟩ | (rename_i h; cases h <;> first | exact ⟨_, e_NoSayings.gC⟩ | exact ⟨_, e_NoSaying.gC⟩ | exact ⟨_, e_NoThing.gC⟩ | exact ⟨_, e_NoKinds.gC⟩ | exact ⟨_, e_NoCase.gC⟩ | exact ⟨_, e_NoSentence.gC⟩ | exact ⟨_, e_SayError.gC⟩)) (okX_forgotten (P := l.prog) (w := w) (mg := mg) (base := base) F17 c_checked c_is_whole r_checked m_sorted m_list e_NoThing)
  have r_least_case : CeeX l.prog w K mg base 4 (Str.ofString "least_case") GX_checked := ceeX_of F18 B18 (PySem.W.mg_of X G a18) (fun ds n g => by cases g <;> first | exact ⟨_, e_NoSayings.gC⟩ | exact ⟨_, e_NoSaying.gC⟩ | exact ⟨_, e_NoThing.gC⟩ | exact ⟨_, e_NoKinds.gC⟩ | exact ⟨_, e_NoCase.gC⟩ | exact ⟨_, e_NoSentence.gC⟩ | exact ⟨_, e_SayError.gC⟩ | (rename_i h; cases h <;> first | exact ⟨_, e_NoSayings.gC⟩ | exact ⟨_, e_NoSaying.gC⟩ | exact ⟨_, e_NoThing.gC⟩ | exact ⟨_, e_NoKinds.gC⟩ | exact ⟨_, e_NoCase.gC⟩ | exact ⟨_, e_NoSentence.gC⟩ | exact ⟨_, e_SayError.gC⟩)) (okX_least_case (P := l.prog) (w := w) (mg := mg) (base := base) F18 r_checked m_int m_range)
  have r_need_kinds : CeeX l.prog w K mg base 1 (Str.ofString "need_kinds") GX_need_kinds := ceeX_of F19 B19 (PySem.W.mg_of X G a19) (fun ds n g => by cases g <;> first | exact ⟨_, e_NoSayings.gC⟩ | exact ⟨_, e_NoSaying.gC⟩ | exact ⟨_, e_NoThing.gC⟩ | exact ⟨_, e_NoKinds.gC⟩ | exact ⟨_, e_NoCase.gC⟩ | exact ⟨_, e_NoSentence.gC⟩ | exact ⟨_, e_SayError.gC⟩ | (rename_i h; cases h <;> first | exact ⟨_, e_NoSayings.gC⟩ | exact ⟨_, e_NoSaying.gC⟩ | exact ⟨_, e_NoThing.gC⟩ | exact ⟨_, e_NoKinds.gC⟩ | exact ⟨_, e_NoCase.gC⟩ | exact ⟨_, e_NoSentence.gC⟩ | exact ⟨_, e_SayError.gC⟩)) (okX_need_kinds (P := l.prog) (w := w) (mg := mg) (base := base) F19 m_isinstance m_list m_len m_str e_NoKinds)
  have r_played : CeeX l.prog w K mg base 11 (Str.ofString "played") GX_played := ceeX_of F20 B20 (PySem.W.mg_of X G a20) (fun ds n g => by cases g <;> first | exact ⟨_, e_NoSayings.gC⟩ | exact ⟨_, e_NoSaying.gC⟩ | exact ⟨_, e_NoThing.gC⟩ | exact ⟨_, e_NoKinds.gC⟩ | exact ⟨_, e_NoCase.gC⟩ | exact ⟨_, e_NoSentence.gC⟩ | exact ⟨_, e_SayError.gC⟩ | (rename_i h; cases h <;> first | exact ⟨_, e_NoSayings.gC⟩ | exact ⟨_, e_NoSaying.gC⟩ | exact ⟨_, e_NoThing.gC⟩ | exact ⟨_, e_NoKinds.gC⟩ | exact ⟨_, e_NoCase.gC⟩ | exact ⟨_, e_NoSentence.gC⟩ | exact ⟨_, e_SayError.gC⟩)) (okX_played (P := l.prog) (w := w) (mg := mg) (base := base) F20 c_checked r_checked r_need_kinds)
  have c_is_case : Cee l.prog w K mg base 2 (Str.ofString "is_case") G_is_caseB := cee_of F21 B21 (PySem.W.mg_of X G a21) (ok_is_case (P := l.prog) (w := w) (mg := mg) (base := base) F21 c_is_whole m_all m_isinstance m_list m_len)
  have r_need_case : CeeX l.prog w K mg base 3 (Str.ofString "need_case") GX_need_case := ceeX_of F22 B22 (PySem.W.mg_of X G a22) (fun ds n g => by cases g <;> first | exact ⟨_, e_NoSayings.gC⟩ | exact ⟨_, e_NoSaying.gC⟩ | exact ⟨_, e_NoThing.gC⟩ | exact ⟨_, e_NoKinds.gC⟩ | exact ⟨_, e_NoCase.gC⟩ | exact ⟨_, e_NoSentence.gC⟩ | exact ⟨_, e_SayError.gC⟩ | (rename_i h; cases h <;> first | exact ⟨_, e_NoSayings.gC⟩ | exact ⟨_, e_NoSaying.gC⟩ | exact ⟨_, e_NoThing.gC⟩ | exact ⟨_, e_NoKinds.gC⟩ | exact ⟨_, e_NoCase.gC⟩ | exact ⟨_, e_NoSentence.gC⟩ | exact ⟨_, e_SayError.gC⟩)) (okX_need_case (P := l.prog) (w := w) (mg := mg) (base := base) F22 c_is_case e_NoCase)
  have r_fits : CeeX l.prog w K mg base 4 (Str.ofString "fits") GX_fits := ceeX_of F23 B23 (PySem.W.mg_of X G a23) (fun ds n g => by cases g <;> first | exact ⟨_, e_NoSayings.gC⟩ | exact ⟨_, e_NoSaying.gC⟩ | exact ⟨_, e_NoThing.gC⟩ | exact ⟨_, e_NoKinds.gC⟩ | exact ⟨_, e_NoCase.gC⟩ | exact ⟨_, e_NoSentence.gC⟩ | exact ⟨_, e_SayError.gC⟩ | (rename_i h; cases h <;> first | exact ⟨_, e_NoSayings.gC⟩ | exact ⟨_, e_NoSaying.gC⟩ | exact ⟨_, e_NoThing.gC⟩ | exact ⟨_, e_NoKinds.gC⟩ | exact ⟨_, e_NoCase.gC⟩ | exact ⟨_, e_NoSentence.gC⟩ | exact ⟨_, e_SayError.gC⟩)) (okX_fits (P := l.prog) (w := w) (mg := mg) (base := base) F23 c_checked r_checked r_need_case)
  have r_L_with_sayings : CeeX l.prog w K mg base 13 (Str.ofString "_law_with_sayings") GX_with_sayings := ceeX_of F24 B24 (PySem.W.mg_of X G a24) (fun ds n g => by cases g <;> first | exact ⟨_, e_NoSayings.gC⟩ | exact ⟨_, e_NoSaying.gC⟩ | exact ⟨_, e_NoThing.gC⟩ | exact ⟨_, e_NoKinds.gC⟩ | exact ⟨_, e_NoCase.gC⟩ | exact ⟨_, e_NoSentence.gC⟩ | exact ⟨_, e_SayError.gC⟩ | (rename_i h; cases h <;> first | exact ⟨_, e_NoSayings.gC⟩ | exact ⟨_, e_NoSaying.gC⟩ | exact ⟨_, e_NoThing.gC⟩ | exact ⟨_, e_NoKinds.gC⟩ | exact ⟨_, e_NoCase.gC⟩ | exact ⟨_, e_NoSentence.gC⟩ | exact ⟨_, e_SayError.gC⟩)) (okX_L_with_sayings (P := l.prog) (w := w) (mg := mg) (base := base) F24 r_cases r_settled r_case_or_clash r_follows r_sharpest r_alike r_least_clash r_between r_forgotten r_least_case r_played r_fits)
  have c_size_of : Cee l.prog w K mg base 15 (Str.ofString "size_of") (G_sizeG 13) := cee_of F25 B25 (PySem.W.mg_of X G a25) (ok_size_of (P := l.prog) (w := w) (mg := mg) (base := base) F25 B25 (PySem.W.mg_of X G a25) c_is_whole m_isinstance m_tuple m_len m_str 13)
  have c_need_sentence : Cee l.prog w K mg base 16 (Str.ofString "need_sentence") G_need_th := cee_of F26 B26 (PySem.W.mg_of X G a26) (ok_need_sentence (P := l.prog) (w := w) (mg := mg) (base := base) F26 c_is_whole c_size_of g_THINGS_sentences g_TUPLES)
  have r_need_sentence : CeeX l.prog w K mg base 16 (Str.ofString "need_sentence") GX_need_sen := ceeX_of F26 B26 (PySem.W.mg_of X G a26) (fun ds n g => by cases g <;> first | exact ⟨_, e_NoSayings.gC⟩ | exact ⟨_, e_NoSaying.gC⟩ | exact ⟨_, e_NoThing.gC⟩ | exact ⟨_, e_NoKinds.gC⟩ | exact ⟨_, e_NoCase.gC⟩ | exact ⟨_, e_NoSentence.gC⟩ | exact ⟨_, e_SayError.gC⟩ | (rename_i h; cases h <;> first | exact ⟨_, e_NoSayings.gC⟩ | exact ⟨_, e_NoSaying.gC⟩ | exact ⟨_, e_NoThing.gC⟩ | exact ⟨_, e_NoKinds.gC⟩ | exact ⟨_, e_NoCase.gC⟩ | exact ⟨_, e_NoSentence.gC⟩ | exact ⟨_, e_SayError.gC⟩)) (okX_need_sentence (P := l.prog) (w := w) (mg := mg) (base := base) F26 c_is_whole c_size_of g_THINGS_sentences g_TUPLES e_NoSentence)
  have r_is_true : CeeX l.prog w K mg base 17 (Str.ofString "is_true") GX_is_true := ceeX_of F27 B27 (PySem.W.mg_of X G a27) (fun ds n g => by cases g <;> first | exact ⟨_, e_NoSayings.gC⟩ | exact ⟨_, e_NoSaying.gC⟩ | exact ⟨_, e_NoThing.gC⟩ | exact ⟨_, e_NoKinds.gC⟩ | exact ⟨_, e_NoCase.gC⟩ | exact ⟨_, e_NoSentence.gC⟩ | exact ⟨_, e_SayError.gC⟩ | (rename_i h; cases h <;> first | exact ⟨_, e_NoSayings.gC⟩ | exact ⟨_, e_NoSaying.gC⟩ | exact ⟨_, e_NoThing.gC⟩ | exact ⟨_, e_NoKinds.gC⟩ | exact ⟨_, e_NoCase.gC⟩ | exact ⟨_, e_NoSentence.gC⟩ | exact ⟨_, e_SayError.gC⟩)) (okX_is_true (P := l.prog) (w := w) (mg := mg) (base := base) F27 c_need_sentence r_need_sentence r_need_case)
  have r_sayings_of : CeeX l.prog w K mg base 17 (Str.ofString "sayings_of") GX_need_sen := ceeX_of F28 B28 (PySem.W.mg_of X G a28) (fun ds n g => by cases g <;> first | exact ⟨_, e_NoSayings.gC⟩ | exact ⟨_, e_NoSaying.gC⟩ | exact ⟨_, e_NoThing.gC⟩ | exact ⟨_, e_NoKinds.gC⟩ | exact ⟨_, e_NoCase.gC⟩ | exact ⟨_, e_NoSentence.gC⟩ | exact ⟨_, e_SayError.gC⟩ | (rename_i h; cases h <;> first | exact ⟨_, e_NoSayings.gC⟩ | exact ⟨_, e_NoSaying.gC⟩ | exact ⟨_, e_NoThing.gC⟩ | exact ⟨_, e_NoKinds.gC⟩ | exact ⟨_, e_NoCase.gC⟩ | exact ⟨_, e_NoSentence.gC⟩ | exact ⟨_, e_SayError.gC⟩)) (okX_sayings_of (P := l.prog) (w := w) (mg := mg) (base := base) F28 r_need_sentence)
  have r_L_with_other : CeeX l.prog w K mg base 18 (Str.ofString "_law_with_other") GX_with_other := ceeX_of F29 B29 (PySem.W.mg_of X G a29) (fun ds n g => by cases g <;> first | exact ⟨_, e_NoSayings.gC⟩ | exact ⟨_, e_NoSaying.gC⟩ | exact ⟨_, e_NoThing.gC⟩ | exact ⟨_, e_NoKinds.gC⟩ | exact ⟨_, e_NoCase.gC⟩ | exact ⟨_, e_NoSentence.gC⟩ | exact ⟨_, e_SayError.gC⟩ | (rename_i h; cases h <;> first | exact ⟨_, e_NoSayings.gC⟩ | exact ⟨_, e_NoSaying.gC⟩ | exact ⟨_, e_NoThing.gC⟩ | exact ⟨_, e_NoKinds.gC⟩ | exact ⟨_, e_NoCase.gC⟩ | exact ⟨_, e_NoSentence.gC⟩ | exact ⟨_, e_SayError.gC⟩)) (okX_L_with_other (P := l.prog) (w := w) (mg := mg) (base := base) F29 r_fits r_is_true r_follows r_forgotten r_played r_sayings_of)
  have r_L_asked : CeeX l.prog w K mg base 19 (Str.ofString "_law_asked") GX_asked := ceeX_of F30 B30 (PySem.W.mg_of X G a30) (fun ds n g => by cases g <;> first | exact ⟨_, e_NoSayings.gC⟩ | exact ⟨_, e_NoSaying.gC⟩ | exact ⟨_, e_NoThing.gC⟩ | exact ⟨_, e_NoKinds.gC⟩ | exact ⟨_, e_NoCase.gC⟩ | exact ⟨_, e_NoSentence.gC⟩ | exact ⟨_, e_SayError.gC⟩ | (rename_i h; cases h <;> first | exact ⟨_, e_NoSayings.gC⟩ | exact ⟨_, e_NoSaying.gC⟩ | exact ⟨_, e_NoThing.gC⟩ | exact ⟨_, e_NoKinds.gC⟩ | exact ⟨_, e_NoCase.gC⟩ | exact ⟨_, e_NoSentence.gC⟩ | exact ⟨_, e_SayError.gC⟩)) (okX_L_asked (P := l.prog) (w := w) (mg := mg) (base := base) F30 r_L_with_sayings r_L_with_other)
  have c_L_by_base : Cee l.prog w K mg base 20 (Str.ofString "_law_by_base") G_by_base := cee_of F31 B31 (PySem.W.mg_of X G a31) (ok_L_by_base (P := l.prog) (w := w) (mg := mg) (base := base) F31 r_L_asked m_isinstance m_ValueError x_NoSayings_SayError x_NoCase_SayError x_NoSaying_SayError x_NoThing_SayError x_NoKinds_SayError x_NoSentence_SayError i_NoSayings i_NoCase i_NoSaying i_NoThing i_NoKinds i_NoSentence)
  have c_L_kind : Cee l.prog w K mg base 20 (Str.ofString "_law_kind") G_kind := cee_of F32 B32 (PySem.W.mg_of X G a32) (ok_L_kind (P := l.prog) (w := w) (mg := mg) (base := base) F32 r_L_asked e_NoSayings e_NoCase e_NoSaying e_NoThing e_NoKinds e_NoSentence x_NoSayings_NoSayings x_NoCase_NoCase x_NoSaying_NoSaying x_NoThing_NoThing x_NoKinds_NoKinds x_NoSentence_NoSentence y_NoCase_NoSayings y_NoSaying_NoSayings y_NoSaying_NoCase y_NoThing_NoSayings y_NoThing_NoCase y_NoThing_NoSaying y_NoKinds_NoSayings y_NoKinds_NoCase y_NoKinds_NoSaying y_NoKinds_NoThing y_NoSentence_NoSayings y_NoSentence_NoCase y_NoSentence_NoSaying y_NoSentence_NoThing y_NoSentence_NoKinds)
  exact ok_law (P := l.prog) (w := w) (mg := mg) (base := base) F33 c_L_mixed c_L_sayings c_L_bad c_L_by_base c_is_case c_L_kind m_range m_tuple
end
end Sg
open PySem PySem.W PyProof.Rows
set_option maxHeartbeats 0 in
theorem PySem.Challenge.cw_sayhall_k15_refusals_holds : PySem.Challenge.rw_sayhall_k15_refusals.Holds := by
  w_on; refine keyOf_sayhall_k15_refusals fun said => ?_; k_head; (case hw => w_witness2)
  k_fill
  refine L2.walk_of (l := PySem.Challenge.rw_sayhall_k15_refusals) (n := 63) (k := 21) (x := (Str.ofString "_law_script")) (CX := fun _ => L2.CX0) (sp := fun w => Fl.spF _ Sg.G_law) rfl (by decide) rfl ⟨rfl, by decide, by decide⟩ (fun w h Y => PySem.W.kIn_of Y) ?F (fun _ _ a ns hl _ hS => Sg.law_start hl hS) (fun _ _ _ _ _ h => h)
  case F =>
    intro w mg fa h KX G hmg
    refine' Sg.all_mk KX G hmg ?a0 ?l0 ?d0 ?e0 ?a1 ?l1 ?d1 ?e1 ?a2 ?l2 ?d2 ?e2 ?a3 ?l3 ?d3 ?e3 ?a4 ?l4 ?d4 ?e4 ?a5 ?l5 ?d5 ?e5 ?a6 ?l6 ?d6 ?e6 ?a7 ?l7 ?d7 ?e7 ?a8 ?l8 ?d8 ?e8 ?a9 ?l9 ?d9 ?e9 ?a10 ?l10 ?d10 ?e10 ?a11 ?l11 ?d11 ?e11 ?a12 ?l12 ?d12 ?e12 ?a13 ?l13 ?d13 ?e13 ?a14 ?l14 ?d14 ?e14 ?a15 ?l15 ?d15 ?e15 ?a16 ?l16 ?d16 ?e16 ?a17 ?l17 ?d17 ?e17 ?a18 ?l18 ?d18 ?e18 ?a19 ?l19 ?d19 ?e19 ?a20 ?l20 ?d20 ?e20 ?a21 ?l21 ?d21 ?e21 ?a22 ?l22 ?d22 ?e22 ?a23 ?l23 ?d23 ?e23 ?a24 ?l24 ?d24 ?e24 ?a25 ?l25 ?d25 ?e25 ?a26 ?l26 ?d26 ?e26 ?a27 ?l27 ?d27 ?e27 ?a28 ?l28 ?d28 ?e28 ?a29 ?l29 ?d29 ?e29 ?a30 ?l30 ?d30 ?e30 ?a31 ?l31 ?d31 ?e31 ?a32 ?l32 ?d32 ?e32 ?a33 ?l33 ?d33 ?e33 ?z_len ?z_range ?z_tuple ?z_sorted ?z_list ?z_isinstance ?z_int ?z_bool ?z_abs ?z_min ?z_max ?z_all ?z_str ?z_ValueError ?y_THINGS_sayings ?y_SAYINGS ?y_THINGS_sentences ?y_TUPLES ?ka_NoSayings ?kx_NoSayings ?kk_NoSayings ?kb_NoSayings ?kt_NoSayings ?kd_NoSayings ?ka_NoSaying ?kx_NoSaying ?kk_NoSaying ?kb_NoSaying ?kt_NoSaying ?kd_NoSaying ?ka_NoThing ?kx_NoThing ?kk_NoThing ?kb_NoThing ?kt_NoThing ?kd_NoThing ?ka_NoKinds ?kx_NoKinds ?kk_NoKinds ?kb_NoKinds ?kt_NoKinds ?kd_NoKinds ?ka_NoCase ?kx_NoCase ?kk_NoCase ?kb_NoCase ?kt_NoCase ?kd_NoCase ?ka_NoSentence ?kx_NoSentence ?kk_NoSentence ?kb_NoSentence ?kt_NoSentence ?kd_NoSentence ?ka_SayError ?kx_SayError ?kk_SayError ?kb_SayError ?kt_SayError ?kd_SayError ?ks_x_NoSayings_SayError ?ks_x_NoCase_SayError ?ks_x_NoSaying_SayError ?ks_x_NoThing_SayError ?ks_x_NoKinds_SayError ?ks_x_NoSentence_SayError ?kg_NoSayings ?kh_NoSayings ?ki_NoSayings ?kj_NoSayings ?kl_NoSayings ?km_NoSayings ?kn_NoSayings ?ko_NoSayings ?kg_NoCase ?kh_NoCase ?ki_NoCase ?kj_NoCase ?kl_NoCase ?km_NoCase ?kn_NoCase ?ko_NoCase ?kg_NoSaying ?kh_NoSaying ?ki_NoSaying ?kj_NoSaying ?kl_NoSaying ?km_NoSaying ?kn_NoSaying ?ko_NoSaying ?kg_NoThing ?kh_NoThing ?ki_NoThing ?kj_NoThing ?kl_NoThing ?km_NoThing ?kn_NoThing ?ko_NoThing ?kg_NoKinds ?kh_NoKinds ?ki_NoKinds ?kj_NoKinds ?kl_NoKinds ?km_NoKinds ?kn_NoKinds ?ko_NoKinds ?kg_NoSentence ?kh_NoSentence ?ki_NoSentence ?kj_NoSentence ?kl_NoSentence ?km_NoSentence ?kn_NoSentence ?ko_NoSentence ?ks_x_NoSayings_NoSayings ?ks_x_NoCase_NoCase ?ks_x_NoSaying_NoSaying ?ks_x_NoThing_NoThing ?ks_x_NoKinds_NoKinds ?ks_x_NoSentence_NoSentence ?ks_y_NoCase_NoSayings ?ks_y_NoSaying_NoSayings ?ks_y_NoSaying_NoCase ?ks_y_NoThing_NoSayings ?ks_y_NoThing_NoCase ?ks_y_NoThing_NoSaying ?ks_y_NoKinds_NoSayings ?ks_y_NoKinds_NoCase ?ks_y_NoKinds_NoSaying ?ks_y_NoKinds_NoThing ?ks_y_NoSentence_NoSayings ?ks_y_NoSentence_NoCase ?ks_y_NoSentence_NoSaying ?ks_y_NoSentence_NoThing ?ks_y_NoSentence_NoKinds
    (case a0 => k_is); (case l0 => k_is); (case d0 => k_is); (case e0 => k_is); (case a1 => k_is); (case l1 => k_is); (case d1 => k_is); (case e1 => k_is); (case a2 => k_is); (case l2 => k_is); (case d2 => k_is); (case e2 => k_is); (case a3 => k_is); (case l3 => k_is); (case d3 => k_is); (case e3 => k_is); (case a4 => k_is); (case l4 => k_is); (case d4 => k_is); (case e4 => k_is); (case a5 => k_is); (case l5 => k_is); (case d5 => k_is); (case e5 => k_is); (case a6 => k_is); (case l6 => k_is); (case d6 => k_is); (case e6 => k_is); (case a7 => k_is); (case l7 => k_is); (case d7 => k_is); (case e7 => k_is); (case a8 => k_is); (case l8 => k_is); (case d8 => k_is); (case e8 => k_is); (case a9 => k_is); (case l9 => k_is); (case d9 => k_is); (case e9 => k_is); (case a10 => k_is); (case l10 => k_is); (case d10 => k_is); (case e10 => k_is); (case a11 => k_is); (case l11 => k_is); (case d11 => k_is); (case e11 => k_is); (case a12 => k_is); (case l12 => k_is); (case d12 => k_is); (case e12 => k_is); (case a13 => k_is); (case l13 => k_is); (case d13 => k_is); (case e13 => k_is); (case a14 => k_is); (case l14 => k_is); (case d14 => k_is); (case e14 => k_is); (case a15 => k_is); (case l15 => k_is); (case d15 => k_is); (case e15 => k_is); (case a16 => k_is); (case l16 => k_is); (case d16 => k_is); (case e16 => k_is); (case a17 => k_is); (case l17 => k_is); (case d17 => k_is); (case e17 => k_is); (case a18 => k_is); (case l18 => k_is); (case d18 => k_is); (case e18 => k_is); (case a19 => k_is); (case l19 => k_is); (case d19 => k_is); (case e19 => k_is); (case a20 => k_is); (case l20 => k_is); (case d20 => k_is); (case e20 => k_is); (case a21 => k_is); (case l21 => k_is); (case d21 => k_is); (case e21 => k_is); (case a22 => k_is); (case l22 => k_is); (case d22 => k_is); (case e22 => k_is); (case a23 => k_is); (case l23 => k_is); (case d23 => k_is); (case e23 => k_is); (case a24 => k_is); (case l24 => k_is); (case d24 => k_is); (case e24 => k_is); (case a25 => k_is); (case l25 => k_is); (case d25 => k_is); (case e25 => k_is); (case a26 => k_is); (case l26 => k_is); (case d26 => k_is); (case e26 => k_is); (case a27 => k_is); (case l27 => k_is); (case d27 => k_is); (case e27 => k_is); (case a28 => k_is); (case l28 => k_is); (case d28 => k_is); (case e28 => k_is); (case a29 => k_is); (case l29 => k_is); (case d29 => k_is); (case e29 => k_is); (case a30 => k_is); (case l30 => k_is); (case d30 => k_is); (case e30 => k_is); (case a31 => k_is); (case l31 => k_is); (case d31 => k_is); (case e31 => k_is); (case a32 => k_is); (case l32 => k_is); (case d32 => k_is); (case e32 => k_is); (case a33 => k_is); (case l33 => k_is); (case d33 => k_is); (case e33 => k_is); (case z_len => k_is); (case z_range => k_is); (case z_tuple => k_is); (case z_sorted => k_is); (case z_list => k_is); (case z_isinstance => k_is); (case z_int => k_is); (case z_bool => k_is); (case z_abs => k_is); (case z_min => k_is); (case z_max => k_is); (case z_all => k_is); (case z_str => k_is); (case z_ValueError => k_is); (case y_THINGS_sayings => k_is); (case y_SAYINGS => k_is); (case y_THINGS_sentences => k_is); (case y_TUPLES => k_is); (case ka_NoSayings => first | k_is | rfl | decide +kernel); (case kx_NoSayings => first | k_exc | k_is); (case kk_NoSayings => first | k_is | rfl | decide +kernel); (case kb_NoSayings => first | k_is | rfl | decide +kernel); (case kt_NoSayings => first | k_is | rfl | decide +kernel); (case kd_NoSayings => first | k_is | rfl | decide +kernel); (case ka_NoSaying => first | k_is | rfl | decide +kernel); (case kx_NoSaying => first | k_exc | k_is); (case kk_NoSaying => first | k_is | rfl | decide +kernel); (case kb_NoSaying => first | k_is | rfl | decide +kernel); (case kt_NoSaying => first | k_is | rfl | decide +kernel); (case kd_NoSaying => first | k_is | rfl | decide +kernel); (case ka_NoThing => first | k_is | rfl | decide +kernel); (case kx_NoThing => first | k_exc | k_is); (case kk_NoThing => first | k_is | rfl | decide +kernel); (case kb_NoThing => first | k_is | rfl | decide +kernel); (case kt_NoThing => first | k_is | rfl | decide +kernel); (case kd_NoThing => first | k_is | rfl | decide +kernel); (case ka_NoKinds => first | k_is | rfl | decide +kernel); (case kx_NoKinds => first | k_exc | k_is); (case kk_NoKinds => first | k_is | rfl | decide +kernel); (case kb_NoKinds => first | k_is | rfl | decide +kernel); (case kt_NoKinds => first | k_is | rfl | decide +kernel); (case kd_NoKinds => first | k_is | rfl | decide +kernel); (case ka_NoCase => first | k_is | rfl | decide +kernel); (case kx_NoCase => first | k_exc | k_is); (case kk_NoCase => first | k_is | rfl | decide +kernel); (case kb_NoCase => first | k_is | rfl | decide +kernel); (case kt_NoCase => first | k_is | rfl | decide +kernel); (case kd_NoCase => first | k_is | rfl | decide +kernel); (case ka_NoSentence => first | k_is | rfl | decide +kernel); (case kx_NoSentence => first | k_exc | k_is); (case kk_NoSentence => first | k_is | rfl | decide +kernel); (case kb_NoSentence => first | k_is | rfl | decide +kernel); (case kt_NoSentence => first | k_is | rfl | decide +kernel); (case kd_NoSentence => first | k_is | rfl | decide +kernel); (case ka_SayError => first | k_is | rfl | decide +kernel); (case kx_SayError => first | k_exc | k_is); (case kk_SayError => first | k_is | rfl | decide +kernel); (case kb_SayError => first | k_is | rfl | decide +kernel); (case kt_SayError => first | k_is | rfl | decide +kernel); (case kd_SayError => first | k_is | rfl | decide +kernel); (case ks_x_NoSayings_SayError => first | k_is | rfl | decide +kernel); (case ks_x_NoCase_SayError => first | k_is | rfl | decide +kernel); (case ks_x_NoSaying_SayError => first | k_is | rfl | decide +kernel); (case ks_x_NoThing_SayError => first | k_is | rfl | decide +kernel); (case ks_x_NoKinds_SayError => first | k_is | rfl | decide +kernel); (case ks_x_NoSentence_SayError => first | k_is | rfl | decide +kernel); (case kg_NoSayings => first | k_is | rfl | decide +kernel); (case kh_NoSayings => first | k_is | rfl | decide +kernel); (case ki_NoSayings => first | k_is | rfl | decide +kernel); (case kj_NoSayings => first | k_is | rfl | decide +kernel); (case kl_NoSayings => first | k_is | rfl | decide +kernel); (case km_NoSayings => first | k_is | rfl | decide +kernel); (case kn_NoSayings => first | k_is | rfl | decide +kernel); (case ko_NoSayings => first | k_is | rfl | decide +kernel); (case kg_NoCase => first | k_is | rfl | decide +kernel); (case kh_NoCase => first | k_is | rfl | decide +kernel); (case ki_NoCase => first | k_is | rfl | decide +kernel); (case kj_NoCase => first | k_is | rfl | decide +kernel); (case kl_NoCase => first | k_is | rfl | decide +kernel); (case km_NoCase => first | k_is | rfl | decide +kernel); (case kn_NoCase => first | k_is | rfl | decide +kernel); (case ko_NoCase => first | k_is | rfl | decide +kernel); (case kg_NoSaying => first | k_is | rfl | decide +kernel); (case kh_NoSaying => first | k_is | rfl | decide +kernel); (case ki_NoSaying => first | k_is | rfl | decide +kernel); (case kj_NoSaying => first | k_is | rfl | decide +kernel); (case kl_NoSaying => first | k_is | rfl | decide +kernel); (case km_NoSaying => first | k_is | rfl | decide +kernel); (case kn_NoSaying => first | k_is | rfl | decide +kernel); (case ko_NoSaying => first | k_is | rfl | decide +kernel); (case kg_NoThing => first | k_is | rfl | decide +kernel); (case kh_NoThing => first | k_is | rfl | decide +kernel); (case ki_NoThing => first | k_is | rfl | decide +kernel); (case kj_NoThing => first | k_is | rfl | decide +kernel); (case kl_NoThing => first | k_is | rfl | decide +kernel); (case km_NoThing => first | k_is | rfl | decide +kernel); (case kn_NoThing => first | k_is | rfl | decide +kernel); (case ko_NoThing => first | k_is | rfl | decide +kernel); (case kg_NoKinds => first | k_is | rfl | decide +kernel); (case kh_NoKinds => first | k_is | rfl | decide +kernel); (case ki_NoKinds => first | k_is | rfl | decide +kernel); (case kj_NoKinds => first | k_is | rfl | decide +kernel); (case kl_NoKinds => first | k_is | rfl | decide +kernel); (case km_NoKinds => first | k_is | rfl | decide +kernel); (case kn_NoKinds => first | k_is | rfl | decide +kernel); (case ko_NoKinds => first | k_is | rfl | decide +kernel); (case kg_NoSentence => first | k_is | rfl | decide +kernel); (case kh_NoSentence => first | k_is | rfl | decide +kernel); (case ki_NoSentence => first | k_is | rfl | decide +kernel); (case kj_NoSentence => first | k_is | rfl | decide +kernel); (case kl_NoSentence => first | k_is | rfl | decide +kernel); (case km_NoSentence => first | k_is | rfl | decide +kernel); (case kn_NoSentence => first | k_is | rfl | decide +kernel); (case ko_NoSentence => first | k_is | rfl | decide +kernel); (case ks_x_NoSayings_NoSayings => first | k_is | rfl | decide +kernel); (case ks_x_NoCase_NoCase => first | k_is | rfl | decide +kernel); (case ks_x_NoSaying_NoSaying => first | k_is | rfl | decide +kernel); (case ks_x_NoThing_NoThing => first | k_is | rfl | decide +kernel); (case ks_x_NoKinds_NoKinds => first | k_is | rfl | decide +kernel); (case ks_x_NoSentence_NoSentence => first | k_is | rfl | decide +kernel); (case ks_y_NoCase_NoSayings => first | k_is | rfl | decide +kernel); (case ks_y_NoSaying_NoSayings => first | k_is | rfl | decide +kernel); (case ks_y_NoSaying_NoCase => first | k_is | rfl | decide +kernel); (case ks_y_NoThing_NoSayings => first | k_is | rfl | decide +kernel); (case ks_y_NoThing_NoCase => first | k_is | rfl | decide +kernel); (case ks_y_NoThing_NoSaying => first | k_is | rfl | decide +kernel); (case ks_y_NoKinds_NoSayings => first | k_is | rfl | decide +kernel); (case ks_y_NoKinds_NoCase => first | k_is | rfl | decide +kernel); (case ks_y_NoKinds_NoSaying => first | k_is | rfl | decide +kernel); (case ks_y_NoKinds_NoThing => first | k_is | rfl | decide +kernel); (case ks_y_NoSentence_NoSayings => first | k_is | rfl | decide +kernel); (case ks_y_NoSentence_NoCase => first | k_is | rfl | decide +kernel); (case ks_y_NoSentence_NoSaying => first | k_is | rfl | decide +kernel); (case ks_y_NoSentence_NoThing => first | k_is | rfl | decide +kernel); (case ks_y_NoSentence_NoKinds => first | k_is | rfl | decide +kernel)

