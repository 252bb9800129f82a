import PyProof.Rows.All
import Wide.All
import OpenK.AllK
import Wide.FinOn
import HandS.ForMost
import HandS.IsInst
import HandS.Star
import HandS.TupAny
import HandS.Deep
import HandS.TryOnly
import HandS.Iter
import HandS.Steps
import HandS.Style
import HandS.TupMul
import HandS.DictComp
import HandS.Conv
import HandS.Zip
import PyProof.Rows.NestShow
import KE.KRevSl
import PyProof.Rows.StrMeet
import PySem.Challenge.RW_modulesmeet_k02_expressions_their_parts
set_option Elab.async false
set_option linter.all false
set_option autoImplicit false
set_option maxRecDepth 100000
set_option maxHeartbeats 4000000
/-! DL1: plain data and a store over the hand layer: what stands for what, and what is kept. -/
namespace DL
open PySem PySem.Spec PyProof.Rows L2

abbrev D := PyData
/-- a value: plain data that nobody changes, or a place of the store -/
inductive W where
  | d (x : D)
  | r (n : Nat)
  | s (ns : List Int)
/-- what stands at a place of the store: a list, a dict that may change; nothing more -/
inductive Ob where
  | lst (ws : List W)
  | dct (kvs : List (Key × W))
  | dead
def Ob.live : Ob → Bool
  | .dead => false
  | _ => true
/-- an error: its class, its fields -/
structure Ex where
  cls : Str
  fs : List (Str × D)
abbrev Sto := List Ob
inductive Res (α : Type) where
  | ok (a : α) (S : Sto)
  | ex (x : Ex) (S : Sto)
  | no
abbrev M (α : Type) := Sto → Res α
def pr {α : Type} (a : α) : M α := fun S => .ok a S
def bd {α β : Type} (m : M α) (f : α → M β) : M β := fun S => match m S with
  | .ok a S' => f a S'
  | .ex x S' => .ex x S'
  | .no => .no
def no {α : Type} : M α := fun _ => .no
def Gives {α : Type} (x : Res α) (P : α → Sto → Prop) (E : Ex → Sto → Prop) : Prop := match x with
  | .ok a S => P a S
  | .ex x S => E x S
  | .no => False
theorem gives_bd {α β : Type} {m : M α} {f : α → M β} {S : Sto} {P : β → Sto → Prop} {E : Ex → Sto → Prop} (h : Gives (bd m f S) P E) : Gives (m S) (fun a S' => Gives (f a S') P E) E := by
  unfold bd at h
  cases e : m S with
  | ok a S' => rw [e] at h; exact h
  | ex x S' => rw [e] at h; exact h
  | no => rw [e] at h; exact h
theorem gives_imp {α : Type} {x : Res α} {P P' : α → Sto → Prop} {E E' : Ex → Sto → Prop} (h : Gives x P E) (hp : ∀ a S, P a S → P' a S) (he : ∀ a S, E a S → E' a S) : Gives x P' E' := by
  cases x with
  | ok a S => exact hp _ _ h
  | ex x S => exact he _ _ h
  | no => exact h

/-! ### what stands for what -/
def SqLw (K : PySem.W.Frag) (a : Addr) (xs : List V) : Prop :=
  ∃ (o : Obj) (its : Array Value) (n : Nat), K.lookup a = some o ∧ o.cls = .type "list" ∧ o.dict = none ∧ o.data = .seq its n ∧ its.size ≤ sizeLine ∧ Vals xs its.toList
def SqTw (K : PySem.W.Frag) (a : Addr) (xs : List V) : Prop :=
  ∃ (o : Obj) (its : Array Value) (n : Nat), K.lookup a = some o ∧ o.cls = .type "tuple" ∧ o.data = .seq its n ∧ its.size ≤ sizeLine ∧ Vals xs its.toList
def QF (K : PySem.W.Frag) (H : Hp) (L : Addr → Prop) (a : Addr) (xs : List V) : Prop := (Rd H a (.lst xs) ∧ ¬ L a) ∨ SqLw K a xs
def QL (K : PySem.W.Frag) (H : Hp) (L : Addr → Prop) (a : Addr) (xs : List V) : Prop := H a = some (.lst xs) ∧ ¬ L a
def QT (K : PySem.W.Frag) (H : Hp) (L : Addr → Prop) (a : Addr) (xs : List V) : Prop := (Rd H a (.tup xs) ∧ ¬ L a) ∨ SqTw K a xs
theorem QF.sq {K : PySem.W.Frag} {H : Hp} {L : Addr → Prop} {a : Addr} {xs : List V} (h : QF K H L a xs) : SqL K H a xs := h.elim (fun h => .inl h.1) .inr
theorem QL.sq {K : PySem.W.Frag} {H : Hp} {L : Addr → Prop} {a : Addr} {xs : List V} (h : QL K H L a xs) : SqL K H a xs := .inl (.inl h.1)
theorem QT.sq {K : PySem.W.Frag} {H : Hp} {L : Addr → Prop} {a : Addr} {xs : List V} (h : QT K H L a xs) : SqT K H a xs := h.elim (fun h => .inl h.1) .inr
/-- an empty dict that nobody changes -/
def QD0 (H : Hp) (L : Addr → Prop) (a : Addr) : Prop := H a = some (.dK []) ∧ ¬ L a
/-! no dict lies within -/
mutual
def nd : D → Bool
  | .list ds => ndA ds
  | .tuple ds => ndA ds
  | .dict _ => false
  | _ => true
def ndA : List D → Bool
  | [] => true
  | d :: ds => nd d && ndA ds
end
abbrev okS (x : Str) : Bool := PyData.strOk x
mutual
inductive Rp (K : PySem.W.Frag) (H : Hp) (L : Addr → Prop) : V → D → Prop
  | non : Rp K H L .non .none
  | bl (b : Bool) : Rp K H L (.bl b) (.bool b)
  | int (i : Int) : Rp K H L (.int i) (.int i)
  | str (x : Str) (h : okS x = true) : Rp K H L (.str x) (.str x)
  | lst {a : Addr} {xs : List V} {ds : List D} : QL K H L a xs → RpA K H L xs ds → Rp K H L (.ref a) (.list ds)
  | tup {a : Addr} {xs : List V} {ds : List D} : QT K H L a xs → RpA K H L xs ds → Rp K H L (.ref a) (.tuple ds)
  | dct {a : Addr} : QD0 H L a → Rp K H L (.ref a) (.dict [])
inductive RpA (K : PySem.W.Frag) (H : Hp) (L : Addr → Prop) : List V → List D → Prop
  | nil : RpA K H L [] []
  | cons {v : V} {vs : List V} {d : D} {ds : List D} : Rp K H L v d → RpA K H L vs ds → RpA K H L (v :: vs) (d :: ds)
end
section
variable {K : PySem.W.Frag} {H H' : Hp} {L L' : Addr → Prop}
theorem QF.ext {a : Addr} {xs : List V} (h : QF K H L a xs) (hs : ∀ a o, H a = some o → ¬ L a → H' a = some o) (hn : ∀ a, L' a → L a ∨ H a = none) : QF K H' L' a xs := by
  rcases h with ⟨h, l⟩ | h
  · refine .inl ⟨?_, fun q => ?_⟩
    · rcases h with h | ⟨o, h⟩
      · exact .inl (hs _ _ h l)
      · exact .inr ⟨o, hs _ _ h l⟩
    · rcases hn a q with q | q
      · exact l q
      · rcases h with h | ⟨o, h⟩
        · rw [h] at q; cases q
        · rw [h] at q; cases q
  · exact .inr h
theorem QL.ext {a : Addr} {xs : List V} (h : QL K H L a xs) (hs : ∀ a o, H a = some o → ¬ L a → H' a = some o) (hn : ∀ a, L' a → L a ∨ H a = none) : QL K H' L' a xs := by
  obtain ⟨h, l⟩ := h
  refine ⟨hs _ _ h l, fun q => ?_⟩
  rcases hn a q with q | q
  · exact l q
  · rw [h] at q; cases q
theorem QD0.ext {a : Addr} (h : QD0 H L a) (hs : ∀ a o, H a = some o → ¬ L a → H' a = some o) (hn : ∀ a, L' a → L a ∨ H a = none) : QD0 H' L' a := by
  obtain ⟨h, l⟩ := h
  refine ⟨hs _ _ h l, fun q => ?_⟩
  rcases hn a q with q | q
  · exact l q
  · rw [h] at q; cases q
theorem QT.ext {a : Addr} {xs : List V} (h : QT K H L a xs) (hs : ∀ a o, H a = some o → ¬ L a → H' a = some o) (hn : ∀ a, L' a → L a ∨ H a = none) : QT K H' L' a xs := by
  rcases h with ⟨h, l⟩ | h
  · refine .inl ⟨?_, fun q => ?_⟩
    · rcases h with h | ⟨o, h⟩
      · exact .inl (hs _ _ h l)
      · exact .inr ⟨o, hs _ _ h l⟩
    · rcases hn a q with q | q
      · exact l q
      · rcases h with h | ⟨o, h⟩
        · rw [h] at q; cases q
        · rw [h] at q; cases q
  · exact .inr h
mutual
theorem Rp.ext (hs : ∀ a o, H a = some o → ¬ L a → H' a = some o) (hn : ∀ a, L' a → L a ∨ H a = none) : ∀ (d : D) (v : V), Rp K H L v d → Rp K H' L' v d
  | .none, _, h => by cases h; exact .non
  | .bool b, _, h => by cases h; exact .bl b
  | .int i, _, h => by cases h; exact .int i
  | .str x, _, h => by cases h with | str _ o => exact .str x o
  | .list ds, _, h => by cases h with | lst q r => exact .lst (q.ext hs hn) (RpA.ext hs hn ds _ r)
  | .tuple ds, _, h => by cases h with | tup q r => exact .tup (q.ext hs hn) (RpA.ext hs hn ds _ r)
  | .dict _, _, h => by cases h with | dct q => exact .dct (q.ext hs hn)
theorem RpA.ext (hs : ∀ a o, H a = some o → ¬ L a → H' a = some o) (hn : ∀ a, L' a → L a ∨ H a = none) : ∀ (ds : List D) (vs : List V), RpA K H L vs ds → RpA K H' L' vs ds
  | [], _, h => by cases h; exact .nil
  | d :: ds, _, h => by cases h with | cons a b => exact .cons (Rp.ext hs hn d _ a) (RpA.ext hs hn ds _ b)
end
mutual
theorem Rp.dp : ∀ (d : D) (v : V), nd d = true → Rp K H L v d → Dp K H v d
  | .none, _, _, h => by cases h; exact .non
  | .bool b, _, _, h => by cases h; exact .bl b
  | .int i, _, _, h => by cases h; exact .int i
  | .str x, _, _, h => by cases h; exact .str x
  | .list ds, _, n, h => by cases h with | lst q r => exact .lst q.sq (RpA.dp ds _ (by simpa only [nd] using n) r)
  | .tuple ds, _, n, h => by cases h with | tup q r => exact .tup q.sq (RpA.dp ds _ (by simpa only [nd] using n) r)
  | .dict _, _, n, h => by simp [nd] at n
theorem RpA.dp : ∀ (ds : List D) (vs : List V), ndA ds = true → RpA K H L vs ds → DpAll K H vs ds
  | [], _, _, h => by cases h; exact .nil
  | d :: ds, _, n, h => by
    simp only [ndA, Bool.and_eq_true] at n
    cases h with | cons a b => exact .cons (Rp.dp d _ n.1 a) (RpA.dp ds _ n.2 b)
end
mutual
theorem Rp.lay : ∀ (d : D) (v : V), nd d = true → Rp K H L v d → d.canLay0 = true
  | .none, _, _, h => by simp only [PyData.canLay0]
  | .bool b, _, _, h => by simp only [PyData.canLay0]
  | .int i, _, _, h => by simp only [PyData.canLay0]
  | .str x, _, _, h => by cases h with | str _ o => simpa only [PyData.canLay0] using o
  | .list ds, _, n, h => by cases h with | lst q r => simpa only [PyData.canLay0] using RpA.lay ds _ (by simpa only [nd] using n) r
  | .tuple ds, _, n, h => by cases h with | tup q r => simpa only [PyData.canLay0] using RpA.lay ds _ (by simpa only [nd] using n) r
  | .dict _, _, n, h => by simp [nd] at n
theorem RpA.lay : ∀ (ds : List D) (vs : List V), ndA ds = true → RpA K H L vs ds → PyData.canLayAll0 ds = true
  | [], _, _, h => by simp only [PyData.canLayAll0]
  | d :: ds, _, n, h => by
    simp only [ndA, Bool.and_eq_true] at n
    cases h with
    | cons a b =>
      simp only [PyData.canLayAll0, Bool.and_eq_true]
      exact ⟨Rp.lay d _ n.1 a, RpA.lay ds _ n.2 b⟩
end
theorem RpA.length : ∀ {ds : List D} {vs : List V}, RpA K H L vs ds → vs.length = ds.length
  | [], _, h => by cases h; rfl
  | d :: ds, _, h => by cases h with | cons a b => simp [RpA.length b]
end

/-! ### the store -/
/-- where the places of the store stand; what else nobody may speak of (a list that is being made) -/
structure Pl where
  adr : List Addr
  grd : Addr → Prop
def Pl.add (ρ : Pl) (p : Addr) : Pl := ⟨ρ.adr ++ [p], ρ.grd⟩
def Pl.guard (ρ : Pl) (p : Addr) : Pl := ⟨ρ.adr, fun a => ρ.grd a ∨ a = p⟩
def Liv (S : Sto) (ρ : Pl) (a : Addr) : Prop := ∃ (n : Nat) (o : Ob), S[n]? = some o ∧ o.live = true ∧ ρ.adr[n]? = some a
def Live (S : Sto) (ρ : Pl) (a : Addr) : Prop := Liv S ρ a ∨ ρ.grd a
def RW (K : PySem.W.Frag) (ρ : Pl) (H : Hp) (L : Addr → Prop) : W → V → Prop
  | .d x, v => Rp K H L v x
  | .r n, v => ∃ a, ρ.adr[n]? = some a ∧ v = .ref a
  | .s ns, v => ∃ a, v = .ref a ∧ QF K H L a (ns.map V.int)
abbrev RWs (K : PySem.W.Frag) (ρ : Pl) (H : Hp) (L : Addr → Prop) : List W → List V → Prop := Paired (RW K ρ H L)
def okK : Key → Bool
  | .inl _ => true
  | .inr x => okS x
def RO (K : PySem.W.Frag) (ρ : Pl) (H : Hp) (L : Addr → Prop) : Ob → HO → Prop
  | .lst ws, o => ∃ vs, o = .lst vs ∧ RWs K ρ H L ws vs
  | .dct kvs, o => ∃ kus, o = .dK kus ∧ Paired (fun (p : Key × W) (q : Key × V) => p.1 = q.1 ∧ okK p.1 = true ∧ RW K ρ H L p.2 q.2) kvs kus
  | .dead, _ => True
structure Rel (K : PySem.W.Frag) (S : Sto) (ρ : Pl) (H : Hp) : Prop where
  len : ρ.adr.length = S.length
  gt : ∀ a : Addr, ρ.grd a → ∃ o, H a = some o
  dj : ∀ a : Addr, ρ.grd a → ¬ Liv S ρ a
  ob : ∀ (n : Nat) (o : Ob), S[n]? = some o → o.live = true → ∃ a ho, ρ.adr[n]? = some a ∧ H a = some ho ∧ RO K ρ H (Live S ρ) o ho
  inj : ∀ (n m : Nat) (a : Addr) (o u : Ob), S[n]? = some o → o.live = true → S[m]? = some u → u.live = true → ρ.adr[n]? = some a → ρ.adr[m]? = some a → n = m
/-- what is kept -/
structure Ext (S : Sto) (ρ : Pl) (H : Hp) (S' : Sto) (ρ' : Pl) (H' : Hp) : Prop where
  pre : ∀ (n : Nat) (a : Addr), ρ.adr[n]? = some a → ρ'.adr[n]? = some a
  stab : ∀ (a : Addr) (o : HO), H a = some o → ¬ Liv S ρ a → H' a = some o
  newl : ∀ a : Addr, Liv S' ρ' a → Liv S ρ a ∨ H a = none
  grd : ρ'.grd = ρ.grd
theorem Ext.refl {S : Sto} {ρ : Pl} {H : Hp} : Ext S ρ H S ρ H := ⟨fun _ _ h => h, fun _ _ h _ => h, fun _ h => .inl h, rfl⟩
theorem Ext.trans {S S1 S2 : Sto} {ρ ρ1 ρ2 : Pl} {H H1 H2 : Hp} (a : Ext S ρ H S1 ρ1 H1) (b : Ext S1 ρ1 H1 S2 ρ2 H2) : Ext S ρ H S2 ρ2 H2 := by
  refine ⟨fun n x h => b.pre _ _ (a.pre _ _ h), fun x o h l => b.stab x o (a.stab x o h l) fun q => ?_, fun x q => ?_, b.grd.trans a.grd⟩
  · rcases a.newl x q with q | q
    · exact l q
    · rw [h] at q; cases q
  · rcases b.newl x q with q | q
    · exact a.newl x q
    · cases e : H x with
      | none => exact .inr rfl
      | some o =>
        by_cases l : Liv S ρ x
        · exact .inl l
        · rw [a.stab x o e l] at q; cases q
/-- .. where a list that is being made may be guarded besides -/
structure Ext0 (S : Sto) (ρ : Pl) (H : Hp) (S' : Sto) (ρ' : Pl) (H' : Hp) : Prop where
  pre : ∀ (n : Nat) (a : Addr), ρ.adr[n]? = some a → ρ'.adr[n]? = some a
  stab : ∀ (a : Addr) (o : HO), H a = some o → ¬ Liv S ρ a → H' a = some o
  newl : ∀ a : Addr, Liv S' ρ' a → Liv S ρ a ∨ H a = none
  newg : ∀ a : Addr, ρ'.grd a → ρ.grd a ∨ H a = none
theorem Ext.to0 {S S' : Sto} {ρ ρ' : Pl} {H H' : Hp} (e : Ext S ρ H S' ρ' H') : Ext0 S ρ H S' ρ' H' := ⟨e.pre, e.stab, e.newl, fun a q => .inl (e.grd ▸ q)⟩
theorem Ext0.trans {S S1 S2 : Sto} {ρ ρ1 ρ2 : Pl} {H H1 H2 : Hp} (a : Ext0 S ρ H S1 ρ1 H1) (b : Ext S1 ρ1 H1 S2 ρ2 H2) : Ext0 S ρ H S2 ρ2 H2 := by
  refine ⟨fun n x h => b.pre _ _ (a.pre _ _ h), fun x o h l => b.stab x o (a.stab x o h l) fun q => ?_, fun x q => ?_, fun x q => a.newg x (b.grd ▸ q)⟩
  · rcases a.newl x q with q | q
    · exact l q
    · rw [h] at q; cases q
  · rcases b.newl x q with q | q
    · exact a.newl x q
    · cases e : H x with
      | none => exact .inr rfl
      | some o =>
        by_cases l : Liv S ρ x
        · exact .inl l
        · rw [a.stab x o e l] at q; cases q
section
variable {K : PySem.W.Frag} {S S' : Sto} {ρ ρ' : Pl} {H H' : Hp}
theorem Ext0.stabL (e : Ext0 S ρ H S' ρ' H') (a : Addr) (o : HO) (h : H a = some o) (l : ¬ Live S ρ a) : H' a = some o := e.stab a o h fun q => l (.inl q)
theorem Ext0.newL (e : Ext0 S ρ H S' ρ' H') (a : Addr) (h : Live S' ρ' a) : Live S ρ a ∨ H a = none := by
  rcases h with h | h
  · rcases e.newl a h with q | q
    · exact .inl (.inl q)
    · exact .inr q
  · rcases e.newg a h with q | q
    · exact .inl (.inr q)
    · exact .inr q
theorem RW.ext0 {w : W} {v : V} (h : RW K ρ H (Live S ρ) w v) (e : Ext0 S ρ H S' ρ' H') : RW K ρ' H' (Live S' ρ') w v := by
  cases w with
  | d x => exact Rp.ext e.stabL e.newL x v h
  | r n => obtain ⟨a, h1, h2⟩ := h; exact ⟨a, e.pre _ _ h1, h2⟩
  | s ns => obtain ⟨a, h1, h2⟩ := h; exact ⟨a, h1, h2.ext e.stabL e.newL⟩
theorem Ext.stabL (e : Ext S ρ H S' ρ' H') (a : Addr) (o : HO) (h : H a = some o) (l : ¬ Live S ρ a) : H' a = some o := e.stab a o h fun q => l (.inl q)
theorem Ext.newL (e : Ext S ρ H S' ρ' H') (a : Addr) (h : Live S' ρ' a) : Live S ρ a ∨ H a = none := by
  rcases h with h | h
  · rcases e.newl a h with q | q
    · exact .inl (.inl q)
    · exact .inr q
  · rw [e.grd] at h
    exact .inl (.inr h)
theorem RW.ext {w : W} {v : V} (h : RW K ρ H (Live S ρ) w v) (e : Ext S ρ H S' ρ' H') : RW K ρ' H' (Live S' ρ') w v := by
  cases w with
  | d x => exact Rp.ext e.stabL e.newL x v h
  | r n => obtain ⟨a, h1, h2⟩ := h; exact ⟨a, e.pre _ _ h1, h2⟩
  | s ns => obtain ⟨a, h1, h2⟩ := h; exact ⟨a, h1, h2.ext e.stabL e.newL⟩
theorem RWs.ext {ws : List W} {vs : List V} (h : RWs K ρ H (Live S ρ) ws vs) (e : Ext S ρ H S' ρ' H') : RWs K ρ' H' (Live S' ρ') ws vs := Paired.mapP h fun _ _ q => q.ext e
theorem RO.ext {o : Ob} {ho : HO} (h : RO K ρ H (Live S ρ) o ho) (e : Ext S ρ H S' ρ' H') : RO K ρ' H' (Live S' ρ') o ho := by
  cases o with
  | lst ws => obtain ⟨vs, h1, h2⟩ := h; exact ⟨vs, h1, h2.ext e⟩
  | dct kvs => obtain ⟨kus, h1, h2⟩ := h; exact ⟨kus, h1, Paired.mapP h2 fun _ _ q => ⟨q.1, q.2.1, q.2.2.ext e⟩⟩
  | dead => trivial
theorem Rel.tracked (R : Rel K S ρ H) {a : Addr} (l : Live S ρ a) : ∃ o, H a = some o := by
  rcases l with l | l
  case inr => exact R.gt a l
  obtain ⟨n, o, h1, h2, h3⟩ := l
  obtain ⟨a', ho, q1, q2, _⟩ := R.ob n o h1 h2
  rw [h3] at q1; cases q1
  exact ⟨_, q2⟩
theorem Rel.notLive (R : Rel K S ρ H) {p : Addr} (hp : H p = none) : ¬ Live S ρ p := fun l => by
  obtain ⟨o, h⟩ := R.tracked l
  rw [hp] at h; cases h
/-- something new that nobody changes -/
theorem Ext.frz {p : Addr} {o : HO} (hp : H p = none) : Ext S ρ H S ρ (upd H p o) :=
  ⟨fun _ _ h => h, fun a u h _ => by rw [upd_ne (ne_of_none h hp)]; exact h, fun _ h => .inl h, rfl⟩
theorem Rel.frz (R : Rel K S ρ H) {p : Addr} {o : HO} (hp : H p = none) : Rel K S ρ (upd H p o) :=
  ⟨R.len, fun a h => by
    obtain ⟨u, q⟩ := R.gt a h
    exact ⟨u, by rw [upd_ne (ne_of_none q hp)]; exact q⟩, R.dj, fun n u h1 h2 => by
    obtain ⟨a, ho, q1, q2, q3⟩ := R.ob n u h1 h2
    exact ⟨a, ho, q1, by rw [upd_ne (ne_of_none q2 hp)]; exact q2, q3.ext (Ext.frz hp)⟩, R.inj⟩
/-- a new place of the store -/
theorem Ext.new (R : Rel K S ρ H) {p : Addr} {o : Ob} {ho : HO} (hp : H p = none) : Ext S ρ H (S ++ [o]) (ρ.add p) (upd H p ho) := by
  refine ⟨fun n a h => ?_, fun a u h _ => by rw [upd_ne (ne_of_none h hp)]; exact h, fun a ⟨n, u, h1, h2, h3⟩ => ?_, rfl⟩
  · have hl : n < ρ.adr.length := (List.getElem?_eq_some_iff.mp h).1
    show (ρ.adr ++ [p])[n]? = some a
    rw [List.getElem?_append_left hl]; exact h
  · have h3 : (ρ.adr ++ [p])[n]? = some a := h3
    by_cases hn : n < S.length
    · rw [List.getElem?_append_left hn] at h1
      rw [List.getElem?_append_left (by rw [R.len]; exact hn)] at h3
      exact .inl ⟨n, u, h1, h2, h3⟩
    · rw [List.getElem?_append_right (by rw [R.len]; omega)] at h3
      have : n - ρ.adr.length = 0 := by
        cases e : n - ρ.adr.length with
        | zero => rfl
        | succ k => rw [e] at h3; simp at h3
      rw [this] at h3
      simp at h3
      subst h3
      exact .inr hp
theorem Rel.new (R : Rel K S ρ H) {p : Addr} {o : Ob} {ho : HO} (hp : H p = none) (hr : RO K ρ H (Live S ρ) o ho) : Rel K (S ++ [o]) (ρ.add p) (upd H p ho) := by
  have e : Ext S ρ H (S ++ [o]) (ρ.add p) (upd H p ho) := Ext.new R hp
  refine ⟨by simp [Pl.add, R.len], fun a h => ?_, fun a h q => ?_, fun n u h1 h2 => ?_, fun n m a u u' h1 h2 h3 h4 h5 h6 => ?_⟩
  · obtain ⟨u, q⟩ := R.gt a h
    exact ⟨u, by rw [upd_ne (ne_of_none q hp)]; exact q⟩
  · rcases e.newl a q with q | q
    · exact R.dj a h q
    · obtain ⟨u, z⟩ := R.gt a h
      rw [z] at q; cases q
  · by_cases hn : n < S.length
    · rw [List.getElem?_append_left hn] at h1
      obtain ⟨a, hu, q1, q2, q3⟩ := R.ob n u h1 h2
      exact ⟨a, hu, e.pre _ _ q1, by rw [upd_ne (ne_of_none q2 hp)]; exact q2, q3.ext e⟩
    · rw [List.getElem?_append_right (by omega)] at h1
      have hz : n - S.length = 0 := by
        cases e : n - S.length with
        | zero => rfl
        | succ k => rw [e] at h1; simp at h1
      rw [hz] at h1
      simp at h1
      subst h1
      refine ⟨p, ho, ?_, upd_same, hr.ext e⟩
      show (ρ.adr ++ [p])[n]? = some p
      rw [List.getElem?_append_right (by rw [R.len]; omega), R.len, hz]; rfl
  · have key : ∀ (n : Nat) (a : Addr) (u : Ob), (S ++ [o])[n]? = some u → u.live = true → (ρ.adr ++ [p])[n]? = some a → (n < S.length ∧ S[n]? = some u ∧ ρ.adr[n]? = some a ∧ a ≠ p) ∨ (n = S.length ∧ a = p) := fun n a u h1 h2 h3 => by
      by_cases hn : n < S.length
      · rw [List.getElem?_append_left hn] at h1
        rw [List.getElem?_append_left (by rw [R.len]; exact hn)] at h3
        refine .inl ⟨hn, h1, h3, fun z => ?_⟩
        subst z
        exact R.notLive hp (.inl ⟨n, u, h1, h2, h3⟩)
      · have hl := (List.getElem?_eq_some_iff.mp h1).1
        simp at hl
        have hz : n = S.length := by omega
        subst hz
        rw [List.getElem?_append_right (by rw [R.len]; omega), R.len] at h3
        simp at h3
        exact .inr ⟨rfl, h3.symm⟩
    rcases key n a u h1 h2 h5 with ⟨k1, k2, k3, k4⟩ | ⟨k1, k2⟩
    · rcases key m a u' h3 h4 h6 with ⟨l1, l2, l3, l4⟩ | ⟨l1, l2⟩
      · exact R.inj n m a u u' k2 h2 l2 h4 k3 l3
      · exact absurd l2 k4
    · rcases key m a u' h3 h4 h6 with ⟨l1, l2, l3, l4⟩ | ⟨l1, l2⟩
      · exact absurd k2 l4
      · rw [k1, l1]
theorem live_set {n : Nat} {o u : Ob} (h : S[n]? = some o) (hl : o.live = true) {a : Addr} (q : Liv (S.set n u) ρ a) : Liv S ρ a := by
  obtain ⟨m, w, h1, h2, h3⟩ := q
  by_cases e : n = m
  · subst e; exact ⟨n, o, h, hl, h3⟩
  · rw [List.getElem?_set_ne e] at h1
    exact ⟨m, w, h1, h2, h3⟩
/-- a place is written -/
theorem Ext.put {n : Nat} {a : Addr} {o u : Ob} {hu : HO} (h : S[n]? = some o) (hl : o.live = true) (ha : ρ.adr[n]? = some a) : Ext S ρ H (S.set n u) ρ (upd H a hu) := by
  refine ⟨fun _ _ h => h, fun b x q l => ?_, fun b q => .inl (live_set h hl q), rfl⟩
  have : b ≠ a := fun z => l ⟨n, o, h, hl, z ▸ ha⟩
  rw [upd_ne this]; exact q
theorem Rel.put (R : Rel K S ρ H) {n : Nat} {a : Addr} {o u : Ob} {hu : HO} (h : S[n]? = some o) (hl : o.live = true) (ha : ρ.adr[n]? = some a) (hr : RO K ρ H (Live S ρ) u hu) : Rel K (S.set n u) ρ (upd H a hu) := by
  have e : Ext S ρ H (S.set n u) ρ (upd H a hu) := Ext.put h hl ha
  have hn : n < S.length := (List.getElem?_eq_some_iff.mp h).1
  refine ⟨by simp [R.len], fun b q => ?_, fun b q z => R.dj b q (live_set h hl z), fun m w h1 h2 => ?_, fun m k b w w' h1 h2 h3 h4 h5 h6 => ?_⟩
  · by_cases eb : b = a
    · subst eb; exact ⟨_, upd_same⟩
    · rw [upd_ne eb]; exact R.gt b q
  · by_cases em : n = m
    · subst em
      rw [List.getElem?_set_self hn] at h1
      cases h1
      exact ⟨a, hu, ha, upd_same, hr.ext e⟩
    · rw [List.getElem?_set_ne em] at h1
      obtain ⟨b, hb, q1, q2, q3⟩ := R.ob m w h1 h2
      refine ⟨b, hb, q1, ?_, q3.ext e⟩
      have : b ≠ a := fun z => em (R.inj n m a o w h hl h1 h2 ha (z ▸ q1))
      rw [upd_ne this]; exact q2
  · have key : ∀ (m : Nat) (w : Ob), (S.set n u)[m]? = some w → w.live = true → ∃ w', S[m]? = some w' ∧ w'.live = true := fun m w h1 h2 => by
      by_cases em : n = m
      · subst em; exact ⟨o, h, hl⟩
      · rw [List.getElem?_set_ne em] at h1; exact ⟨w, h1, h2⟩
    obtain ⟨x, x1, x2⟩ := key m w h1 h2
    obtain ⟨y, y1, y2⟩ := key k w' h3 h4
    exact R.inj m k b x y x1 x2 y1 y2 h5 h6
/-- a place is given up: what stood there is changed no more -/
theorem Ext.kill {n : Nat} {o : Ob} (h : S[n]? = some o) (hl : o.live = true) : Ext S ρ H (S.set n .dead) ρ H :=
  ⟨fun _ _ h => h, fun _ _ q _ => q, fun _ q => .inl (live_set h hl q), rfl⟩
theorem Rel.kill (R : Rel K S ρ H) {n : Nat} {o : Ob} (h : S[n]? = some o) (hl : o.live = true) : Rel K (S.set n .dead) ρ H := by
  have e : Ext S ρ H (S.set n .dead) ρ H := Ext.kill h hl
  have hn : n < S.length := (List.getElem?_eq_some_iff.mp h).1
  have key : ∀ (m : Nat) (w : Ob), (S.set n .dead)[m]? = some w → w.live = true → n ≠ m ∧ S[m]? = some w := fun m w h1 h2 => by
    by_cases em : n = m
    · subst em
      rw [List.getElem?_set_self hn] at h1
      cases h1; cases h2
    · rw [List.getElem?_set_ne em] at h1; exact ⟨em, h1⟩
  refine ⟨by simp [R.len], R.gt, fun b q z => R.dj b q (live_set h hl z), fun m w h1 h2 => ?_, fun m k b w w' h1 h2 h3 h4 h5 h6 => ?_⟩
  · obtain ⟨_, q⟩ := key m w h1 h2
    obtain ⟨b, hb, q1, q2, q3⟩ := R.ob m w q h2
    exact ⟨b, hb, q1, q2, q3.ext e⟩
  · exact R.inj m k b w w' (key m w h1 h2).2 h2 (key k w' h3 h4).2 h4 h5 h6
theorem Rel.dead_not (R : Rel K S ρ H) {n : Nat} {a : Addr} {o : Ob} (h : S[n]? = some o) (hl : o.live = true) (ha : ρ.adr[n]? = some a) : ¬ Liv (S.set n .dead) ρ a := by
  rintro ⟨m, w, h1, h2, h3⟩
  have hn : n < S.length := (List.getElem?_eq_some_iff.mp h).1
  by_cases em : n = m
  · subst em
    rw [List.getElem?_set_self hn] at h1
    cases h1; cases h2
  · rw [List.getElem?_set_ne em] at h1
    exact em (R.inj n m a o w h hl h1 h2 ha h3)
theorem Rel.dead_notL (R : Rel K S ρ H) {n : Nat} {a : Addr} {o : Ob} (h : S[n]? = some o) (hl : o.live = true) (ha : ρ.adr[n]? = some a) : ¬ Live (S.set n .dead) ρ a := fun q => q.elim (R.dead_not h hl ha) fun q => R.dj a q ⟨n, o, h, hl, ha⟩
/-- a list that is being made is guarded -/
theorem Rel.guard (R : Rel K S ρ H) {p : Addr} {o : HO} (hp : H p = none) : Rel K S (ρ.guard p) (upd H p o) := by
  have R' := R.frz (o := o) hp
  have up : ∀ a, Live S (ρ.guard p) a → Live S ρ a ∨ H a = none := fun a q => by
    rcases q with q | q | q
    · exact .inl (.inl q)
    · exact .inl (.inr q)
    · exact .inr (q ▸ hp)
  have st : ∀ a u, H a = some u → ¬ Live S ρ a → upd H p o a = some u := fun a u h _ => by rw [upd_ne (ne_of_none h hp)]; exact h
  refine ⟨R.len, fun a q => ?_, fun a q z => ?_, fun n u h1 h2 => ?_, R.inj⟩
  · rcases q with q | q
    · exact R'.gt a q
    · exact ⟨o, q ▸ upd_same⟩
  · rcases q with q | q
    · exact R.dj a q z
    · exact R.notLive hp (.inl (q ▸ z))
  · obtain ⟨a, ho, q1, q2, q3⟩ := R.ob n u h1 h2
    refine ⟨a, ho, q1, by rw [upd_ne (ne_of_none q2 hp)]; exact q2, ?_⟩
    have key : ∀ w v, RW K ρ H (Live S ρ) w v → RW K (ρ.guard p) (upd H p o) (Live S (ρ.guard p)) w v := fun w v z => by
      cases w with
      | d x => exact Rp.ext st up x v z
      | r k => exact z
      | s ns => obtain ⟨a, h1, h2⟩ := z; exact ⟨a, h1, h2.ext st up⟩
    cases u with
    | lst ws => obtain ⟨vs, z1, z2⟩ := q3; exact ⟨vs, z1, Paired.mapP z2 fun _ _ z => key _ _ z⟩
    | dct kvs => obtain ⟨kus, z1, z2⟩ := q3; exact ⟨kus, z1, Paired.mapP z2 fun _ _ z => ⟨z.1, z.2.1, key _ _ z.2.2⟩⟩
    | dead => trivial
theorem RW.guard {p : Addr} {o : HO} (hp : H p = none) {w : W} {v : V} (z : RW K ρ H (Live S ρ) w v) : RW K (ρ.guard p) (upd H p o) (Live S (ρ.guard p)) w v := by
  cases w with
  | d x =>
    refine Rp.ext (fun a u h _ => by rw [upd_ne (ne_of_none h hp)]; exact h) (fun a q => ?_) x v z
    rcases q with q | q | q
    · exact .inl (.inl q)
    · exact .inl (.inr q)
    · exact .inr (q ▸ hp)
  | r k => exact z
  | s ns =>
    obtain ⟨b, h1, h2⟩ := z
    refine ⟨b, h1, h2.ext (fun a u h _ => by rw [upd_ne (ne_of_none h hp)]; exact h) (fun a q => ?_)⟩
    rcases q with q | q | q
    · exact .inl (.inl q)
    · exact .inl (.inr q)
    · exact .inr (q ▸ hp)
theorem Ext0.guard {p : Addr} {o : HO} (hp : H p = none) : Ext0 S ρ H S (ρ.guard p) (upd H p o) :=
  ⟨fun _ _ h => h, fun a u h _ => by rw [upd_ne (ne_of_none h hp)]; exact h, fun _ h => .inl h, fun a q => q.elim .inl fun z => .inr (z ▸ hp)⟩
/-- what is guarded is written -/
theorem RW.gput (R : Rel K S ρ H) {p : Addr} {o : HO} (g : ρ.grd p) {w : W} {v : V} (z : RW K ρ H (Live S ρ) w v) : RW K ρ (upd H p o) (Live S ρ) w v := by
  cases w with
  | d x => exact Rp.ext (fun a u h l => by rw [upd_ne (show a ≠ p from fun e => l (.inr (by rw [e]; exact g)))]; exact h) (fun a q => .inl q) x v z
  | r k => exact z
  | s ns =>
    obtain ⟨b, h1, h2⟩ := z
    exact ⟨b, h1, h2.ext (fun a u h l => by rw [upd_ne (show a ≠ p from fun e => l (.inr (by rw [e]; exact g)))]; exact h) (fun a q => .inl q)⟩
theorem Rel.gput (R : Rel K S ρ H) {p : Addr} {o : HO} (g : ρ.grd p) : Rel K S ρ (upd H p o) := by
  refine ⟨R.len, fun a q => ?_, R.dj, fun n u h1 h2 => ?_, R.inj⟩
  · by_cases e : a = p
    · exact ⟨o, e ▸ upd_same⟩
    · rw [upd_ne e]; exact R.gt a q
  · obtain ⟨a, ho, q1, q2, q3⟩ := R.ob n u h1 h2
    have ne : a ≠ p := fun e => R.dj p g (e ▸ ⟨n, u, h1, h2, q1⟩)
    refine ⟨a, ho, q1, by rw [upd_ne ne]; exact q2, ?_⟩
    cases u with
    | lst ws => obtain ⟨vs, z1, z2⟩ := q3; exact ⟨vs, z1, Paired.mapP z2 fun _ _ z => RW.gput R g z⟩
    | dct kvs => obtain ⟨kus, z1, z2⟩ := q3; exact ⟨kus, z1, Paired.mapP z2 fun _ _ z => ⟨z.1, z.2.1, RW.gput R g z.2.2⟩⟩
    | dead => trivial
/-- fewer are guarded -/
theorem RW.ung {g : Addr → Prop} (hg : ∀ a, g a → ρ.grd a) {w : W} {v : V} (z : RW K ρ H (Live S ρ) w v) : RW K ⟨ρ.adr, g⟩ H (Live S ⟨ρ.adr, g⟩) w v := by
  cases w with
  | d x => exact Rp.ext (fun a u h l => h) (fun a q => .inl (q.elim (fun q => .inl q) fun q => .inr (hg a q))) x v z
  | r k => exact z
  | s ns =>
    obtain ⟨b, h1, h2⟩ := z
    exact ⟨b, h1, h2.ext (fun a u h l => h) (fun a q => .inl (q.elim (fun q => .inl q) fun q => .inr (hg a q)))⟩
theorem Rel.ung {g : Addr → Prop} (R : Rel K S ρ H) (hg : ∀ a, g a → ρ.grd a) : Rel K S ⟨ρ.adr, g⟩ H := by
  refine ⟨R.len, fun a q => R.gt a (hg a q), fun a q z => R.dj a (hg a q) z, fun n u h1 h2 => ?_, R.inj⟩
  obtain ⟨a, ho, q1, q2, q3⟩ := R.ob n u h1 h2
  refine ⟨a, ho, q1, q2, ?_⟩
  cases u with
  | lst ws => obtain ⟨vs, z1, z2⟩ := q3; exact ⟨vs, z1, Paired.mapP z2 fun _ _ z => RW.ung hg z⟩
  | dct kvs => obtain ⟨kus, z1, z2⟩ := q3; exact ⟨kus, z1, Paired.mapP z2 fun _ _ z => ⟨z.1, z.2.1, RW.ung hg z.2.2⟩⟩
  | dead => trivial
end
end DL
/-! DL2: readings by plain functions: expressions, tests, arguments, statements; how they are put together. -/
namespace DL
open PySem PySem.Spec PyProof.Rows L2

abbrev RR (α β : Type) := Pl → Hp → (Addr → Prop) → α → β → Prop
def Stb {α β : Type} (R : RR α β) : Prop := ∀ (S : Sto) (ρ : Pl) (H : Hp) (S' : Sto) (ρ' : Pl) (H' : Hp) (a : α) (b : β), R ρ H (Live S ρ) a b → Ext S ρ H S' ρ' H' → R ρ' H' (Live S' ρ') a b
def rP {α β α' β' : Type} (R : RR α β) (R' : RR α' β') : RR (α × α') (β × β') := fun ρ H L p q => R ρ H L p.1 q.1 ∧ R' ρ H L p.2 q.2
def rE {α : Type} : RR α α := fun _ _ _ a b => a = b
theorem Stb.p {α β α' β' : Type} {R : RR α β} {R' : RR α' β'} (h : Stb R) (h' : Stb R') : Stb (rP R R') := fun _ _ _ _ _ _ _ _ q e => ⟨h _ _ _ _ _ _ _ _ q.1 e, h' _ _ _ _ _ _ _ _ q.2 e⟩
theorem Stb.e {α : Type} : Stb (rE (α := α)) := fun _ _ _ _ _ _ _ _ q _ => q
theorem Stb.w {K : PySem.W.Frag} : Stb (RW K) := fun _ _ _ _ _ _ _ _ q e => q.ext e
theorem Stb.ws {K : PySem.W.Frag} : Stb (RWs K) := fun _ _ _ _ _ _ _ _ q e => q.ext e
abbrev Env := List (Option W)
def REnv (K : PySem.W.Frag) : RR Env L2.St := fun ρ H L δ σ => δ.length = σ.length ∧ ∀ (i : Nat) (w : W), δ[i]? = some (some w) → ∃ v, σ[i]? = some (some v) ∧ RW K ρ H L w v
theorem Stb.env {K : PySem.W.Frag} : Stb (REnv K) := fun _ _ _ _ _ _ _ _ q e => ⟨q.1, fun i w h => let ⟨v, h1, h2⟩ := q.2 i w h; ⟨v, h1, h2.ext e⟩⟩
/-- what is wanted of an error -/
abbrev XZ := Ex → Sto → Pl → Hp → Prop
abbrev ZF : XZ := fun _ _ _ _ => False
/-- from a (b its likeness) the run of m a ends in what is wanted -/
def tH (K : PySem.W.Frag) (Z : XZ) {A B α β : Type} (RA : RR A B) (Rα : RR α β) (m : A → M α) (b : B) (H : Hp) (Q : β → Hp → Prop) : Prop :=
  ∃ (a : A) (S : Sto) (ρ : Pl), Rel K S ρ H ∧ RA ρ H (Live S ρ) a b ∧
    Gives (m a S) (fun r S' => ∀ (ρ' : Pl) (H' : Hp) (v : β), Ext S ρ H S' ρ' H' → Rel K S' ρ' H' → Rα ρ' H' (Live S' ρ') r v → Q v H')
      (fun x S' => ∀ (ρ' : Pl) (H' : Hp), Ext S ρ H S' ρ' H' → Rel K S' ρ' H' → Z x S' ρ' H')
section
variable {K : PySem.W.Frag} {Z : XZ} {A B A' B' α β γ γ' : Type} {RA : RR A B} {RA' : RR A' B'} {Rα : RR α β} {Rγ : RR γ γ'}
theorem tH.mono {m : A → M α} {b : B} {H : Hp} {Q Q' : β → Hp → Prop} (h : tH K Z RA Rα m b H Q) (hq : ∀ v H', Q v H' → Q' v H') : tH K Z RA Rα m b H Q' := by
  obtain ⟨a, S, ρ, r, ra, g⟩ := h
  exact ⟨a, S, ρ, r, ra, gives_imp g (fun _ _ q ρ' H' v e r' x => hq _ _ (q ρ' H' v e r' x)) fun _ _ q => q⟩
theorem tH.map {m : A' → M α} {f : A → A'} {g : B → B'} {b : B} {H : Hp} {Q : β → Hp → Prop} (h : tH K Z RA Rα (fun a => m (f a)) b H Q) (hp : ∀ ρ H L a b, RA ρ H L a b → RA' ρ H L (f a) (g b)) : tH K Z RA' Rα m (g b) H Q := by
  obtain ⟨a, S, ρ, r, ra, gv⟩ := h
  exact ⟨f a, S, ρ, r, hp _ _ _ _ _ ra, gv⟩
theorem tH.bind {f : A → M α} {g : A → α → M γ} {b : B} {H : Hp} {Q : γ' → Hp → Prop} (h : tH K Z RA Rγ (fun a => bd (f a) (g a)) b H Q) (st : Stb RA) :
    tH K Z RA Rα f b H fun v H1 => tH K Z (rP RA Rα) Rγ (fun p => g p.1 p.2) (b, v) H1 Q := by
  obtain ⟨a, S, ρ, r, ra, gv⟩ := h
  refine ⟨a, S, ρ, r, ra, gives_imp (gives_bd gv) (fun w S1 q ρ1 H1 v e1 r1 x1 => ?_) fun _ _ q => q⟩
  refine ⟨(a, w), S1, ρ1, r1, ⟨st _ _ _ _ _ _ _ _ ra e1, x1⟩, gives_imp q (fun c S2 q2 ρ2 H2 z e2 r2 x2 => ?_) fun x S2 q2 ρ2 H2 e2 r2 => ?_⟩
  · exact q2 ρ2 H2 z (e1.trans e2) r2 x2
  · exact q2 ρ2 H2 (e1.trans e2) r2
theorem tH.pure {f : A → α} {b : B} {H : Hp} {Q : β → Hp → Prop} (h : tH K Z RA Rα (fun a => pr (f a)) b H Q) {v : β} (hv : ∀ ρ H L a, RA ρ H L a b → Rα ρ H L (f a) v) : Q v H := by
  obtain ⟨a, S, ρ, r, ra, gv⟩ := h
  exact gv ρ H v Ext.refl r (hv _ _ _ _ ra)
end
abbrev tE (K : PySem.W.Frag) (Z : XZ) (f : Env → M W) : TE := fun σ H Q => tH K Z (REnv K) (RW K) f σ H Q
abbrev tT (K : PySem.W.Frag) (Z : XZ) (f : Env → M Bool) : TT := fun σ H Q => tH K Z (REnv K) rE f σ H Q
abbrev tA (K : PySem.W.Frag) (Z : XZ) (f : Env → M (List W)) : TA := fun σ H Q => tH K Z (REnv K) (RWs K) f σ H Q
theorem _root_.L2.PE.imp {X : Cx} {e : Expr} {t t' : TE} (h : PE X e t) (hi : ∀ σ H Q, t' σ H Q → t σ H Q) : PE X e t' := ⟨fun pins s σ H Q I q => h.run pins s σ H Q I (hi _ _ _ q)⟩
theorem _root_.L2.PT.imp {X : Cx} {e : Expr} {t t' : TT} (h : PT X e t) (hi : ∀ σ H Q, t' σ H Q → t σ H Q) : PT X e t' := ⟨fun pins s σ H Q I q => h.run pins s σ H Q I (hi _ _ _ q)⟩
theorem _root_.L2.PW.imp {X : Cx} {e : Expr} {t t' : TT} (h : PW X e t) (hi : ∀ σ H Q, t' σ H Q → t σ H Q) : PW X e t' := ⟨fun w pins s σ H Q I q => h.run w pins s σ H Q I (hi _ _ _ q)⟩
theorem _root_.L2.PA.imp {X : Cx} {e : List Expr} {t t' : TA} (h : PA X e t) (hi : ∀ σ H Q, t' σ H Q → t σ H Q) : PA X e t' := ⟨fun pos pins s σ H Q I q => h.run pos pins s σ H Q I (hi _ _ _ q)⟩
theorem _root_.L2.PTs.imp {X : Cx} {e : List Expr} {t t' : TT} (h : PTs X e t) (hi : ∀ σ H Q, t' σ H Q → t σ H Q) : PTs X e t' := ⟨fun pins s σ H Q I q => h.run pins s σ H Q I (hi _ _ _ q)⟩
theorem _root_.L2.PS.imp {X : Cx} {e : Stmt} {t t' : TS} (h : PS X e t) (hi : ∀ D σ H, t' D σ H → t D σ H) : PS X e t' := ⟨fun pins s σ H D I q => h.run pins s σ H D I (hi _ _ _ q)⟩
theorem _root_.L2.PSs.imp {X : Cx} {e : List Stmt} {t t' : TS} (h : PSs X e t) (hi : ∀ D σ H, t' D σ H → t D σ H) : PSs X e t' := ⟨fun pins s σ H D I q => h.run pins s σ H D I (hi _ _ _ q)⟩

/-! ### names and constants -/
def varM (i : Nat) (δ : Env) : M W := fun S => match δ[i]? with
  | some (some w) => .ok w S
  | _ => .no
abbrev cM (x : D) (_ : Env) : M W := pr (.d x)
section
variable {X : Cx} {Z : XZ} {pos : Pos}
theorem dvar {i : Nat} {x : Str} (hN : X.N[i]? = some x := by rfl) (hv : Vis X.env.scope x := by first | exact Or.inl rfl | exact Or.inr (Or.inl rfl) | exact Or.inr (Or.inr rfl)) (hd : (x == ("__debug__" : Str)) = false := by decide)
    (hcd : (x == ("__classdict__" : Str)) = false := by decide) : PE X (.Name x pos) (tE X.K Z (varM i)) := by
  refine (pe_var hN hv hd hcd).imp fun σ H Q h => ?_
  obtain ⟨δ, S, ρ, r, ra, g⟩ := h
  unfold varM at g
  split at g
  · rename_i w e
    obtain ⟨v, h1, h2⟩ := ra.2 i w e
    exact ⟨v, h1, g ρ H v Ext.refl r h2⟩
  · exact g.elim
theorem dC {e : Expr} {v : V} {x : D} (h : PE X e (tC v)) (hx : ∀ H L, Rp X.K H L v x) : PE X e (tE X.K Z (cM x)) :=
  h.imp fun σ H Q q => tH.pure q fun _ _ _ _ _ => hx _ _
theorem dint {i j} : PE X (.Constant (.int i) j pos) (tE X.K Z (cM (.int i))) := dC pe_int fun _ _ => .int i
theorem dbl {i j} : PE X (.Constant (.bool i) j pos) (tE X.K Z (cM (.bool i))) := dC pe_bl fun _ _ => .bl i
theorem dnon {j} : PE X (.Constant .none j pos) (tE X.K Z (cM .none)) := dC pe_non fun _ _ => .non
theorem dstr {x j} (h : okS x = true := by decide +kernel) : PE X (.Constant (.str x) j pos) (tE X.K Z (cM (.str x))) := dC pe_str fun _ _ => .str x h
/-- what is written at the top -/
theorem dglob {x : Str} {v : V} {u : Value} {d : D} (hg : Gl X x) (hm : X.mg x = some u) (r : RelV v u) (hx : ∀ H L, Rp X.K H L v d) (hd : (x == ("__debug__" : Str)) = false := by decide) : PE X (.Name x pos) (tE X.K Z (cM d)) :=
  dC (pe_glob hg hm r hd) hx
end

/-! ### operators by their rule -/
def r2M (K : PySem.W.Frag) (Z : XZ) (fo : W → W → M W) : R2 := fun x y H Q => tH K Z (rP (RW K) (RW K)) (RW K) (fun p => fo p.1 p.2) (x, y) H Q
def r1M (K : PySem.W.Frag) (Z : XZ) (fo : W → M W) : V → Hp → VK → Prop := fun x H Q => tH K Z (RW K) (RW K) fo x H Q
def rcM (K : PySem.W.Frag) (Z : XZ) (fo : List W → M W) : List V → Hp → VK → Prop := fun xs H Q => tH K Z (RWs K) (RW K) fo xs H Q
abbrev binM (fa fb : Env → M W) (fo : W → W → M W) : Env → M W := fun δ => bd (fa δ) fun x => bd (fb δ) fun y => fo x y
section
variable {X : Cx} {Z : XZ} {pos : Pos} {a b c : Expr} {fa fb fc : Env → M W}
theorem tE.two {σ : L2.St} {H : Hp} {Q : VK} {fo : W → W → M W} (h : tE X.K Z (binM fa fb fo) σ H Q) : tOp (r2M X.K Z fo) (tE X.K Z fa) (tE X.K Z fb) σ H Q := by
  refine (tH.bind (Rα := RW X.K) (f := fa) (g := fun δ x => bd (fb δ) fun y => fo x y) h Stb.env).mono fun x H1 h1 => ?_
  have h2 := tH.bind (Rα := RW X.K) (f := fun p : Env × W => fb p.1) (g := fun p y => fo p.2 y) h1 (Stb.env.p Stb.w)
  refine (tH.map (RA' := REnv X.K) (m := fb) (f := Prod.fst) (g := Prod.fst) h2 fun _ _ _ _ _ q => q.1).mono fun y H2 h3 => ?_
  exact tH.map (RA' := rP (RW X.K) (RW X.K)) (m := fun p : W × W => fo p.1 p.2) (f := fun q : (Env × W) × W => (q.1.2, q.2)) (g := fun q : (L2.St × V) × V => (q.1.2, q.2)) h3 fun _ _ _ _ _ q => ⟨q.1.2, q.2⟩
theorem dop {op : Operator} {fo : W → W → M W} (ho : OpR X (binaryOp op) (r2M X.K Z fo)) (ha : PE X a (tE X.K Z fa)) (hb : PE X b (tE X.K Z fb)) : PE X (.BinOp a op b pos) (tE X.K Z (binM fa fb fo)) :=
  (pe_op ho ha hb).imp fun _ _ _ h => tE.two h
theorem dcmp {op : CmpOp} {fo : W → W → M W} (ho : OpR X (compareOp op) (r2M X.K Z fo)) (ha : PE X a (tE X.K Z fa)) (hb : PE X b (tE X.K Z fb)) (hm : behindInMarks op b = false := by rfl) : PE X (.Compare a [op] [b] pos) (tE X.K Z (binM fa fb fo)) :=
  (pe_cmpR ho ha hb hm).imp fun _ _ _ h => tE.two h
def boolOf (w : W) : M Bool := match w with
  | .d (.bool b) => pr b
  | _ => no
/-- a < b < c -/
abbrev chainM (fa fb fc : Env → M W) (fo fo' : W → W → M W) : Env → M W := fun δ => bd (fa δ) fun x => bd (fb δ) fun y => bd (fo x y) fun z => bd (boolOf z) fun k => if k = true then bd (fc δ) fun w => fo' y w else pr (.d (.bool false))
theorem boolOf_gives {w : W} {S : Sto} {P : Bool → Sto → Prop} {E : Ex → Sto → Prop} (h : Gives (boolOf w S) P E) : ∃ b, w = .d (.bool b) ∧ P b S := by
  unfold boolOf at h
  split at h
  · exact ⟨_, rfl, h⟩
  · exact h.elim
theorem tE.chain {σ : L2.St} {H : Hp} {Q : VK} {fo fo' : W → W → M W} (h : tE X.K Z (chainM fa fb fc fo fo') σ H Q) : tChain (r2M X.K Z fo) (r2M X.K Z fo') (tE X.K Z fa) (tE X.K Z fb) (tE X.K Z fc) σ H Q := by
  refine (tH.bind (Rα := RW X.K) (f := fa) (g := fun δ x => bd (fb δ) fun y => bd (fo x y) fun z => bd (boolOf z) fun k => if k = true then bd (fc δ) fun w => fo' y w else pr (.d (.bool false))) h Stb.env).mono fun x H1 h1 => ?_
  have h2 := tH.bind (Rα := RW X.K) (f := fun p : Env × W => fb p.1) (g := fun p y => bd (fo p.2 y) fun z => bd (boolOf z) fun k => if k = true then bd (fc p.1) fun w => fo' y w else pr (.d (.bool false))) h1 (Stb.env.p Stb.w)
  refine (tH.map (RA' := REnv X.K) (m := fb) (f := Prod.fst) (g := Prod.fst) h2 fun _ _ _ _ _ q => q.1).mono fun y H2 h3 => ?_
  have h4 := tH.bind (Rα := RW X.K) (f := fun q : (Env × W) × W => fo q.1.2 q.2) (g := fun q z => bd (boolOf z) fun k => if k = true then bd (fc q.1.1) fun w => fo' q.2 w else pr (.d (.bool false))) h3 ((Stb.env.p Stb.w).p Stb.w)
  refine tH.mono (tH.map (RA' := rP (RW X.K) (RW X.K)) (m := fun p : W × W => fo p.1 p.2) (f := fun q : (Env × W) × W => (q.1.2, q.2)) (g := fun q : (L2.St × V) × V => (q.1.2, q.2)) h4 fun _ _ _ _ _ q => ⟨q.1.2, q.2⟩) fun z H3 h5 => ?_
  obtain ⟨⟨⟨⟨δ, w1⟩, w2⟩, w3⟩, S, ρ, r, ⟨⟨⟨r0, r1⟩, r2⟩, r3⟩, g⟩ := h5
  obtain ⟨k, e, g⟩ := boolOf_gives (gives_bd g)
  change w3 = _ at e
  subst e
  have hz : z = .bl k := by cases r3; rfl
  refine ⟨k, hz, ?_⟩
  cases k with
  | true =>
    rw [if_pos rfl]
    rw [if_pos rfl] at g
    have h6 : tH X.K Z (rP (REnv X.K) (RW X.K)) (RW X.K) (fun p : Env × W => bd (fc p.1) fun w => fo' p.2 w) (σ, y) H3 Q := ⟨(δ, w2), S, ρ, r, ⟨r0, r2⟩, g⟩
    have h7 := tH.bind (Rα := RW X.K) (f := fun p : Env × W => fc p.1) (g := fun p w => fo' p.2 w) h6 (Stb.env.p Stb.w)
    refine (tH.map (RA' := REnv X.K) (m := fc) (f := Prod.fst) (g := Prod.fst) h7 fun _ _ _ _ _ q => q.1).mono fun w H4 h8 => ?_
    exact tH.map (RA' := rP (RW X.K) (RW X.K)) (m := fun p : W × W => fo' p.1 p.2) (f := fun q : (Env × W) × W => (q.1.2, q.2)) (g := fun q : (L2.St × V) × V => (q.1.2, q.2)) h8 fun _ _ _ _ _ q => ⟨q.1.2, q.2⟩
  | false =>
    rw [if_neg Bool.false_ne_true]
    rw [if_neg Bool.false_ne_true] at g
    exact g ρ H3 (.bl false) Ext.refl r (.bl false)
theorem dchain {op op' : CmpOp} {fo fo' : W → W → M W} (ho : OpR X (compareOp op) (r2M X.K Z fo)) (ho' : OpR X (compareOp op') (r2M X.K Z fo')) (ha : PE X a (tE X.K Z fa)) (hb : PE X b (tE X.K Z fb)) (hc : PE X c (tE X.K Z fc)) (hm : lastMarks [op, op'] [b, c] = false := by with_unfolding_all rfl) :
    PE X (.Compare a [op, op'] [b, c] pos) (tE X.K Z (chainM fa fb fc fo fo')) := (pe_chain ho ho' ha hb hc hm).imp fun σ H Q h => tE.chain h
theorem dun {op : UnaryOp} {fo : W → M W} (ho : UnR X (unaryOp op) (r1M X.K Z fo)) (ha : PE X a (tE X.K Z fa)) : PE X (.UnaryOp op a pos) (tE X.K Z fun δ => bd (fa δ) fo) := by
  refine (pe_un ho ha).imp fun σ H Q h => ?_
  refine (tH.bind (Rα := RW X.K) (f := fa) (g := fun _ x => fo x) h Stb.env).mono fun x H1 h1 => ?_
  exact tH.map (RA' := RW X.K) (m := fo) (f := Prod.snd) (g := Prod.snd) h1 fun _ _ _ _ _ q => q.2

/-! ### arguments, displays -/
abbrev nilM : Env → M (List W) := fun _ => pr []
abbrev consM (fa : Env → M W) (fr : Env → M (List W)) : Env → M (List W) := fun δ => bd (fa δ) fun x => bd (fr δ) fun xs => pr (x :: xs)
variable {es : List Expr} {fr : Env → M (List W)}
theorem danil : PA X [] (tA X.K Z nilM) := pa_nil.imp fun σ H Q h => tH.pure h fun _ _ _ _ _ => .nil
theorem dacons (ha : PE X a (tE X.K Z fa)) (hr : PA X es (tA X.K Z fr)) (hs : starEach (a :: es) X.env = (false, eval a X.env) :: starEach es X.env := by rfl) : PA X (a :: es) (tA X.K Z (consM fa fr)) := by
  refine (pa_cons ha hr hs).imp fun σ H Q h => ?_
  refine (tH.bind (Rα := RW X.K) (f := fa) (g := fun δ x => bd (fr δ) fun xs => pr (x :: xs)) h Stb.env).mono fun x H1 h1 => ?_
  have h2 := tH.bind (Rα := RWs X.K) (f := fun p : Env × W => fr p.1) (g := fun p xs => pr (p.2 :: xs)) h1 (Stb.env.p Stb.w)
  refine (tH.map (RA' := REnv X.K) (m := fr) (f := Prod.fst) (g := Prod.fst) h2 fun _ _ _ _ _ q => q.1).mono fun xs H2 h3 => ?_
  exact tH.pure h3 fun _ _ _ _ q => .cons q.1.2 q.2
/-- plain data of all -/
def allD : List W → Option (List D)
  | [] => some []
  | .d x :: ws => (allD ws).map (x :: ·)
  | .r _ :: _ => none
  | .s _ :: _ => none
theorem allD_rep {K : PySem.W.Frag} {ρ : Pl} {H : Hp} {L : Addr → Prop} : ∀ {ws : List W} {vs : List V} {ds : List D}, allD ws = some ds → RWs K ρ H L ws vs → RpA K H L vs ds
  | [], _, ds, h, r => by cases r; simp [allD] at h; subst h; exact .nil
  | .d x :: ws, _, ds, h, r => by
    cases r with
    | cons a b =>
      simp only [allD, Option.map_eq_some_iff] at h
      obtain ⟨es, h1, h2⟩ := h
      subst h2
      exact .cons a (allD_rep h1 b)
  | .r _ :: _, _, ds, h, r => by simp [allD] at h
  | .s _ :: _, _, ds, h, r => by simp [allD] at h
theorem allD_map : ∀ ds : List D, allD (ds.map .d) = some ds
  | [] => rfl
  | d :: ds => by simp [allD, allD_map ds]
/-- a new list or tuple that nobody changes -/
def lstM (ws : List W) : M W := fun S => if ws.length ≤ sizeLine then (match allD ws with | some ds => .ok (.d (.list ds)) S | none => .no) else .no
def tupM (ws : List W) : M W := fun S => if ws.length ≤ sizeLine then (match allD ws with | some ds => .ok (.d (.tuple ds)) S | none => .no) else .no
/-- a new list that may change -/
def newM (ws : List W) : M W := fun S => if ws.length ≤ sizeLine then .ok (.r S.length) (S ++ [.lst ws]) else .no
theorem lstM_new {K : PySem.W.Frag} {ρ : Pl} {H : Hp} {S : Sto} {ws : List W} {vs : List V} {P : W → Sto → Prop} {E : Ex → Sto → Prop} (g : Gives (lstM ws S) P E) (R : Rel K S ρ H) (rv : RWs K ρ H (Live S ρ) ws vs) :
    ∃ ds, vs.length ≤ sizeLine ∧ P (.d (.list ds)) S ∧ ∀ p, H p = none → RW K ρ (upd H p (.lst vs)) (Live S ρ) (.d (.list ds)) (.ref p) := by
  unfold lstM at g
  split at g
  · rename_i hl
    split at g
    · rename_i ds e
      refine ⟨ds, by rw [← Paired.length rv]; exact hl, g, fun p hp => ?_⟩
      have ex : Ext S ρ H S ρ (upd H p (.lst vs)) := Ext.frz hp
      exact .lst ⟨upd_same, R.notLive hp⟩ (RpA.ext ex.stabL ex.newL _ _ (allD_rep e rv))
    · exact g.elim
  · exact g.elim
theorem tupM_new {K : PySem.W.Frag} {ρ : Pl} {H : Hp} {S : Sto} {ws : List W} {vs : List V} {P : W → Sto → Prop} {E : Ex → Sto → Prop} (g : Gives (tupM ws S) P E) (R : Rel K S ρ H) (rv : RWs K ρ H (Live S ρ) ws vs) :
    ∃ ds, vs.length ≤ sizeLine ∧ P (.d (.tuple ds)) S ∧ ∀ p, H p = none → RW K ρ (upd H p (.tup vs)) (Live S ρ) (.d (.tuple ds)) (.ref p) := by
  unfold tupM at g
  split at g
  · rename_i hl
    split at g
    · rename_i ds e
      refine ⟨ds, by rw [← Paired.length rv]; exact hl, g, fun p hp => ?_⟩
      have ex : Ext S ρ H S ρ (upd H p (.tup vs)) := Ext.frz hp
      exact .tup (.inl ⟨.inl upd_same, R.notLive hp⟩) (RpA.ext ex.stabL ex.newL _ _ (allD_rep e rv))
    · exact g.elim
  · exact g.elim
theorem newM_new {K : PySem.W.Frag} {ρ : Pl} {H : Hp} {S : Sto} {ws : List W} {vs : List V} {P : W → Sto → Prop} {E : Ex → Sto → Prop} (g : Gives (newM ws S) P E) (R : Rel K S ρ H) (rv : RWs K ρ H (Live S ρ) ws vs) :
    vs.length ≤ sizeLine ∧ P (.r S.length) (S ++ [.lst ws]) ∧ ∀ p, H p = none → Ext S ρ H (S ++ [.lst ws]) (ρ.add p) (upd H p (.lst vs)) ∧ Rel K (S ++ [.lst ws]) (ρ.add p) (upd H p (.lst vs)) ∧
      RW K (ρ.add p) (upd H p (.lst vs)) (Live (S ++ [.lst ws]) (ρ.add p)) (.r S.length) (.ref p) := by
  unfold newM at g
  split at g
  · rename_i hl
    refine ⟨by rw [← Paired.length rv]; exact hl, g, fun p hp => ⟨Ext.new R hp, Rel.new R hp ⟨vs, rfl, rv⟩, p, ?_, rfl⟩⟩
    show (ρ.adr ++ [p])[S.length]? = some p
    rw [← R.len, List.getElem?_append_right (Nat.le_refl _)]
    simp
  · exact g.elim
theorem dlst (h : PA X es (tA X.K Z fr)) : PE X (.List es pos) (tE X.K Z fun δ => bd (fr δ) lstM) := by
  refine (pe_lst h).imp fun σ H Q q => ?_
  refine (tH.bind (Rα := RWs X.K) (f := fr) (g := fun _ xs => lstM xs) q Stb.env).mono fun xs H1 h1 => ?_
  obtain ⟨⟨δ, ws⟩, S, ρ, r, ⟨_, rv⟩, g⟩ := h1
  obtain ⟨ds, hl, g, hn⟩ := lstM_new g r rv
  exact ⟨hl, fun p hp => g ρ _ _ (Ext.frz hp) (r.frz hp) (hn p hp)⟩
theorem dtup {x1} (h : PA X es (tA X.K Z fr)) : PE X (.Tuple es x1 pos) (tE X.K Z fun δ => bd (fr δ) tupM) := by
  refine (pe_tup h).imp fun σ H Q q => ?_
  refine (tH.bind (Rα := RWs X.K) (f := fr) (g := fun _ xs => tupM xs) q Stb.env).mono fun xs H1 h1 => ?_
  obtain ⟨⟨δ, ws⟩, S, ρ, r, ⟨_, rv⟩, g⟩ := h1
  obtain ⟨ds, hl, g, hn⟩ := tupM_new g r rv
  exact ⟨hl, fun p hp => g ρ _ _ (Ext.frz hp) (r.frz hp) (hn p hp)⟩
theorem dnew (h : PA X es (tA X.K Z fr)) : PE X (.List es pos) (tE X.K Z fun δ => bd (fr δ) newM) := by
  refine (pe_lst h).imp fun σ H Q q => ?_
  refine (tH.bind (Rα := RWs X.K) (f := fr) (g := fun _ xs => newM xs) q Stb.env).mono fun xs H1 h1 => ?_
  obtain ⟨⟨δ, ws⟩, S, ρ, r, ⟨_, rv⟩, g⟩ := h1
  obtain ⟨hl, g, hn⟩ := newM_new g r rv
  refine ⟨hl, fun p hp => ?_⟩
  obtain ⟨e1, e2, e3⟩ := hn p hp
  exact g _ _ _ e1 e2 e3
end
end DL
/-! DL3: tests, and | or | not, choices, calls, subscripts, statements, loops. -/
namespace DL
open PySem PySem.Spec PyProof.Rows L2
section
variable {X : Cx} {Z : XZ} {pos : Pos} {a b c : Expr} {fa fb fc : Env → M W} {ga gb : Env → M Bool} {rest : List Expr}
/-! ### tests -/
abbrev valT (f : Env → M W) : Env → M Bool := fun δ => bd (f δ) boolOf
abbrev andT (f g : Env → M Bool) : Env → M Bool := fun δ => bd (f δ) fun k => if k = true then g δ else pr false
abbrev orT (f g : Env → M Bool) : Env → M Bool := fun δ => bd (f δ) fun k => if k = true then pr true else g δ
abbrev notT (f : Env → M Bool) : Env → M Bool := fun δ => bd (f δ) fun k => pr (!k)
theorem tT.val {σ : L2.St} {H : Hp} {Q : Bool → Hp → Prop} (h : tT X.K Z (valT fa) σ H Q) : tB (tE X.K Z fa) σ H Q := by
  refine (tH.bind (Rα := RW X.K) (f := fa) (g := fun _ x => boolOf x) h Stb.env).mono fun x H1 h1 => ?_
  obtain ⟨⟨δ, w⟩, S, ρ, r, ⟨r0, r1⟩, g⟩ := h1
  obtain ⟨k, e, g⟩ := boolOf_gives g
  change w = _ at e
  subst e
  cases r1
  exact ⟨k, rfl, g ρ H1 k Ext.refl r rfl⟩
theorem dt_val {e : Expr} (h : PE X e (tE X.K Z fa)) (he : ∀ whole, isTrue e X.env whole = (do let v ← whole; standAt e.pos; holding [v] (truthy v)) := by intro _; rfl) : PT X e (tT X.K Z (valT fa)) :=
  (pt_val h he).imp fun _ _ _ q => tT.val q
theorem dt_cmp {op : CmpOp} {fo : W → W → M W} (ho : OpR X (compareOp op) (r2M X.K Z fo)) (ha : PE X a (tE X.K Z fa)) (hb : PE X b (tE X.K Z fb)) (hm : behindInMarks op b = false := by rfl) :
    PT X (.Compare a [op] [b] pos) (tT X.K Z (valT (binM fa fb fo))) :=
  (pt_cmpR ho ha hb hm).imp fun σ H Q q => by
    have h1 := tT.val q
    unfold tB at h1
    unfold tTest
    exact tE.two h1
theorem dw_and1 (h : PT X a (tT X.K Z ga)) : PW X (.BoolOp .And [a] pos) (tT X.K Z ga) := pw_and1 h
theorem dw_or1 (h : PT X a (tT X.K Z ga)) : PW X (.BoolOp .Or [a] pos) (tT X.K Z ga) := pw_or1 h
theorem tT.and {σ : L2.St} {H : Hp} {Q : Bool → Hp → Prop} (h : tT X.K Z (andT ga gb) σ H Q) : tAnd (tT X.K Z ga) (tT X.K Z gb) σ H Q := by
  refine (tH.bind (Rα := rE) (f := ga) (g := fun δ k => if k = true then gb δ else pr false) h Stb.env).mono fun k H1 h1 => ?_
  obtain ⟨⟨δ, w⟩, S, ρ, r, ⟨r0, r1⟩, g⟩ := h1
  cases r1
  cases k with
  | true =>
    rw [if_pos rfl]
    exact ⟨δ, S, ρ, r, r0, g⟩
  | false =>
    rw [if_neg Bool.false_ne_true]
    exact g ρ H1 false Ext.refl r rfl
theorem tT.or {σ : L2.St} {H : Hp} {Q : Bool → Hp → Prop} (h : tT X.K Z (orT ga gb) σ H Q) : tOr (tT X.K Z ga) (tT X.K Z gb) σ H Q := by
  refine (tH.bind (Rα := rE) (f := ga) (g := fun δ k => if k = true then pr true else gb δ) h Stb.env).mono fun k H1 h1 => ?_
  obtain ⟨⟨δ, w⟩, S, ρ, r, ⟨r0, r1⟩, g⟩ := h1
  cases r1
  cases k with
  | true =>
    rw [if_pos rfl]
    exact g ρ H1 true Ext.refl r rfl
  | false =>
    rw [if_neg Bool.false_ne_true]
    exact ⟨δ, S, ρ, r, r0, g⟩
theorem dw_and (ha : PT X a (tT X.K Z ga)) (hb : PW X (.BoolOp .And (b :: rest) pos) (tT X.K Z gb)) : PW X (.BoolOp .And (a :: b :: rest) pos) (tT X.K Z (andT ga gb)) := (pw_and ha hb).imp fun _ _ _ h => tT.and h
theorem dw_or (ha : PT X a (tT X.K Z ga)) (hb : PW X (.BoolOp .Or (b :: rest) pos) (tT X.K Z gb)) : PW X (.BoolOp .Or (a :: b :: rest) pos) (tT X.K Z (orT ga gb)) := (pw_or ha hb).imp fun _ _ _ h => tT.or h
theorem dt_bool (h : PW X a (tT X.K Z ga)) : PT X a (tT X.K Z ga) := h.pt
theorem dt_not (h : PT X a (tT X.K Z ga)) : PT X (.UnaryOp .Not a pos) (tT X.K Z (notT ga)) := by
  refine (pt_not h).imp fun σ H Q q => ?_
  refine (tH.bind (Rα := rE) (f := ga) (g := fun _ k => pr (!k)) q Stb.env).mono fun k H1 h1 => ?_
  exact tH.pure h1 fun _ _ _ p q => by
    have := q.2
    show (!p.2) = !k
    rw [show p.2 = k from this]
/-! ### .. as values -/
abbrev andV (f g : Env → M W) : Env → M W := fun δ => bd (f δ) fun x => bd (boolOf x) fun k => if k = true then g δ else pr (.d (.bool false))
abbrev orV (f g : Env → M W) : Env → M W := fun δ => bd (f δ) fun x => bd (boolOf x) fun k => if k = true then pr (.d (.bool true)) else g δ
abbrev notV (f : Env → M W) : Env → M W := fun δ => bd (f δ) fun x => bd (boolOf x) fun k => pr (.d (.bool !k))
theorem dv_one {op} (h : PE X a (tE X.K Z fa)) : PE X (.BoolOp op [a] pos) (tE X.K Z fa) := pe_one h
theorem dv_and (ha : PE X a (tE X.K Z fa)) (hb : PE X (.BoolOp .And (b :: rest) pos) (tE X.K Z fb)) : PE X (.BoolOp .And (a :: b :: rest) pos) (tE X.K Z (andV fa fb)) := by
  refine (pe_and ha hb).imp fun σ H Q h => ?_
  refine (tH.bind (Rα := RW X.K) (f := fa) (g := fun δ x => bd (boolOf x) fun k => if k = true then fb δ else pr (.d (.bool false))) h Stb.env).mono fun x H1 h1 => ?_
  obtain ⟨⟨δ, w⟩, S, ρ, r, ⟨r0, r1⟩, g⟩ := h1
  obtain ⟨k, e, g⟩ := boolOf_gives (gives_bd g)
  change w = _ at e
  subst e
  cases r1
  refine ⟨k, rfl, ?_⟩
  cases k with
  | true => rw [if_pos rfl]; exact ⟨δ, S, ρ, r, r0, g⟩
  | false => rw [if_neg Bool.false_ne_true]; exact g ρ H1 (.bl false) Ext.refl r (.bl false)
theorem dv_or (ha : PE X a (tE X.K Z fa)) (hb : PE X (.BoolOp .Or (b :: rest) pos) (tE X.K Z fb)) : PE X (.BoolOp .Or (a :: b :: rest) pos) (tE X.K Z (orV fa fb)) := by
  refine (pe_or ha hb).imp fun σ H Q h => ?_
  refine (tH.bind (Rα := RW X.K) (f := fa) (g := fun δ x => bd (boolOf x) fun k => if k = true then pr (.d (.bool true)) else fb δ) h Stb.env).mono fun x H1 h1 => ?_
  obtain ⟨⟨δ, w⟩, S, ρ, r, ⟨r0, r1⟩, g⟩ := h1
  obtain ⟨k, e, g⟩ := boolOf_gives (gives_bd g)
  change w = _ at e
  subst e
  cases r1
  refine ⟨k, rfl, ?_⟩
  cases k with
  | true => rw [if_pos rfl]; exact g ρ H1 (.bl true) Ext.refl r (.bl true)
  | false => rw [if_neg Bool.false_ne_true]; exact ⟨δ, S, ρ, r, r0, g⟩
theorem dv_not (ha : PE X a (tE X.K Z fa)) : PE X (.UnaryOp .Not a pos) (tE X.K Z (notV fa)) := by
  refine (pe_not ha).imp fun σ H Q h => ?_
  refine (tH.bind (Rα := RW X.K) (f := fa) (g := fun δ x => bd (boolOf x) fun k => pr (W.d (.bool !k))) h Stb.env).mono fun x H1 h1 => ?_
  obtain ⟨⟨δ, w⟩, S, ρ, r, ⟨r0, r1⟩, g⟩ := h1
  obtain ⟨k, e, g⟩ := boolOf_gives (gives_bd g)
  change w = _ at e
  subst e
  cases r1
  exact ⟨k, rfl, g ρ H1 (.bl !k) Ext.refl r (.bl _)⟩
abbrev ifV (t : Env → M Bool) (f g : Env → M W) : Env → M W := fun δ => bd (t δ) fun k => if k = true then f δ else g δ
theorem dif (hc : PT X c (tT X.K Z ga)) (ha : PE X a (tE X.K Z fa)) (hb : PE X b (tE X.K Z fb)) : PE X (.IfExp c a b pos) (tE X.K Z (ifV ga fa fb)) := by
  refine (pe_ifExp hc ha hb).imp fun σ H Q h => ?_
  refine (tH.bind (Rα := rE) (f := ga) (g := fun δ k => if k = true then fa δ else fb δ) h Stb.env).mono fun k H1 h1 => ?_
  obtain ⟨⟨δ, w⟩, S, ρ, r, ⟨r0, r1⟩, g⟩ := h1
  cases r1
  cases k with
  | true => rw [if_pos rfl]; exact ⟨δ, S, ρ, r, r0, g⟩
  | false => rw [if_neg Bool.false_ne_true]; exact ⟨δ, S, ρ, r, r0, g⟩
/-! ### calls of built-ins -/
variable {es : List Expr} {fr : Env → M (List W)} {x : Str} {p : Pos} {id T : String}
abbrev calM (fr : Env → M (List W)) (fo : List W → M W) : Env → M W := fun δ => bd (fr δ) fo
theorem tE.call {σ : L2.St} {H : Hp} {Q : VK} {fo : List W → M W} (h : tE X.K Z (calM fr fo) σ H Q) : tCB (rcM X.K Z fo) (tA X.K Z fr) σ H Q := by
  refine (tH.bind (Rα := RWs X.K) (f := fr) (g := fun _ xs => fo xs) h Stb.env).mono fun xs H1 h1 => ?_
  exact tH.map (RA' := RWs X.K) (m := fo) (f := Prod.snd) (g := Prod.snd) h1 fun _ _ _ _ _ q => q.2
theorem dcallB {fo : List W → M W} (hc : CallR X (.builtin id) (rcM X.K Z fo)) (hg : Gl X x) (hm : X.mg x = none) (hv : bootBuiltins x = some (.builtin id)) (ha : PA X (a :: es) (tA X.K Z fr)) (hn : x ≠ "__name__" := by decide) (hdb : (x == ("__debug__" : Str)) = false := by decide)
    (he : starEach (a :: es) X.env = (false, eval a X.env) :: starEach es X.env := by rfl) (hpl : (backTo pos (starEach es X.env)).any (·.1) = false := by rfl) : PE X (.Call (.Name x p) (a :: es) [] pos) (tE X.K Z (calM fr fo)) :=
  (pe_callB hc hg hm hv ha hn hdb he hpl).imp fun _ _ _ h => tE.call h
theorem dcallTy {fo : List W → M W} (hc : CallR X (.type T) (rcM X.K Z fo)) (hg : Gl X x) (hm : X.mg x = none) (hv : bootBuiltins x = some (.type T)) (ha : PA X (a :: es) (tA X.K Z fr)) (hn : x ≠ "__name__" := by decide) (hdb : (x == ("__debug__" : Str)) = false := by decide)
    (he : starEach (a :: es) X.env = (false, eval a X.env) :: starEach es X.env := by rfl) (hpl : (backTo pos (starEach es X.env)).any (·.1) = false := by rfl) : PE X (.Call (.Name x p) (a :: es) [] pos) (tE X.K Z (calM fr fo)) :=
  (pe_callTy hc hg hm hv ha hn hdb he hpl).imp fun _ _ _ h => tE.call h
/-! ### subscripts, slices, methods of built-ins -/
theorem dix {fo : W → W → M W} (hr : IxR X (r2M X.K Z fo)) (ha : PE X a (tE X.K Z fa)) (hb : PE X b (tE X.K Z fb)) (hs : PlainIx b := by exact fun _ _ => rfl) : PE X (.Subscript a b pos) (tE X.K Z (binM fa fb fo)) :=
  (pe_ix hr ha hb hs).imp fun _ _ _ h => tE.two h
def intOf (w : W) : M Int := match w with
  | .d (.int i) => pr i
  | _ => no
theorem intOf_gives {w : W} {S : Sto} {P : Int → Sto → Prop} {E : Ex → Sto → Prop} (h : Gives (intOf w S) P E) : ∃ i, w = .d (.int i) ∧ P i S := by
  unfold intOf at h
  split at h
  · exact ⟨_, rfl, h⟩
  · exact h.elim
abbrev tO (K : PySem.W.Frag) (Z : XZ) (f : Env → M (Option Int)) : TO := fun σ H Q => tH K Z (REnv K) rE f σ H Q
theorem _root_.L2.PO.imp {e : Option Expr} {t t' : TO} (h : PO X e t) (hi : ∀ σ H Q, t' σ H Q → t σ H Q) : PO X e t' := ⟨fun pins s σ H Q I q => h.run pins s σ H Q I (hi _ _ _ q)⟩
theorem dpo_none : PO X none (tO X.K Z fun _ => pr none) := po_none.imp fun σ H Q h => tH.pure h fun _ _ _ _ _ => rfl
theorem dpo_some (h : PE X a (tE X.K Z fa)) : PO X (some a) (tO X.K Z fun δ => bd (fa δ) fun w => bd (intOf w) fun i => pr (some i)) := by
  refine (po_some h).imp fun σ H Q q => ?_
  refine (tH.bind (Rα := RW X.K) (f := fa) (g := fun _ w => bd (intOf w) fun i => pr (some i)) q Stb.env).mono fun v H1 h1 => ?_
  obtain ⟨⟨δ, w⟩, S, ρ, r, ⟨r0, r1⟩, g⟩ := h1
  obtain ⟨i, e, g⟩ := intOf_gives (gives_bd g)
  change w = _ at e
  subst e
  cases r1
  exact ⟨i, rfl, g ρ H1 (some i) Ext.refl r rfl⟩
def rsM (K : PySem.W.Frag) (Z : XZ) (fo : W → Option Int → Option Int → M W) : V → Option Int → Option Int → Hp → VK → Prop := fun x lo hi H Q => tH K Z (RW K) (RW K) (fun w => fo w lo hi) x H Q
theorem dslice {fo : W → Option Int → Option Int → M W} {lo hi : Option Expr} {gl gh : Env → M (Option Int)} {p2 : Pos} (hr : SlR X (rsM X.K Z fo)) (he : PE X a (tE X.K Z fa)) (hl : PO X lo (tO X.K Z gl)) (hu : PO X hi (tO X.K Z gh)) :
    PE X (.Subscript a (.Slice lo hi none p2) pos) (tE X.K Z fun δ => bd (fa δ) fun x => bd (gl δ) fun l => bd (gh δ) fun u => fo x l u) := by
  refine (pe_slice hr he hl hu).imp fun σ H Q h => ?_
  refine (tH.bind (Rα := RW X.K) (f := fa) (g := fun δ x => bd (gl δ) fun l => bd (gh δ) fun u => fo x l u) h Stb.env).mono fun v H1 h1 => ?_
  have h2 := tH.bind (Rα := rE) (f := fun p : Env × W => gl p.1) (g := fun p l => bd (gh p.1) fun u => fo p.2 l u) h1 (Stb.env.p Stb.w)
  refine (tH.map (RA' := REnv X.K) (m := gl) (f := Prod.fst) (g := Prod.fst) h2 fun _ _ _ _ _ q => q.1).mono fun l H2 h3 => ?_
  have h4 := tH.bind (Rα := rE) (f := fun p : (Env × W) × Option Int => gh p.1.1) (g := fun p u => fo p.1.2 p.2 u) h3 ((Stb.env.p Stb.w).p Stb.e)
  refine (tH.map (RA' := REnv X.K) (m := gh) (f := fun p : (Env × W) × Option Int => p.1.1) (g := fun p : (L2.St × V) × Option Int => p.1.1) h4 fun _ _ _ _ _ q => q.1.1).mono fun u H3 h5 => ?_
  obtain ⟨⟨⟨⟨δ, w⟩, l'⟩, u'⟩, S, ρ, r, ⟨⟨⟨r0, r1⟩, r2⟩, r3⟩, g⟩ := h5
  cases r2
  cases r3
  exact ⟨w, S, ρ, r, r1, g⟩
/-- a method of a built-in type by values, its receiver first -/
def rmM (K : PySem.W.Frag) (Z : XZ) (fo : W → List W → M W) : V → List V → Hp → VK → Prop := fun x xs H Q => tH K Z (rP (RW K) (RWs K)) (RW K) (fun p => fo p.1 p.2) (x, xs) H Q
abbrev metM (fa : Env → M W) (fr : Env → M (List W)) (chk : W → M Unit) (fo : W → List W → M W) : Env → M W := fun δ => bd (fa δ) fun x => bd (chk x) fun _ => bd (fr δ) fun xs => fo x xs
/-- the receiver is of the type, at its place -/
def ChkOk (K : PySem.W.Frag) (T : String) (chk : W → M Unit) : Prop := ∀ (w : W) (S : Sto) (ρ : Pl) (H : Hp) (v : V) (P : Unit → Sto → Prop) (E : Ex → Sto → Prop), Rel K S ρ H → RW K ρ H (Live S ρ) w v → Gives (chk w S) P E → tyV K T v H ∧ P () S
variable {o : Expr} {fo' : Env → M W} {name : Str} {apos cpos : Pos}
theorem dmet {chk : W → M Unit} {fo : W → List W → M W} (pa : PlainAttrs T) (slot : Slot T name id) (hty : typeOf (.builtin id) = pure (.type "method_descriptor")) (hck : ChkOk X.K T chk) (hm : MtR X id (rmM X.K Z fo)) (ho : PE X o (tE X.K Z fa)) (ha : PA X (a :: es) (tA X.K Z fr))
    (hbase : attributeBase o name X.env (eval o X.env) = eval o X.env := by rfl)
    (hfew : ((backTo cpos (starEach (a :: es) X.env)).all (fun x => !x.1) && (backToKw cpos (keywordEach [] X.env)).all (fun x => x.1.isSome)
      && decide ((a :: es).length + ([] : List Keyword).length + (if ([] : List Keyword).isEmpty then 0 else 1) < 30)) = true := by rfl)
    (hline : (apos.endLine == cpos.line) = true := by rfl) (hs : starEach (a :: es) X.env = (false, eval a X.env) :: starEach es X.env := by rfl) (hplain : (backTo cpos (starEach es X.env)).any (·.1) = false := by rfl) :
    PE X (.Call (.Attribute o name apos) (a :: es) [] cpos) (tE X.K Z (metM fa fr chk fo)) := by
  refine (pe_bm pa slot hty hm ho ha hbase hfew hline hs hplain).imp fun σ H Q h => ?_
  refine (tH.bind (Rα := RW X.K) (f := fa) (g := fun δ x => bd (chk x) fun _ => bd (fr δ) fun xs => fo x xs) h Stb.env).mono fun x H1 h1 => ?_
  obtain ⟨⟨δ, w⟩, S, ρ, r, ⟨r0, r1⟩, g⟩ := h1
  obtain ⟨hy, g⟩ := hck w S ρ H1 x _ _ r r1 (gives_bd g)
  refine ⟨hy, ?_⟩
  have h2 : tH X.K Z (rP (REnv X.K) (RW X.K)) (RW X.K) (fun p : Env × W => bd (fr p.1) fun xs => fo p.2 xs) (σ, x) H1 Q := ⟨(δ, w), S, ρ, r, ⟨r0, r1⟩, g⟩
  have h3 := tH.bind (Rα := RWs X.K) (f := fun p : Env × W => fr p.1) (g := fun p xs => fo p.2 xs) h2 (Stb.env.p Stb.w)
  refine (tH.map (RA' := REnv X.K) (m := fr) (f := Prod.fst) (g := Prod.fst) h3 fun _ _ _ _ _ q => q.1).mono fun xs H2 h4 => ?_
  exact tH.map (RA' := rP (RW X.K) (RWs X.K)) (m := fun p : W × List W => fo p.1 p.2) (f := fun q : (Env × W) × List W => (q.1.2, q.2)) (g := fun q : (L2.St × V) × List V => (q.1.2, q.2)) h4 fun _ _ _ _ _ q => ⟨q.1.2, q.2⟩
theorem dmet0 {chk : W → M Unit} {fo : W → List W → M W} (pa : PlainAttrs T) (slot : Slot T name id) (hty : typeOf (.builtin id) = pure (.type "method_descriptor")) (hck : ChkOk X.K T chk) (hm : MtR X id (rmM X.K Z fo)) (ho : PE X o (tE X.K Z fa))
    (hbase : attributeBase o name X.env (eval o X.env) = eval o X.env := by rfl) (hline : (apos.endLine == cpos.line) = true := by rfl) :
    PE X (.Call (.Attribute o name apos) [] [] cpos) (tE X.K Z (metM fa nilM chk fo)) := by
  refine (pe_bm0 pa slot hty hm ho hbase hline).imp fun σ H Q h => ?_
  refine (tH.bind (Rα := RW X.K) (f := fa) (g := fun δ x => bd (chk x) fun _ => bd (nilM δ) fun xs => fo x xs) h Stb.env).mono fun x H1 h1 => ?_
  obtain ⟨⟨δ, w⟩, S, ρ, r, ⟨r0, r1⟩, g⟩ := h1
  obtain ⟨hy, g⟩ := hck w S ρ H1 x _ _ r r1 (gives_bd g)
  exact ⟨hy, (w, []), S, ρ, r, ⟨r1, .nil⟩, g⟩
end

/-! ### statements -/
inductive Fl where
  | nx (δ : Env)
  | rt (w : W)
  | bk (δ : Env)
  | ct (δ : Env)
def EndsOk (K : PySem.W.Frag) (S : Sto) (ρ : Pl) (H : Hp) (D : Ends) : Fl → Prop
  | .nx δ => ∀ σ, REnv K ρ H (Live S ρ) δ σ → D.nx σ H
  | .rt w => ∀ v, RW K ρ H (Live S ρ) w v → D.rt v H
  | .bk δ => ∀ σ, REnv K ρ H (Live S ρ) δ σ → D.bk σ H
  | .ct δ => ∀ σ, REnv K ρ H (Live S ρ) δ σ → D.ct σ H
/-- from a state like δ, S the run of m ends in D -/
def SGives (K : PySem.W.Frag) (Z : XZ) (D : Ends) (S : Sto) (ρ : Pl) (H : Hp) (x : Res Fl) : Prop :=
  Gives x (fun fl S' => ∀ (ρ' : Pl) (H' : Hp), Ext S ρ H S' ρ' H' → Rel K S' ρ' H' → EndsOk K S' ρ' H' D fl) (fun x S' => ∀ (ρ' : Pl) (H' : Hp), Ext S ρ H S' ρ' H' → Rel K S' ρ' H' → Z x S' ρ' H')
def tS (K : PySem.W.Frag) (Z : XZ) (f : Env → M Fl) : TS := fun D σ H => ∃ (δ : Env) (S : Sto) (ρ : Pl), Rel K S ρ H ∧ REnv K ρ H (Live S ρ) δ σ ∧ SGives K Z D S ρ H (f δ S)
/-- an earlier state: what is wanted is wanted from a later one too -/
theorem SGives.ext {K : PySem.W.Frag} {Z : XZ} {D : Ends} {S S1 : Sto} {ρ ρ1 : Pl} {H H1 : Hp} {x : Res Fl} (e : Ext S ρ H S1 ρ1 H1) (h : SGives K Z D S ρ H x) : SGives K Z D S1 ρ1 H1 x :=
  gives_imp h (fun _ _ q ρ' H' e' r => q ρ' H' (e.trans e') r) fun _ _ q ρ' H' e' r => q ρ' H' (e.trans e') r
/-- from the reading of an expression (or a test, ..) to what follows it in a statement -/
theorem tS.bind {K : PySem.W.Frag} {Z : XZ} {α β : Type} {Rα : RR α β} {D : Ends} {σ : L2.St} {H : Hp} {f : Env → M α} {g : Env → α → M Fl} (h : tS K Z (fun δ => bd (f δ) (g δ)) D σ H) :
    tH K Z (REnv K) Rα f σ H fun v H1 => ∃ (δ : Env) (a : α) (S : Sto) (ρ : Pl), Rel K S ρ H1 ∧ REnv K ρ H1 (Live S ρ) δ σ ∧ Rα ρ H1 (Live S ρ) a v ∧ SGives K Z D S ρ H1 (g δ a S) := by
  obtain ⟨δ, S, ρ, r, re, g⟩ := h
  refine ⟨δ, S, ρ, r, re, gives_imp (gives_bd g) (fun a S1 q ρ1 H1 v e1 r1 x1 => ?_) fun _ _ q => q⟩
  exact ⟨δ, a, S1, ρ1, r1, Stb.env _ _ _ _ _ _ _ _ re e1, x1, SGives.ext e1 q⟩
section
variable {X : Cx} {Z : XZ} {pos : Pos} {a b c : Expr} {fa fb fc : Env → M W} {ga gb : Env → M Bool} {s1 s2 : Env → M Fl} {st : Stmt} {rest sa sb : List Stmt}
abbrev seqM (f g : Env → M Fl) : Env → M Fl := fun δ => bd (f δ) fun fl => match fl with
  | .nx δ' => g δ'
  | fl => pr fl
abbrev skipM : Env → M Fl := fun δ => pr (.nx δ)
theorem ds_nil : PSs X [] (tS X.K Z skipM) := pss_nil.imp fun D σ H h => by
  obtain ⟨δ, S, ρ, r, re, g⟩ := h
  exact g ρ H Ext.refl r σ re
theorem ds_cons (h1 : PS X st (tS X.K Z s1)) (h2 : PSs X rest (tS X.K Z s2)) : PSs X (st :: rest) (tS X.K Z (seqM s1 s2)) := by
  refine (pss_cons h1 h2).imp fun D σ H h => ?_
  obtain ⟨δ, S, ρ, r, re, g⟩ := h
  refine ⟨δ, S, ρ, r, re, gives_imp (gives_bd g) (fun fl S1 q ρ1 H1 e1 r1 => ?_) fun _ _ q => q⟩
  cases fl with
  | nx δ1 => exact fun σ1 re1 => ⟨δ1, S1, ρ1, r1, re1, SGives.ext e1 q⟩
  | rt w => exact q ρ1 H1 e1 r1
  | bk δ1 => exact q ρ1 H1 e1 r1
  | ct δ1 => exact q ρ1 H1 e1 r1
theorem ds_one (h1 : PS X st (tS X.K Z s1)) : PSs X [st] (tS X.K Z s1) := pss_one h1
theorem ds_pass : PS X (.Pass pos) (tS X.K Z skipM) := ps_pass.imp fun D σ H h => by
  obtain ⟨δ, S, ρ, r, re, g⟩ := h
  exact g ρ H Ext.refl r σ re
theorem ds_break : PS X (.Break pos) (tS X.K Z fun δ => pr (.bk δ)) := ps_break.imp fun D σ H h => by
  obtain ⟨δ, S, ρ, r, re, g⟩ := h
  exact g ρ H Ext.refl r σ re
theorem ds_continue : PS X (.Continue pos) (tS X.K Z fun δ => pr (.ct δ)) := ps_continue.imp fun D σ H h => by
  obtain ⟨δ, S, ρ, r, re, g⟩ := h
  exact g ρ H Ext.refl r σ re
theorem ds_doc {x j pos'} : PS X (.Expr (.Constant (.str x) j pos) pos') (tS X.K Z skipM) := ps_doc.imp fun D σ H h => by
  obtain ⟨δ, S, ρ, r, re, g⟩ := h
  exact g ρ H Ext.refl r σ re
theorem ds_never {f : Env → M Fl} (hf : ∀ δ S, f δ S = .no) : PS X st (tS X.K Z f) := ps_never.imp fun D σ H h => by
  obtain ⟨δ, S, ρ, r, re, g⟩ := h
  rw [hf] at g
  exact g
abbrev exprM (f : Env → M W) : Env → M Fl := fun δ => bd (f δ) fun _ => pr (.nx δ)
theorem ds_expr (he : PE X a (tE X.K Z fa)) (hs : swapsWith a none pos.line X.env = pure false := by rfl) : PS X (.Expr a pos) (tS X.K Z (exprM fa)) :=
  (ps_expr he hs).imp fun D σ H h => (tS.bind (Rα := RW X.K) (f := fa) (g := fun δ _ => pr (.nx δ)) h).mono fun v H1 ⟨δ, w, S, ρ, r, re, rw, g⟩ => g ρ H1 Ext.refl r σ re
abbrev retM (f : Env → M W) : Env → M Fl := fun δ => bd (f δ) fun w => pr (.rt w)
theorem ds_ret (he : PE X a (tE X.K Z fa)) : PS X (.Return (some a) pos) (tS X.K Z (retM fa)) :=
  (ps_ret he).imp fun D σ H h => (tS.bind (Rα := RW X.K) (f := fa) (g := fun δ w => pr (.rt w)) h).mono fun v H1 ⟨δ, w, S, ρ, r, re, rw, g⟩ => g ρ H1 Ext.refl r v rw
theorem ds_retN : PS X (.Return none pos) (tS X.K Z fun _ => pr (.rt (.d .none))) := ps_retN.imp fun D σ H h => by
  obtain ⟨δ, S, ρ, r, re, g⟩ := h
  exact g ρ H Ext.refl r .non .non
abbrev ifM (t : Env → M Bool) (f g : Env → M Fl) : Env → M Fl := fun δ => bd (t δ) fun k => if k = true then f δ else g δ
theorem ds_if (hc : PT X c (tT X.K Z ga)) (ha : PSs X sa (tS X.K Z s1)) (hb : PSs X sb (tS X.K Z s2)) : PS X (.If c sa sb pos) (tS X.K Z (ifM ga s1 s2)) :=
  (ps_if hc ha hb).imp fun D σ H h => (tS.bind (Rα := rE) (f := ga) (g := fun δ k => if k = true then s1 δ else s2 δ) h).mono fun v H1 ⟨δ, w, S, ρ, r, re, rw, g⟩ => by
    cases rw
    cases v with
    | true => rw [if_pos rfl]; exact ⟨δ, S, ρ, r, re, g⟩
    | false => rw [if_neg Bool.false_ne_true]; exact ⟨δ, S, ρ, r, re, g⟩
/-! ### targets -/
/-- a target by values: what the names become -/
def tG (K : PySem.W.Frag) (Z : XZ) (g : W → Env → M Env) : TG := fun v σ H Q => tH K Z (rP (RW K) (REnv K)) (REnv K) (fun p => g p.1 p.2) (v, σ) H fun σ' H' => Q σ' H'
def tGs (K : PySem.W.Frag) (Z : XZ) (g : List W → Env → M Env) : TGs := fun vs σ H Q => tH K Z (rP (RWs K) (REnv K)) (REnv K) (fun p => g p.1 p.2) (vs, σ) H fun σ' H' => Q σ' H'
theorem _root_.L2.PG.imp {e : Expr} {t t' : TG} (h : PG X e t) (hi : ∀ v σ H Q, t' v σ H Q → t v σ H Q) : PG X e t' := ⟨fun pins s σ H v u Q I r q => h.run pins s σ H v u Q I r (hi _ _ _ _ q)⟩
theorem _root_.L2.PGs.imp {e : List Expr} {t t' : TGs} (h : PGs X e t) (hi : ∀ v σ H Q, t' v σ H Q → t v σ H Q) : PGs X e t' := ⟨fun pins s σ H v u Q I r q => h.run pins s σ H v u Q I r (hi _ _ _ _ q)⟩
abbrev setG (i : Nat) : W → Env → M Env := fun w δ => pr (δ.set i (some w))
theorem REnv.set {K : PySem.W.Frag} {ρ : Pl} {H : Hp} {L : Addr → Prop} {δ : Env} {σ : L2.St} {i : Nat} {w : W} {v : V} (re : REnv K ρ H L δ σ) (rw : RW K ρ H L w v) : REnv K ρ H L (δ.set i (some w)) (σ.set i (some v)) := by
  refine ⟨by simp [re.1], fun j w' h => ?_⟩
  by_cases e : i = j
  · subst e
    by_cases hl : i < δ.length
    · rw [List.getElem?_set_self hl] at h
      cases h
      exact ⟨v, by rw [List.getElem?_set_self (by rw [← re.1]; exact hl)], rw⟩
    · rw [List.getElem?_eq_none (by simpa using hl)] at h; cases h
  · rw [List.getElem?_set_ne e] at h
    obtain ⟨v', h1, h2⟩ := re.2 j w' h
    exact ⟨v', by rw [List.getElem?_set_ne e]; exact h1, h2⟩
theorem dg_name {i : Nat} {x : Str} (hN : X.N.Nodup) (hi : X.N[i]? = some x) (hx : Loc X.env.scope x) (hf : X.fn x = true ∨ X.env.scope.names.lookup x = some .local := by first | exact .inl rfl | exact .inr rfl | assumption) : PG X (.Name x pos) (tG X.K Z (setG i)) :=
  (pg_name hN hi hx hf).imp fun v σ H Q h => tH.pure h fun _ _ _ _ q => REnv.set q.2 q.1
abbrev nilG : List W → Env → M Env := fun ws δ => match ws with
  | [] => pr δ
  | _ => no
abbrev consG (g : W → Env → M Env) (gs : List W → Env → M Env) : List W → Env → M Env := fun ws δ => match ws with
  | w :: r => bd (g w δ) fun δ' => gs r δ'
  | [] => no
theorem dgs_nil : PGs X [] (tGs X.K Z nilG) := pgs_nil.imp fun vs σ H Q h => by
  obtain ⟨⟨ws, δ⟩, S, ρ, r, ⟨rw, re⟩, g⟩ := h
  cases rw with
  | nil => exact ⟨rfl, g ρ H σ Ext.refl r re⟩
  | cons _ _ => exact g.elim
theorem dgs_cons {es : List Expr} {g : W → Env → M Env} {gs : List W → Env → M Env} (h1 : PG X a (tG X.K Z g)) (h2 : PGs X es (tGs X.K Z gs))
    (hs : (assignEach (a :: es) X.env).map (·.2) = assign a X.env :: (assignEach es X.env).map (·.2) := by rfl) : PGs X (a :: es) (tGs X.K Z (consG g gs)) := (pgs_cons h1 h2 hs).imp fun vs σ H Q h => by
  obtain ⟨⟨ws, δ⟩, S, ρ, r, ⟨rw, re⟩, gv⟩ := h
  cases rw with
  | nil => exact gv.elim
  | @cons w v ws vs rw rws =>
    refine ⟨v, vs, rfl, (w, δ), S, ρ, r, ⟨rw, re⟩, gives_imp (gives_bd gv) (fun δ1 S1 q ρ1 H1 σ1 e1 r1 re1 => ?_) fun _ _ q => q⟩
    refine ⟨(ws, δ1), S1, ρ1, r1, ⟨Stb.ws _ _ _ _ _ _ _ _ rws e1, re1⟩, gives_imp q (fun δ2 S2 q2 ρ2 H2 σ2 e2 r2 re2 => ?_) fun x S2 q2 ρ2 H2 e2 r2 => ?_⟩
    · exact q2 ρ2 H2 σ2 (e1.trans e2) r2 re2
    · exact q2 ρ2 H2 (e1.trans e2) r2
abbrev asgM (f : Env → M W) (g : W → Env → M Env) : Env → M Fl := fun δ => bd (f δ) fun w => bd (g w δ) fun δ' => pr (.nx δ')
theorem tS.asg {D : Ends} {σ : L2.St} {H : Hp} {g : W → Env → M Env} (h : tS X.K Z (asgM fa g) D σ H) : tAsg (tE X.K Z fa) (tG X.K Z g) D σ H := by
  refine (tS.bind (Rα := RW X.K) (f := fa) (g := fun δ w => bd (g w δ) fun δ' => pr (.nx δ')) h).mono fun v H1 ⟨δ, w, S, ρ, r, re, rw, gv⟩ => ?_
  exact ⟨(w, δ), S, ρ, r, ⟨rw, re⟩, gives_imp (gives_bd gv) (fun δ1 S1 q ρ1 H1 σ1 e1 r1 re1 => q ρ1 H1 e1 r1 σ1 re1) fun _ _ q => q⟩
theorem ds_asg {tg : Expr} {g : W → Env → M Env} (he : PE X a (tE X.K Z fa)) (hg : PG X tg (tG X.K Z g)) (hs : swapsWithSole [tg] a pos.line X.env = pure false := by rfl) (hw : swappedStores [tg] a X.env = pure none := by rfl)
    (h1 : (assignEach [tg] X.env).map (·.2) = [assign tg X.env] := by rfl) : PS X (.Assign [tg] a pos) (tS X.K Z (asgM fa g)) := (ps_asg he hg hs hw h1).imp fun D σ H h => tS.asg h
theorem ds_set {i : Nat} {x : Str} {pos' : Pos} (hN : X.N.Nodup) (hi : X.N[i]? = some x) (hx : Loc X.env.scope x) (he : PE X a (tE X.K Z fa)) (hs : swapsWith a (some (.Name x pos')) pos.line X.env = pure false := by rfl) (hf : X.fn x = true ∨ X.env.scope.names.lookup x = some .local := by first | exact .inl rfl | exact .inr rfl | assumption) :
    PS X (.Assign [.Name x pos'] a pos) (tS X.K Z (asgM fa (setG i))) := (ps_set hN hi hx he hs hf).imp fun D σ H h =>
  (tS.asg h).mono fun v H1 q => tH.pure q fun _ _ _ _ q => REnv.set q.2 q.1
/-- x op= e -/
abbrev augM (i : Nat) (f : Env → M W) (fo : W → W → M W) : Env → M Fl := fun δ => bd (varM i δ) fun x => bd (f δ) fun y => bd (fo x y) fun z => pr (.nx (δ.set i (some z)))
theorem ds_aug {i : Nat} {x : Str} {op : Operator} {fo : W → W → M W} {pos' : Pos} (hN : X.N.Nodup) (hi : X.N[i]? = some x) (hx : Loc X.env.scope x) (he : PE X a (tE X.K Z fa)) (ho : OpR X (inplaceOp op) (r2M X.K Z fo)) (hf : X.fn x = true ∨ X.env.scope.names.lookup x = some .local := by first | exact .inl rfl | exact .inr rfl | assumption) :
    PS X (.AugAssign (.Name x pos') op a pos) (tS X.K Z (augM i fa fo)) := by
  have hp : PIp X op (r2M X.K Z fo) := fun pins s σ H x y v u Q I rx ry q => ho pins s σ H x y v u Q I rx ry q
  refine (ps_aug hN hi hx he hp hf).imp fun D σ H h => ?_
  obtain ⟨δ, S, ρ, r, re, g⟩ := h
  have g := gives_bd g
  unfold varM at g
  split at g
  · rename_i w e
    obtain ⟨v, h1, h2⟩ := re.2 i w e
    refine ⟨v, h1, δ, S, ρ, r, re, gives_imp (gives_bd g) (fun y S1 q ρ1 H1 vy e1 r1 ry => ?_) fun _ _ q => q⟩
    refine ⟨(w, y), S1, ρ1, r1, ⟨h2.ext e1, ry⟩, gives_imp (gives_bd q) (fun z S2 q2 ρ2 H2 vz e2 r2 rz => ?_) fun _ _ q ρ2 H2 e2 r2 => q ρ2 H2 (e1.trans e2) r2⟩
    exact q2 ρ2 H2 (e1.trans e2) r2 _ (REnv.set (Stb.env _ _ _ _ _ _ _ _ re (e1.trans e2)) rz)
  · exact g.elim
end
end DL
/-! DL4: what is walked; for, while, comprehensions; defs and their calls. -/
namespace DL
open PySem PySem.Spec PyProof.Rows L2

/-- J goes along ws, from the state S ρ H on -/
def Walks (K : PySem.W.Frag) (J : It) (ws : List W) (S : Sto) (ρ : Pl) (H : Hp) : Prop :=
  ∀ (i : Nat) (S' : Sto) (ρ' : Pl) (H' : Hp), Ext0 S ρ H S' ρ' H' → Rel K S' ρ' H' →
    (∀ w, ws[i]? = some w → J.go i H' ∧ ∀ (x : V) (H2 : Hp), J.yld i H' x H2 → Ext S' ρ' H' S' ρ' H2 ∧ Rel K S' ρ' H2 ∧ RW K ρ' H2 (Live S' ρ') w x) ∧ (ws.length ≤ i → J.stop i H')
def tI (K : PySem.W.Frag) (Z : XZ) (f : Env → M (List W)) : TI := fun σ H R => ∃ (δ : Env) (S : Sto) (ρ : Pl), Rel K S ρ H ∧ REnv K ρ H (Live S ρ) δ σ ∧
  Gives (f δ S) (fun ws S' => ∀ (ρ' : Pl) (H' : Hp) (J : It), Ext S ρ H S' ρ' H' → Rel K S' ρ' H' → Walks K J ws S' ρ' H' → R J H') (fun x S' => ∀ (ρ' : Pl) (H' : Hp), Ext S ρ H S' ρ' H' → Rel K S' ρ' H' → Z x S' ρ' H')
theorem _root_.L2.PI.imp {X : Cx} {tg e : Expr} {t t' : TI} (h : PI X tg e t) (hi : ∀ σ H R, t' σ H R → t σ H R) : PI X tg e t' := ⟨fun pins s σ H R I q => h.run pins s σ H R I (hi _ _ _ q)⟩

/-! ### for -/
def forL (g : W → Env → M Env) (b : Env → M Fl) : List W → Env → M Fl
  | [], δ => pr (.nx δ)
  | w :: ws, δ => bd (g w δ) fun δ1 => bd (b δ1) fun fl => match fl with
    | .nx δ2 => forL g b ws δ2
    | .ct δ2 => forL g b ws δ2
    | .bk δ2 => pr (.nx δ2)
    | .rt w => pr (.rt w)
abbrev forM (fi : Env → M (List W)) (g : W → Env → M Env) (b : Env → M Fl) : Env → M Fl := fun δ => bd (fi δ) fun ws => forL g b ws δ
section
variable {X : Cx} {Z : XZ} {pos : Pos}
theorem ds_for {tg iter : Expr} {body : List Stmt} {fi : Env → M (List W)} {g : W → Env → M Env} {b : Env → M Fl} (hp : PassesOwn (model X.prog X.w) X.A X.env X.xe) (hc : X.calm = true) (hi : PI X tg iter (tI X.K Z fi)) (hg : PG X tg (tG X.K Z g)) (hb : PSs X body (tS X.K Z b))
    (hs : ∀ x, foldedSetIterable iter X.env x = pure x := by intro _; rfl) : PS X (.For tg iter body [] pos) (tS X.K Z (forM fi g b)) := by
  refine (ps_for hp hc hi hg hb hs).imp fun D σ H h => ?_
  obtain ⟨δ, S, ρ, r, re, gv⟩ := h
  refine ⟨δ, S, ρ, r, re, gives_imp (gives_bd gv) (fun ws S1 q ρ1 H1 J e1 r1 wk => ?_) fun _ _ q => q⟩
  have q : SGives X.K Z D S1 ρ1 H1 (forL g b ws δ S1) := SGives.ext e1 q
  refine ⟨fun i m σ' H' => ∃ (δ' : Env) (S' : Sto) (ρ' : Pl), Ext S1 ρ1 H1 S' ρ' H' ∧ Rel X.K S' ρ' H' ∧ REnv X.K ρ' H' (Live S' ρ') δ' σ' ∧ SGives X.K Z D S' ρ' H' (forL g b (ws.drop i) δ' S') ∧ m = ws.length - i,
    ⟨_, δ, S1, ρ1, Ext.refl, r1, Stb.env _ _ _ _ _ _ _ _ re e1, q, rfl⟩, ?_⟩
  rintro i m σ' H' ⟨δ', S', ρ', e', r', re', q', rfl⟩
  by_cases hl : i < ws.length
  · right
    have hw : ws[i]? = some ws[i] := List.getElem?_eq_getElem hl
    obtain ⟨hgo, hy⟩ := (wk i S' ρ' H' e'.to0 r').1 _ hw
    refine ⟨hgo, fun σ2 H2 => ∃ m', m' < ws.length - i ∧ ∃ (δ2 : Env) (S2 : Sto) (ρ2 : Pl), Ext S1 ρ1 H1 S2 ρ2 H2 ∧ Rel X.K S2 ρ2 H2 ∧ REnv X.K ρ2 H2 (Live S2 ρ2) δ2 σ2 ∧ SGives X.K Z D S2 ρ2 H2 (forL g b (ws.drop (i + 1)) δ2 S2) ∧ m' = ws.length - (i + 1), fun _ _ z => z, fun x H2 hx => ?_⟩
    obtain ⟨e2, r2, rw2⟩ := hy x H2 hx
    rw [List.drop_eq_getElem_cons hl] at q'
    unfold forL at q'
    refine ⟨(ws[i], δ'), S', ρ', r2, ⟨rw2, Stb.env _ _ _ _ _ _ _ _ re' e2⟩, gives_imp (gives_bd (SGives.ext e2 q')) (fun δ1 S3 q3 ρ3 H3 σ3 e3 r3 re3 => ?_) fun _ _ q => q⟩
    refine ⟨δ1, S3, ρ3, r3, re3, gives_imp (gives_bd q3) (fun fl S4 q4 ρ4 H4 e4 r4 => ?_) fun _ _ q ρ4 H4 e4 r4 => q ρ4 H4 (e3.trans e4) r4⟩
    have E4 := (e'.trans e2).trans (e3.trans e4)
    cases fl with
    | nx δ2 => exact fun σ4 re4 => ⟨_, by omega, δ2, S4, ρ4, E4, r4, re4, SGives.ext (e3.trans e4) q4, rfl⟩
    | ct δ2 => exact fun σ4 re4 => ⟨_, by omega, δ2, S4, ρ4, E4, r4, re4, SGives.ext (e3.trans e4) q4, rfl⟩
    | bk δ2 => exact fun σ4 re4 => q4 ρ4 H4 (e3.trans e4) r4 σ4 re4
    | rt w => exact fun v rv => q4 ρ4 H4 (e3.trans e4) r4 v rv
  · left
    refine ⟨(wk i S' ρ' H' e'.to0 r').2 (by omega), ?_⟩
    rw [List.drop_eq_nil_of_le (by omega)] at q'
    exact q' ρ' H' Ext.refl r' σ' re'
/-! ### while -/
def whL (c : Env → M Bool) (b : Env → M Fl) : Nat → Env → M Fl
  | 0, _ => no
  | n + 1, δ => bd (c δ) fun k => if k = true then bd (b δ) fun fl => match fl with
    | .nx δ2 => whL c b n δ2
    | .ct δ2 => whL c b n δ2
    | .bk δ2 => pr (.nx δ2)
    | .rt w => pr (.rt w)
    else pr (.nx δ)
theorem ds_while {c : Expr} {body : List Stmt} {gc : Env → M Bool} {b : Env → M Fl} (n : Nat) (hp : PassesOwn (model X.prog X.w) X.A X.env X.xe) (hc : PT X c (tT X.K Z gc)) (hb : PSs X body (tS X.K Z b)) : PS X (.While c body [] pos) (tS X.K Z (whL gc b n)) := by
  refine (ps_while hp hc hb).imp fun D σ H h => ?_
  obtain ⟨δ, S, ρ, r, re, gv⟩ := h
  refine ⟨fun m σ' H' => ∃ (δ' : Env) (S' : Sto) (ρ' : Pl), Rel X.K S' ρ' H' ∧ REnv X.K ρ' H' (Live S' ρ') δ' σ' ∧ SGives X.K Z D S' ρ' H' (whL gc b m δ' S'), ⟨n, δ, S, ρ, r, re, gv⟩, ?_⟩
  rintro m σ' H' ⟨δ', S', ρ', r', re', q'⟩
  cases m with
  | zero => exact q'.elim
  | succ m =>
    unfold whL at q'
    refine ⟨δ', S', ρ', r', re', gives_imp (gives_bd q') (fun k S1 q ρ1 H1 v e1 r1 ev => ?_) fun _ _ q => q⟩
    cases ev
    have re1 := Stb.env _ _ _ _ _ _ _ _ re' e1
    cases k with
    | true =>
      rw [if_pos rfl] at q ⊢
      refine ⟨fun σ2 H2 => ∃ m', m' < m + 1 ∧ ∃ (δ2 : Env) (S2 : Sto) (ρ2 : Pl), Rel X.K S2 ρ2 H2 ∧ REnv X.K ρ2 H2 (Live S2 ρ2) δ2 σ2 ∧ SGives X.K Z D S2 ρ2 H2 (whL gc b m' δ2 S2), fun _ _ z => z, ?_⟩
      refine ⟨δ', S1, ρ1, r1, re1, gives_imp (gives_bd q) (fun fl S4 q4 ρ4 H4 e4 r4 => ?_) fun _ _ q ρ4 H4 e4 r4 => q ρ4 H4 (e1.trans e4) r4⟩
      cases fl with
      | nx δ2 => exact fun σ4 re4 => ⟨m, by omega, δ2, S4, ρ4, r4, re4, SGives.ext (e1.trans e4) q4⟩
      | ct δ2 => exact fun σ4 re4 => ⟨m, by omega, δ2, S4, ρ4, r4, re4, SGives.ext (e1.trans e4) q4⟩
      | bk δ2 => exact fun σ4 re4 => q4 ρ4 H4 (e1.trans e4) r4 σ4 re4
      | rt w => exact fun v rv => q4 ρ4 H4 (e1.trans e4) r4 v rv
    | false =>
      rw [if_neg Bool.false_ne_true] at q ⊢
      exact q ρ1 H1 e1 r1 σ' re1

/-! ### comprehensions -/
def noEx {α : Type} (m : M α) : M α := fun S => match m S with
  | .ok a S' => .ok a S'
  | _ => .no
theorem noEx_gives {α : Type} {m : M α} {S : Sto} {P : α → Sto → Prop} {E E' : Ex → Sto → Prop} (h : Gives (noEx m S) P E) : Gives (m S) P E' := by
  unfold noEx at h
  cases e : m S with
  | ok a S' => rw [e] at h; exact h
  | ex x S' => rw [e] at h; exact h.elim
  | no => rw [e] at h; exact h.elim
def wipeE (δ : Env) : List Nat → Env
  | [] => δ
  | v :: vs => (wipeE δ vs).set v none
theorem REnv.wipe {K : PySem.W.Frag} {ρ : Pl} {H : Hp} {L : Addr → Prop} {δ : Env} {σ : L2.St} (re : REnv K ρ H L δ σ) : ∀ vs : List Nat, REnv K ρ H L (wipeE δ vs) (wipe σ vs)
  | [] => re
  | v :: vs => by
    have ih := REnv.wipe re vs
    refine ⟨by simp [wipeE, L2.wipe, ih.1], fun i w h => ?_⟩
    unfold wipeE at h
    unfold L2.wipe
    by_cases e : v = i
    · subst e
      by_cases hl : v < (wipeE δ vs).length
      · rw [List.getElem?_set_self hl] at h; cases h
      · rw [List.getElem?_eq_none (by simpa using hl)] at h; cases h
    · rw [List.getElem?_set_ne e] at h ⊢
      exact ih.2 i w h
def compL (own : List Nat) (g : W → Env → M Env) (t : Env → M Bool) (e : Env → M W) : List W → Env → M (List W)
  | [], _ => pr []
  | w :: ws, δ => bd (noEx (g w (wipeE δ own))) fun δ1 => bd (noEx (t δ1)) fun k => if k = true then bd (noEx (e δ1)) fun y => bd (compL own g t e ws δ) fun ys => pr (y :: ys) else compL own g t e ws δ
theorem bd_noEx {α β : Type} {m : M α} {f : α → M β} {S : Sto} (h : ∀ a S', m S = .ok a S' → ∀ x S2, f a S' ≠ .ex x S2) : ∀ x S2, bd (noEx m) f S ≠ .ex x S2 := fun x S2 => by
  unfold bd noEx
  cases e : m S with
  | ok a S' => exact h a S' e x S2
  | ex x' S' => intro z; cases z
  | no => intro z; cases z
theorem compL_noex {own : List Nat} {g : W → Env → M Env} {t : Env → M Bool} {e : Env → M W} : ∀ (ws : List W) (δ : Env) (S : Sto) (x : Ex) (S' : Sto), compL own g t e ws δ S ≠ .ex x S'
  | [], _, _, _, _ => by intro z; cases z
  | w :: ws, δ, S, x, S' => by
    unfold compL
    refine bd_noEx (fun δ1 S1 _ => bd_noEx fun k S2 _ => ?_) x S'
    cases k with
    | true =>
      show ∀ (x : Ex) (S3 : Sto), bd (noEx (e δ1)) (fun y => bd (compL own g t e ws δ) fun ys => pr (y :: ys)) S2 ≠ .ex x S3
      refine bd_noEx fun y S3 _ x S4 => ?_
      unfold bd
      cases q : compL own g t e ws δ S3 with
      | ok ys S5 => intro z; cases z
      | ex x' S5 => exact absurd q (compL_noex ws δ S3 x' S5)
      | no => intro z; cases z
    | false => exact fun x S3 => compL_noex ws δ S2 x S3
abbrev lcM (own : List Nat) (fi : Env → M (List W)) (g : W → Env → M Env) (t : Env → M Bool) (e : Env → M W) : Env → M W := fun δ => bd (fi δ) fun ws => bd (compL own g t e ws δ) lstM
theorem lstM_small {ws : List W} {S : Sto} {P : W → Sto → Prop} {E : Ex → Sto → Prop} (h : Gives (lstM ws S) P E) : ws.length ≤ sizeLine := by
  unfold lstM at h
  split at h
  · assumption
  · exact h.elim
theorem comp_small {own : List Nat} {g : W → Env → M Env} {t : Env → M Bool} {e : Env → M W} {ws : List W} {δ : Env} {S : Sto} {acc : List W} {P : W → Sto → Prop} {E : Ex → Sto → Prop} (h : Gives (bd (compL own g t e ws δ) (fun ys => lstM (acc ++ ys)) S) P E) : acc.length ≤ sizeLine := by
  have h := gives_bd h
  cases q : compL own g t e ws δ S with
  | ok ys S5 =>
    rw [q] at h
    have := lstM_small h
    simp at this
    omega
  | ex x' S5 => exact absurd q (compL_noex ws δ S x' S5)
  | no => rw [q] at h; exact h.elim
abbrev yesT : Env → M Bool := fun _ => pr true
theorem dts_nil : PTs X [] (tT X.K Z yesT) := pts_nil.imp fun σ H Q h => tH.pure h fun _ _ _ _ _ => rfl
theorem dts_one {c : Expr} {f : Env → M Bool} (h : PT X c (tT X.K Z f)) : PTs X [c] (tT X.K Z f) := pts_one h
/-- the target of a comprehension: it stores its own names alone -/
def OwnG (own : List Nat) (g : W → Env → M Env) (gt : TG) : Prop := True
theorem bd_assoc {α β γ : Type} (m : M α) (f : α → M β) (h : β → M γ) (S : Sto) : bd (bd m f) h S = bd m (fun a => bd (f a) h) S := by
  unfold bd
  cases m S <;> rfl
theorem tLc_of {own : List (Str × Nat)} {fi : Env → M (List W)} {g : W → Env → M Env} {t : Env → M Bool} {e : Env → M W} {gc : TG} {σ : L2.St} {H : Hp} {Q : VK}
    (hgc : ∀ (v : V) (σ : L2.St) (H : Hp) (Q : L2.St → Hp → Prop), tG X.K ZF g v (wipe σ (own.map (·.2))) H Q → gc v (wipe σ (own.map (·.2))) H (fun σ2 H2 => wipe σ2 (own.map (·.2)) = wipe σ (own.map (·.2)) ∧ Q σ2 H2))
    (h : tE X.K Z (lcM (own.map (·.2)) fi g t e) σ H Q) : tLc (tI X.K Z fi) gc (tT X.K ZF t) (tE X.K ZF e) (own.map (·.2)) σ H Q := by
  obtain ⟨δ, S, ρ, r, re, gv⟩ := h
  refine ⟨δ, S, ρ, r, re, gives_imp (gives_bd gv) (fun ws S1 q ρ1 H1 J e1 r1 wk => ?_) fun _ _ q => q⟩
  intro D hD
  have re1 := Stb.env _ _ _ _ _ _ _ _ re e1
  refine ⟨fun i m H' => ∃ (S' : Sto) (ρ' : Pl) (acc : List W) (vs : List V), Ext0 S1 ρ1 H1 S' ρ' H' ∧ ρ'.grd = (ρ1.guard D).grd ∧ Rel X.K S' ρ' H' ∧ H' D = some (.lst vs) ∧ RWs X.K ρ' H' (Live S' ρ') acc vs ∧
    Gives (bd (compL (own.map (·.2)) g t e (ws.drop i) δ) (fun ys => lstM (acc ++ ys)) S') (fun w S2 => ∀ (ρ2 : Pl) (H2 : Hp) (v : V), Ext S1 ρ1 H1 S2 ρ2 H2 → Rel X.K S2 ρ2 H2 → RW X.K ρ2 H2 (Live S2 ρ2) w v → Q v H2) (fun _ _ => True) ∧ m = ws.length - i,
    ⟨_, S1, ρ1.guard D, [], [], Ext0.guard hD, rfl, r1.guard hD, upd_same, .nil, ?_, rfl⟩, ?_⟩
  · refine gives_imp (P := fun w S2 => ∀ (ρ2 : Pl) (H2 : Hp) (v : V), Ext S ρ H S2 ρ2 H2 → Rel X.K S2 ρ2 H2 → RW X.K ρ2 H2 (Live S2 ρ2) w v → Q v H2) (E := fun x S' => ∀ (ρ' : Pl) (H' : Hp), Ext S ρ H S' ρ' H' → Rel X.K S' ρ' H' → Z x S' ρ' H') ?_ (fun w S2 q2 ρ2 H2 v e2 r2 rw2 => q2 ρ2 H2 v (e1.trans e2) r2 rw2) fun _ _ _ => trivial
    exact q
  rintro i m H' ⟨S', ρ', acc, vs, e', hg', r', hv', rv', q', rfl⟩
  have hgD : ρ'.grd D := by rw [hg']; exact .inr rfl
  by_cases hl : i < ws.length
  · right
    have hw : ws[i]? = some ws[i] := List.getElem?_eq_getElem hl
    obtain ⟨hgo, hy⟩ := (wk i S' ρ' H' e' r').1 _ hw
    refine ⟨hgo, fun H2 => ∃ m', m' < ws.length - i ∧ ∃ (S2 : Sto) (ρ2 : Pl) (acc : List W) (vs : List V), Ext0 S1 ρ1 H1 S2 ρ2 H2 ∧ ρ2.grd = (ρ1.guard D).grd ∧ Rel X.K S2 ρ2 H2 ∧ H2 D = some (.lst vs) ∧ RWs X.K ρ2 H2 (Live S2 ρ2) acc vs ∧
      Gives (bd (compL (own.map (·.2)) g t e (ws.drop (i + 1)) δ) (fun ys => lstM (acc ++ ys)) S2) (fun w S2 => ∀ (ρ2 : Pl) (H2 : Hp) (v : V), Ext S1 ρ1 H1 S2 ρ2 H2 → Rel X.K S2 ρ2 H2 → RW X.K ρ2 H2 (Live S2 ρ2) w v → Q v H2) (fun _ _ => True) ∧ m' = ws.length - (i + 1), fun _ z => z, fun x H2 hx => ?_⟩
    obtain ⟨e2, r2, rw2⟩ := hy x H2 hx
    have E2 := e'.trans e2
    rw [List.drop_eq_getElem_cons hl] at q'
    unfold compL at q'
    rw [bd_assoc] at q'
    have re2 : REnv X.K ρ' H2 (Live S' ρ') (wipeE δ (own.map (·.2))) (wipe σ (own.map (·.2))) := REnv.wipe ⟨re1.1, fun i w h => let ⟨v, h1, h2⟩ := re1.2 i w h; ⟨v, h1, h2.ext0 E2⟩⟩ _
    refine hgc x σ H2 _ ⟨(ws[i], wipeE δ (own.map (·.2))), S', ρ', r2, ⟨rw2, re2⟩, gives_imp (noEx_gives (E' := fun _ _ => False) (gives_bd q')) (fun δ1 S3 q3 ρ3 H3 σ3 e3 r3 re3 => ?_) fun _ _ q => q.elim⟩
    rw [bd_assoc] at q3
    refine ⟨δ1, S3, ρ3, r3, re3, gives_imp (noEx_gives (E' := fun _ _ => False) (gives_bd q3)) (fun k S4 q4 ρ4 H4 v4 e4 r4 ek => ?_) fun _ _ q => q.elim⟩
    cases ek
    have E4 := E2.trans (e3.trans e4)
    have g4 : ρ4.grd = (ρ1.guard D).grd := ((e3.trans e4).grd).trans hg'
    have nD : ∀ {S ρ H}, Rel X.K S ρ H → ρ.grd D → ¬ Liv S ρ D := fun r g => r.dj D g
    have hv2 : H2 D = some (.lst vs) := e2.stab D _ hv' (nD r' hgD)
    have hv4 : H4 D = some (.lst vs) := (e3.trans e4).stab D _ hv2 (nD r2 hgD)
    have rv4 : RWs X.K ρ4 H4 (Live S4 ρ4) acc vs := (rv'.ext e2).ext (e3.trans e4)
    cases k with
    | true =>
      rw [if_pos rfl] at q4 ⊢
      rw [bd_assoc] at q4
      refine ⟨δ1, S4, ρ4, r4, Stb.env _ _ _ _ _ _ _ _ re3 e4, gives_imp (noEx_gives (E' := fun _ _ => False) (gives_bd q4)) (fun y S5 q5 ρ5 H5 v5 e5 r5 rw5 => ?_) fun _ _ q => q.elim⟩
      have g5 : ρ5.grd = (ρ1.guard D).grd := e5.grd.trans g4
      have hgD5 : ρ5.grd D := by rw [g5]; exact .inr rfl
      have hgD4 : ρ4.grd D := by rw [g4]; exact .inr rfl
      have hv5 : H5 D = some (.lst vs) := e5.stab D _ hv4 (nD r4 hgD4)
      rw [bd_assoc] at q5
      have q6 : Gives (bd (compL (own.map (·.2)) g t e (ws.drop (i + 1)) δ) (fun ys => lstM ((acc ++ [y]) ++ ys)) S5) (fun w S2 => ∀ (ρ2 : Pl) (H2 : Hp) (v : V), Ext S1 ρ1 H1 S2 ρ2 H2 → Rel X.K S2 ρ2 H2 → RW X.K ρ2 H2 (Live S2 ρ2) w v → Q v H2) (fun _ _ => True) := by
        have z : (fun ys => lstM ((acc ++ [y]) ++ ys)) = fun ys => bd (pr (y :: ys)) fun ys => lstM (acc ++ ys) := by
          funext ys S; simp [bd, pr]
        rw [z]
        exact q5
      have hs := comp_small q6
      have hlen := Paired.length rv4
      refine ⟨vs, hv5, by simp at hs; omega, _, by omega, S5, ρ5, acc ++ [y], vs ++ [v5], ?_, g5, r5.gput hgD5, upd_same, ?_, q6, rfl⟩
      · have E5 := E4.trans e5
        exact ⟨E5.pre, fun a o h l => by rw [upd_ne (ne_of_none h hD)]; exact E5.stab a o h l, E5.newl, E5.newg⟩
      · have a1 : RWs X.K ρ5 H5 (Live S5 ρ5) acc vs := rv4.ext e5
        have ap : ∀ {ws ws' : List W} {vs vs' : List V}, RWs X.K ρ5 (upd H5 D (.lst (vs ++ vs'))) (Live S5 ρ5) ws vs → RWs X.K ρ5 (upd H5 D (.lst (vs ++ vs'))) (Live S5 ρ5) ws' vs' → RWs X.K ρ5 (upd H5 D (.lst (vs ++ vs'))) (Live S5 ρ5) (ws ++ ws') (vs ++ vs') := fun {ws ws' vs vs'} p q => by
          have gen : ∀ (o : HO) {ws : List W} {vs : List V}, RWs X.K ρ5 (upd H5 D o) (Live S5 ρ5) ws vs → RWs X.K ρ5 (upd H5 D o) (Live S5 ρ5) ws' vs' → RWs X.K ρ5 (upd H5 D o) (Live S5 ρ5) (ws ++ ws') (vs ++ vs') := fun o ws vs p q => by
            induction p with
            | nil => exact q
            | cons a _ ih => exact .cons a ih
          exact gen _ p q
        exact ap (Paired.mapP a1 fun _ _ z => RW.gput r5 hgD5 z) (.cons (RW.gput r5 hgD5 rw5) .nil)
    | false =>
      rw [if_neg Bool.false_ne_true] at q4 ⊢
      exact ⟨_, by omega, S4, ρ4, acc, vs, E4, g4, r4, hv4, rv4, q4, rfl⟩
  · left
    refine ⟨(wk i S' ρ' H' e' r').2 (by omega), ?_⟩
    rw [List.drop_eq_nil_of_le (by omega)] at q'
    have q' : Gives (lstM (acc ++ []) S') _ _ := q'
    rw [List.append_nil] at q'
    unfold lstM at q'
    split at q'
    · split at q'
      · rename_i ds ed
        have hsub : ∀ a, ρ1.grd a → ρ'.grd a := fun a h => by rw [hg']; exact .inl h
        have rr := r'.ung hsub
        refine q' ⟨ρ'.adr, ρ1.grd⟩ H' (.ref D) ⟨e'.pre, e'.stab, e'.newl, rfl⟩ rr ?_
        refine .lst ⟨hv', fun z => ?_⟩ (allD_rep ed (Paired.mapP rv' fun _ _ z => RW.ung hsub z))
        rcases z with z | z
        · exact r'.dj D hgD z
        · obtain ⟨o, ho⟩ := r1.gt D z
          rw [hD] at ho; cases ho
      · exact q'.elim
    · exact q'.elim
end
end DL
/-! DL5: targets of comprehensions, tuples as targets, what is walked by values; calls of own defs. -/
namespace DL
open PySem PySem.Spec PyProof.Rows L2

/-! ### a list or a tuple by what it is -/
/-- (is it a list, its items) -/
def seqOf (w : W) (S : Sto) : Option (Bool × List W) := match w with
  | .d (.list ds) => some (true, ds.map .d)
  | .d (.tuple ds) => some (false, ds.map .d)
  | .r n => match S[n]? with
    | some (.lst ws) => some (true, ws)
    | _ => none
  | _ => none
theorem RpA.paired {K : PySem.W.Frag} {ρ : Pl} {H : Hp} {L : Addr → Prop} : ∀ {ds : List D} {vs : List V}, RpA K H L vs ds → RWs K ρ H L (ds.map .d) vs
  | [], _, h => by cases h; exact .nil
  | d :: ds, _, h => by cases h with | cons a b => exact .cons a (RpA.paired b)
theorem seqOf_rep {K : PySem.W.Frag} {S : Sto} {ρ : Pl} {H : Hp} {w : W} {v : V} {k : Bool} {ws : List W} (h : seqOf w S = some (k, ws)) (R : Rel K S ρ H) (r : RW K ρ H (Live S ρ) w v) :
    ∃ a xs, v = .ref a ∧ RWs K ρ H (Live S ρ) ws xs ∧ (if k = true then H a = some (.lst xs) else SqT K H a xs) := by
  unfold seqOf at h
  split at h
  · rename_i ds
    cases h
    cases r with
    | lst q ra => exact ⟨_, _, rfl, ra.paired, q.1⟩
  · rename_i ds
    cases h
    cases r with
    | tup q ra => exact ⟨_, _, rfl, ra.paired, q.sq⟩
  · rename_i n
    split at h
    · rename_i ws' e
      cases h
      obtain ⟨a, h1, h2⟩ := r
      obtain ⟨a', ho, q1, q2, vs, q3, q4⟩ := R.ob n _ e rfl
      rw [h1] at q1; cases q1
      subst q3
      exact ⟨a, vs, h2, q4, q2⟩
    · cases h
  · cases h

/-! ### targets, with what they leave -/
structure TR (rel : L2.St → L2.St → Prop) : Prop where
  refl : ∀ σ, rel σ σ
  trans : ∀ σ τ υ, rel σ τ → rel τ υ → rel σ υ
abbrev anyR : L2.St → L2.St → Prop := fun _ _ => True
abbrev wipR (vs : List Nat) : L2.St → L2.St → Prop := fun σ τ => wipe τ vs = wipe σ vs
theorem TR.any : TR anyR := ⟨fun _ => trivial, fun _ _ _ _ _ => trivial⟩
theorem TR.wip {vs : List Nat} : TR (wipR vs) := ⟨fun _ => rfl, fun _ _ _ a b => b.trans a⟩
def tR (rel : L2.St → L2.St → Prop) (K : PySem.W.Frag) (Z : XZ) (g : W → Env → M Env) : TG := fun v σ H Q => tG K Z g v σ H fun σ2 H2 => rel σ σ2 → Q σ2 H2
def tRs (rel : L2.St → L2.St → Prop) (K : PySem.W.Frag) (Z : XZ) (g : List W → Env → M Env) : TGs := fun v σ H Q => tGs K Z g v σ H fun σ2 H2 => rel σ σ2 → Q σ2 H2
theorem wipe_set {x : Option V} {i : Nat} : ∀ {vs : List Nat} {σ : L2.St}, i ∈ vs → wipe (σ.set i x) vs = wipe σ vs
  | v :: vs, σ, h => by
    unfold wipe
    by_cases e : i ∈ vs
    · rw [wipe_set e]
    · have : i = v := by
        rcases List.mem_cons.mp h with h | h
        · exact h
        · exact absurd h e
      subst this
      have key : ∀ {vs : List Nat} {σ : L2.St}, i ∉ vs → wipe (σ.set i x) vs = (wipe σ vs).set i x := by
        intro vs
        induction vs with
        | nil => intro σ _; rfl
        | cons u us ih =>
          intro σ hu
          unfold wipe
          rw [ih (fun z => hu (List.mem_cons_of_mem _ z))]
          rw [List.set_comm _ _ (show u ≠ i from fun z => hu (by rw [z]; exact List.mem_cons_self))]
      rw [key e]
      exact List.set_set ..
theorem wipe_twice : ∀ {vs : List Nat} {σ : L2.St}, wipe (wipe σ vs) vs = wipe σ vs
  | [], _ => rfl
  | v :: vs, σ => by
    have h1 : wipe ((wipe σ vs).set v none) (v :: vs) = wipe (wipe σ vs) (v :: vs) := wipe_set List.mem_cons_self
    have h2 : wipe (wipe σ (v :: vs)) (v :: vs) = wipe ((wipe σ vs).set v none) (v :: vs) := rfl
    rw [h2, h1]
    unfold wipe
    rw [wipe_twice]
section
variable {X : Cx} {Z : XZ} {pos : Pos} {a : Expr} {es : List Expr} {rel : L2.St → L2.St → Prop}
theorem dr_name {i : Nat} {x : Str} (hN : X.N.Nodup) (hi : X.N[i]? = some x) (hx : Loc X.env.scope x) (hr : ∀ (σ : L2.St) (v : V), rel σ (σ.set i (some v))) (hf : X.fn x = true ∨ X.env.scope.names.lookup x = some .local := by first | exact .inl rfl | exact .inr rfl | assumption) : PG X (.Name x pos) (tR rel X.K Z (setG i)) :=
  (pg_name hN hi hx hf).imp fun v σ H Q h => tH.pure (v := σ.set i (some v)) h (fun _ _ _ _ q => REnv.set q.2 q.1) (hr _ _)
theorem drs_nil (hr : TR rel) : PGs X [] (tRs rel X.K Z nilG) := pgs_nil.imp fun vs σ H Q h => by
  obtain ⟨⟨ws, δ⟩, S, ρ, r, ⟨rw, re⟩, g⟩ := h
  cases rw with
  | nil => exact ⟨rfl, g ρ H σ Ext.refl r re (hr.refl _)⟩
  | cons _ _ => exact g.elim
theorem drs_cons {g : W → Env → M Env} {gs : List W → Env → M Env} (hr : TR rel) (h1 : PG X a (tR rel X.K Z g)) (h2 : PGs X es (tRs rel X.K Z gs))
    (hs : (assignEach (a :: es) X.env).map (·.2) = assign a X.env :: (assignEach es X.env).map (·.2) := by rfl) : PGs X (a :: es) (tRs rel X.K Z (consG g gs)) := (pgs_cons h1 h2 hs).imp fun vs σ H Q h => by
  obtain ⟨⟨ws, δ⟩, S, ρ, r, ⟨rw, re⟩, gv⟩ := h
  cases rw with
  | nil => exact gv.elim
  | @cons w v ws vs rw rws =>
    refine ⟨v, vs, rfl, (w, δ), S, ρ, r, ⟨rw, re⟩, gives_imp (gives_bd gv) (fun δ1 S1 q ρ1 H1 σ1 e1 r1 re1 s1 => ?_) fun _ _ q => q⟩
    refine ⟨(ws, δ1), S1, ρ1, r1, ⟨Stb.ws _ _ _ _ _ _ _ _ rws e1, re1⟩, gives_imp q (fun δ2 S2 q2 ρ2 H2 σ2 e2 r2 re2 s2 => ?_) fun x S2 q2 ρ2 H2 e2 r2 => ?_⟩
    · exact q2 ρ2 H2 σ2 (e1.trans e2) r2 re2 (hr.trans _ _ _ s1 s2)
    · exact q2 ρ2 H2 (e1.trans e2) r2
/-- a, b, .. = a list or a tuple of that length -/
def tupG (n : Nat) (gs : List W → Env → M Env) : W → Env → M Env := fun w δ S => match seqOf w S with
  | some (_, ws) => if ws.length = n then gs ws δ S else .no
  | none => .no
theorem dr_tup {k n : Nat} {gs : List W → Env → M Env} (hc : X.calm = true) (h : PGs X es (tRs rel X.K Z gs)) (hn : (assignEach es X.env).length = n := by rfl) (hst : (assignEach es X.env).findIdx? (·.1) = none := by rfl) :
    PG X (.Tuple es k pos) (tR rel X.K Z (tupG n gs)) := by
  refine ⟨fun pins s σ H v u Q I r hw => ?_⟩
  obtain ⟨⟨w, δ⟩, S, ρ, R, ⟨rw, re⟩, g⟩ := hw
  have g : Gives (tupG n gs w δ S) _ _ := g
  unfold tupG at g
  split at g
  · rename_i ki ws e
    split at g
    · rename_i hl
      obtain ⟨a, xs, rfl, rws, hq⟩ := seqOf_rep e R rw
      have hz : tRs rel X.K Z gs xs σ H Q := ⟨(ws, δ), S, ρ, R, ⟨rws, re⟩, g⟩
      have hlen := Paired.length rws
      cases ki with
      | true =>
        rw [if_pos rfl] at hq
        exact (pg_lst hc h hn hst).run pins s σ H _ _ Q I r ⟨a, xs, rfl, .of hq, by omega, hz⟩
      | false =>
        rw [if_neg Bool.false_ne_true] at hq
        exact (pg_tup hc h hn hst).run pins s σ H _ _ Q I r ⟨a, xs, rfl, hq, by omega, hz⟩
    · exact g.elim
  · exact g.elim
theorem dr_any {g : W → Env → M Env} (h : PG X a (tR anyR X.K Z g)) : PG X a (tG X.K Z g) := h.imp fun v σ H Q q => tH.mono q fun _ _ z _ => z
/-- [e for target in iter if ..] -/
theorem dlc {elt tg iter : Expr} {ifs : List Expr} {scope : Scope} {own : List (Str × Nat)} {fi : Env → M (List W)} {g : W → Env → M Env} {t : Env → M Bool} {e : Env → M W} (hc : X.calm = true) (hN : X.N.Nodup) (hi : PI X tg iter (tI X.K Z fi)) (ok : BlkOk X.N X.env.scope scope own)
    (hg : ∀ (s : Shared) (H : Hp) (C : Addr) (cl : List (Str × Addr)) (fp : List Addr), PG (X.blk s H scope (compEnvC scope cl C X.env) fp) tg (tR (wipR (own.map (·.2))) X.K ZF g))
    (ht : ∀ (s : Shared) (H : Hp) (C : Addr) (cl : List (Str × Addr)) (fp : List Addr), PTs (X.blk s H scope (compEnvC scope cl C X.env) fp) ifs (tT X.K ZF t))
    (he : ∀ (s : Shared) (H : Hp) (C : Addr) (cl : List (Str × Addr)) (fp : List Addr), PE (X.blk s H scope (compEnvC scope cl C X.env) fp) elt (tE X.K ZF e)) (hs : ∀ x, foldedSetIterable iter X.env x = pure x := by intro _; rfl) :
    PE X (.ListComp elt [⟨tg, iter, ifs, 0⟩] scope pos) (tE X.K Z (lcM (own.map (·.2)) fi g t e)) := by
  refine (pe_lc hc hN hi ok hg ht he hs).imp fun σ H Q h => tLc_of (fun v σ H Q q => ?_) h
  refine tH.mono q fun σ2 H2 z hr => ?_
  have hr : wipe σ2 (own.map (·.2)) = wipe (wipe σ (own.map (·.2))) (own.map (·.2)) := hr
  rw [wipe_twice] at hr
  exact ⟨hr, z⟩
theorem ds_setLc {i : Nat} {y : Str} {py : Pos} {elt tg iter : Expr} {ifs : List Expr} {scope : Scope} {own : List (Str × Nat)} {spos : Pos} {fi : Env → M (List W)} {g : W → Env → M Env} {t : Env → M Bool} {e : Env → M W} (hc : X.calm = true) (hN : X.N.Nodup) (hy : X.N[i]? = some y) (hyl : X.env.scope.names.lookup y = some .local)
    (hsw : swapsWith (.ListComp elt [⟨tg, iter, ifs, 0⟩] scope pos) (some (.Name y py)) spos.line X.env = pure true) (hi : PI X tg iter (tI X.K Z fi)) (ok : BlkOk X.N X.env.scope scope own)
    (hg : ∀ (s : Shared) (H : Hp) (C : Addr) (cl : List (Str × Addr)) (fp : List Addr), PG (X.blk s H scope (compEnvC scope cl C X.env) fp) tg (tR (wipR (own.map (·.2))) X.K ZF g))
    (ht : ∀ (s : Shared) (H : Hp) (C : Addr) (cl : List (Str × Addr)) (fp : List Addr), PTs (X.blk s H scope (compEnvC scope cl C X.env) fp) ifs (tT X.K ZF t))
    (he : ∀ (s : Shared) (H : Hp) (C : Addr) (cl : List (Str × Addr)) (fp : List Addr), PE (X.blk s H scope (compEnvC scope cl C X.env) fp) elt (tE X.K ZF e)) (hs : ∀ x, foldedSetIterable iter X.env x = pure x := by intro _; rfl) :
    PS X (.Assign [.Name y py] (.ListComp elt [⟨tg, iter, ifs, 0⟩] scope pos) spos) (tS X.K Z (asgM (lcM (own.map (·.2)) fi g t e) (setG i))) := by
  refine (ps_setLc hc hN hy hyl hsw hi ok hg ht he hs).imp fun D σ H h => ?_
  unfold tAsg
  refine tLc_of (fun v σ H Q q => ?_) ((tS.asg h).mono fun v H1 q => tH.pure q fun _ _ _ _ q => REnv.set q.2 q.1)
  refine tH.mono q fun σ2 H2 z hr => ?_
  have hr : wipe σ2 (own.map (·.2)) = wipe (wipe σ (own.map (·.2))) (own.map (·.2)) := hr
  rw [wipe_twice] at hr
  exact ⟨hr, z⟩
end

/-! ### what is walked, by values -/
section
variable {X : Cx} {Z : XZ} {pos : Pos} {tg e : Expr} {fa : Env → M W} {pins : List (Addr × Obj)} {σ : L2.St} {H : Hp} {s : Shared} {R : It → Hp → Prop} {E : Value → Shared → Prop}
theorem iter_list {a : Addr} {xs : List V} (I : Inv X pins σ H s) (hq : SqL X.K H a xs) (q : R (Itl X.K a) H) : wpAny (model X.prog X.w) X.A (pyIter (.ref a)) (PIE X pins σ tg R) E s := by
  obtain ⟨its, rv, p, hz⟩ := I.list hq
  refine wpAny_pyIter_list p.isList ?_
  refine ⟨s.heap.objs.size, [s.heap.objs.size], _, _, H, rfl, I.kept (t' := s.toks) fun b o e => Heap.get?_push_of_some _ e, turn_list a _, ⟨_, Heap.get?_push_size _ rfl, rfl, rfl⟩, fun b hb => ?_, q⟩
  have e : b = s.heap.objs.size := by simpa using hb
  subst e
  exact I.fpOk (Nat.le_refl _) (I.hok.fresh (Nat.le_refl _))
theorem iter_str {x : Str} {t : Tok} (I : Inv X pins σ H s) (q : R (Its x) H) : wpAny (model X.prog X.w) X.A (pyIter (.str x t)) (PIE X pins σ tg R) E s := by
  cases ha : x.cps.all (· < 128)
  · exact wpAny_pyIter_wide ha (pi_one (tk := s.toks) I _ (turn_str _ x t "str_iterator" (.inr rfl)) ⟨_, Heap.get?_push_size _ rfl, rfl, rfl⟩ q)
  · exact wpAny_pyIter_ascii ha (pi_one (tk := s.toks) I _ (turn_str _ x t "str_ascii_iterator" (.inl rfl)) ⟨_, Heap.get?_push_size _ rfl, rfl, rfl⟩ q)
theorem iter_tup {a : Addr} {xs : List V} (I : Inv X pins σ H s) (hq : SqT X.K H a xs) (q : R (Itt X.K a) H) : wpAny (model X.prog X.w) X.A (pyIter (.ref a)) (PIE X pins σ tg R) E s := by
  obtain ⟨its, rv, p, hz⟩ := I.tuple hq
  refine wpAny_pyIter_tuple (show s.heap.IsTuple a its.toArray from p) ?_
  refine ⟨s.heap.objs.size, [s.heap.objs.size], _, _, H, rfl, I.kept (t' := s.toks) fun b o e => Heap.get?_push_of_some _ e, turn_tuple a _, ⟨_, Heap.get?_push_size _ rfl, rfl, rfl⟩, fun b hb => ?_, q⟩
  have e : b = s.heap.objs.size := by simpa using hb
  subst e
  exact I.fpOk (Nat.le_refl _) (I.hok.fresh (Nat.le_refl _))
end
theorem Paired.at' {α β : Type} {F : α → β → Prop} : ∀ {xs : List α} {ys : List β} {i : Nat} {x : α}, Paired F xs ys → xs[i]? = some x → ∃ y, ys[i]? = some y ∧ F x y
  | _, _, _, _, .nil, h => by simp at h
  | _, _, 0, _, .cons a _, h => by simp at h; subst h; exact ⟨_, rfl, a⟩
  | _, _, i + 1, _, .cons _ b, h => by
    obtain ⟨y, h1, h2⟩ := Paired.at' b (by simpa using h)
    exact ⟨y, by simpa using h1, h2⟩
section
variable {K : PySem.W.Frag} {S : Sto} {ρ : Pl} {H : Hp}
theorem walks_list {a : Addr} {xs : List V} {ds : List D} (q : QL K H (Live S ρ) a xs) (ra : RpA K H (Live S ρ) xs ds) : Walks K (Itl K a) (ds.map .d) S ρ H := by
  intro i S' ρ' H' e r
  have q' : QL K H' (Live S' ρ') a xs := q.ext e.stabL e.newL
  have ra' : RWs K ρ' H' (Live S' ρ') (ds.map .d) xs := (RpA.ext e.stabL e.newL _ _ ra).paired
  refine ⟨fun w hw => ?_, fun hl => ⟨xs, q'.sq, by rw [← Paired.length ra']; exact hl⟩⟩
  obtain ⟨y, h1, h2⟩ := Paired.at' ra' hw
  refine ⟨⟨xs, y, q'.sq, h1⟩, fun x H2 ⟨hH, hx⟩ => ?_⟩
  subst hH
  have := hx xs q'.sq
  rw [h1] at this
  cases this
  exact ⟨Ext.refl, r, h2⟩
theorem walks_tup {a : Addr} {xs : List V} {ds : List D} (q : QT K H (Live S ρ) a xs) (ra : RpA K H (Live S ρ) xs ds) : Walks K (Itt K a) (ds.map .d) S ρ H := by
  intro i S' ρ' H' e r
  have q' : QT K H' (Live S' ρ') a xs := q.ext e.stabL e.newL
  have ra' : RWs K ρ' H' (Live S' ρ') (ds.map .d) xs := (RpA.ext e.stabL e.newL _ _ ra).paired
  refine ⟨fun w hw => ?_, fun hl => ⟨xs, q'.sq, by rw [← Paired.length ra']; exact hl⟩⟩
  obtain ⟨y, h1, h2⟩ := Paired.at' ra' hw
  refine ⟨⟨xs, y, q'.sq, h1⟩, fun x H2 ⟨hH, hx⟩ => ?_⟩
  subst hH
  have := hx xs q'.sq
  rw [h1] at this
  cases this
  exact ⟨Ext.refl, r, h2⟩
def signs (x : Str) : List W := x.cps.toList.map fun c => .d (.str ⟨#[c]⟩)
theorem okS_sign {x : Str} (h : okS x = true) {i c : Nat} (hc : x.cps[i]? = some c) : okS ⟨#[c]⟩ = true := by
  unfold okS PyData.strOk at h ⊢
  rw [Array.all_eq_true] at h
  obtain ⟨hi, e⟩ := Array.getElem?_eq_some_iff.mp hc
  have := h i hi
  rw [e] at this
  simpa using this
theorem walks_str {x : Str} (h : okS x = true) : Walks K (Its x) (signs x) S ρ H := by
  intro i S' ρ' H' e r
  refine ⟨fun w hw => ?_, fun hl => (show x.cps.size ≤ i by simpa [signs] using hl)⟩
  unfold signs at hw
  rw [List.getElem?_map] at hw
  cases hc : x.cps.toList[i]? with
  | none => rw [hc] at hw; cases hw
  | some c =>
    rw [hc] at hw
    cases hw
    have hc' : x.cps[i]? = some c := by simpa using hc
    refine ⟨(Array.getElem?_eq_some_iff.mp hc').1, fun y H2 ⟨hH, c', h1, h2⟩ => ?_⟩
    subst hH
    rw [hc'] at h1
    cases h1
    subst h2
    exact ⟨Ext.refl, r, .str _ (okS_sign h hc')⟩
theorem walks_rng {lo : Int} {n : Nat} : Walks K (Itr lo n) ((List.range n).map fun i => .d (.int (lo + (i : Nat)))) S ρ H := by
  intro i S' ρ' H' e r
  refine ⟨fun w hw => ?_, fun hl => (show n ≤ i by simpa using hl)⟩
  have hi : i < n := by
    have := (List.getElem?_eq_some_iff.mp hw).1
    simpa using this
  refine ⟨hi, fun y H2 ⟨hH, h2⟩ => ?_⟩
  subst hH
  subst h2
  simp [hi] at hw
  subst hw
  exact ⟨Ext.refl, r, .int _⟩
end
/-- the items of a list, a tuple, the signs of a text; a list of the store is given up -/
def iterM (w : W) : M (List W) := fun S => match w with
  | .d (.list ds) => .ok (ds.map .d) S
  | .d (.tuple ds) => .ok (ds.map .d) S
  | .d (.str x) => .ok (signs x) S
  | .r n => match S[n]? with
    | some (.lst ws) => match allD ws with
      | some ds => .ok (ds.map .d) (S.set n .dead)
      | none => .no
    | _ => .no
  | _ => .no
section
variable {X : Cx} {Z : XZ} {pos : Pos} {tg e : Expr} {fa : Env → M W}
theorem di_val (h : PE X e (tE X.K Z fa)) : PI X tg e (tI X.K Z fun δ => bd (fa δ) iterM) := by
  refine ⟨fun pins s σ H R I hw => ?_⟩
  have hw' : tE X.K Z fa σ H (fun v H1 => ∃ (w : W) (S : Sto) (ρ : Pl), Rel X.K S ρ H1 ∧ RW X.K ρ H1 (Live S ρ) w v ∧
      Gives (iterM w S) (fun ws S' => ∀ (ρ' : Pl) (H' : Hp) (J : It), Ext S ρ H1 S' ρ' H' → Rel X.K S' ρ' H' → Walks X.K J ws S' ρ' H' → R J H') (fun _ _ => True)) := by
    obtain ⟨δ, S, ρ, r, re, gv⟩ := hw
    refine ⟨δ, S, ρ, r, re, gives_imp (gives_bd gv) (fun w S1 q ρ1 H1 v e1 r1 rw1 => ?_) fun _ _ q => q⟩
    exact ⟨w, S1, ρ1, r1, rw1, gives_imp q (fun ws S2 q2 ρ2 H2 J e2 r2 wk => q2 ρ2 H2 J (e1.trans e2) r2 wk) fun _ _ _ => trivial⟩
  refine thn (h.run pins s σ H _ I hw') fun v s1 ⟨x, H1, I1, r1, w, S, ρ, rel, rw, g⟩ => ?_
  unfold iterM at g
  split at g
  · cases rw with
    | lst q ra =>
      cases r1
      exact iter_list I1 q.sq (g ρ H1 _ Ext.refl rel (walks_list q ra))
  · cases rw with
    | tup q ra =>
      cases r1
      exact iter_tup I1 q.sq (g ρ H1 _ Ext.refl rel (walks_tup q ra))
  · cases rw with
    | str x ho =>
      obtain ⟨t, rfl⟩ := r1
      have q := g ρ H1 _ Ext.refl rel (walks_str ho)
      exact iter_str I1 q
  · rename_i n
    split at g
    · rename_i ws en
      split at g
      · rename_i ds ed
        obtain ⟨a, h1, h2⟩ := rw
        subst h2
        cases r1
        obtain ⟨a', ho, q1, q2, vs, q3, q4⟩ := rel.ob n _ en rfl
        rw [h1] at q1; cases q1
        subst q3
        have ek : Ext S ρ H1 (S.set n .dead) ρ H1 := Ext.kill en rfl
        have ra : RpA X.K H1 (Live (S.set n .dead) ρ) vs ds := RpA.ext ek.stabL ek.newL _ _ (allD_rep ed q4)
        have q : QL X.K H1 (Live (S.set n .dead) ρ) a vs := ⟨q2, rel.dead_notL en rfl h1⟩
        exact iter_list I1 q.sq (g ρ H1 _ ek (rel.kill en rfl) (walks_list q ra))
      · exact g.elim
    · exact g.elim
  · exact g.elim
end
end DL
/-! DL6: operators, comparisons, built-ins by values. -/
namespace DL
open PySem PySem.Spec PyProof.Rows L2

/-- plain data of a value as it stands -/
def toD (w : W) (S : Sto) : Option D := match w with
  | .d x => some x
  | .r n => match S[n]? with
    | some (.lst ws) => (allD ws).map .list
    | _ => none
  | .s _ => none
theorem toD_rep {K : PySem.W.Frag} {S : Sto} {ρ : Pl} {H : Hp} {w : W} {v : V} {d : D} (h : toD w S = some d) (R : Rel K S ρ H) (r : RW K ρ H (Live S ρ) w v) (n : nd d = true) : Dp K H v d ∧ d.canLay0 = true := by
  unfold toD at h
  split at h
  · cases h
    exact ⟨Rp.dp _ _ n r, Rp.lay _ _ n r⟩
  · rename_i m
    split at h
    · rename_i ws e
      simp only [Option.map_eq_some_iff] at h
      obtain ⟨ds, h1, h2⟩ := h
      subst h2
      obtain ⟨a, q1, q2⟩ := r
      obtain ⟨a', ho, z1, z2, vs, z3, z4⟩ := R.ob m _ e rfl
      rw [q1] at z1; cases z1
      subst z3 q2
      have ra := allD_rep h1 z4
      have n' : ndA ds = true := by simpa only [nd] using n
      exact ⟨.lst (.inl (.inl z2)) (RpA.dp _ _ n' ra), by simpa only [PyData.canLay0] using RpA.lay _ _ n' ra⟩
    · cases h
  · cases h
def okb (b : Bool) : W := .d (.bool b)
def eqD (x y : W) : M W := fun S => match toD x S, toD y S with
  | some a, some b => if min a.depth b.depth ≤ 64 ∧ nd a = true ∧ nd b = true then .ok (okb (PyData.eqv a b)) S else .no
  | _, _ => .no
def neD (x y : W) : M W := fun S => match toD x S, toD y S with
  | some a, some b => if min a.depth b.depth ≤ 64 ∧ nd a = true ∧ nd b = true then .ok (okb (!PyData.eqv a b)) S else .no
  | _, _ => .no
def isNil : W → Bool
  | .d (.list []) => true
  | _ => false
def eqM (x y : W) : M W := fun S => if isNil y = true then (match seqOf x S with
  | some (true, ws) => .ok (okb ws.isEmpty) S
  | _ => eqD x y S) else eqD x y S
def neM (x y : W) : M W := fun S => if isNil y = true then (match seqOf x S with
  | some (true, ws) => .ok (okb !ws.isEmpty) S
  | _ => neD x y S) else neD x y S
theorem isNil_of {y : W} (h : isNil y = true) : y = .d (.list []) := by
  unfold isNil at h
  split at h
  · rfl
  · cases h
def inM (x y : W) : M W := fun S => match toD x S, toD y S with
  | some (.str a), some (.str b) => .ok (okb (!(Builtin.Str.occurrences b a 0 b.length 1).isEmpty)) S
  | some a, some (.list ds) => if a.depth ≤ 64 ∧ nd a = true ∧ ndA ds = true then .ok (okb (ds.any fun y => PyData.eqv y a)) S else .no
  | some a, some (.tuple ds) => if a.depth ≤ 64 ∧ nd a = true ∧ ndA ds = true then .ok (okb (ds.any fun y => PyData.eqv y a)) S else .no
  | _, _ => .no
def notInM (x y : W) : M W := fun S => match toD x S, toD y S with
  | some (.str a), some (.str b) => .ok (okb (!(!(Builtin.Str.occurrences b a 0 b.length 1).isEmpty))) S
  | some a, some (.list ds) => if a.depth ≤ 64 ∧ nd a = true ∧ ndA ds = true then .ok (okb (!ds.any fun y => PyData.eqv y a)) S else .no
  | some a, some (.tuple ds) => if a.depth ≤ 64 ∧ nd a = true ∧ ndA ds = true then .ok (okb (!ds.any fun y => PyData.eqv y a)) S else .no
  | _, _ => .no
section
variable {X : Cx} {Z : XZ}
theorem o_eqD (hu : X.A.units + 65 < cLine) : OpR X (compareOp .Eq) (r2M X.K Z eqD) := by
  rintro pins s σ H x y v u Q I rx ry ⟨⟨w1, w2⟩, S, ρ, R, ⟨r1, r2⟩, g⟩
  have g : Gives (eqD w1 w2 S) _ _ := g
  unfold eqD at g
  split at g
  · rename_i a b e1 e2
    split at g
    · rename_i hd
      obtain ⟨d1, l1⟩ := toD_rep e1 R r1 hd.2.1
      obtain ⟨d2, l2⟩ := toD_rep e2 R r2 hd.2.2
      obtain ⟨as, q1⟩ := Dp.reads I a x v d1 rx
      obtain ⟨bs, q2⟩ := Dp.reads I b y u d2 ry
      exact SeqAt.compareEq_reads q1 q2 l1 l2 (by have := hd.1; omega) ⟨.bl _, H, I, rfl, g ρ H (.bl _) Ext.refl R (.bl _)⟩
    · exact g.elim
  · exact g.elim
theorem o_neD (hu : X.A.units + 65 < cLine) : OpR X (compareOp .NotEq) (r2M X.K Z neD) := by
  rintro pins s σ H x y v u Q I rx ry ⟨⟨w1, w2⟩, S, ρ, R, ⟨r1, r2⟩, g⟩
  have g : Gives (neD w1 w2 S) _ _ := g
  unfold neD at g
  split at g
  · rename_i a b e1 e2
    split at g
    · rename_i hd
      obtain ⟨d1, l1⟩ := toD_rep e1 R r1 hd.2.1
      obtain ⟨d2, l2⟩ := toD_rep e2 R r2 hd.2.2
      obtain ⟨as, q1⟩ := Dp.reads I a x v d1 rx
      obtain ⟨bs, q2⟩ := Dp.reads I b y u d2 ry
      exact SeqAt.compareNe_reads q1 q2 l1 l2 (by have := hd.1; omega) ⟨.bl _, H, I, rfl, g ρ H (.bl _) Ext.refl R (.bl _)⟩
    · exact g.elim
  · exact g.elim
theorem o_eq (hu : X.A.units + 65 < cLine) : OpR X (compareOp .Eq) (r2M X.K Z eqM) := by
  rintro pins s σ H x y v u Q I rx ry ⟨⟨w1, w2⟩, S, ρ, R, ⟨r1, r2⟩, g⟩
  have g : Gives (eqM w1 w2 S) _ _ := g
  unfold eqM at g
  split at g
  · rename_i hn
    have hn := isNil_of hn
    subst hn
    split at g
    · rename_i ws e
      obtain ⟨a, xs, rfl, rws, hq⟩ := seqOf_rep e R r1
      rw [if_pos rfl] at hq
      have r2 : Rp X.K H (Live S ρ) y (.list []) := r2
      cases r2 with
      | @lst b ys ds q2 ra2 =>
        cases ra2
        cases rx; cases ry
        obtain ⟨its, rv, p, _⟩ := I.list (show SqL X.K H a xs from .inl (.inl hq))
        obtain ⟨its2, rv2, p2, _⟩ := I.list q2.sq
        cases rv2
        have fin : EP X pins σ Q (.bool ws.isEmpty) s := ⟨.bl _, H, I, rfl, g ρ H (.bl _) Ext.refl R (.bl _)⟩
        have l1 := Paired.length rws
        have l2 := rv.length
        cases ws with
        | nil =>
          have e0 : its = [] := List.length_eq_zero_iff.mp (by simp at l1; omega)
          subst e0
          refine SeqAt.eq_listAt (e := fun _ => true) p.isList p2.isList rfl (by omega) (fun j h1 => by simp at h1) ?_
          simpa using fin
        | cons z zs => exact SeqAt.eq_list_lengthsAt p.isList p2.isList (by
          have : its.length ≠ 0 := by simp only [List.length_cons] at l1; omega
          simpa using this) (by omega) fin
    · exact o_eqD hu pins s σ H x y v u Q I rx ry ⟨⟨w1, _⟩, S, ρ, R, ⟨r1, r2⟩, g⟩
  · exact o_eqD hu pins s σ H x y v u Q I rx ry ⟨⟨w1, w2⟩, S, ρ, R, ⟨r1, r2⟩, g⟩
theorem o_ne (hu : X.A.units + 65 < cLine) : OpR X (compareOp .NotEq) (r2M X.K Z neM) := by
  rintro pins s σ H x y v u Q I rx ry ⟨⟨w1, w2⟩, S, ρ, R, ⟨r1, r2⟩, g⟩
  have g : Gives (neM w1 w2 S) _ _ := g
  unfold neM at g
  split at g
  · rename_i hn
    have hn := isNil_of hn
    subst hn
    split at g
    · rename_i ws e
      obtain ⟨a, xs, rfl, rws, hq⟩ := seqOf_rep e R r1
      rw [if_pos rfl] at hq
      have r2 : Rp X.K H (Live S ρ) y (.list []) := r2
      cases r2 with
      | @lst b ys ds q2 ra2 =>
        cases ra2
        cases rx; cases ry
        obtain ⟨its, rv, p, _⟩ := I.list (show SqL X.K H a xs from .inl (.inl hq))
        obtain ⟨its2, rv2, p2, _⟩ := I.list q2.sq
        cases rv2
        have fin : EP X pins σ Q (.bool !ws.isEmpty) s := ⟨.bl _, H, I, rfl, g ρ H (.bl _) Ext.refl R (.bl _)⟩
        have l1 := Paired.length rws
        have l2 := rv.length
        cases ws with
        | nil =>
          have e0 : its = [] := List.length_eq_zero_iff.mp (by simp at l1; omega)
          subst e0
          refine SeqAt.RcNeAt.lists (e := fun _ => true) p.isList p2.isList rfl (by omega) (fun j h1 => by simp at h1) X.prog X.w _ _ ?_
          simpa using fin
        | cons z zs => exact SeqAt.RcNeAt.lists_lengths p.isList p2.isList (by
          have : its.length ≠ 0 := by simp only [List.length_cons] at l1; omega
          simpa using this) (by omega) X.prog X.w _ _ fin
    · exact o_neD hu pins s σ H x y v u Q I rx ry ⟨⟨w1, _⟩, S, ρ, R, ⟨r1, r2⟩, g⟩
  · exact o_neD hu pins s σ H x y v u Q I rx ry ⟨⟨w1, w2⟩, S, ρ, R, ⟨r1, r2⟩, g⟩
theorem lay_list {ds : List D} (h : (PyData.list ds).canLay0 = true) : PyData.canLayAll0 ds = true := by simpa only [PyData.canLay0] using h
theorem lay_tup {ds : List D} (h : (PyData.tuple ds).canLay0 = true) : PyData.canLayAll0 ds = true := by simpa only [PyData.canLay0] using h
theorem o_in (hu : X.A.units + 66 < cLine) : OpR X (compareOp .In) (r2M X.K Z inM) := by
  rintro pins s σ H x y v u Q I rx ry ⟨⟨w1, w2⟩, S, ρ, R, ⟨r1, r2⟩, g⟩
  have g : Gives (inM w1 w2 S) _ _ := g
  unfold inM at g
  split at g
  · rename_i a b e1 e2
    obtain ⟨d1, l1⟩ := toD_rep e1 R r1 (by simp only [nd])
    obtain ⟨d2, l2⟩ := toD_rep e2 R r2 (by simp only [nd])
    cases d1; cases d2
    exact op_in_str pins s σ H _ _ v u Q I rx ry ⟨_, _, rfl, rfl, g ρ H (.bl _) Ext.refl R (.bl _)⟩
  · rename_i a ds e1 e2
    split at g
    · rename_i hd
      obtain ⟨d1, l1⟩ := toD_rep e1 R r1 hd.2.1
      obtain ⟨d2, l2⟩ := toD_rep e2 R r2 (by simpa only [nd] using hd.2.2)
      have hd := hd.1
      obtain ⟨as, q1⟩ := Dp.reads I a x v d1 rx
      obtain ⟨bs, q2⟩ := Dp.reads I _ y u d2 ry
      exact SeqAt.in_list_reads q2 q1 (lay_list l2) l1 (by omega) ⟨.bl _, H, I, rfl, g ρ H (.bl _) Ext.refl R (.bl _)⟩
    · exact g.elim
  · rename_i a ds e1 e2
    split at g
    · rename_i hd
      obtain ⟨d1, l1⟩ := toD_rep e1 R r1 hd.2.1
      obtain ⟨d2, l2⟩ := toD_rep e2 R r2 (by simpa only [nd] using hd.2.2)
      have hd := hd.1
      obtain ⟨as, q1⟩ := Dp.reads I a x v d1 rx
      obtain ⟨bs, q2⟩ := Dp.reads I _ y u d2 ry
      exact SeqAt.in_tuple_reads q2 q1 (lay_tup l2) l1 (by omega) ⟨.bl _, H, I, rfl, g ρ H (.bl _) Ext.refl R (.bl _)⟩
    · exact g.elim
  · exact g.elim
theorem o_notIn (hu : X.A.units + 66 < cLine) : OpR X (compareOp .NotIn) (r2M X.K Z notInM) := by
  rintro pins s σ H x y v u Q I rx ry ⟨⟨w1, w2⟩, S, ρ, R, ⟨r1, r2⟩, g⟩
  have g : Gives (notInM w1 w2 S) _ _ := g
  unfold notInM at g
  split at g
  · rename_i a b e1 e2
    obtain ⟨d1, l1⟩ := toD_rep e1 R r1 (by simp only [nd])
    obtain ⟨d2, l2⟩ := toD_rep e2 R r2 (by simp only [nd])
    cases d1; cases d2
    exact op_notin_str pins s σ H _ _ v u Q I rx ry ⟨_, _, rfl, rfl, g ρ H (.bl _) Ext.refl R (.bl _)⟩
  · rename_i a ds e1 e2
    split at g
    · rename_i hd
      obtain ⟨d1, l1⟩ := toD_rep e1 R r1 hd.2.1
      obtain ⟨d2, l2⟩ := toD_rep e2 R r2 (by simpa only [nd] using hd.2.2)
      have hd := hd.1
      obtain ⟨as, q1⟩ := Dp.reads I a x v d1 rx
      obtain ⟨bs, q2⟩ := Dp.reads I _ y u d2 ry
      exact SeqAt.notIn_list_reads q2 q1 (lay_list l2) l1 (by omega) ⟨.bl _, H, I, rfl, g ρ H (.bl _) Ext.refl R (.bl _)⟩
    · exact g.elim
  · rename_i a ds e1 e2
    split at g
    · rename_i hd
      obtain ⟨d1, l1⟩ := toD_rep e1 R r1 hd.2.1
      obtain ⟨d2, l2⟩ := toD_rep e2 R r2 (by simpa only [nd] using hd.2.2)
      have hd := hd.1
      obtain ⟨as, q1⟩ := Dp.reads I a x v d1 rx
      obtain ⟨bs, q2⟩ := Dp.reads I _ y u d2 ry
      exact SeqAt.notIn_tuple_reads q2 q1 (lay_tup l2) l1 (by omega) ⟨.bl _, H, I, rfl, g ρ H (.bl _) Ext.refl R (.bl _)⟩
    · exact g.elim
  · exact g.elim
/-- order of ints and of texts -/
def ltM (x y : W) : M W := match x, y with
  | .d (.int i), .d (.int j) => pr (okb (decide (i < j)))
  | .d (.str a), .d (.str b) => pr (okb (decide (a.cps.toList < b.cps.toList)))
  | _, _ => no
def leM (x y : W) : M W := match x, y with
  | .d (.int i), .d (.int j) => pr (okb (decide (i ≤ j)))
  | _, _ => no
def gtM (x y : W) : M W := match x, y with
  | .d (.int i), .d (.int j) => pr (okb (decide (j < i)))
  | _, _ => no
def geM (x y : W) : M W := match x, y with
  | .d (.int i), .d (.int j) => pr (okb (decide (j ≤ i)))
  | _, _ => no
theorem o_lt : OpR X (compareOp .Lt) (r2M X.K Z ltM) := by
  rintro pins s σ H x y v u Q I rx ry ⟨⟨w1, w2⟩, S, ρ, R, ⟨r1, r2⟩, g⟩
  have g : Gives (ltM w1 w2 S) _ _ := g
  unfold ltM at g
  split at g
  · rename_i i j
    cases r1; cases r2
    exact op_lt pins s σ H _ _ v u Q I rx ry ⟨_, _, rfl, rfl, g ρ H (.bl _) Ext.refl R (.bl _)⟩
  · rename_i i j
    cases r1; cases r2
    exact op_lt_str pins s σ H _ _ v u Q I rx ry ⟨_, _, rfl, rfl, g ρ H (.bl _) Ext.refl R (.bl _)⟩
  · exact g.elim
theorem o_le : OpR X (compareOp .LtE) (r2M X.K Z leM) := by
  rintro pins s σ H x y v u Q I rx ry ⟨⟨w1, w2⟩, S, ρ, R, ⟨r1, r2⟩, g⟩
  have g : Gives (leM w1 w2 S) _ _ := g
  unfold leM at g
  split at g
  · rename_i i j
    cases r1; cases r2
    exact op_le pins s σ H _ _ v u Q I rx ry ⟨_, _, rfl, rfl, g ρ H (.bl _) Ext.refl R (.bl _)⟩
  · exact g.elim
theorem o_gt : OpR X (compareOp .Gt) (r2M X.K Z gtM) := by
  rintro pins s σ H x y v u Q I rx ry ⟨⟨w1, w2⟩, S, ρ, R, ⟨r1, r2⟩, g⟩
  have g : Gives (gtM w1 w2 S) _ _ := g
  unfold gtM at g
  split at g
  · rename_i i j
    cases r1; cases r2
    exact op_gt pins s σ H _ _ v u Q I rx ry ⟨_, _, rfl, rfl, g ρ H (.bl _) Ext.refl R (.bl _)⟩
  · exact g.elim
theorem o_ge : OpR X (compareOp .GtE) (r2M X.K Z geM) := by
  rintro pins s σ H x y v u Q I rx ry ⟨⟨w1, w2⟩, S, ρ, R, ⟨r1, r2⟩, g⟩
  have g : Gives (geM w1 w2 S) _ _ := g
  unfold geM at g
  split at g
  · rename_i i j
    cases r1; cases r2
    exact op_ge pins s σ H _ _ v u Q I rx ry ⟨_, _, rfl, rfl, g ρ H (.bl _) Ext.refl R (.bl _)⟩
  · exact g.elim
/-- is None, is True, is False -/
def isNone : W → Bool
  | .d .none => true
  | _ => false
def isBl (b : Bool) : W → Option Bool
  | .d (.bool a) => some (decide (a = b))
  | _ => none
def isD (x : W) : D → Option Bool
  | .none => some (isNone x)
  | .bool b => isBl b x
  | _ => none
theorem isBl_of {b c : Bool} {w : W} (h : isBl b w = some c) : ∃ a, w = .d (.bool a) ∧ c = decide (a = b) := by
  unfold isBl at h
  split at h
  · cases h; exact ⟨_, rfl, rfl⟩
  · cases h
def isM (x y : W) : M W := match y with
  | .d d => match isD x d with
    | some b => pr (okb b)
    | none => no
  | _ => no
def isNotM (x y : W) : M W := match y with
  | .d d => match isD x d with
    | some b => pr (okb !b)
    | none => no
  | _ => no
theorem isN_rep {K : PySem.W.Frag} {ρ : Pl} {H : Hp} {L : Addr → Prop} {w : W} {v : V} (r : RW K ρ H L w v) : isNone w = decide (v = .non) := by
  cases w with
  | d x =>
    cases x with
    | none => cases r; rfl
    | bool _ => cases r; rfl
    | int _ => cases r; rfl
    | str _ => cases r; rfl
    | list _ => cases r; rfl
    | tuple _ => cases r; rfl
    | dict _ => cases r; rfl
  | r n => obtain ⟨a, _, h⟩ := r; subst h; rfl
  | s ns => obtain ⟨a, h, _⟩ := r; subst h; rfl
theorem isD_rep {K : PySem.W.Frag} {ρ : Pl} {H : Hp} {L : Addr → Prop} {w : W} {x y : V} {d : D} {b : Bool} (h : isD w d = some b) (r1 : RW K ρ H L w x) (r2 : RW K ρ H L (.d d) y) :
    (y = .non ∧ b = decide (x = .non)) ∨ (∃ a c, x = .bl a ∧ y = .bl c ∧ b = decide (a = c)) := by
  cases d with
  | none =>
    cases r2
    refine .inl ⟨rfl, ?_⟩
    rw [← isN_rep r1]
    exact (Option.some.inj h).symm
  | bool c =>
    cases r2
    obtain ⟨a, e1, e2⟩ := isBl_of (show isBl c w = some b from h)
    subst e1 e2
    cases r1
    exact .inr ⟨a, c, rfl, rfl, rfl⟩
  | int _ => cases h
  | str _ => cases h
  | list _ => cases h
  | tuple _ => cases h
  | dict _ => cases h
theorem isM_gives {w u : W} {S : Sto} {P : W → Sto → Prop} {E : Ex → Sto → Prop} (g : Gives (isM w u S) P E) : ∃ d b, u = .d d ∧ isD w d = some b ∧ P (okb b) S := by
  cases u with
  | d d =>
    unfold isM at g
    cases e : isD w d with
    | none => simp only [e] at g; exact g.elim
    | some b => simp only [e] at g; exact ⟨d, b, rfl, e, g⟩
  | r n => exact g.elim
  | s n => exact g.elim
theorem isNotM_gives {w u : W} {S : Sto} {P : W → Sto → Prop} {E : Ex → Sto → Prop} (g : Gives (isNotM w u S) P E) : ∃ d b, u = .d d ∧ isD w d = some b ∧ P (okb !b) S := by
  cases u with
  | d d =>
    unfold isNotM at g
    cases e : isD w d with
    | none => simp only [e] at g; exact g.elim
    | some b => simp only [e] at g; exact ⟨d, b, rfl, e, g⟩
  | r n => exact g.elim
  | s n => exact g.elim
theorem o_is : OpR X (compareOp .Is) (r2M X.K Z isM) := by
  rintro pins s σ H x y v u Q I rx ry ⟨⟨w1, w2⟩, S, ρ, R, ⟨r1, r2⟩, g⟩
  obtain ⟨d, b, e1, e2, g⟩ := isM_gives g
  change w2 = _ at e1
  subst e1
  rcases isD_rep e2 r1 r2 with ⟨h1, h2⟩ | ⟨a, c, h1, h2, h3⟩
  · subst h2
    exact op_isN pins s σ H _ _ v u Q I rx ry ⟨h1, g ρ H (.bl _) Ext.refl R (.bl _)⟩
  · subst h3
    exact op_isBl pins s σ H _ _ v u Q I rx ry ⟨_, _, h1, h2, g ρ H (.bl _) Ext.refl R (.bl _)⟩
theorem o_isNot : OpR X (compareOp .IsNot) (r2M X.K Z isNotM) := by
  rintro pins s σ H x y v u Q I rx ry ⟨⟨w1, w2⟩, S, ρ, R, ⟨r1, r2⟩, g⟩
  obtain ⟨d, b, e1, e2, g⟩ := isNotM_gives g
  change w2 = _ at e1
  subst e1
  rcases isD_rep e2 r1 r2 with ⟨h1, h2⟩ | ⟨a, c, h1, h2, h3⟩
  · subst h2
    exact op_notN pins s σ H _ _ v u Q I rx ry ⟨h1, g ρ H (.bl _) Ext.refl R (.bl _)⟩
  · subst h3
    exact op_notBl pins s σ H _ _ v u Q I rx ry ⟨_, _, h1, h2, g ρ H (.bl _) Ext.refl R (.bl _)⟩
/-! ### arithmetic, texts and lists together -/
def addM (x y : W) : M W := fun S => match x, y with
  | .d (.int i), .d (.int j) => .ok (.d (.int (i + j))) S
  | .d (.str a), .d (.str b) => if a.length + b.length ≤ sizeLine then .ok (.d (.str (a ++ b))) S else .no
  | _, _ => match seqOf x S, seqOf y S with
    | some (true, xs), some (true, ys) => lstM (xs ++ ys) S
    | some (false, xs), some (false, ys) => tupM (xs ++ ys) S
    | _, _ => .no
theorem okS_app {a b : Str} (ha : okS a = true) (hb : okS b = true) : okS (a ++ b) = true := by
  unfold okS PyData.strOk at *
  show (a.cps ++ b.cps).all _ = true
  rw [Array.all_append, ha, hb]
  rfl
theorem RWs.app {K : PySem.W.Frag} {ρ : Pl} {H : Hp} {L : Addr → Prop} {ws ws' : List W} {vs vs' : List V} (p : RWs K ρ H L ws vs) (q : RWs K ρ H L ws' vs') : RWs K ρ H L (ws ++ ws') (vs ++ vs') := by
  induction p with
  | nil => exact q
  | cons a _ ih => exact .cons a ih
theorem o_add : OpR X (binaryOp .Add) (r2M X.K Z addM) := by
  rintro pins s σ H x y v u Q I rx ry ⟨⟨w1, w2⟩, S, ρ, R, ⟨r1, r2⟩, g⟩
  have g : Gives (addM w1 w2 S) _ _ := g
  unfold addM at g
  split at g
  · rename_i i j
    cases r1; cases r2
    exact op_add pins s σ H _ _ v u Q I rx ry ⟨_, _, rfl, rfl, g ρ H (.int _) Ext.refl R (.int _)⟩
  · rename_i i j
    split at g
    · rename_i hl
      cases r1 with
      | str _ o1 =>
        cases r2 with
        | str _ o2 => exact op_add_str pins s σ H _ _ v u Q I rx ry ⟨_, _, rfl, rfl, hl, g ρ H (.str _) Ext.refl R (.str _ (okS_app o1 o2))⟩
    · exact g.elim
  · split at g
    · rename_i xs ys e1 e2
      obtain ⟨a, vs, rfl, p1, q1⟩ := seqOf_rep e1 R r1
      obtain ⟨b, us, rfl, p2, q2⟩ := seqOf_rep e2 R r2
      rw [if_pos rfl] at q1 q2
      obtain ⟨ds, hl, g, hn⟩ := lstM_new g R (RWs.app p1 p2)
      exact op_cat pins s σ H _ _ v u Q I rx ry ⟨a, b, vs, us, rfl, rfl, q1, q2, by simpa using hl, fun p hp => g ρ _ _ (Ext.frz hp) (R.frz hp) (hn p hp)⟩
    · rename_i xs ys e1 e2
      have e1' := e1
      have e2' := e2
      obtain ⟨a, vs, rfl, p1, q1⟩ := seqOf_rep e1 R r1
      obtain ⟨b, us, rfl, p2, q2⟩ := seqOf_rep e2 R r2
      rw [if_neg Bool.false_ne_true] at q1 q2
      have hz := g
      unfold tupM at g
      split at g
      · rename_i hs
        split at g
        · rename_i ds ed
          have n1 := Paired.length p1
          have n2 := Paired.length p2
          -- the data of both
          have split2 : ∀ {w : W} {zs : List W}, seqOf w S = some (false, zs) → ∃ es, w = .d (.tuple es) ∧ zs = es.map .d := fun {w zs} h => by
            unfold seqOf at h
            split at h
            · cases h
            · rename_i es; cases h; exact ⟨es, rfl, rfl⟩
            · split at h <;> cases h
            · cases h
          obtain ⟨es1, k1, k2⟩ := split2 e1'
          obtain ⟨es2, k3, k4⟩ := split2 e2'
          subst k1 k2 k3 k4
          rw [← List.map_append, allD_map] at ed
          cases ed
          refine op_catA pins s σ H _ _ v u Q I rx ry ⟨a, b, vs, us, rfl, rfl, q1, q2, by simp at hs n1 n2; omega, fun hx => ?_, fun hx hy => ?_, fun hx hy p hp => ?_⟩
          · subst hx
            have : es1 = [] := by simpa using n1
            subst this
            exact g ρ H _ Ext.refl R r2
          · subst hy
            have : es2 = [] := by simpa using n2
            subst this
            rw [List.append_nil] at g
            exact g ρ H _ Ext.refl R r1
          · obtain ⟨ds, hl, g', hn⟩ := tupM_new hz R (RWs.app p1 p2)
            exact g' ρ _ _ (Ext.frz hp) (R.frz hp) (hn p hp)
        · exact g.elim
      · exact g.elim
    · exact g.elim
def subM (x y : W) : M W := match x, y with
  | .d (.int i), .d (.int j) => pr (.d (.int (i - j)))
  | _, _ => no
theorem o_sub : OpR X (binaryOp .Sub) (r2M X.K Z subM) := by
  rintro pins s σ H x y v u Q I rx ry ⟨⟨w1, w2⟩, S, ρ, R, ⟨r1, r2⟩, g⟩
  have g : Gives (subM w1 w2 S) _ _ := g
  unfold subM at g
  split at g
  · rename_i i j
    cases r1; cases r2
    exact op_sub pins s σ H _ _ v u Q I rx ry ⟨_, _, rfl, rfl, g ρ H (.int _) Ext.refl R (.int _)⟩
  · exact g.elim
/-- ints, one of them not great; a tuple so many times -/
def mulM (x y : W) : M W := fun S => match x, y with
  | .d (.int i), .d (.int j) => if (-(2 ^ 64) < i ∧ i < 2 ^ 64) ∨ (-(2 ^ 64) < j ∧ j < 2 ^ 64) then .ok (.d (.int (i * j))) S else .no
  | .d (.tuple ds), .d (.int k) => if ds ≠ [] ∧ 2 ≤ k ∧ k ≤ 1000 ∧ ds.length ≤ 1000 then .ok (.d (.tuple (List.replicate k.toNat ds).flatten)) S else .no
  | _, _ => .no
theorem RpA.app {K : PySem.W.Frag} {H : Hp} {L : Addr → Prop} : ∀ {ds es : List D} {vs us : List V}, RpA K H L vs ds → RpA K H L us es → RpA K H L (vs ++ us) (ds ++ es)
  | [], _, _, _, a, b => by cases a; exact b
  | d :: ds, _, _, _, a, b => by cases a with | cons x y => exact .cons x (RpA.app y b)
theorem RpA.rep {K : PySem.W.Frag} {H : Hp} {L : Addr → Prop} {ds : List D} {vs : List V} (h : RpA K H L vs ds) : ∀ n : Nat, RpA K H L (List.replicate n vs).flatten (List.replicate n ds).flatten
  | 0 => .nil
  | n + 1 => by
    rw [List.replicate_succ, List.replicate_succ, List.flatten_cons, List.flatten_cons]
    exact h.app (RpA.rep h n)
theorem o_mul : OpR X (binaryOp .Mult) (r2M X.K Z mulM) := by
  rintro pins s σ H x y v u Q I rx ry ⟨⟨w1, w2⟩, S, ρ, R, ⟨r1, r2⟩, g⟩
  have g : Gives (mulM w1 w2 S) _ _ := g
  unfold mulM at g
  split at g
  · rename_i i j
    split at g
    · rename_i hc
      cases r1; cases r2
      exact op_mul pins s σ H _ _ v u Q I rx ry ⟨_, _, rfl, rfl, hc, g ρ H (.int _) Ext.refl R (.int _)⟩
    · exact g.elim
  · rename_i ds k _
    split at g
    · rename_i hc
      obtain ⟨c1, c2, c3, c4⟩ := hc
      cases r1 with
      | @tup a xs _ qt ra =>
        cases r2
        have hl := ra.length
        refine op_repT pins s σ H _ _ v u Q I rx ry ⟨a, k, xs, rfl, rfl, qt.sq, fun z => c1 ?_, c2, c3, by omega, fun p hp => ?_⟩
        · subst z; cases ra; rfl
        · have ex : Ext S ρ H S ρ (upd H p (.tup (List.replicate k.toNat xs).flatten)) := Ext.frz hp
          exact g ρ _ _ ex (R.frz hp) (.tup (.inl ⟨.inl upd_same, R.notLive hp⟩) (RpA.ext ex.stabL ex.newL _ _ (ra.rep _)))
    · exact g.elim
  · exact g.elim
/-- // and % by what is positive (// by what is not great) -/
def fdvM (x y : W) : M W := match x, y with
  | .d (.int i), .d (.int j) => if 0 < j ∧ j < 1073741824 then pr (.d (.int (i / j))) else no
  | _, _ => no
theorem o_fdv : OpR X (binaryOp .FloorDiv) (r2M X.K Z fdvM) := by
  rintro pins s σ H x y v u Q I rx ry ⟨⟨w1, w2⟩, S, ρ, R, ⟨r1, r2⟩, g⟩
  have g : Gives (fdvM w1 w2 S) _ _ := g
  unfold fdvM at g
  split at g
  · rename_i i j
    split at g
    · rename_i hc
      cases r1; cases r2
      exact op_fdiv pins s σ H _ _ v u Q I rx ry ⟨_, _, rfl, rfl, hc, g ρ H (.int _) Ext.refl R (.int _)⟩
    · exact g.elim
  · exact g.elim
def modM (x y : W) : M W := match x, y with
  | .d (.int i), .d (.int j) => if 0 < j then pr (.d (.int (i % j))) else no
  | _, _ => no
theorem o_mod : OpR X (binaryOp .Mod) (r2M X.K Z modM) := by
  rintro pins s σ H x y v u Q I rx ry ⟨⟨w1, w2⟩, S, ρ, R, ⟨r1, r2⟩, g⟩
  have g : Gives (modM w1 w2 S) _ _ := g
  unfold modM at g
  split at g
  · rename_i i j
    split at g
    · rename_i hc
      cases r1; cases r2
      exact op_mod pins s σ H _ _ v u Q I rx ry ⟨_, _, rfl, rfl, hc, g ρ H (.int _) Ext.refl R (.int _)⟩
    · exact g.elim
  · exact g.elim
def powM (x y : W) : M W := match x, y with
  | .d (.int i), .d (.int j) => if 0 ≤ j ∧ j ≤ 1000000 ∧ i.natAbs < 2 ^ 64 then pr (.d (.int (i ^ j.toNat))) else no
  | _, _ => no
theorem o_pow : OpR X (binaryOp .Pow) (r2M X.K Z powM) := by
  rintro pins s σ H x y v u Q I rx ry ⟨⟨w1, w2⟩, S, ρ, R, ⟨r1, r2⟩, g⟩
  have g : Gives (powM w1 w2 S) _ _ := g
  unfold powM at g
  split at g
  · rename_i i j
    split at g
    · rename_i hc
      cases r1; cases r2
      exact op_pow pins s σ H _ _ v u Q I rx ry ⟨_, _, rfl, rfl, hc, g ρ H (.int _) Ext.refl R (.int _)⟩
    · exact g.elim
  · exact g.elim
def negM (x : W) : M W := match x with
  | .d (.int i) => pr (.d (.int (-i)))
  | _ => no
theorem o_neg : UnR X (unaryOp .USub) (r1M X.K Z negM) := by
  rintro pins s σ H x v Q I rx ⟨w1, S, ρ, R, r1, g⟩
  unfold negM at g
  split at g
  · cases r1
    exact un_neg pins s σ H _ v Q I rx ⟨_, rfl, g ρ H (.int _) Ext.refl R (.int _)⟩
  · exact g.elim
end
end DL
/-! DL7: built-ins, subscripts, slices, methods of lists and texts; own defs. -/
namespace DL
open PySem PySem.Spec PyProof.Rows L2

def lenM (ws : List W) : M W := fun S => match ws with
  | [.d (.str x)] => if x.length ≤ sizeLine then .ok (.d (.int x.length)) S else .no
  | [w] => match seqOf w S with
    | some (_, ws) => .ok (.d (.int ws.length)) S
    | none => .no
  | _ => .no
def cutL {α : Type} (xs : List α) (lo hi : Option Int) : List α := (xs.drop (HT.sIx xs.length 0 lo)).take (HT.sIx xs.length xs.length hi - HT.sIx xs.length 0 lo)
def itemM (x y : W) : M W := fun S => match x, y with
  | .d (.str z), .d (.int i) => if z.length ≤ sizeLine then (match atI z.cps.toList i with | some c => .ok (.d (.str ⟨#[c]⟩)) S | none => .no) else .no
  | _, .d (.int i) => match seqOf x S with
    | some (_, ws) => match atI ws i with
      | some w => .ok w S
      | none => .no
    | none => .no
  | _, _ => .no
def sliceM (x : W) (lo hi : Option Int) : M W := fun S => match x with
  | .d (.str z) => if z.length ≤ sizeLine then .ok (.d (.str (cutS z lo hi))) S else .no
  | .d (.list ds) => .ok (.d (.list (cutL ds lo hi))) S
  | .d (.tuple ds) => .ok (.d (.tuple (cutL ds lo hi))) S
  | .s ns => .ok (.d (.list ((cutL ns lo hi).map .int))) S
  | _ => .no
def tupleM (ws : List W) : M W := fun S => match ws with
  | [w] => match toD w S with
    | some (.list ds) => .ok (.d (.tuple ds)) S
    | some (.tuple ds) => .ok (.d (.tuple ds)) S
    | _ => .no
  | _ => .no
def listM (ws : List W) : M W := fun S => match ws with
  | [w] => match toD w S with
    | some (.list ds) => .ok (.d (.list ds)) S
    | some (.tuple ds) => .ok (.d (.list ds)) S
    | _ => .no
  | _ => .no
def bools : List D → Option (List Bool)
  | [] => some []
  | .bool b :: r => (bools r).map (b :: ·)
  | _ => none
def allM (ws : List W) : M W := fun S => match ws with
  | [w] => match toD w S with
    | some (.list ds) => match bools ds with
      | some bs => .ok (okb (bs.all id)) S
      | none => .no
    | _ => .no
  | _ => .no
def anyM (ws : List W) : M W := fun S => match ws with
  | [w] => match toD w S with
    | some (.list ds) => match bools ds with
      | some bs => .ok (okb (bs.any id)) S
      | none => .no
    | _ => .no
  | _ => .no
def intM (ws : List W) : M W := match ws with
  | [.d (.int i)] => pr (.d (.int i))
  | [.d (.bool b)] => pr (.d (.int (if b then 1 else 0)))
  | _ => no
def absM (ws : List W) : M W := match ws with
  | [.d (.int i)] => pr (.d (.int (if i < 0 then -i else i)))
  | _ => no
theorem bools_nd : ∀ {ds : List D} {bs : List Bool}, bools ds = some bs → ndA ds = true
  | [], _, _ => by simp only [ndA]
  | d :: ds, bs, h => by
    cases d with
    | bool b =>
      simp only [bools, Option.map_eq_some_iff] at h
      obtain ⟨cs, h1, h2⟩ := h
      simp only [ndA, nd, Bool.true_and]
      exact bools_nd h1
    | none => simp [bools] at h
    | int _ => simp [bools] at h
    | str _ => simp [bools] at h
    | list _ => simp [bools] at h
    | tuple _ => simp [bools] at h
    | dict _ => simp [bools] at h
theorem bools_rep {K : PySem.W.Frag} {H : Hp} : ∀ {ds : List D} {bs : List Bool} {vs : List V}, bools ds = some bs → DpAll K H vs ds → vs = bs.map V.bl
  | [], _, _, h, r => by cases r; cases h; rfl
  | d :: ds, bs, _, h, r => by
    cases d with
    | bool b =>
      simp only [bools, Option.map_eq_some_iff] at h
      obtain ⟨cs, h1, h2⟩ := h
      subst h2
      cases r with
      | cons a b =>
        cases a
        rw [bools_rep h1 b]
        rfl
    | _ => cases h
theorem atI_map {α β : Type} (f : α → β) {xs : List α} {i : Int} : atI (xs.map f) i = (atI xs i).map f := by
  unfold atI
  rw [List.length_map]
  cases ixN xs.length i with
  | none => rfl
  | some j => simp
theorem Paired.atI {α β : Type} {F : α → β → Prop} {xs : List α} {ys : List β} {i : Int} {x : α} (p : Paired F xs ys) (h : L2.atI xs i = some x) : ∃ y, L2.atI ys i = some y ∧ F x y := by
  unfold L2.atI at *
  rw [← Paired.length p]
  cases e : ixN xs.length i with
  | none => rw [e] at h; cases h
  | some j =>
    rw [e] at h
    exact Paired.at' p h
theorem RpA.take {K : PySem.W.Frag} {H : Hp} {L : Addr → Prop} : ∀ {ds : List D} {vs : List V} (n : Nat), RpA K H L vs ds → RpA K H L (vs.take n) (ds.take n)
  | _, _, 0, _ => by simp; exact .nil
  | [], _, n + 1, h => by cases h; exact .nil
  | d :: ds, _, n + 1, h => by cases h with | cons a b => exact .cons a (RpA.take n b)
theorem RpA.drop {K : PySem.W.Frag} {H : Hp} {L : Addr → Prop} : ∀ {ds : List D} {vs : List V} (n : Nat), RpA K H L vs ds → RpA K H L (vs.drop n) (ds.drop n)
  | _, _, 0, h => h
  | [], _, n + 1, h => by cases h; exact .nil
  | d :: ds, _, n + 1, h => by cases h with | cons a b => exact RpA.drop n b
theorem RpA.cut {K : PySem.W.Frag} {H : Hp} {L : Addr → Prop} {ds : List D} {vs : List V} (lo hi : Option Int) (h : RpA K H L vs ds) : RpA K H L (cutV vs lo hi) (cutL ds lo hi) := by
  unfold cutV cutL
  rw [h.length]
  exact (h.drop _).take _
theorem RpA.ints {K : PySem.W.Frag} {H : Hp} {L : Addr → Prop} : ∀ ns : List Int, RpA K H L (ns.map V.int) (ns.map .int)
  | [] => .nil
  | n :: ns => .cons (.int n) (RpA.ints ns)
theorem cutV_ints (ns : List Int) (lo hi : Option Int) : cutV (ns.map V.int) lo hi = (cutL ns lo hi).map V.int := by
  unfold cutV cutL
  rw [List.length_map, List.map_take, List.map_drop]
theorem okS_cut {z : Str} (h : okS z = true) (lo hi : Option Int) : okS (cutS z lo hi) = true := by
  unfold okS PyData.strOk at *
  unfold cutS
  rw [← Array.all_toList] at *
  rw [List.all_eq_true] at *
  intro c hc
  exact h c (List.mem_of_mem_drop (List.mem_of_mem_take (by simpa using hc)))
section
variable {X : Cx} {Z : XZ}
/-- new data that nobody changes, from items that stand -/
theorem newL_rep {K : PySem.W.Frag} {S : Sto} {ρ : Pl} {H : Hp} {p : Addr} {vs : List V} {ds : List D} (R : Rel K S ρ H) (hp : H p = none) (ra : RpA K H (Live S ρ) vs ds) : RW K ρ (upd H p (.lst vs)) (Live S ρ) (.d (.list ds)) (.ref p) := by
  have ex : Ext S ρ H S ρ (upd H p (.lst vs)) := Ext.frz hp
  exact .lst ⟨upd_same, R.notLive hp⟩ (RpA.ext ex.stabL ex.newL _ _ ra)
theorem newT_rep {K : PySem.W.Frag} {S : Sto} {ρ : Pl} {H : Hp} {p : Addr} {vs : List V} {ds : List D} (R : Rel K S ρ H) (hp : H p = none) (ra : RpA K H (Live S ρ) vs ds) : RW K ρ (upd H p (.tup vs)) (Live S ρ) (.d (.tuple ds)) (.ref p) := by
  have ex : Ext S ρ H S ρ (upd H p (.tup vs)) := Ext.frz hp
  exact .tup (.inl ⟨.inl upd_same, R.notLive hp⟩) (RpA.ext ex.stabL ex.newL _ _ ra)
/-- what stands as a list, with its items (of the store too) -/
theorem toD_items {K : PySem.W.Frag} {S : Sto} {ρ : Pl} {H : Hp} {w : W} {v : V} (R : Rel K S ρ H) (r : RW K ρ H (Live S ρ) w v) :
    (∀ ds, toD w S = some (.list ds) → ∃ a vs, v = .ref a ∧ H a = some (.lst vs) ∧ RpA K H (Live S ρ) vs ds) ∧ (∀ ds, toD w S = some (.tuple ds) → w = .d (.tuple ds) ∧ ∃ a vs, v = .ref a ∧ SqT K H a vs ∧ RpA K H (Live S ρ) vs ds) := by
  cases w with
  | d x =>
    refine ⟨fun ds h => ?_, fun ds h => ?_⟩
    · cases h
      cases r with
      | lst q ra => exact ⟨_, _, rfl, q.1, ra⟩
    · cases h
      refine ⟨rfl, ?_⟩
      cases r with
      | tup q ra => exact ⟨_, _, rfl, q.sq, ra⟩
  | r n =>
    obtain ⟨a, h1, h2⟩ := r
    have key : ∀ d, toD (.r n) S = some d → ∃ ds vs, d = .list ds ∧ H a = some (.lst vs) ∧ RpA K H (Live S ρ) vs ds := fun d h => by
      unfold toD at h
      simp only at h
      split at h
      · rename_i ws e
        simp only [Option.map_eq_some_iff] at h
        obtain ⟨ds, z1, z2⟩ := h
        obtain ⟨a', ho, y1, y2, vs, y3, y4⟩ := R.ob n _ e rfl
        rw [h1] at y1; cases y1
        subst y3
        exact ⟨ds, vs, z2.symm, y2, allD_rep z1 y4⟩
      · cases h
    refine ⟨fun ds h => ?_, fun ds h => ?_⟩
    · obtain ⟨es, vs, z1, z2, z3⟩ := key _ h
      cases z1
      exact ⟨a, vs, h2, z2, z3⟩
    · obtain ⟨es, vs, z1, _⟩ := key _ h
      cases z1
  | s ns => exact ⟨fun _ h => (by cases h), fun _ h => by cases h⟩
theorem c_len : CallR X (.builtin "len") (rcM X.K Z lenM) := by
  rintro pins s σ H xs us Q I rv ⟨ws, S, ρ, R, rw, g⟩
  unfold lenM at g
  split at g
  · split at g
    · rename_i x hl
      cases rw with
      | cons a b =>
        cases b
        cases a with
        | str _ o => exact call_len pins s σ H _ us Q I rv ⟨_, _, rfl, ⟨hl, rfl⟩, g ρ H (.int _) Ext.refl R (.int _)⟩
    · exact g.elim
  · split at g
    · rename_i w _ k ws' e
      cases rw with
      | cons a b =>
        cases b
        obtain ⟨p, ys, rfl, rws, hq⟩ := seqOf_rep e R a
        have hn := Paired.length rws
        refine call_len_seq pins s σ H _ us Q I rv ⟨p, ys, rfl, ?_, ?_⟩
        · cases k with
          | true => rw [if_pos rfl] at hq; exact .inl (.of hq)
          | false => rw [if_neg Bool.false_ne_true] at hq; exact .inr hq
        · rw [← hn]; exact g ρ H (.int _) Ext.refl R (.int _)
    · exact g.elim
  · exact g.elim
theorem x_item : IxR X (r2M X.K Z itemM) := by
  rintro value slice pins s σ H x y v u Q I rx ry ⟨⟨w1, w2⟩, S, ρ, R, ⟨r1, r2⟩, g⟩ hs
  change Gives (itemM w1 w2 S) _ _ at g
  unfold itemM at g
  split at g
  · rename_i z i
    split at g
    · rename_i hl
      split at g
      · rename_i c e
        cases r2
        cases r1 with
        | str _ o =>
          refine ix_str value slice pins s σ H _ _ v u Q I rx ry ⟨z, i, c, rfl, rfl, hl, e, g ρ H (.str _) Ext.refl R (.str _ ?_)⟩ hs
          unfold L2.atI at e
          cases ej : ixN z.cps.toList.length i with
          | none => rw [ej] at e; cases e
          | some j =>
            rw [ej] at e
            have e : z.cps.toList[j]? = some c := e
            exact okS_sign o (i := j) (by simpa using e)
      · exact g.elim
    · exact g.elim
  · rename_i i _
    split at g
    · rename_i k ws e
      split at g
      · rename_i w ew
        cases r2
        obtain ⟨p, ys, rfl, rws, hq⟩ := seqOf_rep e R r1
        obtain ⟨y, h1, h2⟩ := Paired.atI rws ew
        cases k with
        | true =>
          rw [if_pos rfl] at hq
          exact ix_list value slice pins s σ H _ _ v u Q I rx ry ⟨p, ys, i, y, rfl, rfl, .of hq, h1, g ρ H y Ext.refl R h2⟩ hs
        | false =>
          rw [if_neg Bool.false_ne_true] at hq
          exact ix_tup value slice pins s σ H _ _ v u Q I rx ry ⟨p, ys, i, y, rfl, rfl, hq, h1, g ρ H y Ext.refl R h2⟩ hs
      · exact g.elim
    · exact g.elim
  · exact g.elim
theorem x_slice : SlR X (rsM X.K Z sliceM) := by
  rintro pins s σ H x v vl vu lo hi sl Q I rx hs pl pu ⟨w, S, ρ, R, r, g⟩
  change Gives (sliceM w lo hi S) _ _ at g
  unfold sliceM at g
  split at g
  · rename_i z
    split at g
    · rename_i hl
      cases r with
      | str _ o => exact sl_str pins s σ H _ v vl vu lo hi sl Q I rx hs pl pu ⟨z, rfl, hl, g ρ H (.str _) Ext.refl R (.str _ (okS_cut o _ _))⟩
    · exact g.elim
  · rename_i ds
    cases r with
    | lst q ra =>
      exact sl_list pins s σ H _ v vl vu lo hi sl Q I rx hs pl pu ⟨_, _, rfl, q.sq, fun p hp => g ρ _ _ (Ext.frz hp) (R.frz hp) (newL_rep R hp (ra.cut lo hi))⟩
  · rename_i ds
    cases r with
    | @tup a xs _ q ra =>
      refine sl_tupA pins s σ H _ v vl vu lo hi sl Q I rx hs pl pu ⟨_, _, rfl, q.sq, fun hw => ?_, fun hw p hp => g ρ _ _ (Ext.frz hp) (R.frz hp) (newT_rep R hp (ra.cut lo hi))⟩
      have hc : cutL ds lo hi = ds := by
        unfold cutL
        rw [← ra.length, hw.1, hw.2]
        simp [ra.length]
      rw [hc] at g
      exact g ρ H _ Ext.refl R (.tup q ra)
  · rename_i ns
    obtain ⟨a, rfl, q⟩ := r
    refine sl_list pins s σ H _ v vl vu lo hi sl Q I rx hs pl pu ⟨_, _, rfl, q.sq, fun p hp => g ρ _ _ (Ext.frz hp) (R.frz hp) (newL_rep R hp ?_)⟩
    rw [cutV_ints]
    exact RpA.ints _
  · exact g.elim
theorem c_tuple : CallR X (.type "tuple") (rcM X.K Z tupleM) := by
  rintro pins s σ H xs us Q I rv ⟨ws, S, ρ, R, rw, g⟩
  unfold tupleM at g
  split at g
  · rename_i w
    cases rw with
    | cons a b =>
      cases b
      obtain ⟨t1, t2⟩ := toD_items R a
      split at g
      · rename_i ds e
        obtain ⟨p, vs, rfl, h1, h2⟩ := t1 _ e
        exact call_tuple_of pins s σ H _ us Q I rv ⟨p, vs, rfl, .inl ⟨.of h1, fun l hl => g ρ _ _ (Ext.frz hl) (R.frz hl) (newT_rep R hl h2)⟩⟩
      · rename_i ds e
        obtain ⟨ew, p, vs, rfl, h1, h2⟩ := t2 _ e
        subst ew
        exact call_tuple_of pins s σ H _ us Q I rv ⟨p, vs, rfl, .inr ⟨h1, g ρ H _ Ext.refl R a⟩⟩
      · exact g.elim
  · exact g.elim
theorem c_list : CallR X (.type "list") (rcM X.K Z listM) := by
  rintro pins s σ H xs us Q I rv ⟨ws, S, ρ, R, rw, g⟩
  unfold listM at g
  split at g
  · rename_i w
    cases rw with
    | cons a b =>
      cases b
      obtain ⟨t1, t2⟩ := toD_items R a
      split at g
      · rename_i ds e
        obtain ⟨p, vs, rfl, h1, h2⟩ := t1 _ e
        exact call_list_of pins s σ H _ us Q I rv ⟨p, vs, rfl, .inl (.of h1), fun l hl => g ρ _ _ (Ext.frz hl) (R.frz hl) (newL_rep R hl h2)⟩
      · rename_i ds e
        obtain ⟨ew, p, vs, rfl, h1, h2⟩ := t2 _ e
        exact call_list_of pins s σ H _ us Q I rv ⟨p, vs, rfl, .inr h1, fun l hl => g ρ _ _ (Ext.frz hl) (R.frz hl) (newL_rep R hl h2)⟩
      · exact g.elim
  · exact g.elim
theorem c_all (hc : X.calm = true) : CallR X (.builtin "all") (rcM X.K Z allM) := by
  rintro pins s σ H xs us Q I rv ⟨ws, S, ρ, R, rw, g⟩
  unfold allM at g
  split at g
  · rename_i w
    cases rw with
    | cons a b =>
      cases b
      split at g
      · rename_i ds e
        split at g
        · rename_i bs eb
          obtain ⟨d1, _⟩ := toD_rep e R a (by simpa only [nd] using bools_nd eb)
          cases d1 with
          | lst q ra =>
            have := bools_rep eb ra
            subst this
            exact cr_all hc pins s σ H _ us Q I rv ⟨_, bs, rfl, q, g ρ H (.bl _) Ext.refl R (.bl _)⟩
        · exact g.elim
      · exact g.elim
  · exact g.elim
theorem c_any (hc : X.calm = true) : CallR X (.builtin "any") (rcM X.K Z anyM) := by
  rintro pins s σ H xs us Q I rv ⟨ws, S, ρ, R, rw, g⟩
  unfold anyM at g
  split at g
  · rename_i w
    cases rw with
    | cons a b =>
      cases b
      split at g
      · rename_i ds e
        split at g
        · rename_i bs eb
          obtain ⟨d1, _⟩ := toD_rep e R a (by simpa only [nd] using bools_nd eb)
          cases d1 with
          | lst q ra =>
            have := bools_rep eb ra
            subst this
            exact cr_any hc pins s σ H _ us Q I rv ⟨_, bs, rfl, q, g ρ H (.bl _) Ext.refl R (.bl _)⟩
        · exact g.elim
      · exact g.elim
  · exact g.elim
theorem c_int : CallR X (.type "int") (rcM X.K Z intM) := by
  rintro pins s σ H xs us Q I rv ⟨ws, S, ρ, R, rw, g⟩
  unfold intM at g
  split at g
  · cases rw with
    | cons a b =>
      cases b; cases a
      exact call_int1 pins s σ H _ us Q I rv (.inl ⟨_, rfl, g ρ H (.int _) Ext.refl R (.int _)⟩)
  · cases rw with
    | cons a b =>
      cases b; cases a
      exact call_int1 pins s σ H _ us Q I rv (.inr ⟨_, rfl, g ρ H (.int _) Ext.refl R (.int _)⟩)
  · exact g.elim
theorem c_abs : CallR X (.builtin "abs") (rcM X.K Z absM) := by
  rintro pins s σ H xs us Q I rv ⟨ws, S, ρ, R, rw, g⟩
  unfold absM at g
  split at g
  · cases rw with
    | cons a b =>
      cases b; cases a
      exact call_abs pins s σ H _ us Q I rv ⟨_, rfl, g ρ H (.int _) Ext.refl R (.int _)⟩
  · exact g.elim

/-! ### isinstance -/
inductive Kd where
  | non | bl | int | str | lst | tup | dct
  deriving DecidableEq
def Kd.nm : Kd → String
  | .non => "NoneType"
  | .bl => "bool"
  | .int => "int"
  | .str => "str"
  | .lst => "list"
  | .tup => "tuple"
  | .dct => "dict"
def kdD : D → Kd
  | .none => .non
  | .bool _ => .bl
  | .int _ => .int
  | .str _ => .str
  | .list _ => .lst
  | .tuple _ => .tup
  | .dict _ => .dct
def kdW (w : W) (S : Sto) : Option Kd := match w with
  | .d x => some (kdD x)
  | .r n => match S[n]? with
    | some (.lst _) => some .lst
    | some (.dct _) => some .dct
    | _ => none
  | .s _ => some .lst
def Kd.isA (k T : Kd) : Bool := k == T || (k == .bl && T == .int)
theorem kd_kit (k T : Kd) : kitB k.nm T.nm = some (k.isA T) := by cases k <;> cases T <;> decide +kernel
def isiM (Ts : List Kd) (w : W) : M W := fun S => match kdW w S with
  | some k => .ok (okb (Ts.any k.isA)) S
  | none => .no
theorem kdW_rep {K : PySem.W.Frag} {S : Sto} {ρ : Pl} {H : Hp} {w : W} {v : V} {k : Kd} (h : kdW w S = some k) (R : Rel K S ρ H) (r : RW K ρ H (Live S ρ) w v) : TyX K H v (.type k.nm) := by
  cases w with
  | d x =>
    cases h
    cases x with
    | none => cases r; exact .base .non
    | bool _ => cases r; exact .base (.bl _)
    | int _ => cases r; exact .base (.int _)
    | str _ => cases r; exact .base (.str _)
    | list _ => cases r with | lst q _ => exact .base (.lst q.1)
    | tuple _ =>
      cases r with
      | tup q _ =>
        rcases q with ⟨q | ⟨o, q⟩, _⟩ | ⟨o, _, _, e, c, _⟩
        · exact .base (.tup q)
        · exact .fTuple q
        · exact .kTuple e c
    | dict _ => cases r with | dct q => exact .base (.dK q.1)
  | r n =>
    obtain ⟨a, h1, rfl⟩ := r
    unfold kdW at h
    simp only at h
    split at h
    · rename_i ws e
      cases h
      obtain ⟨a', ho, y1, y2, vs, y3, y4⟩ := R.ob n _ e rfl
      rw [h1] at y1; cases y1
      subst y3
      exact .base (.lst y2)
    · rename_i ws e
      cases h
      obtain ⟨a', ho, y1, y2, vs, y3, y4⟩ := R.ob n _ e rfl
      rw [h1] at y1; cases y1
      subst y3
      exact .base (.dK y2)
    · cases h
  | s ns =>
    obtain ⟨a, rfl, q⟩ := r
    cases h
    rcases q with ⟨q | ⟨o, q⟩, _⟩ | ⟨o, _, _, e, c, _⟩
    · exact .base (.lst q)
    · exact .base (.frz q)
    · exact .kList e c
variable {pos : Pos} {a : Expr} {fa : Env → M W}
theorem disi1 {T : Kd} {p p2 : Pos} {x : Str} (hg : Gl X "isinstance") (hm : X.mg "isinstance" = none) (hgT : Gl X x) (hmT : X.mg x = none) (hvT : bootBuiltins x = some (.type T.nm)) (ha : PE X a (tE X.K Z fa))
    (hn : x ≠ "__name__" := by decide) (hd : (x == ("__debug__" : Str)) = false := by decide)
    (he : starEach [a, .Name x p2] X.env = (false, eval a X.env) :: starEach [.Name x p2] X.env := by rfl) (hpl : (backTo pos (starEach [.Name x p2] X.env)).any (·.1) = false := by rfl) :
    PE X (.Call (.Name "isinstance" p) [a, .Name x p2] [] pos) (tE X.K Z fun δ => bd (fa δ) (isiM [T])) := by
  have hT : PE X (.Name x p2) (tC (.ty T.nm)) := pe_bltn hgT hmT hvT rfl hn hd
  refine (pe_callB (r := rIsi X.K) call_isi hg hm (by decide +kernel) (pa_cons ha (pa_cons hT pa_nil) he) (he := he) (hpl := hpl)).imp fun σ H Q h => ?_
  refine (tH.bind (Rα := RW X.K) (f := fa) (g := fun _ w => isiM [T] w) h Stb.env).mono fun v H1 ⟨⟨δ, w⟩, S, ρ, R, ⟨r0, r1⟩, g⟩ => ?_
  change Gives (isiM [T] w S) _ _ at g
  unfold isiM at g
  split at g
  · rename_i k e
    refine ⟨v, .ty T.nm, _, _, k.isA T, rfl, .ty _, kdW_rep e R r1, kit_ty (kd_kit k T), ?_⟩
    have : ([T].any k.isA) = k.isA T := by simp
    rw [this] at g
    exact g ρ H1 (.bl _) Ext.refl R (.bl _)
  · exact g.elim
theorem disi2 {T U : Kd} {p p2 p3 p4 : Pos} {x y : Str} {k4 : Nat} (hg : Gl X "isinstance") (hm : X.mg "isinstance" = none) (hgT : Gl X x) (hmT : X.mg x = none) (hvT : bootBuiltins x = some (.type T.nm)) (hgU : Gl X y) (hmU : X.mg y = none) (hvU : bootBuiltins y = some (.type U.nm)) (ha : PE X a (tE X.K Z fa))
    (hn : x ≠ "__name__" := by decide) (hd : (x == ("__debug__" : Str)) = false := by decide) (hn' : y ≠ "__name__" := by decide) (hd' : (y == ("__debug__" : Str)) = false := by decide)
    (he : starEach [a, .Tuple [.Name x p2, .Name y p3] k4 p4] X.env = (false, eval a X.env) :: starEach [.Tuple [.Name x p2, .Name y p3] k4 p4] X.env := by rfl) (hpl : (backTo pos (starEach [.Tuple [.Name x p2, .Name y p3] k4 p4] X.env)).any (·.1) = false := by rfl) :
    PE X (.Call (.Name "isinstance" p) [a, .Tuple [.Name x p2, .Name y p3] k4 p4] [] pos) (tE X.K Z fun δ => bd (fa δ) (isiM [T, U])) := by
  have hT : PE X (.Name x p2) (tC (.ty T.nm)) := pe_bltn hgT hmT hvT rfl hn hd
  have hU : PE X (.Name y p3) (tC (.ty U.nm)) := pe_bltn hgU hmU hvU rfl hn' hd'
  have hTU : PE X (.Tuple [.Name x p2, .Name y p3] k4 p4) (tTup (tCons (tC (.ty T.nm)) (tCons (tC (.ty U.nm)) tNil))) := pe_tup (pa_cons hT (pa_cons hU pa_nil))
  refine (pe_callB (r := rIsiT X.K) call_isiT hg hm (by decide +kernel) (pa_cons ha (pa_cons hTU pa_nil) he) (he := he) (hpl := hpl)).imp fun σ H Q h => ?_
  refine (tH.bind (Rα := RW X.K) (f := fa) (g := fun _ w => isiM [T, U] w) h Stb.env).mono fun v H1 ⟨⟨δ, w⟩, S, ρ, R, ⟨r0, r1⟩, g⟩ => ?_
  change Gives (isiM [T, U] w S) _ _ at g
  unfold isiM at g
  split at g
  · rename_i k e
    refine ⟨by show 2 ≤ sizeLine; decide, fun t ht => ?_⟩
    have ex : Ext S ρ H1 S ρ (upd H1 t (.tup [.ty T.nm, .ty U.nm])) := Ext.frz ht
    refine ⟨v, t, [.ty T.nm, .ty U.nm], _, [.type T.nm, .type U.nm], k.isA T || k.isA U, rfl, upd_same, .cons (.ty _) (.cons (.ty _) .nil), kdW_rep e (R.frz ht) (r1.ext ex), ?_, ?_⟩
    · refine kitAny_cons (kit_ty (kd_kit k T)) (fun hf => ?_) (fun ht => by rw [ht]; rfl)
      refine kitAny_cons (kit_ty (kd_kit k U)) (fun hf' => ?_) (fun ht => by rw [ht, hf]; rfl)
      rw [hf, hf']
      rfl
    · have : ([T, U].any k.isA) = (k.isA T || k.isA U) := by simp
      rw [this] at g
      exact g ρ _ (.bl _) ex (R.frz ht) (.bl _)
  · exact g.elim

/-! ### lists of the store -/
def chkL (w : W) : M Unit := fun S => match seqOf w S with
  | some (true, _) => .ok () S
  | _ => .no
theorem chkL_ok {K : PySem.W.Frag} : ChkOk K "list" chkL := by
  intro w S ρ H v P E R r g
  unfold chkL at g
  split at g
  · rename_i ws e
    obtain ⟨a, xs, rfl, _, hq⟩ := seqOf_rep e R r
    rw [if_pos rfl] at hq
    exact ⟨.inl ⟨rfl, xs, .of hq⟩, g⟩
  · exact g.elim
def appendM (w : W) (ws : List W) : M W := fun S => match w, ws with
  | .r n, [y] => match S[n]? with
    | some (.lst xs) => if xs.length < sizeLine then .ok (.d .none) (S.set n (.lst (xs ++ [y]))) else .no
    | _ => .no
  | _, _ => .no
def extendM (w : W) (ws : List W) : M W := fun S => match w, ws with
  | .r n, [y] => match S[n]?, seqOf y S with
    | some (.lst xs), some (true, ys) => if xs.length + ys.length ≤ sizeLine then .ok (.d .none) (S.set n (.lst (xs ++ ys))) else .no
    | _, _ => .no
  | _, _ => .no
def popM (w : W) (ws : List W) : M W := fun S => match w, ws with
  | .r n, [] => match S[n]? with
    | some (.lst xs) => match xs[xs.length - 1]? with
      | some y => .ok y (S.set n (.lst xs.dropLast))
      | none => .no
    | _ => .no
  | _, _ => .no
theorem lst_at {K : PySem.W.Frag} {S : Sto} {ρ : Pl} {H : Hp} {n : Nat} {xs : List W} {v : V} (e : S[n]? = some (.lst xs)) (R : Rel K S ρ H) (r : RW K ρ H (Live S ρ) (.r n) v) : ∃ a vs, v = .ref a ∧ ρ.adr[n]? = some a ∧ H a = some (.lst vs) ∧ RWs K ρ H (Live S ρ) xs vs := by
  obtain ⟨a, h1, h2⟩ := r
  obtain ⟨a', ho, y1, y2, vs, y3, y4⟩ := R.ob n _ e rfl
  rw [h1] at y1; cases y1
  subst y3
  exact ⟨a, vs, h2, h1, y2, y4⟩
theorem m_append : MtR X "list.append" (rmM X.K Z appendM) := by
  rintro pins s σ H x xs v us Q I rx rxs ⟨⟨w, ws⟩, S, ρ, R, ⟨r1, r2⟩, g⟩
  change Gives (appendM w ws S) _ _ at g
  unfold appendM at g
  split at g
  · rename_i n y
    split at g
    · rename_i zs e
      split at g
      · rename_i hl
        obtain ⟨a, vs, rfl, h1, h2, h3⟩ := lst_at e R r1
        cases r2 with
        | cons ry rn =>
          cases rn
          have hn := Paired.length h3
          refine mt_append pins s σ H _ _ v us Q I rx rxs ⟨a, vs, _, rfl, rfl, h2, by omega, ?_⟩
          exact g ρ _ .non (Ext.put e rfl h1) (R.put e rfl h1 ⟨_, rfl, RWs.app h3 (.cons ry .nil)⟩) .non
      · exact g.elim
    · exact g.elim
  · exact g.elim
theorem m_extend : MtR X "list.extend" (rmM X.K Z extendM) := by
  rintro pins s σ H x xs v us Q I rx rxs ⟨⟨w, ws⟩, S, ρ, R, ⟨r1, r2⟩, g⟩
  change Gives (extendM w ws S) _ _ at g
  unfold extendM at g
  split at g
  · rename_i n y
    split at g
    · rename_i zs ys e e2
      split at g
      · rename_i hl
        obtain ⟨a, vs, rfl, h1, h2, h3⟩ := lst_at e R r1
        cases r2 with
        | cons ry rn =>
          cases rn
          obtain ⟨b, us', rfl, h4, h5⟩ := seqOf_rep e2 R ry
          rw [if_pos rfl] at h5
          have hn := Paired.length h3
          have hm := Paired.length h4
          refine mt_extend pins s σ H _ _ v us Q I rx rxs ⟨a, b, vs, us', rfl, rfl, h2, h5, by omega, ?_⟩
          exact g ρ _ .non (Ext.put e rfl h1) (R.put e rfl h1 ⟨_, rfl, RWs.app h3 h4⟩) .non
      · exact g.elim
    · exact g.elim
  · exact g.elim
theorem Paired.dropLast' {α β : Type} {F : α → β → Prop} : ∀ {xs : List α} {ys : List β}, Paired F xs ys → Paired F xs.dropLast ys.dropLast
  | _, _, .nil => .nil
  | _, _, .cons a .nil => .nil
  | _, _, .cons a (.cons b c) => .cons a (Paired.dropLast' (.cons b c))
theorem m_pop : MtR X "list.pop" (rmM X.K Z popM) := by
  rintro pins s σ H x xs v us Q I rx rxs ⟨⟨w, ws⟩, S, ρ, R, ⟨r1, r2⟩, g⟩
  change Gives (popM w ws S) _ _ at g
  unfold popM at g
  split at g
  · rename_i n
    split at g
    · rename_i zs e
      split at g
      · rename_i y ey
        obtain ⟨a, vs, rfl, h1, h2, h3⟩ := lst_at e R r1
        cases r2
        have hn := Paired.length h3
        obtain ⟨vy, k1, k2⟩ := Paired.at' h3 ey
        rw [hn] at k1
        have ex : Ext S ρ H (S.set n (.lst zs.dropLast)) ρ (upd H a (.lst vs.dropLast)) := Ext.put e rfl h1
        refine mt_pop pins s σ H _ _ v us Q I rx rxs ⟨a, vs, vy, rfl, rfl, h2, k1, ?_⟩
        exact g ρ _ vy ex (R.put e rfl h1 ⟨_, rfl, Paired.dropLast' h3⟩) (k2.ext ex)
      · exact g.elim
    · exact g.elim
  · exact g.elim
/-- what stands at a name is given up to nobody's change -/
def freezeM (w : W) : M W := fun S => match w with
  | .r n => match S[n]? with
    | some (.lst ws) => match allD ws with
      | some ds => .ok (.d (.list ds)) (S.set n .dead)
      | none => .no
    | _ => .no
  | w => .ok w S
theorem dfreeze (h : PE X a (tE X.K Z fa)) : PE X a (tE X.K Z fun δ => bd (fa δ) freezeM) := by
  refine h.imp fun σ H Q q => ?_
  refine (tH.bind (Rα := RW X.K) (f := fa) (g := fun _ w => freezeM w) q Stb.env).mono fun v H1 ⟨⟨δ, w⟩, S, ρ, R, ⟨r0, r1⟩, g⟩ => ?_
  change Gives (freezeM w S) _ _ at g
  unfold freezeM at g
  split at g
  · rename_i n
    split at g
    · rename_i ws e
      split at g
      · rename_i ds ed
        obtain ⟨b, vs, rfl, h1, h2, h3⟩ := lst_at e R r1
        have ek : Ext S ρ H1 (S.set n .dead) ρ H1 := Ext.kill e rfl
        exact g ρ H1 _ ek (R.kill e rfl) (.lst ⟨h2, R.dead_notL e rfl h1⟩ (RpA.ext ek.stabL ek.newL _ _ (allD_rep ed h3)))
      · exact g.elim
    · exact g.elim
  · exact g ρ H1 v Ext.refl R r1
end
end DL
/-! DL8: own defs: their promise by a plain function, their calls. -/
namespace DL
open PySem PySem.Spec PyProof.Rows L2

/-- as FnOk, where it is known that no repr runs around -/
structure FnG (P : Program) (w : World) (K : PySem.W.Frag) (mg : Str → Option Value) (base : Heap) (CX : CXT) (k : Nat) (f : Addr) (fd : FuncData) (ps : List Str) (sp : Sp) : Prop where
  len : ∀ vs H Q E, sp vs H Q E → vs.length = ps.length
  run : ∀ (A : Around) (outer : List PySem.Env) (s : Shared) (H : Hp) (args : Args) (us : List Value) (vs : List V) (Q : VK) (E : XK), Room k A → A.guards = some [] → Env0 P w K mg base A outer s H → BindsTo s fd args (ps.zip us) → Vals vs us → sp vs H Q E →
    codeAny (model P w) A (.call (.ref f) args) (CR CX outer P w H s Q E) s
section
variable {P : Program} {w : World} {K : PySem.W.Frag} {mg : Str → Option Value} {base : Heap} {CX : CXT} {f : Addr} {fd : FuncData} {ps : List Str} {sp sp' : Sp}
theorem FnG.mono {j k : Nat} (F : FnG P w K mg base CX j f fd ps sp) (h : j ≤ k) : FnG P w K mg base CX k f fd ps sp := ⟨F.len, fun A outer s H args us vs Q E hr => F.run A outer s H args us vs Q E (hr.mono h)⟩
theorem FnG.imp {k : Nat} (F : FnG P w K mg base CX k f fd ps sp) (h : ∀ vs H Q E, sp' vs H Q E → sp vs H Q E) : FnG P w K mg base CX k f fd ps sp' :=
  ⟨fun vs H Q E q => F.len vs H Q E (h _ _ _ _ q), fun A outer s H args us vs Q E hr hg he hb hv hs => F.run A outer s H args us vs Q E hr hg he hb hv (h _ _ _ _ hs)⟩
/-- a def's body: its walk, and from this the promise -/
theorem FnG.of {x qual : Str} {st : Stmt} {N : List Str} {k : Nat} (F : Fun K x qual st f fd) (S : FnScope N ps (defScope st)) (len : ∀ vs H Q E, sp vs H Q E → vs.length = ps.length)
    (hbody : ∀ (cdv : Value) (A : Around) (outer : List PySem.Env) (s : Shared) (H : Hp) (vs : List V) (Q : VK) (E : XK), Room k (A.deeper (envOfC qual (defScope st) s.heap.objs.size f cdv)) → A.guards = some [] → sp vs H Q E →
      ∃ t, PSs (cxOf CX P w K mg base N qual (defScope st) f cdv A outer s H E) (defBody st) t ∧ t { nx := fun _ H' => Q .non H', rt := Q } (L2.start N vs) H) : FnG P w K mg base CX (k + 1) f fd ps sp := by
  obtain ⟨oc, od, kV, doc, pm, an, cdv, ct, osl, rfl, lk, hcd⟩ := F.ex
  refine ⟨len, fun A outer s H args us vs Q E hr hgd e0 hb r hsp => ?_⟩
  -- the promise at this A alone
  have one : FnOk P w K mg base CX (k + 1) f (PySem.W.fnOf x qual (defArgs st) (defBody st) (defScope st) .none kV doc pm an cdv ct) ps sp → codeAny (model P w) A (.call (.ref f) args) (CR CX outer P w H s Q E) s := fun z => z.run A outer s H args us vs Q E hr e0 hb r hsp
  have KX : K.In s.heap := e0.mod.kin.keeps fun b o e => (e0.bs b o e).1
  have free : s.heap.NoLimit := e0.mod.nolimit.keeps fun b o e => (e0.bs b o e).1
  have many := len _ _ _ _ hsp
  have seen : ∀ y ∈ ps.zip us, (defScope st).names.lookup y.1 = some .local ∨ ((defScope st).names.lookup y.1 = some .cell ∧ ((cellsFrom (s.heap.objs.size + 1) (defScope st).names []).lookup y.1).isSome = true) := fun y hy =>
    (S.par y.1 (List.of_mem_zip hy).1).imp id fun q => ⟨q, PySem.W.cellsFrom_some _ _ _ (.inl q)⟩
  refine codeAny_call_function hr.depth (KX _ _ lk) rfl S.co S.gen rfl (PySem.W.codeRec_of KX hcd) (hb _ _ _ _ (wpAny_newFunctionEnv_cells S.kind seen fun env he s1 x1 => ?_))
  subst he
  refine ⟨free.keeps x1.toInCall.keep, codeAny_func ?_⟩
  obtain ⟨t, ht, hq⟩ := hbody cdv A outer s H vs Q E (hr.deeper _) hgd hsp
  have I := inv_start (CX := CX) (P := P) (w := w) (K := K) (mg := mg) (base := base) (E := E) S hr.hd e0 many r x1
  refine wpAny_mono (ht.run [] s1 _ H _ I hq) (fun fl s' hs => ?_) fun e s' hs => hs
  cases fl with
  | ret u =>
    obtain ⟨v, σ', H', J, rv, q⟩ := hs
    exact ⟨v, H', J.os, J.bare, J.base, J.hok, rv, q⟩
  | next =>
    obtain ⟨σ', H', J, q⟩ := hs
    exact ⟨.non, H', J.os, J.bare, J.base, J.hok, rfl, q⟩
  | brk => obtain ⟨_, _, _, q⟩ := hs; exact q.elim
  | cont => obtain ⟨_, _, _, q⟩ := hs; exact q.elim
end
section
variable {X : Cx} {CX : CXT} {k : Nat} {f : Addr} {fd : FuncData} {ps ks : List Str} {sp : Sp} {dvs : List V} {ds : List Value} {E : XK} {x : Str} {p pos : Pos} {e : Expr} {es : List Expr} {ta : TE} {t tk : TA}
/-- behind the callee's end -/
theorem after_call {pins : List (Addr × Obj)} {σ : L2.St} {H : Hp} {s : Shared} {Q : VK} (hx : Passes CX X E) (I : Inv X pins σ H s) {r : Result} {s' : Shared} (hq : CR CX X.stack X.prog X.w H s Q E r s') :
    match r with | .ok (.ret u) => EP X pins σ Q u s' | .ok _ => False | .error e => X.xe e s' := by
  cases r with
  | error e => exact hx pins σ H s e s' I hq
  | ok fl =>
    cases fl with
    | ret u => exact I.after hq
    | next => exact hq
    | brk => exact hq
    | cont => exact hq
theorem callG {pins : List (Addr × Obj)} {σ : L2.St} {H : Hp} {s : Shared} {Q : VK} {us : List Value} {vs : List V} (F : FnG X.prog X.w X.K X.mg X.base CX k f fd ps sp) (hr : Room k X.A) (hG : X.A.guards = some []) (hb : Binds X.K fd ps ds) (hd : Vals dvs ds) (hx : Passes CX X E)
    (I : Inv X pins σ H s) (r : Vals vs us) (h : sp (vs ++ dvs) H Q E) : wpAny (model X.prog X.w) X.A (call (.ref f) us) (EP X pins σ Q) X.xe s := by
  have r2 : Vals (vs ++ dvs) (us ++ ds) := r.append hd
  refine wpAny_call (codeAny_mono (F.run X.A X.stack s H ⟨us, []⟩ (us ++ ds) (vs ++ dvs) Q E hr hG I.env0 (hb s us I.kIn (by rw [← r2.length]; exact F.len _ _ _ _ h)) r2 h) fun r s' hq => ?_)
  have z := after_call hx I hq
  cases r with
  | error e => exact z
  | ok fl => cases fl <;> first | exact z | exact z.elim
theorem peG (F : FnG X.prog X.w X.K X.mg X.base CX k f fd ps sp) (hr : Room k X.A) (hG : X.A.guards = some []) (hg : Gl X x) (hm : X.mg x = some (.ref f)) (hk : PySem.W.keepIn X.K (.ref f) = true) (hb : Binds X.K fd ps ds) (hd : Vals dvs ds) (hx : Passes CX X E)
    (ha : PA X (e :: es) t) (hdb : (x == ("__debug__" : Str)) = false := by decide) (he : starEach (e :: es) X.env = (false, eval e X.env) :: starEach es X.env := by rfl) (hpl : (backTo pos (starEach es X.env)).any (·.1) = false := by rfl) :
    PE X (.Call (.Name x p) (e :: es) [] pos) (tCall sp dvs E t) := ⟨fun pins s σ H Q I h =>
  wpAny_Call_Name_kw (ld_glob I hg hm (PySem.W.callWith_K (h₀ := X.base) I.ok.mod.kin hk (thn (ha.run pos pins s σ H _ I h) fun us s1 ⟨vs, H1, I1, r, q⟩ => ⟨I1.kIn, callG F hr hG hb hd hx I1 r q⟩) he hpl) hdb)⟩
theorem peG0 (F : FnG X.prog X.w X.K X.mg X.base CX k f fd ps sp) (hr : Room k X.A) (hG : X.A.guards = some []) (hg : Gl X x) (hm : X.mg x = some (.ref f)) (hk : PySem.W.keepIn X.K (.ref f) = true) (hb : Binds X.K fd ps ds) (hd : Vals dvs ds) (hx : Passes CX X E)
    (hdb : (x == ("__debug__" : Str)) = false := by decide) : PE X (.Call (.Name x p) [] [] pos) (tCall sp dvs E tNil) := ⟨fun pins s σ H Q I h =>
  wpAny_Call_Name_kw (ld_glob I hg hm (PySem.W.callWith_K0 I.kIn hk (callG (us := []) F hr hG hb hd hx I .nil h)) hdb)⟩
variable {g : List Value → List Value → List Value} {gV : List V → List V → List V}
theorem callGK {pins : List (Addr × Obj)} {σ : L2.St} {H : Hp} {s : Shared} {Q : VK} {us ws : List Value} {vs zs : List V} (F : FnG X.prog X.w X.K X.mg X.base CX k f fd ps sp) (hr : Room k X.A) (hG : X.A.guards = some []) (hb : KBinds X.K fd ps ks g gV) (hx : Passes CX X E)
    (I : Inv X pins σ H s) (r : Vals vs us) (rz : Vals zs ws) (h : sp (gV vs zs) H Q E) : wpAny (model X.prog X.w) X.A (call (.ref f) us (ks.zip ws)) (EP X pins σ Q) X.xe s := by
  have r2 := hb.rel r rz
  refine wpAny_call (codeAny_mono (F.run X.A X.stack s H ⟨us, ks.zip ws⟩ (g us ws) (gV vs zs) Q E hr hG I.env0 (hb.to s us ws I.kIn (by rw [← r2.length]; exact F.len _ _ _ _ h)) r2 h) fun r s' hq => ?_)
  have z := after_call hx I hq
  cases r with
  | error e => exact z
  | ok fl => cases fl <;> first | exact z | exact z.elim
theorem peGK {kws : List Keyword} (F : FnG X.prog X.w X.K X.mg X.base CX k f fd ps sp) (hr : Room k X.A) (hG : X.A.guards = some []) (hg : Gl X x) (hm : X.mg x = some (.ref f)) (hk : PySem.W.keepIn X.K (.ref f) = true) (hb : KBinds X.K fd ps ks g gV) (hx : Passes CX X E)
    (ha : PA X (e :: es) t) (hkw : PK X kws tk) (hall : (backToKw pos (keywordEach kws X.env)).all (·.1.isSome) = true := by rfl) (hks : (backToKw pos (keywordEach kws X.env)).filterMap (·.1) = ks := by rfl)
    (hdb : (x == ("__debug__" : Str)) = false := by decide) (he : starEach (e :: es) X.env = (false, eval e X.env) :: starEach es X.env := by rfl)
    (hpl : ((backTo pos (starEach (e :: es) X.env)).any (·.1) || (backToKw pos (keywordEach kws X.env)).any (·.1.isNone)) = false := by rfl) :
    PE X (.Call (.Name x p) (e :: es) kws pos) (tCallK sp gV E t tk) := by
  refine ⟨fun pins s σ H Q I h => wpAny_Call_Name_kw (ld_glob I hg hm ?_ hdb)⟩
  refine PySem.W.callWith_KW (h₀ := X.base) I.ok.mod.kin hk hall (thn (ha.run pos pins s σ H _ I h) fun us s1 ⟨vs, H1, I1, r, q⟩ => thn (hkw.run pos pins s1 σ H1 _ I1 q) fun ws s2 ⟨zs, H2, I2, rz, q2⟩ => ⟨I2.kIn, ?_⟩) hpl he
  rw [hks]
  exact callGK F hr hG hb hx I2 r rz q2
end

/-- the promise of a def: what its plain function says -/
def spF (K : PySem.W.Frag) (ZZ : XK → XZ) (F : List W → M W) : Sp := fun vs H Q E => tH K (ZZ E) (RWs K) (RW K) F vs H Q
/-- a def's plain function, from its body's: k parameters, n names -/
def runD (k n : Nat) (b : Env → M Fl) : List W → M W := fun ws => if ws.length = k then bd (b (ws.map some ++ List.replicate (n - k) none)) fun fl => match fl with
  | .nx _ => pr (.d .none)
  | .rt w => pr w
  | _ => no
  else no
/-- .. where the arguments are plain data that it does not change, and the answer is plain data: nothing of the store is seen, nothing is left -/
def pureM (F : List W → M W) : List W → M W := fun ws S => match allD ws with
  | some _ => match F ws [] with
    | .ok (.d x) _ => .ok (.d x) S
    | _ => .no
  | none => .no
theorem RWs_plain {K : PySem.W.Frag} {ρ ρ' : Pl} {H : Hp} {L : Addr → Prop} : ∀ {ws : List W} {vs : List V} {ds : List D}, allD ws = some ds → RWs K ρ H L ws vs → RWs K ρ' H L ws vs
  | [], _, ds, h, r => by cases r; exact .nil
  | .d x :: ws, _, ds, h, r => by
    cases r with
    | cons a b =>
      simp only [allD, Option.map_eq_some_iff] at h
      obtain ⟨es, h1, h2⟩ := h
      exact .cons a (RWs_plain h1 b)
  | .r _ :: _, _, ds, h, r => by simp [allD] at h
  | .s _ :: _, _, ds, h, r => by simp [allD] at h
theorem sp_pure {K : PySem.W.Frag} {ZZ : XK → XZ} {F : List W → M W} {vs : List V} {H : Hp} {Q : VK} {E : XK} (h : spF K ZZ (pureM F) vs H Q E) : spF K (fun _ => ZF) F vs H Q E ∨ spF K ZZ F vs H Q E := by
  right
  obtain ⟨ws, S, ρ, R, rw, g⟩ := h
  unfold pureM at g
  split at g
  · rename_i ds ed
    split at g
    · rename_i x S0 e
      refine ⟨ws, [], ⟨[], fun a => Live S ρ a⟩, ⟨rfl, fun a q => R.tracked q, fun a q z => ?_, fun n o q => ?_, fun n m a o u q => ?_⟩, ?_, ?_⟩
      · obtain ⟨n, o, h1, _⟩ := z; simp at h1
      · simp at q
      · simp at q
      · have hl : Live [] ⟨[], fun a => Live S ρ a⟩ = Live S ρ := by
          funext a
          refine propext ⟨fun q => ?_, fun q => .inr q⟩
          rcases q with ⟨n, o, h1, _⟩ | q
          · simp at h1
          · exact q
        rw [hl]
        exact RWs_plain ed rw
      · rw [e]
        intro ρ' H' v ex r' rv
        have keep : ∀ (a : Addr) (o : HO), H a = some o → H' a = some o := fun a o q => ex.stab a o q fun z => by
          obtain ⟨n, o, h1, _⟩ := z; simp at h1
        have e2 : Ext S ρ H S ρ H' := ⟨fun _ _ q => q, fun a o q _ => keep a o q, fun _ q => .inl q, rfl⟩
        refine g ρ H' v e2 ⟨R.len, fun a q => ?_, R.dj, fun n o q1 q2 => ?_, R.inj⟩ ?_
        · obtain ⟨o, h⟩ := R.gt a q; exact ⟨o, keep a o h⟩
        · obtain ⟨a, ho, z1, z2, z3⟩ := R.ob n o q1 q2
          exact ⟨a, ho, z1, keep a ho z2, z3.ext e2⟩
        · have rv : Rp K H' (Live S0 ρ') v x := rv
          refine Rp.ext (fun a o q _ => q) (fun a q => .inl (.inr ?_)) x v rv
          rw [ex.grd]
          exact q
    · exact g.elim
  · exact g.elim
theorem fn_pure {P : Program} {w : World} {K : PySem.W.Frag} {mg : Str → Option Value} {base : Heap} {CX : CXT} {k : Nat} {f : Addr} {fd : FuncData} {ps : List Str} {ZZ : XK → XZ} {F : List W → M W}
    (h : FnG P w K mg base CX k f fd ps (spF K ZZ F)) : FnG P w K mg base CX k f fd ps (spF K ZZ (pureM F)) := h.imp fun vs H Q E q => (sp_pure q).elim (fun z => by
  obtain ⟨ws, S, ρ, R, rw, g⟩ := z
  exact ⟨ws, S, ρ, R, rw, gives_imp g (fun _ _ q => q) fun _ _ q ρ' H' a b => (q ρ' H' a b).elim⟩) id
theorem fn_to {P : Program} {w : World} {K : PySem.W.Frag} {mg : Str → Option Value} {base : Heap} {CX : CXT} {k : Nat} {f : Addr} {fd : FuncData} {ps : List Str} {ZZ : XK → XZ} {F G : List W → M W}
    (h : FnG P w K mg base CX k f fd ps (spF K ZZ F)) (hg : ∀ ws S, G ws S = .no ∨ G ws S = F ws S) : FnG P w K mg base CX k f fd ps (spF K ZZ G) := h.imp fun vs H Q E q => by
  obtain ⟨ws, S, ρ, R, rw, g⟩ := q
  refine ⟨ws, S, ρ, R, rw, ?_⟩
  rcases hg ws S with e | e
  · rw [e] at g; exact g.elim
  · rw [← e]; exact g
theorem start_rep {K : PySem.W.Frag} {ρ : Pl} {H : Hp} {L : Addr → Prop} {ws : List W} {vs : List V} {n : Nat} (r : RWs K ρ H L ws vs) : REnv K ρ H L (ws.map some ++ List.replicate n none) (vs.map some ++ List.replicate n none) := by
  have hl := Paired.length r
  refine ⟨by simp [hl], fun i w h => ?_⟩
  by_cases hi : i < ws.length
  · rw [List.getElem?_append_left (by simpa using hi), List.getElem?_map] at h
    cases e : ws[i]? with
    | none => rw [e] at h; cases h
    | some w' =>
      rw [e] at h
      cases h
      obtain ⟨v, h1, h2⟩ := Paired.at' r e
      exact ⟨v, by rw [List.getElem?_append_left (by simp; omega), List.getElem?_map, h1]; rfl, h2⟩
  · rw [List.getElem?_append_right (by simp; omega)] at h
    rw [List.getElem?_replicate] at h
    split at h <;> cases h
section
variable {P : Program} {w : World} {K : PySem.W.Frag} {mg : Str → Option Value} {base : Heap}
/-- a def whose body's walk is known; no error leaves it -/
theorem fn_run {x qual : Str} {st : Stmt} {f : Addr} {fd : FuncData} {N ps : List Str} {j k n : Nat} {b : Env → M Fl} (F : Fun K x qual st f fd) (S : FnScope N ps (defScope st)) (hk : ps.length = k) (hn : N.length = n)
    (hb : ∀ (cdv : Value) (A : Around) (outer : List PySem.Env) (s : Shared) (H : Hp) (E : XK), Room j (A.deeper (envOfC qual (defScope st) s.heap.objs.size f cdv)) → A.guards = some [] →
      PSs (cxOf CX0 P w K mg base N qual (defScope st) f cdv A outer s H E).nox (defBody st) (tS K ZF b)) :
    FnG P w K mg base CX0 (j + 1) f fd ps (spF K (fun _ => ZF) (runD k n b)) := by
  have hlen : ∀ vs H Q E, spF K (fun _ => ZF) (runD k n b) vs H Q E → vs.length = ps.length := fun vs H Q E h => by
    obtain ⟨ws, S, ρ, R, rw, g⟩ := h
    unfold runD at g
    split at g
    · rename_i hl
      rw [hk, ← hl]
      exact (Paired.length rw).symm
    · exact g.elim
  refine FnG.of F S hlen fun cdv A outer s H vs Q E hr hgd h => ⟨_, (hb cdv A outer s H E hr hgd).nox, ?_⟩
  have hl := hlen _ _ _ _ h
  obtain ⟨ws, S, ρ, R, rw, g⟩ := h
  unfold runD at g
  split at g
  · rename_i hw
    refine ⟨_, S, ρ, R, ?_, gives_imp (gives_bd g) (fun fl S' q ρ' H' e r => ?_) fun _ _ q => q⟩
    · unfold L2.start
      rw [hl, hn, hk]
      exact start_rep rw
    · cases fl with
      | nx δ => exact fun σ re => q ρ' H' .non e r .non
      | rt w => exact fun v rv => q ρ' H' v e r rv
      | bk δ => exact q.elim
      | ct δ => exact q.elim
  · exact g.elim
end
section
variable {X : Cx} {Z : XZ} {pos : Pos} {a : Expr} {es : List Expr} {fr : Env → M (List W)} {x : Str} {p : Pos} {f : Addr} {fd : FuncData} {ps : List Str} {k : Nat} {F : List W → M W}
/-- f(a, ..) of an own def from which no error comes -/
theorem dcall (FO : FnG X.prog X.w X.K X.mg X.base CX0 k f fd ps (spF X.K (fun _ => ZF) F)) (hr : Room k X.A) (hG : X.A.guards = some []) (hg : Gl X x) (hm : X.mg x = some (.ref f)) (hk : PySem.W.keepIn X.K (.ref f) = true) (hb : Binds X.K fd ps [])
    (ha : PA X (a :: es) (tA X.K Z fr)) (hdb : (x == ("__debug__" : Str)) = false := by decide) (he : starEach (a :: es) X.env = (false, eval a X.env) :: starEach es X.env := by rfl) (hpl : (backTo pos (starEach es X.env)).any (·.1) = false := by rfl) :
    PE X (.Call (.Name x p) (a :: es) [] pos) (tE X.K Z (calM fr fun ws => noEx (F ws))) := by
  refine (peG FO hr hG hg hm hk hb .nil pass0 ha hdb he hpl).imp fun σ H Q h => ?_
  refine (tE.call h).mono fun vs H1 q => ?_
  rw [List.append_nil]
  obtain ⟨ws, S, ρ, R, rw, g⟩ := q
  exact ⟨ws, S, ρ, R, rw, noEx_gives (E' := fun _ _ => ∀ _ _, _ → _ → False) g⟩
theorem dcall0 (FO : FnG X.prog X.w X.K X.mg X.base CX0 k f fd ps (spF X.K (fun _ => ZF) F)) (hr : Room k X.A) (hG : X.A.guards = some []) (hg : Gl X x) (hm : X.mg x = some (.ref f)) (hk : PySem.W.keepIn X.K (.ref f) = true) (hb : Binds X.K fd ps [])
    (hdb : (x == ("__debug__" : Str)) = false := by decide) : PE X (.Call (.Name x p) [] [] pos) (tE X.K Z (calM nilM fun ws => noEx (F ws))) := by
  refine (peG0 FO hr hG hg hm hk hb .nil pass0 hdb).imp fun σ H Q h => ?_
  obtain ⟨δ, S, ρ, R, re, g⟩ := h
  exact ⟨[], S, ρ, R, .nil, noEx_gives (E' := fun _ _ => ∀ _ _, _ → _ → False) g⟩
/-! ### with keywords -/
theorem _root_.L2.PK.imp {e : List Keyword} {t t' : TA} (h : PK X e t) (hi : ∀ σ H Q, t' σ H Q → t σ H Q) : PK X e t' := ⟨fun pos pins s σ H Q I q => h.run pos pins s σ H Q I (hi _ _ _ q)⟩
variable {kws : List Keyword} {nm : Option Str} {kpos : Pos} {fa : Env → M W} {fk : Env → M (List W)}
theorem dk_nil : PK X [] (tA X.K Z nilM) := pk_nil.imp fun σ H Q h => tH.pure h fun _ _ _ _ _ => .nil
theorem tA.cons {σ : L2.St} {H : Hp} {Q : List V → Hp → Prop} (h : tA X.K Z (consM fa fk) σ H Q) : tCons (tE X.K Z fa) (tA X.K Z fk) σ H Q := by
  refine (tH.bind (Rα := RW X.K) (f := fa) (g := fun δ x => bd (fk δ) fun xs => pr (x :: xs)) h Stb.env).mono fun x H1 h1 => ?_
  have h2 := tH.bind (Rα := RWs X.K) (f := fun p : Env × W => fk p.1) (g := fun p xs => pr (p.2 :: xs)) h1 (Stb.env.p Stb.w)
  refine (tH.map (RA' := REnv X.K) (m := fk) (f := Prod.fst) (g := Prod.fst) h2 fun _ _ _ _ _ q => q.1).mono fun xs H2 h3 => ?_
  exact tH.pure h3 fun _ _ _ _ q => .cons q.1.2 q.2
theorem dk_cons (ha : PE X a (tE X.K Z fa)) (hr : PK X kws (tA X.K Z fk)) : PK X (⟨nm, a, kpos⟩ :: kws) (tA X.K Z (consM fa fk)) := (pk_cons ha hr).imp fun _ _ _ h => tA.cons h
/-- how a call with keywords binds, for values of the layer too -/
structure KB (K : PySem.W.Frag) (fd : FuncData) (ps ks : List Str) (g : List Value → List Value → List Value) (gV : List V → List V → List V) (gW : List W → List W → List W) : Prop where
  kb : KBinds K fd ps ks g gV
  w : ∀ (ρ : Pl) (H : Hp) (L : Addr → Prop) (ws zs : List W) (vs us : List V), RWs K ρ H L ws vs → RWs K ρ H L zs us → RWs K ρ H L (gW ws zs) (gV vs us)
abbrev calK (fr fk : Env → M (List W)) (gW : List W → List W → List W) (fo : List W → M W) : Env → M W := fun δ => bd (fr δ) fun xs => bd (fk δ) fun ys => fo (gW xs ys)
variable {ks : List Str} {g : List Value → List Value → List Value} {gV : List V → List V → List V} {gW : List W → List W → List W}
theorem tE.callK {σ : L2.St} {H : Hp} {Q : VK} {E : XK} (hw : ∀ (ρ : Pl) (H : Hp) (L : Addr → Prop) (ws zs : List W) (vs us : List V), RWs X.K ρ H L ws vs → RWs X.K ρ H L zs us → RWs X.K ρ H L (gW ws zs) (gV vs us))
    (h : tE X.K Z (calK fr fk gW fun ws => noEx (F ws)) σ H Q) : tCallK (spF X.K (fun _ => ZF) F) gV E (tA X.K Z fr) (tA X.K Z fk) σ H Q := by
  refine (tH.bind (Rα := RWs X.K) (f := fr) (g := fun δ xs => bd (fk δ) fun ys => noEx (F (gW xs ys))) h Stb.env).mono fun vs H1 h1 => ?_
  have h2 := tH.bind (Rα := RWs X.K) (f := fun p : Env × List W => fk p.1) (g := fun p ys => noEx (F (gW p.2 ys))) h1 (Stb.env.p Stb.ws)
  refine (tH.map (RA' := REnv X.K) (m := fk) (f := Prod.fst) (g := Prod.fst) h2 fun _ _ _ _ _ q => q.1).mono fun us H2 h3 => ?_
  obtain ⟨⟨⟨δ, ws⟩, zs⟩, S, ρ, R, ⟨⟨r0, r1⟩, r2⟩, gv⟩ := h3
  exact ⟨gW ws zs, S, ρ, R, hw _ _ _ _ _ _ _ r1 r2, noEx_gives (E' := fun _ _ => ∀ _ _, _ → _ → False) gv⟩
theorem dcallK (FO : FnG X.prog X.w X.K X.mg X.base CX0 k f fd ps (spF X.K (fun _ => ZF) F)) (hr : Room k X.A) (hG : X.A.guards = some []) (hg : Gl X x) (hm : X.mg x = some (.ref f)) (hk : PySem.W.keepIn X.K (.ref f) = true) (hb : KB X.K fd ps ks g gV gW)
    (ha : PA X (a :: es) (tA X.K Z fr)) (hkw : PK X kws (tA X.K Z fk)) (hall : (backToKw pos (keywordEach kws X.env)).all (·.1.isSome) = true := by rfl) (hks : (backToKw pos (keywordEach kws X.env)).filterMap (·.1) = ks := by rfl)
    (hdb : (x == ("__debug__" : Str)) = false := by decide) (he : starEach (a :: es) X.env = (false, eval a X.env) :: starEach es X.env := by rfl)
    (hpl : ((backTo pos (starEach (a :: es) X.env)).any (·.1) || (backToKw pos (keywordEach kws X.env)).any (·.1.isNone)) = false := by rfl) :
    PE X (.Call (.Name x p) (a :: es) kws pos) (tE X.K Z (calK fr fk gW fun ws => noEx (F ws))) :=
  (peGK FO hr hG hg hm hk hb.kb pass0 ha hkw hall hks hdb he hpl).imp fun _ _ _ h => tE.callK hb.w h
/-- f(k = v, ..) -/
theorem dcallK0 (FO : FnG X.prog X.w X.K X.mg X.base CX0 k f fd ps (spF X.K (fun _ => ZF) F)) (hr : Room k X.A) (hG : X.A.guards = some []) (hg : Gl X x) (hm : X.mg x = some (.ref f)) (hk : PySem.W.keepIn X.K (.ref f) = true) (hb : KB X.K fd ps ks g gV gW)
    (hkw : PK X kws (tA X.K Z fk)) (hall : (backToKw pos (keywordEach kws X.env)).all (·.1.isSome) = true := by rfl) (hks : (backToKw pos (keywordEach kws X.env)).filterMap (·.1) = ks := by rfl)
    (hdb : (x == ("__debug__" : Str)) = false := by decide) (hpl : ((backTo pos (starEach [] X.env)).any (·.1) || (backToKw pos (keywordEach kws X.env)).any (·.1.isNone)) = false := by rfl) :
    PE X (.Call (.Name x p) [] kws pos) (tE X.K Z (calK nilM fk gW fun ws => noEx (F ws))) := by
  refine ⟨fun pins s σ H Q I h => ?_⟩
  have h' := tE.callK (E := E0) hb.w h
  have h2 : tA X.K Z fk σ H (fun zs H2 => spF X.K (fun _ => ZF) F (gV [] zs) H2 Q E0) := by
    have h0 : tCallK (spF X.K (fun _ => ZF) F) gV E0 (tA X.K Z nilM) (tA X.K Z fk) σ H Q := h'
    unfold tCallK at h0
    obtain ⟨δ, S, ρ, R, re, gv⟩ := h0
    exact gv ρ H [] Ext.refl R .nil
  refine wpAny_Call_Name_kw (ld_glob I hg hm ?_ hdb)
  refine PySem.W.callWith_KW0 (h₀ := X.base) I.ok.mod.kin hk hall (thn (hkw.run pos pins s σ H _ I h2) fun ws s2 ⟨zs, H2, I2, rz, q2⟩ => ⟨I2.kIn, ?_⟩) hpl
  rw [hks]
  exact callGK FO hr hG hb.kb pass0 I2 (us := []) .nil rz q2
end
end DL
/-! DL9: chains as tests, ranges, pairs, stars, repr, dicts, stores by place. -/
namespace DL
open PySem PySem.Spec PyProof.Rows L2
section
variable {X : Cx} {Z : XZ} {pos : Pos} {a b c e : Expr} {es : List Expr} {fa fb fc : Env → M W} {fr : Env → M (List W)}
theorem dt_chain {op op' : CmpOp} {fo fo' : W → W → M W} (ho : OpR X (compareOp op) (r2M X.K Z fo)) (ho' : OpR X (compareOp op') (r2M X.K Z fo')) (ha : PE X a (tE X.K Z fa)) (hb : PE X b (tE X.K Z fb)) (hc : PE X c (tE X.K Z fc)) (hm : lastMarks [op, op'] [b, c] = false := by with_unfolding_all rfl) :
    PT X (.Compare a [op, op'] [b, c] pos) (tT X.K Z (valT (chainM fa fb fc fo fo'))) := by
  refine (pt_chain ho ho' ha hb hc hm).imp fun σ H Q h => ?_
  have h1 := tT.val h
  unfold tB at h1
  unfold tTest
  exact tE.chain h1

/-! ### ranges, pairs of two lists -/
def rng1M (ws : List W) : M (List W) := match ws with
  | [.d (.int n)] => if -(2 ^ 62) ≤ n ∧ n < 2 ^ 62 then pr ((List.range n.toNat).map fun i => .d (.int (0 + (i : Nat)))) else no
  | _ => no
def rng2M (ws : List W) : M (List W) := match ws with
  | [.d (.int l), .d (.int n)] => if -(2 ^ 62) ≤ l ∧ l < 2 ^ 62 ∧ -(2 ^ 62) ≤ n ∧ n < 2 ^ 62 then pr ((List.range (n - l).toNat).map fun i => .d (.int (l + (i : Nat)))) else no
  | _ => no
theorem di_rng1 {tg : Expr} {p : Pos} (hg : Gl X "range") (hm : X.mg "range" = none) (ha : PA X [a] (tA X.K Z fr)) (hs : starEach [a] X.env = [(false, eval a X.env)] := by rfl) : PI X tg (.Call (.Name "range" p) [a] [] pos) (tI X.K Z fun δ => bd (fr δ) rng1M) := by
  refine (pi_range1 hg hm ha hs).imp fun σ H R h => ?_
  obtain ⟨δ, S, ρ, r, re, g⟩ := h
  refine ⟨δ, S, ρ, r, re, gives_imp (gives_bd g) (fun ws S1 q ρ1 H1 vs e1 r1 rw => ?_) fun _ _ q => q⟩
  unfold rng1M at q
  split at q
  · split at q
    · rename_i n hb
      cases rw with
      | cons x y =>
        cases y; cases x
        exact ⟨n, rfl, hb.1, hb.2, q ρ1 H1 _ e1 r1 walks_rng⟩
    · exact q.elim
  · exact q.elim
theorem di_rng2 {tg : Expr} {p : Pos} (hg : Gl X "range") (hm : X.mg "range" = none) (ha : PA X [a, b] (tA X.K Z fr)) (hs : starEach [a, b] X.env = [(false, eval a X.env), (false, eval b X.env)] := by rfl) (hs2 : starEach [b] X.env = [(false, eval b X.env)] := by rfl) :
    PI X tg (.Call (.Name "range" p) [a, b] [] pos) (tI X.K Z fun δ => bd (fr δ) rng2M) := by
  refine (pi_range2 hg hm ha hs hs2).imp fun σ H R h => ?_
  obtain ⟨δ, S, ρ, r, re, g⟩ := h
  refine ⟨δ, S, ρ, r, re, gives_imp (gives_bd g) (fun ws S1 q ρ1 H1 vs e1 r1 rw => ?_) fun _ _ q => q⟩
  unfold rng2M at q
  split at q
  · split at q
    · rename_i l n hb
      cases rw with
      | cons x y =>
        cases y with
        | cons x2 y =>
          cases y; cases x; cases x2
          exact ⟨l, n, rfl, hb, q ρ1 H1 _ e1 r1 walks_rng⟩
    · exact q.elim
  · exact q.elim
/-- pairs of two lists -/
def zipD : List D → List D → List W
  | a :: as, b :: bs => .d (.tuple [a, b]) :: zipD as bs
  | _, _ => []
def zipM (ws : List W) : M (List W) := fun S => match ws with
  | [x, y] => match x, y with
    | .d (.list as), .d (.list bs) => .ok (zipD as bs) S
    | _, _ => .no
  | _ => .no
theorem zipD_at : ∀ {as bs : List D} {i : Nat} {w : W}, (zipD as bs)[i]? = some w → ∃ a b, as[i]? = some a ∧ bs[i]? = some b ∧ w = .d (.tuple [a, b])
  | [], _, i, w, h => by simp [zipD] at h
  | _ :: _, [], i, w, h => by simp [zipD] at h
  | a :: as, b :: bs, 0, w, h => by simp [zipD] at h; exact ⟨a, b, rfl, rfl, h.symm⟩
  | a :: as, b :: bs, i + 1, w, h => by
    obtain ⟨c, d, h1, h2, h3⟩ := zipD_at (as := as) (bs := bs) (i := i) (w := w) (by simpa [zipD] using h)
    exact ⟨c, d, by simpa using h1, by simpa using h2, h3⟩
theorem zipD_len : ∀ {as bs : List D}, (zipD as bs).length = min as.length bs.length
  | [], _ => by simp [zipD]
  | _ :: _, [] => by simp [zipD]
  | a :: as, b :: bs => by simp [zipD, zipD_len]
theorem sq_inj {K : PySem.W.Frag} {S : Sto} {ρ : Pl} {H : Hp} {a : Addr} {xs ys : List V} (h : H a = some (.lst xs)) (h' : SqL K H a ys) (hk : K.lookup a = none) : ys = xs := by
  rcases h' with (h' | ⟨o, h'⟩) | ⟨o, _, _, e, _⟩
  · rw [h] at h'; cases h'; rfl
  · rw [h] at h'; cases h'
  · rw [hk] at e; cases e
theorem walks_zip {K : PySem.W.Frag} {S : Sto} {ρ : Pl} {H : Hp} {a b : Addr} {xs ys : List V} {as bs : List D} (qa : QL K H (Live S ρ) a xs) (ra : RpA K H (Live S ρ) xs as) (qb : QL K H (Live S ρ) b ys) (rb : RpA K H (Live S ρ) ys bs) : Walks K (Itz K a b) (zipD as bs) S ρ H := by
  intro i S' ρ' H' ex r
  have qa' : QL K H' (Live S' ρ') a xs := qa.ext ex.stabL ex.newL
  have qb' : QL K H' (Live S' ρ') b ys := qb.ext ex.stabL ex.newL
  have ra' : RpA K H' (Live S' ρ') xs as := RpA.ext ex.stabL ex.newL _ _ ra
  have rb' : RpA K H' (Live S' ρ') ys bs := RpA.ext ex.stabL ex.newL _ _ rb
  refine ⟨fun w hw => ?_, fun hl => ⟨xs, ys, qa'.sq, qb'.sq, by rw [zipD_len] at hl; rw [ra'.length, rb'.length]; omega⟩⟩
  obtain ⟨da, db, ha, hb, rfl⟩ := zipD_at hw
  obtain ⟨x, hx, rx⟩ := Paired.at' (RpA.paired (ρ := ρ') ra') (i := i) (x := .d da) (by rw [List.getElem?_map, ha]; rfl)
  obtain ⟨y, hy, ry⟩ := Paired.at' (RpA.paired (ρ := ρ') rb') (i := i) (x := .d db) (by rw [List.getElem?_map, hb]; rfl)
  refine ⟨⟨xs, ys, x, y, qa'.sq, qb'.sq, hx, hy⟩, ?_⟩
  rintro v H2 ⟨T, x', y', hv, hT, hH, h1, h2⟩
  subst hv
  subst hH
  have e1 := h1 xs qa'.sq
  have e2 := h2 ys qb'.sq
  rw [hx] at e1; cases e1
  rw [hy] at e2; cases e2
  exact ⟨Ext.frz hT, r.frz hT, newT_rep r hT (.cons rx (.cons ry .nil))⟩
theorem di_zip {p tpos : Pos} {elts : List Expr} {kk : Nat} (hg : Gl X "zip") (hm : X.mg "zip" = none) (ha : PA X [a, b] (tA X.K Z fr))
    (hs : starEach [a, b] X.env = (false, eval a X.env) :: starEach [b] X.env := by rfl) (hpl : (backTo pos (starEach [b] X.env)).any (·.1) = false := by rfl) :
    PI X (.Tuple elts kk tpos) (.Call (.Name "zip" p) [a, b] [] pos) (tI X.K Z fun δ => bd (fr δ) zipM) := by
  refine (pi_zip hg hm ha hs hpl).imp fun σ H R h => ?_
  obtain ⟨δ, S, ρ, r, re, g⟩ := h
  refine ⟨δ, S, ρ, r, re, gives_imp (gives_bd g) (fun ws S1 q ρ1 H1 vs e1 r1 rw => ?_) fun _ _ q => q⟩
  unfold zipM at q
  split at q
  · split at q
    · rename_i as bs
      cases rw with
      | cons x y =>
        cases y with
        | cons x2 y =>
          cases y
          cases x with
          | lst qa ra =>
            cases x2 with
            | lst qb rb => exact ⟨_, _, _, _, rfl, qa.sq, qb.sq, q ρ1 H1 _ e1 r1 (walks_zip qa ra qb rb)⟩
    · exact q.elim
  · exact q.elim
/-! ### repr of plain data -/
mutual
theorem noDict_of : ∀ (d : D), nd d = true → d.hasDict = false
  | .none, _ => by simp only [PyData.hasDict]
  | .bool _, _ => by simp only [PyData.hasDict]
  | .int _, _ => by simp only [PyData.hasDict]
  | .str _, _ => by simp only [PyData.hasDict]
  | .list ds, h => by simpa only [PyData.hasDict] using noDict_all ds (by simpa only [nd] using h)
  | .tuple ds, h => by simpa only [PyData.hasDict] using noDict_all ds (by simpa only [nd] using h)
  | .dict _, h => by simp [nd] at h
theorem noDict_all : ∀ (ds : List D), ndA ds = true → PyData.hasDictAll ds = false
  | [], _ => by simp only [PyData.hasDictAll]
  | d :: ds, h => by
    simp only [ndA, Bool.and_eq_true] at h
    simp only [PyData.hasDictAll, Bool.or_eq_false_iff]
    exact ⟨noDict_of d h.1, noDict_all ds h.2⟩
end
def reprM (ws : List W) : M W := match ws with
  | [.d d] => if nd d = true ∧ d.showable = true ∧ d.depth ≤ 60 ∧ d.shown.length ≤ sizeLine ∧ okS d.shown = true then pr (.d (.str d.shown)) else no
  | _ => no
theorem c_repr (hG : X.A.guards = some []) (hu : X.A.units + 66 < cLine) : CallR X (.builtin "repr") (rcM X.K Z reprM) := by
  rintro pins s σ H xs us Q I rv ⟨ws, S, ρ, R, rw, g⟩
  unfold reprM at g
  split at g
  · rename_i d
    split at g
    · rename_i hc
      obtain ⟨c0, c1, c2, c3, c4⟩ := hc
      cases rw with
      | cons x y =>
        cases y
        have hnd := noDict_of _ c0
        obtain ⟨u, rfl, ru⟩ := rv.one
        obtain ⟨as, r1⟩ := Dp.reads I _ _ _ (Rp.dp _ _ c0 x) ru
        have fin : ∀ h' t tk, (∀ b o, s.heap.get? b = some o → h'.get? b = some o) → EP X pins σ Q (.str d.shown t) { s with heap := h', toks := tk } := fun h' t tk hk =>
          ⟨.str d.shown, H, I.kept hk, ⟨t, rfl⟩, g ρ H _ Ext.refl R (.str _ c4)⟩
        cases hd : isDisplay d with
        | true =>
          obtain ⟨p, rfl⟩ := isRef_of_reads r1 hd
          exact repr_of_reads' r1 c1 (PyData.noDict_hsm hnd) hG (by omega) (fun _ _ e => e) fin c3
        | false =>
          cases r1 with
          | none => exact PySem.P.repr_of_none (fin s.heap _ _ fun _ _ e => e)
          | bool b => exact PySem.P.repr_of_bool (fin s.heap _ _ fun _ _ e => e)
          | int i t => exact PySem.P.repr_of_int (by simpa [PyData.showable] using c1) (fin s.heap _ _ fun _ _ e => e)
          | str z t => exact PySem.P.repr_of_str (fin s.heap _ _ fun _ _ e => e) (by simpa only [PyData.shown] using c3)
          | list _ _ _ _ => cases hd
          | tuple _ _ _ _ => cases hd
          | dict _ _ _ _ _ => cases hnd
    · exact g.elim
  · exact g.elim
end
end DL
/-! DL10: stars, two names at once, turned round, stores by place, dicts. -/
namespace DL
open PySem PySem.Spec PyProof.Rows L2

def itemsM (w : W) : M (List W) := fun S => match seqOf w S with
  | some (_, ws) => .ok ws S
  | none => .no
abbrev starM (fa : Env → M W) (fr : Env → M (List W)) : Env → M (List W) := fun δ => bd (fa δ) fun x => bd (itemsM x) fun xs => bd (fr δ) fun ys => pr (xs ++ ys)
section
variable {X : Cx} {Z : XZ} {pos : Pos} {a b c e o : Expr} {es : List Expr} {fa fb fc : Env → M W} {fr : Env → M (List W)}
theorem dastar {p : Pos} (ha : PE X a (tE X.K Z fa)) (hr : PA X es (tA X.K Z fr)) (hs : starEach (.Starred a p :: es) X.env = (true, eval a X.env) :: starEach es X.env := by rfl) : PA X (.Starred a p :: es) (tA X.K Z (starM fa fr)) := by
  refine (StX.pa_star ha hr hs).imp fun σ H Q h => ?_
  refine (tH.bind (Rα := RW X.K) (f := fa) (g := fun δ x => bd (itemsM x) fun xs => bd (fr δ) fun ys => pr (xs ++ ys)) h Stb.env).mono fun x H1 ⟨⟨δ, w⟩, S, ρ, R, ⟨r0, r1⟩, g⟩ => ?_
  have g := gives_bd g
  change Gives (itemsM w S) _ _ at g
  unfold itemsM at g
  split at g
  · rename_i k ws ew
    obtain ⟨p, xs, rfl, rws, hq⟩ := seqOf_rep ew R r1
    refine ⟨p, xs, rfl, ?_, ?_⟩
    · cases k with
      | true => rw [if_pos rfl] at hq; exact .inr (.of hq)
      | false => rw [if_neg Bool.false_ne_true] at hq; exact .inl hq
    · refine ⟨δ, S, ρ, R, r0, gives_imp (gives_bd g) (fun ys S1 q ρ1 H2 us e1 r1 rw => ?_) fun _ _ q => q⟩
      exact q ρ1 H2 _ e1 r1 (RWs.app (rws.ext e1) rw)
  · exact g.elim
/-! ### a, b = x, y -/
def parM (i j : Nat) (fr : Env → M (List W)) : Env → M Fl := fun δ => bd (fr δ) fun ws => match ws with
  | [x, y] => pr (.nx ((δ.set i (some x)).set j (some y)))
  | _ => no
theorem ds_par {i j : Nat} {x y : Str} {px py pt : Pos} {kt k2 pt2} (hc : X.calm = true) (hN : X.N.Nodup) (hi : X.N[i]? = some x) (hj : X.N[j]? = some y) (hij : i ≠ j)
    (hx : X.env.scope.names.lookup x = some .local) (hy : X.env.scope.names.lookup y = some .local) (ha : PA X [a, b] (tA X.K Z fr))
    (hw : swappedStores [.Tuple [.Name x px, .Name y py] kt pt] (.Tuple [a, b] k2 pt2) X.env = pure (some [x, y]) := by rfl)
    (hs : swapsWithSole [.Tuple [.Name x px, .Name y py] kt pt] (.Tuple [a, b] k2 pt2) pos.line X.env = pure false := by rfl) :
    PS X (.Assign [.Tuple [.Name x px, .Name y py] kt pt] (.Tuple [a, b] k2 pt2) pos) (tS X.K Z (parM i j fr)) := by
  refine (ps_par hc hN hi hj hij hx hy ha hw hs).imp fun D σ H h => ?_
  refine (tS.bind (Rα := RWs X.K) (f := fr) h).mono fun vs H1 ⟨δ, ws, S, ρ, R, re, rw, g⟩ => ?_
  split at g
  · cases rw with
    | cons r1 q =>
      cases q with
      | cons r2 q =>
        cases q
        exact ⟨_, _, rfl, g ρ H1 Ext.refl R _ (REnv.set (REnv.set re r1) r2)⟩
  · exact g.elim
/-! ### turned round -/
def revM (w : W) : M W := fun S => match w with
  | .d (.list ds) => .ok (.d (.list ds.reverse)) S
  | .d (.tuple ds) => .ok (.d (.tuple ds.reverse)) S
  | _ => .no
theorem rev_places (n : Nat) : Builtin.Slice.sliceAdjust none none (-1) (n : Int) = ((n : Int) - 1, -1) ∧ Builtin.Slice.slicePlaces ((n : Int) - 1) (-1) (-1) = n := by
  refine ⟨?_, ?_⟩
  · unfold Builtin.Slice.sliceAdjust
    simp
  · unfold Builtin.Slice.slicePlaces
    simp
    try omega
theorem rev_picked (xs : Array Value) : ((List.range xs.size).filterMap fun (m : Nat) => xs[((xs.size : Int) - 1 + (m : Int) * (-1)).toNat]?).toArray = xs.toList.reverse.toArray := by
  congr 1
  have e : (fun (m : Nat) => xs[((xs.size : Int) - 1 + (m : Int) * (-1)).toNat]?) = (fun i => xs[i]?) ∘ fun m => xs.size - 1 - m := by
    funext m
    have : ((xs.size : Int) - 1 + (m : Int) * (-1)).toNat = xs.size - 1 - m := by omega
    show xs[((xs.size : Int) - 1 + (m : Int) * (-1)).toNat]? = xs[xs.size - 1 - m]?
    rw [this]
  rw [e, ← List.filterMap_map, PySem.W.krv_range, List.filterMap_reverse, PySem.W.krv_all]
theorem tup_rev {prog : Program} {w : World} {A : Around} {E : Value → Shared → Prop} {s : Shared} {t sl : Addr} {items : Array Value} {vl vu vs : Value} {Q : Value → Shared → Prop} (ht : IsTup s.heap t items) (hs : s.heap.IsSliceOf sl vl vu vs) (pl : IsPart vl none) (pu : IsPart vu none) (ps : IsPart vs (some (-1)))
    (h : Q (.ref s.heap.objs.size) { s with heap := s.heap.push { cls := .type "tuple", data := .seq items.toList.reverse.toArray } }) (hsz : items.size ≤ sizeLine) : wpAny (model prog w) A (getItem (.ref t) (.ref sl)) Q E s := by
  have hfit : sizeOk (.seq items.toList.reverse.toArray) := by
    show items.toList.reverse.toArray.size ≤ sizeLine
    rw [List.size_toArray, List.length_reverse, Array.length_toList]
    exact hsz
  obtain ⟨os, hos, hcs, hds⟩ := id hs
  have hTs : s.TypeIs (.ref sl) "slice" := ⟨os, hos, hcs⟩
  unfold getItem
  try with_reducible refine wpAny_holding ?_
  first | refine wpAny_bind (wpAny_pure ?_) | skip
  refine wpAny_bind (wpAny_sequenceKey ht.typeIs (by decide) ?_)
  refine wpAny_bind (wpAny_callSpecial?_slot (name := Str.ofString "__getitem__") ht.typeIs PyProof.Rows.slot_tuple_getitem
    (wpAny_call_entry PyProof.Rows.slot_tuple_getitem ht.typeIs entry_tuple_getitem ?_ (args_tuple_getitem _ _)))
  show wpAny _ _ (Builtin.Tuple.tupleItemsOf (.ref t) >>= _) _ _ s
  refine wpAny_bind (tupleItemsOf_ ht ?_)
  refine wpAny_bind (wpAny_typeOf hTs ?_)
  rw [if_pos (by decide)]
  refine wpAny_bind (m := Builtin.Slice.sliceApplied _ _) ?_
  unfold Builtin.Slice.sliceApplied Builtin.Slice.sliceFields
  refine wpAny_bind (wpAny_bind (wpAny_field hos hds (x := vl) rfl (wpAny_bind (wpAny_field hos hds (x := vu) rfl (wpAny_bind (wpAny_field hos hds (x := vs) rfl (wpAny_pure ?_)))))))
  refine wpAny_bind (HT.slicePart_ ps ?_)
  show wpAny _ _ (if ((-1 : Int) == 0) = true then _ else _) _ _ s
  rw [if_neg (by decide)]
  refine wpAny_bind (HT.slicePart_ pl (wpAny_bind (HT.slicePart_ pu (wpAny_bind (wpAny_pure ?_)))))
  show wpAny _ _ (match Builtin.Slice.sliceAdjust none none (-1) (items.size : Int) with | (lo, hi) => pure (lo, (-1 : Int), Builtin.Slice.slicePlaces lo hi (-1))) _ _ s
  rw [(rev_places items.size).1]
  show wpAny _ _ (pure ((items.size : Int) - 1, (-1 : Int), Builtin.Slice.slicePlaces ((items.size : Int) - 1) (-1) (-1))) _ _ s
  rw [(rev_places items.size).2]
  refine wpAny_pure ?_
  show wpAny _ _ (if ((items.size : Int) - 1 == 0 && (-1 : Int) == 1 && items.size == items.size) = true then _ else _) _ _ s
  rw [if_neg (by simp), rev_picked]
  first
    | exact wpAny_bind (m := Builtin.Tuple.tupleExact _) (wpAny_newObj_type (wpAny_pure ⟨_, rfl, wpAny_pure h⟩) hfit)
    | exact wpAny_bind (m := Builtin.Tuple.tupleExact _) (wpAny_newObj_type (wpAny_bind (wpAny_pure (wpAny_pure ⟨_, rfl, wpAny_pure h⟩))) hfit)
    | exact wpAny_bind (wpAny_bind (m := Builtin.Tuple.tupleExact _) (wpAny_newObj_type (wpAny_pure (wpAny_pure ⟨_, rfl, wpAny_pure h⟩)) hfit))
    | exact wpAny_bind (wpAny_bind (m := Builtin.Tuple.tupleExact _) (wpAny_newObj_type (wpAny_pure ⟨_, rfl, wpAny_pure h⟩) hfit))
theorem RpA.rev {K : PySem.W.Frag} {H : Hp} {L : Addr → Prop} {ds : List D} {vs : List V} (h : RpA K H L vs ds) : RpA K H L vs.reverse ds.reverse := by
  have key : ∀ (ds : List D) (vs : List V), RpA K H L vs ds → RpA K H L vs.reverse ds.reverse := fun ds => by
    induction ds with
    | nil => intro vs h; cases h; exact .nil
    | cons d ds ih =>
      intro vs h
      cases h with
      | cons a b =>
        rw [List.reverse_cons, List.reverse_cons]
        exact (ih _ b).app (.cons a .nil)
  exact key _ _ h
theorem drev {k : Nat} {p1 p2 p3 : Pos} (he : PE X a (tE X.K Z fa)) : PE X (.Subscript a (.Slice none none (some (.UnaryOp .USub (.Constant (.int 1) k p1) p2)) p3) pos) (tE X.K Z fun δ => bd (fa δ) revM) := by
  refine ⟨fun pins s σ H Q I h => ?_⟩
  have h' := (tH.bind (Rα := RW X.K) (f := fa) (g := fun _ w => revM w) h Stb.env)
  refine Subscript_ (thn (he.run pins s σ H _ I h') fun v s1 ⟨x, H1, I1, r1, ⟨⟨δ, w⟩, S, ρ, R, ⟨_, rw⟩, g⟩⟩ => ?_)
  change Gives (revM w S) _ _ at g
  have hst : PO X (some (.UnaryOp .USub (.Constant (.int 1) k p1) p2)) (tPart (tUn (rU fun i => .int (-i)) (tC (.int 1)))) := po_some (pe_un un_neg pe_int)
  refine wpAny_Slice (thn (po_none.run pins s1 σ H1 (fun o H2 => o = none ∧ H2 = H1) I1 ⟨rfl, rfl⟩) fun vl s2 ⟨l, H2, I2, pl, el, e2⟩ => ?_)
  subst el e2
  refine thn (po_none.run pins s2 σ H2 (fun o H3 => o = none ∧ H3 = H2) I2 ⟨rfl, rfl⟩) fun vu s3 ⟨u, H3, I3, pu, eu, e3⟩ => ?_
  subst eu e3
  refine thn (hst.run pins s3 σ H3 (fun o H4 => o = some (-1) ∧ H4 = H3) I3 ⟨1, rfl, -1, rfl, rfl, rfl⟩) fun vs s4 ⟨o, H4, I4, ps, eo, e4⟩ => ?_
  subst eo e4
  have I5 : Inv X pins σ H4 { s4 with heap := s4.heap.push { cls := .type "slice", data := .fields #[vl, vu, vs] } } := I4.kept (t' := s4.toks) fun b ob q => Heap.get?_push_of_some _ q
  unfold revM at g
  split at g
  · rename_i ds
    cases rw with
    | lst q ra =>
      rename_i ad xs
      cases r1
      obtain ⟨its, r, ht, hz⟩ := I5.list q.sq
      have hlen := r.length
      show wpAny (model X.prog X.w) X.A (subscriptTail a (.Slice none none (some (.UnaryOp .USub (.Constant (.int 1) k p1) p2)) p3) (.ref ad) (.ref s4.heap.objs.size)) (EP X pins σ Q) X.xe { s4 with heap := s4.heap.push { cls := .type "slice", data := .fields #[vl, vu, vs] } }
      refine tail_any (ops := [.ref ad, .ref s4.heap.objs.size]) ht.isList.typeIs (PySem.slot_list_getitem.lookup) ?_ (by with_unfolding_all rfl)
      refine wpAny_getItem_list_slice ht.isList (Heap.IsSliceOf.new _ vl vu vs) pl pu ps (by decide) ?_ (by rw [List.size_toArray]; omega)
      rw [PySem.W.krv_pick]
      have hp := I5.hok.fresh (Nat.le_refl _)
      refine ⟨.ref _, _, I5.laid (t' := s4.toks) (o := .lst xs.reverse) (fun b ob q => Heap.get?_push_of_some _ q) (Nat.le_refl _) ?_, rfl, g ρ _ _ (Ext.frz hp) (R.frz hp) (newL_rep R hp ra.rev)⟩
      refine ⟨by rw [List.length_reverse]; exact hz, its.reverse, 0, ?_, Heap.get?_push_size _ rfl⟩
      exact r.reverse
  · rename_i ds
    cases rw with
    | tup q ra =>
      rename_i ad xs
      cases r1
      obtain ⟨its, r, ht, hz⟩ := I5.tuple q.sq
      have hlen := r.length
      show wpAny (model X.prog X.w) X.A (subscriptTail a (.Slice none none (some (.UnaryOp .USub (.Constant (.int 1) k p1) p2)) p3) (.ref ad) (.ref s4.heap.objs.size)) (EP X pins σ Q) X.xe { s4 with heap := s4.heap.push { cls := .type "slice", data := .fields #[vl, vu, vs] } }
      refine tail_any (ops := [.ref ad, .ref s4.heap.objs.size]) ht.typeIs PyProof.Rows.slot_tuple_getitem.lookup ?_ (by with_unfolding_all rfl)
      refine tup_rev ht (Heap.IsSliceOf.new _ vl vu vs) pl pu ps ?_ (by rw [List.size_toArray]; omega)
      have hp := I5.hok.fresh (Nat.le_refl _)
      refine ⟨.ref _, _, I5.laid (t' := s4.toks) (o := .tup xs.reverse) (fun b ob q => Heap.get?_push_of_some _ q) (Nat.le_refl _) ?_, rfl, g ρ _ _ (Ext.frz hp) (R.frz hp) (newT_rep R hp ra.rev)⟩
      refine ⟨by rw [List.length_reverse]; exact hz, its.reverse, r.reverse, IsTup.new _ _⟩
  · exact g.elim
end
end DL
/-! DL11: dicts of the store, stores by place. -/
namespace DL
open PySem PySem.Spec PyProof.Rows L2

def keyOf : D → Option Key
  | .int i => some (.inl i)
  | .str x => some (.inr x)
  | _ => none
def kD : Key → D
  | .inl i => .int i
  | .inr x => .str x
def putW (kvs : List (Key × W)) (k : Key) (v : W) : List (Key × W) :=
  if (kvs.any fun kv => decide (kv.1 = k)) = true then kvs.map (fun kv => if kv.1 = k then (kv.1, v) else kv) else kvs ++ [(k, v)]
abbrev RKV (K : PySem.W.Frag) (ρ : Pl) (H : Hp) (L : Addr → Prop) : List (Key × W) → List (Key × V) → Prop := Paired fun p q => p.1 = q.1 ∧ okK p.1 = true ∧ RW K ρ H L p.2 q.2
section
variable {K : PySem.W.Frag} {S : Sto} {ρ : Pl} {H : Hp} {L : Addr → Prop}
theorem keyOf_rep {d : D} {k : Key} {v : V} (h : keyOf d = some k) (r : Rp K H L v d) : v = kV k ∧ okK k = true := by
  cases d with
  | int i => cases h; cases r; exact ⟨rfl, rfl⟩
  | str x => cases h; cases r with | str _ o => exact ⟨rfl, o⟩
  | _ => cases h
theorem RKV.upd {k : Key} {w : W} {v : V} (rw : RW K ρ H L w v) : ∀ {kvs : List (Key × W)} {kus : List (Key × V)}, RKV K ρ H L kvs kus → RKV K ρ H L (kvs.map (fun kv => if kv.1 = k then (kv.1, w) else kv)) (kus.map (fun kv => if kv.1 = k then (kv.1, v) else kv))
  | _, _, .nil => .nil
  | _, _, .cons (a := p) (b := q) a t => by
    refine .cons ?_ (RKV.upd rw t)
    obtain ⟨a1, a2, a3⟩ := a
    dsimp only
    rw [← a1]
    by_cases e : p.1 = k
    · rw [if_pos e, if_pos e]; exact ⟨a1 ▸ rfl, a2, rw⟩
    · rw [if_neg e, if_neg e]; exact ⟨a1, a2, a3⟩
theorem RKV.one {k : Key} {w : W} {v : V} (ho : okK k = true) (rw : RW K ρ H L w v) : ∀ {kvs : List (Key × W)} {kus : List (Key × V)}, RKV K ρ H L kvs kus → RKV K ρ H L (kvs ++ [(k, w)]) (kus ++ [(k, v)])
  | _, _, .nil => .cons ⟨rfl, ho, rw⟩ .nil
  | _, _, .cons a t => .cons a (RKV.one ho rw t)
theorem RKV.any {k : Key} : ∀ {kvs : List (Key × W)} {kus : List (Key × V)}, RKV K ρ H L kvs kus → (kvs.any fun kv => decide (kv.1 = k)) = (kus.any fun kv => decide (kv.1 = k))
  | _, _, .nil => rfl
  | _, _, .cons a t => by rw [List.any_cons, List.any_cons, RKV.any t, a.1]
theorem RKV.put {kvs : List (Key × W)} {kus : List (Key × V)} {k : Key} {w : W} {v : V} (r : RKV K ρ H L kvs kus) (ho : okK k = true) (rw : RW K ρ H L w v) : RKV K ρ H L (putW kvs k w) (putK kus k v) := by
  unfold putW putK
  rw [RKV.any r]
  split
  · exact RKV.upd rw r
  · exact RKV.one ho rw r
theorem dct_at {n : Nat} {kvs : List (Key × W)} {v : V} (e : S[n]? = some (.dct kvs)) (R : Rel K S ρ H) (r : RW K ρ H (Live S ρ) (.r n) v) : ∃ a kus, v = .ref a ∧ ρ.adr[n]? = some a ∧ H a = some (.dK kus) ∧ RKV K ρ H (Live S ρ) kvs kus := by
  obtain ⟨a, h1, h2⟩ := r
  obtain ⟨a', ho, y1, y2, kus, y3, y4⟩ := R.ob n _ e rfl
  rw [h1] at y1; cases y1
  subst y3
  exact ⟨a, kus, h2, h1, y2, y4⟩
end
def newDM (_ : Env) : M W := fun S => .ok (.r S.length) (S ++ [.dct []])
def setItemM (o i y : W) : M Unit := fun S => match o, i with
  | .r n, .d d => match S[n]? with
    | some (.lst xs) => match d with
      | .int k => match ixN xs.length k with
        | some j => .ok () (S.set n (.lst (xs.set j y)))
        | none => .no
      | _ => .no
    | some (.dct kvs) => match keyOf d with
      | some k => if kvs.length < sizeLine then .ok () (S.set n (.dct (putW kvs k y))) else .no
      | none => .no
    | _ => .no
  | _, _ => .no
theorem RWs.set {K : PySem.W.Frag} {ρ : Pl} {H : Hp} {L : Addr → Prop} {w : W} {v : V} (rw : RW K ρ H L w v) : ∀ {ws : List W} {vs : List V} (j : Nat), RWs K ρ H L ws vs → RWs K ρ H L (ws.set j w) (vs.set j v)
  | _, _, _, .nil => .nil
  | _, _, 0, .cons a b => .cons rw b
  | _, _, j + 1, .cons a b => .cons a (RWs.set rw j b)
section
variable {X : Cx} {Z : XZ} {pos : Pos} {a b c o i : Expr} {es : List Expr} {fa fo fi fv : Env → M W} {fr : Env → M (List W)}
theorem dnewd : PE X (.Dict [] [] pos) (tE X.K Z newDM) := pe_dnewK.imp fun σ H Q h p hp => by
  obtain ⟨δ, S, ρ, R, re, g⟩ := h
  refine g (ρ.add p) _ _ (Ext.new R hp) (Rel.new R hp ⟨[], rfl, .nil⟩) ⟨p, ?_, rfl⟩
  show (ρ.adr ++ [p])[S.length]? = some p
  rw [← R.len, List.getElem?_append_right (Nat.le_refl _)]
  simp
def tSet (K : PySem.W.Frag) (Z : XZ) : TSet := fun o i v H Q => tH K Z (rP (RW K) (rP (RW K) (RW K))) (rE (α := Unit)) (fun p => setItemM p.1 p.2.1 p.2.2) (o, (i, v)) H fun _ H' => Q H'
theorem s_set (hu : X.A.units + 1 < cLine) : PSet X (tSet X.K Z) := by
  rintro pins s σ H o i v ov iv u Q I ro ri rv ⟨⟨w1, w2, w3⟩, S, ρ, R, ⟨r1, r2, r3⟩, g⟩
  change Gives (setItemM w1 w2 w3 S) _ _ at g
  unfold setItemM at g
  split at g
  · rename_i n d
    split at g
    · rename_i xs e
      split at g
      · rename_i k
        split at g
        · rename_i j ej
          obtain ⟨p, vs, rfl, h1, h2, h3⟩ := lst_at e R r1
          cases r2
          have hn := Paired.length h3
          refine set_list pins s σ H _ _ v ov iv u Q I ro ri rv ⟨p, vs, k, j, rfl, rfl, h2, by rw [← hn]; exact ej, ?_⟩
          exact g ρ _ () (Ext.put e rfl h1) (R.put e rfl h1 ⟨_, rfl, RWs.set r3 j h3⟩) rfl
        · exact g.elim
      · exact g.elim
    · rename_i kvs e
      split at g
      · rename_i k ek
        split at g
        · rename_i hl
          obtain ⟨p, kus, rfl, h1, h2, h3⟩ := dct_at e R r1
          obtain ⟨rfl, ho⟩ := keyOf_rep ek r2
          have hn := Paired.length h3
          obtain rfl : ov = Value.ref p := ro
          refine d_setItem hu I (DPut.k h2 (by omega)) ri rv fun s' I' => ⟨_, I', ?_⟩
          exact g ρ _ () (Ext.put e rfl h1) (R.put e rfl h1 ⟨_, rfl, h3.put ho r3⟩) rfl
        · exact g.elim
      · exact g.elim
    · exact g.elim
  · exact g.elim
/-- o[i] = e -/
def subSM (fv fo fi : Env → M W) : Env → M Fl := fun δ => bd (fv δ) fun v => bd (fo δ) fun o => bd (fi δ) fun i => bd (setItemM o i v) fun _ => pr (.nx δ)
theorem ds_sub {pos' : Pos} (hu : X.A.units + 1 < cLine) (hv : PE X a (tE X.K Z fv)) (ho : PE X o (tE X.K Z fo)) (hi : PE X i (tE X.K Z fi))
    (ha : ∀ v, assign (.Subscript o i pos') X.env v = (do
      let ov ← holding [v] (eval o X.env)
      let iv ← holding [v, ov] (eval i X.env)
      standAt pos'
      holding [v, ov, iv] (setItem ov iv v)
      release [v, ov, iv] []) := by intro _; rfl)
    (hs : swapsWithSole [.Subscript o i pos'] a pos.line X.env = pure false := by rfl) (hw : swappedStores [.Subscript o i pos'] a X.env = pure none := by rfl)
    (h1 : (assignEach [.Subscript o i pos'] X.env).map (·.2) = [assign (.Subscript o i pos') X.env] := by rfl) :
    PS X (.Assign [.Subscript o i pos'] a pos) (tS X.K Z (subSM fv fo fi)) := by
  refine (ps_asg hv (pg_sub ho hi (s_set (Z := Z) hu) ha) hs hw h1).imp fun D σ H h => ?_
  refine (tS.bind (Rα := RW X.K) (f := fv) (g := fun δ v => bd (fo δ) fun o => bd (fi δ) fun i => bd (setItemM o i v) fun _ => pr (.nx δ)) h).mono fun v H1 ⟨δ, wv, S, ρ, R, re, rv, g⟩ => ?_
  refine ⟨δ, S, ρ, R, re, gives_imp (gives_bd g) (fun wo S1 g1 ρ1 H2 ov e1 R1 ro => ?_) fun _ _ q => q⟩
  refine ⟨δ, S1, ρ1, R1, Stb.env _ _ _ _ _ _ _ _ re e1, gives_imp (gives_bd g1) (fun wi S2 g2 ρ2 H3 iv e2 R2 ri => ?_) fun _ _ q ρ2 H3 e2 R2 => q ρ2 H3 (e1.trans e2) R2⟩
  refine ⟨(wo, wi, wv), S2, ρ2, R2, ⟨ro.ext e2, ri, (rv.ext e1).ext e2⟩, gives_imp (gives_bd g2) (fun u S3 g3 ρ3 H4 _ e3 R3 _ => ?_) fun _ _ q ρ3 H4 e3 R3 => q ρ3 H4 ((e1.trans e2).trans e3) R3⟩
  exact g3 ρ3 H4 ((e1.trans e2).trans e3) R3 σ (Stb.env _ _ _ _ _ _ _ _ re ((e1.trans e2).trans e3))
/-- list(d), list(xs) -/
def listDM (ws : List W) : M W := fun S => match ws with
  | [.r n] => match S[n]? with
    | some (.dct kvs) => .ok (.d (.list (kvs.map fun kv => kD kv.1))) S
    | _ => listM ws S
  | _ => listM ws S
theorem keys_rep {K : PySem.W.Frag} {ρ : Pl} {H : Hp} {L : Addr → Prop} {kvs : List (Key × W)} {kus : List (Key × V)} (r : RKV K ρ H L kvs kus) : RpA K H L (kus.map fun kv => kV kv.1) (kvs.map fun kv => kD kv.1) := by
  induction r with
  | nil => exact .nil
  | @cons p q ps qs a _ ih =>
    refine .cons ?_ ih
    obtain ⟨a1, a2, _⟩ := a
    dsimp only
    rw [← a1]
    cases e : p.1 with
    | inl i => exact .int i
    | inr x => rw [e] at a2; exact .str x a2
theorem c_listD (hc : X.calm = true) : CallR X (.type "list") (rcM X.K Z listDM) := by
  rintro pins s σ H xs us Q I rv ⟨ws, S, ρ, R, rw, g⟩
  unfold listDM at g
  split at g
  · rename_i n
    split at g
    · rename_i kvs e
      cases rw with
      | cons x y =>
        cases y
        obtain ⟨p, kus, rfl, h1, h2, h3⟩ := dct_at e R x
        exact call_list_dK hc pins s σ H _ us Q I rv ⟨p, kus, rfl, h2, fun q hq => g ρ _ _ (Ext.frz hq) (R.frz hq) (newL_rep R hq (keys_rep h3))⟩
    · exact c_list pins s σ H xs us Q I rv ⟨_, S, ρ, R, rw, g⟩
  · exact c_list pins s σ H xs us Q I rv ⟨_, S, ρ, R, rw, g⟩
def lenDM (ws : List W) : M W := fun S => match ws with
  | [.r n] => match S[n]? with
    | some (.dct kvs) => .ok (.d (.int kvs.length)) S
    | _ => lenM ws S
  | _ => lenM ws S
theorem c_lenD : CallR X (.builtin "len") (rcM X.K Z lenDM) := by
  rintro pins s σ H xs us Q I rv ⟨ws, S, ρ, R, rw, g⟩
  unfold lenDM at g
  split at g
  · rename_i n
    split at g
    · rename_i kvs e
      cases rw with
      | cons x y =>
        cases y
        obtain ⟨p, kus, rfl, h1, h2, h3⟩ := dct_at e R x
        have hn := Paired.length h3
        exact call_lenD pins s σ H _ us Q I rv ⟨p, kus, rfl, h2, by rw [← hn]; exact g ρ H (.int _) Ext.refl R (.int _)⟩
    · exact c_len pins s σ H xs us Q I rv ⟨_, S, ρ, R, rw, g⟩
  · exact c_len pins s σ H xs us Q I rv ⟨_, S, ρ, R, rw, g⟩
/-- dict(pairs): keys ints or texts -/
def pairsD : List D → Option (List (Key × D))
  | [] => some []
  | .tuple [k, v] :: r => match keyOf k, pairsD r with
    | some k, some r => some ((k, v) :: r)
    | _, _ => none
  | _ => none
def mergeW (kvs more : List (Key × W)) : List (Key × W) := more.foldl (fun acc kv => putW acc kv.1 kv.2) kvs
def dictM (ws : List W) : M W := fun S => match ws with
  | [.d (.list ds)] => match pairsD ds with
    | some kvs => .ok (.r S.length) (S ++ [.dct (mergeW [] (kvs.map fun kv => (kv.1, .d kv.2)))])
    | none => .no
  | _ => .no
theorem pairs_rep {K : PySem.W.Frag} {ρ : Pl} {H : Hp} {L : Addr → Prop} : ∀ {ds : List D} {kvs : List (Key × D)} {vs : List V}, pairsD ds = some kvs → RpA K H L vs ds →
    ∃ (ps : List Addr) (kus : List (Key × V)), vs = ps.map V.ref ∧ Paired (fun p kv => SqT K H p [kV kv.1, kv.2]) ps kus ∧ RKV K ρ H L (kvs.map fun kv => (kv.1, .d kv.2)) kus
  | [], _, _, h, r => by cases h; cases r; exact ⟨[], [], rfl, .nil, .nil⟩
  | d :: ds, kvs, _, h, r => by
    cases r with
    | @cons v vs _ _ r1 r2 =>
      unfold pairsD at h
      split at h
      · rename_i e; cases e
      · rename_i k w rs e
        cases e
        split at h
        · rename_i kk kr ek er
          cases h
          obtain ⟨ps, kus, rfl, h1, h2⟩ := pairs_rep (ρ := ρ) er r2
          cases r1 with
          | tup q ra =>
            cases ra with
            | cons x1 y1 =>
              cases y1 with
              | cons x2 y2 =>
                cases y2
                obtain ⟨rfl, ho⟩ := keyOf_rep ek x1
                exact ⟨_ :: ps, (kk, _) :: kus, rfl, .cons q.sq h1, .cons ⟨rfl, ho, x2⟩ h2⟩
        · cases h
      · cases h
theorem RKV.merge {K : PySem.W.Frag} {ρ : Pl} {H : Hp} {L : Addr → Prop} : ∀ {more : List (Key × W)} {mu : List (Key × V)} {kvs : List (Key × W)} {kus : List (Key × V)}, RKV K ρ H L more mu → RKV K ρ H L kvs kus → RKV K ρ H L (mergeW kvs more) (mergeK kus mu)
  | _, _, _, _, .nil, q => q
  | _, _, _, _, .cons (a := p) (b := r) a t, q => by
    obtain ⟨a1, a2, a3⟩ := a
    have h := RKV.put q a2 a3
    show RKV K ρ H L (mergeW (putW _ p.1 p.2) _) (mergeK (putK _ r.1 r.2) _)
    rw [← a1]
    exact RKV.merge t h
theorem c_dict (hc : X.calm = true) : CallR X (.type "dict") (rcM X.K Z dictM) := by
  rintro pins s σ H xs us Q I rv ⟨ws, S, ρ, R, rw, g⟩
  unfold dictM at g
  split at g
  · rename_i ds
    split at g
    · rename_i kvs e
      cases rw with
      | cons x y =>
        cases y
        cases x with
        | lst q ra =>
          obtain ⟨ps, kus, rfl, h1, h2⟩ := pairs_rep (ρ := ρ) e ra
          refine call_dictP hc pins s σ H _ us Q I rv ⟨_, ps, kus, rfl, q.sq, h1, fun p hp => ?_⟩
          refine g (ρ.add p) _ _ (Ext.new R hp) (Rel.new R hp ⟨_, rfl, RKV.merge h2 .nil⟩) ⟨p, ?_, rfl⟩
          show (ρ.adr ++ [p])[S.length]? = some p
          rw [← R.len, List.getElem?_append_right (Nat.le_refl _)]
          simp
    · exact g.elim
  · exact g.elim
end
end DL
/-! DL12: sorted texts; dicts by comprehension. -/
namespace DL
open PySem PySem.Spec PyProof.Rows L2

/-! ### sorted texts -/
abbrev leS (a b : Str) : Prop := a.cps.toList ≤ b.cps.toList
def insS (x : Str) : List Str → List Str
  | [] => [x]
  | y :: r => if y.cps.toList < x.cps.toList then y :: insS x r else x :: y :: r
def sortS : List Str → List Str
  | [] => []
  | x :: r => insS x (sortS r)
theorem insS_perm (x : Str) : ∀ l : List Str, (insS x l).Perm (x :: l)
  | [] => List.Perm.refl _
  | y :: r => by
    unfold insS
    split
    · exact ((insS_perm x r).cons y).trans (List.Perm.swap x y r)
    · exact List.Perm.refl _
theorem sortS_perm : ∀ l : List Str, (sortS l).Perm l
  | [] => List.Perm.refl _
  | x :: r => (insS_perm x _).trans ((sortS_perm r).cons x)
theorem insS_sorted (x : Str) : ∀ l : List Str, l.Pairwise leS → (insS x l).Pairwise leS
  | [], _ => List.pairwise_singleton _ _
  | y :: r, h => by
    unfold insS
    rw [List.pairwise_cons] at h
    split
    · rename_i hlt
      refine List.pairwise_cons.mpr ⟨fun z hz => ?_, insS_sorted x r h.2⟩
      rcases List.mem_cons.mp ((insS_perm x r).mem_iff.mp hz) with e | e
      · subst e
        exact List.le_of_lt hlt
      · exact h.1 z e
    · rename_i hlt
      have hxy : leS x y := List.not_lt.mp hlt
      refine List.pairwise_cons.mpr ⟨fun z hz => ?_, List.pairwise_cons.mpr h⟩
      rcases List.mem_cons.mp hz with e | e
      · subst e; exact hxy
      · exact List.le_trans hxy (h.1 z e)
theorem sortS_sorted : ∀ l : List Str, (sortS l).Pairwise leS
  | [] => List.Pairwise.nil
  | x :: r => insS_sorted x _ (sortS_sorted r)
theorem rising_pairwise : ∀ (r : List Str) (p : Str), risingS p r = true → (p :: r).Pairwise leS
  | [], p, _ => List.pairwise_singleton _ _
  | x :: r, p, h => by
    simp only [risingS, Bool.and_eq_true, Bool.not_eq_true', ltCps_eq, decide_eq_false_iff_not] at h
    have hpx : leS p x := List.not_lt.mp h.1
    have ih := rising_pairwise r x h.2
    refine List.pairwise_cons.mpr ⟨fun z hz => ?_, ih⟩
    rcases List.mem_cons.mp hz with e | e
    · subst e; exact hpx
    · exact List.le_trans hpx ((List.pairwise_cons.mp ih).1 z e)
theorem sorted_is {ys xs : List Str} (p : ys.Perm xs) (h : sortedS ys = true) : ys = sortS xs := by
  have hp : ys.Pairwise leS := by
    cases ys with
    | nil => exact List.Pairwise.nil
    | cons y r => exact rising_pairwise r y h
  refine List.Perm.eq_of_pairwise (le := leS) (fun a b _ _ h1 h2 => ?_) hp (sortS_sorted xs) (p.trans (sortS_perm xs).symm)
  have e : a.cps.toList = b.cps.toList := List.le_antisymm h1 h2
  have e2 : a.cps = b.cps := Array.toList_inj.mp e
  cases a; cases b; cases e2; rfl
def strsD : List D → Option (List Str)
  | [] => some []
  | .str x :: r => (strsD r).map (x :: ·)
  | _ => none
theorem strsD_rep {K : PySem.W.Frag} {H : Hp} {L : Addr → Prop} : ∀ {ds : List D} {ss : List Str} {vs : List V}, strsD ds = some ss → RpA K H L vs ds → vs = ss.map V.str ∧ ∀ s ∈ ss, okS s = true
  | [], _, _, h, r => by cases r; cases h; exact ⟨rfl, fun _ z => nomatch z⟩
  | d :: ds, ss, _, h, r => by
    cases d with
    | str x =>
      simp only [strsD, Option.map_eq_some_iff] at h
      obtain ⟨cs, h1, h2⟩ := h
      subst h2
      cases r with
      | cons a b =>
        obtain ⟨e, f⟩ := strsD_rep h1 b
        subst e
        cases a with
        | str _ o =>
          refine ⟨rfl, fun s hs => ?_⟩
          rcases List.mem_cons.mp hs with e | e
          · subst e; exact o
          · exact f s e
    | _ => cases h
theorem RpA.strs {K : PySem.W.Frag} {H : Hp} {L : Addr → Prop} : ∀ {ss : List Str}, (∀ s ∈ ss, okS s = true) → RpA K H L (ss.map V.str) (ss.map .str)
  | [], _ => .nil
  | s :: ss, h => .cons (.str s (h s List.mem_cons_self)) (RpA.strs fun t ht => h t (List.mem_cons_of_mem _ ht))
def sortM (ws : List W) : M W := fun S => match ws with
  | [w] => match toD w S with
    | some (.list ds) => match strsD ds with
      | some ss => if ss.length < 64 then .ok (.d (.list ((sortS ss).map .str))) S else .no
      | none => .no
    | _ => .no
  | _ => .no
section
variable {X : Cx} {Z : XZ} {pos : Pos}
theorem c_sort : CallR X (.builtin "sorted") (rcM X.K Z sortM) := by
  rintro pins s σ H xs us Q I rv ⟨ws, S, ρ, R, rw, g⟩
  unfold sortM at g
  split at g
  · rename_i w
    cases rw with
    | cons a b =>
      cases b
      obtain ⟨t1, _⟩ := toD_items R a
      split at g
      · rename_i ds e
        split at g
        · rename_i ss es
          split at g
          · rename_i hl
            obtain ⟨p, vs, rfl, h1, h2⟩ := t1 _ e
            obtain ⟨rfl, ho⟩ := strsD_rep es h2
            refine cr_sortedS pins s σ H _ us Q I rv ⟨p, ss, rfl, .of h1, hl, fun ys q hp hs hq => ?_⟩
            have := sorted_is hp hs
            subst this
            exact g ρ _ _ (Ext.frz hq) (R.frz hq) (newL_rep R hq (RpA.strs fun t ht => ho t ((sortS_perm ss).mem_iff.mp ht)))
          · exact g.elim
        · exact g.elim
      · exact g.elim
  · exact g.elim

/-! ### {k: v for target in iter if ..} -/
def dcL (own : List Nat) (g : W → Env → M Env) (t : Env → M Bool) (ek ev : Env → M W) : List W → List (Key × W) → Env → M (List (Key × W))
  | [], acc, _ => pr acc
  | w :: ws, acc, δ => bd (noEx (g w (wipeE δ own))) fun δ1 => bd (noEx (t δ1)) fun k => if k = true then bd (noEx (ek δ1)) fun y => bd (noEx (ev δ1)) fun z => match y with
      | .d d => match keyOf d with
        | some k => if acc.length < sizeLine then dcL own g t ek ev ws (putW acc k z) δ else no
        | none => no
      | _ => no
    else dcL own g t ek ev ws acc δ
def newDct (kvs : List (Key × W)) : M W := fun S => .ok (.r S.length) (S ++ [.dct kvs])
abbrev dcM (own : List Nat) (fi : Env → M (List W)) (g : W → Env → M Env) (t : Env → M Bool) (ek ev : Env → M W) : Env → M W := fun δ => bd (fi δ) fun ws => bd (dcL own g t ek ev ws [] δ) newDct
theorem tDc_of {own : List (Str × Nat)} {fi : Env → M (List W)} {g : W → Env → M Env} {t : Env → M Bool} {ek ev : Env → M W} {gc : TG} {σ : L2.St} {H : Hp} {Q : VK}
    (hgc : ∀ (v : V) (σ : L2.St) (H : Hp) (Q : L2.St → Hp → Prop), tG X.K ZF g v (wipe σ (own.map (·.2))) H Q → gc v (wipe σ (own.map (·.2))) H (fun σ2 H2 => wipe σ2 (own.map (·.2)) = wipe σ (own.map (·.2)) ∧ Q σ2 H2))
    (h : tE X.K Z (dcM (own.map (·.2)) fi g t ek ev) σ H Q) : tDc (tI X.K Z fi) gc (tT X.K ZF t) (tE X.K ZF ek) (tE X.K ZF ev) (own.map (·.2)) σ H Q := by
  obtain ⟨δ, S, ρ, r, re, gv⟩ := h
  refine ⟨δ, S, ρ, r, re, gives_imp (gives_bd gv) (fun ws S1 q ρ1 H1 J e1 r1 wk => ?_) fun _ _ q => q⟩
  intro D hD
  have re1 := Stb.env _ _ _ _ _ _ _ _ re e1
  refine ⟨fun i m H' => ∃ (S' : Sto) (ρ' : Pl) (acc : List (Key × W)) (vs : List (Key × V)), Ext0 S1 ρ1 H1 S' ρ' H' ∧ ρ'.grd = (ρ1.guard D).grd ∧ Rel X.K S' ρ' H' ∧ H' D = some (.dK vs) ∧ RKV X.K ρ' H' (Live S' ρ') acc vs ∧
    Gives (bd (dcL (own.map (·.2)) g t ek ev (ws.drop i) acc δ) newDct S') (fun w S2 => ∀ (ρ2 : Pl) (H2 : Hp) (v : V), Ext S1 ρ1 H1 S2 ρ2 H2 → Rel X.K S2 ρ2 H2 → RW X.K ρ2 H2 (Live S2 ρ2) w v → Q v H2) (fun _ _ => True) ∧ m = ws.length - i,
    ⟨_, S1, ρ1.guard D, [], [], Ext0.guard hD, rfl, r1.guard hD, upd_same, .nil, ?_, rfl⟩, ?_⟩
  · exact gives_imp q (fun w S2 q2 ρ2 H2 v e2 r2 rw2 => q2 ρ2 H2 v (e1.trans e2) r2 rw2) fun _ _ _ => trivial
  rintro i m H' ⟨S', ρ', acc, vs, e', hg', r', hv', rv', q', rfl⟩
  have hgD : ρ'.grd D := by rw [hg']; exact .inr rfl
  by_cases hl : i < ws.length
  · right
    have hw : ws[i]? = some ws[i] := List.getElem?_eq_getElem hl
    obtain ⟨hgo, hy⟩ := (wk i S' ρ' H' e' r').1 _ hw
    refine ⟨hgo, fun H2 => ∃ m', m' < ws.length - i ∧ ∃ (S2 : Sto) (ρ2 : Pl) (acc : List (Key × W)) (vs : List (Key × V)), Ext0 S1 ρ1 H1 S2 ρ2 H2 ∧ ρ2.grd = (ρ1.guard D).grd ∧ Rel X.K S2 ρ2 H2 ∧ H2 D = some (.dK vs) ∧ RKV X.K ρ2 H2 (Live S2 ρ2) acc vs ∧
      Gives (bd (dcL (own.map (·.2)) g t ek ev (ws.drop (i + 1)) acc δ) newDct S2) (fun w S2 => ∀ (ρ2 : Pl) (H2 : Hp) (v : V), Ext S1 ρ1 H1 S2 ρ2 H2 → Rel X.K S2 ρ2 H2 → RW X.K ρ2 H2 (Live S2 ρ2) w v → Q v H2) (fun _ _ => True) ∧ m' = ws.length - (i + 1), fun _ z => z, fun x H2 hx => ?_⟩
    obtain ⟨e2, r2, rw2⟩ := hy x H2 hx
    have E2 := e'.trans e2
    rw [List.drop_eq_getElem_cons hl] at q'
    unfold dcL at q'
    rw [bd_assoc] at q'
    have re2 : REnv X.K ρ' H2 (Live S' ρ') (wipeE δ (own.map (·.2))) (wipe σ (own.map (·.2))) := REnv.wipe ⟨re1.1, fun i w h => let ⟨v, h1, h2⟩ := re1.2 i w h; ⟨v, h1, h2.ext0 E2⟩⟩ _
    refine hgc x σ H2 _ ⟨(ws[i], wipeE δ (own.map (·.2))), S', ρ', r2, ⟨rw2, re2⟩, gives_imp (noEx_gives (E' := fun _ _ => False) (gives_bd q')) (fun δ1 S3 q3 ρ3 H3 σ3 e3 r3 re3 => ?_) fun _ _ q => q.elim⟩
    rw [bd_assoc] at q3
    refine ⟨δ1, S3, ρ3, r3, re3, gives_imp (noEx_gives (E' := fun _ _ => False) (gives_bd q3)) (fun k S4 q4 ρ4 H4 v4 e4 r4 ekk => ?_) fun _ _ q => q.elim⟩
    cases ekk
    have E4 := E2.trans (e3.trans e4)
    have g4 : ρ4.grd = (ρ1.guard D).grd := ((e3.trans e4).grd).trans hg'
    have nD : ∀ {S ρ H}, Rel X.K S ρ H → ρ.grd D → ¬ Liv S ρ D := fun r g => r.dj D g
    have hv2 : H2 D = some (.dK vs) := e2.stab D _ hv' (nD r' hgD)
    have hv4 : H4 D = some (.dK vs) := (e3.trans e4).stab D _ hv2 (nD r2 hgD)
    have xt : ∀ {S ρ H S' ρ' H'}, RKV X.K ρ H (Live S ρ) acc vs → Ext S ρ H S' ρ' H' → RKV X.K ρ' H' (Live S' ρ') acc vs := fun a b => Paired.mapP a fun _ _ z => ⟨z.1, z.2.1, z.2.2.ext b⟩
    have rv4 : RKV X.K ρ4 H4 (Live S4 ρ4) acc vs := xt (xt rv' e2) (e3.trans e4)
    cases k with
    | true =>
      rw [if_pos rfl] at q4 ⊢
      rw [bd_assoc] at q4
      have re4 := Stb.env _ _ _ _ _ _ _ _ re3 e4
      refine ⟨δ1, S4, ρ4, r4, re4, gives_imp (noEx_gives (E' := fun _ _ => False) (gives_bd q4)) (fun y S5 q5 ρ5 H5 v5 e5 r5 rw5 => ?_) fun _ _ q => q.elim⟩
      rw [bd_assoc] at q5
      refine ⟨δ1, S5, ρ5, r5, Stb.env _ _ _ _ _ _ _ _ re4 e5, gives_imp (noEx_gives (E' := fun _ _ => False) (gives_bd q5)) (fun z S6 q6 ρ6 H6 v6 e6 r6 rw6 => ?_) fun _ _ q => q.elim⟩
      have e56 := e5.trans e6
      have g6 : ρ6.grd = (ρ1.guard D).grd := e56.grd.trans g4
      have hgD6 : ρ6.grd D := by rw [g6]; exact .inr rfl
      have hgD4 : ρ4.grd D := by rw [g4]; exact .inr rfl
      have hv6 : H6 D = some (.dK vs) := e56.stab D _ hv4 (nD r4 hgD4)
      have rv6 := xt rv4 e56
      cases y with
      | d d =>
        cases eky : keyOf d with
        | none => simp only [eky] at q6; exact q6.elim
        | some kk =>
          simp only [eky] at q6
          by_cases hsz : acc.length < sizeLine
          · rw [if_pos hsz] at q6
            obtain ⟨rfl, ho⟩ := keyOf_rep eky rw5
            have hlen := Paired.length rv6
            refine ⟨vs, kk, rfl, hv6, by omega, _, by omega, S6, ρ6, putW acc kk z, putK vs kk v6, ?_, g6, r6.gput hgD6, upd_same, ?_, ?_, rfl⟩
            · have E6 := E4.trans e56
              exact ⟨E6.pre, fun a o h l => by rw [upd_ne (ne_of_none h hD)]; exact E6.stab a o h l, E6.newl, E6.newg⟩
            · exact RKV.put (Paired.mapP rv6 fun _ _ z => ⟨z.1, z.2.1, RW.gput r6 hgD6 z.2.2⟩) ho (RW.gput r6 hgD6 rw6)
            · exact q6
          · rw [if_neg hsz] at q6; exact q6.elim
      | r n => exact q6.elim
      | s n => exact q6.elim
    | false =>
      rw [if_neg Bool.false_ne_true] at q4 ⊢
      exact ⟨_, by omega, S4, ρ4, acc, vs, E4, g4, r4, hv4, rv4, q4, rfl⟩
  · left
    refine ⟨(wk i S' ρ' H' e' r').2 (by omega), ?_⟩
    rw [List.drop_eq_nil_of_le (by omega)] at q'
    have q' : Gives (newDct acc S') _ _ := q'
    unfold newDct at q'
    have hsub : ∀ a, ρ1.grd a → ρ'.grd a := fun a h => by rw [hg']; exact .inl h
    -- the dict that was made is a place of the store now
    have nl : ¬ Liv S' ρ' D := r'.dj D hgD
    have hL : ∀ b, Live (S' ++ [.dct acc]) (Pl.add ⟨ρ'.adr, ρ1.grd⟩ D) b → Live S' ρ' b := fun b z => by
      rcases z with ⟨n, o, h1, h2, h3⟩ | z
      · by_cases hn : n < S'.length
        · rw [List.getElem?_append_left hn] at h1
          have h3 : (ρ'.adr ++ [D])[n]? = some b := h3
          rw [List.getElem?_append_left (by rw [r'.len]; exact hn)] at h3
          exact .inl ⟨n, o, h1, h2, h3⟩
        · have h3 : (ρ'.adr ++ [D])[n]? = some b := h3
          rw [List.getElem?_append_right (by rw [r'.len]; omega)] at h3
          have hz : n - ρ'.adr.length = 0 := by
            cases e : n - ρ'.adr.length with
            | zero => rfl
            | succ k => rw [e] at h3; simp at h3
          rw [hz] at h3
          simp at h3
          exact .inr (h3 ▸ hgD)
      · exact .inr (hsub b z)
    have tr : ∀ w v, RW X.K ρ' H' (Live S' ρ') w v → RW X.K (Pl.add ⟨ρ'.adr, ρ1.grd⟩ D) H' (Live (S' ++ [.dct acc]) (Pl.add ⟨ρ'.adr, ρ1.grd⟩ D)) w v := fun w v z => by
      have pre : ∀ (n : Nat) (a : Addr), ρ'.adr[n]? = some a → (ρ'.adr ++ [D])[n]? = some a := fun n a h => by
        rw [List.getElem?_append_left (List.getElem?_eq_some_iff.mp h).1]; exact h
      cases w with
      | d x => exact Rp.ext (fun _ _ q _ => q) (fun a q => .inl (hL a q)) x v z
      | r n => obtain ⟨a, h1, h2⟩ := z; exact ⟨a, pre _ _ h1, h2⟩
      | s ns => obtain ⟨a, h1, h2⟩ := z; exact ⟨a, h1, h2.ext (fun _ _ q _ => q) (fun a q => .inl (hL a q))⟩
    have last : (ρ'.adr ++ [D])[S'.length]? = some D := by
      rw [← r'.len, List.getElem?_append_right (Nat.le_refl _)]; simp
    have rl : Rel X.K (S' ++ [.dct acc]) (Pl.add ⟨ρ'.adr, ρ1.grd⟩ D) H' := by
      have key : ∀ (n : Nat) (a : Addr) (u : Ob), (S' ++ [.dct acc])[n]? = some u → (ρ'.adr ++ [D])[n]? = some a → (n < S'.length ∧ S'[n]? = some u ∧ ρ'.adr[n]? = some a) ∨ (n = S'.length ∧ a = D ∧ u = .dct acc) := fun n a u h1 h3 => by
        by_cases hn : n < S'.length
        · rw [List.getElem?_append_left hn] at h1
          rw [List.getElem?_append_left (by rw [r'.len]; exact hn)] at h3
          exact .inl ⟨hn, h1, h3⟩
        · have hlt := (List.getElem?_eq_some_iff.mp h1).1
          simp at hlt
          have hz : n = S'.length := by omega
          subst hz
          rw [last] at h3
          cases h3
          simp at h1
          exact .inr ⟨rfl, rfl, h1.symm⟩
      refine ⟨by simp [Pl.add, r'.len], fun a q => r'.gt a (hsub a q), fun a q z => ?_, fun n o h1 h2 => ?_, fun n m a o u h1 h2 h3 h4 h5 h6 => ?_⟩
      · rcases z with ⟨n, o, h1, h2, h3⟩
        rcases key n a o h1 h3 with ⟨k1, k2, k3⟩ | ⟨k1, k2, k3⟩
        · exact r'.dj a (hsub a q) ⟨n, o, k2, h2, k3⟩
        · subst k2
          obtain ⟨o', ho⟩ := r1.gt _ q
          rw [hD] at ho; cases ho
      · by_cases hn : n < S'.length
        · rw [List.getElem?_append_left hn] at h1
          obtain ⟨a, ho, k1, k2, k3⟩ := r'.ob n o h1 h2
          refine ⟨a, ho, ?_, k2, ?_⟩
          · show (ρ'.adr ++ [D])[n]? = some a
            rw [List.getElem?_append_left (by rw [r'.len]; exact hn)]; exact k1
          · cases o with
            | lst ws => obtain ⟨vs, z1, z2⟩ := k3; exact ⟨vs, z1, Paired.mapP z2 fun _ _ z => tr _ _ z⟩
            | dct kvs => obtain ⟨kus, z1, z2⟩ := k3; exact ⟨kus, z1, Paired.mapP z2 fun _ _ z => ⟨z.1, z.2.1, tr _ _ z.2.2⟩⟩
            | dead => trivial
        · have hlt := (List.getElem?_eq_some_iff.mp h1).1
          simp at hlt
          have hz : n = S'.length := by omega
          subst hz
          simp at h1
          subst h1
          exact ⟨D, _, last, hv', vs, rfl, Paired.mapP rv' fun _ _ z => ⟨z.1, z.2.1, tr _ _ z.2.2⟩⟩
      · rcases key n a o h1 h5 with ⟨k1, k2, k3⟩ | ⟨k1, k2, k3⟩
        · rcases key m a u h3 h6 with ⟨l1, l2, l3⟩ | ⟨l1, l2, l3⟩
          · exact r'.inj n m a o u k2 h2 l2 h4 k3 l3
          · subst l2; exact absurd ⟨n, o, k2, h2, k3⟩ nl
        · rcases key m a u h3 h6 with ⟨l1, l2, l3⟩ | ⟨l1, l2, l3⟩
          · subst k2; exact absurd ⟨m, u, l2, h4, l3⟩ nl
          · rw [k1, l1]
    refine q' (Pl.add ⟨ρ'.adr, ρ1.grd⟩ D) H' (.ref D) ⟨fun n a h => ?_, e'.stab, fun a z => ?_, rfl⟩ rl ⟨D, last, rfl⟩
    · show (ρ'.adr ++ [D])[n]? = some a
      have := e'.pre n a h
      rw [List.getElem?_append_left (List.getElem?_eq_some_iff.mp this).1]; exact this
    · rcases z with ⟨n, o, h1, h2, h3⟩
      by_cases hn : n < S'.length
      · rw [List.getElem?_append_left hn] at h1
        have h3 : (ρ'.adr ++ [D])[n]? = some a := h3
        rw [List.getElem?_append_left (by rw [r'.len]; exact hn)] at h3
        exact e'.newl a ⟨n, o, h1, h2, h3⟩
      · have hlt := (List.getElem?_eq_some_iff.mp h1).1
        simp at hlt
        have hz : n = S'.length := by omega
        subst hz
        have h3 : (ρ'.adr ++ [D])[S'.length]? = some a := h3
        rw [last] at h3
        cases h3
        exact .inr hD
theorem ddc {kx vx tg iter : Expr} {ifs : List Expr} {scope : Scope} {own : List (Str × Nat)} {fi : Env → M (List W)} {g : W → Env → M Env} {t : Env → M Bool} {ek ev : Env → M W} (hc : X.calm = true) (hN : X.N.Nodup) (hi : PI X tg iter (tI X.K Z fi)) (ok : BlkOk X.N X.env.scope scope own)
    (hg : ∀ (s : Shared) (H : Hp) (C : Addr) (cl : List (Str × Addr)) (fp : List Addr), PG (X.blk s H scope (compEnvC scope cl C X.env) fp) tg (tR (wipR (own.map (·.2))) X.K ZF g))
    (ht : ∀ (s : Shared) (H : Hp) (C : Addr) (cl : List (Str × Addr)) (fp : List Addr), PTs (X.blk s H scope (compEnvC scope cl C X.env) fp) ifs (tT X.K ZF t))
    (hk : ∀ (s : Shared) (H : Hp) (C : Addr) (cl : List (Str × Addr)) (fp : List Addr), PE (X.blk s H scope (compEnvC scope cl C X.env) fp) kx (tE X.K ZF ek))
    (he : ∀ (s : Shared) (H : Hp) (C : Addr) (cl : List (Str × Addr)) (fp : List Addr), PE (X.blk s H scope (compEnvC scope cl C X.env) fp) vx (tE X.K ZF ev)) (hs : ∀ x, foldedSetIterable iter X.env x = pure x := by intro _; rfl) :
    PE X (.DictComp kx vx [⟨tg, iter, ifs, 0⟩] scope pos) (tE X.K Z (dcM (own.map (·.2)) fi g t ek ev)) := by
  refine (pe_dc hc hN hi ok hg ht hk he hs).imp fun σ H Q h => tDc_of (fun v σ H Q q => ?_) h
  refine tH.mono q fun σ2 H2 z hr => ?_
  have hr : wipe σ2 (own.map (·.2)) = wipe (wipe σ (own.map (·.2))) (own.map (·.2)) := hr
  rw [wipe_twice] at hr
  exact ⟨hr, z⟩
end
end DL
/-! DL13: the law's end: from the law's plain function to the row. -/
namespace DL
open PySem PySem.Spec PyProof.Rows L2

/-- the law's promise: a list of so many ints is handed in, True comes out -/
def spL (K : PySem.W.Frag) : Sp := fun vs H Q _ => ∃ (a : Addr) (ns : List Int), vs = [.ref a] ∧ QF K H (fun _ => False) a (ns.map V.int) ∧ ns.length ≤ 63 ∧ ∀ H', Q (.bl true) H'
theorem spL_of {K : PySem.W.Frag} {ZZ : XK → XZ} {F : List W → M W} (h : ∀ ns : List Int, ns.length ≤ 63 → ∃ S, F [.s ns] [] = .ok (.d (.bool true)) S) : ∀ vs H Q E, spL K vs H Q E → spF K ZZ F vs H Q E := by
  rintro vs H Q E ⟨a, ns, rfl, q, hl, hq⟩
  obtain ⟨S, e⟩ := h ns hl
  refine ⟨[.s ns], [], ⟨[], fun _ => False⟩, ⟨rfl, fun _ z => z.elim, fun _ z => z.elim, fun n o z => by simp at z, fun n m a o u z => by simp at z⟩, .cons ⟨a, rfl, ?_⟩ .nil, ?_⟩
  · refine q.ext (fun _ _ z _ => z) fun b z => .inl ?_
    rcases z with ⟨n, o, z, _⟩ | z
    · simp at z
    · exact z
  · rw [e]
    intro ρ' H' v _ _ rv
    cases rv
    exact hq H'
section
variable {P : Program} {w : World} {K : PySem.W.Frag} {mg mb : Str → Option Value} {k : Nat} {fa a : Addr} {fd : FuncData} {x : Str} {s₁ : Shared} {vs : List Value} {ns : List Int}
/-- the call of the law behind the top, where just H's one thing, the script, may be tracked -/
theorem end_from {H : Hp} (KX : K.In s₁.heap) (hns : s₁.heap.Ns mainGlobals mg) (hb : s₁.heap.Ns builtinsNs mb) (hbb : ∀ x : Str, x ≠ "__name__" → mb x = bootBuiltins x) (hlim : s₁.heap.NoLimit) (hg : s₁.gens = #[])
    (ha : s₁.heap.get? a = some { cls := .type "list", data := .seq vs.toArray }) (hl : ns.length ≤ 63) (hr : Room k callerA)
    (F : ∀ base : Heap, K.In base → base.Ns mainGlobals mg → FnG P w K mg base CX0 k fa fd [x] (spL K)) (hbind : ∀ (s : Shared) (u : Value), BindsTo s fd ⟨[u], []⟩ [(x, u)])
    (hS : QF K H (fun _ => False) a (ns.map V.int)) (hok : HOk P w H s₁.heap) (hO : ∀ b u, H b = some u → b = a ∧ (∃ o xs, u = .frz o (.lst xs)) ∧ K.lookup a = none) :
    codeAny (model P w) callerA (.call (.ref fa) ⟨[.ref a], []⟩) (fun r s' => r = .ok (.ret (.bool true)) ∧ OldK s₁.heap s'.heap ∧ s'.os = s₁.os ∧ AllBare s'.gens) s₁ := by
  have stands : ∀ {b : Addr} {o : Obj}, s₁.heap.get? b = some o → H b = none → (hidT s₁.heap H).get? b = some o := fun e n => hidT_get e n
  have isDict : ∀ {b : Addr} {m : Str → Option Value}, s₁.heap.Ns b m → (hidT s₁.heap H).Ns b m := fun {b m} ⟨o, es, ep, e, d, r⟩ => by
    refine ⟨o, es, ep, stands e ?_, d, r⟩
    cases q : H b with
    | none => rfl
    | some u =>
      obtain ⟨rfl, _⟩ := hO b u q
      rw [ha] at e
      cases e
      have d' : Data.seq vs.toArray _ = Data.dict es ep := d
      cases d'
  have KB : K.In (hidT s₁.heap H) := fun b o e => stands (KX b o e) (by
    cases q : H b with
    | none => rfl
    | some u =>
      obtain ⟨rfl, _, z⟩ := hO b u q
      rw [z] at e; cases e)
  have NB := isDict hns
  obtain ⟨mc, l1, l2⟩ := hlim
  have MB : Mod K mg (hidT s₁.heap H) := ⟨KB, NB, ⟨mb, isDict hb, hbb⟩, ⟨mc, isDict l1, l2⟩⟩
  have E : Env0 P w K mg (hidT s₁.heap H) callerA [] s₁ H := ⟨rfl, MB, fun b o e => of_hidT e, Nat.le_of_eq (hidT_size _ _), trivial, fun b z => by simp [frs] at z, hok, .of_eq hg⟩
  have R := (F _ KB NB).run callerA [] s₁ H ⟨[.ref a], []⟩ [.ref a] [.ref a] (fun v _ => v = .bl true) E0 hr rfl E (hbind s₁ (.ref a)) (.cons rfl .nil) ⟨a, ns, rfl, hS, hl, fun _ => rfl⟩
  refine codeAny_mono R fun r s' h => ?_
  cases r with
  | error e => exact h.elim
  | ok fl =>
    cases fl with
    | ret u =>
      obtain ⟨v, H', os, bare, un, hok', rv, q⟩ := h
      have q' : v = .bl true := q
      subst q'
      cases (show u = Value.bool true from rv)
      refine ⟨rfl, OldK.of_keep fun b o e => ?_, os, bare⟩
      cases q : H b with
      | none => exact un.keep b o e q (by simp [frs]) (by simp)
      | some u =>
        obtain ⟨_, ⟨ob, xs, rfl⟩, _⟩ := hO b u q
        have before := (hok b _ q).1
        have after := (hok' b _ (un.frzs b ob _ q)).1
        rw [e] at before; cases before
        exact after
    | next => exact h.elim
    | brk => exact h.elim
    | cont => exact h.elim
theorem end_call (KX : K.In s₁.heap) (hns : s₁.heap.Ns mainGlobals mg) (hb : s₁.heap.Ns builtinsNs mb) (hbb : ∀ x : Str, x ≠ "__name__" → mb x = bootBuiltins x) (hlim : s₁.heap.NoLimit) (hg : s₁.gens = #[])
    (ha : s₁.heap.get? a = some { cls := .type "list", data := .seq vs.toArray }) (hi : IntsAre vs ns) (hl : ns.length ≤ 63) (hr : Room k callerA)
    (F : ∀ base : Heap, K.In base → base.Ns mainGlobals mg → FnG P w K mg base CX0 k fa fd [x] (spL K)) (hbind : ∀ (s : Shared) (u : Value), BindsTo s fd ⟨[u], []⟩ [(x, u)]) :
    codeAny (model P w) callerA (.call (.ref fa) ⟨[.ref a], []⟩) (fun r s' => r = .ok (.ret (.bool true)) ∧ OldK s₁.heap s'.heap ∧ s'.os = s₁.os ∧ AllBare s'.gens) s₁ := by
  have rv := vals_ints hi
  have many : ns.length = vs.length := by
    have := rv.length
    simpa using this
  have small : vs.length ≤ sizeLine := by
    have : (63 : Nat) ≤ sizeLine := by decide
    omega
  cases hk : K.lookup a with
  | some o =>
    have e := KX a o hk
    rw [ha] at e
    cases e
    exact end_from (H := fun _ => none) KX hns hb hbb hlim hg ha hl hr F hbind (.inr ⟨_, vs.toArray, _, hk, rfl, rfl, rfl, by simpa using small, by simpa using rv⟩) (fun b u z => by cases z) fun b u z => by cases z
  | none =>
    have at_a : (upd (fun _ => none) a (.frz { cls := .type "list", data := .seq vs.toArray } (.lst (ns.map V.int)))) a = some (.frz { cls := .type "list", data := .seq vs.toArray } (.lst (ns.map V.int))) := upd_same
    have else_ : ∀ {b u}, upd (fun _ => none) a (.frz { cls := .type "list", data := .seq vs.toArray } (.lst (ns.map V.int))) b = some u → b = a ∧ u = .frz { cls := .type "list", data := .seq vs.toArray } (.lst (ns.map V.int)) := fun {b u} z => by
      by_cases e : b = a
      · subst e; rw [at_a] at z; cases z; exact ⟨rfl, rfl⟩
      · rw [upd_ne e] at z; cases z
    refine end_from KX hns hb hbb hlim hg ha hl hr F hbind (.inl ⟨.inr ⟨_, at_a⟩, id⟩) (fun b u z => ?_) fun b u z => ?_
    · obtain ⟨rfl, rfl⟩ := else_ z
      exact ⟨ha, by rw [List.length_map]; omega, vs, _, rv, ha⟩
    · obtain ⟨rfl, rfl⟩ := else_ z
      exact ⟨rfl, ⟨_, _, rfl⟩, hk⟩
end
/-- the goal that the head leaves, from the promise of the law's def -/
theorem end_of {l : PySem.W.OpenLaw} {k : Nat} {q : Program} {loose : List Str} {XP : (Str → Option Value) → Heap → Prop} {YP : World → Heap → Prop} {d : DefRec} {K : Params → PySem.W.Frag}
    (hn : l.most = some 63) (hdf : d.params.defaults = []) (hr : Room k callerA) (hY : ∀ (w : World) (h : Heap), YP w h → (K w.params).In h)
    (F : ∀ (w : World) (mg : Str → Option Value) (fa : Addr) (h : Heap), (K w.params).In h → h.Ns mainGlobals mg → mg d.name = some (.ref fa) →
      ∃ fd : FuncData, (∀ (s : Shared) (u : Value), BindsTo s fd ⟨[u], []⟩ [("script", u)]) ∧ ∀ base : Heap, (K w.params).In base → base.Ns mainGlobals mg → FnG l.prog w (K w.params) mg base CX0 k fa fd ["script"] (spL (K w.params))) :
    PySem.W.WalkO q loose XP YP l.row.toRowW d [] (fun f vs => PySem.call f vs) := by
  refine Att.attach_call hn hdf fun w s₀ s₁ mg mb fa o pm cd doc a vs ns G Y ho hd hcd hmg hobj hints hlen hg => ?_
  have KX := hY w _ Y
  obtain ⟨fd, hb, hF⟩ := F w mg fa _ KX G.T.g hmg
  exact end_call KX G.T.g G.T.b G.T.builtins G.T.nolimit hg hobj hints hlen hr hF hb
end DL
/-! DL14: what a printed text leans on. -/
namespace DL
open PySem PySem.Spec PyProof.Rows L2

theorem room66 {k : Nat} {A : Around} (h : Room k A) : A.units + 66 < cLine := by have := h.un; omega
theorem room65 {k : Nat} {A : Around} (h : Room k A) : A.units + 65 < cLine := by have := h.un; omega
theorem room1 {k : Nat} {A : Around} (h : Room k A) : A.units + 1 < cLine := by have := h.un; omega
/-- a def of the text as it stands behind the top -/
structure DefOk (K : PySem.W.Frag) (mg : Str → Option Value) (x : Str) (st : Stmt) (ps : List Str) (f : Addr) (fd : FuncData) : Prop where
  fn : Fun K x x st f fd
  mg : mg x = some (.ref f)
  bd : Binds K fd ps []
theorem def_mk {K : PySem.W.Frag} {h : Heap} {mg : Str → Option Value} {x : Str} {st : Stmt} {ps : List Str} (hb : ∀ (kV doc pm : Value) (an : Option Addr) (cdv ct : Value) (us : List Value), us.length = ps.length → bindArgs (PySem.W.fnOf x x (defArgs st) (defBody st) (defScope st) .none kV doc pm an cdv ct) ⟨us, []⟩ = pure (ps.zip us))
    (X : K.In h) (G : h.Ns mainGlobals mg) {f : Addr} {oc : Value} {od an : Option Addr} {sl : Array (Option Value)} {kV dc pm cd ct : Value}
    (a : PySem.W.nsIn K mainGlobals x = some (some (.ref f))) (l : K.lookup f = some ⟨oc, od, .func (PySem.W.fnOf x x (defArgs st) (defBody st) (defScope st) .none kV dc pm an cd ct), sl⟩) (c : PySem.W.codeIn K cd x = true) (k : PySem.W.keepIn K (.ref f) = true) :
    ∃ f fd, DefOk K mg x st ps f fd := by
  have F := fun_mk (st := st) l c k
  exact ⟨_, _, F, PySem.W.mg_of X G a, F.binds hb⟩
/-- a def's call with keywords -/
theorem kb_mk {K : PySem.W.Frag} {x : Str} {st : Stmt} {f : Addr} {fd : FuncData} {ps ks : List Str} {g : List Value → List Value → List Value} {gV : List V → List V → List V} {gW : List W → List W → List W} (F : Fun K x x st f fd)
    (hb : ∀ (kV doc pm : Value) (an : Option Addr) (cdv ct : Value) (us ws : List Value), (g us ws).length = ps.length → bindArgs (PySem.W.fnOf x x (defArgs st) (defBody st) (defScope st) .none kV doc pm an cdv ct) ⟨us, ks.zip ws⟩ = pure (ps.zip (g us ws)))
    (hv : ∀ {α β : Type} (R : α → β → Prop) (gA : List α → List α → List α) (gB : List β → List β → List β), True) (rel : ∀ {vs : List V} {us : List Value} {zs : List V} {ws : List Value}, Vals vs us → Vals zs ws → Vals (gV vs zs) (g us ws))
    (w : ∀ (ρ : Pl) (H : Hp) (L : Addr → Prop) (ws zs : List W) (vs us : List V), RWs K ρ H L ws vs → RWs K ρ H L zs us → RWs K ρ H L (gW ws zs) (gV vs us)) : KB K fd ps ks g gV gW := by
  obtain ⟨oc, od, kV, doc, pm, an, cdv, ct, osl, rfl, lk, hcd⟩ := F.ex
  exact ⟨⟨fun s us ws _ hl => .of_eq (hb kV doc pm an cdv ct us ws hl), rel⟩, w⟩
section
variable {X : Cx} {Z : XZ} {pos : Pos}
theorem dgint {x : Str} {i : Int} (h : ∃ t, X.mg x = some (.int i t)) (hg : Gl X x) (hd : (x == ("__debug__" : Str)) = false := by decide) : PE X (.Name x pos) (tE X.K Z (cM (.int i))) := by
  obtain ⟨t, e⟩ := h
  exact dglob (v := .int i) hg e ⟨t, rfl⟩ (fun _ _ => .int i) hd
theorem dgstr {x s : Str} (h : ∃ t, X.mg x = some (.str s t)) (ho : okS s = true) (hg : Gl X x) (hd : (x == ("__debug__" : Str)) = false := by decide) : PE X (.Name x pos) (tE X.K Z (cM (.str s))) := by
  obtain ⟨t, e⟩ := h
  exact dglob (v := .str s) hg e ⟨t, rfl⟩ (fun _ _ => .str s ho) hd
/-- a written tuple of texts -/
theorem dgstrs {x : Str} {ss : List Str} (h : ∃ a, X.mg x = some (.ref a) ∧ SqTw X.K a (ss.map V.str)) (ho : ∀ s ∈ ss, okS s = true) (hg : Gl X x) (hd : (x == ("__debug__" : Str)) = false := by decide) : PE X (.Name x pos) (tE X.K Z (cM (.tuple (ss.map .str)))) := by
  obtain ⟨a, e, q⟩ := h
  exact dglob (v := .ref a) hg e rfl (fun _ _ => .tup (.inr q) (RpA.strs ho)) hd
end
theorem con_mk {K : PySem.W.Frag} {h : Heap} {mg : Str → Option Value} {x : Str} {v : Value} (X : K.In h) (G : h.Ns mainGlobals mg) (a : PySem.W.nsIn K mainGlobals x = some (some v)) : mg x = some v := PySem.W.mg_of X G a
theorem conT_mk {K : PySem.W.Frag} {h : Heap} {mg : Str → Option Value} {x : Str} {ss : List Str} {f : Addr} {od : Option Addr} {its : List Value} {n : Nat} {sl : Array (Option Value)} (X : K.In h) (G : h.Ns mainGlobals mg)
    (a : PySem.W.nsIn K mainGlobals x = some (some (.ref f))) (l : K.lookup f = some ⟨.type "tuple", od, .seq its.toArray n, sl⟩) (v : Vals (ss.map V.str) its) (hl : ss.length ≤ 1000) : ∃ a, mg x = some (.ref a) ∧ SqTw K a (ss.map V.str) := by
  refine ⟨f, PySem.W.mg_of X G a, _, its.toArray, n, l, rfl, rfl, ?_, by simpa using v⟩
  have := v.length
  simp at this
  have : (1000 : Nat) ≤ sizeLine := by decide
  simp
  omega
theorem bl_len : bootBuiltins "len" = some (.builtin "len") := by decide +kernel
theorem bl_all : bootBuiltins "all" = some (.builtin "all") := by decide +kernel
theorem bl_any : bootBuiltins "any" = some (.builtin "any") := by decide +kernel
theorem bl_abs : bootBuiltins "abs" = some (.builtin "abs") := by decide +kernel
theorem bl_sorted : bootBuiltins "sorted" = some (.builtin "sorted") := by decide +kernel
theorem bl_repr : bootBuiltins "repr" = some (.builtin "repr") := by decide +kernel
theorem bl_int : bootBuiltins "int" = some (.type "int") := by decide +kernel
theorem bl_str : bootBuiltins "str" = some (.type "str") := by decide +kernel
theorem bl_bool : bootBuiltins "bool" = some (.type "bool") := by decide +kernel
theorem bl_list : bootBuiltins "list" = some (.type "list") := by decide +kernel
theorem bl_tuple : bootBuiltins "tuple" = some (.type "tuple") := by decide +kernel
theorem bl_dict : bootBuiltins "dict" = some (.type "dict") := by decide +kernel
/-- x += e, ints -/
def iaddM (x y : W) : M W := match x, y with
  | .d (.int i), .d (.int j) => pr (.d (.int (i + j)))
  | _, _ => no
theorem o_iadd {X : Cx} {Z : XZ} : OpR X (inplaceOp .Add) (r2M X.K Z iaddM) := by
  rintro pins s σ H x y v u Q I rx ry ⟨⟨w1, w2⟩, S, ρ, R, ⟨r1, r2⟩, g⟩
  change Gives (iaddM w1 w2 S) _ _ at g
  unfold iaddM at g
  split at g
  · cases r1; cases r2
    exact iop_add pins s σ H _ _ v u Q I rx ry ⟨_, _, rfl, rfl, g ρ H (.int _) Ext.refl R (.int _)⟩
  · exact g.elim
/-- a def that is never well called -/
theorem fn_none {P : Program} {w : World} {K : PySem.W.Frag} {mg : Str → Option Value} {base : Heap} {CX : CXT} {k : Nat} {f : Addr} {fd : FuncData} {ps : List Str} {ZZ : XK → XZ} : FnG P w K mg base CX k f fd ps (spF K ZZ fun _ => no) :=
  ⟨fun _ _ _ _ h => by obtain ⟨_, _, _, _, _, g⟩ := h; exact g.elim, fun _ _ _ _ _ _ _ _ _ _ _ _ _ _ h => by obtain ⟨_, _, _, _, _, g⟩ := h; exact g.elim⟩
end DL
/-! DL15: more of what a printed text leans on. -/
namespace DL
open PySem PySem.Spec PyProof.Rows L2

/-- {} that nobody changes -/
theorem dd0 {X : Cx} {Z : XZ} {pos : Pos} : PE X (.Dict [] [] pos) (tE X.K Z (cM (.dict []))) := pe_dnewK.imp fun σ H Q h p hp => by
  obtain ⟨δ, S, ρ, r, re, g⟩ := h
  exact g ρ (upd H p (.dK [])) (.ref p) (Ext.frz hp) (r.frz hp) (.dct ⟨upd_same, r.notLive hp⟩)
/-- a call's arguments by the places is of what is handed in -/
def pickL {α : Type} (is : List Nat) (xs : List α) : List α := is.filterMap fun i => xs[i]?
def gP {α : Type} (p q : Nat) (is : List Nat) (us ws : List α) : List α := if us.length = p ∧ ws.length = q then pickL is (us ++ ws) else []
theorem Paired.app' {α β : Type} {R : α → β → Prop} : ∀ {xs : List α} {ys : List β} {xs' : List α} {ys' : List β}, Paired R xs ys → Paired R xs' ys' → Paired R (xs ++ xs') (ys ++ ys')
  | _, _, _, _, .nil, q => q
  | _, _, _, _, .cons a b, q => .cons a (Paired.app' b q)
theorem Paired.none' {α β : Type} {F : α → β → Prop} {xs : List α} {ys : List β} {i : Nat} (p : Paired F xs ys) (h : xs[i]? = none) : ys[i]? = none := by
  have := Paired.length p
  rw [List.getElem?_eq_none_iff] at h ⊢
  omega
theorem Paired.pick {α β : Type} {R : α → β → Prop} {xs : List α} {ys : List β} (p : Paired R xs ys) : ∀ is : List Nat, Paired R (pickL is xs) (pickL is ys)
  | [] => .nil
  | i :: is => by
    unfold pickL
    simp only [List.filterMap_cons]
    cases e : xs[i]? with
    | none =>
      rw [Paired.none' p e]
      exact Paired.pick p is
    | some x =>
      obtain ⟨y, h1, h2⟩ := Paired.at' p e
      rw [h1]
      exact .cons h2 (Paired.pick p is)
theorem Paired.gP {α β : Type} {R : α → β → Prop} {xs xs' : List α} {ys ys' : List β} {m n : Nat} {is : List Nat} (p : Paired R xs ys) (q : Paired R xs' ys') : Paired R (gP m n is xs xs') (gP m n is ys ys') := by
  have l1 := Paired.length p
  have l2 := Paired.length q
  unfold DL.gP
  rw [l1, l2]
  split
  · exact Paired.pick (Paired.app' p q) is
  · exact .nil
theorem vals_pair : ∀ {vs : List V} {us : List Value}, Vals vs us → Paired (fun v u => RelV v u) vs us
  | _, _, .nil => .nil
  | _, _, .cons a b => .cons a (vals_pair b)
theorem pair_vals : ∀ {vs : List V} {us : List Value}, Paired (fun v u => RelV v u) vs us → Vals vs us
  | _, _, .nil => .nil
  | _, _, .cons a b => .cons a (pair_vals b)
theorem kb_pick {K : PySem.W.Frag} {mg : Str → Option Value} {x : Str} {st : Stmt} {f : Addr} {fd : FuncData} {ps ks : List Str} {p q : Nat} {is : List Nat} (Fo : DefOk K mg x st ps f fd) (hps : ps ≠ [])
    (hb : ∀ (kV doc pm : Value) (an : Option Addr) (cdv ct : Value) (us ws : List Value), us.length = p → ws.length = q → bindArgs (PySem.W.fnOf x x (defArgs st) (defBody st) (defScope st) .none kV doc pm an cdv ct) ⟨us, ks.zip ws⟩ = pure (ps.zip (pickL is (us ++ ws)))) :
    KB K fd ps ks (gP p q is) (gP p q is) (gP p q is) := by
  obtain ⟨oc, od, kV, doc, pm, an, cdv, ct, osl, rfl, lk, hcd⟩ := Fo.fn.ex
  refine ⟨⟨fun s us ws _ hl => .of_eq ?_, fun r r2 => pair_vals (Paired.gP (vals_pair r) (vals_pair r2))⟩, fun ρ H L ws zs vs us a b => Paired.gP a b⟩
  unfold gP at hl ⊢
  split at hl
  · rename_i h
    rw [if_pos h]
    exact hb kV doc pm an cdv ct us ws h.1 h.2
  · exact absurd (List.length_eq_zero_iff.mp hl.symm) hps
/-- what stands ready to be called -/
theorem keep_ok {K : PySem.W.Frag} {mg : Str → Option Value} {x : Str} {st : Stmt} {ps : List Str} {f : Addr} {fd : FuncData} (h : DefOk K mg x st ps f fd) : PySem.W.keepIn K (.ref f) = true := h.fn.kp
theorem cint_mk {K : PySem.W.Frag} {h : Heap} {mg : Str → Option Value} {x : Str} {i : Int} {t : Tok} (X : K.In h) (G : h.Ns mainGlobals mg) (a : PySem.W.nsIn K mainGlobals x = some (some (.int i t))) : ∃ t, mg x = some (.int i t) := ⟨t, PySem.W.mg_of X G a⟩
theorem cstr_mk {K : PySem.W.Frag} {h : Heap} {mg : Str → Option Value} {x z : Str} {t : Tok} (X : K.In h) (G : h.Ns mainGlobals mg) (a : PySem.W.nsIn K mainGlobals x = some (some (.str z t))) : ∃ t, mg x = some (.str z t) := ⟨t, PySem.W.mg_of X G a⟩
/-- law's own def -/
theorem law_mk {K : PySem.W.Frag} {h : Heap} {mg : Str → Option Value} {st : Stmt} (X : K.In h) (G : h.Ns mainGlobals mg) (hb1 : ∀ (kV doc pm : Value) (an : Option Addr) (cdv ct : Value), ∀ u : Value, bindArgs (PySem.W.fnOf "law" "law" (defArgs st) (defBody st) (defScope st) .none kV doc pm an cdv ct) ⟨[u], []⟩ = pure [(("script" : Str), u)])
    (hb : ∀ (kV doc pm : Value) (an : Option Addr) (cdv ct : Value) (us : List Value), us.length = (["script"] : List Str).length → bindArgs (PySem.W.fnOf "law" "law" (defArgs st) (defBody st) (defScope st) .none kV doc pm an cdv ct) ⟨us, []⟩ = pure ((["script"] : List Str).zip us))
    {f : Addr} {oc : Value} {od an : Option Addr} {sl : Array (Option Value)} {kV dc pm cd ct : Value}
    (a : PySem.W.nsIn K mainGlobals "law" = some (some (.ref f))) (l : K.lookup f = some ⟨oc, od, .func (PySem.W.fnOf "law" "law" (defArgs st) (defBody st) (defScope st) .none kV dc pm an cd ct), sl⟩) (c : PySem.W.codeIn K cd "law" = true) (k : PySem.W.keepIn K (.ref f) = true) :
    ∃ f fd, DefOk K mg "law" st ["script"] f fd ∧ ∀ (s : Shared) (u : Value), BindsTo s fd ⟨[u], []⟩ [("script", u)] := by
  have F := fun_mk (st := st) l c k
  exact ⟨_, _, ⟨F, PySem.W.mg_of X G a, F.binds hb⟩, fun s u => .of_eq (hb1 _ _ _ _ _ _ u)⟩
end DL
/-! DL16: what denotations come to, in plain Lean. -/
namespace DL
open PySem PySem.Spec PyProof.Rows L2

theorem bd_ok {α β : Type} {m : M α} {f : α → M β} {S S' : Sto} {a : α} (h : m S = .ok a S') : bd m f S = f a S' := by unfold bd; rw [h]
theorem noEx_ok {α : Type} {m : M α} {S S' : Sto} {a : α} (h : m S = .ok a S') : noEx m S = .ok a S' := by unfold noEx; rw [h]
theorem seq_nx {f g : Env → M Fl} {δ δ' : Env} {S S' : Sto} (h : f δ S = .ok (.nx δ') S') : seqM f g δ S = g δ' S' := by unfold seqM; rw [bd_ok h]
theorem seq_rt {f g : Env → M Fl} {δ : Env} {w : W} {S S' : Sto} (h : f δ S = .ok (.rt w) S') : seqM f g δ S = .ok (.rt w) S' := by unfold seqM; rw [bd_ok h]; rfl
theorem if_t {t : Env → M Bool} {f g : Env → M Fl} {δ : Env} {S S' : Sto} (h : t δ S = .ok true S') : ifM t f g δ S = f δ S' := by unfold ifM; rw [bd_ok h]; rfl
theorem if_f {t : Env → M Bool} {f g : Env → M Fl} {δ : Env} {S S' : Sto} (h : t δ S = .ok false S') : ifM t f g δ S = g δ S' := by unfold ifM; rw [bd_ok h]; rfl
theorem asg_ok {f : Env → M W} {i : Nat} {δ : Env} {w : W} {S S' : Sto} (h : f δ S = .ok w S') : asgM f (setG i) δ S = .ok (.nx (δ.set i (some w))) S' := by unfold asgM; rw [bd_ok h]; rfl
theorem ret_ok {f : Env → M W} {δ : Env} {w : W} {S S' : Sto} (h : f δ S = .ok w S') : retM f δ S = .ok (.rt w) S' := by unfold retM; rw [bd_ok h]; rfl
theorem expr_ok {f : Env → M W} {δ : Env} {w : W} {S S' : Sto} (h : f δ S = .ok w S') : exprM f δ S = .ok (.nx δ) S' := by unfold exprM; rw [bd_ok h]; rfl
theorem cal_ok {fr : Env → M (List W)} {fo : List W → M W} {δ : Env} {ws : List W} {w : W} {S S' S'' : Sto} (h : fr δ S = .ok ws S') (h2 : fo ws S' = .ok w S'') : calM fr fo δ S = .ok w S'' := by unfold calM; rw [bd_ok h]; exact h2
theorem bin_ok {fa fb : Env → M W} {fo : W → W → M W} {δ : Env} {x y w : W} {S S1 S2 S3 : Sto} (h : fa δ S = .ok x S1) (h2 : fb δ S1 = .ok y S2) (h3 : fo x y S2 = .ok w S3) : binM fa fb fo δ S = .ok w S3 := by unfold binM; rw [bd_ok h, bd_ok h2]; exact h3
theorem cons_ok {fa : Env → M W} {fr : Env → M (List W)} {δ : Env} {x : W} {xs : List W} {S S1 S2 : Sto} (h : fa δ S = .ok x S1) (h2 : fr δ S1 = .ok xs S2) : consM fa fr δ S = .ok (x :: xs) S2 := by unfold consM; rw [bd_ok h, bd_ok h2]; rfl
theorem star_ok {fa : Env → M W} {fr : Env → M (List W)} {δ : Env} {x : W} {k : Bool} {xs ys : List W} {S S1 S2 : Sto} (h : fa δ S = .ok x S1) (hx : seqOf x S1 = some (k, xs)) (h2 : fr δ S1 = .ok ys S2) : starM fa fr δ S = .ok (xs ++ ys) S2 := by
  unfold starM
  rw [bd_ok h, bd_ok (show itemsM x S1 = .ok xs S1 by unfold itemsM; simp only [hx]), bd_ok h2]
  rfl
theorem val_ok {f : Env → M W} {δ : Env} {b : Bool} {S S' : Sto} (h : f δ S = .ok (okb b) S') : valT f δ S = .ok b S' := by unfold valT; rw [bd_ok h]; rfl
theorem run_rt {k n : Nat} {b : Env → M Fl} {ws : List W} {w : W} {S S' : Sto} (hl : ws.length = k) (h : b (ws.map some ++ List.replicate (n - k) none) S = .ok (.rt w) S') : runD k n b ws S = .ok w S' := by unfold runD; rw [if_pos hl, bd_ok h]; rfl
theorem pure_ok {F : List W → M W} {ws : List W} {ds : List D} {x : D} {S S0 : Sto} (hd : allD ws = some ds) (h : F ws [] = .ok (.d x) S0) : pureM F ws S = .ok (.d x) S := by unfold pureM; rw [hd]; simp only [h]
theorem pure_ex {F : List W → M W} {ws : List W} {ds : List D} {x : D} {S : Sto} (hd : allD ws = some ds) (h : ∃ S0, F ws [] = .ok (.d x) S0) : pureM F ws S = .ok (.d x) S := by
  obtain ⟨S0, h⟩ := h
  exact pure_ok hd h
theorem varM_at {i : Nat} {δ : Env} {w : W} {S : Sto} (h : δ[i]? = some (some w)) : varM i δ S = .ok w S := by unfold varM; rw [h]
/-! ### comprehensions -/
theorem comp_map {own : List Nat} {g : W → Env → M Env} {t : Env → M Bool} {e : Env → M W} {δ : Env} {S : Sto} (p : W → Bool) (φ : W → W) : ∀ {ws : List W},
    (∀ w ∈ ws, ∃ δ1, g w (wipeE δ own) S = .ok δ1 S ∧ t δ1 S = .ok (p w) S ∧ (p w = true → e δ1 S = .ok (φ w) S)) → compL own g t e ws δ S = .ok ((ws.filter p).map φ) S
  | [], _ => rfl
  | w :: ws, h => by
    obtain ⟨δ1, h1, h2, h3⟩ := h w List.mem_cons_self
    have ih := comp_map (own := own) (g := g) (t := t) (e := e) (δ := δ) (S := S) p φ (ws := ws) fun w hw => h w (List.mem_cons_of_mem _ hw)
    unfold compL
    rw [bd_ok (noEx_ok h1), bd_ok (noEx_ok h2)]
    cases hp : p w with
    | true =>
      simp only [if_true]
      rw [bd_ok (noEx_ok (h3 hp)), bd_ok ih, List.filter_cons_of_pos hp]
      rfl
    | false =>
      simp only [Bool.false_eq_true, if_false]
      rw [ih, List.filter_cons_of_neg (by simp [hp])]
theorem comp_all {own : List Nat} {g : W → Env → M Env} {e : Env → M W} {δ : Env} {S : Sto} (φ : W → W) {ws : List W}
    (h : ∀ w ∈ ws, ∃ δ1, g w (wipeE δ own) S = .ok δ1 S ∧ e δ1 S = .ok (φ w) S) : compL own g yesT e ws δ S = .ok (ws.map φ) S := by
  have := comp_map (own := own) (g := g) (t := yesT) (e := e) (δ := δ) (S := S) (fun _ => true) φ (ws := ws) fun w hw => by
    obtain ⟨δ1, h1, h2⟩ := h w hw
    exact ⟨δ1, h1, rfl, fun _ => h2⟩
  rw [List.filter_eq_self.mpr (fun _ _ => rfl)] at this
  exact this
theorem lst_ok {ws : List W} {ds : List D} {S : Sto} (h : allD ws = some ds) (hl : ws.length ≤ sizeLine) : lstM ws S = .ok (.d (.list ds)) S := by unfold lstM; rw [if_pos hl]; simp only [h]
theorem tup_ok {ws : List W} {ds : List D} {S : Sto} (h : allD ws = some ds) (hl : ws.length ≤ sizeLine) : tupM ws S = .ok (.d (.tuple ds)) S := by unfold tupM; rw [if_pos hl]; simp only [h]
theorem small2 : 1000000 ≤ sizeLine := by decide
/-! ### the store -/
theorem set_at {S : Sto} {n : Nat} {o u : Ob} (h : S[n]? = some o) : (S.set n u)[n]? = some u := by
  have : n < S.length := (List.getElem?_eq_some_iff.mp h).1
  rw [List.getElem?_set_self this]
theorem seq_at {S : Sto} {n : Nat} {ws : List W} (h : S[n]? = some (.lst ws)) : seqOf (.r n) S = some (true, ws) := by unfold seqOf; simp only [h]
theorem seq_l {S : Sto} {ds : List D} : seqOf (.d (.list ds)) S = some (true, ds.map .d) := rfl
theorem seq_t {S : Sto} {ds : List D} : seqOf (.d (.tuple ds)) S = some (false, ds.map .d) := rfl
theorem item_r {S : Sto} {n : Nat} {ws : List W} {i : Int} {w : W} (h : S[n]? = some (.lst ws)) (hi : atI ws i = some w) : itemM (.r n) (.d (.int i)) S = .ok w S := by unfold itemM; simp only [seq_at h, hi]
theorem item_l {S : Sto} {ds : List D} {i : Int} {d : D} (hi : atI ds i = some d) : itemM (.d (.list ds)) (.d (.int i)) S = .ok (.d d) S := by
  unfold itemM
  simp only [seq_l, atI_map, hi, Option.map_some]
theorem item_t {S : Sto} {ds : List D} {i : Int} {d : D} (hi : atI ds i = some d) : itemM (.d (.tuple ds)) (.d (.int i)) S = .ok (.d d) S := by
  unfold itemM
  simp only [seq_t, atI_map, hi, Option.map_some]
theorem pop_snoc {S : Sto} {n : Nat} {ws : List W} {w : W} (h : S[n]? = some (.lst (ws ++ [w]))) : popM (.r n) [] S = .ok w (S.set n (.lst ws)) := by
  unfold popM
  simp only [h]
  have e : (ws ++ [w])[(ws ++ [w]).length - 1]? = some w := by simp
  rw [e]
  simp
theorem extend_ok {S : Sto} {n : Nat} {ws ys : List W} {y : W} (h : S[n]? = some (.lst ws)) (hy : seqOf y S = some (true, ys)) (hl : ws.length + ys.length ≤ sizeLine) : extendM (.r n) [y] S = .ok (.d .none) (S.set n (.lst (ws ++ ys))) := by
  unfold extendM
  simp only [h, hy]
  rw [if_pos hl]
theorem append_ok {S : Sto} {n : Nat} {ws : List W} {y : W} (h : S[n]? = some (.lst ws)) (hl : ws.length < sizeLine) : appendM (.r n) [y] S = .ok (.d .none) (S.set n (.lst (ws ++ [y]))) := by
  unfold appendM
  simp only [h]
  rw [if_pos hl]
theorem chkL_r {S : Sto} {n : Nat} {ws : List W} (h : S[n]? = some (.lst ws)) : chkL (.r n) S = .ok () S := by unfold chkL; simp only [seq_at h]
theorem met_ok {fa : Env → M W} {fr : Env → M (List W)} {fo : W → List W → M W} {δ : Env} {n : Nat} {ws : List W} {xs : List W} {w : W} {S S1 : Sto} (h : fa δ S = .ok (.r n) S) (hn : S[n]? = some (.lst ws)) (hr : fr δ S = .ok xs S) (ho : fo (.r n) xs S = .ok w S1) : metM fa fr chkL fo δ S = .ok w S1 := by
  unfold metM
  rw [bd_ok h, bd_ok (chkL_r hn), bd_ok hr]
  exact ho
theorem toD_r {S : Sto} {n : Nat} {ds : List D} (h : S[n]? = some (.lst (ds.map .d))) : toD (.r n) S = some (.list ds) := by
  unfold toD
  simp only [h, allD_map]
  rfl
theorem tuple_r {S : Sto} {n : Nat} {ds : List D} (h : S[n]? = some (.lst (ds.map .d))) : tupleM [.r n] S = .ok (.d (.tuple ds)) S := by
  unfold tupleM
  simp only [toD_r h]
theorem freeze_r {S : Sto} {n : Nat} {ds : List D} (h : S[n]? = some (.lst (ds.map .d))) : freezeM (.r n) S = .ok (.d (.list ds)) (S.set n .dead) := by
  unfold freezeM
  simp only [h, allD_map]
theorem set_set {S : Sto} {n : Nat} {o u : Ob} : (S.set n o).set n u = S.set n u := List.set_set ..
theorem atI_ok {α : Type} {xs : List α} {i : Int} (h0 : 0 ≤ i) (h : i < (xs.length : Int)) : ∃ x, x ∈ xs ∧ atI xs i = some x := by
  have hj : i.toNat < xs.length := by omega
  refine ⟨xs[i.toNat], List.getElem_mem hj, ?_⟩
  unfold L2.atI L2.ixN
  rw [if_pos h0, if_pos h]
  simp [hj]
theorem atI_0 {α : Type} {x : α} {xs : List α} : atI (x :: xs) 0 = some x := by
  unfold L2.atI L2.ixN
  rw [if_pos (by omega), if_pos (by simp only [List.length_cons]; omega)]
  rfl
/-! ### loops -/
theorem wh_end {c : Env → M Bool} {b : Env → M Fl} {n : Nat} {δ : Env} {S S' : Sto} (h : c δ S = .ok false S') : whL c b (n + 1) δ S = .ok (.nx δ) S' := by unfold whL; rw [bd_ok h]; rfl
theorem wh_nx {c : Env → M Bool} {b : Env → M Fl} {n : Nat} {δ δ' : Env} {S S' S'' : Sto} (h : c δ S = .ok true S') (hb : b δ S' = .ok (.nx δ') S'') : whL c b (n + 1) δ S = whL c b n δ' S'' := by
  conv => lhs; unfold whL
  rw [bd_ok h, if_pos rfl, bd_ok hb]
theorem wh_rt {c : Env → M Bool} {b : Env → M Fl} {n : Nat} {δ : Env} {w : W} {S S' S'' : Sto} (h : c δ S = .ok true S') (hb : b δ S' = .ok (.rt w) S'') : whL c b (n + 1) δ S = .ok (.rt w) S'' := by
  conv => lhs; unfold whL
  rw [bd_ok h, if_pos rfl, bd_ok hb]
  rfl
/-! ### the pen: a place of the store with three parts -/
def penO (cs : List Int) (at_ rest : Int) : Ob := .lst [.d (.list (cs.map .int)), .d (.int at_), .d (.int rest)]
structure Pen (S : Sto) (n : Nat) (c : Int) : Prop where
  ex : ∃ cs at_ rest, S[n]? = some (penO cs at_ rest) ∧ 0 ≤ at_ ∧ at_ ≤ c ∧ 0 ≤ rest ∧ cs.length ≤ 63
theorem Pen.mono {S : Sto} {n : Nat} {c c' : Int} (h : Pen S n c) (hc : c ≤ c') : Pen S n c' := by
  obtain ⟨cs, a, r, h1, h2, h3, h4⟩ := h.ex
  exact ⟨cs, a, r, h1, h2, by omega, h4⟩
/-- what a draw says: a number in the range, the pen one further -/
def Draws (F : List W → M W) : Prop := ∀ (S : Sto) (n : Nat) (c many : Int), Pen S n c → c < 1048576 → 1 ≤ many → many < 1073741824 →
  ∃ (k : Int) (o : Ob), F [.r n, .d (.int many)] S = .ok (.d (.int k)) (S.set n o) ∧ 0 ≤ k ∧ k < many ∧ Pen (S.set n o) n (c + 1)
end DL
/-! DL17: equal data, dicts as sets of texts, sorted texts. -/
namespace DL
open PySem PySem.Spec PyProof.Rows L2

mutual
theorem eqv_nd : ∀ d : D, nd d = true → PyData.eqv d d = true
  | .none, _ => rfl
  | .bool b, _ => by simp [PyData.eqv]
  | .int i, _ => by simp [PyData.eqv]
  | .str x, _ => by simp [PyData.eqv]
  | .list xs, h => by rw [PyData.eqv]; exact eqvA_nd xs (by simpa only [nd] using h)
  | .tuple xs, h => by rw [PyData.eqv]; exact eqvA_nd xs (by simpa only [nd] using h)
  | .dict _, h => by simp [nd] at h
theorem eqvA_nd : ∀ xs : List D, ndA xs = true → PyData.eqvAll xs xs = true
  | [], _ => rfl
  | x :: xs, h => by
    simp only [ndA, Bool.and_eq_true] at h
    rw [PyData.eqvAll, eqv_nd x h.1, eqvA_nd xs h.2]
    rfl
end
theorem ndA_of : ∀ {ds : List D}, (∀ d ∈ ds, nd d = true) → ndA ds = true
  | [], _ => by simp only [ndA]
  | d :: ds, h => by
    simp only [ndA, Bool.and_eq_true]
    exact ⟨h d (by simp), ndA_of fun q hq => h q (by simp [hq])⟩
theorem depA_of {k : Nat} : ∀ {ds : List D}, (∀ d ∈ ds, d.depth ≤ k) → PyData.depthAll ds ≤ k
  | [], _ => by simp [PyData.depthAll]
  | d :: ds, h => by
    have h1 := h d (by simp)
    have h2 := depA_of (ds := ds) fun q hq => h q (by simp [hq])
    simp only [PyData.depthAll]
    omega
theorem isNil_no {y : D} (h : y ≠ .list []) : isNil (.d y) = false := by
  cases hq : isNil (.d y) with
  | false => rfl
  | true =>
    have := isNil_of hq
    cases this
    exact absurd rfl h
theorem eq_d {x y : D} {S : Sto} (hy : y ≠ .list []) (hd : min x.depth y.depth ≤ 64) (hx : nd x = true) (hn : nd y = true) : eqM (.d x) (.d y) S = .ok (okb (PyData.eqv x y)) S := by
  unfold eqM
  rw [if_neg (by rw [isNil_no hy]; decide)]
  unfold eqD
  simp only [toD]
  rw [if_pos ⟨hd, hx, hn⟩]
theorem ne_d {x y : D} {S : Sto} (hy : y ≠ .list []) (hd : min x.depth y.depth ≤ 64) (hx : nd x = true) (hn : nd y = true) : neM (.d x) (.d y) S = .ok (okb (!PyData.eqv x y)) S := by
  unfold neM
  rw [if_neg (by rw [isNil_no hy]; decide)]
  unfold neD
  simp only [toD]
  rw [if_pos ⟨hd, hx, hn⟩]
theorem ne_same {x : D} {S : Sto} (hd : x.depth ≤ 64) (hx : nd x = true) : neM (.d x) (.d x) S = .ok (okb false) S := by
  by_cases hy : x = .list []
  · subst hy; rfl
  · rw [ne_d hy (by omega) hx hx, eqv_nd x hx]; rfl
theorem eq_same {x : D} {S : Sto} (hd : x.depth ≤ 64) (hx : nd x = true) : eqM (.d x) (.d x) S = .ok (okb true) S := by
  by_cases hy : x = .list []
  · subst hy; rfl
  · rw [eq_d hy (by omega) hx hx, eqv_nd x hx]
theorem calK_ok {fr fk : Env → M (List W)} {gW : List W → List W → List W} {fo : List W → M W} {δ : Env} {xs ys zs : List W} {w : W} {S S1 S2 S3 : Sto} (h1 : fr δ S = .ok xs S1) (h2 : fk δ S1 = .ok ys S2) (hg : gW xs ys = zs) (h3 : fo zs S2 = .ok w S3) : calK fr fk gW fo δ S = .ok w S3 := by
  unfold calK
  rw [bd_ok h1, bd_ok h2, hg]
  exact h3
/-! ### dicts as sets of texts -/
def kv (ks : List Str) : List (Key × W) := ks.map fun z => (Sum.inr z, .d (.bool true))
def ins (ks : List Str) (z : Str) : List Str := if z ∈ ks then ks else ks ++ [z]
theorem kv_len (ks : List Str) : (kv ks).length = ks.length := by simp [kv]
theorem kv_any (ks : List Str) (z : Str) : ((kv ks).any fun q => decide (q.1 = Sum.inr z)) = decide (z ∈ ks) := by
  induction ks with
  | nil => rfl
  | cons a ks ih =>
    simp only [kv, List.map_cons, List.any_cons, List.mem_cons] at ih ⊢
    rw [ih]
    by_cases e : a = z
    · subst e; simp
    · have e' : ¬ z = a := fun q => e q.symm
      simp [e, e']
theorem put_kv (ks : List Str) (z : Str) : putW (kv ks) (Sum.inr z) (.d (.bool true)) = kv (ins ks z) := by
  unfold putW ins
  rw [kv_any]
  by_cases h : z ∈ ks
  · rw [if_pos (by simpa using h), if_pos h]
    unfold kv
    rw [List.map_map]
    refine List.map_congr_left fun a _ => ?_
    simp only [Function.comp]
    split
    · rename_i e; rw [e]
    · rfl
  · rw [if_neg (by simpa using h), if_neg h]
    simp [kv]
theorem ins_nodup {ks : List Str} {z : Str} (h : ks.Nodup) : (ins ks z).Nodup := by
  unfold ins
  split
  · exact h
  · rename_i hz
    rw [List.nodup_append]
    refine ⟨h, by simp, fun a ha b hb => ?_⟩
    simp at hb
    subst hb
    exact fun e => hz (e ▸ ha)
theorem mem_ins {ks : List Str} {z a : Str} : a ∈ ins ks z ↔ a ∈ ks ∨ a = z := by
  unfold ins
  split
  · rename_i hz
    exact ⟨.inl, fun h => h.elim id fun e => e ▸ hz⟩
  · simp
theorem ins_len {ks : List Str} {z : Str} : (ins ks z).length ≤ ks.length + 1 := by
  unfold ins
  split <;> simp
def uniq (us : List Str) : List Str := us.foldl ins []
theorem fold_ins : ∀ (us ks : List Str), ks.Nodup → (us.foldl ins ks).Nodup ∧ ∀ a, a ∈ us.foldl ins ks ↔ a ∈ ks ∨ a ∈ us
  | [], ks, h => ⟨h, fun a => by simp⟩
  | u :: us, ks, h => by
    obtain ⟨h1, h2⟩ := fold_ins us (ins ks u) (ins_nodup h)
    refine ⟨h1, fun a => ?_⟩
    show a ∈ us.foldl ins (ins ks u) ↔ _
    rw [h2, mem_ins, List.mem_cons, or_assoc]
theorem uniq_nodup (us : List Str) : (uniq us).Nodup := (fold_ins us [] List.nodup_nil).1
theorem mem_uniq {us : List Str} {a : Str} : a ∈ uniq us ↔ a ∈ us := by
  rw [show (a ∈ uniq us ↔ _) from (fold_ins us [] List.nodup_nil).2 a]
  simp
theorem merge_kv : ∀ (us ks : List Str), mergeW (kv ks) (us.map fun z => (Sum.inr z, .d (.bool true))) = kv (us.foldl ins ks)
  | [], ks => rfl
  | u :: us, ks => by
    have := merge_kv us (ins ks u)
    unfold mergeW at this ⊢
    simp only [List.map_cons, List.foldl_cons, put_kv]
    exact this
theorem pairs_kv : ∀ us : List Str, pairsD (us.map fun z => .tuple [.str z, .bool true]) = some (us.map fun z => (Sum.inr z, .bool true))
  | [] => rfl
  | u :: us => by
    simp only [List.map_cons, pairsD, keyOf, pairs_kv us]
theorem dict_ok (us : List Str) (S : Sto) : dictM [.d (.list (us.map fun z => .tuple [.str z, .bool true]))] S = .ok (.r S.length) (S ++ [.dct (kv (uniq us))]) := by
  unfold dictM
  simp only [pairs_kv, List.map_map]
  have := merge_kv us []
  unfold uniq
  rw [← this]
  rfl
theorem listD_ok {S : Sto} {n : Nat} {ks : List Str} (h : S[n]? = some (.dct (kv ks))) : listDM [.r n] S = .ok (.d (.list (ks.map .str))) S := by
  unfold listDM
  simp only [h]
  unfold kv
  rw [List.map_map]
  rfl
theorem strs_map : ∀ ks : List Str, strsD (ks.map .str) = some ks
  | [] => rfl
  | k :: ks => by simp [strsD, strs_map ks]
theorem sort_ok {S : Sto} {ks : List Str} (h : ks.length < 64) : sortM [.d (.list (ks.map .str))] S = .ok (.d (.list ((sortS ks).map .str))) S := by
  unfold sortM
  simp only [toD, strs_map]
  rw [if_pos h]
theorem sort_eq {as bs : List Str} (ha : as.Nodup) (hb : bs.Nodup) (h : ∀ z, z ∈ as ↔ z ∈ bs) : sortS as = sortS bs := by
  refine List.Perm.eq_of_pairwise (le := leS) (fun a b _ _ h1 h2 => ?_) (sortS_sorted as) (sortS_sorted bs) ((sortS_perm as).trans (((List.perm_ext_iff_of_nodup ha hb).mpr h).trans (sortS_perm bs).symm))
  have e : a.cps.toList = b.cps.toList := List.le_antisymm h1 h2
  have e2 : a.cps = b.cps := Array.toList_inj.mp e
  cases a; cases b; cases e2; rfl
/-- is a text among texts -/
theorem eqv_str (a b : Str) : PyData.eqv (.str a) (.str b) = decide (a = b) := by
  rw [PyData.eqv]
  by_cases h : a = b
  · subst h; simp
  · simp [h]
theorem in_strs (z : Str) (ks : List Str) : ((ks.map PyData.str).any fun y => PyData.eqv y (.str z)) = decide (z ∈ ks) := by
  induction ks with
  | nil => rfl
  | cons a ks ih =>
    simp only [List.map_cons, List.any_cons, ih, eqv_str, List.mem_cons]
    by_cases e : a = z
    · subst e; simp
    · have e' : ¬ z = a := fun q => e q.symm
      simp [e, e']
theorem nd_strs (ks : List Str) : ndA (ks.map PyData.str) = true := ndA_of fun d hd => by
  obtain ⟨z, _, rfl⟩ := List.mem_map.mp hd
  simp only [nd]
theorem notin_ok {S : Sto} (z : Str) (ks : List Str) : notInM (.d (.str z)) (.d (.tuple (ks.map .str))) S = .ok (okb (!decide (z ∈ ks))) S := by
  unfold notInM
  simp only [toD]
  rw [if_pos ⟨by simp [PyData.depth], by simp only [nd], nd_strs ks⟩, in_strs]
end DL
namespace DL.k02
open PySem PySem.Spec PyProof.Rows L2 DL
def topS (i : Nat) : Stmt := PySem.Challenge.pw_modulesmeet_k02_expressions_their_parts.main.body.getD i (.Pass ⟨0, 0, 0, 0⟩)
abbrev s_is_listed : Stmt := topS 4
abbrev s_is_row : Stmt := topS 5
abbrev s_is_name : Stmt := topS 6
abbrev s_is_fields : Stmt := topS 10
abbrev s_is_so_high : Stmt := topS 11
abbrev s_is_value : Stmt := topS 12
abbrev s_is_arm : Stmt := topS 17
abbrev s_are_arms : Stmt := topS 18
abbrev s_are_picks : Stmt := topS 19
abbrev s_listed : Stmt := topS 20
abbrev s_is_other : Stmt := topS 21
abbrev s_has_form : Stmt := topS 22
abbrev s_has_arms : Stmt := topS 23
abbrev s_strict_parts : Stmt := topS 24
abbrev s_later_parts : Stmt := topS 25
abbrev s_is_simple : Stmt := topS 26
abbrev s_all_parts : Stmt := topS 27
abbrev s_is_expr : Stmt := topS 28
abbrev s_unknown_in : Stmt := topS 29
abbrev s__law_pen : Stmt := topS 31
abbrev s__law_draw : Stmt := topS 32
abbrev s__law_pick : Stmt := topS 33
abbrev s__law_once : Stmt := topS 34
abbrev s__law_strict : Stmt := topS 35
abbrev s__law_form : Stmt := topS 36
abbrev s__law_later : Stmt := topS 37
abbrev s__law_first_ones : Stmt := topS 38
abbrev s__law_walk : Stmt := topS 39
abbrev s__law_bent : Stmt := topS 40
abbrev s_law : Stmt := topS 41
def c_WORDS : List Str := ["atom", "call", "case", "either", "else", "ask", "field", "get", "has", "let", "never", "or", "pick", "put", "raise", "record", "tag", "try", "with", "without"]
/-- what the walk leans on -/
structure Tx (K : PySem.W.Frag) (mg : Str → Option Value) (ad : Nat → Addr) (fd : Nat → FuncData) : Prop where
  d_is_listed : DefOk K mg "is_listed" s_is_listed ["value"] (ad 0) (fd 0)
  d_is_row : DefOk K mg "is_row" s_is_row ["value", "many"] (ad 1) (fd 1)
  d_is_name : DefOk K mg "is_name" s_is_name ["value"] (ad 2) (fd 2)
  d_is_fields : DefOk K mg "is_fields" s_is_fields ["value"] (ad 3) (fd 3)
  d_is_so_high : DefOk K mg "is_so_high" s_is_so_high ["value", "most", "many"] (ad 4) (fd 4)
  d_is_value : DefOk K mg "is_value" s_is_value ["value"] (ad 5) (fd 5)
  d_is_arm : DefOk K mg "is_arm" s_is_arm ["value"] (ad 6) (fd 6)
  d_are_arms : DefOk K mg "are_arms" s_are_arms ["value"] (ad 7) (fd 7)
  d_are_picks : DefOk K mg "are_picks" s_are_picks ["value"] (ad 8) (fd 8)
  d_listed : DefOk K mg "listed" s_listed ["value"] (ad 9) (fd 9)
  d_is_other : DefOk K mg "is_other" s_is_other ["value"] (ad 10) (fd 10)
  d_has_form : DefOk K mg "has_form" s_has_form ["expr"] (ad 11) (fd 11)
  d_has_arms : DefOk K mg "has_arms" s_has_arms ["word", "rest"] (ad 12) (fd 12)
  d_strict_parts : DefOk K mg "strict_parts" s_strict_parts ["expr"] (ad 13) (fd 13)
  d_later_parts : DefOk K mg "later_parts" s_later_parts ["expr"] (ad 14) (fd 14)
  d_is_simple : DefOk K mg "is_simple" s_is_simple ["expr"] (ad 15) (fd 15)
  d_all_parts : DefOk K mg "all_parts" s_all_parts ["expr"] (ad 16) (fd 16)
  d_is_expr : DefOk K mg "is_expr" s_is_expr ["value"] (ad 17) (fd 17)
  d_unknown_in : DefOk K mg "unknown_in" s_unknown_in ["expr", "known"] (ad 18) (fd 18)
  d__law_pen : DefOk K mg "_law_pen" s__law_pen ["script"] (ad 19) (fd 19)
  d__law_draw : DefOk K mg "_law_draw" s__law_draw ["pen", "many"] (ad 20) (fd 20)
  d__law_pick : DefOk K mg "_law_pick" s__law_pick ["pen", "some"] (ad 21) (fd 21)
  d__law_once : DefOk K mg "_law_once" s__law_once ["some"] (ad 22) (fd 22)
  d__law_strict : DefOk K mg "_law_strict" s__law_strict ["expr"] (ad 23) (fd 23)
  d__law_form : DefOk K mg "_law_form" s__law_form ["pen", "deep"] (ad 24) (fd 24)
  d__law_later : DefOk K mg "_law_later" s__law_later ["expr"] (ad 25) (fd 25)
  d__law_first_ones : DefOk K mg "_law_first_ones" s__law_first_ones ["expr"] (ad 26) (fd 26)
  d__law_walk : DefOk K mg "_law_walk" s__law_walk ["expr", "deep", "known"] (ad 27) (fd 27)
  d__law_bent : DefOk K mg "_law_bent" s__law_bent ["pen", "expr"] (ad 28) (fd 28)
  d_law : DefOk K mg "law" s_law ["script"] (ad 29) (fd 29)
  m_isinstance : mg "isinstance" = none
  m_list : mg "list" = none
  m_tuple : mg "tuple" = none
  m_len : mg "len" = none
  m_str : mg "str" = none
  m_all : mg "all" = none
  m_zip : mg "zip" = none
  m_repr : mg "repr" = none
  m_sorted : mg "sorted" = none
  m_int : mg "int" = none
  m_abs : mg "abs" = none
  m_dict : mg "dict" = none
  m_range : mg "range" = none
  c_LONGEST : ∃ t, mg "LONGEST" = some (.int 8 t)
  c_WORDS : ∃ a, mg "WORDS" = some (.ref a) ∧ SqTw K a (c_WORDS.map V.str)
  c_LETTERS : ∃ t, mg "LETTERS" = some (.str "abcdefghijklmnopqrstuvwxyz" t)
  c_HIGHEST : ∃ t, mg "HIGHEST" = some (.int 8 t)
  c_MOST_FIELDS : ∃ t, mg "MOST_FIELDS" = some (.int 60 t)
  c_MOST_ARMS : ∃ t, mg "MOST_ARMS" = some (.int 600 t)
  c_DEEPEST : ∃ t, mg "DEEPEST" = some (.int 20 t)
  c_MOST_PARTS : ∃ t, mg "MOST_PARTS" = some (.int 20000 t)
section
variable {P : Program} {w : World} {K : PySem.W.Frag} {mg : Str → Option Value} {base : Heap} {ad : Nat → Addr} {fd : Nat → FuncData}
theorem kb_0 {f : Addr} {fd : FuncData} (h : DefOk K mg "is_expr" s_is_expr ["value"] f fd) : KB K fd ["value"] ["value"] (gP 0 1 [0]) (gP 0 1 [0]) (gP 0 1 [0]) :=
  kb_pick h (by decide) fun _ _ _ _ _ _ us ws h1 h2 => match us, ws, h1, h2 with | [], [_], _, _ => rfl
theorem kb_1 {f : Addr} {fd : FuncData} (h : DefOk K mg "all_parts" s_all_parts ["expr"] f fd) : KB K fd ["expr"] ["expr"] (gP 0 1 [0]) (gP 0 1 [0]) (gP 0 1 [0]) :=
  kb_pick h (by decide) fun _ _ _ _ _ _ us ws h1 h2 => match us, ws, h1, h2 with | [], [_], _, _ => rfl
theorem kb_2 {f : Addr} {fd : FuncData} (h : DefOk K mg "strict_parts" s_strict_parts ["expr"] f fd) : KB K fd ["expr"] ["expr"] (gP 0 1 [0]) (gP 0 1 [0]) (gP 0 1 [0]) :=
  kb_pick h (by decide) fun _ _ _ _ _ _ us ws h1 h2 => match us, ws, h1, h2 with | [], [_], _, _ => rfl
theorem kb_3 {f : Addr} {fd : FuncData} (h : DefOk K mg "later_parts" s_later_parts ["expr"] f fd) : KB K fd ["expr"] ["expr"] (gP 0 1 [0]) (gP 0 1 [0]) (gP 0 1 [0]) :=
  kb_pick h (by decide) fun _ _ _ _ _ _ us ws h1 h2 => match us, ws, h1, h2 with | [], [_], _, _ => rfl
theorem kb_4 {f : Addr} {fd : FuncData} (h : DefOk K mg "unknown_in" s_unknown_in ["expr", "known"] f fd) : KB K fd ["expr", "known"] ["known", "expr"] (gP 0 2 [1, 0]) (gP 0 2 [1, 0]) (gP 0 2 [1, 0]) :=
  kb_pick h (by decide) fun _ _ _ _ _ _ us ws h1 h2 => match us, ws, h1, h2 with | [], [_, _], _, _ => rfl
/-! is_listed -/
abbrev N_is_listed : List Str := ["value"]
theorem sc_is_listed : FnScope ["value"] ["value"] (defScope s_is_listed) := ⟨rfl, rfl, rfl, by decide +kernel, rfl, by decide +kernel, by decide +kernel⟩
def st_is_listed_1 : Env → M Fl :=
 (retM (fun δ => bd ((varM 0) δ) (isiM [.lst, .tup])))
def b_is_listed : Env → M Fl :=
 st_is_listed_1
def F_is_listed : List W → M W := pureM (runD 1 1 b_is_listed)
theorem g_is_listed (T : Tx K mg ad fd) : FnG P w K mg base CX0 1 (ad 0) (fd 0) ["value"] (spF K (fun _ => ZF) F_is_listed) := by
  refine fn_pure (fn_run T.d_is_listed.fn sc_is_listed rfl rfl fun cdv A outer s H E hr hG => ?_)
  exact (show PSs _ (defBody s_is_listed) (tS _ ZF b_is_listed) from
 (ds_one (ds_ret (disi2 (T := .lst) (U := .tup) rfl T.m_isinstance rfl T.m_list bl_list rfl T.m_tuple bl_tuple (dvar (i := 0))))))
/-! is_row -/
abbrev N_is_row : List Str := ["value", "many"]
theorem sc_is_row : FnScope ["value", "many"] ["value", "many"] (defScope s_is_row) := ⟨rfl, rfl, rfl, by decide +kernel, rfl, by decide +kernel, by decide +kernel⟩
def st_is_row_1 : Env → M Fl :=
 (retM (andV (calM (consM (varM 0) nilM) fun ws => noEx (F_is_listed ws)) (binM (calM (consM (varM 0) nilM) lenDM) (varM 1) eqM)))
def b_is_row : Env → M Fl :=
 st_is_row_1
def F_is_row : List W → M W := pureM (runD 2 2 b_is_row)
theorem g_is_row (T : Tx K mg ad fd) : FnG P w K mg base CX0 2 (ad 1) (fd 1) ["value", "many"] (spF K (fun _ => ZF) F_is_row) := by
  refine fn_pure (fn_run T.d_is_row.fn sc_is_row rfl rfl fun cdv A outer s H E hr hG => ?_)
  exact (show PSs _ (defBody s_is_row) (tS _ ZF b_is_row) from
 (ds_one (ds_ret (dv_and (dcall ((g_is_listed T).mono (by omega)) hr hG rfl T.d_is_listed.mg (keep_ok T.d_is_listed) T.d_is_listed.bd (dacons (dvar (i := 0)) danil)) (dv_one (dcmp (o_eq (room65 hr)) (dcallB c_lenD rfl T.m_len bl_len (dacons (dvar (i := 0)) danil)) (dvar (i := 1))))))))
/-! is_name -/
abbrev N_is_name : List Str := ["value", "sign"]
theorem sc_is_name : FnScope ["value", "sign"] ["value"] (defScope s_is_name) := ⟨rfl, rfl, rfl, by decide +kernel, rfl, by decide +kernel, by decide +kernel⟩
def st_is_name_1 : Env → M Fl :=
 (ifM (orT (notT (valT (fun δ => bd ((varM 0) δ) (isiM [.str])))) (orT (notT (valT (chainM (cM (.int 1)) (calM (consM (varM 0) nilM) lenDM) (cM (.int 8)) leM leM))) (valT (binM (varM 0) (cM (.tuple (c_WORDS.map .str))) inM)))) (retM (cM (.bool false))) skipM)
def st_is_name_2 : Env → M Fl :=
 (retM (calM (consM (lcM [1] (fun δ => bd ((varM 0) δ) iterM) (setG 1) yesT (binM (varM 1) (cM (.str "abcdefghijklmnopqrstuvwxyz")) inM)) nilM) allM))
def b_is_name : Env → M Fl :=
 (seqM st_is_name_1
 st_is_name_2)
def F_is_name : List W → M W := pureM (runD 1 2 b_is_name)
theorem g_is_name (T : Tx K mg ad fd) : FnG P w K mg base CX0 1 (ad 2) (fd 2) ["value"] (spF K (fun _ => ZF) F_is_name) := by
  refine fn_pure (fn_run T.d_is_name.fn sc_is_name rfl rfl fun cdv A outer s H E hr hG => ?_)
  exact (show PSs _ (defBody s_is_name) (tS _ ZF b_is_name) from
 (ds_cons (ds_if (dt_bool (dw_or (dt_not (dt_val (disi1 (T := .str) rfl T.m_isinstance rfl T.m_str bl_str (dvar (i := 0))))) (dw_or (dt_not (dt_chain o_le o_le dint (dcallB c_lenD rfl T.m_len bl_len (dacons (dvar (i := 0)) danil)) (dgint T.c_LONGEST rfl))) (dw_or1 (dt_cmp (o_in (room66 hr)) (dvar (i := 0)) (dgstrs T.c_WORDS (by decide +kernel) rfl)))))) (ds_one (ds_ret dbl)) ds_nil)
 (ds_one (ds_ret (dcallB (c_all rfl) rfl T.m_all bl_all (dacons (dlc (own := [("sign", 1)]) rfl sc_is_name.nd (di_val (dvar (i := 0))) (blkOk_by (N := N_is_name) (sc := defScope s_is_name) (by decide +kernel)) (fun _ _ _ _ _ => (dr_name (i := 1) sc_is_name.nd rfl (by first | exact Or.inl rfl | exact Or.inr rfl) (fun _ _ => wipe_set (by decide)))) (fun _ _ _ _ _ => dts_nil) (fun _ _ _ _ _ => (dcmp (o_in (room66 hr)) (dvar (i := 1)) (dgstr T.c_LETTERS (by decide +kernel) rfl)))) danil))))))
/-! is_fields -/
abbrev N_is_fields : List Str := ["value", "names", "one", "name", "later"]
theorem sc_is_fields : FnScope ["value", "names", "one", "name", "later"] ["value"] (defScope s_is_fields) := ⟨rfl, rfl, rfl, by decide +kernel, rfl, by decide +kernel, by decide +kernel⟩
def st_is_fields_1 : Env → M Fl :=
 (ifM (orT (notT (valT (calM (consM (varM 0) nilM) fun ws => noEx (F_is_listed ws)))) (notT (valT (calM (consM (lcM [2] (fun δ => bd ((varM 0) δ) iterM) (setG 2) yesT (andV (calM (consM (varM 2) (consM (cM (.int 2)) nilM)) fun ws => noEx (F_is_row ws)) (calM (consM (binM (varM 2) (cM (.int 0)) itemM) nilM) fun ws => noEx (F_is_name ws)))) nilM) allM)))) (retM (cM (.bool false))) skipM)
def st_is_fields_2 : Env → M Fl :=
 (asgM (lcM [2] (fun δ => bd ((varM 0) δ) iterM) (setG 2) yesT (binM (varM 2) (cM (.int 0)) itemM)) (setG 1))
def st_is_fields_3 : Env → M Fl :=
 (retM (calM (consM (lcM [3, 4] (fun δ => bd ((consM (varM 1) (consM (fun δ => bd ((varM 1) δ) fun x => bd ((fun δ => bd ((cM (.int 1)) δ) fun w => bd (intOf w) fun i => pr (some i)) δ) fun l => bd ((fun _ => pr none) δ) fun u => sliceM x l u) nilM)) δ) zipM) (tupG 2 (consG (setG 3) (consG (setG 4) nilG))) yesT (binM (varM 3) (varM 4) ltM)) nilM) allM))
def b_is_fields : Env → M Fl :=
 (seqM st_is_fields_1
 (seqM st_is_fields_2
 st_is_fields_3))
def F_is_fields : List W → M W := pureM (runD 1 5 b_is_fields)
theorem g_is_fields (T : Tx K mg ad fd) : FnG P w K mg base CX0 3 (ad 3) (fd 3) ["value"] (spF K (fun _ => ZF) F_is_fields) := by
  refine fn_pure (fn_run T.d_is_fields.fn sc_is_fields rfl rfl fun cdv A outer s H E hr hG => ?_)
  exact (show PSs _ (defBody s_is_fields) (tS _ ZF b_is_fields) from
 (ds_cons (ds_if (dt_bool (dw_or (dt_not (dt_val (dcall ((g_is_listed T).mono (by omega)) hr hG rfl T.d_is_listed.mg (keep_ok T.d_is_listed) T.d_is_listed.bd (dacons (dvar (i := 0)) danil)))) (dw_or1 (dt_not (dt_val (dcallB (c_all rfl) rfl T.m_all bl_all (dacons (dlc (own := [("one", 2)]) rfl sc_is_fields.nd (di_val (dvar (i := 0))) (blkOk_by (N := N_is_fields) (sc := defScope s_is_fields) (by decide +kernel)) (fun _ _ _ _ _ => (dr_name (i := 2) sc_is_fields.nd rfl (by first | exact Or.inl rfl | exact Or.inr rfl) (fun _ _ => wipe_set (by decide)))) (fun _ _ _ _ _ => dts_nil) (fun _ _ _ _ _ => (dv_and (dcall ((g_is_row T).mono (by omega)) hr hG rfl T.d_is_row.mg (keep_ok T.d_is_row) T.d_is_row.bd (dacons (dvar (i := 2)) (dacons dint danil))) (dv_one (dcall ((g_is_name T).mono (by omega)) hr hG rfl T.d_is_name.mg (keep_ok T.d_is_name) T.d_is_name.bd (dacons (dix x_item (dvar (i := 2)) dint) danil)))))) danil))))))) (ds_one (ds_ret dbl)) ds_nil)
 (ds_cons (ds_setLc (i := 1) (own := [("one", 2)]) rfl sc_is_fields.nd rfl rfl (L2.sw_true rfl rfl rfl (by decide +kernel)) (di_val (dvar (i := 0))) (blkOk_by (N := N_is_fields) (sc := defScope s_is_fields) (by decide +kernel)) (fun _ _ _ _ _ => (dr_name (i := 2) sc_is_fields.nd rfl (by first | exact Or.inl rfl | exact Or.inr rfl) (fun _ _ => wipe_set (by decide)))) (fun _ _ _ _ _ => dts_nil) (fun _ _ _ _ _ => (dix x_item (dvar (i := 2)) dint)))
 (ds_one (ds_ret (dcallB (c_all rfl) rfl T.m_all bl_all (dacons (dlc (own := [("name", 3), ("later", 4)]) rfl sc_is_fields.nd (di_zip rfl T.m_zip (dacons (dvar (i := 1)) (dacons (dslice x_slice (dvar (i := 1)) (dpo_some dint) dpo_none) danil))) (blkOk_by (N := N_is_fields) (sc := defScope s_is_fields) (by decide +kernel)) (fun _ _ _ _ _ => (dr_tup rfl (drs_cons TR.wip (dr_name (i := 3) sc_is_fields.nd rfl (by first | exact Or.inl rfl | exact Or.inr rfl) (fun _ _ => wipe_set (by decide))) (drs_cons TR.wip (dr_name (i := 4) sc_is_fields.nd rfl (by first | exact Or.inl rfl | exact Or.inr rfl) (fun _ _ => wipe_set (by decide))) (drs_nil TR.wip))))) (fun _ _ _ _ _ => dts_nil) (fun _ _ _ _ _ => (dcmp o_lt (dvar (i := 3)) (dvar (i := 4))))) danil)))))))
/-! is_so_high -/
abbrev N_is_so_high : List Str := ["value", "most", "many", "name", "one"]
theorem sc_is_so_high : FnScope ["value", "most", "many", "name", "one"] ["value", "most", "many"] (defScope s_is_so_high) := ⟨rfl, rfl, rfl, by decide +kernel, rfl, by decide +kernel, by decide +kernel⟩
def st_is_so_high_1 (R : List W → M W) : Env → M Fl :=
 (ifM (valT (fun δ => bd ((varM 0) δ) (isiM [.str]))) (retM (andV (binM (varM 0) (cM (.str "atom")) eqM) (binM (varM 1) (cM (.int 0)) gtM))) skipM)
def st_is_so_high_2 (R : List W → M W) : Env → M Fl :=
 (ifM (orT (notT (valT (calM (consM (varM 0) nilM) fun ws => noEx (F_is_listed ws)))) (orT (valT (binM (calM (consM (varM 0) nilM) lenDM) (cM (.int 0)) eqM)) (orT (valT (binM (varM 1) (cM (.int 1)) ltM)) (notT (valT (fun δ => bd ((binM (varM 0) (cM (.int 0)) itemM) δ) (isiM [.str]))))))) (retM (cM (.bool false))) skipM)
def st_is_so_high_3 (R : List W → M W) : Env → M Fl :=
 (ifM (andT (valT (binM (binM (varM 0) (cM (.int 0)) itemM) (cM (.str "record")) eqM)) (andT (valT (binM (calM (consM (varM 0) nilM) lenDM) (cM (.int 2)) eqM)) (andT (valT (calM (consM (binM (varM 0) (cM (.int 1)) itemM) nilM) fun ws => noEx (F_is_fields ws))) (valT (binM (calM (consM (binM (varM 0) (cM (.int 1)) itemM) nilM) lenDM) (varM 2) leM))))) (retM (orV (binM (calM (consM (binM (varM 0) (cM (.int 1)) itemM) nilM) lenDM) (cM (.int 0)) eqM) (andV (binM (varM 1) (cM (.int 1)) gtM) (calM (consM (lcM [3, 4] (fun δ => bd ((binM (varM 0) (cM (.int 1)) itemM) δ) iterM) (tupG 2 (consG (setG 3) (consG (setG 4) nilG))) yesT (calM (consM (varM 4) (consM (binM (varM 1) (cM (.int 1)) subM) (consM (varM 2) nilM))) fun ws => noEx (R ws))) nilM) allM)))) skipM)
def st_is_so_high_4 (R : List W → M W) : Env → M Fl :=
 (retM (andV (binM (binM (varM 0) (cM (.int 0)) itemM) (cM (.str "tag")) eqM) (andV (binM (calM (consM (varM 0) nilM) lenDM) (cM (.int 3)) eqM) (andV (calM (consM (binM (varM 0) (cM (.int 1)) itemM) nilM) fun ws => noEx (F_is_name ws)) (calM (consM (binM (varM 0) (cM (.int 2)) itemM) (consM (binM (varM 1) (cM (.int 1)) subM) (consM (varM 2) nilM))) fun ws => noEx (R ws))))))
def b_is_so_high (R : List W → M W) : Env → M Fl :=
 (seqM (st_is_so_high_1 R)
 (seqM (st_is_so_high_2 R)
 (seqM (st_is_so_high_3 R)
 (st_is_so_high_4 R))))
def F_is_so_high : Nat → List W → M W
  | 0 => fun _ => no
  | n + 1 => pureM (runD 3 5 (b_is_so_high (F_is_so_high n)))
theorem g_is_so_high (T : Tx K mg ad fd) : ∀ n : Nat, FnG P w K mg base CX0 (4 + n) (ad 4) (fd 4) ["value", "most", "many"] (spF K (fun _ => ZF) (F_is_so_high n))
  | 0 => fn_none
  | n + 1 => by
    have ih := g_is_so_high T n
    refine fn_pure (fn_run (j := 4 + n) T.d_is_so_high.fn sc_is_so_high rfl rfl fun cdv A outer s H E hr hG => ?_)
    exact (show PSs _ (defBody s_is_so_high) (tS _ ZF (b_is_so_high (F_is_so_high n))) from
 (ds_cons (ds_if (dt_val (disi1 (T := .str) rfl T.m_isinstance rfl T.m_str bl_str (dvar (i := 0)))) (ds_one (ds_ret (dv_and (dcmp (o_eq (room65 hr)) (dvar (i := 0)) dstr) (dv_one (dcmp o_gt (dvar (i := 1)) dint))))) ds_nil)
 (ds_cons (ds_if (dt_bool (dw_or (dt_not (dt_val (dcall ((g_is_listed T).mono (by omega)) hr hG rfl T.d_is_listed.mg (keep_ok T.d_is_listed) T.d_is_listed.bd (dacons (dvar (i := 0)) danil)))) (dw_or (dt_cmp (o_eq (room65 hr)) (dcallB c_lenD rfl T.m_len bl_len (dacons (dvar (i := 0)) danil)) dint) (dw_or (dt_cmp o_lt (dvar (i := 1)) dint) (dw_or1 (dt_not (dt_val (disi1 (T := .str) rfl T.m_isinstance rfl T.m_str bl_str (dix x_item (dvar (i := 0)) dint))))))))) (ds_one (ds_ret dbl)) ds_nil)
 (ds_cons (ds_if (dt_bool (dw_and (dt_cmp (o_eq (room65 hr)) (dix x_item (dvar (i := 0)) dint) dstr) (dw_and (dt_cmp (o_eq (room65 hr)) (dcallB c_lenD rfl T.m_len bl_len (dacons (dvar (i := 0)) danil)) dint) (dw_and (dt_val (dcall ((g_is_fields T).mono (by omega)) hr hG rfl T.d_is_fields.mg (keep_ok T.d_is_fields) T.d_is_fields.bd (dacons (dix x_item (dvar (i := 0)) dint) danil))) (dw_and1 (dt_cmp o_le (dcallB c_lenD rfl T.m_len bl_len (dacons (dix x_item (dvar (i := 0)) dint) danil)) (dvar (i := 2)))))))) (ds_one (ds_ret (dv_or (dcmp (o_eq (room65 hr)) (dcallB c_lenD rfl T.m_len bl_len (dacons (dix x_item (dvar (i := 0)) dint) danil)) dint) (dv_one (dv_and (dcmp o_gt (dvar (i := 1)) dint) (dv_one (dcallB (c_all rfl) rfl T.m_all bl_all (dacons (dlc (own := [("name", 3), ("one", 4)]) rfl sc_is_so_high.nd (di_val (dix x_item (dvar (i := 0)) dint)) (blkOk_by (N := N_is_so_high) (sc := defScope s_is_so_high) (by decide +kernel)) (fun _ _ _ _ _ => (dr_tup rfl (drs_cons TR.wip (dr_name (i := 3) sc_is_so_high.nd rfl (by first | exact Or.inl rfl | exact Or.inr rfl) (fun _ _ => wipe_set (by decide))) (drs_cons TR.wip (dr_name (i := 4) sc_is_so_high.nd rfl (by first | exact Or.inl rfl | exact Or.inr rfl) (fun _ _ => wipe_set (by decide))) (drs_nil TR.wip))))) (fun _ _ _ _ _ => dts_nil) (fun _ _ _ _ _ => (dcall (ih.mono (by omega)) hr hG rfl T.d_is_so_high.mg (keep_ok T.d_is_so_high) T.d_is_so_high.bd (dacons (dvar (i := 4)) (dacons (dop o_sub (dvar (i := 1)) dint) (dacons (dvar (i := 2)) danil)))))) danil)))))))) ds_nil)
 (ds_one (ds_ret (dv_and (dcmp (o_eq (room65 hr)) (dix x_item (dvar (i := 0)) dint) dstr) (dv_and (dcmp (o_eq (room65 hr)) (dcallB c_lenD rfl T.m_len bl_len (dacons (dvar (i := 0)) danil)) dint) (dv_and (dcall ((g_is_name T).mono (by omega)) hr hG rfl T.d_is_name.mg (keep_ok T.d_is_name) T.d_is_name.bd (dacons (dix x_item (dvar (i := 0)) dint) danil)) (dv_one (dcall (ih.mono (by omega)) hr hG rfl T.d_is_so_high.mg (keep_ok T.d_is_so_high) T.d_is_so_high.bd (dacons (dix x_item (dvar (i := 0)) dint) (dacons (dop o_sub (dvar (i := 1)) dint) (dacons (dvar (i := 2)) danil))))))))))))))
/-! is_value -/
abbrev N_is_value : List Str := ["value"]
theorem sc_is_value : FnScope ["value"] ["value"] (defScope s_is_value) := ⟨rfl, rfl, rfl, by decide +kernel, rfl, by decide +kernel, by decide +kernel⟩
def st_is_value_1 : Env → M Fl :=
 (retM (calM (consM (varM 0) (consM (cM (.int 8)) (consM (cM (.int 60)) nilM))) fun ws => noEx ((F_is_so_high 10) ws)))
def b_is_value : Env → M Fl :=
 st_is_value_1
def F_is_value : List W → M W := pureM (runD 1 1 b_is_value)
theorem g_is_value (T : Tx K mg ad fd) : FnG P w K mg base CX0 15 (ad 5) (fd 5) ["value"] (spF K (fun _ => ZF) F_is_value) := by
  refine fn_pure (fn_run T.d_is_value.fn sc_is_value rfl rfl fun cdv A outer s H E hr hG => ?_)
  exact (show PSs _ (defBody s_is_value) (tS _ ZF b_is_value) from
 (ds_one (ds_ret (dcall ((g_is_so_high T 10).mono (by omega)) hr hG rfl T.d_is_so_high.mg (keep_ok T.d_is_so_high) T.d_is_so_high.bd (dacons (dvar (i := 0)) (dacons (dgint T.c_HIGHEST rfl) (dacons (dgint T.c_MOST_FIELDS rfl) danil)))))))
/-! is_arm -/
abbrev N_is_arm : List Str := ["value"]
theorem sc_is_arm : FnScope ["value"] ["value"] (defScope s_is_arm) := ⟨rfl, rfl, rfl, by decide +kernel, rfl, by decide +kernel, by decide +kernel⟩
def st_is_arm_1 : Env → M Fl :=
 (retM (andV (calM (consM (varM 0) (consM (cM (.int 3)) nilM)) fun ws => noEx (F_is_row ws)) (andV (calM (consM (binM (varM 0) (cM (.int 0)) itemM) nilM) fun ws => noEx (F_is_name ws)) (calM (consM (binM (varM 0) (cM (.int 1)) itemM) nilM) fun ws => noEx (F_is_name ws)))))
def b_is_arm : Env → M Fl :=
 st_is_arm_1
def F_is_arm : List W → M W := pureM (runD 1 1 b_is_arm)
theorem g_is_arm (T : Tx K mg ad fd) : FnG P w K mg base CX0 3 (ad 6) (fd 6) ["value"] (spF K (fun _ => ZF) F_is_arm) := by
  refine fn_pure (fn_run T.d_is_arm.fn sc_is_arm rfl rfl fun cdv A outer s H E hr hG => ?_)
  exact (show PSs _ (defBody s_is_arm) (tS _ ZF b_is_arm) from
 (ds_one (ds_ret (dv_and (dcall ((g_is_row T).mono (by omega)) hr hG rfl T.d_is_row.mg (keep_ok T.d_is_row) T.d_is_row.bd (dacons (dvar (i := 0)) (dacons dint danil))) (dv_and (dcall ((g_is_name T).mono (by omega)) hr hG rfl T.d_is_name.mg (keep_ok T.d_is_name) T.d_is_name.bd (dacons (dix x_item (dvar (i := 0)) dint) danil)) (dv_one (dcall ((g_is_name T).mono (by omega)) hr hG rfl T.d_is_name.mg (keep_ok T.d_is_name) T.d_is_name.bd (dacons (dix x_item (dvar (i := 0)) dint) danil))))))))
/-! are_arms -/
abbrev N_are_arms : List Str := ["value", "one"]
theorem sc_are_arms : FnScope ["value", "one"] ["value"] (defScope s_are_arms) := ⟨rfl, rfl, rfl, by decide +kernel, rfl, by decide +kernel, by decide +kernel⟩
def st_are_arms_1 : Env → M Fl :=
 (ifM (orT (notT (valT (calM (consM (varM 0) nilM) fun ws => noEx (F_is_listed ws)))) (orT (notT (valT (chainM (cM (.int 1)) (calM (consM (varM 0) nilM) lenDM) (cM (.int 600)) leM leM))) (notT (valT (calM (consM (lcM [1] (fun δ => bd ((varM 0) δ) iterM) (setG 1) yesT (calM (consM (varM 1) nilM) fun ws => noEx (F_is_arm ws))) nilM) allM))))) (retM (cM (.bool false))) skipM)
def st_are_arms_2 : Env → M Fl :=
 (retM (binM (calM (consM (dcM [1] (fun δ => bd ((varM 0) δ) iterM) (setG 1) yesT (binM (varM 1) (cM (.int 0)) itemM) (cM (.bool true))) nilM) lenDM) (calM (consM (varM 0) nilM) lenDM) eqM))
def b_are_arms : Env → M Fl :=
 (seqM st_are_arms_1
 st_are_arms_2)
def F_are_arms : List W → M W := pureM (runD 1 2 b_are_arms)
theorem g_are_arms (T : Tx K mg ad fd) : FnG P w K mg base CX0 4 (ad 7) (fd 7) ["value"] (spF K (fun _ => ZF) F_are_arms) := by
  refine fn_pure (fn_run T.d_are_arms.fn sc_are_arms rfl rfl fun cdv A outer s H E hr hG => ?_)
  exact (show PSs _ (defBody s_are_arms) (tS _ ZF b_are_arms) from
 (ds_cons (ds_if (dt_bool (dw_or (dt_not (dt_val (dcall ((g_is_listed T).mono (by omega)) hr hG rfl T.d_is_listed.mg (keep_ok T.d_is_listed) T.d_is_listed.bd (dacons (dvar (i := 0)) danil)))) (dw_or (dt_not (dt_chain o_le o_le dint (dcallB c_lenD rfl T.m_len bl_len (dacons (dvar (i := 0)) danil)) (dgint T.c_MOST_ARMS rfl))) (dw_or1 (dt_not (dt_val (dcallB (c_all rfl) rfl T.m_all bl_all (dacons (dlc (own := [("one", 1)]) rfl sc_are_arms.nd (di_val (dvar (i := 0))) (blkOk_by (N := N_are_arms) (sc := defScope s_are_arms) (by decide +kernel)) (fun _ _ _ _ _ => (dr_name (i := 1) sc_are_arms.nd rfl (by first | exact Or.inl rfl | exact Or.inr rfl) (fun _ _ => wipe_set (by decide)))) (fun _ _ _ _ _ => dts_nil) (fun _ _ _ _ _ => (dcall ((g_is_arm T).mono (by omega)) hr hG rfl T.d_is_arm.mg (keep_ok T.d_is_arm) T.d_is_arm.bd (dacons (dvar (i := 1)) danil)))) danil)))))))) (ds_one (ds_ret dbl)) ds_nil)
 (ds_one (ds_ret (dcmp (o_eq (room65 hr)) (dcallB c_lenD rfl T.m_len bl_len (dacons (ddc (own := [("one", 1)]) rfl sc_are_arms.nd (di_val (dvar (i := 0))) (blkOk_by (N := N_are_arms) (sc := defScope s_are_arms) (by decide +kernel)) (fun _ _ _ _ _ => (dr_name (i := 1) sc_are_arms.nd rfl (by first | exact Or.inl rfl | exact Or.inr rfl) (fun _ _ => wipe_set (by decide)))) (fun _ _ _ _ _ => dts_nil) (fun _ _ _ _ _ => (dix x_item (dvar (i := 1)) dint)) (fun _ _ _ _ _ => dbl)) danil)) (dcallB c_lenD rfl T.m_len bl_len (dacons (dvar (i := 0)) danil)))))))
/-! listed -/
abbrev N_listed : List Str := ["value", "one"]
theorem sc_listed : FnScope ["value", "one"] ["value"] (defScope s_listed) := ⟨rfl, rfl, rfl, by decide +kernel, rfl, by decide +kernel, by decide +kernel⟩
def st_listed_1 (R : List W → M W) : Env → M Fl :=
 (retM (ifV (valT (calM (consM (varM 0) nilM) fun ws => noEx (F_is_listed ws))) (lcM [1] (fun δ => bd ((varM 0) δ) iterM) (setG 1) yesT (calM (consM (varM 1) nilM) fun ws => noEx (R ws))) (varM 0)))
def b_listed (R : List W → M W) : Env → M Fl :=
 (st_listed_1 R)
def F_listed : Nat → List W → M W
  | 0 => fun _ => no
  | n + 1 => pureM (runD 1 2 (b_listed (F_listed n)))
theorem g_listed (T : Tx K mg ad fd) : ∀ n : Nat, FnG P w K mg base CX0 (2 + n) (ad 9) (fd 9) ["value"] (spF K (fun _ => ZF) (F_listed n))
  | 0 => fn_none
  | n + 1 => by
    have ih := g_listed T n
    refine fn_pure (fn_run (j := 2 + n) T.d_listed.fn sc_listed rfl rfl fun cdv A outer s H E hr hG => ?_)
    exact (show PSs _ (defBody s_listed) (tS _ ZF (b_listed (F_listed n))) from
 (ds_one (ds_ret (dif (dt_val (dcall ((g_is_listed T).mono (by omega)) hr hG rfl T.d_is_listed.mg (keep_ok T.d_is_listed) T.d_is_listed.bd (dacons (dvar (i := 0)) danil))) (dlc (own := [("one", 1)]) rfl sc_listed.nd (di_val (dvar (i := 0))) (blkOk_by (N := N_listed) (sc := defScope s_listed) (by decide +kernel)) (fun _ _ _ _ _ => (dr_name (i := 1) sc_listed.nd rfl (by first | exact Or.inl rfl | exact Or.inr rfl) (fun _ _ => wipe_set (by decide)))) (fun _ _ _ _ _ => dts_nil) (fun _ _ _ _ _ => (dcall (ih.mono (by omega)) hr hG rfl T.d_listed.mg (keep_ok T.d_listed) T.d_listed.bd (dacons (dvar (i := 1)) danil)))) (dvar (i := 0))))))
/-! are_picks -/
abbrev N_are_picks : List Str := ["value", "one"]
theorem sc_are_picks : FnScope ["value", "one"] ["value"] (defScope s_are_picks) := ⟨rfl, rfl, rfl, by decide +kernel, rfl, by decide +kernel, by decide +kernel⟩
def st_are_picks_1 : Env → M Fl :=
 (ifM (orT (notT (valT (calM (consM (varM 0) nilM) fun ws => noEx (F_is_listed ws)))) (notT (valT (chainM (cM (.int 1)) (calM (consM (varM 0) nilM) lenDM) (cM (.int 600)) leM leM)))) (retM (cM (.bool false))) skipM)
def st_are_picks_2 : Env → M Fl :=
 (ifM (notT (valT (calM (consM (lcM [1] (fun δ => bd ((varM 0) δ) iterM) (setG 1) yesT (andV (calM (consM (varM 1) (consM (cM (.int 2)) nilM)) fun ws => noEx (F_is_row ws)) (calM (consM (binM (varM 1) (cM (.int 0)) itemM) nilM) fun ws => noEx (F_is_value ws)))) nilM) allM))) (retM (cM (.bool false))) skipM)
def st_are_picks_3 : Env → M Fl :=
 (retM (binM (calM (consM (dcM [1] (fun δ => bd ((varM 0) δ) iterM) (setG 1) yesT (calM (consM (calM (consM (binM (varM 1) (cM (.int 0)) itemM) nilM) fun ws => noEx ((F_listed 10) ws)) nilM) reprM) (cM (.bool true))) nilM) lenDM) (calM (consM (varM 0) nilM) lenDM) eqM))
def b_are_picks : Env → M Fl :=
 (seqM st_are_picks_1
 (seqM st_are_picks_2
 st_are_picks_3))
def F_are_picks : List W → M W := pureM (runD 1 2 b_are_picks)
theorem g_are_picks (T : Tx K mg ad fd) : FnG P w K mg base CX0 16 (ad 8) (fd 8) ["value"] (spF K (fun _ => ZF) F_are_picks) := by
  refine fn_pure (fn_run T.d_are_picks.fn sc_are_picks rfl rfl fun cdv A outer s H E hr hG => ?_)
  exact (show PSs _ (defBody s_are_picks) (tS _ ZF b_are_picks) from
 (ds_cons (ds_if (dt_bool (dw_or (dt_not (dt_val (dcall ((g_is_listed T).mono (by omega)) hr hG rfl T.d_is_listed.mg (keep_ok T.d_is_listed) T.d_is_listed.bd (dacons (dvar (i := 0)) danil)))) (dw_or1 (dt_not (dt_chain o_le o_le dint (dcallB c_lenD rfl T.m_len bl_len (dacons (dvar (i := 0)) danil)) (dgint T.c_MOST_ARMS rfl)))))) (ds_one (ds_ret dbl)) ds_nil)
 (ds_cons (ds_if (dt_not (dt_val (dcallB (c_all rfl) rfl T.m_all bl_all (dacons (dlc (own := [("one", 1)]) rfl sc_are_picks.nd (di_val (dvar (i := 0))) (blkOk_by (N := N_are_picks) (sc := defScope s_are_picks) (by decide +kernel)) (fun _ _ _ _ _ => (dr_name (i := 1) sc_are_picks.nd rfl (by first | exact Or.inl rfl | exact Or.inr rfl) (fun _ _ => wipe_set (by decide)))) (fun _ _ _ _ _ => dts_nil) (fun _ _ _ _ _ => (dv_and (dcall ((g_is_row T).mono (by omega)) hr hG rfl T.d_is_row.mg (keep_ok T.d_is_row) T.d_is_row.bd (dacons (dvar (i := 1)) (dacons dint danil))) (dv_one (dcall ((g_is_value T).mono (by omega)) hr hG rfl T.d_is_value.mg (keep_ok T.d_is_value) T.d_is_value.bd (dacons (dix x_item (dvar (i := 1)) dint) danil)))))) danil)))) (ds_one (ds_ret dbl)) ds_nil)
 (ds_one (ds_ret (dcmp (o_eq (room65 hr)) (dcallB c_lenD rfl T.m_len bl_len (dacons (ddc (own := [("one", 1)]) rfl sc_are_picks.nd (di_val (dvar (i := 0))) (blkOk_by (N := N_are_picks) (sc := defScope s_are_picks) (by decide +kernel)) (fun _ _ _ _ _ => (dr_name (i := 1) sc_are_picks.nd rfl (by first | exact Or.inl rfl | exact Or.inr rfl) (fun _ _ => wipe_set (by decide)))) (fun _ _ _ _ _ => dts_nil) (fun _ _ _ _ _ => (dcallB (c_repr hG (room66 hr)) rfl T.m_repr bl_repr (dacons (dcall ((g_listed T 10).mono (by omega)) hr hG rfl T.d_listed.mg (keep_ok T.d_listed) T.d_listed.bd (dacons (dix x_item (dvar (i := 1)) dint) danil)) danil))) (fun _ _ _ _ _ => dbl)) danil)) (dcallB c_lenD rfl T.m_len bl_len (dacons (dvar (i := 0)) danil))))))))
/-! is_other -/
abbrev N_is_other : List Str := ["value"]
theorem sc_is_other : FnScope ["value"] ["value"] (defScope s_is_other) := ⟨rfl, rfl, rfl, by decide +kernel, rfl, by decide +kernel, by decide +kernel⟩
def st_is_other_1 : Env → M Fl :=
 (retM (orV (binM (varM 0) (cM .none) isM) (andV (calM (consM (varM 0) (consM (cM (.int 2)) nilM)) fun ws => noEx (F_is_row ws)) (calM (consM (binM (varM 0) (cM (.int 0)) itemM) nilM) fun ws => noEx (F_is_name ws)))))
def b_is_other : Env → M Fl :=
 st_is_other_1
def F_is_other : List W → M W := pureM (runD 1 1 b_is_other)
theorem g_is_other (T : Tx K mg ad fd) : FnG P w K mg base CX0 3 (ad 10) (fd 10) ["value"] (spF K (fun _ => ZF) F_is_other) := by
  refine fn_pure (fn_run T.d_is_other.fn sc_is_other rfl rfl fun cdv A outer s H E hr hG => ?_)
  exact (show PSs _ (defBody s_is_other) (tS _ ZF b_is_other) from
 (ds_one (ds_ret (dv_or (dcmp o_is (dvar (i := 0)) dnon) (dv_one (dv_and (dcall ((g_is_row T).mono (by omega)) hr hG rfl T.d_is_row.mg (keep_ok T.d_is_row) T.d_is_row.bd (dacons (dvar (i := 0)) (dacons dint danil))) (dv_one (dcall ((g_is_name T).mono (by omega)) hr hG rfl T.d_is_name.mg (keep_ok T.d_is_name) T.d_is_name.bd (dacons (dix x_item (dvar (i := 0)) dint) danil)))))))))
/-! has_arms -/
abbrev N_has_arms : List Str := ["word", "rest"]
theorem sc_has_arms : FnScope ["word", "rest"] ["word", "rest"] (defScope s_has_arms) := ⟨rfl, rfl, rfl, by decide +kernel, rfl, by decide +kernel, by decide +kernel⟩
def st_has_arms_1 : Env → M Fl :=
 (ifM (valT (binM (varM 0) (cM (.str "record")) eqM)) (retM (andV (binM (calM (consM (varM 1) nilM) lenDM) (cM (.int 1)) eqM) (calM (consM (binM (varM 1) (cM (.int 0)) itemM) nilM) fun ws => noEx (F_is_fields ws)))) skipM)
def st_has_arms_2 : Env → M Fl :=
 (ifM (valT (binM (varM 0) (cM (.str "case")) eqM)) (retM (andV (binM (calM (consM (varM 1) nilM) lenDM) (cM (.int 3)) eqM) (andV (calM (consM (binM (varM 1) (cM (.int 1)) itemM) nilM) fun ws => noEx (F_are_arms ws)) (calM (consM (binM (varM 1) (cM (.int 2)) itemM) nilM) fun ws => noEx (F_is_other ws))))) skipM)
def st_has_arms_3 : Env → M Fl :=
 (ifM (valT (binM (varM 0) (cM (.str "try")) eqM)) (retM (andV (binM (calM (consM (varM 1) nilM) lenDM) (cM (.int 2)) eqM) (calM (consM (binM (varM 1) (cM (.int 1)) itemM) nilM) fun ws => noEx (F_are_arms ws)))) skipM)
def st_has_arms_4 : Env → M Fl :=
 (retM (andV (binM (varM 0) (cM (.str "pick")) eqM) (andV (binM (calM (consM (varM 1) nilM) lenDM) (cM (.int 3)) eqM) (calM (consM (binM (varM 1) (cM (.int 1)) itemM) nilM) fun ws => noEx (F_are_picks ws)))))
def b_has_arms : Env → M Fl :=
 (seqM st_has_arms_1
 (seqM st_has_arms_2
 (seqM st_has_arms_3
 st_has_arms_4)))
def F_has_arms : List W → M W := pureM (runD 2 2 b_has_arms)
theorem g_has_arms (T : Tx K mg ad fd) : FnG P w K mg base CX0 17 (ad 12) (fd 12) ["word", "rest"] (spF K (fun _ => ZF) F_has_arms) := by
  refine fn_pure (fn_run T.d_has_arms.fn sc_has_arms rfl rfl fun cdv A outer s H E hr hG => ?_)
  exact (show PSs _ (defBody s_has_arms) (tS _ ZF b_has_arms) from
 (ds_cons (ds_if (dt_cmp (o_eq (room65 hr)) (dvar (i := 0)) dstr) (ds_one (ds_ret (dv_and (dcmp (o_eq (room65 hr)) (dcallB c_lenD rfl T.m_len bl_len (dacons (dvar (i := 1)) danil)) dint) (dv_one (dcall ((g_is_fields T).mono (by omega)) hr hG rfl T.d_is_fields.mg (keep_ok T.d_is_fields) T.d_is_fields.bd (dacons (dix x_item (dvar (i := 1)) dint) danil)))))) ds_nil)
 (ds_cons (ds_if (dt_cmp (o_eq (room65 hr)) (dvar (i := 0)) dstr) (ds_one (ds_ret (dv_and (dcmp (o_eq (room65 hr)) (dcallB c_lenD rfl T.m_len bl_len (dacons (dvar (i := 1)) danil)) dint) (dv_and (dcall ((g_are_arms T).mono (by omega)) hr hG rfl T.d_are_arms.mg (keep_ok T.d_are_arms) T.d_are_arms.bd (dacons (dix x_item (dvar (i := 1)) dint) danil)) (dv_one (dcall ((g_is_other T).mono (by omega)) hr hG rfl T.d_is_other.mg (keep_ok T.d_is_other) T.d_is_other.bd (dacons (dix x_item (dvar (i := 1)) dint) danil))))))) ds_nil)
 (ds_cons (ds_if (dt_cmp (o_eq (room65 hr)) (dvar (i := 0)) dstr) (ds_one (ds_ret (dv_and (dcmp (o_eq (room65 hr)) (dcallB c_lenD rfl T.m_len bl_len (dacons (dvar (i := 1)) danil)) dint) (dv_one (dcall ((g_are_arms T).mono (by omega)) hr hG rfl T.d_are_arms.mg (keep_ok T.d_are_arms) T.d_are_arms.bd (dacons (dix x_item (dvar (i := 1)) dint) danil)))))) ds_nil)
 (ds_one (ds_ret (dv_and (dcmp (o_eq (room65 hr)) (dvar (i := 0)) dstr) (dv_and (dcmp (o_eq (room65 hr)) (dcallB c_lenD rfl T.m_len bl_len (dacons (dvar (i := 1)) danil)) dint) (dv_one (dcall ((g_are_picks T).mono (by omega)) hr hG rfl T.d_are_picks.mg (keep_ok T.d_are_picks) T.d_are_picks.bd (dacons (dix x_item (dvar (i := 1)) dint) danil)))))))))))
/-! has_form -/
abbrev N_has_form : List Str := ["expr", "word", "rest"]
theorem sc_has_form : FnScope ["expr", "word", "rest"] ["expr"] (defScope s_has_form) := ⟨rfl, rfl, rfl, by decide +kernel, rfl, by decide +kernel, by decide +kernel⟩
def st_has_form_1 : Env → M Fl :=
 (parM 1 2 (consM (binM (varM 0) (cM (.int 0)) itemM) (consM (fun δ => bd ((varM 0) δ) fun x => bd ((fun δ => bd ((cM (.int 1)) δ) fun w => bd (intOf w) fun i => pr (some i)) δ) fun l => bd ((fun _ => pr none) δ) fun u => sliceM x l u) nilM)))
def st_has_form_2 : Env → M Fl :=
 (ifM (valT (binM (varM 1) (fun δ => bd ((consM (cM (.str "get")) (consM (cM (.str "tag")) (consM (cM (.str "put")) (consM (cM (.str "raise")) nilM)))) δ) tupM) inM)) (retM (andV (binM (calM (consM (varM 2) nilM) lenDM) (ifV (valT (binM (varM 1) (cM (.str "get")) eqM)) (cM (.int 1)) (cM (.int 2))) eqM) (calM (consM (binM (varM 2) (cM (.int 0)) itemM) nilM) fun ws => noEx (F_is_name ws)))) skipM)
def st_has_form_3 : Env → M Fl :=
 (ifM (valT (binM (varM 1) (fun δ => bd ((consM (cM (.str "field")) (consM (cM (.str "without")) nilM)) δ) tupM) inM)) (retM (andV (binM (calM (consM (varM 2) nilM) lenDM) (cM (.int 2)) eqM) (calM (consM (binM (varM 2) (cM (.int 1)) itemM) nilM) fun ws => noEx (F_is_name ws)))) skipM)
def st_has_form_4 : Env → M Fl :=
 (ifM (valT (binM (varM 1) (fun δ => bd ((consM (cM (.str "with")) (consM (cM (.str "has")) nilM)) δ) tupM) inM)) (retM (andV (binM (calM (consM (varM 2) nilM) lenDM) (ifV (valT (binM (varM 1) (cM (.str "with")) eqM)) (cM (.int 3)) (cM (.int 4))) eqM) (calM (consM (binM (varM 2) (cM (.int 1)) itemM) nilM) fun ws => noEx (F_is_name ws)))) skipM)
def st_has_form_5 : Env → M Fl :=
 (ifM (valT (binM (varM 1) (cM (.str "let")) eqM)) (retM (andV (binM (calM (consM (varM 2) nilM) lenDM) (cM (.int 3)) eqM) (calM (consM (binM (varM 2) (cM (.int 0)) itemM) nilM) fun ws => noEx (F_is_name ws)))) skipM)
def st_has_form_6 : Env → M Fl :=
 (ifM (valT (binM (varM 1) (cM (.str "call")) eqM)) (retM (andV (binM (calM (consM (varM 2) nilM) lenDM) (cM (.int 2)) eqM) (andV (calM (consM (binM (varM 2) (cM (.int 0)) itemM) nilM) fun ws => noEx (F_is_name ws)) (calM (consM (binM (varM 2) (cM (.int 1)) itemM) nilM) fun ws => noEx (F_is_listed ws))))) skipM)
def st_has_form_7 : Env → M Fl :=
 (ifM (valT (binM (varM 1) (cM (.str "ask")) eqM)) (retM (andV (binM (calM (consM (varM 2) nilM) lenDM) (cM (.int 3)) eqM) (andV (calM (consM (binM (varM 2) (cM (.int 0)) itemM) nilM) fun ws => noEx (F_is_name ws)) (andV (calM (consM (binM (varM 2) (cM (.int 1)) itemM) nilM) fun ws => noEx (F_is_name ws)) (calM (consM (binM (varM 2) (cM (.int 2)) itemM) nilM) fun ws => noEx (F_is_listed ws)))))) skipM)
def st_has_form_8 : Env → M Fl :=
 (ifM (valT (binM (varM 1) (cM (.str "either")) eqM)) (retM (andV (binM (calM (consM (varM 2) nilM) lenDM) (cM (.int 1)) eqM) (andV (calM (consM (binM (varM 2) (cM (.int 0)) itemM) nilM) fun ws => noEx (F_is_listed ws)) (chainM (cM (.int 2)) (calM (consM (binM (varM 2) (cM (.int 0)) itemM) nilM) lenDM) (cM (.int 600)) leM leM)))) skipM)
def st_has_form_9 : Env → M Fl :=
 (retM (calM (consM (varM 1) (consM (varM 2) nilM)) fun ws => noEx (F_has_arms ws)))
def b_has_form : Env → M Fl :=
 (seqM st_has_form_1
 (seqM st_has_form_2
 (seqM st_has_form_3
 (seqM st_has_form_4
 (seqM st_has_form_5
 (seqM st_has_form_6
 (seqM st_has_form_7
 (seqM st_has_form_8
 st_has_form_9))))))))
def F_has_form : List W → M W := pureM (runD 1 3 b_has_form)
theorem g_has_form (T : Tx K mg ad fd) : FnG P w K mg base CX0 18 (ad 11) (fd 11) ["expr"] (spF K (fun _ => ZF) F_has_form) := by
  refine fn_pure (fn_run T.d_has_form.fn sc_has_form rfl rfl fun cdv A outer s H E hr hG => ?_)
  exact (show PSs _ (defBody s_has_form) (tS _ ZF b_has_form) from
 (ds_cons (ds_par (i := 1) (j := 2) rfl sc_has_form.nd rfl rfl (by decide) rfl rfl (dacons (dix x_item (dvar (i := 0)) dint) (dacons (dslice x_slice (dvar (i := 0)) (dpo_some dint) dpo_none) danil)))
 (ds_cons (ds_if (dt_cmp (o_in (room66 hr)) (dvar (i := 1)) (dtup (dacons dstr (dacons dstr (dacons dstr (dacons dstr danil)))))) (ds_one (ds_ret (dv_and (dcmp (o_eq (room65 hr)) (dcallB c_lenD rfl T.m_len bl_len (dacons (dvar (i := 2)) danil)) (dif (dt_cmp (o_eq (room65 hr)) (dvar (i := 1)) dstr) dint dint)) (dv_one (dcall ((g_is_name T).mono (by omega)) hr hG rfl T.d_is_name.mg (keep_ok T.d_is_name) T.d_is_name.bd (dacons (dix x_item (dvar (i := 2)) dint) danil)))))) ds_nil)
 (ds_cons (ds_if (dt_cmp (o_in (room66 hr)) (dvar (i := 1)) (dtup (dacons dstr (dacons dstr danil)))) (ds_one (ds_ret (dv_and (dcmp (o_eq (room65 hr)) (dcallB c_lenD rfl T.m_len bl_len (dacons (dvar (i := 2)) danil)) dint) (dv_one (dcall ((g_is_name T).mono (by omega)) hr hG rfl T.d_is_name.mg (keep_ok T.d_is_name) T.d_is_name.bd (dacons (dix x_item (dvar (i := 2)) dint) danil)))))) ds_nil)
 (ds_cons (ds_if (dt_cmp (o_in (room66 hr)) (dvar (i := 1)) (dtup (dacons dstr (dacons dstr danil)))) (ds_one (ds_ret (dv_and (dcmp (o_eq (room65 hr)) (dcallB c_lenD rfl T.m_len bl_len (dacons (dvar (i := 2)) danil)) (dif (dt_cmp (o_eq (room65 hr)) (dvar (i := 1)) dstr) dint dint)) (dv_one (dcall ((g_is_name T).mono (by omega)) hr hG rfl T.d_is_name.mg (keep_ok T.d_is_name) T.d_is_name.bd (dacons (dix x_item (dvar (i := 2)) dint) danil)))))) ds_nil)
 (ds_cons (ds_if (dt_cmp (o_eq (room65 hr)) (dvar (i := 1)) dstr) (ds_one (ds_ret (dv_and (dcmp (o_eq (room65 hr)) (dcallB c_lenD rfl T.m_len bl_len (dacons (dvar (i := 2)) danil)) dint) (dv_one (dcall ((g_is_name T).mono (by omega)) hr hG rfl T.d_is_name.mg (keep_ok T.d_is_name) T.d_is_name.bd (dacons (dix x_item (dvar (i := 2)) dint) danil)))))) ds_nil)
 (ds_cons (ds_if (dt_cmp (o_eq (room65 hr)) (dvar (i := 1)) dstr) (ds_one (ds_ret (dv_and (dcmp (o_eq (room65 hr)) (dcallB c_lenD rfl T.m_len bl_len (dacons (dvar (i := 2)) danil)) dint) (dv_and (dcall ((g_is_name T).mono (by omega)) hr hG rfl T.d_is_name.mg (keep_ok T.d_is_name) T.d_is_name.bd (dacons (dix x_item (dvar (i := 2)) dint) danil)) (dv_one (dcall ((g_is_listed T).mono (by omega)) hr hG rfl T.d_is_listed.mg (keep_ok T.d_is_listed) T.d_is_listed.bd (dacons (dix x_item (dvar (i := 2)) dint) danil))))))) ds_nil)
 (ds_cons (ds_if (dt_cmp (o_eq (room65 hr)) (dvar (i := 1)) dstr) (ds_one (ds_ret (dv_and (dcmp (o_eq (room65 hr)) (dcallB c_lenD rfl T.m_len bl_len (dacons (dvar (i := 2)) danil)) dint) (dv_and (dcall ((g_is_name T).mono (by omega)) hr hG rfl T.d_is_name.mg (keep_ok T.d_is_name) T.d_is_name.bd (dacons (dix x_item (dvar (i := 2)) dint) danil)) (dv_and (dcall ((g_is_name T).mono (by omega)) hr hG rfl T.d_is_name.mg (keep_ok T.d_is_name) T.d_is_name.bd (dacons (dix x_item (dvar (i := 2)) dint) danil)) (dv_one (dcall ((g_is_listed T).mono (by omega)) hr hG rfl T.d_is_listed.mg (keep_ok T.d_is_listed) T.d_is_listed.bd (dacons (dix x_item (dvar (i := 2)) dint) danil)))))))) ds_nil)
 (ds_cons (ds_if (dt_cmp (o_eq (room65 hr)) (dvar (i := 1)) dstr) (ds_one (ds_ret (dv_and (dcmp (o_eq (room65 hr)) (dcallB c_lenD rfl T.m_len bl_len (dacons (dvar (i := 2)) danil)) dint) (dv_and (dcall ((g_is_listed T).mono (by omega)) hr hG rfl T.d_is_listed.mg (keep_ok T.d_is_listed) T.d_is_listed.bd (dacons (dix x_item (dvar (i := 2)) dint) danil)) (dv_one (dchain o_le o_le dint (dcallB c_lenD rfl T.m_len bl_len (dacons (dix x_item (dvar (i := 2)) dint) danil)) (dgint T.c_MOST_ARMS rfl))))))) ds_nil)
 (ds_one (ds_ret (dcall ((g_has_arms T).mono (by omega)) hr hG rfl T.d_has_arms.mg (keep_ok T.d_has_arms) T.d_has_arms.bd (dacons (dvar (i := 1)) (dacons (dvar (i := 2)) danil))))))))))))))
/-! strict_parts -/
abbrev N_strict_parts : List Str := ["expr", "word", "name", "part"]
theorem sc_strict_parts : FnScope ["expr", "word", "name", "part"] ["expr"] (defScope s_strict_parts) := ⟨rfl, rfl, rfl, by decide +kernel, rfl, by decide +kernel, by decide +kernel⟩
def st_strict_parts_1 : Env → M Fl :=
 (asgM (binM (varM 0) (cM (.int 0)) itemM) (setG 1))
def st_strict_parts_2 : Env → M Fl :=
 (ifM (valT (binM (varM 1) (cM (.str "record")) eqM)) (retM (calM (consM (lcM [2, 3] (fun δ => bd ((binM (varM 0) (cM (.int 1)) itemM) δ) iterM) (tupG 2 (consG (setG 2) (consG (setG 3) nilG))) yesT (varM 3)) nilM) tupleM)) skipM)
def st_strict_parts_3 : Env → M Fl :=
 (ifM (valT (binM (varM 1) (fun δ => bd ((consM (cM (.str "call")) (consM (cM (.str "ask")) nilM)) δ) tupM) inM)) (retM (calM (consM (binM (varM 0) (fun δ => bd ((cM (.int 1)) δ) negM) itemM) nilM) tupleM)) skipM)
def st_strict_parts_4 : Env → M Fl :=
 (ifM (valT (binM (varM 1) (fun δ => bd ((consM (cM (.str "tag")) (consM (cM (.str "put")) (consM (cM (.str "raise")) nilM))) δ) tupM) inM)) (retM (fun δ => bd ((consM (binM (varM 0) (cM (.int 2)) itemM) nilM) δ) tupM)) skipM)
def st_strict_parts_5 : Env → M Fl :=
 (ifM (valT (binM (varM 1) (cM (.str "with")) eqM)) (retM (fun δ => bd ((consM (binM (varM 0) (cM (.int 1)) itemM) (consM (binM (varM 0) (cM (.int 3)) itemM) nilM)) δ) tupM)) skipM)
def st_strict_parts_6 : Env → M Fl :=
 (ifM (valT (binM (varM 1) (cM (.str "let")) eqM)) (retM (fun δ => bd ((consM (binM (varM 0) (cM (.int 2)) itemM) nilM) δ) tupM)) skipM)
def st_strict_parts_7 : Env → M Fl :=
 (retM (ifV (valT (binM (varM 1) (fun δ => bd ((consM (cM (.str "get")) (consM (cM (.str "either")) nilM)) δ) tupM) inM)) (fun δ => bd (nilM δ) tupM) (fun δ => bd ((consM (binM (varM 0) (cM (.int 1)) itemM) nilM) δ) tupM)))
def b_strict_parts : Env → M Fl :=
 (seqM st_strict_parts_1
 (seqM st_strict_parts_2
 (seqM st_strict_parts_3
 (seqM st_strict_parts_4
 (seqM st_strict_parts_5
 (seqM st_strict_parts_6
 st_strict_parts_7))))))
def F_strict_parts : List W → M W := pureM (runD 1 4 b_strict_parts)
theorem g_strict_parts (T : Tx K mg ad fd) : FnG P w K mg base CX0 1 (ad 13) (fd 13) ["expr"] (spF K (fun _ => ZF) F_strict_parts) := by
  refine fn_pure (fn_run T.d_strict_parts.fn sc_strict_parts rfl rfl fun cdv A outer s H E hr hG => ?_)
  exact (show PSs _ (defBody s_strict_parts) (tS _ ZF b_strict_parts) from
 (ds_cons (ds_set (i := 1) sc_strict_parts.nd rfl (by first | exact Or.inl rfl | exact Or.inr rfl) (dix x_item (dvar (i := 0)) dint))
 (ds_cons (ds_if (dt_cmp (o_eq (room65 hr)) (dvar (i := 1)) dstr) (ds_one (ds_ret (dcallTy c_tuple rfl T.m_tuple bl_tuple (dacons (dlc (own := [("name", 2), ("part", 3)]) rfl sc_strict_parts.nd (di_val (dix x_item (dvar (i := 0)) dint)) (blkOk_by (N := N_strict_parts) (sc := defScope s_strict_parts) (by decide +kernel)) (fun _ _ _ _ _ => (dr_tup rfl (drs_cons TR.wip (dr_name (i := 2) sc_strict_parts.nd rfl (by first | exact Or.inl rfl | exact Or.inr rfl) (fun _ _ => wipe_set (by decide))) (drs_cons TR.wip (dr_name (i := 3) sc_strict_parts.nd rfl (by first | exact Or.inl rfl | exact Or.inr rfl) (fun _ _ => wipe_set (by decide))) (drs_nil TR.wip))))) (fun _ _ _ _ _ => dts_nil) (fun _ _ _ _ _ => (dvar (i := 3)))) danil)))) ds_nil)
 (ds_cons (ds_if (dt_cmp (o_in (room66 hr)) (dvar (i := 1)) (dtup (dacons dstr (dacons dstr danil)))) (ds_one (ds_ret (dcallTy c_tuple rfl T.m_tuple bl_tuple (dacons (dix x_item (dvar (i := 0)) (dun o_neg dint)) danil)))) ds_nil)
 (ds_cons (ds_if (dt_cmp (o_in (room66 hr)) (dvar (i := 1)) (dtup (dacons dstr (dacons dstr (dacons dstr danil))))) (ds_one (ds_ret (dtup (dacons (dix x_item (dvar (i := 0)) dint) danil)))) ds_nil)
 (ds_cons (ds_if (dt_cmp (o_eq (room65 hr)) (dvar (i := 1)) dstr) (ds_one (ds_ret (dtup (dacons (dix x_item (dvar (i := 0)) dint) (dacons (dix x_item (dvar (i := 0)) dint) danil))))) ds_nil)
 (ds_cons (ds_if (dt_cmp (o_eq (room65 hr)) (dvar (i := 1)) dstr) (ds_one (ds_ret (dtup (dacons (dix x_item (dvar (i := 0)) dint) danil)))) ds_nil)
 (ds_one (ds_ret (dif (dt_cmp (o_in (room66 hr)) (dvar (i := 1)) (dtup (dacons dstr (dacons dstr danil)))) (dtup danil) (dtup (dacons (dix x_item (dvar (i := 0)) dint) danil))))))))))))
/-! later_parts -/
abbrev N_later_parts : List Str := ["expr", "word", "other", "part", "one"]
theorem sc_later_parts : FnScope ["expr", "word", "other", "part", "one"] ["expr"] (defScope s_later_parts) := ⟨rfl, rfl, rfl, by decide +kernel, rfl, by decide +kernel, by decide +kernel⟩
def st_later_parts_1 : Env → M Fl :=
 (asgM (binM (varM 0) (cM (.int 0)) itemM) (setG 1))
def st_later_parts_2 : Env → M Fl :=
 (ifM (valT (binM (varM 1) (cM (.str "has")) eqM)) (retM (fun δ => bd ((consM (fun δ => bd ((consM (cM .none) (consM (binM (varM 0) (cM (.int 3)) itemM) nilM)) δ) tupM) (consM (fun δ => bd ((consM (cM .none) (consM (binM (varM 0) (cM (.int 4)) itemM) nilM)) δ) tupM) nilM)) δ) tupM)) skipM)
def st_later_parts_3 : Env → M Fl :=
 (ifM (valT (binM (varM 1) (cM (.str "let")) eqM)) (retM (fun δ => bd ((consM (fun δ => bd ((consM (binM (varM 0) (cM (.int 1)) itemM) (consM (binM (varM 0) (cM (.int 3)) itemM) nilM)) δ) tupM) nilM) δ) tupM)) skipM)
def st_later_parts_4 : Env → M Fl :=
 (ifM (valT (binM (varM 1) (cM (.str "either")) eqM)) (retM (calM (consM (lcM [3] (fun δ => bd ((binM (varM 0) (cM (.int 1)) itemM) δ) iterM) (setG 3) yesT (fun δ => bd ((consM (cM .none) (consM (varM 3) nilM)) δ) tupM)) nilM) tupleM)) skipM)
def st_later_parts_5 : Env → M Fl :=
 (ifM (valT (binM (varM 1) (fun δ => bd ((consM (cM (.str "case")) (consM (cM (.str "try")) nilM)) δ) tupM) inM)) (seqM (asgM (ifV (andT (valT (binM (varM 1) (cM (.str "case")) eqM)) (valT (binM (binM (varM 0) (cM (.int 3)) itemM) (cM .none) isNotM))) (fun δ => bd ((consM (fun δ => bd ((consM (binM (binM (varM 0) (cM (.int 3)) itemM) (cM (.int 0)) itemM) (consM (binM (binM (varM 0) (cM (.int 3)) itemM) (cM (.int 1)) itemM) nilM)) δ) tupM) nilM) δ) lstM) (fun δ => bd (nilM δ) lstM)) (setG 2))
 (retM (calM (consM (fun δ => bd ((starM (lcM [4] (fun δ => bd ((binM (varM 0) (cM (.int 2)) itemM) δ) iterM) (setG 4) yesT (fun δ => bd ((consM (binM (varM 4) (cM (.int 1)) itemM) (consM (binM (varM 4) (cM (.int 2)) itemM) nilM)) δ) tupM)) (starM (varM 2) nilM)) δ) lstM) nilM) tupleM))) skipM)
def st_later_parts_6 : Env → M Fl :=
 (ifM (valT (binM (varM 1) (cM (.str "pick")) eqM)) (seqM (asgM (ifV (valT (binM (binM (varM 0) (cM (.int 3)) itemM) (cM .none) isNotM)) (fun δ => bd ((consM (fun δ => bd ((consM (cM .none) (consM (binM (varM 0) (cM (.int 3)) itemM) nilM)) δ) tupM) nilM) δ) lstM) (fun δ => bd (nilM δ) lstM)) (setG 2))
 (retM (calM (consM (fun δ => bd ((starM (lcM [4] (fun δ => bd ((binM (varM 0) (cM (.int 2)) itemM) δ) iterM) (setG 4) yesT (fun δ => bd ((consM (cM .none) (consM (binM (varM 4) (cM (.int 1)) itemM) nilM)) δ) tupM)) (starM (varM 2) nilM)) δ) lstM) nilM) tupleM))) skipM)
def st_later_parts_7 : Env → M Fl :=
 (retM (fun δ => bd (nilM δ) tupM))
def b_later_parts : Env → M Fl :=
 (seqM st_later_parts_1
 (seqM st_later_parts_2
 (seqM st_later_parts_3
 (seqM st_later_parts_4
 (seqM st_later_parts_5
 (seqM st_later_parts_6
 st_later_parts_7))))))
def F_later_parts : List W → M W := pureM (runD 1 5 b_later_parts)
theorem g_later_parts (T : Tx K mg ad fd) : FnG P w K mg base CX0 1 (ad 14) (fd 14) ["expr"] (spF K (fun _ => ZF) F_later_parts) := by
  refine fn_pure (fn_run T.d_later_parts.fn sc_later_parts rfl rfl fun cdv A outer s H E hr hG => ?_)
  exact (show PSs _ (defBody s_later_parts) (tS _ ZF b_later_parts) from
 (ds_cons (ds_set (i := 1) sc_later_parts.nd rfl (by first | exact Or.inl rfl | exact Or.inr rfl) (dix x_item (dvar (i := 0)) dint))
 (ds_cons (ds_if (dt_cmp (o_eq (room65 hr)) (dvar (i := 1)) dstr) (ds_one (ds_ret (dtup (dacons (dtup (dacons dnon (dacons (dix x_item (dvar (i := 0)) dint) danil))) (dacons (dtup (dacons dnon (dacons (dix x_item (dvar (i := 0)) dint) danil))) danil))))) ds_nil)
 (ds_cons (ds_if (dt_cmp (o_eq (room65 hr)) (dvar (i := 1)) dstr) (ds_one (ds_ret (dtup (dacons (dtup (dacons (dix x_item (dvar (i := 0)) dint) (dacons (dix x_item (dvar (i := 0)) dint) danil))) danil)))) ds_nil)
 (ds_cons (ds_if (dt_cmp (o_eq (room65 hr)) (dvar (i := 1)) dstr) (ds_one (ds_ret (dcallTy c_tuple rfl T.m_tuple bl_tuple (dacons (dlc (own := [("part", 3)]) rfl sc_later_parts.nd (di_val (dix x_item (dvar (i := 0)) dint)) (blkOk_by (N := N_later_parts) (sc := defScope s_later_parts) (by decide +kernel)) (fun _ _ _ _ _ => (dr_name (i := 3) sc_later_parts.nd rfl (by first | exact Or.inl rfl | exact Or.inr rfl) (fun _ _ => wipe_set (by decide)))) (fun _ _ _ _ _ => dts_nil) (fun _ _ _ _ _ => (dtup (dacons dnon (dacons (dvar (i := 3)) danil))))) danil)))) ds_nil)
 (ds_cons (ds_if (dt_cmp (o_in (room66 hr)) (dvar (i := 1)) (dtup (dacons dstr (dacons dstr danil)))) (ds_cons (ds_set (i := 2) sc_later_parts.nd rfl (by first | exact Or.inl rfl | exact Or.inr rfl) (dif (dt_bool (dw_and (dt_cmp (o_eq (room65 hr)) (dvar (i := 1)) dstr) (dw_and1 (dt_cmp o_isNot (dix x_item (dvar (i := 0)) dint) dnon)))) (dlst (dacons (dtup (dacons (dix x_item (dix x_item (dvar (i := 0)) dint) dint) (dacons (dix x_item (dix x_item (dvar (i := 0)) dint) dint) danil))) danil)) (dlst danil)))
 (ds_one (ds_ret (dcallTy c_tuple rfl T.m_tuple bl_tuple (dacons (dlst (dastar (dlc (own := [("one", 4)]) rfl sc_later_parts.nd (di_val (dix x_item (dvar (i := 0)) dint)) (blkOk_by (N := N_later_parts) (sc := defScope s_later_parts) (by decide +kernel)) (fun _ _ _ _ _ => (dr_name (i := 4) sc_later_parts.nd rfl (by first | exact Or.inl rfl | exact Or.inr rfl) (fun _ _ => wipe_set (by decide)))) (fun _ _ _ _ _ => dts_nil) (fun _ _ _ _ _ => (dtup (dacons (dix x_item (dvar (i := 4)) dint) (dacons (dix x_item (dvar (i := 4)) dint) danil))))) (dastar (dvar (i := 2)) danil))) danil))))) ds_nil)
 (ds_cons (ds_if (dt_cmp (o_eq (room65 hr)) (dvar (i := 1)) dstr) (ds_cons (ds_set (i := 2) sc_later_parts.nd rfl (by first | exact Or.inl rfl | exact Or.inr rfl) (dif (dt_cmp o_isNot (dix x_item (dvar (i := 0)) dint) dnon) (dlst (dacons (dtup (dacons dnon (dacons (dix x_item (dvar (i := 0)) dint) danil))) danil)) (dlst danil)))
 (ds_one (ds_ret (dcallTy c_tuple rfl T.m_tuple bl_tuple (dacons (dlst (dastar (dlc (own := [("one", 4)]) rfl sc_later_parts.nd (di_val (dix x_item (dvar (i := 0)) dint)) (blkOk_by (N := N_later_parts) (sc := defScope s_later_parts) (by decide +kernel)) (fun _ _ _ _ _ => (dr_name (i := 4) sc_later_parts.nd rfl (by first | exact Or.inl rfl | exact Or.inr rfl) (fun _ _ => wipe_set (by decide)))) (fun _ _ _ _ _ => dts_nil) (fun _ _ _ _ _ => (dtup (dacons dnon (dacons (dix x_item (dvar (i := 4)) dint) danil))))) (dastar (dvar (i := 2)) danil))) danil))))) ds_nil)
 (ds_one (ds_ret (dtup danil))))))))))
/-! is_simple -/
abbrev N_is_simple : List Str := ["expr"]
theorem sc_is_simple : FnScope ["expr"] ["expr"] (defScope s_is_simple) := ⟨rfl, rfl, rfl, by decide +kernel, rfl, by decide +kernel, by decide +kernel⟩
def st_is_simple_1 : Env → M Fl :=
 (retM (fun δ => bd ((varM 0) δ) (isiM [.str])))
def b_is_simple : Env → M Fl :=
 st_is_simple_1
def F_is_simple : List W → M W := pureM (runD 1 1 b_is_simple)
theorem g_is_simple (T : Tx K mg ad fd) : FnG P w K mg base CX0 1 (ad 15) (fd 15) ["expr"] (spF K (fun _ => ZF) F_is_simple) := by
  refine fn_pure (fn_run T.d_is_simple.fn sc_is_simple rfl rfl fun cdv A outer s H E hr hG => ?_)
  exact (show PSs _ (defBody s_is_simple) (tS _ ZF b_is_simple) from
 (ds_one (ds_ret (disi1 (T := .str) rfl T.m_isinstance rfl T.m_str bl_str (dvar (i := 0))))))
/-! all_parts -/
abbrev N_all_parts : List Str := ["expr", "found", "line", "here", "deep", "parts", "part", "name"]
theorem sc_all_parts : FnScope ["expr", "found", "line", "here", "deep", "parts", "part", "name"] ["expr"] (defScope s_all_parts) := ⟨rfl, rfl, rfl, by decide +kernel, rfl, by decide +kernel, by decide +kernel⟩
def st_all_parts_1 : Env → M Fl :=
 (parM 1 2 (consM (fun δ => bd (nilM δ) newM) (consM (fun δ => bd ((consM (fun δ => bd ((consM (varM 0) (consM (cM (.int 1)) nilM)) δ) tupM) nilM) δ) newM) nilM)))
def st_all_parts_2 : Env → M Fl :=
 (asgM (metM (varM 2) nilM chkL popM) (tupG 2 (consG (setG 3) (consG (setG 4) nilG))))
def st_all_parts_3 : Env → M Fl :=
 (exprM (metM (varM 1) (consM (fun δ => bd ((consM (varM 3) (consM (varM 4) nilM)) δ) tupM) nilM) chkL appendM))
def st_all_parts_4 : Env → M Fl :=
 (ifM (andT (notT (valT (calM (consM (varM 3) nilM) fun ws => noEx (F_is_simple ws)))) (valT (binM (varM 4) (cM (.int 20)) leM))) (seqM (asgM (fun δ => bd ((starM (calM (consM (varM 3) nilM) fun ws => noEx (F_strict_parts ws)) (starM (lcM [7, 6] (fun δ => bd ((calM (consM (varM 3) nilM) fun ws => noEx (F_later_parts ws)) δ) iterM) (tupG 2 (consG (setG 7) (consG (setG 6) nilG))) yesT (varM 6)) nilM)) δ) lstM) (setG 5))
 (exprM (metM (varM 2) (consM (lcM [6] (fun δ => bd ((fun δ => bd ((varM 5) δ) revM) δ) iterM) (setG 6) yesT (fun δ => bd ((consM (varM 6) (consM (binM (varM 4) (cM (.int 1)) addM) nilM)) δ) tupM)) nilM) chkL extendM))) skipM)
def body_all_parts_1 : Env → M Fl :=
 (seqM st_all_parts_2
 (seqM st_all_parts_3
 st_all_parts_4))
def test_all_parts_1 : Env → M Bool :=
 (valT (binM (varM 2) (fun δ => bd (nilM δ) lstM) neM))
def st_all_parts_5 : Env → M Fl :=
 (retM (calM (consM (varM 1) nilM) tupleM))
def b_all_parts : Env → M Fl :=
 (seqM st_all_parts_1
 (seqM (whL test_all_parts_1 body_all_parts_1 100000)
 st_all_parts_5))
def F_all_parts : List W → M W := pureM (runD 1 8 b_all_parts)
theorem g_all_parts (T : Tx K mg ad fd) : FnG P w K mg base CX0 2 (ad 16) (fd 16) ["expr"] (spF K (fun _ => ZF) F_all_parts) := by
  refine fn_pure (fn_run T.d_all_parts.fn sc_all_parts rfl rfl fun cdv A outer s H E hr hG => ?_)
  exact (show PSs _ (defBody s_all_parts) (tS _ ZF b_all_parts) from
 (ds_cons (ds_par (i := 1) (j := 2) rfl sc_all_parts.nd rfl rfl (by decide) rfl rfl (dacons (dnew danil) (dacons (dnew (dacons (dtup (dacons (dvar (i := 0)) (dacons dint danil))) danil)) danil)))
 (ds_cons (ds_while 100000 PassesOwn.never (dt_cmp (o_ne (room65 hr)) (dvar (i := 2)) (dlst danil))
 (ds_cons (ds_asg (dmet0 F.plainAttrs_list F.slot_list_pop F.type_list_pop chkL_ok m_pop (dvar (i := 2))) (dr_any (dr_tup rfl (drs_cons TR.any (dr_name (i := 3) sc_all_parts.nd rfl (by first | exact Or.inl rfl | exact Or.inr rfl) (fun _ _ => trivial)) (drs_cons TR.any (dr_name (i := 4) sc_all_parts.nd rfl (by first | exact Or.inl rfl | exact Or.inr rfl) (fun _ _ => trivial)) (drs_nil TR.any))))))
 (ds_cons (ds_expr (dmet F.plainAttrs_list F.slot_list_append F.type_list_append chkL_ok m_append (dvar (i := 1)) (dacons (dtup (dacons (dvar (i := 3)) (dacons (dvar (i := 4)) danil))) danil)))
 (ds_one (ds_if (dt_bool (dw_and (dt_not (dt_val (dcall ((g_is_simple T).mono (by omega)) hr hG rfl T.d_is_simple.mg (keep_ok T.d_is_simple) T.d_is_simple.bd (dacons (dvar (i := 3)) danil)))) (dw_and1 (dt_cmp o_le (dvar (i := 4)) (dgint T.c_DEEPEST rfl))))) (ds_cons (ds_set (i := 5) sc_all_parts.nd rfl (by first | exact Or.inl rfl | exact Or.inr rfl) (dlst (dastar (dcall ((g_strict_parts T).mono (by omega)) hr hG rfl T.d_strict_parts.mg (keep_ok T.d_strict_parts) T.d_strict_parts.bd (dacons (dvar (i := 3)) danil)) (dastar (dlc (own := [("name", 7), ("part", 6)]) rfl sc_all_parts.nd (di_val (dcall ((g_later_parts T).mono (by omega)) hr hG rfl T.d_later_parts.mg (keep_ok T.d_later_parts) T.d_later_parts.bd (dacons (dvar (i := 3)) danil))) (blkOk_by (N := N_all_parts) (sc := defScope s_all_parts) (by decide +kernel)) (fun _ _ _ _ _ => (dr_tup rfl (drs_cons TR.wip (dr_name (i := 7) sc_all_parts.nd rfl (by first | exact Or.inl rfl | exact Or.inr rfl) (fun _ _ => wipe_set (by decide))) (drs_cons TR.wip (dr_name (i := 6) sc_all_parts.nd rfl (by first | exact Or.inl rfl | exact Or.inr rfl) (fun _ _ => wipe_set (by decide))) (drs_nil TR.wip))))) (fun _ _ _ _ _ => dts_nil) (fun _ _ _ _ _ => (dvar (i := 6)))) danil))))
 (ds_one (ds_expr (dmet F.plainAttrs_list F.slot_list_extend F.type_list_extend chkL_ok m_extend (dvar (i := 2)) (dacons (dlc (own := [("part", 6)]) rfl sc_all_parts.nd (di_val (drev (dvar (i := 5)))) (blkOk_by (N := N_all_parts) (sc := defScope s_all_parts) (by decide +kernel)) (fun _ _ _ _ _ => (dr_name (i := 6) sc_all_parts.nd rfl (by first | exact Or.inl rfl | exact Or.inr rfl) (fun _ _ => wipe_set (by decide)))) (fun _ _ _ _ _ => dts_nil) (fun _ _ _ _ _ => (dtup (dacons (dvar (i := 6)) (dacons (dop o_add (dvar (i := 4)) dint) danil))))) danil))))) ds_nil)))))
 (ds_one (ds_ret (dcallTy c_tuple rfl T.m_tuple bl_tuple (dacons (dvar (i := 1)) danil)))))))
/-! is_expr -/
abbrev N_is_expr : List Str := ["value", "line", "many", "here", "deep", "part", "name"]
theorem sc_is_expr : FnScope ["value", "line", "many", "here", "deep", "part", "name"] ["value"] (defScope s_is_expr) := ⟨rfl, rfl, rfl, by decide +kernel, rfl, by decide +kernel, by decide +kernel⟩
def st_is_expr_1 : Env → M Fl :=
 (parM 1 2 (consM (fun δ => bd ((consM (fun δ => bd ((consM (varM 0) (consM (cM (.int 1)) nilM)) δ) tupM) nilM) δ) newM) (consM (cM (.int 0)) nilM)))
def st_is_expr_2 : Env → M Fl :=
 (asgM (metM (varM 1) nilM chkL popM) (tupG 2 (consG (setG 3) (consG (setG 4) nilG))))
def st_is_expr_3 : Env → M Fl :=
 (augM 2 (cM (.int 1)) iaddM)
def st_is_expr_4 : Env → M Fl :=
 (ifM (orT (valT (binM (varM 4) (cM (.int 20)) gtM)) (valT (binM (varM 2) (cM (.int 20000)) gtM))) (retM (cM (.bool false))) skipM)
def st_is_expr_5 : Env → M Fl :=
 (ifM (valT (fun δ => bd ((varM 3) δ) (isiM [.str]))) (ifM (andT (valT (binM (varM 3) (cM (.str "atom")) neM)) (notT (valT (calM (consM (varM 3) nilM) fun ws => noEx (F_is_name ws))))) (retM (cM (.bool false))) skipM) (ifM (orT (notT (valT (calM (consM (varM 3) nilM) fun ws => noEx (F_is_listed ws)))) (orT (valT (binM (calM (consM (varM 3) nilM) lenDM) (cM (.int 2)) ltM)) (orT (notT (valT (fun δ => bd ((binM (varM 3) (cM (.int 0)) itemM) δ) (isiM [.str])))) (notT (valT (calM (consM (varM 3) nilM) fun ws => noEx (F_has_form ws))))))) (retM (cM (.bool false))) (seqM (exprM (metM (varM 1) (consM (lcM [5] (fun δ => bd ((calM (consM (varM 3) nilM) fun ws => noEx (F_strict_parts ws)) δ) iterM) (setG 5) yesT (fun δ => bd ((consM (varM 5) (consM (binM (varM 4) (cM (.int 1)) addM) nilM)) δ) tupM)) nilM) chkL extendM))
 (exprM (metM (varM 1) (consM (lcM [6, 5] (fun δ => bd ((calM (consM (varM 3) nilM) fun ws => noEx (F_later_parts ws)) δ) iterM) (tupG 2 (consG (setG 6) (consG (setG 5) nilG))) yesT (fun δ => bd ((consM (varM 5) (consM (binM (varM 4) (cM (.int 1)) addM) nilM)) δ) tupM)) nilM) chkL extendM)))))
def body_is_expr_1 : Env → M Fl :=
 (seqM st_is_expr_2
 (seqM st_is_expr_3
 (seqM st_is_expr_4
 st_is_expr_5)))
def test_is_expr_1 : Env → M Bool :=
 (valT (binM (varM 1) (fun δ => bd (nilM δ) lstM) neM))
def st_is_expr_6 : Env → M Fl :=
 (retM (cM (.bool true)))
def b_is_expr : Env → M Fl :=
 (seqM st_is_expr_1
 (seqM (whL test_is_expr_1 body_is_expr_1 100000)
 st_is_expr_6))
def F_is_expr : List W → M W := pureM (runD 1 7 b_is_expr)
theorem g_is_expr (T : Tx K mg ad fd) : FnG P w K mg base CX0 19 (ad 17) (fd 17) ["value"] (spF K (fun _ => ZF) F_is_expr) := by
  refine fn_pure (fn_run T.d_is_expr.fn sc_is_expr rfl rfl fun cdv A outer s H E hr hG => ?_)
  exact (show PSs _ (defBody s_is_expr) (tS _ ZF b_is_expr) from
 (ds_cons (ds_par (i := 1) (j := 2) rfl sc_is_expr.nd rfl rfl (by decide) rfl rfl (dacons (dnew (dacons (dtup (dacons (dvar (i := 0)) (dacons dint danil))) danil)) (dacons dint danil)))
 (ds_cons (ds_while 100000 PassesOwn.never (dt_cmp (o_ne (room65 hr)) (dvar (i := 1)) (dlst danil))
 (ds_cons (ds_asg (dmet0 F.plainAttrs_list F.slot_list_pop F.type_list_pop chkL_ok m_pop (dvar (i := 1))) (dr_any (dr_tup rfl (drs_cons TR.any (dr_name (i := 3) sc_is_expr.nd rfl (by first | exact Or.inl rfl | exact Or.inr rfl) (fun _ _ => trivial)) (drs_cons TR.any (dr_name (i := 4) sc_is_expr.nd rfl (by first | exact Or.inl rfl | exact Or.inr rfl) (fun _ _ => trivial)) (drs_nil TR.any))))))
 (ds_cons (ds_aug (i := 2) sc_is_expr.nd rfl (by first | exact Or.inl rfl | exact Or.inr rfl) dint o_iadd)
 (ds_cons (ds_if (dt_bool (dw_or (dt_cmp o_gt (dvar (i := 4)) (dgint T.c_DEEPEST rfl)) (dw_or1 (dt_cmp o_gt (dvar (i := 2)) (dgint T.c_MOST_PARTS rfl))))) (ds_one (ds_ret dbl)) ds_nil)
 (ds_one (ds_if (dt_val (disi1 (T := .str) rfl T.m_isinstance rfl T.m_str bl_str (dvar (i := 3)))) (ds_one (ds_if (dt_bool (dw_and (dt_cmp (o_ne (room65 hr)) (dvar (i := 3)) dstr) (dw_and1 (dt_not (dt_val (dcall ((g_is_name T).mono (by omega)) hr hG rfl T.d_is_name.mg (keep_ok T.d_is_name) T.d_is_name.bd (dacons (dvar (i := 3)) danil))))))) (ds_one (ds_ret dbl)) ds_nil)) (ds_one (ds_if (dt_bool (dw_or (dt_not (dt_val (dcall ((g_is_listed T).mono (by omega)) hr hG rfl T.d_is_listed.mg (keep_ok T.d_is_listed) T.d_is_listed.bd (dacons (dvar (i := 3)) danil)))) (dw_or (dt_cmp o_lt (dcallB c_lenD rfl T.m_len bl_len (dacons (dvar (i := 3)) danil)) dint) (dw_or (dt_not (dt_val (disi1 (T := .str) rfl T.m_isinstance rfl T.m_str bl_str (dix x_item (dvar (i := 3)) dint)))) (dw_or1 (dt_not (dt_val (dcall ((g_has_form T).mono (by omega)) hr hG rfl T.d_has_form.mg (keep_ok T.d_has_form) T.d_has_form.bd (dacons (dvar (i := 3)) danil))))))))) (ds_one (ds_ret dbl)) (ds_cons (ds_expr (dmet F.plainAttrs_list F.slot_list_extend F.type_list_extend chkL_ok m_extend (dvar (i := 1)) (dacons (dlc (own := [("part", 5)]) rfl sc_is_expr.nd (di_val (dcall ((g_strict_parts T).mono (by omega)) hr hG rfl T.d_strict_parts.mg (keep_ok T.d_strict_parts) T.d_strict_parts.bd (dacons (dvar (i := 3)) danil))) (blkOk_by (N := N_is_expr) (sc := defScope s_is_expr) (by decide +kernel)) (fun _ _ _ _ _ => (dr_name (i := 5) sc_is_expr.nd rfl (by first | exact Or.inl rfl | exact Or.inr rfl) (fun _ _ => wipe_set (by decide)))) (fun _ _ _ _ _ => dts_nil) (fun _ _ _ _ _ => (dtup (dacons (dvar (i := 5)) (dacons (dop o_add (dvar (i := 4)) dint) danil))))) danil)))
 (ds_one (ds_expr (dmet F.plainAttrs_list F.slot_list_extend F.type_list_extend chkL_ok m_extend (dvar (i := 1)) (dacons (dlc (own := [("name", 6), ("part", 5)]) rfl sc_is_expr.nd (di_val (dcall ((g_later_parts T).mono (by omega)) hr hG rfl T.d_later_parts.mg (keep_ok T.d_later_parts) T.d_later_parts.bd (dacons (dvar (i := 3)) danil))) (blkOk_by (N := N_is_expr) (sc := defScope s_is_expr) (by decide +kernel)) (fun _ _ _ _ _ => (dr_tup rfl (drs_cons TR.wip (dr_name (i := 6) sc_is_expr.nd rfl (by first | exact Or.inl rfl | exact Or.inr rfl) (fun _ _ => wipe_set (by decide))) (drs_cons TR.wip (dr_name (i := 5) sc_is_expr.nd rfl (by first | exact Or.inl rfl | exact Or.inr rfl) (fun _ _ => wipe_set (by decide))) (drs_nil TR.wip))))) (fun _ _ _ _ _ => dts_nil) (fun _ _ _ _ _ => (dtup (dacons (dvar (i := 5)) (dacons (dop o_add (dvar (i := 4)) dint) danil))))) danil)))))))))))))
 (ds_one (ds_ret dbl)))))
/-! unknown_in -/
abbrev N_unknown_in : List Str := ["expr", "known", "found", "line", "here", "names", "part", "name"]
theorem sc_unknown_in : FnScope ["expr", "known", "found", "line", "here", "names", "part", "name"] ["expr", "known"] (defScope s_unknown_in) := ⟨rfl, rfl, rfl, by decide +kernel, rfl, by decide +kernel, by decide +kernel⟩
def st_unknown_in_1 : Env → M Fl :=
 (parM 2 3 (consM newDM (consM (fun δ => bd ((consM (fun δ => bd ((consM (varM 0) (consM (calM (consM (varM 1) nilM) tupleM) nilM)) δ) tupM) nilM) δ) newM) nilM)))
def st_unknown_in_2 : Env → M Fl :=
 (asgM (metM (varM 3) nilM chkL popM) (tupG 2 (consG (setG 4) (consG (setG 5) nilG))))
def st_unknown_in_3 : Env → M Fl :=
 (ifM (valT (calM (consM (varM 4) nilM) fun ws => noEx (F_is_simple ws))) (ifM (andT (valT (binM (varM 4) (cM (.str "atom")) neM)) (valT (binM (varM 4) (varM 5) notInM))) (subSM (cM (.bool true)) (varM 2) (varM 4)) skipM) (seqM (exprM (metM (varM 3) (consM (lcM [6] (fun δ => bd ((calM (consM (varM 4) nilM) fun ws => noEx (F_strict_parts ws)) δ) iterM) (setG 6) yesT (fun δ => bd ((consM (varM 6) (consM (varM 5) nilM)) δ) tupM)) nilM) chkL extendM))
 (exprM (metM (varM 3) (consM (lcM [7, 6] (fun δ => bd ((calM (consM (varM 4) nilM) fun ws => noEx (F_later_parts ws)) δ) iterM) (tupG 2 (consG (setG 7) (consG (setG 6) nilG))) yesT (fun δ => bd ((consM (varM 6) (consM (ifV (valT (binM (varM 7) (cM .none) isM)) (varM 5) (fun δ => bd ((starM (varM 5) (consM (varM 7) nilM)) δ) tupM)) nilM)) δ) tupM)) nilM) chkL extendM))))
def body_unknown_in_1 : Env → M Fl :=
 (seqM st_unknown_in_2
 st_unknown_in_3)
def test_unknown_in_1 : Env → M Bool :=
 (valT (binM (varM 3) (fun δ => bd (nilM δ) lstM) neM))
def st_unknown_in_4 : Env → M Fl :=
 (retM (calM (consM (calM (consM (calM (consM (varM 2) nilM) listDM) nilM) sortM) nilM) tupleM))
def b_unknown_in : Env → M Fl :=
 (seqM st_unknown_in_1
 (seqM (whL test_unknown_in_1 body_unknown_in_1 100000)
 st_unknown_in_4))
def F_unknown_in : List W → M W := pureM (runD 2 8 b_unknown_in)
theorem g_unknown_in (T : Tx K mg ad fd) : FnG P w K mg base CX0 2 (ad 18) (fd 18) ["expr", "known"] (spF K (fun _ => ZF) F_unknown_in) := by
  refine fn_pure (fn_run T.d_unknown_in.fn sc_unknown_in rfl rfl fun cdv A outer s H E hr hG => ?_)
  exact (show PSs _ (defBody s_unknown_in) (tS _ ZF b_unknown_in) from
 (ds_cons (ds_par (i := 2) (j := 3) rfl sc_unknown_in.nd rfl rfl (by decide) rfl rfl (dacons dnewd (dacons (dnew (dacons (dtup (dacons (dvar (i := 0)) (dacons (dcallTy c_tuple rfl T.m_tuple bl_tuple (dacons (dvar (i := 1)) danil)) danil))) danil)) danil)))
 (ds_cons (ds_while 100000 PassesOwn.never (dt_cmp (o_ne (room65 hr)) (dvar (i := 3)) (dlst danil))
 (ds_cons (ds_asg (dmet0 F.plainAttrs_list F.slot_list_pop F.type_list_pop chkL_ok m_pop (dvar (i := 3))) (dr_any (dr_tup rfl (drs_cons TR.any (dr_name (i := 4) sc_unknown_in.nd rfl (by first | exact Or.inl rfl | exact Or.inr rfl) (fun _ _ => trivial)) (drs_cons TR.any (dr_name (i := 5) sc_unknown_in.nd rfl (by first | exact Or.inl rfl | exact Or.inr rfl) (fun _ _ => trivial)) (drs_nil TR.any))))))
 (ds_one (ds_if (dt_val (dcall ((g_is_simple T).mono (by omega)) hr hG rfl T.d_is_simple.mg (keep_ok T.d_is_simple) T.d_is_simple.bd (dacons (dvar (i := 4)) danil))) (ds_one (ds_if (dt_bool (dw_and (dt_cmp (o_ne (room65 hr)) (dvar (i := 4)) dstr) (dw_and1 (dt_cmp (o_notIn (room66 hr)) (dvar (i := 4)) (dvar (i := 5)))))) (ds_one (ds_sub (room1 hr) dbl (dvar (i := 2)) (dvar (i := 4)))) ds_nil)) (ds_cons (ds_expr (dmet F.plainAttrs_list F.slot_list_extend F.type_list_extend chkL_ok m_extend (dvar (i := 3)) (dacons (dlc (own := [("part", 6)]) rfl sc_unknown_in.nd (di_val (dcall ((g_strict_parts T).mono (by omega)) hr hG rfl T.d_strict_parts.mg (keep_ok T.d_strict_parts) T.d_strict_parts.bd (dacons (dvar (i := 4)) danil))) (blkOk_by (N := N_unknown_in) (sc := defScope s_unknown_in) (by decide +kernel)) (fun _ _ _ _ _ => (dr_name (i := 6) sc_unknown_in.nd rfl (by first | exact Or.inl rfl | exact Or.inr rfl) (fun _ _ => wipe_set (by decide)))) (fun _ _ _ _ _ => dts_nil) (fun _ _ _ _ _ => (dtup (dacons (dvar (i := 6)) (dacons (dvar (i := 5)) danil))))) danil)))
 (ds_one (ds_expr (dmet F.plainAttrs_list F.slot_list_extend F.type_list_extend chkL_ok m_extend (dvar (i := 3)) (dacons (dlc (own := [("name", 7), ("part", 6)]) rfl sc_unknown_in.nd (di_val (dcall ((g_later_parts T).mono (by omega)) hr hG rfl T.d_later_parts.mg (keep_ok T.d_later_parts) T.d_later_parts.bd (dacons (dvar (i := 4)) danil))) (blkOk_by (N := N_unknown_in) (sc := defScope s_unknown_in) (by decide +kernel)) (fun _ _ _ _ _ => (dr_tup rfl (drs_cons TR.wip (dr_name (i := 7) sc_unknown_in.nd rfl (by first | exact Or.inl rfl | exact Or.inr rfl) (fun _ _ => wipe_set (by decide))) (drs_cons TR.wip (dr_name (i := 6) sc_unknown_in.nd rfl (by first | exact Or.inl rfl | exact Or.inr rfl) (fun _ _ => wipe_set (by decide))) (drs_nil TR.wip))))) (fun _ _ _ _ _ => dts_nil) (fun _ _ _ _ _ => (dtup (dacons (dvar (i := 6)) (dacons (dif (dt_cmp o_is (dvar (i := 7)) dnon) (dvar (i := 5)) (dtup (dastar (dvar (i := 5)) (dacons (dvar (i := 7)) danil)))) danil))))) danil)))))))))
 (ds_one (ds_ret (dcallTy c_tuple rfl T.m_tuple bl_tuple (dacons (dcallB c_sort rfl T.m_sorted bl_sorted (dacons (dcallTy (c_listD rfl) rfl T.m_list bl_list (dacons (dvar (i := 2)) danil)) danil)) danil)))))))
/-! _law_pen -/
abbrev N__law_pen : List Str := ["script", "cell"]
theorem sc__law_pen : FnScope ["script", "cell"] ["script"] (defScope s__law_pen) := ⟨rfl, rfl, rfl, by decide +kernel, rfl, by decide +kernel, by decide +kernel⟩
def st__law_pen_1 : Env → M Fl :=
 (retM (fun δ => bd ((consM (lcM [1] (fun δ => bd ((fun δ => bd ((varM 0) δ) fun x => bd ((fun _ => pr none) δ) fun l => bd ((fun δ => bd ((cM (.int 63)) δ) fun w => bd (intOf w) fun i => pr (some i)) δ) fun u => sliceM x l u) δ) iterM) (setG 1) yesT (calM (consM (varM 1) nilM) intM)) (consM (cM (.int 0)) (consM (cM (.int 0)) nilM))) δ) newM))
def b__law_pen : Env → M Fl :=
 st__law_pen_1
def F__law_pen : List W → M W := (runD 1 2 b__law_pen)
theorem g__law_pen (T : Tx K mg ad fd) : FnG P w K mg base CX0 1 (ad 19) (fd 19) ["script"] (spF K (fun _ => ZF) F__law_pen) := by
  refine fn_run T.d__law_pen.fn sc__law_pen rfl rfl fun cdv A outer s H E hr hG => ?_
  exact (show PSs _ (defBody s__law_pen) (tS _ ZF b__law_pen) from
 (ds_one (ds_ret (dnew (dacons (dlc (own := [("cell", 1)]) rfl sc__law_pen.nd (di_val (dslice x_slice (dvar (i := 0)) dpo_none (dpo_some dint))) (blkOk_by (N := N__law_pen) (sc := defScope s__law_pen) (by decide +kernel)) (fun _ _ _ _ _ => (dr_name (i := 1) sc__law_pen.nd rfl (by first | exact Or.inl rfl | exact Or.inr rfl) (fun _ _ => wipe_set (by decide)))) (fun _ _ _ _ _ => dts_nil) (fun _ _ _ _ _ => (dcallTy c_int rfl T.m_int bl_int (dacons (dvar (i := 1)) danil)))) (dacons dint (dacons dint danil)))))))
/-! _law_draw -/
abbrev N__law_draw : List Str := ["pen", "many", "rest", "at", "cell", "mixed"]
theorem sc__law_draw : FnScope ["pen", "many", "rest", "at", "cell", "mixed"] ["pen", "many"] (defScope s__law_draw) := ⟨rfl, rfl, rfl, by decide +kernel, rfl, by decide +kernel, by decide +kernel⟩
def st__law_draw_1 : Env → M Fl :=
 (ifM (valT (binM (binM (varM 0) (cM (.int 2)) itemM) (cM (.int 0)) gtM)) (seqM (asgM (calM (consM (binM (varM 0) (cM (.int 2)) itemM) nilM) intM) (setG 2))
 (seqM (subSM (binM (varM 2) (varM 1) fdvM) (varM 0) (cM (.int 2)))
 (retM (binM (varM 2) (varM 1) modM)))) skipM)
def st__law_draw_2 : Env → M Fl :=
 (asgM (calM (consM (binM (varM 0) (cM (.int 1)) itemM) nilM) intM) (setG 3))
def st__law_draw_3 : Env → M Fl :=
 (subSM (binM (varM 3) (cM (.int 1)) addM) (varM 0) (cM (.int 1)))
def st__law_draw_4 : Env → M Fl :=
 (asgM (binM (binM (cM (.int 72101)) (varM 3) mulM) (cM (.int 31607)) addM) (setG 4))
def st__law_draw_5 : Env → M Fl :=
 (ifM (valT (binM (binM (varM 0) (cM (.int 0)) itemM) (fun δ => bd (nilM δ) lstM) neM)) (asgM (binM (binM (varM 0) (cM (.int 0)) itemM) (binM (varM 3) (calM (consM (binM (varM 0) (cM (.int 0)) itemM) nilM) lenDM) modM) itemM) (setG 4)) skipM)
def st__law_draw_6 : Env → M Fl :=
 (ifM (andT (valT (binM (varM 3) (calM (consM (binM (varM 0) (cM (.int 0)) itemM) nilM) lenDM) ltM)) (valT (binM (calM (consM (varM 4) nilM) absM) (binM (cM (.int 10)) (cM (.int 18)) powM) geM))) (seqM (asgM (binM (binM (cM (.int 2)) (binM (calM (consM (varM 4) nilM) absM) (binM (cM (.int 10)) (cM (.int 18)) powM) subM) mulM) (calM (consM (binM (varM 4) (cM (.int 0)) ltM) nilM) intM) addM) (setG 2))
 (seqM (subSM (binM (varM 2) (varM 1) fdvM) (varM 0) (cM (.int 2)))
 (retM (binM (calM (consM (varM 2) nilM) intM) (varM 1) modM)))) skipM)
def st__law_draw_7 : Env → M Fl :=
 (asgM (binM (calM (consM (binM (binM (binM (binM (calM (consM (varM 4) nilM) intM) (cM (.int 2147483563)) modM) (binM (cM (.int 65071)) (varM 3) mulM) addM) (cM (.int 4513)) addM) (cM (.int 3)) powM) nilM) intM) (cM (.int 2147483629)) modM) (setG 5))
def st__law_draw_8 : Env → M Fl :=
 (asgM (binM (calM (consM (binM (binM (binM (binM (varM 5) (binM (binM (cM (.int 2)) (varM 3) mulM) (cM (.int 163)) addM) mulM) (binM (binM (cM (.int 47741)) (varM 3) mulM) (varM 3) mulM) addM) (cM (.int 97)) addM) (cM (.int 3)) powM) nilM) intM) (cM (.int 2147483549)) modM) (setG 5))
def st__law_draw_9 : Env → M Fl :=
 (retM (binM (calM (consM (binM (varM 5) (cM (.int 64)) fdvM) nilM) intM) (varM 1) modM))
def b__law_draw : Env → M Fl :=
 (seqM st__law_draw_1
 (seqM st__law_draw_2
 (seqM st__law_draw_3
 (seqM st__law_draw_4
 (seqM st__law_draw_5
 (seqM st__law_draw_6
 (seqM st__law_draw_7
 (seqM st__law_draw_8
 st__law_draw_9))))))))
def F__law_draw : List W → M W := (runD 2 6 b__law_draw)
theorem g__law_draw (T : Tx K mg ad fd) : FnG P w K mg base CX0 1 (ad 20) (fd 20) ["pen", "many"] (spF K (fun _ => ZF) F__law_draw) := by
  refine fn_run T.d__law_draw.fn sc__law_draw rfl rfl fun cdv A outer s H E hr hG => ?_
  exact (show PSs _ (defBody s__law_draw) (tS _ ZF b__law_draw) from
 (ds_cons (ds_if (dt_cmp o_gt (dix x_item (dvar (i := 0)) dint) dint) (ds_cons (ds_set (i := 2) sc__law_draw.nd rfl (by first | exact Or.inl rfl | exact Or.inr rfl) (dcallTy c_int rfl T.m_int bl_int (dacons (dix x_item (dvar (i := 0)) dint) danil)))
 (ds_cons (ds_sub (room1 hr) (dop o_fdv (dvar (i := 2)) (dvar (i := 1))) (dvar (i := 0)) dint)
 (ds_one (ds_ret (dop o_mod (dvar (i := 2)) (dvar (i := 1))))))) ds_nil)
 (ds_cons (ds_set (i := 3) sc__law_draw.nd rfl (by first | exact Or.inl rfl | exact Or.inr rfl) (dcallTy c_int rfl T.m_int bl_int (dacons (dix x_item (dvar (i := 0)) dint) danil)))
 (ds_cons (ds_sub (room1 hr) (dop o_add (dvar (i := 3)) dint) (dvar (i := 0)) dint)
 (ds_cons (ds_set (i := 4) sc__law_draw.nd rfl (by first | exact Or.inl rfl | exact Or.inr rfl) (dop o_add (dop o_mul dint (dvar (i := 3))) dint))
 (ds_cons (ds_if (dt_cmp (o_ne (room65 hr)) (dix x_item (dvar (i := 0)) dint) (dlst danil)) (ds_one (ds_set (i := 4) sc__law_draw.nd rfl (by first | exact Or.inl rfl | exact Or.inr rfl) (dix x_item (dix x_item (dvar (i := 0)) dint) (dop o_mod (dvar (i := 3)) (dcallB c_lenD rfl T.m_len bl_len (dacons (dix x_item (dvar (i := 0)) dint) danil)))))) ds_nil)
 (ds_cons (ds_if (dt_bool (dw_and (dt_cmp o_lt (dvar (i := 3)) (dcallB c_lenD rfl T.m_len bl_len (dacons (dix x_item (dvar (i := 0)) dint) danil))) (dw_and1 (dt_cmp o_ge (dcallB c_abs rfl T.m_abs bl_abs (dacons (dvar (i := 4)) danil)) (dop o_pow dint dint))))) (ds_cons (ds_set (i := 2) sc__law_draw.nd rfl (by first | exact Or.inl rfl | exact Or.inr rfl) (dop o_add (dop o_mul dint (dop o_sub (dcallB c_abs rfl T.m_abs bl_abs (dacons (dvar (i := 4)) danil)) (dop o_pow dint dint))) (dcallTy c_int rfl T.m_int bl_int (dacons (dcmp o_lt (dvar (i := 4)) dint) danil))))
 (ds_cons (ds_sub (room1 hr) (dop o_fdv (dvar (i := 2)) (dvar (i := 1))) (dvar (i := 0)) dint)
 (ds_one (ds_ret (dop o_mod (dcallTy c_int rfl T.m_int bl_int (dacons (dvar (i := 2)) danil)) (dvar (i := 1))))))) ds_nil)
 (ds_cons (ds_set (i := 5) sc__law_draw.nd rfl (by first | exact Or.inl rfl | exact Or.inr rfl) (dop o_mod (dcallTy c_int rfl T.m_int bl_int (dacons (dop o_pow (dop o_add (dop o_add (dop o_mod (dcallTy c_int rfl T.m_int bl_int (dacons (dvar (i := 4)) danil)) dint) (dop o_mul dint (dvar (i := 3)))) dint) dint) danil)) dint))
 (ds_cons (ds_set (i := 5) sc__law_draw.nd rfl (by first | exact Or.inl rfl | exact Or.inr rfl) (dop o_mod (dcallTy c_int rfl T.m_int bl_int (dacons (dop o_pow (dop o_add (dop o_add (dop o_mul (dvar (i := 5)) (dop o_add (dop o_mul dint (dvar (i := 3))) dint)) (dop o_mul (dop o_mul dint (dvar (i := 3))) (dvar (i := 3)))) dint) dint) danil)) dint))
 (ds_one (ds_ret (dop o_mod (dcallTy c_int rfl T.m_int bl_int (dacons (dop o_fdv (dvar (i := 5)) dint) danil)) (dvar (i := 1))))))))))))))
/-! _law_pick -/
abbrev N__law_pick : List Str := ["pen", "some"]
theorem sc__law_pick : FnScope ["pen", "some"] ["pen", "some"] (defScope s__law_pick) := ⟨rfl, rfl, rfl, by decide +kernel, rfl, by decide +kernel, by decide +kernel⟩
def st__law_pick_1 : Env → M Fl :=
 (retM (binM (varM 1) (calM (consM (varM 0) (consM (calM (consM (varM 1) nilM) lenDM) nilM)) fun ws => noEx (F__law_draw ws)) itemM))
def b__law_pick : Env → M Fl :=
 st__law_pick_1
def F__law_pick : List W → M W := (runD 2 2 b__law_pick)
theorem g__law_pick (T : Tx K mg ad fd) : FnG P w K mg base CX0 2 (ad 21) (fd 21) ["pen", "some"] (spF K (fun _ => ZF) F__law_pick) := by
  refine fn_run T.d__law_pick.fn sc__law_pick rfl rfl fun cdv A outer s H E hr hG => ?_
  exact (show PSs _ (defBody s__law_pick) (tS _ ZF b__law_pick) from
 (ds_one (ds_ret (dix x_item (dvar (i := 1)) (dcall ((g__law_draw T).mono (by omega)) hr hG rfl T.d__law_draw.mg (keep_ok T.d__law_draw) T.d__law_draw.bd (dacons (dvar (i := 0)) (dacons (dcallB c_lenD rfl T.m_len bl_len (dacons (dvar (i := 1)) danil)) danil)))))))
/-! _law_once -/
abbrev N__law_once : List Str := ["some", "one"]
theorem sc__law_once : FnScope ["some", "one"] ["some"] (defScope s__law_once) := ⟨rfl, rfl, rfl, by decide +kernel, rfl, by decide +kernel, by decide +kernel⟩
def st__law_once_1 : Env → M Fl :=
 (retM (calM (consM (calM (consM (lcM [1] (fun δ => bd ((varM 0) δ) iterM) (setG 1) yesT (fun δ => bd ((consM (varM 1) (consM (cM (.bool true)) nilM)) δ) tupM)) nilM) dictM) nilM) listDM))
def b__law_once : Env → M Fl :=
 st__law_once_1
def F__law_once : List W → M W := pureM (runD 1 2 b__law_once)
theorem g__law_once (T : Tx K mg ad fd) : FnG P w K mg base CX0 1 (ad 22) (fd 22) ["some"] (spF K (fun _ => ZF) F__law_once) := by
  refine fn_pure (fn_run T.d__law_once.fn sc__law_once rfl rfl fun cdv A outer s H E hr hG => ?_)
  exact (show PSs _ (defBody s__law_once) (tS _ ZF b__law_once) from
 (ds_one (ds_ret (dcallTy (c_listD rfl) rfl T.m_list bl_list (dacons (dcallTy (c_dict rfl) rfl T.m_dict bl_dict (dacons (dlc (own := [("one", 1)]) rfl sc__law_once.nd (di_val (dvar (i := 0))) (blkOk_by (N := N__law_once) (sc := defScope s__law_once) (by decide +kernel)) (fun _ _ _ _ _ => (dr_name (i := 1) sc__law_once.nd rfl (by first | exact Or.inl rfl | exact Or.inr rfl) (fun _ _ => wipe_set (by decide)))) (fun _ _ _ _ _ => dts_nil) (fun _ _ _ _ _ => (dtup (dacons (dvar (i := 1)) (dacons dbl danil))))) danil)) danil)))))
/-! _law_strict -/
abbrev N__law_strict : List Str := ["expr", "word", "name", "part"]
theorem sc__law_strict : FnScope ["expr", "word", "name", "part"] ["expr"] (defScope s__law_strict) := ⟨rfl, rfl, rfl, by decide +kernel, rfl, by decide +kernel, by decide +kernel⟩
def st__law_strict_1 : Env → M Fl :=
 (asgM (binM (varM 0) (cM (.int 0)) itemM) (setG 1))
def st__law_strict_2 : Env → M Fl :=
 (ifM (valT (binM (varM 1) (cM (.str "record")) eqM)) (retM (lcM [2, 3] (fun δ => bd ((binM (varM 0) (cM (.int 1)) itemM) δ) iterM) (tupG 2 (consG (setG 2) (consG (setG 3) nilG))) yesT (varM 3))) skipM)
def st__law_strict_3 : Env → M Fl :=
 (ifM (valT (binM (varM 1) (fun δ => bd ((consM (cM (.str "call")) (consM (cM (.str "ask")) nilM)) δ) tupM) inM)) (retM (calM (consM (binM (varM 0) (fun δ => bd ((cM (.int 1)) δ) negM) itemM) nilM) listDM)) skipM)
def st__law_strict_4 : Env → M Fl :=
 (ifM (valT (binM (varM 1) (fun δ => bd ((consM (cM (.str "tag")) (consM (cM (.str "put")) (consM (cM (.str "raise")) (consM (cM (.str "let")) nilM)))) δ) tupM) inM)) (retM (fun δ => bd ((consM (binM (varM 0) (cM (.int 2)) itemM) nilM) δ) lstM)) skipM)
def st__law_strict_5 : Env → M Fl :=
 (ifM (valT (binM (varM 1) (cM (.str "with")) eqM)) (retM (fun δ => bd ((consM (binM (varM 0) (cM (.int 1)) itemM) (consM (binM (varM 0) (cM (.int 3)) itemM) nilM)) δ) lstM)) skipM)
def st__law_strict_6 : Env → M Fl :=
 (retM (ifV (valT (binM (varM 1) (cM (.str "get")) eqM)) (fun δ => bd (nilM δ) lstM) (fun δ => bd ((consM (binM (varM 0) (cM (.int 1)) itemM) nilM) δ) lstM)))
def b__law_strict : Env → M Fl :=
 (seqM st__law_strict_1
 (seqM st__law_strict_2
 (seqM st__law_strict_3
 (seqM st__law_strict_4
 (seqM st__law_strict_5
 st__law_strict_6)))))
def F__law_strict : List W → M W := pureM (runD 1 4 b__law_strict)
theorem g__law_strict (T : Tx K mg ad fd) : FnG P w K mg base CX0 1 (ad 23) (fd 23) ["expr"] (spF K (fun _ => ZF) F__law_strict) := by
  refine fn_pure (fn_run T.d__law_strict.fn sc__law_strict rfl rfl fun cdv A outer s H E hr hG => ?_)
  exact (show PSs _ (defBody s__law_strict) (tS _ ZF b__law_strict) from
 (ds_cons (ds_set (i := 1) sc__law_strict.nd rfl (by first | exact Or.inl rfl | exact Or.inr rfl) (dix x_item (dvar (i := 0)) dint))
 (ds_cons (ds_if (dt_cmp (o_eq (room65 hr)) (dvar (i := 1)) dstr) (ds_one (ds_ret (dlc (own := [("name", 2), ("part", 3)]) rfl sc__law_strict.nd (di_val (dix x_item (dvar (i := 0)) dint)) (blkOk_by (N := N__law_strict) (sc := defScope s__law_strict) (by decide +kernel)) (fun _ _ _ _ _ => (dr_tup rfl (drs_cons TR.wip (dr_name (i := 2) sc__law_strict.nd rfl (by first | exact Or.inl rfl | exact Or.inr rfl) (fun _ _ => wipe_set (by decide))) (drs_cons TR.wip (dr_name (i := 3) sc__law_strict.nd rfl (by first | exact Or.inl rfl | exact Or.inr rfl) (fun _ _ => wipe_set (by decide))) (drs_nil TR.wip))))) (fun _ _ _ _ _ => dts_nil) (fun _ _ _ _ _ => (dvar (i := 3)))))) ds_nil)
 (ds_cons (ds_if (dt_cmp (o_in (room66 hr)) (dvar (i := 1)) (dtup (dacons dstr (dacons dstr danil)))) (ds_one (ds_ret (dcallTy (c_listD rfl) rfl T.m_list bl_list (dacons (dix x_item (dvar (i := 0)) (dun o_neg dint)) danil)))) ds_nil)
 (ds_cons (ds_if (dt_cmp (o_in (room66 hr)) (dvar (i := 1)) (dtup (dacons dstr (dacons dstr (dacons dstr (dacons dstr danil)))))) (ds_one (ds_ret (dlst (dacons (dix x_item (dvar (i := 0)) dint) danil)))) ds_nil)
 (ds_cons (ds_if (dt_cmp (o_eq (room65 hr)) (dvar (i := 1)) dstr) (ds_one (ds_ret (dlst (dacons (dix x_item (dvar (i := 0)) dint) (dacons (dix x_item (dvar (i := 0)) dint) danil))))) ds_nil)
 (ds_one (ds_ret (dif (dt_cmp (o_eq (room65 hr)) (dvar (i := 1)) dstr) (dlst danil) (dlst (dacons (dix x_item (dvar (i := 0)) dint) danil)))))))))))
/-! _law_form -/
abbrev N__law_form : List Str := ["pen", "deep", "way", "e", "turn"]
theorem sc__law_form : FnScope ["pen", "deep", "way", "e", "turn"] ["pen", "deep"] (defScope s__law_form) := ⟨rfl, rfl, rfl, by decide +kernel, rfl, by decide +kernel, by decide +kernel⟩
def st__law_form_1 (R : List W → M W) : Env → M Fl :=
 (ifM (valT (binM (varM 1) (cM (.int 0)) eqM)) (retM (calM (consM (varM 0) (consM (fun δ => bd ((consM (cM (.str "atom")) (consM (cM (.str "x")) (consM (cM (.str "y")) (consM (cM (.str "zz")) (consM (fun δ => bd ((consM (cM (.str "get")) (consM (cM (.str "s")) nilM)) δ) tupM) nilM))))) δ) lstM) nilM)) fun ws => noEx (F__law_pick ws))) skipM)
def st__law_form_2 (R : List W → M W) : Env → M Fl :=
 (parM 2 3 (consM (calM (consM (varM 0) (consM (cM (.int 14)) nilM)) fun ws => noEx (F__law_draw ws)) (consM (binM (fun δ => bd ((consM (calM (consM (varM 0) (consM (binM (varM 1) (cM (.int 1)) subM) nilM)) fun ws => noEx (R ws)) nilM) δ) lstM) (lcM [4] (fun δ => bd ((consM (cM (.int 3)) nilM) δ) rng1M) (setG 4) yesT (calM (consM (varM 0) (consM (fun δ => bd ((consM (cM (.str "atom")) (consM (cM (.str "x")) (consM (cM (.str "y")) (consM (fun δ => bd ((consM (cM (.str "record")) (consM (fun δ => bd (nilM δ) tupM) nilM)) δ) tupM) nilM)))) δ) lstM) nilM)) fun ws => noEx (F__law_pick ws))) addM) nilM)))
def st__law_form_3 (R : List W → M W) : Env → M Fl :=
 (ifM (valT (binM (varM 2) (cM (.int 7)) ltM)) (retM (binM (fun δ => bd ((consM (fun δ => bd ((consM (cM (.str "record")) (consM (fun δ => bd ((consM (fun δ => bd ((consM (cM (.str "a")) (consM (binM (varM 3) (cM (.int 0)) itemM) nilM)) δ) tupM) (consM (fun δ => bd ((consM (cM (.str "b")) (consM (binM (varM 3) (cM (.int 1)) itemM) nilM)) δ) tupM) nilM)) δ) tupM) nilM)) δ) tupM) (consM (fun δ => bd ((consM (cM (.str "field")) (consM (binM (varM 3) (cM (.int 0)) itemM) (consM (cM (.str "a")) nilM))) δ) tupM) (consM (fun δ => bd ((consM (cM (.str "with")) (consM (binM (varM 3) (cM (.int 1)) itemM) (consM (cM (.str "a")) (consM (binM (varM 3) (cM (.int 0)) itemM) nilM)))) δ) tupM) (consM (fun δ => bd ((consM (cM (.str "without")) (consM (binM (varM 3) (cM (.int 0)) itemM) (consM (cM (.str "b")) nilM))) δ) tupM) (consM (fun δ => bd ((consM (cM (.str "has")) (consM (binM (varM 3) (cM (.int 1)) itemM) (consM (cM (.str "a")) (consM (binM (varM 3) (cM (.int 0)) itemM) (consM (binM (varM 3) (cM (.int 2)) itemM) nilM))))) δ) tupM) (consM (fun δ => bd ((consM (cM (.str "tag")) (consM (cM (.str "t")) (consM (binM (varM 3) (cM (.int 0)) itemM) nilM))) δ) tupM) (consM (fun δ => bd ((consM (cM (.str "let")) (consM (cM (.str "x")) (consM (binM (varM 3) (cM (.int 1)) itemM) (consM (binM (varM 3) (cM (.int 0)) itemM) nilM)))) δ) tupM) nilM))))))) δ) lstM) (varM 2) itemM)) skipM)
def st__law_form_4 (R : List W → M W) : Env → M Fl :=
 (ifM (valT (binM (varM 2) (cM (.int 10)) ltM)) (retM (binM (fun δ => bd ((consM (fun δ => bd ((consM (cM (.str "call")) (consM (cM (.str "f")) (consM (fun δ => bd ((consM (binM (varM 3) (cM (.int 1)) itemM) (consM (binM (varM 3) (cM (.int 0)) itemM) nilM)) δ) tupM) nilM))) δ) tupM) (consM (fun δ => bd ((consM (cM (.str "ask")) (consM (cM (.str "m")) (consM (cM (.str "f")) (consM (fun δ => bd ((consM (binM (varM 3) (cM (.int 0)) itemM) nilM) δ) tupM) nilM)))) δ) tupM) (consM (fun δ => bd ((consM (cM (.str "raise")) (consM (cM (.str "r")) (consM (binM (varM 3) (cM (.int 0)) itemM) nilM))) δ) tupM) nilM))) δ) lstM) (binM (varM 2) (cM (.int 7)) subM) itemM)) skipM)
def st__law_form_5 (R : List W → M W) : Env → M Fl :=
 (ifM (valT (binM (varM 2) (cM (.int 10)) eqM)) (retM (fun δ => bd ((consM (cM (.str "case")) (consM (binM (varM 3) (cM (.int 1)) itemM) (consM (fun δ => bd ((consM (fun δ => bd ((consM (cM (.str "a")) (consM (cM (.str "x")) (consM (binM (varM 3) (cM (.int 0)) itemM) nilM))) δ) tupM) (consM (fun δ => bd ((consM (cM (.str "b")) (consM (cM (.str "y")) (consM (binM (varM 3) (cM (.int 2)) itemM) nilM))) δ) tupM) nilM)) δ) tupM) (consM (calM (consM (varM 0) (consM (fun δ => bd ((consM (cM .none) (consM (fun δ => bd ((consM (cM (.str "z")) (consM (binM (varM 3) (cM (.int 3)) itemM) nilM)) δ) tupM) nilM)) δ) lstM) nilM)) fun ws => noEx (F__law_pick ws)) nilM)))) δ) tupM)) skipM)
def st__law_form_6 (R : List W → M W) : Env → M Fl :=
 (ifM (valT (binM (varM 2) (cM (.int 11)) eqM)) (retM (fun δ => bd ((consM (cM (.str "pick")) (consM (binM (varM 3) (cM (.int 1)) itemM) (consM (fun δ => bd ((consM (fun δ => bd ((consM (cM (.str "atom")) (consM (binM (varM 3) (cM (.int 2)) itemM) nilM)) δ) tupM) (consM (fun δ => bd ((consM (fun δ => bd ((consM (cM (.str "tag")) (consM (cM (.str "a")) (consM (cM (.str "atom")) nilM))) δ) tupM) (consM (binM (varM 3) (cM (.int 0)) itemM) nilM)) δ) tupM) nilM)) δ) tupM) (consM (calM (consM (varM 0) (consM (fun δ => bd ((consM (cM .none) (consM (binM (varM 3) (cM (.int 3)) itemM) nilM)) δ) lstM) nilM)) fun ws => noEx (F__law_pick ws)) nilM)))) δ) tupM)) skipM)
def st__law_form_7 (R : List W → M W) : Env → M Fl :=
 (retM (ifV (valT (binM (varM 2) (cM (.int 12)) eqM)) (fun δ => bd ((consM (cM (.str "try")) (consM (binM (varM 3) (cM (.int 0)) itemM) (consM (fun δ => bd ((consM (fun δ => bd ((consM (cM (.str "r")) (consM (cM (.str "x")) (consM (binM (varM 3) (cM (.int 1)) itemM) nilM))) δ) tupM) nilM) δ) tupM) nilM))) δ) tupM) (calM (consM (varM 0) (consM (fun δ => bd ((consM (fun δ => bd ((consM (cM (.str "either")) (consM (fun δ => bd ((consM (binM (varM 3) (cM (.int 1)) itemM) (consM (binM (varM 3) (cM (.int 0)) itemM) (consM (binM (varM 3) (cM (.int 2)) itemM) nilM))) δ) tupM) nilM)) δ) tupM) (consM (fun δ => bd ((consM (cM (.str "put")) (consM (cM (.str "s")) (consM (binM (varM 3) (cM (.int 0)) itemM) nilM))) δ) tupM) nilM)) δ) lstM) nilM)) fun ws => noEx (F__law_pick ws))))
def b__law_form (R : List W → M W) : Env → M Fl :=
 (seqM (st__law_form_1 R)
 (seqM (st__law_form_2 R)
 (seqM (st__law_form_3 R)
 (seqM (st__law_form_4 R)
 (seqM (st__law_form_5 R)
 (seqM (st__law_form_6 R)
 (st__law_form_7 R)))))))
def F__law_form : Nat → List W → M W
  | 0 => fun _ => no
  | n + 1 => (runD 2 5 (b__law_form (F__law_form n)))
theorem g__law_form (T : Tx K mg ad fd) : ∀ n : Nat, FnG P w K mg base CX0 (3 + n) (ad 24) (fd 24) ["pen", "deep"] (spF K (fun _ => ZF) (F__law_form n))
  | 0 => fn_none
  | n + 1 => by
    have ih := g__law_form T n
    refine fn_run (j := 3 + n) T.d__law_form.fn sc__law_form rfl rfl fun cdv A outer s H E hr hG => ?_
    exact (show PSs _ (defBody s__law_form) (tS _ ZF (b__law_form (F__law_form n))) from
 (ds_cons (ds_if (dt_cmp (o_eq (room65 hr)) (dvar (i := 1)) dint) (ds_one (ds_ret (dcall ((g__law_pick T).mono (by omega)) hr hG rfl T.d__law_pick.mg (keep_ok T.d__law_pick) T.d__law_pick.bd (dacons (dvar (i := 0)) (dacons (dlst (dacons dstr (dacons dstr (dacons dstr (dacons dstr (dacons (dtup (dacons dstr (dacons dstr danil))) danil)))))) danil))))) ds_nil)
 (ds_cons (ds_par (i := 2) (j := 3) rfl sc__law_form.nd rfl rfl (by decide) rfl rfl (dacons (dcall ((g__law_draw T).mono (by omega)) hr hG rfl T.d__law_draw.mg (keep_ok T.d__law_draw) T.d__law_draw.bd (dacons (dvar (i := 0)) (dacons dint danil))) (dacons (dop o_add (dlst (dacons (dcall (ih.mono (by omega)) hr hG rfl T.d__law_form.mg (keep_ok T.d__law_form) T.d__law_form.bd (dacons (dvar (i := 0)) (dacons (dop o_sub (dvar (i := 1)) dint) danil))) danil)) (dlc (own := [("turn", 4)]) rfl sc__law_form.nd (di_rng1 rfl T.m_range (dacons dint danil)) (blkOk_by (N := N__law_form) (sc := defScope s__law_form) (by decide +kernel)) (fun _ _ _ _ _ => (dr_name (i := 4) sc__law_form.nd rfl (by first | exact Or.inl rfl | exact Or.inr rfl) (fun _ _ => wipe_set (by decide)))) (fun _ _ _ _ _ => dts_nil) (fun _ _ _ _ _ => (dcall ((g__law_pick T).mono (by omega)) hr hG rfl T.d__law_pick.mg (keep_ok T.d__law_pick) T.d__law_pick.bd (dacons (dvar (i := 0)) (dacons (dlst (dacons dstr (dacons dstr (dacons dstr (dacons (dtup (dacons dstr (dacons (dtup danil) danil))) danil))))) danil)))))) danil)))
 (ds_cons (ds_if (dt_cmp o_lt (dvar (i := 2)) dint) (ds_one (ds_ret (dix x_item (dlst (dacons (dtup (dacons dstr (dacons (dtup (dacons (dtup (dacons dstr (dacons (dix x_item (dvar (i := 3)) dint) danil))) (dacons (dtup (dacons dstr (dacons (dix x_item (dvar (i := 3)) dint) danil))) danil))) danil))) (dacons (dtup (dacons dstr (dacons (dix x_item (dvar (i := 3)) dint) (dacons dstr danil)))) (dacons (dtup (dacons dstr (dacons (dix x_item (dvar (i := 3)) dint) (dacons dstr (dacons (dix x_item (dvar (i := 3)) dint) danil))))) (dacons (dtup (dacons dstr (dacons (dix x_item (dvar (i := 3)) dint) (dacons dstr danil)))) (dacons (dtup (dacons dstr (dacons (dix x_item (dvar (i := 3)) dint) (dacons dstr (dacons (dix x_item (dvar (i := 3)) dint) (dacons (dix x_item (dvar (i := 3)) dint) danil)))))) (dacons (dtup (dacons dstr (dacons dstr (dacons (dix x_item (dvar (i := 3)) dint) danil)))) (dacons (dtup (dacons dstr (dacons dstr (dacons (dix x_item (dvar (i := 3)) dint) (dacons (dix x_item (dvar (i := 3)) dint) danil))))) danil)))))))) (dvar (i := 2))))) ds_nil)
 (ds_cons (ds_if (dt_cmp o_lt (dvar (i := 2)) dint) (ds_one (ds_ret (dix x_item (dlst (dacons (dtup (dacons dstr (dacons dstr (dacons (dtup (dacons (dix x_item (dvar (i := 3)) dint) (dacons (dix x_item (dvar (i := 3)) dint) danil))) danil)))) (dacons (dtup (dacons dstr (dacons dstr (dacons dstr (dacons (dtup (dacons (dix x_item (dvar (i := 3)) dint) danil)) danil))))) (dacons (dtup (dacons dstr (dacons dstr (dacons (dix x_item (dvar (i := 3)) dint) danil)))) danil)))) (dop o_sub (dvar (i := 2)) dint)))) ds_nil)
 (ds_cons (ds_if (dt_cmp (o_eq (room65 hr)) (dvar (i := 2)) dint) (ds_one (ds_ret (dtup (dacons dstr (dacons (dix x_item (dvar (i := 3)) dint) (dacons (dtup (dacons (dtup (dacons dstr (dacons dstr (dacons (dix x_item (dvar (i := 3)) dint) danil)))) (dacons (dtup (dacons dstr (dacons dstr (dacons (dix x_item (dvar (i := 3)) dint) danil)))) danil))) (dacons (dcall ((g__law_pick T).mono (by omega)) hr hG rfl T.d__law_pick.mg (keep_ok T.d__law_pick) T.d__law_pick.bd (dacons (dvar (i := 0)) (dacons (dlst (dacons dnon (dacons (dtup (dacons dstr (dacons (dix x_item (dvar (i := 3)) dint) danil))) danil))) danil))) danil))))))) ds_nil)
 (ds_cons (ds_if (dt_cmp (o_eq (room65 hr)) (dvar (i := 2)) dint) (ds_one (ds_ret (dtup (dacons dstr (dacons (dix x_item (dvar (i := 3)) dint) (dacons (dtup (dacons (dtup (dacons dstr (dacons (dix x_item (dvar (i := 3)) dint) danil))) (dacons (dtup (dacons (dtup (dacons dstr (dacons dstr (dacons dstr danil)))) (dacons (dix x_item (dvar (i := 3)) dint) danil))) danil))) (dacons (dcall ((g__law_pick T).mono (by omega)) hr hG rfl T.d__law_pick.mg (keep_ok T.d__law_pick) T.d__law_pick.bd (dacons (dvar (i := 0)) (dacons (dlst (dacons dnon (dacons (dix x_item (dvar (i := 3)) dint) danil))) danil))) danil))))))) ds_nil)
 (ds_one (ds_ret (dif (dt_cmp (o_eq (room65 hr)) (dvar (i := 2)) dint) (dtup (dacons dstr (dacons (dix x_item (dvar (i := 3)) dint) (dacons (dtup (dacons (dtup (dacons dstr (dacons dstr (dacons (dix x_item (dvar (i := 3)) dint) danil)))) danil)) danil)))) (dcall ((g__law_pick T).mono (by omega)) hr hG rfl T.d__law_pick.mg (keep_ok T.d__law_pick) T.d__law_pick.bd (dacons (dvar (i := 0)) (dacons (dlst (dacons (dtup (dacons dstr (dacons (dtup (dacons (dix x_item (dvar (i := 3)) dint) (dacons (dix x_item (dvar (i := 3)) dint) (dacons (dix x_item (dvar (i := 3)) dint) danil)))) danil))) (dacons (dtup (dacons dstr (dacons dstr (dacons (dix x_item (dvar (i := 3)) dint) danil)))) danil))) danil)))))))))))))
/-! _law_later -/
abbrev N__law_later : List Str := ["expr", "word", "part", "value", "arm", "name"]
theorem sc__law_later : FnScope ["expr", "word", "part", "value", "arm", "name"] ["expr"] (defScope s__law_later) := ⟨rfl, rfl, rfl, by decide +kernel, rfl, by decide +kernel, by decide +kernel⟩
def st__law_later_1 : Env → M Fl :=
 (asgM (binM (varM 0) (cM (.int 0)) itemM) (setG 1))
def st__law_later_2 : Env → M Fl :=
 (ifM (valT (binM (varM 1) (cM (.str "has")) eqM)) (retM (fun δ => bd ((consM (fun δ => bd ((consM (cM .none) (consM (binM (varM 0) (cM (.int 3)) itemM) nilM)) δ) tupM) (consM (fun δ => bd ((consM (cM .none) (consM (binM (varM 0) (cM (.int 4)) itemM) nilM)) δ) tupM) nilM)) δ) lstM)) skipM)
def st__law_later_3 : Env → M Fl :=
 (ifM (valT (binM (varM 1) (cM (.str "let")) eqM)) (retM (fun δ => bd ((consM (fun δ => bd ((consM (binM (varM 0) (cM (.int 1)) itemM) (consM (binM (varM 0) (cM (.int 3)) itemM) nilM)) δ) tupM) nilM) δ) lstM)) skipM)
def st__law_later_4 : Env → M Fl :=
 (ifM (valT (binM (varM 1) (cM (.str "either")) eqM)) (retM (lcM [2] (fun δ => bd ((binM (varM 0) (cM (.int 1)) itemM) δ) iterM) (setG 2) yesT (fun δ => bd ((consM (cM .none) (consM (varM 2) nilM)) δ) tupM))) skipM)
def st__law_later_5 : Env → M Fl :=
 (ifM (valT (binM (varM 1) (cM (.str "pick")) eqM)) (retM (binM (lcM [3, 2] (fun δ => bd ((binM (varM 0) (cM (.int 2)) itemM) δ) iterM) (tupG 2 (consG (setG 3) (consG (setG 2) nilG))) yesT (fun δ => bd ((consM (cM .none) (consM (varM 2) nilM)) δ) tupM)) (ifV (valT (binM (binM (varM 0) (cM (.int 3)) itemM) (cM .none) isNotM)) (fun δ => bd ((consM (fun δ => bd ((consM (cM .none) (consM (binM (varM 0) (cM (.int 3)) itemM) nilM)) δ) tupM) nilM) δ) lstM) (fun δ => bd (nilM δ) lstM)) addM)) skipM)
def st__law_later_6 : Env → M Fl :=
 (ifM (valT (binM (varM 1) (fun δ => bd ((consM (cM (.str "case")) (consM (cM (.str "try")) nilM)) δ) tupM) inM)) (retM (binM (lcM [4, 5, 2] (fun δ => bd ((binM (varM 0) (cM (.int 2)) itemM) δ) iterM) (tupG 3 (consG (setG 4) (consG (setG 5) (consG (setG 2) nilG)))) yesT (fun δ => bd ((consM (varM 5) (consM (varM 2) nilM)) δ) tupM)) (ifV (andT (valT (binM (varM 1) (cM (.str "case")) eqM)) (valT (binM (binM (varM 0) (cM (.int 3)) itemM) (cM .none) isNotM))) (fun δ => bd ((consM (binM (varM 0) (cM (.int 3)) itemM) nilM) δ) lstM) (fun δ => bd (nilM δ) lstM)) addM)) skipM)
def st__law_later_7 : Env → M Fl :=
 (retM (fun δ => bd (nilM δ) lstM))
def b__law_later : Env → M Fl :=
 (seqM st__law_later_1
 (seqM st__law_later_2
 (seqM st__law_later_3
 (seqM st__law_later_4
 (seqM st__law_later_5
 (seqM st__law_later_6
 st__law_later_7))))))
def F__law_later : List W → M W := pureM (runD 1 6 b__law_later)
theorem g__law_later (T : Tx K mg ad fd) : FnG P w K mg base CX0 1 (ad 25) (fd 25) ["expr"] (spF K (fun _ => ZF) F__law_later) := by
  refine fn_pure (fn_run T.d__law_later.fn sc__law_later rfl rfl fun cdv A outer s H E hr hG => ?_)
  exact (show PSs _ (defBody s__law_later) (tS _ ZF b__law_later) from
 (ds_cons (ds_set (i := 1) sc__law_later.nd rfl (by first | exact Or.inl rfl | exact Or.inr rfl) (dix x_item (dvar (i := 0)) dint))
 (ds_cons (ds_if (dt_cmp (o_eq (room65 hr)) (dvar (i := 1)) dstr) (ds_one (ds_ret (dlst (dacons (dtup (dacons dnon (dacons (dix x_item (dvar (i := 0)) dint) danil))) (dacons (dtup (dacons dnon (dacons (dix x_item (dvar (i := 0)) dint) danil))) danil))))) ds_nil)
 (ds_cons (ds_if (dt_cmp (o_eq (room65 hr)) (dvar (i := 1)) dstr) (ds_one (ds_ret (dlst (dacons (dtup (dacons (dix x_item (dvar (i := 0)) dint) (dacons (dix x_item (dvar (i := 0)) dint) danil))) danil)))) ds_nil)
 (ds_cons (ds_if (dt_cmp (o_eq (room65 hr)) (dvar (i := 1)) dstr) (ds_one (ds_ret (dlc (own := [("part", 2)]) rfl sc__law_later.nd (di_val (dix x_item (dvar (i := 0)) dint)) (blkOk_by (N := N__law_later) (sc := defScope s__law_later) (by decide +kernel)) (fun _ _ _ _ _ => (dr_name (i := 2) sc__law_later.nd rfl (by first | exact Or.inl rfl | exact Or.inr rfl) (fun _ _ => wipe_set (by decide)))) (fun _ _ _ _ _ => dts_nil) (fun _ _ _ _ _ => (dtup (dacons dnon (dacons (dvar (i := 2)) danil))))))) ds_nil)
 (ds_cons (ds_if (dt_cmp (o_eq (room65 hr)) (dvar (i := 1)) dstr) (ds_one (ds_ret (dop o_add (dlc (own := [("value", 3), ("part", 2)]) rfl sc__law_later.nd (di_val (dix x_item (dvar (i := 0)) dint)) (blkOk_by (N := N__law_later) (sc := defScope s__law_later) (by decide +kernel)) (fun _ _ _ _ _ => (dr_tup rfl (drs_cons TR.wip (dr_name (i := 3) sc__law_later.nd rfl (by first | exact Or.inl rfl | exact Or.inr rfl) (fun _ _ => wipe_set (by decide))) (drs_cons TR.wip (dr_name (i := 2) sc__law_later.nd rfl (by first | exact Or.inl rfl | exact Or.inr rfl) (fun _ _ => wipe_set (by decide))) (drs_nil TR.wip))))) (fun _ _ _ _ _ => dts_nil) (fun _ _ _ _ _ => (dtup (dacons dnon (dacons (dvar (i := 2)) danil))))) (dif (dt_cmp o_isNot (dix x_item (dvar (i := 0)) dint) dnon) (dlst (dacons (dtup (dacons dnon (dacons (dix x_item (dvar (i := 0)) dint) danil))) danil)) (dlst danil))))) ds_nil)
 (ds_cons (ds_if (dt_cmp (o_in (room66 hr)) (dvar (i := 1)) (dtup (dacons dstr (dacons dstr danil)))) (ds_one (ds_ret (dop o_add (dlc (own := [("arm", 4), ("name", 5), ("part", 2)]) rfl sc__law_later.nd (di_val (dix x_item (dvar (i := 0)) dint)) (blkOk_by (N := N__law_later) (sc := defScope s__law_later) (by decide +kernel)) (fun _ _ _ _ _ => (dr_tup rfl (drs_cons TR.wip (dr_name (i := 4) sc__law_later.nd rfl (by first | exact Or.inl rfl | exact Or.inr rfl) (fun _ _ => wipe_set (by decide))) (drs_cons TR.wip (dr_name (i := 5) sc__law_later.nd rfl (by first | exact Or.inl rfl | exact Or.inr rfl) (fun _ _ => wipe_set (by decide))) (drs_cons TR.wip (dr_name (i := 2) sc__law_later.nd rfl (by first | exact Or.inl rfl | exact Or.inr rfl) (fun _ _ => wipe_set (by decide))) (drs_nil TR.wip)))))) (fun _ _ _ _ _ => dts_nil) (fun _ _ _ _ _ => (dtup (dacons (dvar (i := 5)) (dacons (dvar (i := 2)) danil))))) (dif (dt_bool (dw_and (dt_cmp (o_eq (room65 hr)) (dvar (i := 1)) dstr) (dw_and1 (dt_cmp o_isNot (dix x_item (dvar (i := 0)) dint) dnon)))) (dlst (dacons (dix x_item (dvar (i := 0)) dint) danil)) (dlst danil))))) ds_nil)
 (ds_one (ds_ret (dlst danil))))))))))
/-! _law_first_ones -/
abbrev N__law_first_ones : List Str := ["expr"]
theorem sc__law_first_ones : FnScope ["expr"] ["expr"] (defScope s__law_first_ones) := ⟨rfl, rfl, rfl, by decide +kernel, rfl, by decide +kernel, by decide +kernel⟩
def st__law_first_ones_1 : Env → M Fl :=
 (retM (ifV (valT (binM (binM (varM 0) (cM (.int 0)) itemM) (cM (.str "either")) eqM)) (fun δ => bd (nilM δ) lstM) (calM (consM (varM 0) nilM) fun ws => noEx (F__law_strict ws))))
def b__law_first_ones : Env → M Fl :=
 st__law_first_ones_1
def F__law_first_ones : List W → M W := pureM (runD 1 1 b__law_first_ones)
theorem g__law_first_ones (T : Tx K mg ad fd) : FnG P w K mg base CX0 2 (ad 26) (fd 26) ["expr"] (spF K (fun _ => ZF) F__law_first_ones) := by
  refine fn_pure (fn_run T.d__law_first_ones.fn sc__law_first_ones rfl rfl fun cdv A outer s H E hr hG => ?_)
  exact (show PSs _ (defBody s__law_first_ones) (tS _ ZF b__law_first_ones) from
 (ds_one (ds_ret (dif (dt_cmp (o_eq (room65 hr)) (dix x_item (dvar (i := 0)) dint) dstr) (dlst danil) (dcall ((g__law_strict T).mono (by omega)) hr hG rfl T.d__law_strict.mg (keep_ok T.d__law_strict) T.d__law_strict.bd (dacons (dvar (i := 0)) danil))))))
/-! _law_walk -/
abbrev N__law_walk : List Str := ["expr", "deep", "known", "found", "part", "name"]
theorem sc__law_walk : FnScope ["expr", "deep", "known", "found", "part", "name"] ["expr", "deep", "known"] (defScope s__law_walk) := ⟨rfl, rfl, rfl, by decide +kernel, rfl, by decide +kernel, by decide +kernel⟩
def st__law_walk_1 (R : List W → M W) : Env → M Fl :=
 (asgM (fun δ => bd ((consM (fun δ => bd ((consM (varM 0) (consM (varM 1) (consM (varM 2) nilM))) δ) tupM) nilM) δ) newM) (setG 3))
def st__law_walk_2 (R : List W → M W) : Env → M Fl :=
 (exprM (metM (varM 3) (consM (calM (consM (varM 4) (consM (binM (varM 1) (cM (.int 1)) addM) (consM (varM 2) nilM))) fun ws => noEx (R ws)) nilM) chkL extendM))
def body__law_walk_1 (R : List W → M W) : Env → M Fl :=
 (st__law_walk_2 R)
def st__law_walk_3 (R : List W → M W) : Env → M Fl :=
 (exprM (metM (varM 3) (consM (calM (consM (varM 4) (consM (binM (varM 1) (cM (.int 1)) addM) (consM (ifV (valT (binM (varM 5) (cM .none) isM)) (varM 2) (binM (varM 2) (fun δ => bd ((consM (varM 5) nilM) δ) tupM) addM)) nilM))) fun ws => noEx (R ws)) nilM) chkL extendM))
def body__law_walk_2 (R : List W → M W) : Env → M Fl :=
 (st__law_walk_3 R)
def st__law_walk_4 (R : List W → M W) : Env → M Fl :=
 (ifM (notT (valT (fun δ => bd ((varM 0) δ) (isiM [.str])))) (seqM (forM (fun δ => bd ((calM (consM (varM 0) nilM) fun ws => noEx (F__law_first_ones ws)) δ) iterM) (setG 4) (body__law_walk_1 R))
 (forM (fun δ => bd ((calM (consM (varM 0) nilM) fun ws => noEx (F__law_later ws)) δ) iterM) (tupG 2 (consG (setG 5) (consG (setG 4) nilG))) (body__law_walk_2 R))) skipM)
def st__law_walk_5 (R : List W → M W) : Env → M Fl :=
 (retM fun δ => bd ((varM 3) δ) freezeM)
def b__law_walk (R : List W → M W) : Env → M Fl :=
 (seqM (st__law_walk_1 R)
 (seqM (st__law_walk_4 R)
 (st__law_walk_5 R)))
def F__law_walk : Nat → List W → M W
  | 0 => fun _ => no
  | n + 1 => pureM (runD 3 6 (b__law_walk (F__law_walk n)))
theorem g__law_walk (T : Tx K mg ad fd) : ∀ n : Nat, FnG P w K mg base CX0 (3 + n) (ad 27) (fd 27) ["expr", "deep", "known"] (spF K (fun _ => ZF) (F__law_walk n))
  | 0 => fn_none
  | n + 1 => by
    have ih := g__law_walk T n
    refine fn_pure (fn_run (j := 3 + n) T.d__law_walk.fn sc__law_walk rfl rfl fun cdv A outer s H E hr hG => ?_)
    exact (show PSs _ (defBody s__law_walk) (tS _ ZF (b__law_walk (F__law_walk n))) from
 (ds_cons (ds_set (i := 3) sc__law_walk.nd rfl (by first | exact Or.inl rfl | exact Or.inr rfl) (dnew (dacons (dtup (dacons (dvar (i := 0)) (dacons (dvar (i := 1)) (dacons (dvar (i := 2)) danil)))) danil)))
 (ds_cons (ds_if (dt_not (dt_val (disi1 (T := .str) rfl T.m_isinstance rfl T.m_str bl_str (dvar (i := 0))))) (ds_cons (ds_for PassesOwn.never rfl (di_val (dcall ((g__law_first_ones T).mono (by omega)) hr hG rfl T.d__law_first_ones.mg (keep_ok T.d__law_first_ones) T.d__law_first_ones.bd (dacons (dvar (i := 0)) danil))) (dg_name (i := 4) sc__law_walk.nd rfl (by first | exact Or.inl rfl | exact Or.inr rfl))
 (ds_one (ds_expr (dmet F.plainAttrs_list F.slot_list_extend F.type_list_extend chkL_ok m_extend (dvar (i := 3)) (dacons (dcall (ih.mono (by omega)) hr hG rfl T.d__law_walk.mg (keep_ok T.d__law_walk) T.d__law_walk.bd (dacons (dvar (i := 4)) (dacons (dop o_add (dvar (i := 1)) dint) (dacons (dvar (i := 2)) danil)))) danil)))))
 (ds_one (ds_for PassesOwn.never rfl (di_val (dcall ((g__law_later T).mono (by omega)) hr hG rfl T.d__law_later.mg (keep_ok T.d__law_later) T.d__law_later.bd (dacons (dvar (i := 0)) danil))) (dr_any (dr_tup rfl (drs_cons TR.any (dr_name (i := 5) sc__law_walk.nd rfl (by first | exact Or.inl rfl | exact Or.inr rfl) (fun _ _ => trivial)) (drs_cons TR.any (dr_name (i := 4) sc__law_walk.nd rfl (by first | exact Or.inl rfl | exact Or.inr rfl) (fun _ _ => trivial)) (drs_nil TR.any)))))
 (ds_one (ds_expr (dmet F.plainAttrs_list F.slot_list_extend F.type_list_extend chkL_ok m_extend (dvar (i := 3)) (dacons (dcall (ih.mono (by omega)) hr hG rfl T.d__law_walk.mg (keep_ok T.d__law_walk) T.d__law_walk.bd (dacons (dvar (i := 4)) (dacons (dop o_add (dvar (i := 1)) dint) (dacons (dif (dt_cmp o_is (dvar (i := 5)) dnon) (dvar (i := 2)) (dop o_add (dvar (i := 2)) (dtup (dacons (dvar (i := 5)) danil)))) danil)))) danil))))))) ds_nil)
 (ds_one (ds_ret (dfreeze (dvar (i := 3))))))))
/-! _law_bent -/
abbrev N__law_bent : List Str := ["pen", "expr", "word", "some", "arm"]
theorem sc__law_bent : FnScope ["pen", "expr", "word", "some", "arm"] ["pen", "expr"] (defScope s__law_bent) := ⟨rfl, rfl, rfl, by decide +kernel, rfl, by decide +kernel, by decide +kernel⟩
def st__law_bent_1 : Env → M Fl :=
 (ifM (valT (fun δ => bd ((varM 1) δ) (isiM [.str]))) (retM (calM (consM (varM 0) (consM (fun δ => bd ((consM (cM (.str "")) (consM (cM (.str "A")) (consM (cM (.str "call")) (consM (cM (.str "a b")) (consM (cM .none) (consM (cM (.int 5)) (consM (cM (.bool true)) (consM (fun δ => bd (nilM δ) tupM) (consM (fun δ => bd (nilM δ) lstM) (consM (cM (.dict [])) (consM (fun δ => bd ((consM (cM (.str "x")) nilM) δ) tupM) (consM (fun δ => bd ((consM (cM (.str "atom")) nilM) δ) tupM) (consM (cM (.str "abcdefghi")) nilM))))))))))))) δ) lstM) nilM)) fun ws => noEx (F__law_pick ws))) skipM)
def st__law_bent_2 : Env → M Fl :=
 (asgM (binM (varM 1) (cM (.int 0)) itemM) (setG 2))
def st__law_bent_3 : Env → M Fl :=
 (asgM (fun δ => bd ((consM (binM (varM 1) (fun δ => bd ((consM (cM (.str "x")) nilM) δ) tupM) addM) (consM (fun δ => bd ((varM 1) δ) fun x => bd ((fun _ => pr none) δ) fun l => bd ((fun δ => bd ((binM (calM (consM (varM 1) nilM) lenDM) (cM (.int 1)) subM) δ) fun w => bd (intOf w) fun i => pr (some i)) δ) fun u => sliceM x l u) (consM (binM (fun δ => bd ((consM (binM (varM 2) (cM (.str "s")) addM) nilM) δ) tupM) (fun δ => bd ((varM 1) δ) fun x => bd ((fun δ => bd ((cM (.int 1)) δ) fun w => bd (intOf w) fun i => pr (some i)) δ) fun l => bd ((fun _ => pr none) δ) fun u => sliceM x l u) addM) (consM (binM (fun δ => bd ((consM (cM .none) nilM) δ) tupM) (fun δ => bd ((varM 1) δ) fun x => bd ((fun δ => bd ((cM (.int 1)) δ) fun w => bd (intOf w) fun i => pr (some i)) δ) fun l => bd ((fun _ => pr none) δ) fun u => sliceM x l u) addM) (consM (fun δ => bd ((consM (varM 2) nilM) δ) tupM) (consM (binM (fun δ => bd ((consM (varM 2) (consM (cM .none) nilM)) δ) tupM) (fun δ => bd ((varM 1) δ) fun x => bd ((fun δ => bd ((cM (.int 2)) δ) fun w => bd (intOf w) fun i => pr (some i)) δ) fun l => bd ((fun _ => pr none) δ) fun u => sliceM x l u) addM) nilM)))))) δ) lstM) (setG 3))
def st__law_bent_4 : Env → M Fl :=
 (ifM (valT (binM (varM 2) (fun δ => bd ((consM (cM (.str "field")) (consM (cM (.str "without")) (consM (cM (.str "with")) (consM (cM (.str "has")) nilM)))) δ) tupM) inM)) (asgM (binM (varM 3) (fun δ => bd ((consM (binM (fun δ => bd ((consM (varM 2) (consM (binM (varM 1) (cM (.int 1)) itemM) (consM (cM (.str "get")) nilM))) δ) tupM) (fun δ => bd ((varM 1) δ) fun x => bd ((fun δ => bd ((cM (.int 3)) δ) fun w => bd (intOf w) fun i => pr (some i)) δ) fun l => bd ((fun _ => pr none) δ) fun u => sliceM x l u) addM) (consM (binM (fun δ => bd ((consM (varM 2) (consM (binM (varM 1) (cM (.int 1)) itemM) (consM (cM (.int 5)) nilM))) δ) tupM) (fun δ => bd ((varM 1) δ) fun x => bd ((fun δ => bd ((cM (.int 3)) δ) fun w => bd (intOf w) fun i => pr (some i)) δ) fun l => bd ((fun _ => pr none) δ) fun u => sliceM x l u) addM) nilM)) δ) lstM) addM) (setG 3)) skipM)
def st__law_bent_5 : Env → M Fl :=
 (ifM (valT (binM (varM 2) (fun δ => bd ((consM (cM (.str "case")) (consM (cM (.str "try")) nilM)) δ) tupM) inM)) (seqM (asgM (binM (binM (varM 1) (cM (.int 2)) itemM) (cM (.int 0)) itemM) (setG 4))
 (asgM (binM (varM 3) (fun δ => bd ((consM (binM (fun δ => bd ((consM (varM 2) (consM (binM (varM 1) (cM (.int 1)) itemM) (consM (fun δ => bd (nilM δ) tupM) nilM))) δ) tupM) (fun δ => bd ((varM 1) δ) fun x => bd ((fun δ => bd ((cM (.int 3)) δ) fun w => bd (intOf w) fun i => pr (some i)) δ) fun l => bd ((fun _ => pr none) δ) fun u => sliceM x l u) addM) (consM (binM (fun δ => bd ((consM (varM 2) (consM (binM (varM 1) (cM (.int 1)) itemM) (consM (fun δ => bd ((consM (varM 4) (consM (varM 4) nilM)) δ) tupM) nilM))) δ) tupM) (fun δ => bd ((varM 1) δ) fun x => bd ((fun δ => bd ((cM (.int 3)) δ) fun w => bd (intOf w) fun i => pr (some i)) δ) fun l => bd ((fun _ => pr none) δ) fun u => sliceM x l u) addM) (consM (binM (fun δ => bd ((consM (varM 2) (consM (binM (varM 1) (cM (.int 1)) itemM) (consM (fun δ => bd ((consM (fun δ => bd ((varM 4) δ) fun x => bd ((fun _ => pr none) δ) fun l => bd ((fun δ => bd ((cM (.int 2)) δ) fun w => bd (intOf w) fun i => pr (some i)) δ) fun u => sliceM x l u) nilM) δ) tupM) nilM))) δ) tupM) (fun δ => bd ((varM 1) δ) fun x => bd ((fun δ => bd ((cM (.int 3)) δ) fun w => bd (intOf w) fun i => pr (some i)) δ) fun l => bd ((fun _ => pr none) δ) fun u => sliceM x l u) addM) (consM (binM (fun δ => bd ((consM (varM 2) (consM (binM (varM 1) (cM (.int 1)) itemM) (consM (fun δ => bd ((consM (fun δ => bd ((consM (cM (.str "or")) (consM (cM (.str "x")) (consM (cM (.str "x")) nilM))) δ) tupM) nilM) δ) tupM) nilM))) δ) tupM) (fun δ => bd ((varM 1) δ) fun x => bd ((fun δ => bd ((cM (.int 3)) δ) fun w => bd (intOf w) fun i => pr (some i)) δ) fun l => bd ((fun _ => pr none) δ) fun u => sliceM x l u) addM) (consM (binM (fun δ => bd ((consM (varM 2) (consM (binM (varM 1) (cM (.int 1)) itemM) (consM (fun δ => bd ((consM (fun δ => bd ((consM (binM (varM 4) (cM (.int 0)) itemM) (consM (cM (.int 5)) (consM (cM (.str "x")) nilM))) δ) tupM) nilM) δ) tupM) nilM))) δ) tupM) (fun δ => bd ((varM 1) δ) fun x => bd ((fun δ => bd ((cM (.int 3)) δ) fun w => bd (intOf w) fun i => pr (some i)) δ) fun l => bd ((fun _ => pr none) δ) fun u => sliceM x l u) addM) (consM (binM (fun δ => bd ((consM (varM 2) (consM (binM (varM 1) (cM (.int 1)) itemM) (consM (cM .none) nilM))) δ) tupM) (fun δ => bd ((varM 1) δ) fun x => bd ((fun δ => bd ((cM (.int 3)) δ) fun w => bd (intOf w) fun i => pr (some i)) δ) fun l => bd ((fun _ => pr none) δ) fun u => sliceM x l u) addM) nilM)))))) δ) lstM) addM) (setG 3))) skipM)
def st__law_bent_6 : Env → M Fl :=
 (ifM (valT (binM (varM 2) (cM (.str "pick")) eqM)) (asgM (binM (varM 3) (fun δ => bd ((consM (fun δ => bd ((consM (varM 2) (consM (binM (varM 1) (cM (.int 1)) itemM) (consM (fun δ => bd ((consM (fun δ => bd ((consM (cM (.str "atom")) (consM (cM (.str "x")) nilM)) δ) tupM) (consM (fun δ => bd ((consM (cM (.str "atom")) (consM (cM (.str "y")) nilM)) δ) tupM) nilM)) δ) tupM) (consM (cM .none) nilM)))) δ) tupM) (consM (fun δ => bd ((consM (varM 2) (consM (binM (varM 1) (cM (.int 1)) itemM) (consM (fun δ => bd ((consM (fun δ => bd ((consM (cM (.str "b")) (consM (cM (.str "x")) nilM)) δ) tupM) nilM) δ) tupM) (consM (cM .none) nilM)))) δ) tupM) (consM (fun δ => bd ((consM (varM 2) (consM (binM (varM 1) (cM (.int 1)) itemM) (consM (fun δ => bd (nilM δ) tupM) (consM (cM (.str "x")) nilM)))) δ) tupM) (consM (fun δ => bd ((consM (varM 2) (consM (binM (varM 1) (cM (.int 1)) itemM) (consM (fun δ => bd ((consM (fun δ => bd ((consM (fun δ => bd ((consM (cM (.str "tag")) (consM (cM (.str "a")) (consM (cM (.str "atom")) nilM))) δ) tupM) (consM (cM (.str "x")) nilM)) δ) tupM) (consM (fun δ => bd ((consM (fun δ => bd ((consM (cM (.str "tag")) (consM (cM (.str "a")) (consM (cM (.str "atom")) nilM))) δ) lstM) (consM (cM (.str "y")) nilM)) δ) tupM) nilM)) δ) tupM) (consM (cM .none) nilM)))) δ) tupM) nilM)))) δ) lstM) addM) (setG 3)) skipM)
def st__law_bent_7 : Env → M Fl :=
 (ifM (valT (binM (varM 2) (cM (.str "either")) eqM)) (asgM (binM (varM 3) (fun δ => bd ((consM (fun δ => bd ((consM (varM 2) (consM (fun δ => bd ((binM (varM 1) (cM (.int 1)) itemM) δ) fun x => bd ((fun _ => pr none) δ) fun l => bd ((fun δ => bd ((cM (.int 1)) δ) fun w => bd (intOf w) fun i => pr (some i)) δ) fun u => sliceM x l u) nilM)) δ) tupM) (consM (fun δ => bd ((consM (varM 2) (consM (fun δ => bd (nilM δ) tupM) nilM)) δ) tupM) (consM (fun δ => bd ((consM (varM 2) (consM (cM (.str "xy")) nilM)) δ) tupM) (consM (fun δ => bd ((consM (varM 2) (consM (binM (fun δ => bd ((binM (varM 1) (cM (.int 1)) itemM) δ) fun x => bd ((fun _ => pr none) δ) fun l => bd ((fun δ => bd ((cM (.int 1)) δ) fun w => bd (intOf w) fun i => pr (some i)) δ) fun u => sliceM x l u) (fun δ => bd ((consM (cM .none) nilM) δ) tupM) addM) nilM)) δ) tupM) nilM)))) δ) lstM) addM) (setG 3)) skipM)
def st__law_bent_8 : Env → M Fl :=
 (ifM (valT (binM (varM 2) (cM (.str "record")) eqM)) (asgM (binM (varM 3) (fun δ => bd ((consM (fun δ => bd ((consM (varM 2) (consM (fun δ => bd ((binM (varM 1) (cM (.int 1)) itemM) δ) revM) nilM)) δ) tupM) (consM (fun δ => bd ((consM (varM 2) (consM (binM (fun δ => bd ((binM (varM 1) (cM (.int 1)) itemM) δ) fun x => bd ((fun _ => pr none) δ) fun l => bd ((fun δ => bd ((cM (.int 1)) δ) fun w => bd (intOf w) fun i => pr (some i)) δ) fun u => sliceM x l u) (cM (.int 2)) mulM) nilM)) δ) tupM) (consM (fun δ => bd ((consM (varM 2) (consM (fun δ => bd ((consM (fun δ => bd ((consM (cM (.str "a")) nilM) δ) tupM) nilM) δ) tupM) nilM)) δ) tupM) (consM (fun δ => bd ((consM (varM 2) (consM (fun δ => bd ((consM (fun δ => bd ((consM (cM (.str "a")) (consM (cM (.int 7)) nilM)) δ) tupM) nilM) δ) tupM) nilM)) δ) tupM) nilM)))) δ) lstM) addM) (setG 3)) skipM)
def st__law_bent_9 : Env → M Fl :=
 (retM (calM (consM (varM 0) (consM (varM 3) nilM)) fun ws => noEx (F__law_pick ws)))
def b__law_bent : Env → M Fl :=
 (seqM st__law_bent_1
 (seqM st__law_bent_2
 (seqM st__law_bent_3
 (seqM st__law_bent_4
 (seqM st__law_bent_5
 (seqM st__law_bent_6
 (seqM st__law_bent_7
 (seqM st__law_bent_8
 st__law_bent_9))))))))
def F__law_bent : List W → M W := (runD 2 5 b__law_bent)
theorem g__law_bent (T : Tx K mg ad fd) : FnG P w K mg base CX0 3 (ad 28) (fd 28) ["pen", "expr"] (spF K (fun _ => ZF) F__law_bent) := by
  refine fn_run T.d__law_bent.fn sc__law_bent rfl rfl fun cdv A outer s H E hr hG => ?_
  exact (show PSs _ (defBody s__law_bent) (tS _ ZF b__law_bent) from
 (ds_cons (ds_if (dt_val (disi1 (T := .str) rfl T.m_isinstance rfl T.m_str bl_str (dvar (i := 1)))) (ds_one (ds_ret (dcall ((g__law_pick T).mono (by omega)) hr hG rfl T.d__law_pick.mg (keep_ok T.d__law_pick) T.d__law_pick.bd (dacons (dvar (i := 0)) (dacons (dlst (dacons dstr (dacons dstr (dacons dstr (dacons dstr (dacons dnon (dacons dint (dacons dbl (dacons (dtup danil) (dacons (dlst danil) (dacons dd0 (dacons (dtup (dacons dstr danil)) (dacons (dtup (dacons dstr danil)) (dacons dstr danil)))))))))))))) danil))))) ds_nil)
 (ds_cons (ds_set (i := 2) sc__law_bent.nd rfl (by first | exact Or.inl rfl | exact Or.inr rfl) (dix x_item (dvar (i := 1)) dint))
 (ds_cons (ds_set (i := 3) sc__law_bent.nd rfl (by first | exact Or.inl rfl | exact Or.inr rfl) (dlst (dacons (dop o_add (dvar (i := 1)) (dtup (dacons dstr danil))) (dacons (dslice x_slice (dvar (i := 1)) dpo_none (dpo_some (dop o_sub (dcallB c_lenD rfl T.m_len bl_len (dacons (dvar (i := 1)) danil)) dint))) (dacons (dop o_add (dtup (dacons (dop o_add (dvar (i := 2)) dstr) danil)) (dslice x_slice (dvar (i := 1)) (dpo_some dint) dpo_none)) (dacons (dop o_add (dtup (dacons dnon danil)) (dslice x_slice (dvar (i := 1)) (dpo_some dint) dpo_none)) (dacons (dtup (dacons (dvar (i := 2)) danil)) (dacons (dop o_add (dtup (dacons (dvar (i := 2)) (dacons dnon danil))) (dslice x_slice (dvar (i := 1)) (dpo_some dint) dpo_none)) danil))))))))
 (ds_cons (ds_if (dt_cmp (o_in (room66 hr)) (dvar (i := 2)) (dtup (dacons dstr (dacons dstr (dacons dstr (dacons dstr danil)))))) (ds_one (ds_set (i := 3) sc__law_bent.nd rfl (by first | exact Or.inl rfl | exact Or.inr rfl) (dop o_add (dvar (i := 3)) (dlst (dacons (dop o_add (dtup (dacons (dvar (i := 2)) (dacons (dix x_item (dvar (i := 1)) dint) (dacons dstr danil)))) (dslice x_slice (dvar (i := 1)) (dpo_some dint) dpo_none)) (dacons (dop o_add (dtup (dacons (dvar (i := 2)) (dacons (dix x_item (dvar (i := 1)) dint) (dacons dint danil)))) (dslice x_slice (dvar (i := 1)) (dpo_some dint) dpo_none)) danil)))))) ds_nil)
 (ds_cons (ds_if (dt_cmp (o_in (room66 hr)) (dvar (i := 2)) (dtup (dacons dstr (dacons dstr danil)))) (ds_cons (ds_set (i := 4) sc__law_bent.nd rfl (by first | exact Or.inl rfl | exact Or.inr rfl) (dix x_item (dix x_item (dvar (i := 1)) dint) dint))
 (ds_one (ds_set (i := 3) sc__law_bent.nd rfl (by first | exact Or.inl rfl | exact Or.inr rfl) (dop o_add (dvar (i := 3)) (dlst (dacons (dop o_add (dtup (dacons (dvar (i := 2)) (dacons (dix x_item (dvar (i := 1)) dint) (dacons (dtup danil) danil)))) (dslice x_slice (dvar (i := 1)) (dpo_some dint) dpo_none)) (dacons (dop o_add (dtup (dacons (dvar (i := 2)) (dacons (dix x_item (dvar (i := 1)) dint) (dacons (dtup (dacons (dvar (i := 4)) (dacons (dvar (i := 4)) danil))) danil)))) (dslice x_slice (dvar (i := 1)) (dpo_some dint) dpo_none)) (dacons (dop o_add (dtup (dacons (dvar (i := 2)) (dacons (dix x_item (dvar (i := 1)) dint) (dacons (dtup (dacons (dslice x_slice (dvar (i := 4)) dpo_none (dpo_some dint)) danil)) danil)))) (dslice x_slice (dvar (i := 1)) (dpo_some dint) dpo_none)) (dacons (dop o_add (dtup (dacons (dvar (i := 2)) (dacons (dix x_item (dvar (i := 1)) dint) (dacons (dtup (dacons (dtup (dacons dstr (dacons dstr (dacons dstr danil)))) danil)) danil)))) (dslice x_slice (dvar (i := 1)) (dpo_some dint) dpo_none)) (dacons (dop o_add (dtup (dacons (dvar (i := 2)) (dacons (dix x_item (dvar (i := 1)) dint) (dacons (dtup (dacons (dtup (dacons (dix x_item (dvar (i := 4)) dint) (dacons dint (dacons dstr danil)))) danil)) danil)))) (dslice x_slice (dvar (i := 1)) (dpo_some dint) dpo_none)) (dacons (dop o_add (dtup (dacons (dvar (i := 2)) (dacons (dix x_item (dvar (i := 1)) dint) (dacons dnon danil)))) (dslice x_slice (dvar (i := 1)) (dpo_some dint) dpo_none)) danil))))))))))) ds_nil)
 (ds_cons (ds_if (dt_cmp (o_eq (room65 hr)) (dvar (i := 2)) dstr) (ds_one (ds_set (i := 3) sc__law_bent.nd rfl (by first | exact Or.inl rfl | exact Or.inr rfl) (dop o_add (dvar (i := 3)) (dlst (dacons (dtup (dacons (dvar (i := 2)) (dacons (dix x_item (dvar (i := 1)) dint) (dacons (dtup (dacons (dtup (dacons dstr (dacons dstr danil))) (dacons (dtup (dacons dstr (dacons dstr danil))) danil))) (dacons dnon danil))))) (dacons (dtup (dacons (dvar (i := 2)) (dacons (dix x_item (dvar (i := 1)) dint) (dacons (dtup (dacons (dtup (dacons dstr (dacons dstr danil))) danil)) (dacons dnon danil))))) (dacons (dtup (dacons (dvar (i := 2)) (dacons (dix x_item (dvar (i := 1)) dint) (dacons (dtup danil) (dacons dstr danil))))) (dacons (dtup (dacons (dvar (i := 2)) (dacons (dix x_item (dvar (i := 1)) dint) (dacons (dtup (dacons (dtup (dacons (dtup (dacons dstr (dacons dstr (dacons dstr danil)))) (dacons dstr danil))) (dacons (dtup (dacons (dlst (dacons dstr (dacons dstr (dacons dstr danil)))) (dacons dstr danil))) danil))) (dacons dnon danil))))) danil)))))))) ds_nil)
 (ds_cons (ds_if (dt_cmp (o_eq (room65 hr)) (dvar (i := 2)) dstr) (ds_one (ds_set (i := 3) sc__law_bent.nd rfl (by first | exact Or.inl rfl | exact Or.inr rfl) (dop o_add (dvar (i := 3)) (dlst (dacons (dtup (dacons (dvar (i := 2)) (dacons (dslice x_slice (dix x_item (dvar (i := 1)) dint) dpo_none (dpo_some dint)) danil))) (dacons (dtup (dacons (dvar (i := 2)) (dacons (dtup danil) danil))) (dacons (dtup (dacons (dvar (i := 2)) (dacons dstr danil))) (dacons (dtup (dacons (dvar (i := 2)) (dacons (dop o_add (dslice x_slice (dix x_item (dvar (i := 1)) dint) dpo_none (dpo_some dint)) (dtup (dacons dnon danil))) danil))) danil)))))))) ds_nil)
 (ds_cons (ds_if (dt_cmp (o_eq (room65 hr)) (dvar (i := 2)) dstr) (ds_one (ds_set (i := 3) sc__law_bent.nd rfl (by first | exact Or.inl rfl | exact Or.inr rfl) (dop o_add (dvar (i := 3)) (dlst (dacons (dtup (dacons (dvar (i := 2)) (dacons (drev (dix x_item (dvar (i := 1)) dint)) danil))) (dacons (dtup (dacons (dvar (i := 2)) (dacons (dop o_mul (dslice x_slice (dix x_item (dvar (i := 1)) dint) dpo_none (dpo_some dint)) dint) danil))) (dacons (dtup (dacons (dvar (i := 2)) (dacons (dtup (dacons (dtup (dacons dstr danil)) danil)) danil))) (dacons (dtup (dacons (dvar (i := 2)) (dacons (dtup (dacons (dtup (dacons dstr (dacons dint danil))) danil)) danil))) danil)))))))) ds_nil)
 (ds_one (ds_ret (dcall ((g__law_pick T).mono (by omega)) hr hG rfl T.d__law_pick.mg (keep_ok T.d__law_pick) T.d__law_pick.bd (dacons (dvar (i := 0)) (dacons (dvar (i := 3)) danil))))))))))))))
/-! law -/
abbrev N_law : List Str := ["script", "pen", "turn", "expr", "rows", "due", "bad", "deep", "part", "known"]
theorem sc_law : FnScope ["script", "pen", "turn", "expr", "rows", "due", "bad", "deep", "part", "known"] ["script"] (defScope s_law) := ⟨rfl, rfl, rfl, by decide +kernel, rfl, by decide +kernel, by decide +kernel⟩
def st_law_1 : Env → M Fl :=
 (asgM (calM (consM (varM 0) nilM) fun ws => noEx (F__law_pen ws)) (setG 1))
def st_law_2 : Env → M Fl :=
 (asgM (calM (consM (varM 1) (consM (calM (consM (varM 1) (consM (cM (.int 6)) nilM)) fun ws => noEx (F__law_draw ws)) nilM)) fun ws => noEx ((F__law_form 7) ws)) (setG 3))
def st_law_3 : Env → M Fl :=
 (asgM (calM (consM (varM 3) (consM (cM (.int 1)) (consM (calM (consM (varM 1) (consM (fun δ => bd ((consM (fun δ => bd (nilM δ) tupM) (consM (fun δ => bd ((consM (cM (.str "x")) nilM) δ) tupM) (consM (fun δ => bd ((consM (cM (.str "y")) (consM (cM (.str "zz")) nilM)) δ) tupM) nilM))) δ) lstM) nilM)) fun ws => noEx (F__law_pick ws)) nilM))) fun ws => noEx ((F__law_walk 30) ws)) (setG 4))
def st_law_4 : Env → M Fl :=
 (ifM (orT (valT (binM (calM (consM (varM 3) nilM) fun ws => noEx (F_is_expr ws)) (cM (.bool true)) isNotM)) (orT (valT (binM (calK nilM (consM (binM (fun δ => bd ((consM (varM 3) nilM) δ) lstM) (cM (.int 0)) itemM) nilM) (gP 0 1 [0]) (fun ws => noEx (F_is_expr ws))) (cM (.bool true)) isNotM)) (valT (binM (lcM [8, 7, 9] (fun δ => bd ((varM 4) δ) iterM) (tupG 3 (consG (setG 8) (consG (setG 7) (consG (setG 9) nilG)))) yesT (fun δ => bd ((consM (varM 8) (consM (varM 7) nilM)) δ) tupM)) (calM (consM (calK nilM (consM (varM 3) nilM) (gP 0 1 [0]) (fun ws => noEx (F_all_parts ws))) nilM) listDM) neM)))) (retM (cM (.bool false))) skipM)
def st_law_5 : Env → M Fl :=
 (ifM (notT (valT (fun δ => bd ((varM 3) δ) (isiM [.str])))) (ifM (orT (valT (binM (calK nilM (consM (varM 3) nilM) (gP 0 1 [0]) (fun ws => noEx (F_strict_parts ws))) (calM (consM (calM (consM (varM 3) nilM) fun ws => noEx (F__law_first_ones ws)) nilM) tupleM) neM)) (orT (valT (binM (calK nilM (consM (varM 3) nilM) (gP 0 1 [0]) (fun ws => noEx (F_later_parts ws))) (calM (consM (calM (consM (varM 3) nilM) fun ws => noEx (F__law_later ws)) nilM) tupleM) neM)) (valT (binM (calM (consM (calM (consM (varM 3) nilM) listDM) nilM) fun ws => noEx (F_is_expr ws)) (cM (.bool true)) isNotM)))) (retM (cM (.bool false))) skipM) skipM)
def st_law_6 : Env → M Fl :=
 (asgM (calM (consM (calM (consM (lcM [8, 7, 9] (fun δ => bd ((varM 4) δ) iterM) (tupG 3 (consG (setG 8) (consG (setG 7) (consG (setG 9) nilG)))) (andT (valT (fun δ => bd ((varM 8) δ) (isiM [.str]))) (andT (valT (binM (varM 8) (cM (.str "atom")) neM)) (valT (binM (varM 8) (varM 9) notInM)))) (varM 8)) nilM) fun ws => noEx (F__law_once ws)) nilM) sortM) (setG 5))
def st_law_7 : Env → M Fl :=
 (ifM (valT (binM (calK nilM (consM (calM (consM (binM (binM (varM 4) (cM (.int 0)) itemM) (cM (.int 2)) itemM) nilM) listDM) (consM (varM 3) nilM)) (gP 0 2 [1, 0]) (fun ws => noEx (F_unknown_in ws))) (calM (consM (varM 5) nilM) tupleM) neM)) (retM (cM (.bool false))) skipM)
def st_law_8 : Env → M Fl :=
 (asgM (calM (consM (varM 1) (consM (varM 3) nilM)) fun ws => noEx (F__law_bent ws)) (setG 6))
def st_law_9 : Env → M Fl :=
 (ifM (orT (valT (binM (calM (consM (varM 6) nilM) fun ws => noEx (F_is_expr ws)) (cM (.bool false)) isNotM)) (orT (valT (binM (calM (consM (fun δ => bd ((consM (cM (.str "tag")) (consM (cM (.str "a")) (consM (varM 6) nilM))) δ) tupM) nilM) fun ws => noEx (F_is_expr ws)) (cM (.bool false)) isNotM)) (valT (binM (calM (consM (fun δ => bd ((consM (cM (.str "either")) (consM (fun δ => bd ((consM (cM (.str "x")) (consM (cM (.str "x")) (consM (varM 6) nilM))) δ) tupM) nilM)) δ) tupM) nilM) fun ws => noEx (F_is_expr ws)) (cM (.bool false)) isNotM)))) (retM (cM (.bool false))) skipM)
def body_law_1 : Env → M Fl :=
 (seqM st_law_2
 (seqM st_law_3
 (seqM st_law_4
 (seqM st_law_5
 (seqM st_law_6
 (seqM st_law_7
 (seqM st_law_8
 st_law_9)))))))
def st_law_10 : Env → M Fl :=
 (asgM (cM (.str "x")) (setG 7))
def st_law_11 : Env → M Fl :=
 (asgM (calM (consM (varM 1) (consM (fun δ => bd ((consM (fun δ => bd ((consM (cM (.str "tag")) (consM (cM (.str "a")) (consM (varM 7) nilM))) δ) tupM) (consM (fun δ => bd ((consM (cM (.str "put")) (consM (cM (.str "s")) (consM (varM 7) nilM))) δ) tupM) (consM (fun δ => bd ((consM (cM (.str "without")) (consM (varM 7) (consM (cM (.str "a")) nilM))) δ) tupM) nilM))) δ) lstM) nilM)) fun ws => noEx (F__law_pick ws)) (setG 7))
def body_law_2 : Env → M Fl :=
 st_law_11
def st_law_12 : Env → M Fl :=
 (retM (andV (binM (calM (consM (varM 7) nilM) fun ws => noEx (F_is_expr ws)) (cM (.bool true)) isM) (andV (binM (calM (consM (fun δ => bd ((consM (cM (.str "tag")) (consM (cM (.str "b")) (consM (varM 7) nilM))) δ) tupM) nilM) fun ws => noEx (F_is_expr ws)) (cM (.bool false)) isM) (andV (binM (calM (consM (fun δ => bd ((consM (cM (.str "let")) (consM (cM (.str "x")) (consM (cM (.str "atom")) (consM (varM 7) nilM)))) δ) tupM) nilM) fun ws => noEx (F_is_expr ws)) (cM (.bool false)) isM) (binM (calM (consM (calM (consM (varM 7) nilM) fun ws => noEx (F_all_parts ws)) nilM) lenDM) (cM (.int 20)) eqM)))))
def b_law : Env → M Fl :=
 (seqM st_law_1
 (seqM (forM (fun δ => bd ((consM (cM (.int 6)) nilM) δ) rng1M) (setG 2) body_law_1)
 (seqM st_law_10
 (seqM (forM (fun δ => bd ((consM (cM (.int 19)) nilM) δ) rng1M) (setG 2) body_law_2)
 st_law_12))))
def F_law : List W → M W := (runD 1 10 b_law)
theorem g_law (T : Tx K mg ad fd) : FnG P w K mg base CX0 34 (ad 29) (fd 29) ["script"] (spF K (fun _ => ZF) F_law) := by
  refine fn_run T.d_law.fn sc_law rfl rfl fun cdv A outer s H E hr hG => ?_
  exact (show PSs _ (defBody s_law) (tS _ ZF b_law) from
 (ds_cons (ds_set (i := 1) sc_law.nd rfl (by first | exact Or.inl rfl | exact Or.inr rfl) (dcall ((g__law_pen T).mono (by omega)) hr hG rfl T.d__law_pen.mg (keep_ok T.d__law_pen) T.d__law_pen.bd (dacons (dvar (i := 0)) danil)))
 (ds_cons (ds_for PassesOwn.never rfl (di_rng1 rfl T.m_range (dacons dint danil)) (dg_name (i := 2) sc_law.nd rfl (by first | exact Or.inl rfl | exact Or.inr rfl))
 (ds_cons (ds_set (i := 3) sc_law.nd rfl (by first | exact Or.inl rfl | exact Or.inr rfl) (dcall ((g__law_form T 7).mono (by omega)) hr hG rfl T.d__law_form.mg (keep_ok T.d__law_form) T.d__law_form.bd (dacons (dvar (i := 1)) (dacons (dcall ((g__law_draw T).mono (by omega)) hr hG rfl T.d__law_draw.mg (keep_ok T.d__law_draw) T.d__law_draw.bd (dacons (dvar (i := 1)) (dacons dint danil))) danil))))
 (ds_cons (ds_set (i := 4) sc_law.nd rfl (by first | exact Or.inl rfl | exact Or.inr rfl) (dcall ((g__law_walk T 30).mono (by omega)) hr hG rfl T.d__law_walk.mg (keep_ok T.d__law_walk) T.d__law_walk.bd (dacons (dvar (i := 3)) (dacons dint (dacons (dcall ((g__law_pick T).mono (by omega)) hr hG rfl T.d__law_pick.mg (keep_ok T.d__law_pick) T.d__law_pick.bd (dacons (dvar (i := 1)) (dacons (dlst (dacons (dtup danil) (dacons (dtup (dacons dstr danil)) (dacons (dtup (dacons dstr (dacons dstr danil))) danil)))) danil))) danil)))))
 (ds_cons (ds_if (dt_bool (dw_or (dt_cmp o_isNot (dcall ((g_is_expr T).mono (by omega)) hr hG rfl T.d_is_expr.mg (keep_ok T.d_is_expr) T.d_is_expr.bd (dacons (dvar (i := 3)) danil)) dbl) (dw_or (dt_cmp o_isNot (dcallK0 ((g_is_expr T).mono (by omega)) hr hG rfl T.d_is_expr.mg (keep_ok T.d_is_expr) (kb_0 T.d_is_expr) (dk_cons (dix x_item (dlst (dacons (dvar (i := 3)) danil)) dint) dk_nil)) dbl) (dw_or1 (dt_cmp (o_ne (room65 hr)) (dlc (own := [("part", 8), ("deep", 7), ("known", 9)]) rfl sc_law.nd (di_val (dvar (i := 4))) (blkOk_by (N := N_law) (sc := defScope s_law) (by decide +kernel)) (fun _ _ _ _ _ => (dr_tup rfl (drs_cons TR.wip (dr_name (i := 8) sc_law.nd rfl (by first | exact Or.inl rfl | exact Or.inr rfl) (fun _ _ => wipe_set (by decide))) (drs_cons TR.wip (dr_name (i := 7) sc_law.nd rfl (by first | exact Or.inl rfl | exact Or.inr rfl) (fun _ _ => wipe_set (by decide))) (drs_cons TR.wip (dr_name (i := 9) sc_law.nd rfl (by first | exact Or.inl rfl | exact Or.inr rfl) (fun _ _ => wipe_set (by decide))) (drs_nil TR.wip)))))) (fun _ _ _ _ _ => dts_nil) (fun _ _ _ _ _ => (dtup (dacons (dvar (i := 8)) (dacons (dvar (i := 7)) danil))))) (dcallTy (c_listD rfl) rfl T.m_list bl_list (dacons (dcallK0 ((g_all_parts T).mono (by omega)) hr hG rfl T.d_all_parts.mg (keep_ok T.d_all_parts) (kb_1 T.d_all_parts) (dk_cons (dvar (i := 3)) dk_nil)) danil))))))) (ds_one (ds_ret dbl)) ds_nil)
 (ds_cons (ds_if (dt_not (dt_val (disi1 (T := .str) rfl T.m_isinstance rfl T.m_str bl_str (dvar (i := 3))))) (ds_one (ds_if (dt_bool (dw_or (dt_cmp (o_ne (room65 hr)) (dcallK0 ((g_strict_parts T).mono (by omega)) hr hG rfl T.d_strict_parts.mg (keep_ok T.d_strict_parts) (kb_2 T.d_strict_parts) (dk_cons (dvar (i := 3)) dk_nil)) (dcallTy c_tuple rfl T.m_tuple bl_tuple (dacons (dcall ((g__law_first_ones T).mono (by omega)) hr hG rfl T.d__law_first_ones.mg (keep_ok T.d__law_first_ones) T.d__law_first_ones.bd (dacons (dvar (i := 3)) danil)) danil))) (dw_or (dt_cmp (o_ne (room65 hr)) (dcallK0 ((g_later_parts T).mono (by omega)) hr hG rfl T.d_later_parts.mg (keep_ok T.d_later_parts) (kb_3 T.d_later_parts) (dk_cons (dvar (i := 3)) dk_nil)) (dcallTy c_tuple rfl T.m_tuple bl_tuple (dacons (dcall ((g__law_later T).mono (by omega)) hr hG rfl T.d__law_later.mg (keep_ok T.d__law_later) T.d__law_later.bd (dacons (dvar (i := 3)) danil)) danil))) (dw_or1 (dt_cmp o_isNot (dcall ((g_is_expr T).mono (by omega)) hr hG rfl T.d_is_expr.mg (keep_ok T.d_is_expr) T.d_is_expr.bd (dacons (dcallTy (c_listD rfl) rfl T.m_list bl_list (dacons (dvar (i := 3)) danil)) danil)) dbl))))) (ds_one (ds_ret dbl)) ds_nil)) ds_nil)
 (ds_cons (ds_set (i := 5) sc_law.nd rfl (by first | exact Or.inl rfl | exact Or.inr rfl) (dcallB c_sort rfl T.m_sorted bl_sorted (dacons (dcall ((g__law_once T).mono (by omega)) hr hG rfl T.d__law_once.mg (keep_ok T.d__law_once) T.d__law_once.bd (dacons (dlc (own := [("part", 8), ("deep", 7), ("known", 9)]) rfl sc_law.nd (di_val (dvar (i := 4))) (blkOk_by (N := N_law) (sc := defScope s_law) (by decide +kernel)) (fun _ _ _ _ _ => (dr_tup rfl (drs_cons TR.wip (dr_name (i := 8) sc_law.nd rfl (by first | exact Or.inl rfl | exact Or.inr rfl) (fun _ _ => wipe_set (by decide))) (drs_cons TR.wip (dr_name (i := 7) sc_law.nd rfl (by first | exact Or.inl rfl | exact Or.inr rfl) (fun _ _ => wipe_set (by decide))) (drs_cons TR.wip (dr_name (i := 9) sc_law.nd rfl (by first | exact Or.inl rfl | exact Or.inr rfl) (fun _ _ => wipe_set (by decide))) (drs_nil TR.wip)))))) (fun _ _ _ _ _ => (dts_one (dt_bool (dw_and (dt_val (disi1 (T := .str) rfl T.m_isinstance rfl T.m_str bl_str (dvar (i := 8)))) (dw_and (dt_cmp (o_ne (room65 hr)) (dvar (i := 8)) dstr) (dw_and1 (dt_cmp (o_notIn (room66 hr)) (dvar (i := 8)) (dvar (i := 9))))))))) (fun _ _ _ _ _ => (dvar (i := 8)))) danil)) danil)))
 (ds_cons (ds_if (dt_cmp (o_ne (room65 hr)) (dcallK0 ((g_unknown_in T).mono (by omega)) hr hG rfl T.d_unknown_in.mg (keep_ok T.d_unknown_in) (kb_4 T.d_unknown_in) (dk_cons (dcallTy (c_listD rfl) rfl T.m_list bl_list (dacons (dix x_item (dix x_item (dvar (i := 4)) dint) dint) danil)) (dk_cons (dvar (i := 3)) dk_nil))) (dcallTy c_tuple rfl T.m_tuple bl_tuple (dacons (dvar (i := 5)) danil))) (ds_one (ds_ret dbl)) ds_nil)
 (ds_cons (ds_set (i := 6) sc_law.nd rfl (by first | exact Or.inl rfl | exact Or.inr rfl) (dcall ((g__law_bent T).mono (by omega)) hr hG rfl T.d__law_bent.mg (keep_ok T.d__law_bent) T.d__law_bent.bd (dacons (dvar (i := 1)) (dacons (dvar (i := 3)) danil))))
 (ds_one (ds_if (dt_bool (dw_or (dt_cmp o_isNot (dcall ((g_is_expr T).mono (by omega)) hr hG rfl T.d_is_expr.mg (keep_ok T.d_is_expr) T.d_is_expr.bd (dacons (dvar (i := 6)) danil)) dbl) (dw_or (dt_cmp o_isNot (dcall ((g_is_expr T).mono (by omega)) hr hG rfl T.d_is_expr.mg (keep_ok T.d_is_expr) T.d_is_expr.bd (dacons (dtup (dacons dstr (dacons dstr (dacons (dvar (i := 6)) danil)))) danil)) dbl) (dw_or1 (dt_cmp o_isNot (dcall ((g_is_expr T).mono (by omega)) hr hG rfl T.d_is_expr.mg (keep_ok T.d_is_expr) T.d_is_expr.bd (dacons (dtup (dacons dstr (dacons (dtup (dacons dstr (dacons dstr (dacons (dvar (i := 6)) danil)))) danil))) danil)) dbl))))) (ds_one (ds_ret dbl)) ds_nil))))))))))
 (ds_cons (ds_set (i := 7) sc_law.nd rfl (by first | exact Or.inl rfl | exact Or.inr rfl) dstr)
 (ds_cons (ds_for PassesOwn.never rfl (di_rng1 rfl T.m_range (dacons dint danil)) (dg_name (i := 2) sc_law.nd rfl (by first | exact Or.inl rfl | exact Or.inr rfl))
 (ds_one (ds_set (i := 7) sc_law.nd rfl (by first | exact Or.inl rfl | exact Or.inr rfl) (dcall ((g__law_pick T).mono (by omega)) hr hG rfl T.d__law_pick.mg (keep_ok T.d__law_pick) T.d__law_pick.bd (dacons (dvar (i := 1)) (dacons (dlst (dacons (dtup (dacons dstr (dacons dstr (dacons (dvar (i := 7)) danil)))) (dacons (dtup (dacons dstr (dacons dstr (dacons (dvar (i := 7)) danil)))) (dacons (dtup (dacons dstr (dacons (dvar (i := 7)) (dacons dstr danil)))) danil)))) danil))))))
 (ds_one (ds_ret (dv_and (dcmp o_is (dcall ((g_is_expr T).mono (by omega)) hr hG rfl T.d_is_expr.mg (keep_ok T.d_is_expr) T.d_is_expr.bd (dacons (dvar (i := 7)) danil)) dbl) (dv_and (dcmp o_is (dcall ((g_is_expr T).mono (by omega)) hr hG rfl T.d_is_expr.mg (keep_ok T.d_is_expr) T.d_is_expr.bd (dacons (dtup (dacons dstr (dacons dstr (dacons (dvar (i := 7)) danil)))) danil)) dbl) (dv_and (dcmp o_is (dcall ((g_is_expr T).mono (by omega)) hr hG rfl T.d_is_expr.mg (keep_ok T.d_is_expr) T.d_is_expr.bd (dacons (dtup (dacons dstr (dacons dstr (dacons dstr (dacons (dvar (i := 7)) danil))))) danil)) dbl) (dv_one (dcmp (o_eq (room65 hr)) (dcallB c_lenD rfl T.m_len bl_len (dacons (dcall ((g_all_parts T).mono (by omega)) hr hG rfl T.d_all_parts.mg (keep_ok T.d_all_parts) T.d_all_parts.bd (dacons (dvar (i := 7)) danil)) danil)) dint))))))))))))
end
end DL.k02
namespace DL.k02
open PySem PySem.Spec PyProof.Rows L2 DL

/-- the expressions that are met -/
inductive Ex where
  | atom | x | y | zz | get | rec0
  | rec2 (a b : Ex) | field (a : Ex) | wth (b a : Ex) | wout (a : Ex) | has (b a c : Ex) | tag (a : Ex) | let_ (b a : Ex)
  | call (b a : Ex) | ask (a : Ex) | rais (a : Ex) | case (b a c : Ex) | caseZ (b a c d : Ex) | pick (b c a : Ex) | pickE (b c a d : Ex)
  | try_ (a b : Ex) | either (b a c : Ex) | put (a : Ex) | tagA (a : Ex) | tagB (a : Ex) | woutA (a : Ex)
abbrev s (z : Str) : D := .str z
abbrev t (ds : List D) : D := .tuple ds
def Ex.toD : Ex → D
  | .atom => s "atom" | .x => s "x" | .y => s "y" | .zz => s "zz"
  | .get => t [s "get", s "s"] | .rec0 => t [s "record", t []]
  | .rec2 a b => t [s "record", t [t [s "a", a.toD], t [s "b", b.toD]]]
  | .field a => t [s "field", a.toD, s "a"]
  | .wth b a => t [s "with", b.toD, s "a", a.toD]
  | .wout a => t [s "without", a.toD, s "b"]
  | .has b a c => t [s "has", b.toD, s "a", a.toD, c.toD]
  | .tag a => t [s "tag", s "t", a.toD]
  | .let_ b a => t [s "let", s "x", b.toD, a.toD]
  | .call b a => t [s "call", s "f", t [b.toD, a.toD]]
  | .ask a => t [s "ask", s "m", s "f", t [a.toD]]
  | .rais a => t [s "raise", s "r", a.toD]
  | .case b a c => t [s "case", b.toD, t [t [s "a", s "x", a.toD], t [s "b", s "y", c.toD]], .none]
  | .caseZ b a c d => t [s "case", b.toD, t [t [s "a", s "x", a.toD], t [s "b", s "y", c.toD]], t [s "z", d.toD]]
  | .pick b c a => t [s "pick", b.toD, t [t [s "atom", c.toD], t [t [s "tag", s "a", s "atom"], a.toD]], .none]
  | .pickE b c a d => t [s "pick", b.toD, t [t [s "atom", c.toD], t [t [s "tag", s "a", s "atom"], a.toD]], d.toD]
  | .try_ a b => t [s "try", a.toD, t [t [s "r", s "x", b.toD]]]
  | .either b a c => t [s "either", t [b.toD, a.toD, c.toD]]
  | .put a => t [s "put", s "s", a.toD]
  | .tagA a => t [s "tag", s "a", a.toD]
  | .tagB a => t [s "tag", s "b", a.toD]
  | .woutA a => t [s "without", a.toD, s "a"]
def Ex.simple : Ex → Bool
  | .atom | .x | .y | .zz => true
  | _ => false
/-- its strict parts -/
def Ex.strict : Ex → List Ex
  | .atom | .x | .y | .zz | .get | .rec0 | .either _ _ _ => []
  | .rec2 a b => [a, b]
  | .field a | .wout a | .tag a | .ask a | .rais a | .put a | .tagA a | .tagB a | .woutA a => [a]
  | .wth b a | .call b a => [b, a]
  | .has b _ _ | .let_ b _ | .case b _ _ | .caseZ b _ _ _ | .pick b _ _ | .pickE b _ _ _ => [b]
  | .try_ a _ => [a]
/-- its later parts, with the names that they know -/
def Ex.later : Ex → List (Option Str × Ex)
  | .has _ a c => [(none, a), (none, c)]
  | .let_ _ a => [(some "x", a)]
  | .case _ a c => [(some "x", a), (some "y", c)]
  | .caseZ _ a c d => [(some "x", a), (some "y", c), (some "z", d)]
  | .pick _ c a => [(none, c), (none, a)]
  | .pickE _ c a d => [(none, c), (none, a), (none, d)]
  | .try_ _ b => [(some "x", b)]
  | .either b a c => [(none, b), (none, a), (none, c)]
  | _ => []
def nmD : Option Str → D
  | none => .none
  | some z => s z
def laD (p : Option Str × Ex) : D := t [nmD p.1, p.2.toD]
def Ex.kids (e : Ex) : List Ex := e.strict ++ e.later.map (·.2)
theorem form_ok (e : Ex) (h : e.simple = false) (S : Sto) : F_has_form [.d e.toD] S = .ok (okb true) S := by
  cases e <;> first | exact absurd h (by decide) | kernel_rfl
theorem form_okL (e : Ex) (ds : List D) (h : e.toD = t ds) (S : Sto) : F_has_form [.d (.list ds)] S = .ok (okb true) S := by
  cases e <;> first | (cases h; done) | (cases h; kernel_rfl)
theorem strict_ok (e : Ex) (h : e.simple = false) (S : Sto) : F_strict_parts [.d e.toD] S = .ok (.d (.tuple (e.strict.map Ex.toD))) S := by
  cases e <;> first | exact absurd h (by decide) | kernel_rfl
theorem strict_okL (e : Ex) (ds : List D) (h : e.toD = t ds) (S : Sto) : F_strict_parts [.d (.list ds)] S = .ok (.d (.tuple (e.strict.map Ex.toD))) S := by
  cases e <;> first | (cases h; done) | (cases h; kernel_rfl)
theorem later_ok (e : Ex) (h : e.simple = false) (S : Sto) : F_later_parts [.d e.toD] S = .ok (.d (.tuple (e.later.map laD))) S := by
  cases e
  case pickE b c a d => cases d <;> kernel_rfl
  all_goals first | exact absurd h (by decide) | kernel_rfl
theorem later_okL (e : Ex) (ds : List D) (h : e.toD = t ds) (S : Sto) : F_later_parts [.d (.list ds)] S = .ok (.d (.tuple (e.later.map laD))) S := by
  cases e
  case pickE b c a d => cases h; cases d <;> kernel_rfl
  all_goals first | (cases h; done) | (cases h; kernel_rfl)

/-! ### is_expr -/
/-- a line of the stack -/
abbrev it (x : D) (d : Int) : W := .d (.tuple [x, .int d])
abbrev frame (v a b p n : Option W) (m : Int) : Env := [v, some (.r 0), some (.d (.int m)), a, b, p, n]
def Good (x : D) (ks : List D) : Prop := ∀ (rest : List W) (d m : Int) (v p n : Option W), rest.length + ks.length ≤ 1000000 →
  st_is_expr_5 (frame v (some (.d x)) (some (.d (.int d))) p n m) [.lst rest] = .ok (.nx (frame v (some (.d x)) (some (.d (.int d))) p n m)) [.lst (rest ++ ks.map fun k => it k (d + 1))]
def Bad (x : D) : Prop := ∀ (rest : List W) (d m : Int) (v p n : Option W),
  st_is_expr_5 (frame v (some (.d x)) (some (.d (.int d))) p n m) [.lst rest] = .ok (.rt (okb false)) [.lst rest]
theorem ie_body (rest : List W) (x : D) (d m : Int) (v a b p n : Option W) :
    body_is_expr_1 (frame v a b p n m) [.lst (rest ++ [it x d])] = if 20 < d ∨ 20000 < m + 1 then .ok (.rt (okb false)) [.lst rest] else st_is_expr_5 (frame v (some (.d x)) (some (.d (.int d))) p n (m + 1)) [.lst rest] := by
  unfold body_is_expr_1
  have hp : metM (varM 1) nilM chkL popM (frame v a b p n m) [.lst (rest ++ [it x d])] = .ok (it x d) [.lst rest] := met_ok rfl rfl rfl (pop_snoc rfl)
  refine Eq.trans (seq_nx (δ' := frame v (some (.d x)) (some (.d (.int d))) p n m) (S' := [.lst rest]) ?_) ?_
  · unfold st_is_expr_2 asgM
    rw [bd_ok hp]
    rfl
  refine Eq.trans (seq_nx (δ' := frame v (some (.d x)) (some (.d (.int d))) p n (m + 1)) (S' := [.lst rest]) rfl) ?_
  have h4 : st_is_expr_4 (frame v (some (.d x)) (some (.d (.int d))) p n (m + 1)) [.lst rest] = if 20 < d ∨ 20000 < m + 1 then .ok (.rt (okb false)) [.lst rest] else .ok (.nx (frame v (some (.d x)) (some (.d (.int d))) p n (m + 1))) [.lst rest] := by
    by_cases h1 : 20 < d
    · simp [st_is_expr_4, ifM, orT, valT, binM, bd, pr, varM, cM, gtM, okb, boolOf, retM, skipM, h1]
    · by_cases h2 : 20000 < m + 1
      · simp [st_is_expr_4, ifM, orT, valT, binM, bd, pr, varM, cM, gtM, okb, boolOf, retM, skipM, h1, h2]
      · simp [st_is_expr_4, ifM, orT, valT, binM, bd, pr, varM, cM, gtM, okb, boolOf, retM, skipM, h1, h2]
  by_cases hc : 20 < d ∨ 20000 < m + 1
  · rw [if_pos hc] at h4 ⊢
    exact seq_rt h4
  · rw [if_neg hc] at h4 ⊢
    exact seq_nx h4
theorem good_str (z : Str) (h : z = "atom" ∨ ∀ S, F_is_name [.d (.str z)] S = .ok (okb true) S) : Good (.str z) [] := by
  intro rest d m v p n _
  unfold st_is_expr_5
  have e1 : valT (fun δ => bd ((varM 3) δ) (isiM [.str])) (frame v (some (.d (.str z))) (some (.d (.int d))) p n m) [.lst rest] = .ok true [.lst rest] := rfl
  rw [if_t e1]
  have e2 : andT (valT (binM (varM 3) (cM (.str "atom")) neM)) (notT (valT (calM (consM (varM 3) nilM) fun ws => noEx (F_is_name ws)))) (frame v (some (.d (.str z))) (some (.d (.int d))) p n m) [.lst rest] = .ok false [.lst rest] := by
    rcases h with rfl | h
    · kernel_rfl
    · have h' := h [.lst rest]
      cases hq : PyData.eqv (.str z) (.str "atom") <;>
      simp [andT, notT, valT, binM, calM, consM, nilM, bd, pr, varM, cM, okb, boolOf, noEx, h', neM, neD, isNil, toD, nd, PyData.depth, hq]
  rw [if_f e2]
  simp [skipM, pr]
theorem lc_one (a : List D) (d m : Int) (v h p n : Option W) (S : Sto) : compL [5] (setG 5) yesT (fun δ => bd ((consM (varM 5) (consM (binM (varM 4) (cM (.int 1)) addM) nilM)) δ) tupM) (a.map .d) (frame v h (some (.d (.int d))) p n m) S =
    .ok ((a.map fun k => PyData.tuple [k, .int (d + 1)]).map .d) S := by
  have := comp_all (own := [5]) (g := setG 5) (e := fun δ => bd ((consM (varM 5) (consM (binM (varM 4) (cM (.int 1)) addM) nilM)) δ) tupM) (δ := frame v h (some (.d (.int d))) p n m) (S := S)
    (fun w => match w with | .d k => it k (d + 1) | w => w) (ws := a.map .d) (fun w hw => by
      obtain ⟨k, _, rfl⟩ := List.mem_map.mp hw
      exact ⟨_, rfl, rfl⟩)
  rw [this, List.map_map, List.map_map]
  rfl
theorem lc_two (b : List (D × D)) (d m : Int) (v h p n : Option W) (S : Sto) : compL [6, 5] (tupG 2 (consG (setG 6) (consG (setG 5) nilG))) yesT (fun δ => bd ((consM (varM 5) (consM (binM (varM 4) (cM (.int 1)) addM) nilM)) δ) tupM) ((b.map fun p => t [p.1, p.2]).map .d) (frame v h (some (.d (.int d))) p n m) S =
    .ok (((b.map (·.2)).map fun k => PyData.tuple [k, .int (d + 1)]).map .d) S := by
  have := comp_all (own := [6, 5]) (g := tupG 2 (consG (setG 6) (consG (setG 5) nilG))) (e := fun δ => bd ((consM (varM 5) (consM (binM (varM 4) (cM (.int 1)) addM) nilM)) δ) tupM) (δ := frame v h (some (.d (.int d))) p n m) (S := S)
    (fun w => match w with | .d (.tuple [_, k]) => it k (d + 1) | w => w) (ws := (b.map fun p => t [p.1, p.2]).map .d) (fun w hw => by
      obtain ⟨k, hk, rfl⟩ := List.mem_map.mp hw
      obtain ⟨q, _, rfl⟩ := List.mem_map.mp hk
      exact ⟨_, rfl, rfl⟩)
  rw [this]
  simp only [List.map_map]
  rfl
theorem small_lst {ds : List D} {S : Sto} (h : ds.length ≤ 1000000) : lstM (ds.map .d) S = .ok (.d (.list ds)) S := lst_ok (allD_map ds) (by rw [List.length_map]; exact Nat.le_trans h small2)
theorem good_of {z : Str} {ds : List D} {x : D} {a : List D} {b : List (D × D)} (hx : (x = .tuple (.str z :: ds) ∨ x = .list (.str z :: ds))) (hl : ds ≠ []) (hf : ∀ S, F_has_form [.d x] S = .ok (okb true) S) (hs : ∀ S, F_strict_parts [.d x] S = .ok (.d (.tuple a)) S)
    (hb : ∀ S, F_later_parts [.d x] S = .ok (.d (.tuple (b.map fun p => t [p.1, p.2]))) S) : Good x (a ++ b.map (·.2)) := by
  intro rest d m v p n hlen
  simp only [List.length_append, List.length_map] at hlen
  unfold st_is_expr_5
  have e1 : valT (fun δ => bd ((varM 3) δ) (isiM [.str])) (frame v (some (.d x)) (some (.d (.int d))) p n m) [.lst rest] = .ok false [.lst rest] := by rcases hx with rfl | rfl <;> rfl
  rw [if_f e1]
  have e2 : orT (notT (valT (calM (consM (varM 3) nilM) fun ws => noEx (F_is_listed ws)))) (orT (valT (binM (calM (consM (varM 3) nilM) lenDM) (cM (.int 2)) ltM)) (orT (notT (valT (fun δ => bd ((binM (varM 3) (cM (.int 0)) itemM) δ) (isiM [.str])))) (notT (valT (calM (consM (varM 3) nilM) fun ws => noEx (F_has_form ws))))))
      (frame v (some (.d x)) (some (.d (.int d))) p n m) [.lst rest] = .ok false [.lst rest] := by
    have h1 : F_is_listed [.d x] [.lst rest] = .ok (okb true) [.lst rest] := by rcases hx with rfl | rfl <;> kernel_rfl
    have h2 : itemM (.d x) (.d (.int 0)) [.lst rest] = .ok (.d (.str z)) [.lst rest] := by rcases hx with rfl | rfl <;> first | exact item_t atI_0 | exact item_l atI_0
    have h3 : ∃ k : Int, 2 ≤ k ∧ lenDM [.d x] [.lst rest] = .ok (.d (.int k)) [.lst rest] := by
      cases ds with
      | nil => exact absurd rfl hl
      | cons y ys => exact ⟨((.str z :: y :: ys : List D).length : Int), by simp; omega, by rcases hx with rfl | rfl <;> simp [lenDM, lenM, seqOf]⟩
    obtain ⟨k, hk, h3⟩ := h3
    have hk' : ¬ k < 2 := by omega
    simp [orT, notT, valT, binM, calM, consM, nilM, bd, pr, varM, cM, okb, boolOf, noEx, h1, h2, h3, hf, ltM, hk', isiM, kdW, kdD, Kd.isA]
  rw [if_f e2]
  have s1 : (exprM (metM (varM 1) (consM (lcM [5] (fun δ => bd ((calM (consM (varM 3) nilM) fun ws => noEx (F_strict_parts ws)) δ) iterM) (setG 5) yesT (fun δ => bd ((consM (varM 5) (consM (binM (varM 4) (cM (.int 1)) addM) nilM)) δ) tupM)) nilM) chkL extendM)) (frame v (some (.d x)) (some (.d (.int d))) p n m) [.lst rest] =
      .ok (.nx (frame v (some (.d x)) (some (.d (.int d))) p n m)) [.lst (rest ++ a.map fun k => it k (d + 1))] := by
    refine expr_ok (w := .d .none) (met_ok (S := [.lst rest]) (n := 0) (ws := rest) rfl rfl (cons_ok (S1 := [.lst rest]) (x := .d (.list (a.map fun k => PyData.tuple [k, .int (d + 1)]))) ?_ rfl) ?_)
    · unfold lcM
      rw [bd_ok (show (bd ((calM (consM (varM 3) nilM) fun ws => noEx (F_strict_parts ws)) (frame v (some (.d x)) (some (.d (.int d))) p n m)) iterM) [.lst rest] = .ok (a.map .d) [.lst rest] by
        rw [bd_ok (cal_ok (ws := [.d x]) rfl (noEx_ok (hs _)))]; rfl), bd_ok (lc_one a d m v _ p n _)]
      exact small_lst (by rw [List.length_map]; omega)
    · rw [extend_ok (S := [.lst rest]) (n := 0) (ws := rest) rfl seq_l (by have := small2; simp only [List.length_map]; omega), List.map_map]
      rfl
  rw [seq_nx s1]
  refine expr_ok (w := .d .none) (met_ok (n := 0) (ws := rest ++ a.map fun k => it k (d + 1)) rfl rfl (cons_ok (S1 := [.lst (rest ++ a.map fun k => it k (d + 1))]) (x := .d (.list ((b.map (·.2)).map fun k => PyData.tuple [k, .int (d + 1)]))) ?_ rfl) ?_)
  · unfold lcM
    rw [bd_ok (show (bd ((calM (consM (varM 3) nilM) fun ws => noEx (F_later_parts ws)) (frame v (some (.d x)) (some (.d (.int d))) p n m)) iterM) _ = .ok ((b.map fun p => t [p.1, p.2]).map .d) _ by
      rw [bd_ok (cal_ok (ws := [.d x]) rfl (noEx_ok (hb _)))]; rfl), bd_ok (lc_two b d m v _ p n _)]
    exact small_lst (by simp only [List.length_map]; omega)
  · rw [extend_ok (n := 0) (ws := rest ++ a.map fun k => it k (d + 1)) rfl seq_l (by have := small2; simp only [List.length_append, List.length_map]; omega), List.map_map]
    simp only [List.map_append, List.append_assoc]
    rfl
/-- what is walked: good with its parts, or bad -/
inductive Tr where
  | bad (x : D)
  | node (x : D) (ks : List Tr)
def Tr.d : Tr → D
  | .bad x => x
  | .node x _ => x
mutual
def Tr.sz : Tr → Nat
  | .bad _ => 1
  | .node _ ks => 1 + Trs.sz ks
def Trs.sz : List Tr → Nat
  | [] => 0
  | k :: ks => k.sz + Trs.sz ks
end
mutual
def Tr.ok : Tr → Prop
  | .bad x => Bad x
  | .node x ks => Good x (ks.map Tr.d) ∧ Trs.ok ks
def Trs.ok : List Tr → Prop
  | [] => True
  | k :: ks => k.ok ∧ Trs.ok ks
end
mutual
/-- something bad within, or more than g levels -/
def Tr.doom : Tr → Nat → Bool
  | .bad _, _ => true
  | .node _ _, 0 => true
  | .node _ ks, g + 1 => Trs.doom ks g
def Trs.doom : List Tr → Nat → Bool
  | [], _ => false
  | k :: ks, g => k.doom g || Trs.doom ks g
end
theorem Trs.ok_mem : ∀ {ks : List Tr}, Trs.ok ks → ∀ k ∈ ks, k.ok
  | _ :: _, h, _, .head _ => h.1
  | _ :: _, h, _, .tail _ m => Trs.ok_mem h.2 _ m
theorem Trs.len : ∀ ks : List Tr, ks.length ≤ Trs.sz ks
  | [] => Nat.le_refl _
  | k :: ks => by
    have := Trs.len ks
    have : 1 ≤ k.sz := by cases k <;> simp [Tr.sz]
    simp only [List.length_cons, Trs.sz]
    omega
abbrev lin (p : Tr × Nat) : W := it p.1.d (p.2 : Int)
def tot : List (Tr × Nat) → Nat
  | [] => 0
  | p :: L => p.1.sz + tot L
theorem tot_app : ∀ (L M : List (Tr × Nat)), tot (L ++ M) = tot L + tot M
  | [], _ => by simp [tot]
  | p :: L, M => by simp only [List.cons_append, tot, tot_app L M]; omega
theorem tot_kids : ∀ (ks : List Tr) (d : Nat), tot (ks.map fun k => (k, d)) = Trs.sz ks
  | [], _ => rfl
  | k :: ks, d => by simp only [List.map_cons, tot, Trs.sz, tot_kids ks d]
theorem tot_len : ∀ L : List (Tr × Nat), L.length ≤ tot L
  | [] => Nat.le_refl _
  | p :: L => by
    have := tot_len L
    have : 1 ≤ p.1.sz := by cases p.1 <;> simp [Tr.sz]
    simp only [List.length_cons, tot]
    omega
def dooms : List (Tr × Nat) → Bool
  | [] => false
  | p :: L => p.1.doom (21 - p.2) || dooms L
theorem dooms_app : ∀ (L M : List (Tr × Nat)), dooms (L ++ M) = (dooms L || dooms M)
  | [], _ => by simp [dooms]
  | p :: L, M => by simp only [List.cons_append, dooms, dooms_app L M, Bool.or_assoc]
theorem dooms_kids : ∀ (ks : List Tr) (d : Nat), dooms (ks.map fun k => (k, d)) = Trs.doom ks (21 - d)
  | [], _ => rfl
  | k :: ks, d => by simp only [List.map_cons, dooms, Trs.doom, dooms_kids ks d]
theorem ie_test (ws : List W) (v a b p n : Option W) (m : Int) : test_is_expr_1 (frame v a b p n m) [.lst ws] = .ok (!ws.isEmpty) [.lst ws] := by
  cases ws <;> rfl
theorem snoc_of {α : Type} : ∀ {L : List α}, L ≠ [] → ∃ M x, L = M ++ [x]
  | [], h => absurd rfl h
  | [x], _ => ⟨[], x, rfl⟩
  | x :: y :: L, _ => by
    obtain ⟨M, z, e⟩ := snoc_of (L := y :: L) (by simp)
    exact ⟨x :: M, z, by rw [e]; rfl⟩
theorem ie_loop : ∀ (fuel : Nat) (L : List (Tr × Nat)) (m : Int) (v a b p n : Option W), (∀ q ∈ L, q.1.ok ∧ 1 ≤ q.2 ∧ q.2 ≤ 21) → m + tot L ≤ 20000 → tot L < fuel → 0 ≤ m →
    (dooms L = true ∧ ∃ S', whL test_is_expr_1 body_is_expr_1 fuel (frame v a b p n m) [.lst (L.map lin)] = .ok (.rt (okb false)) S') ∨
    (dooms L = false ∧ ∃ δ' S', whL test_is_expr_1 body_is_expr_1 fuel (frame v a b p n m) [.lst (L.map lin)] = .ok (.nx δ') S')
  | 0, _, _, _, _, _, _, _, _, _, h, _ => absurd h (by omega)
  | fuel + 1, L, m, v, a, b, p, n, ho, hm, hf, h0 => by
    by_cases hL : L = []
    · subst hL
      exact .inr ⟨rfl, _, _, wh_end (ie_test _ _ _ _ _ _ _)⟩
    obtain ⟨M, ⟨T, d⟩, rfl⟩ := snoc_of hL
    have ht : test_is_expr_1 (frame v a b p n m) [.lst ((M ++ [(T, d)]).map lin)] = .ok true [.lst ((M ++ [(T, d)]).map lin)] := by
      rw [ie_test]
      simp
    have hb := ie_body (M.map lin) T.d (d : Int) m v a b p n
    have eM : (M ++ [(T, d)]).map lin = M.map lin ++ [it T.d (d : Int)] := by simp [lin]
    rw [eM] at ht ⊢
    obtain ⟨hT, h1, h21⟩ := ho (T, d) (by simp)
    have hsz : 1 ≤ T.sz := by cases T <;> simp [Tr.sz]
    rw [tot_app] at hm hf
    simp only [tot] at hm hf
    rw [dooms_app]
    simp only [dooms, Bool.or_false]
    by_cases hd : d = 21
    · subst hd
      rw [if_pos (by omega)] at hb
      refine .inl ⟨?_, _, wh_rt ht hb⟩
      cases T <;> simp [Tr.doom]
    rw [if_neg (by omega)] at hb
    cases T with
    | bad x =>
      have hT : Bad x := by simpa only [Tr.ok] using hT
      refine .inl ⟨by simp [Tr.doom], _, wh_rt ht (hb.trans (hT _ _ _ _ _ _))⟩
    | node x ks =>
      simp only [Tr.ok] at hT
      simp only [Tr.sz] at hm hf
      have hM := tot_len M
      have hk := Trs.len ks
      have hg := hT.1 (M.map lin) (d : Int) (m + 1) v p n (by simp only [List.length_map]; omega)
      have e2 : M.map lin ++ (ks.map Tr.d).map (fun k => it k ((d : Int) + 1)) = (M ++ ks.map fun k => (k, d + 1)).map lin := by
        simp only [List.map_append, List.map_map]
        rfl
      rw [e2] at hg
      rw [wh_nx ht (hb.trans hg)]
      have hd2 : (M ++ ks.map fun k => (k, d + 1)) = M ++ ks.map fun k => (k, d + 1) := rfl
      have ed : dooms (M ++ ks.map fun k => (k, d + 1)) = (dooms M || (Tr.node x ks).doom (21 - d)) := by
        rw [dooms_app, dooms_kids]
        obtain ⟨g, hg⟩ : ∃ g, 21 - d = g + 1 := ⟨20 - d, by omega⟩
        rw [hg, show 21 - (d + 1) = g by omega]
        simp only [Tr.doom]
      rw [← ed]
      refine ie_loop fuel _ (m + 1) v _ _ p n (fun q hq => ?_) (by rw [tot_app, tot_kids]; omega) (by rw [tot_app, tot_kids]; omega) (by omega)
      rcases List.mem_append.mp hq with hq | hq
      · exact ho q (by simp [hq])
      · obtain ⟨k, hk, rfl⟩ := List.mem_map.mp hq
        exact ⟨Trs.ok_mem hT.2 k hk, by omega, by omega⟩
/-- is_expr of what is walked -/
theorem is_expr_tr (T : Tr) (h : T.ok) (hs : T.sz ≤ 20000) (S : Sto) : F_is_expr [.d T.d] S = .ok (okb (!T.doom 20)) S := by
  have hl := ie_loop 100000 [(T, 1)] 0 (some (.d T.d)) none none none none (by simp [h]) (by simp [tot]; omega) (by simp [tot]; omega) (by omega)
  simp only [dooms, Bool.or_false, show 21 - 1 = 20 from rfl] at hl
  unfold F_is_expr
  refine pure_ex (ds := [T.d]) rfl ?_
  have hh : b_is_expr ([W.d T.d].map some ++ List.replicate (7 - 1) none) [] = seqM (whL test_is_expr_1 body_is_expr_1 100000) st_is_expr_6 (frame (some (.d T.d)) none none none none 0) [.lst ([(T, 1)].map lin)] := by
    unfold b_is_expr
    exact seq_nx rfl
  rcases hl with ⟨hd, S', e⟩ | ⟨hd, δ', S', e⟩
  · refine ⟨S', run_rt rfl ?_⟩
    rw [hh, seq_rt e, hd]
    rfl
  · refine ⟨S', run_rt rfl ?_⟩
    rw [hh, seq_nx e, hd]
    rfl
end DL.k02
namespace DL.k02
open PySem PySem.Spec PyProof.Rows L2 DL

def Ex.tr : Ex → Tr
  | .atom => .node (s "atom") [] | .x => .node (s "x") [] | .y => .node (s "y") [] | .zz => .node (s "zz") []
  | .get => .node (Ex.toD .get) [] | .rec0 => .node (Ex.toD .rec0) []
  | .rec2 a b => .node (Ex.toD (.rec2 a b)) [a.tr, b.tr]
  | .field a => .node (Ex.toD (.field a)) [a.tr]
  | .wth b a => .node (Ex.toD (.wth b a)) [b.tr, a.tr]
  | .wout a => .node (Ex.toD (.wout a)) [a.tr]
  | .has b a c => .node (Ex.toD (.has b a c)) [b.tr, a.tr, c.tr]
  | .tag a => .node (Ex.toD (.tag a)) [a.tr]
  | .let_ b a => .node (Ex.toD (.let_ b a)) [b.tr, a.tr]
  | .call b a => .node (Ex.toD (.call b a)) [b.tr, a.tr]
  | .ask a => .node (Ex.toD (.ask a)) [a.tr]
  | .rais a => .node (Ex.toD (.rais a)) [a.tr]
  | .case b a c => .node (Ex.toD (.case b a c)) [b.tr, a.tr, c.tr]
  | .caseZ b a c d => .node (Ex.toD (.caseZ b a c d)) [b.tr, a.tr, c.tr, d.tr]
  | .pick b c a => .node (Ex.toD (.pick b c a)) [b.tr, c.tr, a.tr]
  | .pickE b c a d => .node (Ex.toD (.pickE b c a d)) [b.tr, c.tr, a.tr, d.tr]
  | .try_ a b => .node (Ex.toD (.try_ a b)) [a.tr, b.tr]
  | .either b a c => .node (Ex.toD (.either b a c)) [b.tr, a.tr, c.tr]
  | .put a => .node (Ex.toD (.put a)) [a.tr]
  | .tagA a => .node (Ex.toD (.tagA a)) [a.tr]
  | .tagB a => .node (Ex.toD (.tagB a)) [a.tr]
  | .woutA a => .node (Ex.toD (.woutA a)) [a.tr]
theorem Ex.tr_eq (e : Ex) : e.tr = .node e.toD (e.kids.map Ex.tr) := by cases e <;> rfl
theorem Ex.tr_d (e : Ex) : e.tr.d = e.toD := by rw [Ex.tr_eq]; rfl
theorem Ex.kid_lt {e k : Ex} (h : k ∈ e.kids) : sizeOf k < sizeOf e := by
  cases e <;> simp [Ex.kids, Ex.strict, Ex.later] at h ⊢ <;> grind
theorem Ex.ind {P : Ex → Prop} (h : ∀ e, (∀ k ∈ e.kids, P k) → P e) (e : Ex) : P e := h e fun k hk => Ex.ind h k
termination_by sizeOf e
decreasing_by exact Ex.kid_lt hk
theorem Ex.good (e : Ex) : Good e.toD (e.kids.map Ex.toD) := by
  cases hs : e.simple with
  | true =>
    cases e <;> first | (cases hs; done) | exact good_str _ (.inl rfl) | exact good_str _ (.inr fun S => by kernel_rfl)
  | false =>
    have h : ∃ z d ds, e.toD = .tuple (.str z :: d :: ds) := by cases e <;> first | (cases hs; done) | exact ⟨_, _, _, rfl⟩
    obtain ⟨z, d, ds, hx⟩ := h
    have := good_of (a := e.strict.map Ex.toD) (b := e.later.map fun p => (nmD p.1, p.2.toD)) (.inl hx) (by simp) (form_ok e hs) (strict_ok e hs) (fun S => by rw [later_ok e hs, List.map_map]; rfl)
    rw [List.map_map] at this
    unfold Ex.kids
    rw [List.map_append, List.map_map]
    exact this
theorem Ex.goodL (e : Ex) {ds : List D} (h : e.toD = t ds) : Good (.list ds) (e.kids.map Ex.toD) := by
  have h2 : ∃ z d es, ds = .str z :: d :: es := by cases e <;> cases h <;> exact ⟨_, _, _, rfl⟩
  obtain ⟨z, d, es, rfl⟩ := h2
  have := good_of (a := e.strict.map Ex.toD) (b := e.later.map fun p => (nmD p.1, p.2.toD)) (.inr rfl) (by simp) (form_okL e _ h) (strict_okL e _ h) (fun S => by rw [later_okL e _ h, List.map_map]; rfl)
  rw [List.map_map] at this
  unfold Ex.kids
  rw [List.map_append, List.map_map]
  exact this
theorem Trs.ok_of : ∀ {ks : List Tr}, (∀ k ∈ ks, k.ok) → Trs.ok ks
  | [], _ => trivial
  | k :: ks, h => ⟨h k (by simp), Trs.ok_of fun q hq => h q (by simp [hq])⟩
theorem tr_ds (ks : List Ex) : (ks.map Ex.tr).map Tr.d = ks.map Ex.toD := by
  rw [List.map_map]
  exact List.map_congr_left fun k _ => Ex.tr_d k
theorem Ex.tr_ok (e : Ex) : e.tr.ok := by
  refine Ex.ind (P := fun e => e.tr.ok) (fun e ih => ?_) e
  rw [Ex.tr_eq]
  simp only [Tr.ok]
  refine ⟨?_, Trs.ok_of fun k hk => ?_⟩
  · rw [tr_ds]; exact e.good
  · obtain ⟨q, hq, rfl⟩ := List.mem_map.mp hk
    exact ih q hq
mutual
theorem Tr.doom_mono : ∀ (T : Tr) (g : Nat), T.doom g = false → T.doom (g + 1) = false
  | .bad _, _, h => by simp [Tr.doom] at h
  | .node _ _, 0, h => by simp [Tr.doom] at h
  | .node _ ks, g + 1, h => by
    simp only [Tr.doom] at h ⊢
    exact Trs.doom_mono ks g h
theorem Trs.doom_mono : ∀ (ks : List Tr) (g : Nat), Trs.doom ks g = false → Trs.doom ks (g + 1) = false
  | [], _, _ => rfl
  | k :: ks, g, h => by
    simp only [Trs.doom, Bool.or_eq_false_iff] at h ⊢
    exact ⟨Tr.doom_mono k g h.1, Trs.doom_mono ks g h.2⟩
end
theorem Tr.doom_le {T : Tr} {g g' : Nat} (h : T.doom g = false) (hg : g ≤ g') : T.doom g' = false := by
  obtain ⟨k, rfl⟩ := Nat.le.dest hg
  induction k with
  | zero => exact h
  | succ k ih => exact Tr.doom_mono _ _ (ih (by omega))
/-- an expression of k levels above a leaf -/
structure Fit (k : Nat) (e : Ex) : Prop where
  sz : e.tr.sz ≤ 4 * k + 1
  doom : e.tr.doom (k + 1) = false
  dep : e.toD.depth ≤ 3 * k + 3
  nd : nd e.toD = true
theorem Fit.mono {k k' : Nat} {e : Ex} (h : Fit k e) (hk : k ≤ k') : Fit k' e := ⟨by have := h.sz; omega, Tr.doom_le h.doom (by omega), by have := h.dep; omega, h.nd⟩
end DL.k02
namespace DL.k02
open PySem PySem.Spec PyProof.Rows L2 DL

/-! ### all_parts -/
def pre : Nat → Ex → Nat → List (Ex × Nat)
  | 0, _, _ => []
  | g + 1, e, d => (e, d) :: e.kids.flatMap fun k => pre g k (d + 1)
abbrev frameP (v a b c p n : Option W) : Env := [v, some (.r 0), some (.r 1), a, b, c, p, n]
abbrev row (q : Ex × Nat) : D := t [q.1.toD, .int (q.2 : Int)]
theorem simple_ok (e : Ex) (S : Sto) : F_is_simple [.d e.toD] S = .ok (okb e.simple) S := by cases e <;> kernel_rfl
theorem ap_body (F rest : List W) (x : D) (d : Int) (v a b c p n : Option W) (hF : F.length < 1000000) :
    body_all_parts_1 (frameP v a b c p n) [.lst F, .lst (rest ++ [it x d])] = st_all_parts_4 (frameP v (some (.d x)) (some (.d (.int d))) c p n) [.lst (F ++ [it x d]), .lst rest] := by
  unfold body_all_parts_1
  have hp : metM (varM 2) nilM chkL popM (frameP v a b c p n) [.lst F, .lst (rest ++ [it x d])] = .ok (it x d) [.lst F, .lst rest] := met_ok (n := 1) rfl rfl rfl (pop_snoc rfl)
  refine Eq.trans (seq_nx (δ' := frameP v (some (.d x)) (some (.d (.int d))) c p n) (S' := [.lst F, .lst rest]) ?_) ?_
  · unfold st_all_parts_2 asgM
    rw [bd_ok hp]
    rfl
  refine seq_nx ?_
  unfold st_all_parts_3
  refine expr_ok (w := .d .none) (met_ok (n := 0) (ws := F) rfl rfl (cons_ok (x := it x d) (S1 := [.lst F, .lst rest]) rfl rfl) ?_)
  rw [append_ok (n := 0) (ws := F) rfl (by have := small2; omega)]
  rfl
theorem ap_simple (e : Ex) (hs : e.simple = true) (F rest : List W) (d : Int) (v c p n : Option W) :
    st_all_parts_4 (frameP v (some (.d e.toD)) (some (.d (.int d))) c p n) [.lst F, .lst rest] = .ok (.nx (frameP v (some (.d e.toD)) (some (.d (.int d))) c p n)) [.lst F, .lst rest] := by
  unfold st_all_parts_4
  rw [if_f (S' := [.lst F, .lst rest]) (by
    have h := simple_ok e [.lst F, .lst rest]
    rw [hs] at h
    simp [andT, notT, valT, calM, consM, nilM, bd, pr, varM, noEx, h, okb, boolOf])]
  rfl
theorem later_items (b : List (D × D)) (v h d c p n : Option W) (S : Sto) : compL [7, 6] (tupG 2 (consG (setG 7) (consG (setG 6) nilG))) yesT (varM 6) ((b.map fun p => t [p.1, p.2]).map .d) (frameP v h d c p n) S = .ok ((b.map (·.2)).map .d) S := by
  have := comp_all (own := [7, 6]) (g := tupG 2 (consG (setG 7) (consG (setG 6) nilG))) (e := varM 6) (δ := frameP v h d c p n) (S := S)
    (fun w => match w with | .d (.tuple [_, k]) => .d k | w => w) (ws := (b.map fun p => t [p.1, p.2]).map .d) (fun w hw => by
      obtain ⟨k, hk, rfl⟩ := List.mem_map.mp hw
      obtain ⟨q, _, rfl⟩ := List.mem_map.mp hk
      exact ⟨_, rfl, rfl⟩)
  rw [this]
  simp only [List.map_map]
  rfl
theorem lc_ap (a : List D) (d : Int) (v h c p n : Option W) (S : Sto) : compL [6] (setG 6) yesT (fun δ => bd ((consM (varM 6) (consM (binM (varM 4) (cM (.int 1)) addM) nilM)) δ) tupM) (a.map .d) (frameP v h (some (.d (.int d))) c p n) S =
    .ok ((a.map fun k => PyData.tuple [k, .int (d + 1)]).map .d) S := by
  have := comp_all (own := [6]) (g := setG 6) (e := fun δ => bd ((consM (varM 6) (consM (binM (varM 4) (cM (.int 1)) addM) nilM)) δ) tupM) (δ := frameP v h (some (.d (.int d))) c p n) (S := S)
    (fun w => match w with | .d k => it k (d + 1) | w => w) (ws := a.map .d) (fun w hw => by
      obtain ⟨k, _, rfl⟩ := List.mem_map.mp hw
      exact ⟨_, rfl, rfl⟩)
  rw [this, List.map_map, List.map_map]
  rfl
theorem ap_node (e : Ex) (hs : e.simple = false) (F rest : List W) (d : Int) (hd : d ≤ 20) (v c p n : Option W) (hl : rest.length + e.kids.length ≤ 1000000) :
    ∃ c', st_all_parts_4 (frameP v (some (.d e.toD)) (some (.d (.int d))) c p n) [.lst F, .lst rest] = .ok (.nx (frameP v (some (.d e.toD)) (some (.d (.int d))) c' p n)) [.lst F, .lst (rest ++ e.kids.reverse.map fun k => it k.toD (d + 1))] := by
  refine ⟨some (.d (.list (e.kids.map Ex.toD))), ?_⟩
  unfold st_all_parts_4
  rw [if_t (S' := [.lst F, .lst rest]) (by
    have h := simple_ok e [.lst F, .lst rest]
    rw [hs] at h
    simp [andT, notT, valT, binM, cM, calM, consM, nilM, bd, pr, varM, noEx, h, okb, boolOf, leM, hd])]
  have hk : e.strict.length + e.later.length = e.kids.length := by unfold Ex.kids; simp
  refine Eq.trans (seq_nx (asg_ok (w := .d (.list (e.kids.map Ex.toD))) (S' := [.lst F, .lst rest]) ?_)) ?_
  · rw [bd_ok (star_ok (k := false) (x := .d (.tuple (e.strict.map Ex.toD))) (xs := (e.strict.map Ex.toD).map .d) (S1 := [.lst F, .lst rest]) (ys := (e.later.map fun q => q.2.toD).map .d) (S2 := [.lst F, .lst rest])
      (cal_ok (ws := [.d e.toD]) rfl (noEx_ok (strict_ok e hs _))) rfl ?_)]
    · have : (e.strict.map Ex.toD).map W.d ++ (e.later.map fun q => q.2.toD).map W.d = (e.kids.map Ex.toD).map .d := by
        unfold Ex.kids
        simp only [List.map_append, List.map_map]
        rfl
      rw [this]
      exact small_lst (by rw [List.length_map]; omega)
    · refine (star_ok (k := true) (x := .d (.list (e.later.map fun q => q.2.toD))) (xs := (e.later.map fun q => q.2.toD).map .d) (ys := []) (S1 := [.lst F, .lst rest]) ?_ rfl rfl).trans (by rw [List.append_nil])
      unfold lcM
      have hli := later_items (e.later.map fun p => (nmD p.1, p.2.toD)) v (some (.d e.toD)) (some (.d (.int d))) c p n [.lst F, .lst rest]
      simp only [List.map_map] at hli
      rw [bd_ok (show (bd ((calM (consM (varM 3) nilM) fun ws => noEx (F_later_parts ws)) (frameP v (some (.d e.toD)) (some (.d (.int d))) c p n)) iterM) [.lst F, .lst rest] = .ok ((e.later.map laD).map .d) [.lst F, .lst rest] by
        rw [bd_ok (cal_ok (ws := [.d e.toD]) rfl (noEx_ok (later_ok e hs _)))]; rfl)]
      rw [show (e.later.map laD).map W.d = e.later.map (W.d ∘ (fun p => t [p.1, p.2]) ∘ fun p : Option Str × Ex => (nmD p.1, p.2.toD)) by rw [List.map_map]; rfl, bd_ok hli]
      rw [show e.later.map (W.d ∘ (fun x => x.2) ∘ fun p : Option Str × Ex => (nmD p.1, p.2.toD)) = (e.later.map fun q => q.2.toD).map .d by rw [List.map_map]; rfl]
      exact small_lst (by rw [List.length_map]; omega)
  · refine expr_ok (w := .d .none) (met_ok (n := 1) (ws := rest) rfl rfl (cons_ok (S1 := [.lst F, .lst rest]) (x := .d (.list ((e.kids.map Ex.toD).reverse.map fun k => PyData.tuple [k, .int (d + 1)]))) ?_ rfl) ?_)
    · unfold lcM
      refine Eq.trans (bd_ok (a := (e.kids.map Ex.toD).reverse.map W.d) (S' := [.lst F, .lst rest]) ?_) ?_
      · rfl
      refine Eq.trans (bd_ok (lc_ap _ d v _ _ p n _)) ?_
      exact small_lst (by simp only [List.length_map, List.length_reverse]; omega)
    · rw [extend_ok (n := 1) (ws := rest) rfl seq_l (by have := small2; simp only [List.length_map, List.length_reverse]; omega)]
      simp only [List.map_reverse, List.map_map]
      rfl
abbrev linE (q : Ex × Nat) : W := it q.1.toD (q.2 : Int)
def totE : List (Ex × Nat) → Nat
  | [] => 0
  | q :: L => q.1.tr.sz + totE L
theorem totE_app : ∀ (L M : List (Ex × Nat)), totE (L ++ M) = totE L + totE M
  | [], _ => by simp [totE]
  | p :: L, M => by simp only [List.cons_append, totE, totE_app L M]; omega
theorem totE_kids : ∀ (ks : List Ex) (d : Nat), totE (ks.map fun k => (k, d)) = Trs.sz (ks.map Ex.tr)
  | [], _ => rfl
  | k :: ks, d => by simp only [List.map_cons, totE, Trs.sz, totE_kids ks d]
theorem totE_rev (ks : List Ex) (d : Nat) : totE (ks.reverse.map fun k => (k, d)) = Trs.sz (ks.map Ex.tr) := by
  induction ks with
  | nil => rfl
  | cons k ks ih => simp only [List.reverse_cons, List.map_append, totE_app, ih, List.map_cons, List.map_nil, totE, Trs.sz]; omega
theorem Ex.sz_eq (e : Ex) : e.tr.sz = 1 + Trs.sz (e.kids.map Ex.tr) := by rw [Ex.tr_eq]; simp only [Tr.sz]
theorem Ex.sz_pos (e : Ex) : 1 ≤ e.tr.sz := by rw [Ex.sz_eq]; omega
theorem totE_len : ∀ L : List (Ex × Nat), L.length ≤ totE L
  | [] => Nat.le_refl _
  | p :: L => by
    have := totE_len L
    have := p.1.sz_pos
    simp only [List.length_cons, totE]
    omega
theorem Trs.doom_mem : ∀ {ks : List Tr} {g : Nat}, Trs.doom ks g = false → ∀ k ∈ ks, k.doom g = false
  | _ :: _, _, h, _, .head _ => by simp only [Trs.doom, Bool.or_eq_false_iff] at h; exact h.1
  | _ :: _, _, h, _, .tail _ m => by simp only [Trs.doom, Bool.or_eq_false_iff] at h; exact Trs.doom_mem h.2 _ m
theorem Ex.doom_kid {e k : Ex} {g : Nat} (h : e.tr.doom (g + 1) = false) (hk : k ∈ e.kids) : k.tr.doom g = false := by
  rw [Ex.tr_eq] at h
  simp only [Tr.doom] at h
  exact Trs.doom_mem h _ (List.mem_map.mpr ⟨k, hk, rfl⟩)
theorem Ex.doom_0 {e : Ex} : e.tr.doom 0 = true := by rw [Ex.tr_eq]; simp only [Tr.doom]
def out (L : List (Ex × Nat)) : List (Ex × Nat) := L.reverse.flatMap fun q => pre (21 - q.2) q.1 q.2
theorem ap_test (F ws : List W) (v a b c p n : Option W) : test_all_parts_1 (frameP v a b c p n) [.lst F, .lst ws] = .ok (!ws.isEmpty) [.lst F, .lst ws] := by
  cases ws <;> rfl
theorem simple_kids {e : Ex} (h : e.simple = true) : e.kids = [] := by cases e <;> first | (cases h; done) | rfl
theorem ap_loop : ∀ (fuel : Nat) (L : List (Ex × Nat)) (F : List W) (v a b c p n : Option W), (∀ q ∈ L, q.1.tr.doom (21 - q.2) = false) → F.length + totE L ≤ 20000 → totE L < fuel →
    ∃ δ', whL test_all_parts_1 body_all_parts_1 fuel (frameP v a b c p n) [.lst F, .lst (L.map linE)] = .ok (.nx δ') [.lst (F ++ ((out L).map row).map .d), .lst []] ∧ ∃ a' b' c', δ' = frameP v a' b' c' p n
  | 0, _, _, _, _, _, _, _, _, _, _, h => absurd h (by omega)
  | fuel + 1, L, F, v, a, b, c, p, n, ho, hm, hf => by
    by_cases hL : L = []
    · subst hL
      refine ⟨_, (wh_end (ap_test _ _ _ _ _ _ _ _)).trans ?_, a, b, c, rfl⟩
      simp [out]
    obtain ⟨M, ⟨e, d⟩, rfl⟩ := snoc_of hL
    have ht : test_all_parts_1 (frameP v a b c p n) [.lst F, .lst ((M ++ [(e, d)]).map linE)] = .ok true [.lst F, .lst ((M ++ [(e, d)]).map linE)] := by
      rw [ap_test]
      simp
    rw [totE_app] at hm hf
    simp only [totE] at hm hf
    have hM := totE_len M
    have hb := ap_body F (M.map linE) e.toD (d : Int) v a b c p n (by omega)
    have eM : (M ++ [(e, d)]).map linE = M.map linE ++ [it e.toD (d : Int)] := by simp [linE]
    rw [eM] at ht ⊢
    have hT := ho (e, d) (by simp)
    have hz := e.sz_eq
    have hd : d ≤ 20 := by
      refine Nat.le_of_not_lt fun z => ?_
      rw [show 21 - d = 0 by omega, Ex.doom_0] at hT
      cases hT
    obtain ⟨g, hg⟩ : ∃ g, 21 - d = g + 1 := ⟨20 - d, by omega⟩
    have hk := Trs.len (e.kids.map Ex.tr)
    rw [List.length_map] at hk
    have step : ∃ c', st_all_parts_4 (frameP v (some (.d e.toD)) (some (.d (.int (d : Int)))) c p n) [.lst (F ++ [it e.toD (d : Int)]), .lst (M.map linE)] = .ok (.nx (frameP v (some (.d e.toD)) (some (.d (.int (d : Int)))) c' p n)) [.lst (F ++ [it e.toD (d : Int)]), .lst ((M ++ e.kids.reverse.map fun k => (k, d + 1)).map linE)] := by
      cases hs : e.simple with
      | true =>
        refine ⟨c, (ap_simple e hs _ _ _ _ _ _ _).trans ?_⟩
        rw [simple_kids hs]
        simp
      | false =>
        obtain ⟨c', h⟩ := ap_node e hs (F ++ [it e.toD (d : Int)]) (M.map linE) (d : Int) (by omega) v c p n (by rw [List.length_map]; omega)
        refine ⟨c', h.trans ?_⟩
        simp only [List.map_append, List.map_map]
        rfl
    obtain ⟨c', hst⟩ := step
    rw [wh_nx ht (hb.trans hst)]
    obtain ⟨δ', h1, h2⟩ := ap_loop fuel (M ++ e.kids.reverse.map fun k => (k, d + 1)) (F ++ [it e.toD (d : Int)]) v _ _ c' p n (fun q hq => by
      rcases List.mem_append.mp hq with hq | hq
      · exact ho q (by simp [hq])
      · obtain ⟨k, hk, rfl⟩ := List.mem_map.mp hq
        show k.tr.doom (21 - (d + 1)) = false
        rw [show 21 - (d + 1) = g by omega]
        rw [hg] at hT
        exact Ex.doom_kid hT (List.mem_reverse.mp hk)) (by rw [totE_app, totE_rev, List.length_append, List.length_singleton]; omega) (by rw [totE_app, totE_rev]; omega)
    refine ⟨δ', h1.trans ?_, h2⟩
    have eo : out (M ++ [(e, d)]) = (e, d) :: out (M ++ e.kids.reverse.map fun k => (k, d + 1)) := by
      unfold out
      simp only [List.reverse_append, List.reverse_cons, List.reverse_nil, List.nil_append, List.flatMap_append, List.flatMap_cons, List.flatMap_nil, List.append_nil]
      rw [hg]
      simp only [pre, ← List.map_reverse, List.reverse_reverse, List.flatMap_map, show 21 - (d + 1) = g by omega, List.cons_append]
    rw [eo]
    simp [row]
theorem all_parts_ok (e : Ex) (h : e.tr.doom 20 = false) (hs : e.tr.sz ≤ 20000) (S : Sto) : F_all_parts [.d e.toD] S = .ok (.d (.tuple ((pre 20 e 1).map row))) S := by
  obtain ⟨δ', h1, a', b', c', rfl⟩ := ap_loop 100000 [(e, 1)] [] (some (.d e.toD)) none none none none none (by simp [h]) (by simp [totE]; omega) (by simp [totE]; omega)
  unfold F_all_parts
  refine pure_ex (ds := [e.toD]) rfl ⟨[.lst (((pre 20 e 1).map row).map .d), .lst []], run_rt rfl ?_⟩
  unfold b_all_parts
  refine Eq.trans (seq_nx (δ' := frameP (some (.d e.toD)) none none none none none) (S' := [.lst [], .lst ([(e, 1)].map linE)]) rfl) ?_
  rw [seq_nx h1]
  have eo : out [(e, 1)] = pre 20 e 1 := by simp [out]
  rw [eo, List.nil_append]
  unfold st_all_parts_5
  exact ret_ok (cal_ok (ws := [.r 0]) rfl (tuple_r rfl))
end DL.k02
namespace DL.k02
open PySem PySem.Spec PyProof.Rows L2 DL

/-! ### the law's own parts and walk -/
theorem lfirst_ok (e : Ex) (h : e.simple = false) (S : Sto) : F__law_first_ones [.d e.toD] S = .ok (.d (.list (e.strict.map Ex.toD))) S := by
  cases e <;> first | (cases h; done) | kernel_rfl
theorem llater_ok (e : Ex) (h : e.simple = false) (S : Sto) : F__law_later [.d e.toD] S = .ok (.d (.list (e.later.map laD))) S := by
  cases e
  case pickE b c a d => cases d <;> kernel_rfl
  all_goals first | (cases h; done) | kernel_rfl
abbrev szs (ks : List Ex) : Nat := Trs.sz (ks.map Ex.tr)
theorem szs_app : ∀ a b : List Ex, szs (a ++ b) = szs a + szs b
  | [], b => by simp [szs, Trs.sz]
  | x :: a, b => by
    have := szs_app a b
    simp only [szs, List.cons_append, List.map_cons, Trs.sz] at this ⊢
    omega
def addN (kn : List Str) : Option Str → List Str
  | none => kn
  | some z => kn ++ [z]
abbrev Row := Ex × Nat × List Str
abbrev rowD (r : Row) : D := t [r.1.toD, .int (r.2.1 : Int), .tuple (r.2.2.map s)]
def wk : Nat → Ex → Nat → List Str → List Row
  | 0, _, _, _ => []
  | g + 1, e, d, kn => (e, d, kn) :: ((e.strict.flatMap fun k => wk g k (d + 1) kn) ++ e.later.flatMap fun q => wk g q.2 (d + 1) (addN kn q.1))
theorem wk_pre : ∀ (g : Nat) (e : Ex) (d : Nat) (kn : List Str), (wk g e d kn).map (fun r => (r.1, r.2.1)) = pre g e d
  | 0, _, _, _ => rfl
  | g + 1, e, d, kn => by
    simp only [wk, pre, List.map_cons, List.map_append, List.map_flatMap, wk_pre g]
    unfold Ex.kids
    rw [List.flatMap_append, List.flatMap_map]
theorem flat_len {α β : Type} (f : α → List β) (m : α → Nat) : ∀ (l : List α), (∀ x ∈ l, (f x).length ≤ m x) → (l.flatMap f).length ≤ (l.map m).sum
  | [], _ => by simp
  | x :: l, h => by
    have := h x (by simp)
    have := flat_len f m l fun y hy => h y (by simp [hy])
    simp only [List.flatMap_cons, List.length_append, List.map_cons, List.sum_cons]
    omega
theorem szs_sum : ∀ ks : List Ex, szs ks = (ks.map fun k => k.tr.sz).sum
  | [] => rfl
  | k :: ks => by
    have := szs_sum ks
    simp only [szs, List.map_cons, Trs.sz, List.sum_cons] at this ⊢
    omega
theorem wk_len : ∀ (g : Nat) (e : Ex) (d : Nat) (kn : List Str), (wk g e d kn).length ≤ e.tr.sz
  | 0, e, _, _ => by simp [wk]
  | g + 1, e, d, kn => by
    have h1 := flat_len (fun k => wk g k (d + 1) kn) (fun k => k.tr.sz) e.strict fun k _ => wk_len g k _ _
    have h2 := flat_len (fun q : Option Str × Ex => wk g q.2 (d + 1) (addN kn q.1)) (fun q => q.2.tr.sz) e.later fun q _ => wk_len g q.2 _ _
    have h3 := szs_app e.strict (e.later.map (·.2))
    rw [szs_sum e.strict, szs_sum (e.later.map (·.2)), List.map_map] at h3
    rw [e.sz_eq]
    show _ ≤ 1 + szs e.kids
    unfold Ex.kids
    rw [h3]
    simp only [wk, List.length_cons, List.length_append]
    have : (e.later.map ((fun k : Ex => k.tr.sz) ∘ fun x => x.2)).sum = (e.later.map fun q => q.2.tr.sz).sum := rfl
    omega
abbrev frameW (x : D) (d : Nat) (kn : List Str) (f p n : Option W) : Env := [some (.d x), some (.d (.int (d : Int))), some (.d (.tuple (kn.map s))), f, p, n]
abbrev rows (l : List Row) : List W := (l.map rowD).map .d
/-- the walk of a part -/
def Wok (R : List W → M W) (g : Nat) (k : Ex) (d : Nat) (kn : List Str) : Prop := ∀ S : Sto, R [.d k.toD, .d (.int ((d : Int))), .d (.tuple (kn.map s))] S = .ok (.d (.list ((wk g k d kn).map rowD))) S
theorem for1 {R : List W → M W} {g d : Nat} {kn : List Str} {x : D} : ∀ (ks : List Ex) (F : List W) (p n : Option W), (∀ k ∈ ks, Wok R g k (d + 1) kn) → F.length + szs ks ≤ 1000000 →
    ∃ p', forL (setG 4) (body__law_walk_1 R) ((ks.map Ex.toD).map .d) (frameW x d kn (some (.r 0)) p n) [.lst F] = .ok (.nx (frameW x d kn (some (.r 0)) p' n)) [.lst (F ++ rows (ks.flatMap fun k => wk g k (d + 1) kn))]
  | [], F, p, n, _, _ => ⟨p, by simp [forL, pr, rows]⟩
  | k :: ks, F, p, n, h, hl => by
    have hk := h k (by simp)
    have hz : szs (k :: ks) = k.tr.sz + szs ks := by simp only [szs, List.map_cons, Trs.sz]
    have hlen := wk_len g k (d + 1) kn
    have hb : body__law_walk_1 R (frameW x d kn (some (.r 0)) (some (.d k.toD)) n) [.lst F] = .ok (.nx (frameW x d kn (some (.r 0)) (some (.d k.toD)) n)) [.lst (F ++ rows (wk g k (d + 1) kn))] := by
      unfold body__law_walk_1 st__law_walk_2
      refine expr_ok (w := .d .none) (met_ok (n := 0) (ws := F) rfl rfl (cons_ok (x := .d (.list ((wk g k (d + 1) kn).map rowD))) (S1 := [.lst F]) (cal_ok (ws := [.d k.toD, .d (.int (((d + 1 : Nat) : Int))), .d (.tuple (kn.map s))]) (S' := [.lst F]) rfl (noEx_ok (hk _))) rfl) ?_)
      rw [extend_ok (n := 0) (ws := F) rfl seq_l (by have := small2; simp only [List.length_map]; omega)]
      rfl
    obtain ⟨p', ih⟩ := for1 (x := x) ks (F ++ rows (wk g k (d + 1) kn)) (some (.d k.toD)) n (fun q hq => h q (by simp [hq])) (by simp only [List.length_append, rows, List.length_map]; omega)
    refine ⟨p', ?_⟩
    simp only [List.map_cons, forL]
    rw [bd_ok (show setG 4 (.d k.toD) (frameW x d kn (some (.r 0)) p n) [.lst F] = .ok (frameW x d kn (some (.r 0)) (some (.d k.toD)) n) [.lst F] from rfl), bd_ok hb]
    refine ih.trans ?_
    simp only [rows, List.flatMap_cons, List.map_append, List.append_assoc]
theorem for2 {R : List W → M W} {g d : Nat} {kn : List Str} {x : D} (hkn : kn.length ≤ 1000) : ∀ (ks : List (Option Str × Ex)) (F : List W) (p n : Option W), (∀ q ∈ ks, Wok R g q.2 (d + 1) (addN kn q.1)) → F.length + szs (ks.map (·.2)) ≤ 1000000 →
    ∃ p' n', forL (tupG 2 (consG (setG 5) (consG (setG 4) nilG))) (body__law_walk_2 R) ((ks.map laD).map .d) (frameW x d kn (some (.r 0)) p n) [.lst F] = .ok (.nx (frameW x d kn (some (.r 0)) p' n')) [.lst (F ++ rows (ks.flatMap fun q => wk g q.2 (d + 1) (addN kn q.1)))]
  | [], F, p, n, _, _ => ⟨p, n, by simp [forL, pr, rows]⟩
  | (o, k) :: ks, F, p, n, h, hl => by
    have hk := h (o, k) (by simp)
    have hz : szs (((o, k) :: ks).map (·.2)) = k.tr.sz + szs (ks.map (·.2)) := by simp only [szs, List.map_cons, Trs.sz]
    have hlen := wk_len g k (d + 1) (addN kn o)
    have h3 : ifV (valT (binM (varM 5) (cM .none) isM)) (varM 2) (binM (varM 2) (fun δ => bd ((consM (varM 5) nilM) δ) tupM) addM) (frameW x d kn (some (.r 0)) (some (.d k.toD)) (some (.d (nmD o)))) [.lst F] = .ok (.d (.tuple ((addN kn o).map s))) [.lst F] := by
      cases o with
      | none => rfl
      | some z =>
        have e : addM (.d (.tuple (kn.map s))) (.d (.tuple [s z])) [.lst F] = .ok (.d (.tuple ((addN kn (some z)).map s))) [.lst F] := by
          unfold addM
          simp only [seq_t]
          refine (tup_ok (ds := kn.map s ++ [s z]) (by rw [← List.map_append]; exact allD_map _) (by have := small2; simp only [List.length_append, List.length_map, List.length_singleton, List.length_cons, List.length_nil]; omega)).trans ?_
          simp [addN]
        refine Eq.trans (bd_ok (a := false) (S' := [.lst F]) ?_) ?_
        · rfl
        rw [if_neg Bool.false_ne_true]
        refine bin_ok (x := .d (.tuple (kn.map s))) (y := .d (.tuple [s z])) (S1 := [.lst F]) (S2 := [.lst F]) ?_ ?_ e
        · rfl
        · rfl
    have hb : body__law_walk_2 R (frameW x d kn (some (.r 0)) (some (.d k.toD)) (some (.d (nmD o)))) [.lst F] = .ok (.nx (frameW x d kn (some (.r 0)) (some (.d k.toD)) (some (.d (nmD o))))) [.lst (F ++ rows (wk g k (d + 1) (addN kn o)))] := by
      unfold body__law_walk_2 st__law_walk_3
      refine expr_ok (w := .d .none) (met_ok (n := 0) (ws := F) rfl rfl (cons_ok (x := .d (.list ((wk g k (d + 1) (addN kn o)).map rowD))) (S1 := [.lst F]) (cal_ok (ws := [.d k.toD, .d (.int (((d + 1 : Nat) : Int))), .d (.tuple ((addN kn o).map s))]) (S' := [.lst F]) ?_ (noEx_ok (hk _))) rfl) ?_)
      · exact cons_ok (S1 := [.lst F]) rfl (cons_ok (S1 := [.lst F]) (x := .d (.int (((d + 1 : Nat) : Int)))) rfl (cons_ok (S1 := [.lst F]) h3 rfl))
      rw [extend_ok (n := 0) (ws := F) rfl seq_l (by have := small2; simp only [List.length_map]; omega)]
      rfl
    obtain ⟨p', n', ih⟩ := for2 (x := x) hkn ks (F ++ rows (wk g k (d + 1) (addN kn o))) (some (.d k.toD)) (some (.d (nmD o))) (fun q hq => h q (by simp [hq])) (by simp only [List.length_append, rows, List.length_map]; omega)
    refine ⟨p', n', ?_⟩
    simp only [List.map_cons, forL]
    rw [bd_ok (show tupG 2 (consG (setG 5) (consG (setG 4) nilG)) (.d (laD (o, k))) (frameW x d kn (some (.r 0)) p n) [.lst F] = .ok (frameW x d kn (some (.r 0)) (some (.d k.toD)) (some (.d (nmD o)))) [.lst F] from rfl), bd_ok hb]
    refine ih.trans ?_
    simp only [rows, List.flatMap_cons, List.map_append, List.append_assoc]
theorem walk_ok : ∀ (g : Nat) (e : Ex) (d : Nat) (kn : List Str), e.tr.doom g = false → e.tr.sz ≤ 20000 → kn.length + g ≤ 1000 → Wok (F__law_walk g) g e d kn
  | 0, e, _, _, h, _, _ => by rw [Ex.doom_0] at h; cases h
  | g + 1, e, d, kn, h, hs, hk => by
    intro S
    have hz := e.sz_eq
    have hzz : szs e.kids = szs e.strict + szs (e.later.map (·.2)) := szs_app _ _
    have ih : ∀ k ∈ e.kids, ∀ kn', kn'.length + g ≤ 1000 → Wok (F__law_walk g) g k (d + 1) kn' := fun k hm kn' hk' => by
      refine walk_ok g k (d + 1) kn' (Ex.doom_kid h hm) ?_ hk'
      have : k.tr.sz ≤ szs e.kids := by
        rw [szs_sum]
        have : ∀ (l : List Ex), k ∈ l → k.tr.sz ≤ (l.map fun k => k.tr.sz).sum := by
          intro l
          induction l with
          | nil => intro h; cases h
          | cons x l ihl =>
            intro hm
            simp only [List.map_cons, List.sum_cons]
            rcases List.mem_cons.mp hm with rfl | hm
            · omega
            · have := ihl hm; omega
        exact this _ hm
      simp only [szs] at this
      omega
    show pureM (runD 3 6 (b__law_walk (F__law_walk g))) _ S = _
    refine pure_ex (ds := [e.toD, .int (d : Int), .tuple (kn.map s)]) rfl ?_
    have e1 : (st__law_walk_1 (F__law_walk g)) (frameW e.toD d kn none none none) [] = .ok (.nx (frameW e.toD d kn (some (.r 0)) none none)) [.lst (rows [(e, d, kn)])] := rfl
    have e5 : ∀ (l : List Row) (p n : Option W), (st__law_walk_5 (F__law_walk g)) (frameW e.toD d kn (some (.r 0)) p n) [.lst (rows l)] = .ok (.rt (.d (.list (l.map rowD)))) [.dead] := fun l p n => by
      unfold st__law_walk_5
      refine ret_ok (Eq.trans (bd_ok (a := W.r 0) (S' := [.lst (rows l)]) ?_) ?_)
      · rfl
      · exact freeze_r (S := [.lst (rows l)]) (n := 0) (ds := l.map rowD) rfl
    cases hsim : e.simple with
    | true =>
      refine ⟨[.dead], run_rt rfl ?_⟩
      unfold b__law_walk
      refine Eq.trans (seq_nx e1) ?_
      have e4 : (st__law_walk_4 (F__law_walk g)) (frameW e.toD d kn (some (.r 0)) none none) [.lst (rows [(e, d, kn)])] = .ok (.nx (frameW e.toD d kn (some (.r 0)) none none)) [.lst (rows [(e, d, kn)])] := by
        cases e <;> first | (cases hsim; done) | rfl
      refine Eq.trans (seq_nx e4) ((e5 _ _ _).trans ?_)
      have : e.strict = [] ∧ e.later = [] := by cases e <;> first | (cases hsim; done) | exact ⟨rfl, rfl⟩
      simp [wk, this.1, this.2]
    | false =>
      obtain ⟨p1, f1⟩ := for1 (R := F__law_walk g) (g := g) (d := d) (kn := kn) (x := e.toD) e.strict (rows [(e, d, kn)]) none none (fun k hm => ih k (by unfold Ex.kids; simp [hm]) kn (by omega)) (by simp only [rows, List.map_cons, List.map_nil, List.length_cons, List.length_nil]; simp only [szs] at hzz ⊢; omega)
      have hl1 := flat_len (fun k => wk g k (d + 1) kn) (fun k => k.tr.sz) e.strict fun k _ => wk_len g k _ _
      rw [← szs_sum] at hl1
      obtain ⟨p2, n2, f2⟩ := for2 (R := F__law_walk g) (g := g) (d := d) (kn := kn) (x := e.toD) (by omega) e.later (rows [(e, d, kn)] ++ rows (e.strict.flatMap fun k => wk g k (d + 1) kn)) p1 none (fun q hm => ih q.2 (by unfold Ex.kids; exact List.mem_append_right _ (List.mem_map.mpr ⟨q, hm, rfl⟩)) (addN kn q.1) (by
        obtain ⟨o, k⟩ := q
        cases o <;> simp [addN] <;> omega)) (by simp only [rows, List.length_append, List.length_map, List.length_cons, List.length_nil]; simp only [szs] at hzz hl1 ⊢; omega)
      refine ⟨[.dead], run_rt rfl ?_⟩
      unfold b__law_walk
      refine Eq.trans (seq_nx e1) ?_
      have e4 : (st__law_walk_4 (F__law_walk g)) (frameW e.toD d kn (some (.r 0)) none none) [.lst (rows [(e, d, kn)])] = .ok (.nx (frameW e.toD d kn (some (.r 0)) p2 n2)) [.lst (rows (wk (g + 1) e d kn))] := by
        unfold st__law_walk_4
        have ht : notT (valT (fun δ => bd ((varM 0) δ) (isiM [.str]))) (frameW e.toD d kn (some (.r 0)) none none) [.lst (rows [(e, d, kn)])] = .ok true [.lst (rows [(e, d, kn)])] := by
          cases e <;> first | (cases hsim; done) | rfl
        rw [if_t ht]
        have i1 : bd ((calM (consM (varM 0) nilM) fun ws => noEx (F__law_first_ones ws)) (frameW e.toD d kn (some (.r 0)) none none)) iterM [.lst (rows [(e, d, kn)])] = .ok ((e.strict.map Ex.toD).map .d) [.lst (rows [(e, d, kn)])] := by
          rw [bd_ok (cal_ok (ws := [.d e.toD]) rfl (noEx_ok (lfirst_ok e hsim _)))]
          rfl
        refine Eq.trans (seq_nx ((bd_ok i1).trans f1)) ?_
        have i2 : bd ((calM (consM (varM 0) nilM) fun ws => noEx (F__law_later ws)) (frameW e.toD d kn (some (.r 0)) p1 none)) iterM [.lst (rows [(e, d, kn)] ++ rows (e.strict.flatMap fun k => wk g k (d + 1) kn))] = .ok ((e.later.map laD).map .d) [.lst (rows [(e, d, kn)] ++ rows (e.strict.flatMap fun k => wk g k (d + 1) kn))] := by
          rw [bd_ok (cal_ok (ws := [.d e.toD]) rfl (noEx_ok (llater_ok e hsim _)))]
          rfl
        refine ((bd_ok i2).trans f2).trans ?_
        simp only [rows, wk, List.map_append, List.map_cons, List.map_nil, List.append_assoc, List.cons_append, List.nil_append]
      exact Eq.trans (seq_nx e4) (e5 _ _ _)
end DL.k02
namespace DL.k02
open PySem PySem.Spec PyProof.Rows L2 DL

/-! ### unknown names -/
def Ex.nm : Ex → Option Str
  | .x => some "x"
  | .y => some "y"
  | .zz => some "zz"
  | _ => none
def unk1 (e : Ex) (kn : List Str) : List Str := match e.nm with
  | some z => if z ∈ kn then [] else [z]
  | none => []
def uk : Nat → Ex → List Str → List Str
  | 0, _, _ => []
  | g + 1, e, kn => unk1 e kn ++ ((e.strict.flatMap fun k => uk g k kn) ++ e.later.flatMap fun q => uk g q.2 (addN kn q.1))
theorem wk_uk : ∀ (g : Nat) (e : Ex) (d : Nat) (kn : List Str), (wk g e d kn).flatMap (fun r => unk1 r.1 r.2.2) = uk g e kn
  | 0, _, _, _ => rfl
  | g + 1, e, d, kn => by
    simp only [wk, uk, List.flatMap_cons, List.flatMap_append, List.flatMap_assoc, wk_uk g]
abbrev frameU (v w a b p n : Option W) : Env := [v, w, some (.r 0), some (.r 1), a, b, p, n]
abbrev itU (x : D) (kn : List Str) : W := .d (.tuple [x, .tuple (kn.map s)])
theorem un_body (ks : List Str) (rest : List W) (x : D) (kn : List Str) (v w a b p n : Option W) :
    body_unknown_in_1 (frameU v w a b p n) [.dct (kv ks), .lst (rest ++ [itU x kn])] = st_unknown_in_3 (frameU v w (some (.d x)) (some (.d (.tuple (kn.map s)))) p n) [.dct (kv ks), .lst rest] := by
  unfold body_unknown_in_1
  have hp : metM (varM 3) nilM chkL popM (frameU v w a b p n) [.dct (kv ks), .lst (rest ++ [itU x kn])] = .ok (itU x kn) [.dct (kv ks), .lst rest] := met_ok (n := 1) rfl rfl rfl (pop_snoc rfl)
  refine seq_nx ?_
  unfold st_unknown_in_2 asgM
  rw [bd_ok hp]
  rfl
theorem nm_D {e : Ex} (h : e.simple = true) : (e = .atom ∧ e.toD = s "atom") ∨ ∃ z, e.nm = some z ∧ e.toD = s z ∧ z ≠ "atom" := by
  cases e <;> first | (cases h; done) | exact .inl ⟨rfl, rfl⟩ | exact .inr ⟨_, rfl, rfl, by decide +kernel⟩
theorem un_simple (e : Ex) (hs : e.simple = true) (ks kn : List Str) (hk : ks.length < 1000000) (rest : List W) (v w p n : Option W) :
    st_unknown_in_3 (frameU v w (some (.d e.toD)) (some (.d (.tuple (kn.map s)))) p n) [.dct (kv ks), .lst rest] = .ok (.nx (frameU v w (some (.d e.toD)) (some (.d (.tuple (kn.map s)))) p n)) [.dct (kv ((unk1 e kn).foldl ins ks)), .lst rest] := by
  unfold st_unknown_in_3
  rw [if_t (S' := [.dct (kv ks), .lst rest]) (by
    have h := simple_ok e [.dct (kv ks), .lst rest]
    rw [hs] at h
    simp [valT, calM, consM, nilM, bd, pr, varM, noEx, h, okb, boolOf])]
  rcases nm_D hs with ⟨rfl, _⟩ | ⟨z, h1, h2, h3⟩
  · rw [if_f (S' := [.dct (kv ks), .lst rest]) (by kernel_rfl)]
    rfl
  · rw [h2]
    have hne : neM (.d (s z)) (.d (.str "atom")) [.dct (kv ks), .lst rest] = .ok (okb true) [.dct (kv ks), .lst rest] := by
      rw [ne_d (by intro q; cases q) (by simp [PyData.depth]) (by simp only [nd]) (by simp only [nd]), eqv_str, decide_eq_false h3]
      rfl
    have ht : andT (valT (binM (varM 4) (cM (.str "atom")) neM)) (valT (binM (varM 4) (varM 5) notInM)) (frameU v w (some (.d (s z))) (some (.d (.tuple (kn.map s)))) p n) [.dct (kv ks), .lst rest] = .ok (!decide (z ∈ kn)) [.dct (kv ks), .lst rest] := by
      have hn := notin_ok (S := [.dct (kv ks), .lst rest]) z kn
      simp [andT, valT, binM, bd, pr, varM, cM, hne, okb, boolOf, hn]
    by_cases hz : z ∈ kn
    · rw [if_f (S' := [.dct (kv ks), .lst rest]) (ht.trans (by simp [hz]))]
      simp [skipM, pr, unk1, h1, hz]
    · rw [if_t (S' := [.dct (kv ks), .lst rest]) (ht.trans (by simp [hz]))]
      have hset : setItemM (.r 0) (.d (s z)) (.d (.bool true)) [.dct (kv ks), .lst rest] = .ok () [.dct (kv (ins ks z)), .lst rest] := by
        unfold setItemM
        simp only [List.getElem?_cons_zero, keyOf]
        rw [if_pos (by have := small2; rw [kv_len]; omega), put_kv]
        rfl
      unfold subSM
      refine Eq.trans (bd_ok (a := .d (.bool true)) (S' := [.dct (kv ks), .lst rest]) rfl) ?_
      refine Eq.trans (bd_ok (a := .r 0) (S' := [.dct (kv ks), .lst rest]) rfl) ?_
      refine Eq.trans (bd_ok (a := .d (s z)) (S' := [.dct (kv ks), .lst rest]) rfl) ?_
      refine Eq.trans (bd_ok hset) ?_
      simp [pr, unk1, h1, hz]
theorem lc_u1 (a : List D) (kn : List Str) (v w h p n : Option W) (S : Sto) : compL [6] (setG 6) yesT (fun δ => bd ((consM (varM 6) (consM (varM 5) nilM)) δ) tupM) (a.map .d) (frameU v w h (some (.d (.tuple (kn.map s)))) p n) S =
    .ok ((a.map fun k => PyData.tuple [k, .tuple (kn.map s)]).map .d) S := by
  have := comp_all (own := [6]) (g := setG 6) (e := fun δ => bd ((consM (varM 6) (consM (varM 5) nilM)) δ) tupM) (δ := frameU v w h (some (.d (.tuple (kn.map s)))) p n) (S := S)
    (fun w => match w with | .d k => itU k kn | w => w) (ws := a.map .d) (fun w hw => by
      obtain ⟨k, _, rfl⟩ := List.mem_map.mp hw
      exact ⟨_, rfl, rfl⟩)
  rw [this, List.map_map, List.map_map]
  rfl
def ofN : D → List Str → List Str
  | .str z, kn => kn ++ [z]
  | _, kn => kn
theorem lc_u2 (b : List (Option Str × Ex)) (kn : List Str) (hkn : kn.length ≤ 1000) (v w h p n : Option W) (S : Sto) : compL [7, 6] (tupG 2 (consG (setG 7) (consG (setG 6) nilG))) yesT (fun δ => bd ((consM (varM 6) (consM (ifV (valT (binM (varM 7) (cM .none) isM)) (varM 5) (fun δ => bd ((starM (varM 5) (consM (varM 7) nilM)) δ) tupM)) nilM)) δ) tupM)
      ((b.map laD).map .d) (frameU v w h (some (.d (.tuple (kn.map s)))) p n) S = .ok ((b.map fun q => PyData.tuple [q.2.toD, .tuple ((addN kn q.1).map s)]).map .d) S := by
  have := comp_all (own := [7, 6]) (g := tupG 2 (consG (setG 7) (consG (setG 6) nilG))) (e := fun δ => bd ((consM (varM 6) (consM (ifV (valT (binM (varM 7) (cM .none) isM)) (varM 5) (fun δ => bd ((starM (varM 5) (consM (varM 7) nilM)) δ) tupM)) nilM)) δ) tupM) (δ := frameU v w h (some (.d (.tuple (kn.map s)))) p n) (S := S)
    (fun w => match w with | .d (.tuple [o, k]) => itU k (ofN o kn) | w => w) (ws := (b.map laD).map .d) (fun w' hw => by
      obtain ⟨k, hk, rfl⟩ := List.mem_map.mp hw
      obtain ⟨⟨o, q⟩, _, rfl⟩ := List.mem_map.mp hk
      refine ⟨frameU v w h (some (.d (.tuple (kn.map s)))) (some (.d q.toD)) (some (.d (nmD o))), rfl, ?_⟩
      cases o with
      | none => rfl
      | some z =>
        have e : bd ((starM (varM 5) (consM (varM 7) nilM)) (frameU v w h (some (.d (.tuple (kn.map s)))) (some (.d q.toD)) (some (.d (s z))))) tupM S = .ok (.d (.tuple ((kn ++ [z]).map s))) S := by
          refine Eq.trans (bd_ok (star_ok (k := false) (x := .d (.tuple (kn.map s))) (xs := (kn.map s).map .d) (ys := [.d (s z)]) (S1 := S) (S2 := S) rfl rfl rfl)) ?_
          refine (tup_ok (ds := kn.map s ++ [s z]) (by rw [show (kn.map s).map W.d ++ [.d (s z)] = (kn.map s ++ [s z]).map W.d by simp]; exact allD_map _) (by have := small2; simp only [List.length_append, List.length_map, List.length_cons, List.length_nil]; omega)).trans ?_
          simp
        refine Eq.trans (bd_ok (a := [.d q.toD, .d (.tuple ((kn ++ [z]).map s))]) (S' := S) ?_) rfl
        refine cons_ok (S1 := S) rfl (cons_ok (S1 := S) ?_ rfl)
        refine Eq.trans (bd_ok (a := false) (S' := S) ?_) ?_
        · rfl
        · rw [if_neg Bool.false_ne_true]; exact e)
  rw [this, List.map_map, List.map_map, List.map_map]
  congr 1
  refine List.map_congr_left fun q _ => ?_
  obtain ⟨o, q⟩ := q
  cases o <;> rfl
theorem un_node (e : Ex) (hs : e.simple = false) (ks kn : List Str) (hkn : kn.length ≤ 1000) (rest : List W) (v w p n : Option W) (hl : rest.length + e.kids.length ≤ 1000000) :
    st_unknown_in_3 (frameU v w (some (.d e.toD)) (some (.d (.tuple (kn.map s)))) p n) [.dct (kv ks), .lst rest] = .ok (.nx (frameU v w (some (.d e.toD)) (some (.d (.tuple (kn.map s)))) p n)) [.dct (kv ks), .lst (rest ++ (e.strict.map fun k => itU k.toD kn) ++ e.later.map fun q => itU q.2.toD (addN kn q.1))] := by
  have hk : e.strict.length + e.later.length = e.kids.length := by unfold Ex.kids; simp
  unfold st_unknown_in_3
  rw [if_f (S' := [.dct (kv ks), .lst rest]) (by
    have h := simple_ok e [.dct (kv ks), .lst rest]
    rw [hs] at h
    simp [valT, calM, consM, nilM, bd, pr, varM, noEx, h, okb, boolOf])]
  have s1 : (exprM (metM (varM 3) (consM (lcM [6] (fun δ => bd ((calM (consM (varM 4) nilM) fun ws => noEx (F_strict_parts ws)) δ) iterM) (setG 6) yesT (fun δ => bd ((consM (varM 6) (consM (varM 5) nilM)) δ) tupM)) nilM) chkL extendM)) (frameU v w (some (.d e.toD)) (some (.d (.tuple (kn.map s)))) p n) [.dct (kv ks), .lst rest] =
      .ok (.nx (frameU v w (some (.d e.toD)) (some (.d (.tuple (kn.map s)))) p n)) [.dct (kv ks), .lst (rest ++ e.strict.map fun k => itU k.toD kn)] := by
    refine expr_ok (w := .d .none) (met_ok (n := 1) (ws := rest) rfl rfl (cons_ok (S1 := [.dct (kv ks), .lst rest]) (x := .d (.list ((e.strict.map Ex.toD).map fun k => PyData.tuple [k, .tuple (kn.map s)]))) ?_ rfl) ?_)
    · unfold lcM
      rw [bd_ok (show (bd ((calM (consM (varM 4) nilM) fun ws => noEx (F_strict_parts ws)) (frameU v w (some (.d e.toD)) (some (.d (.tuple (kn.map s)))) p n)) iterM) [.dct (kv ks), .lst rest] = .ok ((e.strict.map Ex.toD).map .d) [.dct (kv ks), .lst rest] by
        rw [bd_ok (cal_ok (ws := [.d e.toD]) rfl (noEx_ok (strict_ok e hs _)))]; rfl), bd_ok (lc_u1 _ kn v w _ p n _)]
      exact small_lst (by simp only [List.length_map]; omega)
    · rw [extend_ok (n := 1) (ws := rest) rfl seq_l (by have := small2; simp only [List.length_map]; omega)]
      simp only [List.map_map]
      rfl
  rw [seq_nx s1]
  refine expr_ok (w := .d .none) (met_ok (n := 1) (ws := rest ++ e.strict.map fun k => itU k.toD kn) rfl rfl (cons_ok (S1 := [.dct (kv ks), .lst (rest ++ e.strict.map fun k => itU k.toD kn)]) (x := .d (.list (e.later.map fun q => PyData.tuple [q.2.toD, .tuple ((addN kn q.1).map s)]))) ?_ rfl) ?_)
  · unfold lcM
    rw [bd_ok (show (bd ((calM (consM (varM 4) nilM) fun ws => noEx (F_later_parts ws)) (frameU v w (some (.d e.toD)) (some (.d (.tuple (kn.map s)))) p n)) iterM) [.dct (kv ks), .lst (rest ++ e.strict.map fun k => itU k.toD kn)] = .ok ((e.later.map laD).map .d) [.dct (kv ks), .lst (rest ++ e.strict.map fun k => itU k.toD kn)] by
      rw [bd_ok (cal_ok (ws := [.d e.toD]) rfl (noEx_ok (later_ok e hs _)))]; rfl), bd_ok (lc_u2 _ kn hkn v w _ p n _)]
    exact small_lst (by simp only [List.length_map]; omega)
  · rw [extend_ok (n := 1) (ws := rest ++ e.strict.map fun k => itU k.toD kn) rfl seq_l (by have := small2; simp only [List.length_append, List.length_map]; omega)]
    simp only [List.map_map]
    rfl
/-- a line of the stack: the expression, levels enough, the names that are known -/
abbrev LU := Ex × Nat × List Str
abbrev linU (q : LU) : W := itU q.1.toD q.2.2
def totU : List LU → Nat
  | [] => 0
  | q :: L => q.1.tr.sz + totU L
theorem totU_app : ∀ (L M : List LU), totU (L ++ M) = totU L + totU M
  | [], _ => by simp [totU]
  | p :: L, M => by simp only [List.cons_append, totU, totU_app L M]; omega
theorem totU_1 (g : Nat) (kn : List Str) : ∀ ks : List Ex, totU (ks.map fun k => (k, g, kn)) = szs ks
  | [] => rfl
  | k :: ks => by
    have := totU_1 g kn ks
    simp only [szs, List.map_cons, totU, Trs.sz] at this ⊢
    omega
theorem totU_2 (g : Nat) (kn : List Str) : ∀ ks : List (Option Str × Ex), totU (ks.map fun q => (q.2, g, addN kn q.1)) = szs (ks.map (·.2))
  | [] => rfl
  | k :: ks => by
    have := totU_2 g kn ks
    simp only [szs, List.map_cons, totU, Trs.sz] at this ⊢
    omega
theorem totU_len : ∀ L : List LU, L.length ≤ totU L
  | [] => Nat.le_refl _
  | p :: L => by
    have := totU_len L
    have := p.1.sz_pos
    simp only [List.length_cons, totU]
    omega
theorem un_test (ks : List Str) (ws : List W) (v w a b p n : Option W) : test_unknown_in_1 (frameU v w a b p n) [.dct (kv ks), .lst ws] = .ok (!ws.isEmpty) [.dct (kv ks), .lst ws] := by
  cases ws <;> rfl
theorem fold_len : ∀ (us ks : List Str), (us.foldl ins ks).length ≤ ks.length + us.length
  | [], ks => by simp
  | u :: us, ks => by
    have h1 := fold_len us (ins ks u)
    have h2 := ins_len (ks := ks) (z := u)
    simp only [List.foldl_cons, List.length_cons]
    omega
theorem unk1_len (e : Ex) (kn : List Str) : (unk1 e kn).length ≤ 1 := by
  unfold unk1
  split
  · split <;> simp
  · simp
theorem nm_none {e : Ex} (h : e.simple = false) (kn : List Str) : unk1 e kn = [] := by cases e <;> first | (cases h; done) | rfl
theorem un_loop : ∀ (fuel : Nat) (L : List LU) (ks : List Str) (v w a b p n : Option W), (∀ q ∈ L, q.1.tr.doom q.2.1 = false ∧ q.2.2.length + q.2.1 ≤ 1000) → ks.Nodup → ks.length + totU L ≤ 20000 → totU L < fuel →
    ∃ ks' a' b', whL test_unknown_in_1 body_unknown_in_1 fuel (frameU v w a b p n) [.dct (kv ks), .lst (L.map linU)] = .ok (.nx (frameU v w a' b' p n)) [.dct (kv ks'), .lst []] ∧ ks'.Nodup ∧ ∀ z, z ∈ ks' ↔ z ∈ ks ∨ ∃ q ∈ L, z ∈ uk q.2.1 q.1 q.2.2
  | 0, _, _, _, _, _, _, _, _, _, _, _, h => absurd h (by omega)
  | fuel + 1, L, ks, v, w, a, b, p, n, ho, hnd, hm, hf => by
    by_cases hL : L = []
    · subst hL
      exact ⟨ks, a, b, wh_end (un_test _ _ _ _ _ _ _ _), hnd, fun z => by simp⟩
    obtain ⟨M, ⟨e, g0, kn⟩, rfl⟩ := snoc_of hL
    have ht : test_unknown_in_1 (frameU v w a b p n) [.dct (kv ks), .lst ((M ++ [(e, g0, kn)]).map linU)] = .ok true [.dct (kv ks), .lst ((M ++ [(e, g0, kn)]).map linU)] := by
      rw [un_test]
      simp
    rw [totU_app] at hm hf
    simp only [totU] at hm hf
    have hM := totU_len M
    have hb := un_body ks (M.map linU) e.toD kn v w a b p n
    have eM : (M ++ [(e, g0, kn)]).map linU = M.map linU ++ [itU e.toD kn] := by simp [linU]
    rw [eM] at ht ⊢
    obtain ⟨hT, hkn⟩ := ho (e, g0, kn) (by simp)
    have hT : e.tr.doom g0 = false := hT
    have hkn : kn.length + g0 ≤ 1000 := hkn
    have hz := e.sz_eq
    obtain ⟨g, rfl⟩ : ∃ g, g0 = g + 1 := by
      cases g0 with
      | zero => rw [Ex.doom_0] at hT; cases hT
      | succ g => exact ⟨g, rfl⟩
    have hzz : szs e.kids = szs e.strict + szs (e.later.map (·.2)) := szs_app _ _
    have hk := Trs.len (e.kids.map Ex.tr)
    rw [List.length_map] at hk
    have hu := unk1_len e kn
    have hfl := fold_len (unk1 e kn) ks
    -- the step
    have step : st_unknown_in_3 (frameU v w (some (.d e.toD)) (some (.d (.tuple (kn.map s)))) p n) [.dct (kv ks), .lst (M.map linU)] =
        .ok (.nx (frameU v w (some (.d e.toD)) (some (.d (.tuple (kn.map s)))) p n)) [.dct (kv ((unk1 e kn).foldl ins ks)), .lst ((M ++ (e.strict.map fun k => (k, g, kn)) ++ e.later.map fun q => (q.2, g, addN kn q.1)).map linU)] := by
      cases hs : e.simple with
      | true =>
        refine (un_simple e hs ks kn (by omega) _ _ _ _ _).trans ?_
        have : e.strict = [] ∧ e.later = [] := by cases e <;> first | (cases hs; done) | exact ⟨rfl, rfl⟩
        simp [this.1, this.2]
      | false =>
        refine (un_node e hs ks kn (by omega) (M.map linU) v w p n (by rw [List.length_map]; omega)).trans ?_
        simp only [nm_none hs, List.foldl_nil, List.map_append, List.map_map]
        rfl
    rw [wh_nx ht (hb.trans step)]
    have hnd' := (fold_ins (unk1 e kn) ks hnd)
    obtain ⟨ks', a', b', h1, h2, h3⟩ := un_loop fuel (M ++ (e.strict.map fun k => (k, g, kn)) ++ e.later.map fun q => (q.2, g, addN kn q.1)) ((unk1 e kn).foldl ins ks) v w _ _ p n (fun q hq => by
      rcases List.mem_append.mp hq with hq | hq
      · rcases List.mem_append.mp hq with hq | hq
        · exact ho q (by simp [hq])
        · obtain ⟨k, hk, rfl⟩ := List.mem_map.mp hq
          exact ⟨Ex.doom_kid hT (by unfold Ex.kids; simp [hk]), by show kn.length + g ≤ 1000; omega⟩
      · obtain ⟨⟨o, k⟩, hk, rfl⟩ := List.mem_map.mp hq
        refine ⟨Ex.doom_kid hT (by unfold Ex.kids; exact List.mem_append_right _ (List.mem_map.mpr ⟨(o, k), hk, rfl⟩)), ?_⟩
        show (addN kn o).length + g ≤ 1000
        cases o <;> simp [addN] <;> omega) hnd'.1 (by rw [totU_app, totU_app, totU_1, totU_2]; simp only [szs] at hzz ⊢; omega) (by rw [totU_app, totU_app, totU_1, totU_2]; simp only [szs] at hzz ⊢; omega)
    refine ⟨ks', a', b', h1, h2, fun z => ?_⟩
    rw [h3 z, hnd'.2 z]
    simp only [List.mem_append, List.mem_map, List.mem_singleton]
    constructor
    · rintro ((h | h) | ⟨q, (hq | ⟨k, hk, rfl⟩) | ⟨k, hk, rfl⟩, hz⟩)
      · exact .inl h
      · exact .inr ⟨_, .inr rfl, by show z ∈ uk (g + 1) e kn; simp only [uk, List.mem_append]; exact .inl h⟩
      · exact .inr ⟨q, .inl hq, hz⟩
      · refine .inr ⟨_, .inr rfl, ?_⟩
        show z ∈ uk (g + 1) e kn
        simp only [uk, List.mem_append]
        exact .inr (.inl (List.mem_flatMap.mpr ⟨k, hk, hz⟩))
      · refine .inr ⟨_, .inr rfl, ?_⟩
        show z ∈ uk (g + 1) e kn
        simp only [uk, List.mem_append]
        exact .inr (.inr (List.mem_flatMap.mpr ⟨k, hk, hz⟩))
    · rintro (h | ⟨q, hq | rfl, hz⟩)
      · exact .inl (.inl h)
      · exact .inr ⟨q, .inl (.inl hq), hz⟩
      · have hz : z ∈ uk (g + 1) e kn := hz
        simp only [uk, List.mem_append, List.mem_flatMap] at hz
        rcases hz with hz | ⟨k, hk, hz⟩ | ⟨k, hk, hz⟩
        · exact .inl (.inr hz)
        · exact .inr ⟨_, .inl (.inr ⟨k, hk, rfl⟩), hz⟩
        · exact .inr ⟨_, .inr ⟨k, hk, rfl⟩, hz⟩
theorem uk_in : ∀ (g : Nat) (e : Ex) (kn : List Str) (z : Str), z ∈ uk g e kn → z ∈ (["x", "y", "zz"] : List Str)
  | 0, _, _, _, h => by simp [uk] at h
  | g + 1, e, kn, z, h => by
    simp only [uk, List.mem_append, List.mem_flatMap] at h
    rcases h with h | ⟨k, hk, h⟩ | ⟨k, hk, h⟩
    · unfold unk1 at h
      cases e <;> simp only [Ex.nm] at h <;> first | (simp at h; done) | (split at h <;> simp at h; subst h; simp)
    · exact uk_in g _ _ _ h
    · exact uk_in g _ _ _ h
/-- unknown_in, known handed in as a list or a tuple -/
theorem unknown_ok (e : Ex) (kn : List Str) (g : Nat) (h : e.tr.doom g = false) (hg : kn.length + g ≤ 1000) (hs : e.tr.sz ≤ 20000) (S : Sto) : F_unknown_in [.d e.toD, .d (.list (kn.map s))] S = .ok (.d (.tuple ((sortS (uniq (uk g e kn))).map s))) S := by
  obtain ⟨ks', a', b', h1, h2, h3⟩ := un_loop 100000 [(e, g, kn)] [] (some (.d e.toD)) (some (.d (.list (kn.map s)))) none none none none (by simp [h, hg]) List.nodup_nil (by simp [totU]; omega) (by simp [totU]; omega)
  have hmem : ∀ z, z ∈ ks' ↔ z ∈ uk g e kn := fun z => by rw [h3 z]; simp
  have hlen : ks'.length ≤ 3 := List.Nodup.length_le_of_subset h2 (l₂ := (["x", "y", "zz"] : List Str)) fun z hz => uk_in g e kn z ((hmem z).mp hz)
  rw [sort_eq (uniq_nodup _) h2 fun z => by rw [mem_uniq, hmem]]
  unfold F_unknown_in
  refine pure_ex (ds := [e.toD, .list (kn.map s)]) rfl ⟨[.dct (kv ks'), .lst []], run_rt rfl ?_⟩
  unfold b_unknown_in
  refine Eq.trans (seq_nx (δ' := frameU (some (.d e.toD)) (some (.d (.list (kn.map s)))) none none none none) (S' := [.dct (kv []), .lst ([(e, g, kn)].map linU)]) rfl) ?_
  rw [seq_nx h1]
  unfold st_unknown_in_4
  refine ret_ok (cal_ok (ws := [.d (.list ((sortS ks').map s))]) (S' := [.dct (kv ks'), .lst []]) (cons_ok (S1 := [.dct (kv ks'), .lst []]) (cal_ok (ws := [.d (.list (ks'.map s))]) (S' := [.dct (kv ks'), .lst []]) (cons_ok (S1 := [.dct (kv ks'), .lst []]) (cal_ok (ws := [.r 0]) (S' := [.dct (kv ks'), .lst []]) rfl (listD_ok (n := 0) rfl)) rfl) (sort_ok (by omega))) rfl) rfl)
end DL.k02
namespace DL.k02
open PySem PySem.Spec PyProof.Rows L2 DL

theorem bad_d {x : D} : (Tr.bad x).d = x := rfl
theorem bad_of {x : D} (h : Bad x) : (Tr.bad x).ok := h
/-- what is refused, whatever stands around it -/
def BadTr (x : D) : Prop := ∃ T : Tr, T.d = x ∧ T.ok ∧ T.sz ≤ 10000 ∧ ∀ g, T.doom g = true
theorem BadTr.one {x : D} (h : Bad x) : BadTr x := ⟨.bad x, rfl, h, by simp [Tr.sz], fun g => by simp [Tr.doom]⟩
abbrev frameB (n : Nat) (x : D) (a b c : Option W) : Env := [some (.r n), some (.d x), a, b, c]

def bentS : List D := [s "", s "A", s "call", s "a b", .none, .int 5, .bool true, t [], .list [], .dict [], t [s "x"], t [s "atom"], s "abcdefghi"]
theorem bentS_bad : ∀ d ∈ bentS, BadTr d := by
  intro d hd
  simp only [bentS, List.mem_cons, List.not_mem_nil, or_false] at hd
  rcases hd with rfl | rfl | rfl | rfl | rfl | rfl | rfl | rfl | rfl | rfl | rfl | rfl | rfl
  · exact BadTr.one (fun _ _ _ _ _ _ => by kernel_rfl)
  · exact BadTr.one (fun _ _ _ _ _ _ => by kernel_rfl)
  · exact BadTr.one (fun _ _ _ _ _ _ => by kernel_rfl)
  · exact BadTr.one (fun _ _ _ _ _ _ => by kernel_rfl)
  · exact BadTr.one (fun _ _ _ _ _ _ => by kernel_rfl)
  · exact BadTr.one (fun _ _ _ _ _ _ => by kernel_rfl)
  · exact BadTr.one (fun _ _ _ _ _ _ => by kernel_rfl)
  · exact BadTr.one (fun _ _ _ _ _ _ => by kernel_rfl)
  · exact BadTr.one (fun _ _ _ _ _ _ => by kernel_rfl)
  · exact BadTr.one (fun _ _ _ _ _ _ => by kernel_rfl)
  · exact BadTr.one (fun _ _ _ _ _ _ => by kernel_rfl)
  · exact BadTr.one (fun _ _ _ _ _ _ => by kernel_rfl)
  · exact BadTr.one (fun _ _ _ _ _ _ => by kernel_rfl)
def bent_get : List D := [t [s "get", s "s", s "x"], t [s "get"], t [s "gets", s "s"], t [.none, s "s"], t [s "get"], t [s "get", .none]]
theorem bad_get : ∀ q ∈ bent_get, BadTr q := by
  intro q hd
  simp only [bent_get, List.mem_cons, List.not_mem_nil, or_false] at hd
  rcases hd with rfl | rfl | rfl | rfl | rfl | rfl
  · exact BadTr.one (fun _ _ _ _ _ _ => by kernel_rfl)
  · exact BadTr.one (fun _ _ _ _ _ _ => by kernel_rfl)
  · exact BadTr.one (fun _ _ _ _ _ _ => by kernel_rfl)
  · exact BadTr.one (fun _ _ _ _ _ _ => by kernel_rfl)
  · exact BadTr.one (fun _ _ _ _ _ _ => by kernel_rfl)
  · exact BadTr.one (fun _ _ _ _ _ _ => by kernel_rfl)
def bent_rec2 (a b : Ex) : List D := [t [s "record", t [t [s "a", a.toD], t [s "b", b.toD]], s "x"], t [s "record"], t [s "records", t [t [s "a", a.toD], t [s "b", b.toD]]], t [.none, t [t [s "a", a.toD], t [s "b", b.toD]]], t [s "record"], t [s "record", .none], t [s "record", t [t [s "b", b.toD], t [s "a", a.toD]]], t [s "record", t [t [s "a", a.toD], t [s "a", a.toD]]], t [s "record", t [t [s "a"]]], t [s "record", t [t [s "a", .int 7]]]]
theorem bad_rec2 (a b : Ex) (h_a : a.tr.sz ≤ 1000) (h_b : b.tr.sz ≤ 1000) : ∀ q ∈ bent_rec2 a b, BadTr q := by
  intro q hd
  simp only [bent_rec2, List.mem_cons, List.not_mem_nil, or_false] at hd
  rcases hd with rfl | rfl | rfl | rfl | rfl | rfl | rfl | rfl | rfl | rfl
  · exact BadTr.one (fun _ _ _ _ _ _ => by kernel_rfl)
  · exact BadTr.one (fun _ _ _ _ _ _ => by kernel_rfl)
  · exact BadTr.one (fun _ _ _ _ _ _ => by kernel_rfl)
  · exact BadTr.one (fun _ _ _ _ _ _ => by kernel_rfl)
  · exact BadTr.one (fun _ _ _ _ _ _ => by kernel_rfl)
  · exact BadTr.one (fun _ _ _ _ _ _ => by kernel_rfl)
  · exact BadTr.one (fun _ _ _ _ _ _ => by kernel_rfl)
  · exact BadTr.one (fun _ _ _ _ _ _ => by kernel_rfl)
  · exact BadTr.one (fun _ _ _ _ _ _ => by kernel_rfl)
  · exact ⟨.node (t [s "record", t [t [s "a", .int 7]]]) [.bad (.int 7)], rfl, ⟨by
      have := good_of (z := "record") (x := t [s "record", t [t [s "a", .int 7]]]) (a := [.int 7]) (b := []) (.inl rfl) (by simp) (fun S => by kernel_rfl) (fun S => by kernel_rfl) (fun S => by kernel_rfl)
      simpa [bad_d, Ex.tr_d, Ex.toD] using this, ⟨(bad_of fun _ _ _ _ _ _ => by kernel_rfl), trivial⟩⟩, by first | (simp [Tr.sz, Trs.sz, Ex.tr]; done) | (simp [Tr.sz, Trs.sz, Ex.tr]; omega), fun g => by cases g <;> simp [Tr.doom, Trs.doom]⟩
def bent_field (a : Ex) : List D := [t [s "field", a.toD, s "a", s "x"], t [s "field", a.toD], t [s "fields", a.toD, s "a"], t [.none, a.toD, s "a"], t [s "field"], t [s "field", .none, s "a"], t [s "field", a.toD, s "get"], t [s "field", a.toD, .int 5]]
theorem bad_field (a : Ex) (h_a : a.tr.sz ≤ 1000) : ∀ q ∈ bent_field a, BadTr q := by
  intro q hd
  simp only [bent_field, List.mem_cons, List.not_mem_nil, or_false] at hd
  rcases hd with rfl | rfl | rfl | rfl | rfl | rfl | rfl | rfl
  · exact BadTr.one (fun _ _ _ _ _ _ => by kernel_rfl)
  · exact BadTr.one (fun _ _ _ _ _ _ => by kernel_rfl)
  · exact BadTr.one (fun _ _ _ _ _ _ => by kernel_rfl)
  · exact BadTr.one (fun _ _ _ _ _ _ => by kernel_rfl)
  · exact BadTr.one (fun _ _ _ _ _ _ => by kernel_rfl)
  · exact ⟨.node (t [s "field", .none, s "a"]) [.bad (.none)], rfl, ⟨by
      have := good_of (z := "field") (x := t [s "field", .none, s "a"]) (a := [.none]) (b := []) (.inl rfl) (by simp) (fun S => by kernel_rfl) (fun S => by kernel_rfl) (fun S => by kernel_rfl)
      simpa [bad_d, Ex.tr_d, Ex.toD] using this, ⟨(bad_of fun _ _ _ _ _ _ => by kernel_rfl), trivial⟩⟩, by first | (simp [Tr.sz, Trs.sz, Ex.tr]; done) | (simp [Tr.sz, Trs.sz, Ex.tr]; omega), fun g => by cases g <;> simp [Tr.doom, Trs.doom]⟩
  · exact BadTr.one (fun _ _ _ _ _ _ => by kernel_rfl)
  · exact BadTr.one (fun _ _ _ _ _ _ => by kernel_rfl)
def bent_wth (b a : Ex) : List D := [t [s "with", b.toD, s "a", a.toD, s "x"], t [s "with", b.toD, s "a"], t [s "withs", b.toD, s "a", a.toD], t [.none, b.toD, s "a", a.toD], t [s "with"], t [s "with", .none, s "a", a.toD], t [s "with", b.toD, s "get", a.toD], t [s "with", b.toD, .int 5, a.toD]]
theorem bad_wth (b a : Ex) (h_b : b.tr.sz ≤ 1000) (h_a : a.tr.sz ≤ 1000) : ∀ q ∈ bent_wth b a, BadTr q := by
  intro q hd
  simp only [bent_wth, List.mem_cons, List.not_mem_nil, or_false] at hd
  rcases hd with rfl | rfl | rfl | rfl | rfl | rfl | rfl | rfl
  · exact BadTr.one (fun _ _ _ _ _ _ => by kernel_rfl)
  · exact BadTr.one (fun _ _ _ _ _ _ => by kernel_rfl)
  · exact BadTr.one (fun _ _ _ _ _ _ => by kernel_rfl)
  · exact BadTr.one (fun _ _ _ _ _ _ => by kernel_rfl)
  · exact BadTr.one (fun _ _ _ _ _ _ => by kernel_rfl)
  · exact ⟨.node (t [s "with", .none, s "a", a.toD]) [.bad (.none), a.tr], rfl, ⟨by
      have := good_of (z := "with") (x := t [s "with", .none, s "a", a.toD]) (a := [.none, a.toD]) (b := []) (.inl rfl) (by simp) (fun S => by kernel_rfl) (fun S => by kernel_rfl) (fun S => by kernel_rfl)
      simpa [bad_d, Ex.tr_d, Ex.toD] using this, ⟨(bad_of fun _ _ _ _ _ _ => by kernel_rfl), a.tr_ok, trivial⟩⟩, by first | (simp [Tr.sz, Trs.sz, Ex.tr]; done) | (simp [Tr.sz, Trs.sz, Ex.tr]; omega), fun g => by cases g <;> simp [Tr.doom, Trs.doom]⟩
  · exact BadTr.one (fun _ _ _ _ _ _ => by kernel_rfl)
  · exact BadTr.one (fun _ _ _ _ _ _ => by kernel_rfl)
def bent_wout (a : Ex) : List D := [t [s "without", a.toD, s "b", s "x"], t [s "without", a.toD], t [s "withouts", a.toD, s "b"], t [.none, a.toD, s "b"], t [s "without"], t [s "without", .none, s "b"], t [s "without", a.toD, s "get"], t [s "without", a.toD, .int 5]]
theorem bad_wout (a : Ex) (h_a : a.tr.sz ≤ 1000) : ∀ q ∈ bent_wout a, BadTr q := by
  intro q hd
  simp only [bent_wout, List.mem_cons, List.not_mem_nil, or_false] at hd
  rcases hd with rfl | rfl | rfl | rfl | rfl | rfl | rfl | rfl
  · exact BadTr.one (fun _ _ _ _ _ _ => by kernel_rfl)
  · exact BadTr.one (fun _ _ _ _ _ _ => by kernel_rfl)
  · exact BadTr.one (fun _ _ _ _ _ _ => by kernel_rfl)
  · exact BadTr.one (fun _ _ _ _ _ _ => by kernel_rfl)
  · exact BadTr.one (fun _ _ _ _ _ _ => by kernel_rfl)
  · exact ⟨.node (t [s "without", .none, s "b"]) [.bad (.none)], rfl, ⟨by
      have := good_of (z := "without") (x := t [s "without", .none, s "b"]) (a := [.none]) (b := []) (.inl rfl) (by simp) (fun S => by kernel_rfl) (fun S => by kernel_rfl) (fun S => by kernel_rfl)
      simpa [bad_d, Ex.tr_d, Ex.toD] using this, ⟨(bad_of fun _ _ _ _ _ _ => by kernel_rfl), trivial⟩⟩, by first | (simp [Tr.sz, Trs.sz, Ex.tr]; done) | (simp [Tr.sz, Trs.sz, Ex.tr]; omega), fun g => by cases g <;> simp [Tr.doom, Trs.doom]⟩
  · exact BadTr.one (fun _ _ _ _ _ _ => by kernel_rfl)
  · exact BadTr.one (fun _ _ _ _ _ _ => by kernel_rfl)
def bent_has (b a c : Ex) : List D := [t [s "has", b.toD, s "a", a.toD, c.toD, s "x"], t [s "has", b.toD, s "a", a.toD], t [s "hass", b.toD, s "a", a.toD, c.toD], t [.none, b.toD, s "a", a.toD, c.toD], t [s "has"], t [s "has", .none, s "a", a.toD, c.toD], t [s "has", b.toD, s "get", a.toD, c.toD], t [s "has", b.toD, .int 5, a.toD, c.toD]]
theorem bad_has (b a c : Ex) (h_b : b.tr.sz ≤ 1000) (h_a : a.tr.sz ≤ 1000) (h_c : c.tr.sz ≤ 1000) : ∀ q ∈ bent_has b a c, BadTr q := by
  intro q hd
  simp only [bent_has, List.mem_cons, List.not_mem_nil, or_false] at hd
  rcases hd with rfl | rfl | rfl | rfl | rfl | rfl | rfl | rfl
  · exact BadTr.one (fun _ _ _ _ _ _ => by kernel_rfl)
  · exact BadTr.one (fun _ _ _ _ _ _ => by kernel_rfl)
  · exact BadTr.one (fun _ _ _ _ _ _ => by kernel_rfl)
  · exact BadTr.one (fun _ _ _ _ _ _ => by kernel_rfl)
  · exact BadTr.one (fun _ _ _ _ _ _ => by kernel_rfl)
  · exact ⟨.node (t [s "has", .none, s "a", a.toD, c.toD]) [.bad (.none), a.tr, c.tr], rfl, ⟨by
      have := good_of (z := "has") (x := t [s "has", .none, s "a", a.toD, c.toD]) (a := [.none]) (b := [(.none, a.toD), (.none, c.toD)]) (.inl rfl) (by simp) (fun S => by kernel_rfl) (fun S => by kernel_rfl) (fun S => by kernel_rfl)
      simpa [bad_d, Ex.tr_d, Ex.toD] using this, ⟨(bad_of fun _ _ _ _ _ _ => by kernel_rfl), a.tr_ok, c.tr_ok, trivial⟩⟩, by first | (simp [Tr.sz, Trs.sz, Ex.tr]; done) | (simp [Tr.sz, Trs.sz, Ex.tr]; omega), fun g => by cases g <;> simp [Tr.doom, Trs.doom]⟩
  · exact BadTr.one (fun _ _ _ _ _ _ => by kernel_rfl)
  · exact BadTr.one (fun _ _ _ _ _ _ => by kernel_rfl)
def bent_tag (a : Ex) : List D := [t [s "tag", s "t", a.toD, s "x"], t [s "tag", s "t"], t [s "tags", s "t", a.toD], t [.none, s "t", a.toD], t [s "tag"], t [s "tag", .none, a.toD]]
theorem bad_tag (a : Ex) (h_a : a.tr.sz ≤ 1000) : ∀ q ∈ bent_tag a, BadTr q := by
  intro q hd
  simp only [bent_tag, List.mem_cons, List.not_mem_nil, or_false] at hd
  rcases hd with rfl | rfl | rfl | rfl | rfl | rfl
  · exact BadTr.one (fun _ _ _ _ _ _ => by kernel_rfl)
  · exact BadTr.one (fun _ _ _ _ _ _ => by kernel_rfl)
  · exact BadTr.one (fun _ _ _ _ _ _ => by kernel_rfl)
  · exact BadTr.one (fun _ _ _ _ _ _ => by kernel_rfl)
  · exact BadTr.one (fun _ _ _ _ _ _ => by kernel_rfl)
  · exact BadTr.one (fun _ _ _ _ _ _ => by kernel_rfl)
def bent_let_ (b a : Ex) : List D := [t [s "let", s "x", b.toD, a.toD, s "x"], t [s "let", s "x", b.toD], t [s "lets", s "x", b.toD, a.toD], t [.none, s "x", b.toD, a.toD], t [s "let"], t [s "let", .none, b.toD, a.toD]]
theorem bad_let_ (b a : Ex) (h_b : b.tr.sz ≤ 1000) (h_a : a.tr.sz ≤ 1000) : ∀ q ∈ bent_let_ b a, BadTr q := by
  intro q hd
  simp only [bent_let_, List.mem_cons, List.not_mem_nil, or_false] at hd
  rcases hd with rfl | rfl | rfl | rfl | rfl | rfl
  · exact BadTr.one (fun _ _ _ _ _ _ => by kernel_rfl)
  · exact BadTr.one (fun _ _ _ _ _ _ => by kernel_rfl)
  · exact BadTr.one (fun _ _ _ _ _ _ => by kernel_rfl)
  · exact BadTr.one (fun _ _ _ _ _ _ => by kernel_rfl)
  · exact BadTr.one (fun _ _ _ _ _ _ => by kernel_rfl)
  · exact BadTr.one (fun _ _ _ _ _ _ => by kernel_rfl)
def bent_call (b a : Ex) : List D := [t [s "call", s "f", t [b.toD, a.toD], s "x"], t [s "call", s "f"], t [s "calls", s "f", t [b.toD, a.toD]], t [.none, s "f", t [b.toD, a.toD]], t [s "call"], t [s "call", .none, t [b.toD, a.toD]]]
theorem bad_call (b a : Ex) (h_b : b.tr.sz ≤ 1000) (h_a : a.tr.sz ≤ 1000) : ∀ q ∈ bent_call b a, BadTr q := by
  intro q hd
  simp only [bent_call, List.mem_cons, List.not_mem_nil, or_false] at hd
  rcases hd with rfl | rfl | rfl | rfl | rfl | rfl
  · exact BadTr.one (fun _ _ _ _ _ _ => by kernel_rfl)
  · exact BadTr.one (fun _ _ _ _ _ _ => by kernel_rfl)
  · exact BadTr.one (fun _ _ _ _ _ _ => by kernel_rfl)
  · exact BadTr.one (fun _ _ _ _ _ _ => by kernel_rfl)
  · exact BadTr.one (fun _ _ _ _ _ _ => by kernel_rfl)
  · exact BadTr.one (fun _ _ _ _ _ _ => by kernel_rfl)
def bent_ask (a : Ex) : List D := [t [s "ask", s "m", s "f", t [a.toD], s "x"], t [s "ask", s "m", s "f"], t [s "asks", s "m", s "f", t [a.toD]], t [.none, s "m", s "f", t [a.toD]], t [s "ask"], t [s "ask", .none, s "f", t [a.toD]]]
theorem bad_ask (a : Ex) (h_a : a.tr.sz ≤ 1000) : ∀ q ∈ bent_ask a, BadTr q := by
  intro q hd
  simp only [bent_ask, List.mem_cons, List.not_mem_nil, or_false] at hd
  rcases hd with rfl | rfl | rfl | rfl | rfl | rfl
  · exact BadTr.one (fun _ _ _ _ _ _ => by kernel_rfl)
  · exact BadTr.one (fun _ _ _ _ _ _ => by kernel_rfl)
  · exact BadTr.one (fun _ _ _ _ _ _ => by kernel_rfl)
  · exact BadTr.one (fun _ _ _ _ _ _ => by kernel_rfl)
  · exact BadTr.one (fun _ _ _ _ _ _ => by kernel_rfl)
  · exact BadTr.one (fun _ _ _ _ _ _ => by kernel_rfl)
def bent_rais (a : Ex) : List D := [t [s "raise", s "r", a.toD, s "x"], t [s "raise", s "r"], t [s "raises", s "r", a.toD], t [.none, s "r", a.toD], t [s "raise"], t [s "raise", .none, a.toD]]
theorem bad_rais (a : Ex) (h_a : a.tr.sz ≤ 1000) : ∀ q ∈ bent_rais a, BadTr q := by
  intro q hd
  simp only [bent_rais, List.mem_cons, List.not_mem_nil, or_false] at hd
  rcases hd with rfl | rfl | rfl | rfl | rfl | rfl
  · exact BadTr.one (fun _ _ _ _ _ _ => by kernel_rfl)
  · exact BadTr.one (fun _ _ _ _ _ _ => by kernel_rfl)
  · exact BadTr.one (fun _ _ _ _ _ _ => by kernel_rfl)
  · exact BadTr.one (fun _ _ _ _ _ _ => by kernel_rfl)
  · exact BadTr.one (fun _ _ _ _ _ _ => by kernel_rfl)
  · exact BadTr.one (fun _ _ _ _ _ _ => by kernel_rfl)
def bent_case (b a c : Ex) : List D := [t [s "case", b.toD, t [t [s "a", s "x", a.toD], t [s "b", s "y", c.toD]], .none, s "x"], t [s "case", b.toD, t [t [s "a", s "x", a.toD], t [s "b", s "y", c.toD]]], t [s "cases", b.toD, t [t [s "a", s "x", a.toD], t [s "b", s "y", c.toD]], .none], t [.none, b.toD, t [t [s "a", s "x", a.toD], t [s "b", s "y", c.toD]], .none], t [s "case"], t [s "case", .none, t [t [s "a", s "x", a.toD], t [s "b", s "y", c.toD]], .none], t [s "case", b.toD, t [], .none], t [s "case", b.toD, t [t [s "a", s "x", a.toD], t [s "a", s "x", a.toD]], .none], t [s "case", b.toD, t [t [s "a", s "x"]], .none], t [s "case", b.toD, t [t [s "or", s "x", s "x"]], .none], t [s "case", b.toD, t [t [s "a", .int 5, s "x"]], .none], t [s "case", b.toD, .none, .none]]
theorem bad_case (b a c : Ex) (h_b : b.tr.sz ≤ 1000) (h_a : a.tr.sz ≤ 1000) (h_c : c.tr.sz ≤ 1000) : ∀ q ∈ bent_case b a c, BadTr q := by
  intro q hd
  simp only [bent_case, List.mem_cons, List.not_mem_nil, or_false] at hd
  rcases hd with rfl | rfl | rfl | rfl | rfl | rfl | rfl | rfl | rfl | rfl | rfl | rfl
  · exact BadTr.one (fun _ _ _ _ _ _ => by kernel_rfl)
  · exact BadTr.one (fun _ _ _ _ _ _ => by kernel_rfl)
  · exact BadTr.one (fun _ _ _ _ _ _ => by kernel_rfl)
  · exact BadTr.one (fun _ _ _ _ _ _ => by kernel_rfl)
  · exact BadTr.one (fun _ _ _ _ _ _ => by kernel_rfl)
  · exact ⟨.node (t [s "case", .none, t [t [s "a", s "x", a.toD], t [s "b", s "y", c.toD]], .none]) [.bad (.none), a.tr, c.tr], rfl, ⟨by
      have := good_of (z := "case") (x := t [s "case", .none, t [t [s "a", s "x", a.toD], t [s "b", s "y", c.toD]], .none]) (a := [.none]) (b := [(s "x", a.toD), (s "y", c.toD)]) (.inl rfl) (by simp) (fun S => by kernel_rfl) (fun S => by kernel_rfl) (fun S => by kernel_rfl)
      simpa [bad_d, Ex.tr_d, Ex.toD] using this, ⟨(bad_of fun _ _ _ _ _ _ => by kernel_rfl), a.tr_ok, c.tr_ok, trivial⟩⟩, by first | (simp [Tr.sz, Trs.sz, Ex.tr]; done) | (simp [Tr.sz, Trs.sz, Ex.tr]; omega), fun g => by cases g <;> simp [Tr.doom, Trs.doom]⟩
  · exact BadTr.one (fun _ _ _ _ _ _ => by kernel_rfl)
  · exact BadTr.one (fun _ _ _ _ _ _ => by kernel_rfl)
  · exact BadTr.one (fun _ _ _ _ _ _ => by kernel_rfl)
  · exact BadTr.one (fun _ _ _ _ _ _ => by kernel_rfl)
  · exact BadTr.one (fun _ _ _ _ _ _ => by kernel_rfl)
  · exact BadTr.one (fun _ _ _ _ _ _ => by kernel_rfl)
def bent_caseZ (b a c d : Ex) : List D := [t [s "case", b.toD, t [t [s "a", s "x", a.toD], t [s "b", s "y", c.toD]], t [s "z", d.toD], s "x"], t [s "case", b.toD, t [t [s "a", s "x", a.toD], t [s "b", s "y", c.toD]]], t [s "cases", b.toD, t [t [s "a", s "x", a.toD], t [s "b", s "y", c.toD]], t [s "z", d.toD]], t [.none, b.toD, t [t [s "a", s "x", a.toD], t [s "b", s "y", c.toD]], t [s "z", d.toD]], t [s "case"], t [s "case", .none, t [t [s "a", s "x", a.toD], t [s "b", s "y", c.toD]], t [s "z", d.toD]], t [s "case", b.toD, t [], t [s "z", d.toD]], t [s "case", b.toD, t [t [s "a", s "x", a.toD], t [s "a", s "x", a.toD]], t [s "z", d.toD]], t [s "case", b.toD, t [t [s "a", s "x"]], t [s "z", d.toD]], t [s "case", b.toD, t [t [s "or", s "x", s "x"]], t [s "z", d.toD]], t [s "case", b.toD, t [t [s "a", .int 5, s "x"]], t [s "z", d.toD]], t [s "case", b.toD, .none, t [s "z", d.toD]]]
theorem bad_caseZ (b a c d : Ex) (h_b : b.tr.sz ≤ 1000) (h_a : a.tr.sz ≤ 1000) (h_c : c.tr.sz ≤ 1000) (h_d : d.tr.sz ≤ 1000) : ∀ q ∈ bent_caseZ b a c d, BadTr q := by
  intro q hd
  simp only [bent_caseZ, List.mem_cons, List.not_mem_nil, or_false] at hd
  rcases hd with rfl | rfl | rfl | rfl | rfl | rfl | rfl | rfl | rfl | rfl | rfl | rfl
  · exact BadTr.one (fun _ _ _ _ _ _ => by kernel_rfl)
  · exact BadTr.one (fun _ _ _ _ _ _ => by kernel_rfl)
  · exact BadTr.one (fun _ _ _ _ _ _ => by kernel_rfl)
  · exact BadTr.one (fun _ _ _ _ _ _ => by kernel_rfl)
  · exact BadTr.one (fun _ _ _ _ _ _ => by kernel_rfl)
  · exact ⟨.node (t [s "case", .none, t [t [s "a", s "x", a.toD], t [s "b", s "y", c.toD]], t [s "z", d.toD]]) [.bad (.none), a.tr, c.tr, d.tr], rfl, ⟨by
      have := good_of (z := "case") (x := t [s "case", .none, t [t [s "a", s "x", a.toD], t [s "b", s "y", c.toD]], t [s "z", d.toD]]) (a := [.none]) (b := [(s "x", a.toD), (s "y", c.toD), (s "z", d.toD)]) (.inl rfl) (by simp) (fun S => by kernel_rfl) (fun S => by kernel_rfl) (fun S => by kernel_rfl)
      simpa [bad_d, Ex.tr_d, Ex.toD] using this, ⟨(bad_of fun _ _ _ _ _ _ => by kernel_rfl), a.tr_ok, c.tr_ok, d.tr_ok, trivial⟩⟩, by first | (simp [Tr.sz, Trs.sz, Ex.tr]; done) | (simp [Tr.sz, Trs.sz, Ex.tr]; omega), fun g => by cases g <;> simp [Tr.doom, Trs.doom]⟩
  · exact BadTr.one (fun _ _ _ _ _ _ => by kernel_rfl)
  · exact BadTr.one (fun _ _ _ _ _ _ => by kernel_rfl)
  · exact BadTr.one (fun _ _ _ _ _ _ => by kernel_rfl)
  · exact BadTr.one (fun _ _ _ _ _ _ => by kernel_rfl)
  · exact BadTr.one (fun _ _ _ _ _ _ => by kernel_rfl)
  · exact BadTr.one (fun _ _ _ _ _ _ => by kernel_rfl)
def bent_pick (b c a : Ex) : List D := [t [s "pick", b.toD, t [t [s "atom", c.toD], t [t [s "tag", s "a", s "atom"], a.toD]], .none, s "x"], t [s "pick", b.toD, t [t [s "atom", c.toD], t [t [s "tag", s "a", s "atom"], a.toD]]], t [s "picks", b.toD, t [t [s "atom", c.toD], t [t [s "tag", s "a", s "atom"], a.toD]], .none], t [.none, b.toD, t [t [s "atom", c.toD], t [t [s "tag", s "a", s "atom"], a.toD]], .none], t [s "pick"], t [s "pick", .none, t [t [s "atom", c.toD], t [t [s "tag", s "a", s "atom"], a.toD]], .none], t [s "pick", b.toD, t [t [s "atom", s "x"], t [s "atom", s "y"]], .none], t [s "pick", b.toD, t [t [s "b", s "x"]], .none], t [s "pick", b.toD, t [], s "x"], t [s "pick", b.toD, t [t [t [s "tag", s "a", s "atom"], s "x"], t [.list [s "tag", s "a", s "atom"], s "y"]], .none]]
theorem bad_pick (b c a : Ex) (h_b : b.tr.sz ≤ 1000) (h_c : c.tr.sz ≤ 1000) (h_a : a.tr.sz ≤ 1000) : ∀ q ∈ bent_pick b c a, BadTr q := by
  intro q hd
  simp only [bent_pick, List.mem_cons, List.not_mem_nil, or_false] at hd
  rcases hd with rfl | rfl | rfl | rfl | rfl | rfl | rfl | rfl | rfl | rfl
  · exact BadTr.one (fun _ _ _ _ _ _ => by kernel_rfl)
  · exact BadTr.one (fun _ _ _ _ _ _ => by kernel_rfl)
  · exact BadTr.one (fun _ _ _ _ _ _ => by kernel_rfl)
  · exact BadTr.one (fun _ _ _ _ _ _ => by kernel_rfl)
  · exact BadTr.one (fun _ _ _ _ _ _ => by kernel_rfl)
  · exact ⟨.node (t [s "pick", .none, t [t [s "atom", c.toD], t [t [s "tag", s "a", s "atom"], a.toD]], .none]) [.bad (.none), c.tr, a.tr], rfl, ⟨by
      have := good_of (z := "pick") (x := t [s "pick", .none, t [t [s "atom", c.toD], t [t [s "tag", s "a", s "atom"], a.toD]], .none]) (a := [.none]) (b := [(.none, c.toD), (.none, a.toD)]) (.inl rfl) (by simp) (fun S => by kernel_rfl) (fun S => by kernel_rfl) (fun S => by kernel_rfl)
      simpa [bad_d, Ex.tr_d, Ex.toD] using this, ⟨(bad_of fun _ _ _ _ _ _ => by kernel_rfl), c.tr_ok, a.tr_ok, trivial⟩⟩, by first | (simp [Tr.sz, Trs.sz, Ex.tr]; done) | (simp [Tr.sz, Trs.sz, Ex.tr]; omega), fun g => by cases g <;> simp [Tr.doom, Trs.doom]⟩
  · exact BadTr.one (fun _ _ _ _ _ _ => by kernel_rfl)
  · exact BadTr.one (fun _ _ _ _ _ _ => by kernel_rfl)
  · exact BadTr.one (fun _ _ _ _ _ _ => by kernel_rfl)
  · exact BadTr.one (fun _ _ _ _ _ _ => by kernel_rfl)
def bent_pickE (b c a d : Ex) : List D := [t [s "pick", b.toD, t [t [s "atom", c.toD], t [t [s "tag", s "a", s "atom"], a.toD]], d.toD, s "x"], t [s "pick", b.toD, t [t [s "atom", c.toD], t [t [s "tag", s "a", s "atom"], a.toD]]], t [s "picks", b.toD, t [t [s "atom", c.toD], t [t [s "tag", s "a", s "atom"], a.toD]], d.toD], t [.none, b.toD, t [t [s "atom", c.toD], t [t [s "tag", s "a", s "atom"], a.toD]], d.toD], t [s "pick"], t [s "pick", .none, t [t [s "atom", c.toD], t [t [s "tag", s "a", s "atom"], a.toD]], d.toD], t [s "pick", b.toD, t [t [s "atom", s "x"], t [s "atom", s "y"]], .none], t [s "pick", b.toD, t [t [s "b", s "x"]], .none], t [s "pick", b.toD, t [], s "x"], t [s "pick", b.toD, t [t [t [s "tag", s "a", s "atom"], s "x"], t [.list [s "tag", s "a", s "atom"], s "y"]], .none]]
theorem bad_pickE (b c a d : Ex) (h_b : b.tr.sz ≤ 1000) (h_c : c.tr.sz ≤ 1000) (h_a : a.tr.sz ≤ 1000) (h_d : d.tr.sz ≤ 1000) : ∀ q ∈ bent_pickE b c a d, BadTr q := by
  intro q hd
  simp only [bent_pickE, List.mem_cons, List.not_mem_nil, or_false] at hd
  rcases hd with rfl | rfl | rfl | rfl | rfl | rfl | rfl | rfl | rfl | rfl
  · exact BadTr.one (fun _ _ _ _ _ _ => by kernel_rfl)
  · exact BadTr.one (fun _ _ _ _ _ _ => by kernel_rfl)
  · exact BadTr.one (fun _ _ _ _ _ _ => by kernel_rfl)
  · exact BadTr.one (fun _ _ _ _ _ _ => by kernel_rfl)
  · exact BadTr.one (fun _ _ _ _ _ _ => by kernel_rfl)
  · exact ⟨.node (t [s "pick", .none, t [t [s "atom", c.toD], t [t [s "tag", s "a", s "atom"], a.toD]], d.toD]) [.bad (.none), c.tr, a.tr, d.tr], rfl, ⟨by
      have := good_of (z := "pick") (x := t [s "pick", .none, t [t [s "atom", c.toD], t [t [s "tag", s "a", s "atom"], a.toD]], d.toD]) (a := [.none]) (b := [(.none, c.toD), (.none, a.toD), (.none, d.toD)]) (.inl rfl) (by simp) (fun S => by kernel_rfl) (fun S => by kernel_rfl) (fun S => by cases d <;> kernel_rfl)
      simpa [bad_d, Ex.tr_d, Ex.toD] using this, ⟨(bad_of fun _ _ _ _ _ _ => by kernel_rfl), c.tr_ok, a.tr_ok, d.tr_ok, trivial⟩⟩, by first | (simp [Tr.sz, Trs.sz, Ex.tr]; done) | (simp [Tr.sz, Trs.sz, Ex.tr]; omega), fun g => by cases g <;> simp [Tr.doom, Trs.doom]⟩
  · exact BadTr.one (fun _ _ _ _ _ _ => by kernel_rfl)
  · exact BadTr.one (fun _ _ _ _ _ _ => by kernel_rfl)
  · exact BadTr.one (fun _ _ _ _ _ _ => by kernel_rfl)
  · exact BadTr.one (fun _ _ _ _ _ _ => by kernel_rfl)
def bent_try_ (a b : Ex) : List D := [t [s "try", a.toD, t [t [s "r", s "x", b.toD]], s "x"], t [s "try", a.toD], t [s "trys", a.toD, t [t [s "r", s "x", b.toD]]], t [.none, a.toD, t [t [s "r", s "x", b.toD]]], t [s "try"], t [s "try", .none, t [t [s "r", s "x", b.toD]]], t [s "try", a.toD, t []], t [s "try", a.toD, t [t [s "r", s "x", b.toD], t [s "r", s "x", b.toD]]], t [s "try", a.toD, t [t [s "r", s "x"]]], t [s "try", a.toD, t [t [s "or", s "x", s "x"]]], t [s "try", a.toD, t [t [s "r", .int 5, s "x"]]], t [s "try", a.toD, .none]]
theorem bad_try_ (a b : Ex) (h_a : a.tr.sz ≤ 1000) (h_b : b.tr.sz ≤ 1000) : ∀ q ∈ bent_try_ a b, BadTr q := by
  intro q hd
  simp only [bent_try_, List.mem_cons, List.not_mem_nil, or_false] at hd
  rcases hd with rfl | rfl | rfl | rfl | rfl | rfl | rfl | rfl | rfl | rfl | rfl | rfl
  · exact BadTr.one (fun _ _ _ _ _ _ => by kernel_rfl)
  · exact BadTr.one (fun _ _ _ _ _ _ => by kernel_rfl)
  · exact BadTr.one (fun _ _ _ _ _ _ => by kernel_rfl)
  · exact BadTr.one (fun _ _ _ _ _ _ => by kernel_rfl)
  · exact BadTr.one (fun _ _ _ _ _ _ => by kernel_rfl)
  · exact ⟨.node (t [s "try", .none, t [t [s "r", s "x", b.toD]]]) [.bad (.none), b.tr], rfl, ⟨by
      have := good_of (z := "try") (x := t [s "try", .none, t [t [s "r", s "x", b.toD]]]) (a := [.none]) (b := [(s "x", b.toD)]) (.inl rfl) (by simp) (fun S => by kernel_rfl) (fun S => by kernel_rfl) (fun S => by kernel_rfl)
      simpa [bad_d, Ex.tr_d, Ex.toD] using this, ⟨(bad_of fun _ _ _ _ _ _ => by kernel_rfl), b.tr_ok, trivial⟩⟩, by first | (simp [Tr.sz, Trs.sz, Ex.tr]; done) | (simp [Tr.sz, Trs.sz, Ex.tr]; omega), fun g => by cases g <;> simp [Tr.doom, Trs.doom]⟩
  · exact BadTr.one (fun _ _ _ _ _ _ => by kernel_rfl)
  · exact BadTr.one (fun _ _ _ _ _ _ => by kernel_rfl)
  · exact BadTr.one (fun _ _ _ _ _ _ => by kernel_rfl)
  · exact BadTr.one (fun _ _ _ _ _ _ => by kernel_rfl)
  · exact BadTr.one (fun _ _ _ _ _ _ => by kernel_rfl)
  · exact BadTr.one (fun _ _ _ _ _ _ => by kernel_rfl)
def bent_either (b a c : Ex) : List D := [t [s "either", t [b.toD, a.toD, c.toD], s "x"], t [s "either"], t [s "eithers", t [b.toD, a.toD, c.toD]], t [.none, t [b.toD, a.toD, c.toD]], t [s "either"], t [s "either", .none], t [s "either", t [b.toD]], t [s "either", t []], t [s "either", s "xy"], t [s "either", t [b.toD, .none]]]
theorem bad_either (b a c : Ex) (h_b : b.tr.sz ≤ 1000) (h_a : a.tr.sz ≤ 1000) (h_c : c.tr.sz ≤ 1000) : ∀ q ∈ bent_either b a c, BadTr q := by
  intro q hd
  simp only [bent_either, List.mem_cons, List.not_mem_nil, or_false] at hd
  rcases hd with rfl | rfl | rfl | rfl | rfl | rfl | rfl | rfl | rfl | rfl
  · exact BadTr.one (fun _ _ _ _ _ _ => by kernel_rfl)
  · exact BadTr.one (fun _ _ _ _ _ _ => by kernel_rfl)
  · exact BadTr.one (fun _ _ _ _ _ _ => by kernel_rfl)
  · exact BadTr.one (fun _ _ _ _ _ _ => by kernel_rfl)
  · exact BadTr.one (fun _ _ _ _ _ _ => by kernel_rfl)
  · exact BadTr.one (fun _ _ _ _ _ _ => by kernel_rfl)
  · exact BadTr.one (fun _ _ _ _ _ _ => by kernel_rfl)
  · exact BadTr.one (fun _ _ _ _ _ _ => by kernel_rfl)
  · exact BadTr.one (fun _ _ _ _ _ _ => by kernel_rfl)
  · exact ⟨.node (t [s "either", t [b.toD, .none]]) [b.tr, .bad (.none)], rfl, ⟨by
      have := good_of (z := "either") (x := t [s "either", t [b.toD, .none]]) (a := []) (b := [(.none, b.toD), (.none, .none)]) (.inl rfl) (by simp) (fun S => by kernel_rfl) (fun S => by kernel_rfl) (fun S => by kernel_rfl)
      simpa [bad_d, Ex.tr_d, Ex.toD] using this, ⟨b.tr_ok, (bad_of fun _ _ _ _ _ _ => by kernel_rfl), trivial⟩⟩, by first | (simp [Tr.sz, Trs.sz, Ex.tr]; done) | (simp [Tr.sz, Trs.sz, Ex.tr]; omega), fun g => by cases g <;> simp [Tr.doom, Trs.doom]⟩
def bent_put (a : Ex) : List D := [t [s "put", s "s", a.toD, s "x"], t [s "put", s "s"], t [s "puts", s "s", a.toD], t [.none, s "s", a.toD], t [s "put"], t [s "put", .none, a.toD]]
theorem bad_put (a : Ex) (h_a : a.tr.sz ≤ 1000) : ∀ q ∈ bent_put a, BadTr q := by
  intro q hd
  simp only [bent_put, List.mem_cons, List.not_mem_nil, or_false] at hd
  rcases hd with rfl | rfl | rfl | rfl | rfl | rfl
  · exact BadTr.one (fun _ _ _ _ _ _ => by kernel_rfl)
  · exact BadTr.one (fun _ _ _ _ _ _ => by kernel_rfl)
  · exact BadTr.one (fun _ _ _ _ _ _ => by kernel_rfl)
  · exact BadTr.one (fun _ _ _ _ _ _ => by kernel_rfl)
  · exact BadTr.one (fun _ _ _ _ _ _ => by kernel_rfl)
  · exact BadTr.one (fun _ _ _ _ _ _ => by kernel_rfl)
end DL.k02
namespace DL.k02
open PySem PySem.Spec PyProof.Rows L2 DL

theorem mix_small {m a : Int} (h1 : 0 ≤ m) (h2 : m < 2147483648) (h3 : 0 ≤ a) (h4 : a < 1048576) : 0 ≤ m * (2 * a + 163) + 47741 * a * a + 97 ∧ m * (2 * a + 163) + 47741 * a * a + 97 < 18446744073709551616 := by
  have p1 : m * (2 * a + 163) ≤ 2147483648 * 2097315 := Int.mul_le_mul (by omega) (by omega) (by omega) (by omega)
  have p2 : 0 ≤ m * (2 * a + 163) := Int.mul_nonneg h1 (by omega)
  have p3 : 47741 * a * a ≤ 47741 * 1048576 * 1048576 := Int.mul_le_mul (by omega) (by omega) (by omega) (by omega)
  have p4 : 0 ≤ 47741 * a * a := Int.mul_nonneg (by omega) h3
  omega
theorem draw : Draws F__law_draw := by
  rintro S n c many ⟨cs, at_, rest, h, h1, h2, h3, h4⟩ hc hm hM
  have e0 : itemM (.r n) (.d (.int 0)) S = .ok (.d (.list (cs.map .int))) S := item_r h rfl
  have e1 : itemM (.r n) (.d (.int 1)) S = .ok (.d (.int at_)) S := item_r h rfl
  have e2 : itemM (.r n) (.d (.int 2)) S = .ok (.d (.int rest)) S := item_r h rfl
  have s1 : ∀ v : W, setItemM (.r n) (.d (.int 1)) v S = .ok () (S.set n (.lst [.d (.list (cs.map .int)), v, .d (.int rest)])) := fun v => by
    unfold setItemM; simp only [h, penO]; rfl
  have s2 : ∀ v : W, setItemM (.r n) (.d (.int 2)) v S = .ok () (S.set n (.lst [.d (.list (cs.map .int)), .d (.int at_), v])) := fun v => by
    unfold setItemM; simp only [h, penO]; rfl
  have c1 : 0 < many ∧ many < 1073741824 := ⟨by omega, hM⟩
  have c0 : 0 < many := c1.1
  refine if hr : 0 < rest then ?_ else ?_
  · refine ⟨rest % many, penO cs at_ (rest / many), ?_, Int.emod_nonneg _ (by omega), Int.emod_lt_of_pos _ (by omega), ⟨cs, at_, rest / many, set_at h, h1, by omega, Int.ediv_nonneg (by omega) (by omega), h4⟩⟩
    unfold F__law_draw b__law_draw st__law_draw_1 st__law_draw_2 st__law_draw_3 st__law_draw_4 st__law_draw_5 st__law_draw_6 st__law_draw_7 st__law_draw_8 st__law_draw_9
    refine run_rt rfl ?_
    simp [seqM, ifM, valT, binM, consM, nilM, calM, asgM, setG, retM, bd, pr, varM, cM, e2, gtM, okb, boolOf, hr, intM, subSM, fdvM, modM, c1, s2, penO]
  · -- the state behind pen[1] = at + 1
    have hS1 : (S.set n (penO cs (at_ + 1) rest))[n]? = some (penO cs (at_ + 1) rest) := set_at h
    generalize hS : S.set n (penO cs (at_ + 1) rest) = S1 at hS1
    have f0 : itemM (.r n) (.d (.int 0)) S1 = .ok (.d (.list (cs.map .int))) S1 := item_r hS1 rfl
    have t2 : ∀ v : W, setItemM (.r n) (.d (.int 2)) v S1 = .ok () (S1.set n (.lst [.d (.list (cs.map .int)), .d (.int (at_ + 1)), v])) := fun v => by
      unfold setItemM; simp only [hS1, penO]; rfl
    have back : ∀ o, S1.set n o = S.set n o := fun o => by rw [← hS, set_set]
    -- the cell
    have cell : ∃ C : Int, (ifM (valT (binM (binM (varM 0) (cM (.int 0)) itemM) (fun δ => bd (nilM δ) lstM) neM)) (asgM (binM (binM (varM 0) (cM (.int 0)) itemM) (binM (varM 3) (calM (consM (binM (varM 0) (cM (.int 0)) itemM) nilM) lenDM) modM) itemM) (setG 4)) skipM)
        [some (.r n), some (.d (.int many)), none, some (.d (.int at_)), some (.d (.int (72101 * at_ + 31607))), none] S1 = .ok (.nx [some (.r n), some (.d (.int many)), none, some (.d (.int at_)), some (.d (.int C)), none]) S1 := by
      cases cs with
      | nil => exact ⟨72101 * at_ + 31607, by simp [ifM, valT, binM, consM, nilM, calM, asgM, setG, bd, pr, varM, cM, okb, boolOf, f0, neM, isNil, lstM, allD, seqOf]⟩
      | cons x xs =>
        have hl : (0 : Int) < ((x :: xs).length : Int) := by simp
        have hi : ∃ C : Int, atI ((x :: xs).map PyData.int) (at_ % ((x :: xs).length : Int)) = some (.int C) := by
          obtain ⟨d, hd, e⟩ := atI_ok (xs := (x :: xs).map PyData.int) (Int.emod_nonneg at_ (by omega : ((x :: xs).length : Int) ≠ 0)) (by rw [List.length_map]; exact Int.emod_lt_of_pos _ hl)
          obtain ⟨C, _, rfl⟩ := List.mem_map.mp hd
          exact ⟨C, e⟩
        obtain ⟨C, hC⟩ := hi
        refine ⟨C, ?_⟩
        have := item_l (S := S1) hC
        simp only [List.length_cons, Int.natCast_add, Int.cast_ofNat_Int] at this
        simp [ifM, valT, binM, consM, nilM, calM, asgM, setG, bd, pr, varM, cM, okb, boolOf, f0, neM, isNil, lstM, allD, seqOf, lenDM, lenM, modM]
        simp at this
        simp [this]
    obtain ⟨C, hC⟩ := cell
    have key : ∃ k o, F__law_draw [.r n, .d (.int many)] S = .ok (.d (.int k)) (S.set n o) ∧ 0 ≤ k ∧ k < many ∧ (∃ r', o = penO cs (at_ + 1) r' ∧ 0 ≤ r') := by
      by_cases hg : at_ < (cs.length : Int) ∧ (10 : Int) ^ 18 ≤ (if C < 0 then -C else C)
      · obtain ⟨hq, hq2⟩ := hg
        generalize hB : (if C < 0 then -C else C) = B at hq2
        have hr2 : 0 ≤ 2 * (B - 10 ^ 18) + (if C < 0 then 1 else 0) := by split <;> omega
        generalize hR : 2 * (B - 10 ^ 18) + (if C < 0 then 1 else 0) = R at hr2
        refine ⟨R % many, penO cs (at_ + 1) (R / many), ?_, Int.emod_nonneg _ (by omega), Int.emod_lt_of_pos _ (by omega), _, rfl, Int.ediv_nonneg hr2 (by omega)⟩
        unfold F__law_draw b__law_draw st__law_draw_1 st__law_draw_2 st__law_draw_3 st__law_draw_4 st__law_draw_5 st__law_draw_6 st__law_draw_7 st__law_draw_8 st__law_draw_9
        refine run_rt rfl ?_
        refine Eq.trans (seq_nx (δ' := [some (.r n), some (.d (.int many)), none, none, none, none]) (S' := S) (by
          simp [seqM, ifM, valT, andT, binM, consM, nilM, calM, asgM, setG, retM, bd, pr, varM, cM, skipM, gtM, ltM, geM, okb, boolOf, hr, intM, absM, subSM, fdvM, modM, mulM, addM, subM, powM, c1, c0, e0, e1, e2, s1, f0, t2, lenDM, lenM, seqOf, penO])) ?_
        refine Eq.trans (seq_nx (δ' := [some (.r n), some (.d (.int many)), none, some (.d (.int at_)), none, none]) (S' := S) (by
          simp [seqM, ifM, valT, andT, binM, consM, nilM, calM, asgM, setG, retM, bd, pr, varM, cM, skipM, gtM, ltM, geM, okb, boolOf, hr, intM, absM, subSM, fdvM, modM, mulM, addM, subM, powM, c1, c0, e0, e1, e2, s1, f0, t2, lenDM, lenM, seqOf, penO])) ?_
        refine Eq.trans (seq_nx (δ' := [some (.r n), some (.d (.int many)), none, some (.d (.int at_)), none, none]) (S' := S1) (by
          rw [← hS]; simp [seqM, ifM, valT, andT, binM, consM, nilM, calM, asgM, setG, retM, bd, pr, varM, cM, skipM, gtM, ltM, geM, okb, boolOf, hr, intM, absM, subSM, fdvM, modM, mulM, addM, subM, powM, c1, c0, e0, e1, e2, s1, f0, t2, lenDM, lenM, seqOf, penO])) ?_
        refine Eq.trans (seq_nx (δ' := [some (.r n), some (.d (.int many)), none, some (.d (.int at_)), some (.d (.int (72101 * at_ + 31607))), none]) (S' := S1) (by
          simp [seqM, ifM, valT, andT, binM, consM, nilM, calM, asgM, setG, retM, bd, pr, varM, cM, skipM, gtM, ltM, geM, okb, boolOf, hr, intM, absM, subSM, fdvM, modM, mulM, addM, subM, powM, c1, c0, e0, e1, e2, s1, f0, t2, lenDM, lenM, seqOf, penO])) ?_
        refine Eq.trans (seq_nx hC) ?_
        refine seq_rt ?_
        simp only [show (10 : Int) ^ 18 = 1000000000000000000 from rfl] at hq2 hR
        rw [← back]
        simp [seqM, ifM, valT, andT, binM, consM, nilM, calM, asgM, setG, retM, bd, pr, varM, cM, skipM, gtM, ltM, geM, okb, boolOf, hr, intM, absM, subSM, fdvM, modM, mulM, addM, subM, powM, c1, c0, e0, e1, e2, s1, f0, t2, lenDM, lenM, seqOf, penO, hq, hB, hq2, hR]
      · have b1 := Int.emod_nonneg C (by omega : (2147483563 : Int) ≠ 0)
        have b2 := Int.emod_lt_of_pos C (by omega : (0 : Int) < 2147483563)
        have q1 : (C % 2147483563 + 65071 * at_ + 4513).natAbs < 18446744073709551616 := by omega
        have b3 := Int.emod_nonneg ((C % 2147483563 + 65071 * at_ + 4513) ^ 3) (by omega : (2147483629 : Int) ≠ 0)
        have b4 := Int.emod_lt_of_pos ((C % 2147483563 + 65071 * at_ + 4513) ^ 3) (by omega : (0 : Int) < 2147483629)
        generalize hm1 : (C % 2147483563 + 65071 * at_ + 4513) ^ 3 % 2147483629 = m1 at b3 b4
        have b5 := mix_small b3 (by omega : m1 < 2147483648) h1 (by omega)
        have q2 : (m1 * (2 * at_ + 163) + 47741 * at_ * at_ + 97).natAbs < 18446744073709551616 := by omega
        generalize hm2 : m1 * (2 * at_ + 163) + 47741 * at_ * at_ + 97 = m2 at b5 q2
        refine ⟨m2 ^ 3 % 2147483549 / 64 % many, penO cs (at_ + 1) rest, ?_, Int.emod_nonneg _ (by omega), Int.emod_lt_of_pos _ (by omega), _, rfl, h3⟩
        unfold F__law_draw b__law_draw st__law_draw_1 st__law_draw_2 st__law_draw_3 st__law_draw_4 st__law_draw_5 st__law_draw_6 st__law_draw_7 st__law_draw_8 st__law_draw_9
        refine run_rt rfl ?_
        refine Eq.trans (seq_nx (δ' := [some (.r n), some (.d (.int many)), none, none, none, none]) (S' := S) (by
          simp [seqM, ifM, valT, andT, binM, consM, nilM, calM, asgM, setG, retM, bd, pr, varM, cM, skipM, gtM, ltM, geM, okb, boolOf, hr, intM, absM, subSM, fdvM, modM, mulM, addM, subM, powM, c1, c0, e0, e1, e2, s1, f0, t2, lenDM, lenM, seqOf, penO])) ?_
        refine Eq.trans (seq_nx (δ' := [some (.r n), some (.d (.int many)), none, some (.d (.int at_)), none, none]) (S' := S) (by
          simp [seqM, ifM, valT, andT, binM, consM, nilM, calM, asgM, setG, retM, bd, pr, varM, cM, skipM, gtM, ltM, geM, okb, boolOf, hr, intM, absM, subSM, fdvM, modM, mulM, addM, subM, powM, c1, c0, e0, e1, e2, s1, f0, t2, lenDM, lenM, seqOf, penO])) ?_
        refine Eq.trans (seq_nx (δ' := [some (.r n), some (.d (.int many)), none, some (.d (.int at_)), none, none]) (S' := S1) (by
          rw [← hS]; simp [seqM, ifM, valT, andT, binM, consM, nilM, calM, asgM, setG, retM, bd, pr, varM, cM, skipM, gtM, ltM, geM, okb, boolOf, hr, intM, absM, subSM, fdvM, modM, mulM, addM, subM, powM, c1, c0, e0, e1, e2, s1, f0, t2, lenDM, lenM, seqOf, penO])) ?_
        refine Eq.trans (seq_nx (δ' := [some (.r n), some (.d (.int many)), none, some (.d (.int at_)), some (.d (.int (72101 * at_ + 31607))), none]) (S' := S1) (by
          simp [seqM, ifM, valT, andT, binM, consM, nilM, calM, asgM, setG, retM, bd, pr, varM, cM, skipM, gtM, ltM, geM, okb, boolOf, hr, intM, absM, subSM, fdvM, modM, mulM, addM, subM, powM, c1, c0, e0, e1, e2, s1, f0, t2, lenDM, lenM, seqOf, penO])) ?_
        refine Eq.trans (seq_nx hC) ?_
        refine Eq.trans (seq_nx (δ' := [some (.r n), some (.d (.int many)), none, some (.d (.int at_)), some (.d (.int C)), none]) (S' := S1) (by
          by_cases hq : at_ < (cs.length : Int)
          · have hq2 : ¬ (10 : Int) ^ 18 ≤ (if C < 0 then -C else C) := fun z => hg ⟨hq, z⟩
            simp only [show (10 : Int) ^ 18 = 1000000000000000000 from rfl] at hq2
            simp [seqM, ifM, valT, andT, binM, consM, nilM, calM, asgM, setG, retM, bd, pr, varM, cM, skipM, gtM, ltM, geM, okb, boolOf, hr, intM, absM, subSM, fdvM, modM, mulM, addM, subM, powM, c1, c0, e0, e1, e2, s1, f0, t2, lenDM, lenM, seqOf, penO, hq, hq2]
          · simp [seqM, ifM, valT, andT, binM, consM, nilM, calM, asgM, setG, retM, bd, pr, varM, cM, skipM, gtM, ltM, geM, okb, boolOf, hr, intM, absM, subSM, fdvM, modM, mulM, addM, subM, powM, c1, c0, e0, e1, e2, s1, f0, t2, lenDM, lenM, seqOf, penO, hq])) ?_
        refine Eq.trans (seq_nx (δ' := [some (.r n), some (.d (.int many)), none, some (.d (.int at_)), some (.d (.int C)), some (.d (.int m1))]) (S' := S1) (by
          simp [seqM, ifM, valT, andT, binM, consM, nilM, calM, asgM, setG, retM, bd, pr, varM, cM, skipM, gtM, ltM, geM, okb, boolOf, hr, intM, absM, subSM, fdvM, modM, mulM, addM, subM, powM, c1, c0, e0, e1, e2, s1, f0, t2, lenDM, lenM, seqOf, penO, q1, hm1])) ?_
        refine Eq.trans (seq_nx (δ' := [some (.r n), some (.d (.int many)), none, some (.d (.int at_)), some (.d (.int C)), some (.d (.int (m2 ^ 3 % 2147483549)))]) (S' := S1) (by
          have w1 : (-18446744073709551616 < m1 ∧ m1 < 18446744073709551616) := by constructor <;> omega
          have w2 : (-18446744073709551616 < at_ ∧ at_ < 18446744073709551616) := by constructor <;> omega
          simp [seqM, ifM, valT, andT, binM, consM, nilM, calM, asgM, setG, retM, bd, pr, varM, cM, skipM, gtM, ltM, geM, okb, boolOf, hr, intM, absM, subSM, fdvM, modM, mulM, addM, subM, powM, c1, c0, e0, e1, e2, s1, f0, t2, lenDM, lenM, seqOf, penO, w1, w2, hm2, q2])) ?_
        rw [hS]
        simp [seqM, ifM, valT, andT, binM, consM, nilM, calM, asgM, setG, retM, bd, pr, varM, cM, skipM, gtM, ltM, geM, okb, boolOf, hr, intM, absM, subSM, fdvM, modM, mulM, addM, subM, powM, c1, c0, e0, e1, e2, s1, f0, t2, lenDM, lenM, seqOf, penO]
    obtain ⟨k, o, e, k1, k2, r', rfl, k3⟩ := key
    exact ⟨k, _, e, k1, k2, ⟨cs, at_ + 1, r', set_at h, by omega, by omega, k3, h4⟩⟩
end DL.k02
namespace DL.k02
open PySem PySem.Spec PyProof.Rows L2 DL

theorem once_ok (us : List Str) (h : us.length ≤ 1000000) (S : Sto) : F__law_once [.d (.list (us.map s))] S = .ok (.d (.list ((uniq us).map s))) S := by
  unfold F__law_once
  refine pure_ex (ds := [.list (us.map s)]) rfl ⟨[.dct (kv (uniq us))], run_rt rfl ?_⟩
  unfold b__law_once st__law_once_1
  have hc : compL [1] (setG 1) yesT (fun δ => bd ((consM (varM 1) (consM (cM (.bool true)) nilM)) δ) tupM) ((us.map s).map .d) [some (.d (.list (us.map s))), none] [] = .ok ((us.map fun z => PyData.tuple [.str z, .bool true]).map .d) [] := by
    have := comp_all (own := [1]) (g := setG 1) (e := fun δ => bd ((consM (varM 1) (consM (cM (.bool true)) nilM)) δ) tupM) (δ := [some (.d (.list (us.map s))), none]) (S := [])
      (fun w => match w with | .d k => .d (.tuple [k, .bool true]) | w => w) (ws := (us.map s).map .d) (fun w hw => by
        obtain ⟨k, _, rfl⟩ := List.mem_map.mp hw
        exact ⟨_, rfl, rfl⟩)
    rw [this]
    simp only [List.map_map]
    rfl
  refine ret_ok (cal_ok (ws := [.r 0]) (S' := [.dct (kv (uniq us))]) (cons_ok (S1 := [.dct (kv (uniq us))]) (cal_ok (ws := [.d (.list (us.map fun z => PyData.tuple [.str z, .bool true]))]) (S' := []) (cons_ok (S1 := []) ?_ rfl) (dict_ok us [])) rfl) (listD_ok (n := 0) rfl))
  unfold lcM
  refine Eq.trans (bd_ok (a := (us.map s).map .d) (S' := []) rfl) ?_
  refine Eq.trans (bd_ok hc) ?_
  exact small_lst (by rw [List.length_map]; exact h)
theorem pick_ok {S : Sto} {n : Nat} {c : Int} {ds : List D} (h : Pen S n c) (hc : c < 1048576) (h1 : ds ≠ []) (h2 : ds.length < 1000) : ∃ d ∈ ds, ∃ o, F__law_pick [.r n, .d (.list ds)] S = .ok (.d d) (S.set n o) ∧ Pen (S.set n o) n (c + 1) := by
  have hp : 0 < ds.length := List.length_pos_iff.mpr h1
  obtain ⟨k, o, e, k1, k2, hp'⟩ := draw S n c (ds.length : Int) h hc (by omega) (by omega)
  obtain ⟨d, hd, ha⟩ := atI_ok k1 k2
  refine ⟨d, hd, o, ?_, hp'⟩
  unfold F__law_pick
  refine run_rt rfl ?_
  unfold b__law_pick st__law_pick_1
  refine ret_ok (bin_ok (x := .d (.list ds)) (y := .d (.int k)) (S1 := S) (S2 := S.set n o) rfl (cal_ok (ws := [.r n, .d (.int (ds.length : Int))]) (S' := S) (cons_ok (S1 := S) rfl (cons_ok (S1 := S) ?_ rfl)) (noEx_ok e)) (item_l ha))
  refine cal_ok (ws := [.d (.list ds)]) (S' := S) rfl ?_
  simp [lenDM, lenM, seqOf]
/-! ### forms -/
theorem ex_dep (e : Ex) (m : Nat) (h : ∀ k ∈ e.kids, k.toD.depth ≤ m) : e.toD.depth ≤ max 5 (m + 3) := by
  cases e <;> simp [Ex.kids, Ex.strict, Ex.later] at h <;> simp [Ex.toD, PyData.depth, PyData.depthAll] <;> omega
theorem ex_nd (e : Ex) (h : ∀ k ∈ e.kids, nd k.toD = true) : nd e.toD = true := by
  cases e <;> simp [Ex.kids, Ex.strict, Ex.later] at h <;> simp [Ex.toD, nd, ndA, h]
structure Fit2 (k : Nat) (e : Ex) : Prop where
  sz : e.tr.sz ≤ 4 * k + 1
  doom : e.tr.doom (k + 1) = false
  dep : e.toD.depth ≤ 3 * k + 5
  nd : nd e.toD = true
theorem Trs.doom_of : ∀ {ks : List Tr} {g : Nat}, (∀ k ∈ ks, k.doom g = false) → Trs.doom ks g = false
  | [], _, _ => rfl
  | k :: ks, g, h => by
    simp only [Trs.doom, Bool.or_eq_false_iff]
    exact ⟨h k (by simp), Trs.doom_of fun q hq => h q (by simp [hq])⟩
theorem Fit2.mono {k k' : Nat} {e : Ex} (h : Fit2 k e) (hk : k ≤ k') : Fit2 k' e := ⟨by have := h.sz; omega, Tr.doom_le h.doom (by omega), by have := h.dep; omega, h.nd⟩
theorem Fit2.of {k : Nat} {e : Ex} (h : ∀ q ∈ e.kids, Fit2 k q) (hs : szs e.kids ≤ 4 * k + 4) : Fit2 (k + 1) e := by
  refine ⟨by rw [e.sz_eq]; simp only [szs] at hs; omega, ?_, ?_, ex_nd e fun q hq => (h q hq).nd⟩
  · rw [Ex.tr_eq]
    simp only [Tr.doom]
    refine Trs.doom_of fun T hT => ?_
    obtain ⟨q, hq, rfl⟩ := List.mem_map.mp hT
    exact (h q hq).doom
  · have := ex_dep e (3 * k + 5) fun q hq => (h q hq).dep
    omega
theorem Fit2.leaf {k : Nat} {e : Ex} (h : e.kids = []) : Fit2 k e := by
  refine ⟨by rw [e.sz_eq, h]; simp [Trs.sz], ?_, ?_, ex_nd e fun q hq => by rw [h] at hq; cases hq⟩
  · rw [Ex.tr_eq, h]; simp only [Tr.doom, List.map_nil, Trs.doom]
  · have := ex_dep e 0 fun q hq => by rw [h] at hq; cases hq
    omega
/-- what may stand at the top -/
def Ex.top : Ex → Bool
  | .rec0 | .tagA _ | .tagB _ | .woutA _ => false
  | _ => true
def Leaf (e : Ex) : Prop := e = .atom ∨ e = .x ∨ e = .y ∨ e = .rec0
theorem Leaf.kids {e : Ex} (h : Leaf e) : e.kids = [] := by rcases h with rfl | rfl | rfl | rfl <;> rfl
theorem Leaf.sz {e : Ex} (h : Leaf e) : e.tr.sz = 1 := by rcases h with rfl | rfl | rfl | rfl <;> rfl
theorem leaf_of {d : D} (h : d ∈ [s "atom", s "x", s "y", t [s "record", t []]]) : ∃ e, Leaf e ∧ e.toD = d := by
  simp only [List.mem_cons, List.not_mem_nil, or_false] at h
  rcases h with rfl | rfl | rfl | rfl
  · exact ⟨.atom, .inl rfl, rfl⟩
  · exact ⟨.x, .inr (.inl rfl), rfl⟩
  · exact ⟨.y, .inr (.inr (.inl rfl)), rfl⟩
  · exact ⟨.rec0, .inr (.inr (.inr rfl)), rfl⟩
theorem comp_yes {own : List Nat} {g : W → Env → M Env} {e : Env → M W} {w : W} {ws ys : List W} {y : W} {δ δ1 : Env} {S S1 S2 : Sto} (h1 : g w (wipeE δ own) S = .ok δ1 S) (h2 : e δ1 S = .ok y S1) (h3 : compL own g yesT e ws δ S1 = .ok ys S2) : compL own g yesT e (w :: ws) δ S = .ok (y :: ys) S2 := by
  conv => lhs; unfold compL
  rw [bd_ok (noEx_ok h1), bd_ok (noEx_ok (show yesT δ1 S = .ok true S from rfl)), if_pos rfl, bd_ok (noEx_ok h2), bd_ok h3]
  rfl
abbrev leaves : List D := [s "atom", s "x", s "y", t [s "record", t []]]
abbrev frameF (n : Nat) (k : Int) (a b c : Option W) : Env := [some (.r n), some (.d (.int k)), a, b, c]
/-- way and e -/
theorem form_2 {R : List W → M W} {S : Sto} {n k : Nat} {c : Int} (h : Pen S n c) (hc : c + 16 * (k + 2) < 1048576) (hR : ∀ S c, Pen S n c → c + 16 * (k + 1) < 1048576 → ∃ e o, R [.r n, .d (.int (k : Int))] S = .ok (.d e.toD) (S.set n o) ∧ Pen (S.set n o) n (c + 8 * (k + 1)) ∧ Fit2 k e) (hk : k ≤ 5) :
    ∃ (w : Int) (e0 l1 l2 l3 : Ex) (o : Ob), st__law_form_2 R (frameF n ((k + 1 : Nat) : Int) none none none) S = .ok (.nx (frameF n ((k + 1 : Nat) : Int) (some (.d (.int w))) (some (.d (.list [e0.toD, l1.toD, l2.toD, l3.toD]))) none)) (S.set n o) ∧ 0 ≤ w ∧ w < 14 ∧ Fit2 k e0 ∧ Leaf l1 ∧ Leaf l2 ∧ Leaf l3 ∧ Pen (S.set n o) n (c + 8 * (k + 1) + 4) := by
  obtain ⟨w, o1, e1, w1, w2, p1⟩ := draw S n c 14 h (by omega) (by omega) (by omega)
  obtain ⟨e0, o2, e2, p2, f2⟩ := hR _ _ p1 (by omega)
  rw [set_set] at e2 p2
  obtain ⟨d1, m1, o3, e3, p3⟩ := pick_ok (ds := leaves) p2 (by omega) (by simp) (by simp)
  rw [set_set] at e3 p3
  obtain ⟨d2, m2, o4, e4, p4⟩ := pick_ok (ds := leaves) p3 (by omega) (by simp) (by simp)
  rw [set_set] at e4 p4
  obtain ⟨d3, m3, o5, e5, p5⟩ := pick_ok (ds := leaves) p4 (by omega) (by simp) (by simp)
  rw [set_set] at e5 p5
  obtain ⟨l1, q1, rfl⟩ := leaf_of m1
  obtain ⟨l2, q2, rfl⟩ := leaf_of m2
  obtain ⟨l3, q3, rfl⟩ := leaf_of m3
  refine ⟨w, e0, l1, l2, l3, o5, ?_, w1, w2, f2, q1, q2, q3, p5.mono (by omega)⟩
  unfold st__law_form_2
  have hsub : binM (varM 1) (cM (.int 1)) subM (frameF n ((k + 1 : Nat) : Int) none none none) (S.set n o1) = .ok (.d (.int (k : Int))) (S.set n o1) := by
    simp [binM, bd, pr, varM, cM, subM]
  have elt : ∀ (S : Sto) (w : Option W), consM (varM 0) (consM (fun δ => bd ((consM (cM (.str "atom")) (consM (cM (.str "x")) (consM (cM (.str "y")) (consM (fun δ => bd ((consM (cM (.str "record")) (consM (fun δ => bd (nilM δ) tupM) nilM)) δ) tupM) nilM)))) δ) lstM) nilM) (frameF n ((k + 1 : Nat) : Int) none none w) S = .ok [.r n, .d (.list leaves)] S := fun S w => rfl
  have hl : lcM [4] (fun δ => bd ((consM (cM (.int 3)) nilM) δ) rng1M) (setG 4) yesT (calM (consM (varM 0) (consM (fun δ => bd ((consM (cM (.str "atom")) (consM (cM (.str "x")) (consM (cM (.str "y")) (consM (fun δ => bd ((consM (cM (.str "record")) (consM (fun δ => bd (nilM δ) tupM) nilM)) δ) tupM) nilM)))) δ) lstM) nilM)) fun ws => noEx (F__law_pick ws)) (frameF n ((k + 1 : Nat) : Int) none none none) (S.set n o2) =
      .ok (.d (.list [l1.toD, l2.toD, l3.toD])) (S.set n o5) := by
    unfold lcM
    refine Eq.trans (bd_ok (a := [.d (.int (0 + (0 : Nat))), .d (.int (0 + (1 : Nat))), .d (.int (0 + (2 : Nat)))]) (S' := S.set n o2) rfl) ?_
    refine Eq.trans (bd_ok (a := [.d l1.toD, .d l2.toD, .d l3.toD]) (S' := S.set n o5) ?_) rfl
    exact comp_yes rfl (cal_ok (elt _ _) (noEx_ok e3)) (comp_yes rfl (cal_ok (elt _ _) (noEx_ok e4)) (comp_yes rfl (cal_ok (elt _ _) (noEx_ok e5)) rfl))
  unfold parM
  refine Eq.trans (bd_ok (cons_ok (x := .d (.int w)) (S1 := S.set n o1) (cal_ok (ws := [.r n, .d (.int 14)]) (S' := S) rfl (noEx_ok e1)) (cons_ok (x := .d (.list [e0.toD, l1.toD, l2.toD, l3.toD])) (S1 := S.set n o5) (bin_ok (x := .d (.list [e0.toD])) (y := .d (.list [l1.toD, l2.toD, l3.toD])) (S1 := S.set n o2) (S2 := S.set n o5) ?_ hl rfl) rfl))) rfl
  refine Eq.trans (bd_ok (cons_ok (x := .d e0.toD) (S1 := S.set n o2) (cal_ok (ws := [.r n, .d (.int (k : Int))]) (S' := S.set n o1) (cons_ok (S1 := S.set n o1) rfl (cons_ok (S1 := S.set n o1) hsub rfl)) (noEx_ok e2)) rfl)) rfl
end DL.k02
namespace DL.k02
open PySem PySem.Spec PyProof.Rows L2 DL

theorem set_same {S : Sto} {n : Nat} {o : Ob} (h : S[n]? = some o) : S.set n o = S := by
  obtain ⟨hl, e⟩ := List.getElem?_eq_some_iff.mp h
  rw [← e]
  exact List.set_getElem_self hl
def ways (R : List W → M W) : Env → M Fl := seqM (st__law_form_3 R) (seqM (st__law_form_4 R) (seqM (st__law_form_5 R) (seqM (st__law_form_6 R) (st__law_form_7 R))))
theorem ways_ok {R : List W → M W} {S : Sto} {n k : Nat} {c w : Int} {e0 l1 l2 l3 : Ex} (h : Pen S n c) (hc : c < 1048576) (w1 : 0 ≤ w) (w2 : w < 14) (f0 : Fit2 k e0) (q1 : Leaf l1) (q2 : Leaf l2) (q3 : Leaf l3) (K : Int) :
    ∃ (e : Ex) (o : Ob), ways R (frameF n K (some (.d (.int w))) (some (.d (.list [e0.toD, l1.toD, l2.toD, l3.toD]))) none) S = .ok (.rt (.d e.toD)) (S.set n o) ∧ Pen (S.set n o) n (c + 1) ∧ Fit2 (k + 1) e ∧ e.top = true := by
  have g1 : Fit2 k l1 := Fit2.leaf q1.kids
  have g2 : Fit2 k l2 := Fit2.leaf q2.kids
  have g3 : Fit2 k l3 := Fit2.leaf q3.kids
  have z0 := f0.sz
  have z1 := q1.sz
  have z2 := q2.sz
  have z3 := q3.sz
  obtain ⟨o0, ho⟩ : ∃ o, S[n]? = some o := by obtain ⟨_, _, _, q, _⟩ := h.ex; exact ⟨_, q⟩
  have hS : S.set n o0 = S := set_same ho
  have stay : Pen (S.set n o0) n (c + 1) := by rw [hS]; exact h.mono (by omega)
  unfold ways
  have hw : w = 0 ∨ w = 1 ∨ w = 2 ∨ w = 3 ∨ w = 4 ∨ w = 5 ∨ w = 6 ∨ w = 7 ∨ w = 8 ∨ w = 9 ∨ w = 10 ∨ w = 11 ∨ w = 12 ∨ w = 13 := by omega
  rcases hw with rfl | rfl | rfl | rfl | rfl | rfl | rfl | rfl | rfl | rfl | rfl | rfl | rfl | rfl
  · refine ⟨.rec2 e0 l1, o0, ?_, stay, Fit2.of (by simp [Ex.kids, Ex.strict, Ex.later]; exact ⟨f0, g1⟩) (by simp [szs, Trs.sz, Ex.kids, Ex.strict, Ex.later, z1, z2, z3]; omega), rfl⟩
    rw [hS]
    exact seq_rt (by kernel_rfl)
  · refine ⟨.field e0, o0, ?_, stay, Fit2.of (by simp [Ex.kids, Ex.strict, Ex.later]; exact f0) (by simp [szs, Trs.sz, Ex.kids, Ex.strict, Ex.later, z1, z2, z3]; omega), rfl⟩
    rw [hS]
    exact seq_rt (by kernel_rfl)
  · refine ⟨.wth l1 e0, o0, ?_, stay, Fit2.of (by simp [Ex.kids, Ex.strict, Ex.later]; exact ⟨g1, f0⟩) (by simp [szs, Trs.sz, Ex.kids, Ex.strict, Ex.later, z1, z2, z3]; omega), rfl⟩
    rw [hS]
    exact seq_rt (by kernel_rfl)
  · refine ⟨.wout e0, o0, ?_, stay, Fit2.of (by simp [Ex.kids, Ex.strict, Ex.later]; exact f0) (by simp [szs, Trs.sz, Ex.kids, Ex.strict, Ex.later, z1, z2, z3]; omega), rfl⟩
    rw [hS]
    exact seq_rt (by kernel_rfl)
  · refine ⟨.has l1 e0 l2, o0, ?_, stay, Fit2.of (by simp [Ex.kids, Ex.strict, Ex.later]; exact ⟨g1, f0, g2⟩) (by simp [szs, Trs.sz, Ex.kids, Ex.strict, Ex.later, z1, z2, z3]; omega), rfl⟩
    rw [hS]
    exact seq_rt (by kernel_rfl)
  · refine ⟨.tag e0, o0, ?_, stay, Fit2.of (by simp [Ex.kids, Ex.strict, Ex.later]; exact f0) (by simp [szs, Trs.sz, Ex.kids, Ex.strict, Ex.later, z1, z2, z3]; omega), rfl⟩
    rw [hS]
    exact seq_rt (by kernel_rfl)
  · refine ⟨.let_ l1 e0, o0, ?_, stay, Fit2.of (by simp [Ex.kids, Ex.strict, Ex.later]; exact ⟨g1, f0⟩) (by simp [szs, Trs.sz, Ex.kids, Ex.strict, Ex.later, z1, z2, z3]; omega), rfl⟩
    rw [hS]
    exact seq_rt (by kernel_rfl)
  · refine ⟨.call l1 e0, o0, ?_, stay, Fit2.of (by simp [Ex.kids, Ex.strict, Ex.later]; exact ⟨g1, f0⟩) (by simp [szs, Trs.sz, Ex.kids, Ex.strict, Ex.later, z1, z2, z3]; omega), rfl⟩
    rw [hS]
    rw [seq_nx (S' := S) (δ' := frameF n K (some (.d (.int 7))) (some (.d (.list [e0.toD, l1.toD, l2.toD, l3.toD]))) none) (by kernel_rfl)]
    exact seq_rt (by kernel_rfl)
  · refine ⟨.ask e0, o0, ?_, stay, Fit2.of (by simp [Ex.kids, Ex.strict, Ex.later]; exact f0) (by simp [szs, Trs.sz, Ex.kids, Ex.strict, Ex.later, z1, z2, z3]; omega), rfl⟩
    rw [hS]
    rw [seq_nx (S' := S) (δ' := frameF n K (some (.d (.int 8))) (some (.d (.list [e0.toD, l1.toD, l2.toD, l3.toD]))) none) (by kernel_rfl)]
    exact seq_rt (by kernel_rfl)
  · refine ⟨.rais e0, o0, ?_, stay, Fit2.of (by simp [Ex.kids, Ex.strict, Ex.later]; exact f0) (by simp [szs, Trs.sz, Ex.kids, Ex.strict, Ex.later, z1, z2, z3]; omega), rfl⟩
    rw [hS]
    rw [seq_nx (S' := S) (δ' := frameF n K (some (.d (.int 9))) (some (.d (.list [e0.toD, l1.toD, l2.toD, l3.toD]))) none) (by kernel_rfl)]
    exact seq_rt (by kernel_rfl)
  · obtain ⟨d, hd, o, e, p⟩ := pick_ok (ds := [.none, t [s "z", l3.toD]]) h hc (by simp) (by simp)
    have key : ∃ E : Ex, E.toD = (t [s "case", l1.toD, t [t [s "a", s "x", e0.toD], t [s "b", s "y", l2.toD]], d]) ∧ Fit2 (k + 1) E ∧ E.top = true := by
      simp only [List.mem_cons, List.not_mem_nil, or_false] at hd
      rcases hd with rfl | rfl
      · exact ⟨.case l1 e0 l2, rfl, Fit2.of (by simp [Ex.kids, Ex.strict, Ex.later]; exact ⟨g1, f0, g2⟩) (by simp [szs, Trs.sz, Ex.kids, Ex.strict, Ex.later, z1, z2, z3]; omega), rfl⟩
      · exact ⟨.caseZ l1 e0 l2 l3, rfl, Fit2.of (by simp [Ex.kids, Ex.strict, Ex.later]; exact ⟨g1, f0, g2, g3⟩) (by simp [szs, Trs.sz, Ex.kids, Ex.strict, Ex.later, z1, z2, z3]; omega), rfl⟩
    obtain ⟨E, hE, hf, htop⟩ := key
    refine ⟨E, o, ?_, p, hf, htop⟩
    rw [seq_nx (S' := S) (δ' := frameF n K (some (.d (.int 10))) (some (.d (.list [e0.toD, l1.toD, l2.toD, l3.toD]))) none) (by kernel_rfl)]
    rw [seq_nx (S' := S) (δ' := frameF n K (some (.d (.int 10))) (some (.d (.list [e0.toD, l1.toD, l2.toD, l3.toD]))) none) (by kernel_rfl)]
    refine seq_rt ?_
    unfold st__law_form_5
    rw [if_t (S' := S) (by kernel_rfl)]
    refine ret_ok ?_
    rw [hE]
    refine Eq.trans (bd_ok (a := [.d (s "case"), .d l1.toD, .d (t [t [s "a", s "x", e0.toD], t [s "b", s "y", l2.toD]]), .d d]) (S' := S.set n o) ?_) rfl
    refine cons_ok (S1 := S) rfl (cons_ok (x := .d l1.toD) (S1 := S) rfl (cons_ok (x := .d (t [t [s "a", s "x", e0.toD], t [s "b", s "y", l2.toD]])) (S1 := S) rfl (cons_ok (S1 := S.set n o) (cal_ok (ws := [.r n, .d (.list [.none, t [s "z", l3.toD]])]) (S' := S) rfl (noEx_ok e)) rfl)))
  · obtain ⟨d, hd, o, e, p⟩ := pick_ok (ds := [.none, l3.toD]) h hc (by simp) (by simp)
    have key : ∃ E : Ex, E.toD = (t [s "pick", l1.toD, t [t [s "atom", l2.toD], t [t [s "tag", s "a", s "atom"], e0.toD]], d]) ∧ Fit2 (k + 1) E ∧ E.top = true := by
      simp only [List.mem_cons, List.not_mem_nil, or_false] at hd
      rcases hd with rfl | rfl
      · exact ⟨.pick l1 l2 e0, rfl, Fit2.of (by simp [Ex.kids, Ex.strict, Ex.later]; exact ⟨g1, g2, f0⟩) (by simp [szs, Trs.sz, Ex.kids, Ex.strict, Ex.later, z1, z2, z3]; omega), rfl⟩
      · exact ⟨.pickE l1 l2 e0 l3, rfl, Fit2.of (by simp [Ex.kids, Ex.strict, Ex.later]; exact ⟨g1, g2, f0, g3⟩) (by simp [szs, Trs.sz, Ex.kids, Ex.strict, Ex.later, z1, z2, z3]; omega), rfl⟩
    obtain ⟨E, hE, hf, htop⟩ := key
    refine ⟨E, o, ?_, p, hf, htop⟩
    rw [seq_nx (S' := S) (δ' := frameF n K (some (.d (.int 11))) (some (.d (.list [e0.toD, l1.toD, l2.toD, l3.toD]))) none) (by kernel_rfl)]
    rw [seq_nx (S' := S) (δ' := frameF n K (some (.d (.int 11))) (some (.d (.list [e0.toD, l1.toD, l2.toD, l3.toD]))) none) (by kernel_rfl)]
    rw [seq_nx (S' := S) (δ' := frameF n K (some (.d (.int 11))) (some (.d (.list [e0.toD, l1.toD, l2.toD, l3.toD]))) none) (by kernel_rfl)]
    refine seq_rt ?_
    unfold st__law_form_6
    rw [if_t (S' := S) (by kernel_rfl)]
    refine ret_ok ?_
    rw [hE]
    refine Eq.trans (bd_ok (a := [.d (s "pick"), .d l1.toD, .d (t [t [s "atom", l2.toD], t [t [s "tag", s "a", s "atom"], e0.toD]]), .d d]) (S' := S.set n o) ?_) rfl
    refine cons_ok (S1 := S) rfl (cons_ok (x := .d l1.toD) (S1 := S) rfl (cons_ok (x := .d (t [t [s "atom", l2.toD], t [t [s "tag", s "a", s "atom"], e0.toD]])) (S1 := S) rfl (cons_ok (S1 := S.set n o) (cal_ok (ws := [.r n, .d (.list [.none, l3.toD])]) (S' := S) rfl (noEx_ok e)) rfl)))
  · refine ⟨.try_ e0 l1, o0, ?_, stay, Fit2.of (by simp [Ex.kids, Ex.strict, Ex.later]; exact ⟨f0, g1⟩) (by simp [szs, Trs.sz, Ex.kids, Ex.strict, Ex.later, z1, z2, z3]; omega), rfl⟩
    rw [hS]
    rw [seq_nx (S' := S) (δ' := frameF n K (some (.d (.int 12))) (some (.d (.list [e0.toD, l1.toD, l2.toD, l3.toD]))) none) (by kernel_rfl)]
    rw [seq_nx (S' := S) (δ' := frameF n K (some (.d (.int 12))) (some (.d (.list [e0.toD, l1.toD, l2.toD, l3.toD]))) none) (by kernel_rfl)]
    rw [seq_nx (S' := S) (δ' := frameF n K (some (.d (.int 12))) (some (.d (.list [e0.toD, l1.toD, l2.toD, l3.toD]))) none) (by kernel_rfl)]
    rw [seq_nx (S' := S) (δ' := frameF n K (some (.d (.int 12))) (some (.d (.list [e0.toD, l1.toD, l2.toD, l3.toD]))) none) (by kernel_rfl)]
    unfold st__law_form_7
    exact ret_ok (by kernel_rfl)
  · obtain ⟨d, hd, o, e, p⟩ := pick_ok (ds := [t [s "either", t [l1.toD, e0.toD, l2.toD]], t [s "put", s "s", e0.toD]]) h hc (by simp) (by simp)
    have key : ∃ E : Ex, E.toD = d ∧ Fit2 (k + 1) E ∧ E.top = true := by
      simp only [List.mem_cons, List.not_mem_nil, or_false] at hd
      rcases hd with rfl | rfl
      · exact ⟨.either l1 e0 l2, rfl, Fit2.of (by simp [Ex.kids, Ex.strict, Ex.later]; exact ⟨g1, f0, g2⟩) (by simp [szs, Trs.sz, Ex.kids, Ex.strict, Ex.later, z1, z2, z3]; omega), rfl⟩
      · exact ⟨.put e0, rfl, Fit2.of (by simp [Ex.kids, Ex.strict, Ex.later]; exact f0) (by simp [szs, Trs.sz, Ex.kids, Ex.strict, Ex.later, z1, z2, z3]; omega), rfl⟩
    obtain ⟨E, rfl, hf, htop⟩ := key
    refine ⟨E, o, ?_, p, hf, htop⟩
    rw [seq_nx (S' := S) (δ' := frameF n K (some (.d (.int 13))) (some (.d (.list [e0.toD, l1.toD, l2.toD, l3.toD]))) none) (by kernel_rfl)]
    rw [seq_nx (S' := S) (δ' := frameF n K (some (.d (.int 13))) (some (.d (.list [e0.toD, l1.toD, l2.toD, l3.toD]))) none) (by kernel_rfl)]
    rw [seq_nx (S' := S) (δ' := frameF n K (some (.d (.int 13))) (some (.d (.list [e0.toD, l1.toD, l2.toD, l3.toD]))) none) (by kernel_rfl)]
    rw [seq_nx (S' := S) (δ' := frameF n K (some (.d (.int 13))) (some (.d (.list [e0.toD, l1.toD, l2.toD, l3.toD]))) none) (by kernel_rfl)]
    unfold st__law_form_7
    refine ret_ok ?_
    refine Eq.trans (bd_ok (a := false) (S' := S) (by kernel_rfl)) ?_
    rw [if_neg Bool.false_ne_true]
    exact cal_ok (ws := [.r n, .d (.list [t [s "either", t [l1.toD, e0.toD, l2.toD]], t [s "put", s "s", e0.toD]])]) (S' := S) rfl (noEx_ok e)
theorem form_all : ∀ (k m : Nat), k ≤ 6 → k + 1 ≤ m → ∀ (S : Sto) (n : Nat) (c : Int), Pen S n c → c + 16 * (k + 1) < 1048576 → ∃ e o, F__law_form m [.r n, .d (.int (k : Int))] S = .ok (.d e.toD) (S.set n o) ∧ Pen (S.set n o) n (c + 8 * (k + 1)) ∧ Fit2 k e ∧ e.top = true
  | _, 0, _, h => absurd h (by omega)
  | 0, m + 1, _, _ => fun S n c h hc => by
    obtain ⟨d, hd, o, e, p⟩ := pick_ok (ds := [s "atom", s "x", s "y", s "zz", t [s "get", s "s"]]) h (by omega) (by simp) (by simp)
    have key : ∃ E : Ex, E.toD = d ∧ Fit2 0 E ∧ E.top = true := by
      simp only [List.mem_cons, List.not_mem_nil, or_false] at hd
      rcases hd with rfl | rfl | rfl | rfl | rfl
      · exact ⟨.atom, rfl, Fit2.leaf rfl, rfl⟩
      · exact ⟨.x, rfl, Fit2.leaf rfl, rfl⟩
      · exact ⟨.y, rfl, Fit2.leaf rfl, rfl⟩
      · exact ⟨.zz, rfl, Fit2.leaf rfl, rfl⟩
      · exact ⟨.get, rfl, Fit2.leaf rfl, rfl⟩
    obtain ⟨E, rfl, hf, htop⟩ := key
    refine ⟨E, o, ?_, p.mono (by omega), hf, htop⟩
    show runD 2 5 (b__law_form (F__law_form m)) _ S = _
    refine run_rt rfl ?_
    unfold b__law_form
    refine seq_rt ?_
    unfold st__law_form_1
    rw [if_t (S' := S) (by kernel_rfl)]
    exact ret_ok (cal_ok (ws := [.r n, .d (.list [s "atom", s "x", s "y", s "zz", t [s "get", s "s"]])]) (S' := S) rfl (noEx_ok e))
  | k + 1, m + 1, hk, hm => fun S n c h hc => by
    obtain ⟨w, e0, l1, l2, l3, o1, h2, w1, w2, f0, q1, q2, q3, p1⟩ := form_2 (R := F__law_form m) (k := k) h (by omega) (fun S c hp hc => by
      obtain ⟨e, o, h1, h2, h3, _⟩ := form_all k m (by omega) (by omega) S n c hp hc
      exact ⟨e, o, h1, h2, h3⟩) (by omega)
    obtain ⟨e, o2, h3, p2, hf, ht⟩ := ways_ok (R := F__law_form m) p1 (by omega) w1 w2 f0 q1 q2 q3 ((k + 1 : Nat) : Int)
    rw [set_set] at h3 p2
    refine ⟨e, o2, ?_, p2.mono (by omega), hf, ht⟩
    show runD 2 5 (b__law_form (F__law_form m)) _ S = _
    refine run_rt rfl ?_
    unfold b__law_form
    have h1 : st__law_form_1 (F__law_form m) (frameF n ((k + 1 : Nat) : Int) none none none) S = .ok (.nx (frameF n ((k + 1 : Nat) : Int) none none none)) S := by
      unfold st__law_form_1
      have he : eqM (.d (.int ((k + 1 : Nat) : Int))) (.d (.int 0)) S = .ok (okb false) S := by
        rw [eq_d (by intro q; cases q) (by simp [PyData.depth]) (by simp only [nd]) (by simp only [nd]), PyData.eqv]
        rw [show (((k + 1 : Nat) : Int) == 0) = false by simp; omega]
      rw [if_f (S' := S) (val_ok (bin_ok (S1 := S) (S2 := S) rfl rfl he))]
      rfl
    refine Eq.trans (seq_nx h1) (Eq.trans (seq_nx h2) h3)
end DL.k02
namespace DL.k02
open PySem PySem.Spec PyProof.Rows L2 DL

theorem bent_run {S : Sto} {n : Nat} {c : Int} {x w : D} {ds : List D} {arm : Option W} (h : Pen S n c) (hc : c < 1048576) (h1 : ds ≠ []) (h2 : ds.length < 1000) (hb : ∀ q ∈ ds, BadTr q)
    (he : b__law_bent (frameB n x none none none) S = st__law_bent_9 (frameB n x (some (.d w)) (some (.d (.list ds))) arm) S) : ∃ d o, BadTr d ∧ F__law_bent [.r n, .d x] S = .ok (.d d) (S.set n o) ∧ Pen (S.set n o) n (c + 1) := by
  obtain ⟨d, hd, o, e, p⟩ := pick_ok h hc h1 h2
  refine ⟨d, o, hb d hd, ?_, p⟩
  unfold F__law_bent
  refine run_rt rfl (Eq.trans he ?_)
  unfold st__law_bent_9
  exact ret_ok (cal_ok (ws := [.r n, .d (.list ds)]) (S' := S) rfl (noEx_ok e))
theorem bent_str {S : Sto} {n : Nat} {c : Int} {z : Str} (h : Pen S n c) (hc : c < 1048576) : ∃ d o, BadTr d ∧ F__law_bent [.r n, .d (s z)] S = .ok (.d d) (S.set n o) ∧ Pen (S.set n o) n (c + 1) := by
  obtain ⟨d, hd, o, e, p⟩ := pick_ok (ds := bentS) h hc (by simp [bentS]) (by simp [bentS])
  refine ⟨d, o, bentS_bad d hd, ?_, p⟩
  unfold F__law_bent
  refine run_rt rfl ?_
  unfold b__law_bent
  refine seq_rt ?_
  unfold st__law_bent_1
  rw [if_t (S' := S) (by kernel_rfl)]
  exact ret_ok (cal_ok (ws := [.r n, .d (.list bentS)]) (S' := S) (by kernel_rfl) (noEx_ok e))
theorem kid_sz {e k : Ex} {m : Nat} (h : e.tr.sz ≤ m) (hk : k ∈ e.kids) : k.tr.sz ≤ m := by
  have := e.sz_eq
  have h2 : k.tr.sz ≤ szs e.kids := by
    rw [szs_sum]
    have : ∀ (l : List Ex), k ∈ l → k.tr.sz ≤ (l.map fun k => k.tr.sz).sum := by
      intro l
      induction l with
      | nil => intro h; cases h
      | cons x l ihl =>
        intro hm
        simp only [List.map_cons, List.sum_cons]
        rcases List.mem_cons.mp hm with rfl | hm
        · omega
        · have := ihl hm; omega
    exact this _ hk
  simp only [szs] at h2
  omega
theorem bent_ok (e : Ex) (ht : e.top = true) (hs : e.tr.sz ≤ 1000) {S : Sto} {n : Nat} {c : Int} (h : Pen S n c) (hc : c < 1048576) : ∃ d o, BadTr d ∧ F__law_bent [.r n, .d e.toD] S = .ok (.d d) (S.set n o) ∧ Pen (S.set n o) n (c + 1) := by
  cases e
  case atom => exact bent_str h hc
  case x => exact bent_str h hc
  case y => exact bent_str h hc
  case zz => exact bent_str h hc
  case rec0 => cases ht
  case tagA => cases ht
  case tagB => cases ht
  case woutA => cases ht
  case get => exact bent_run (w := s "get") (ds := bent_get) (arm := none) h hc (by simp [bent_get]) (by simp [bent_get]) (bad_get) (by kernel_rfl)
  case rec2 a b => exact bent_run (w := s "record") (ds := bent_rec2 a b) (arm := none) h hc (by simp [bent_rec2]) (by simp [bent_rec2]) (bad_rec2 a b (kid_sz hs (by simp [Ex.kids, Ex.strict, Ex.later])) (kid_sz hs (by simp [Ex.kids, Ex.strict, Ex.later]))) (by kernel_rfl)
  case field a => exact bent_run (w := s "field") (ds := bent_field a) (arm := none) h hc (by simp [bent_field]) (by simp [bent_field]) (bad_field a (kid_sz hs (by simp [Ex.kids, Ex.strict, Ex.later]))) (by kernel_rfl)
  case wth b a => exact bent_run (w := s "with") (ds := bent_wth b a) (arm := none) h hc (by simp [bent_wth]) (by simp [bent_wth]) (bad_wth b a (kid_sz hs (by simp [Ex.kids, Ex.strict, Ex.later])) (kid_sz hs (by simp [Ex.kids, Ex.strict, Ex.later]))) (by kernel_rfl)
  case wout a => exact bent_run (w := s "without") (ds := bent_wout a) (arm := none) h hc (by simp [bent_wout]) (by simp [bent_wout]) (bad_wout a (kid_sz hs (by simp [Ex.kids, Ex.strict, Ex.later]))) (by kernel_rfl)
  case has b a c => exact bent_run (w := s "has") (ds := bent_has b a c) (arm := none) h hc (by simp [bent_has]) (by simp [bent_has]) (bad_has b a c (kid_sz hs (by simp [Ex.kids, Ex.strict, Ex.later])) (kid_sz hs (by simp [Ex.kids, Ex.strict, Ex.later])) (kid_sz hs (by simp [Ex.kids, Ex.strict, Ex.later]))) (by kernel_rfl)
  case tag a => exact bent_run (w := s "tag") (ds := bent_tag a) (arm := none) h hc (by simp [bent_tag]) (by simp [bent_tag]) (bad_tag a (kid_sz hs (by simp [Ex.kids, Ex.strict, Ex.later]))) (by kernel_rfl)
  case let_ b a => exact bent_run (w := s "let") (ds := bent_let_ b a) (arm := none) h hc (by simp [bent_let_]) (by simp [bent_let_]) (bad_let_ b a (kid_sz hs (by simp [Ex.kids, Ex.strict, Ex.later])) (kid_sz hs (by simp [Ex.kids, Ex.strict, Ex.later]))) (by kernel_rfl)
  case call b a => exact bent_run (w := s "call") (ds := bent_call b a) (arm := none) h hc (by simp [bent_call]) (by simp [bent_call]) (bad_call b a (kid_sz hs (by simp [Ex.kids, Ex.strict, Ex.later])) (kid_sz hs (by simp [Ex.kids, Ex.strict, Ex.later]))) (by kernel_rfl)
  case ask a => exact bent_run (w := s "ask") (ds := bent_ask a) (arm := none) h hc (by simp [bent_ask]) (by simp [bent_ask]) (bad_ask a (kid_sz hs (by simp [Ex.kids, Ex.strict, Ex.later]))) (by kernel_rfl)
  case rais a => exact bent_run (w := s "raise") (ds := bent_rais a) (arm := none) h hc (by simp [bent_rais]) (by simp [bent_rais]) (bad_rais a (kid_sz hs (by simp [Ex.kids, Ex.strict, Ex.later]))) (by kernel_rfl)
  case case b a c => exact bent_run (w := s "case") (ds := bent_case b a c) (arm := (some (.d (t [s "a", s "x", a.toD])))) h hc (by simp [bent_case]) (by simp [bent_case]) (bad_case b a c (kid_sz hs (by simp [Ex.kids, Ex.strict, Ex.later])) (kid_sz hs (by simp [Ex.kids, Ex.strict, Ex.later])) (kid_sz hs (by simp [Ex.kids, Ex.strict, Ex.later]))) (by kernel_rfl)
  case caseZ b a c d => exact bent_run (w := s "case") (ds := bent_caseZ b a c d) (arm := (some (.d (t [s "a", s "x", a.toD])))) h hc (by simp [bent_caseZ]) (by simp [bent_caseZ]) (bad_caseZ b a c d (kid_sz hs (by simp [Ex.kids, Ex.strict, Ex.later])) (kid_sz hs (by simp [Ex.kids, Ex.strict, Ex.later])) (kid_sz hs (by simp [Ex.kids, Ex.strict, Ex.later])) (kid_sz hs (by simp [Ex.kids, Ex.strict, Ex.later]))) (by kernel_rfl)
  case pick b c a => exact bent_run (w := s "pick") (ds := bent_pick b c a) (arm := none) h hc (by simp [bent_pick]) (by simp [bent_pick]) (bad_pick b c a (kid_sz hs (by simp [Ex.kids, Ex.strict, Ex.later])) (kid_sz hs (by simp [Ex.kids, Ex.strict, Ex.later])) (kid_sz hs (by simp [Ex.kids, Ex.strict, Ex.later]))) (by kernel_rfl)
  case pickE b c a d => exact bent_run (w := s "pick") (ds := bent_pickE b c a d) (arm := none) h hc (by simp [bent_pickE]) (by simp [bent_pickE]) (bad_pickE b c a d (kid_sz hs (by simp [Ex.kids, Ex.strict, Ex.later])) (kid_sz hs (by simp [Ex.kids, Ex.strict, Ex.later])) (kid_sz hs (by simp [Ex.kids, Ex.strict, Ex.later])) (kid_sz hs (by simp [Ex.kids, Ex.strict, Ex.later]))) (by kernel_rfl)
  case try_ a b => exact bent_run (w := s "try") (ds := bent_try_ a b) (arm := (some (.d (t [s "r", s "x", b.toD])))) h hc (by simp [bent_try_]) (by simp [bent_try_]) (bad_try_ a b (kid_sz hs (by simp [Ex.kids, Ex.strict, Ex.later])) (kid_sz hs (by simp [Ex.kids, Ex.strict, Ex.later]))) (by kernel_rfl)
  case either b a c => exact bent_run (w := s "either") (ds := bent_either b a c) (arm := none) h hc (by simp [bent_either]) (by simp [bent_either]) (bad_either b a c (kid_sz hs (by simp [Ex.kids, Ex.strict, Ex.later])) (kid_sz hs (by simp [Ex.kids, Ex.strict, Ex.later])) (kid_sz hs (by simp [Ex.kids, Ex.strict, Ex.later]))) (by kernel_rfl)
  case put a => exact bent_run (w := s "put") (ds := bent_put a) (arm := none) h hc (by simp [bent_put]) (by simp [bent_put]) (bad_put a (kid_sz hs (by simp [Ex.kids, Ex.strict, Ex.later]))) (by kernel_rfl)
end DL.k02
namespace DL.k02
open PySem PySem.Spec PyProof.Rows L2 DL

theorem pre_up : ∀ (g : Nat) (e : Ex) (d : Nat), e.tr.doom g = false → pre (g + 1) e d = pre g e d
  | 0, e, _, h => by rw [Ex.doom_0] at h; cases h
  | g + 1, e, d, h => by
    have key : ∀ k ∈ e.kids, pre (g + 1) k (d + 1) = pre g k (d + 1) := fun k hk => pre_up g k (d + 1) (Ex.doom_kid h hk)
    show (e, d) :: e.kids.flatMap (fun k => pre (g + 1) k (d + 1)) = (e, d) :: e.kids.flatMap (fun k => pre g k (d + 1))
    congr 1
    have : ∀ (l : List Ex), (∀ k ∈ l, k ∈ e.kids) → l.flatMap (fun k => pre (g + 1) k (d + 1)) = l.flatMap (fun k => pre g k (d + 1)) := by
      intro l
      induction l with
      | nil => intro _; rfl
      | cons x l ih =>
        intro hl
        simp only [List.flatMap_cons]
        rw [key x (hl x (by simp)), ih fun k hk => hl k (by simp [hk])]
    exact this _ fun _ h => h
theorem pre_le {g g' : Nat} {e : Ex} {d : Nat} (h : e.tr.doom g = false) (hg : g ≤ g') : pre g' e d = pre g e d := by
  obtain ⟨k, rfl⟩ := Nat.le.dest hg
  induction k with
  | zero => rfl
  | succ k ih => rw [show g + (k + 1) = (g + k) + 1 by omega, pre_up _ _ _ (Tr.doom_le h (by omega)), ih (by omega)]
theorem flat_len_eq {α β : Type} (f : α → List β) (m : α → Nat) : ∀ (l : List α), (∀ x ∈ l, (f x).length = m x) → (l.flatMap f).length = (l.map m).sum
  | [], _ => by simp
  | x :: l, h => by
    have := h x (by simp)
    have := flat_len_eq f m l fun y hy => h y (by simp [hy])
    simp only [List.flatMap_cons, List.length_append, List.map_cons, List.sum_cons]
    omega
theorem pre_len : ∀ (g : Nat) (e : Ex) (d : Nat), e.tr.doom g = false → (pre g e d).length = e.tr.sz
  | 0, e, _, h => by rw [Ex.doom_0] at h; cases h
  | g + 1, e, d, h => by
    have := flat_len_eq (fun k => pre g k (d + 1)) (fun k => k.tr.sz) e.kids fun k hk => pre_len g k (d + 1) (Ex.doom_kid h hk)
    rw [e.sz_eq]
    show _ = 1 + szs e.kids
    rw [szs_sum, ← this]
    simp only [pre, List.length_cons]
    omega
/-! ### the pen -/
theorem pen_ok (ns : List Int) (h : ns.length ≤ 63) : ∃ cs : List Int, cs.length ≤ 63 ∧ F__law_pen [.s ns] [] = .ok (.r 0) [penO cs 0 0] := by
  have hl : (cutL ns none (some 63)).length ≤ 63 := by
    unfold cutL
    rw [List.length_take, List.length_drop]
    omega
  refine ⟨cutL ns none (some 63), hl, ?_⟩
  generalize hcs : cutL ns none (some 63) = cs at hl
  unfold F__law_pen
  refine run_rt rfl ?_
  unfold b__law_pen st__law_pen_1
  have hc : compL [1] (setG 1) yesT (calM (consM (varM 1) nilM) intM) ((cs.map PyData.int).map .d) [some (.s ns), none] [] = .ok ((cs.map PyData.int).map .d) [] := by
    have := comp_all (own := [1]) (g := setG 1) (e := calM (consM (varM 1) nilM) intM) (δ := [some (.s ns), none]) (S := []) (fun w => w) (ws := (cs.map PyData.int).map .d) (fun w hw => by
      obtain ⟨k, hk, rfl⟩ := List.mem_map.mp hw
      obtain ⟨i, _, rfl⟩ := List.mem_map.mp hk
      exact ⟨_, rfl, rfl⟩)
    rw [this, List.map_id']
  refine ret_ok (Eq.trans (bd_ok (a := [.d (.list (cs.map .int)), .d (.int 0), .d (.int 0)]) (S' := []) (cons_ok (S1 := []) ?_ rfl)) rfl)
  unfold lcM
  refine Eq.trans (bd_ok (a := (cs.map PyData.int).map .d) (S' := []) ?_) ?_
  · rw [← hcs]; rfl
  refine Eq.trans (bd_ok hc) ?_
  exact small_lst (by rw [List.length_map]; omega)
/-! ### a turn -/
theorem is_expr_ok (e : Ex) (hd : e.tr.doom 20 = false) (hs : e.tr.sz ≤ 20000) (S : Sto) : F_is_expr [.d e.toD] S = .ok (okb true) S := by
  have := is_expr_tr e.tr e.tr_ok hs S
  rw [Ex.tr_d, hd] at this
  exact this
theorem is_expr_list {e : Ex} {ds : List D} (h : e.toD = t ds) (hd : e.tr.doom 20 = false) (hs : e.tr.sz ≤ 20000) (S : Sto) : F_is_expr [.d (.list ds)] S = .ok (okb true) S := by
  have ho := e.tr_ok
  rw [Ex.tr_eq] at hd ho hs
  simp only [Tr.ok] at ho
  have := is_expr_tr (.node (.list ds) (e.kids.map Ex.tr)) (by
    simp only [Tr.ok]
    exact ⟨by rw [tr_ds]; exact e.goodL h, ho.2⟩) hs S
  rw [show (Tr.node (.list ds) (e.kids.map Ex.tr)).doom 20 = (Tr.node e.toD (e.kids.map Ex.tr)).doom 20 from rfl, hd] at this
  exact this
theorem bad_1 {x : D} (h : BadTr x) (S : Sto) : F_is_expr [.d x] S = .ok (okb false) S := by
  obtain ⟨T, rfl, ho, hs, hd⟩ := h
  rw [is_expr_tr T ho (by omega) S, hd]
  rfl
theorem bad_2 {x : D} (h : BadTr x) (S : Sto) : F_is_expr [.d (t [s "tag", s "a", x])] S = .ok (okb false) S := by
  obtain ⟨T, rfl, ho, hs, hd⟩ := h
  have := is_expr_tr (.node (t [s "tag", s "a", T.d]) [T]) (by
    refine ⟨?_, ho, trivial⟩
    have := good_of (z := "tag") (x := t [s "tag", s "a", T.d]) (a := [T.d]) (b := []) (.inl rfl) (by simp) (fun S => by kernel_rfl) (fun S => by kernel_rfl) (fun S => by kernel_rfl)
    simpa using this) (by simp [Tr.sz, Trs.sz]; omega) S
  rw [show (Tr.node (t [s "tag", s "a", T.d]) [T]).doom 20 = true by simp [Tr.doom, Trs.doom, hd]] at this
  exact this
theorem bad_3 {x : D} (h : BadTr x) (S : Sto) : F_is_expr [.d (t [s "either", t [s "x", s "x", x]])] S = .ok (okb false) S := by
  obtain ⟨T, rfl, ho, hs, hd⟩ := h
  have := is_expr_tr (.node (t [s "either", t [s "x", s "x", T.d]]) [Ex.x.tr, Ex.x.tr, T]) (by
    refine ⟨?_, Ex.tr_ok _, Ex.tr_ok _, ho, trivial⟩
    have := good_of (z := "either") (x := t [s "either", t [s "x", s "x", T.d]]) (a := []) (b := [(.none, s "x"), (.none, s "x"), (.none, T.d)]) (.inl rfl) (by simp) (fun S => by kernel_rfl) (fun S => by kernel_rfl) (fun S => by kernel_rfl)
    simpa [Ex.tr_d, Ex.toD] using this) (by simp [Tr.sz, Trs.sz, Ex.tr]; omega) S
  rw [show (Tr.node (t [s "either", t [s "x", s "x", T.d]]) [Ex.x.tr, Ex.x.tr, T]).doom 20 = true by simp [Tr.doom, Trs.doom, hd]] at this
  exact this
abbrev frameL (sc tn ex rw du bd dp pt kn : Option W) : Env := [sc, some (.r 0), tn, ex, rw, du, bd, dp, pt, kn]
theorem turn_2 {S : Sto} {c : Int} (h : Pen S 0 c) (hc : c + 200 < 1048576) (sc tn ex rw du bd dp pt kn : Option W) :
    ∃ e o, st_law_2 (frameL sc tn ex rw du bd dp pt kn) S = .ok (.nx (frameL sc tn (some (.d e.toD)) rw du bd dp pt kn)) (S.set 0 o) ∧ Pen (S.set 0 o) 0 (c + 60) ∧ Fit2 5 e ∧ e.top = true := by
  obtain ⟨k, o1, e1, k1, k2, p1⟩ := draw S 0 c 6 h (by omega) (by omega) (by omega)
  obtain ⟨kk, rfl⟩ : ∃ kk : Nat, k = (kk : Int) := ⟨k.toNat, by omega⟩
  obtain ⟨e, o2, e2, p2, hf, ht⟩ := form_all kk 7 (by omega) (by omega) _ _ _ p1 (by omega)
  rw [set_set] at e2 p2
  refine ⟨e, o2, ?_, p2.mono (by omega), hf.mono (by omega), ht⟩
  unfold st_law_2
  exact asg_ok (cal_ok (ws := [.r 0, .d (.int (kk : Int))]) (S' := S.set 0 o1) (cons_ok (S1 := S) rfl (cons_ok (S1 := S.set 0 o1) (cal_ok (ws := [.r 0, .d (.int 6)]) (S' := S) rfl (noEx_ok e1)) rfl)) (noEx_ok e2))
theorem turn_3 {S : Sto} {c : Int} {e : Ex} (h : Pen S 0 c) (hc : c < 1048576) (hf : Fit2 5 e) (sc tn rw du bd dp pt kn : Option W) :
    ∃ (K : List Str) (o : Ob), st_law_3 (frameL sc tn (some (.d e.toD)) rw du bd dp pt kn) S = .ok (.nx (frameL sc tn (some (.d e.toD)) (some (.d (.list ((wk 30 e 1 K).map rowD)))) du bd dp pt kn)) (S.set 0 o) ∧ Pen (S.set 0 o) 0 (c + 1) ∧ K.length ≤ 2 := by
  obtain ⟨d, hd, o, e1, p⟩ := pick_ok (ds := [t [], t [s "x"], t [s "y", s "zz"]]) h hc (by simp) (by simp)
  have key : ∃ K : List Str, d = .tuple (K.map s) ∧ K.length ≤ 2 := by
    simp only [List.mem_cons, List.not_mem_nil, or_false] at hd
    rcases hd with rfl | rfl | rfl
    · exact ⟨[], rfl, by simp⟩
    · exact ⟨["x"], rfl, by simp⟩
    · exact ⟨["y", "zz"], rfl, by simp⟩
  obtain ⟨K, rfl, hK⟩ := key
  refine ⟨K, o, ?_, p, hK⟩
  unfold st_law_3
  refine asg_ok (cal_ok (ws := [.d e.toD, .d (.int ((1 : Nat) : Int)), .d (.tuple (K.map s))]) (S' := S.set 0 o) (cons_ok (S1 := S) rfl (cons_ok (S1 := S) rfl (cons_ok (S1 := S.set 0 o) (cal_ok (ws := [.r 0, .d (.list [t [], t [s "x"], t [s "y", s "zz"]])]) (S' := S) rfl (noEx_ok e1)) rfl))) (noEx_ok (walk_ok 30 e 1 K (Tr.doom_le hf.doom (by omega)) (by have := hf.sz; omega) (by omega) _)))
theorem lc_rows (l : List Row) (δ : Env) (hδ : δ.length = 10) (S : Sto) : compL [8, 7, 9] (tupG 3 (consG (setG 8) (consG (setG 7) (consG (setG 9) nilG)))) yesT (fun δ => bd ((consM (varM 8) (consM (varM 7) nilM)) δ) tupM) ((l.map rowD).map .d) δ S =
    .ok ((l.map fun r => row (r.1, r.2.1)).map .d) S := by
  match δ, hδ with
  | [a0, a1, a2, a3, a4, a5, a6, a7, a8, a9], _ =>
  have := comp_all (own := [8, 7, 9]) (g := tupG 3 (consG (setG 8) (consG (setG 7) (consG (setG 9) nilG)))) (e := fun δ => bd ((consM (varM 8) (consM (varM 7) nilM)) δ) tupM) (δ := [a0, a1, a2, a3, a4, a5, a6, a7, a8, a9]) (S := S)
    (fun w => match w with | .d (.tuple [x, d, _]) => .d (.tuple [x, d]) | w => w) (ws := (l.map rowD).map .d) (fun w hw => by
      obtain ⟨k, hk, rfl⟩ := List.mem_map.mp hw
      obtain ⟨r, _, rfl⟩ := List.mem_map.mp hk
      exact ⟨_, rfl, rfl⟩)
  rw [this]
  simp only [List.map_map]
  rfl
theorem comp_no {own : List Nat} {g : W → Env → M Env} {tt : Env → M Bool} {e : Env → M W} {w : W} {ws : List W} {δ δ1 : Env} {S : Sto} (h1 : g w (wipeE δ own) S = .ok δ1 S) (h2 : tt δ1 S = .ok false S) : compL own g tt e (w :: ws) δ S = compL own g tt e ws δ S := by
  conv => lhs; unfold compL
  rw [bd_ok (noEx_ok h1), bd_ok (noEx_ok h2), if_neg Bool.false_ne_true]
theorem comp_some {own : List Nat} {g : W → Env → M Env} {tt : Env → M Bool} {e : Env → M W} {w : W} {ws ys : List W} {y : W} {δ δ1 : Env} {S S2 : Sto} (h1 : g w (wipeE δ own) S = .ok δ1 S) (h2 : tt δ1 S = .ok true S) (h3 : e δ1 S = .ok y S) (h4 : compL own g tt e ws δ S = .ok ys S2) : compL own g tt e (w :: ws) δ S = .ok (y :: ys) S2 := by
  conv => lhs; unfold compL
  rw [bd_ok (noEx_ok h1), bd_ok (noEx_ok h2), if_pos rfl, bd_ok (noEx_ok h3), bd_ok h4]
  rfl
abbrev dueT : Env → M Bool := andT (valT (fun δ => bd ((varM 8) δ) (isiM [.str]))) (andT (valT (binM (varM 8) (cM (.str "atom")) neM)) (valT (binM (varM 8) (varM 9) notInM)))
theorem due_row (r : Row) (a0 a1 a2 a3 a4 a5 a6 : Option W) (S : Sto) : dueT [a0, a1, a2, a3, a4, a5, a6, some (.d (.int (r.2.1 : Int))), some (.d r.1.toD), some (.d (.tuple (r.2.2.map s)))] S = .ok (!(unk1 r.1 r.2.2).isEmpty) S ∧ ((unk1 r.1 r.2.2).isEmpty = false → ∃ z, unk1 r.1 r.2.2 = [z] ∧ r.1.toD = s z) := by
  obtain ⟨e, d, kn⟩ := r
  cases hs : e.simple with
  | false =>
    simp only [nm_none hs]
    refine ⟨?_, fun h => by simp at h⟩
    have : ∃ ds, e.toD = .tuple ds := by cases e <;> first | (cases hs; done) | exact ⟨_, rfl⟩
    obtain ⟨ds, hd⟩ := this
    rw [hd]
    rfl
  | true =>
    rcases nm_D hs with ⟨rfl, _⟩ | ⟨z, h1, h2, h3⟩
    · exact ⟨by kernel_rfl, fun h => by simp [unk1, Ex.nm] at h⟩
    · have hne : neM (.d (s z)) (.d (.str "atom")) S = .ok (okb true) S := by
        rw [ne_d (by intro q; cases q) (by simp [PyData.depth]) (by simp only [nd]) (by simp only [nd]), eqv_str, decide_eq_false h3]
        rfl
      have hn := notin_ok (S := S) z kn
      have hi : isiM [.str] (.d (s z)) S = .ok (okb true) S := rfl
      simp only [h2, unk1, h1]
      by_cases hz : z ∈ kn
      · simp [dueT, andT, valT, binM, bd, pr, varM, cM, hne, okb, boolOf, hn, hi, hz]
      · simp [dueT, andT, valT, binM, bd, pr, varM, cM, hne, okb, boolOf, hn, hi, hz]
theorem lc_due (a0 a1 a2 a3 a4 a5 a6 a7 a8 a9 : Option W) (S : Sto) : ∀ l : List Row, compL [8, 7, 9] (tupG 3 (consG (setG 8) (consG (setG 7) (consG (setG 9) nilG)))) dueT (varM 8) ((l.map rowD).map .d) [a0, a1, a2, a3, a4, a5, a6, a7, a8, a9] S =
    .ok (((l.flatMap fun r => unk1 r.1 r.2.2).map s).map .d) S
  | [] => rfl
  | r :: l => by
    have ih := lc_due a0 a1 a2 a3 a4 a5 a6 a7 a8 a9 S l
    obtain ⟨h1, h2⟩ := due_row r a0 a1 a2 a3 a4 a5 a6 S
    have hg : tupG 3 (consG (setG 8) (consG (setG 7) (consG (setG 9) nilG))) (.d (rowD r)) (wipeE [a0, a1, a2, a3, a4, a5, a6, a7, a8, a9] [8, 7, 9]) S = .ok [a0, a1, a2, a3, a4, a5, a6, some (.d (.int (r.2.1 : Int))), some (.d r.1.toD), some (.d (.tuple (r.2.2.map s)))] S := rfl
    simp only [List.map_cons, List.flatMap_cons]
    cases hu : (unk1 r.1 r.2.2).isEmpty with
    | true =>
      rw [hu] at h1
      rw [comp_no hg h1, ih, List.isEmpty_iff.mp hu, List.nil_append]
    | false =>
      rw [hu] at h1
      obtain ⟨z, e1, e2⟩ := h2 hu
      rw [e1]
      refine (comp_some hg h1 (y := .d r.1.toD) rfl ih).trans ?_
      rw [e2]
      rfl
theorem strict_kw (e : Ex) (hs : e.simple = false) (δ : Env) (h3 : δ[3]? = some (some (.d e.toD))) (S : Sto) : calK nilM (consM (varM 3) nilM) (gP 0 1 [0]) (fun ws => noEx (F_strict_parts ws)) δ S = .ok (.d (.tuple (e.strict.map Ex.toD))) S := by
  exact calK_ok (xs := []) (ys := [.d e.toD]) (zs := [.d e.toD]) (S1 := S) (S2 := S) rfl (cons_ok (S1 := S) (varM_at h3) rfl) rfl (noEx_ok (strict_ok e hs S))
theorem later_kw (e : Ex) (hs : e.simple = false) (δ : Env) (h3 : δ[3]? = some (some (.d e.toD))) (S : Sto) : calK nilM (consM (varM 3) nilM) (gP 0 1 [0]) (fun ws => noEx (F_later_parts ws)) δ S = .ok (.d (.tuple (e.later.map laD))) S := by
  exact calK_ok (xs := []) (ys := [.d e.toD]) (zs := [.d e.toD]) (S1 := S) (S2 := S) rfl (cons_ok (S1 := S) (varM_at h3) rfl) rfl (noEx_ok (later_ok e hs S))
theorem kid_dep {e : Ex} : ∀ k ∈ e.kids, k.toD.depth ≤ e.toD.depth := by
  cases e <;> simp [Ex.kids, Ex.strict, Ex.later, Ex.toD, PyData.depth, PyData.depthAll] <;> omega
theorem kid_nd {e : Ex} (h : nd e.toD = true) : ∀ k ∈ e.kids, nd k.toD = true := by
  cases e <;> simp [Ex.kids, Ex.strict, Ex.later, Ex.toD, nd, ndA] at h ⊢ <;> simp [h]
theorem turn_4 {S : Sto} {e : Ex} {K : List Str} (hf : Fit2 5 e) (hK : K.length ≤ 2) (sc tn du bd dp pt kn : Option W) :
    st_law_4 (frameL sc tn (some (.d e.toD)) (some (.d (.list ((wk 30 e 1 K).map rowD)))) du bd dp pt kn) S = .ok (.nx (frameL sc tn (some (.d e.toD)) (some (.d (.list ((wk 30 e 1 K).map rowD)))) du bd dp pt kn)) S := by
  have hd20 : e.tr.doom 20 = false := Tr.doom_le hf.doom (by omega)
  have hsz := hf.sz
  have hlen := wk_len 30 e 1 K
  have hx := is_expr_ok e hd20 (by omega) S
  have hap := all_parts_ok e hd20 (by omega) S
  unfold st_law_4
  refine Eq.trans (if_f (S' := S) ?_) rfl
  have c1 : valT (binM (calM (consM (varM 3) nilM) fun ws => noEx (F_is_expr ws)) (cM (.bool true)) isNotM) (frameL sc tn (some (.d e.toD)) (some (.d (.list ((wk 30 e 1 K).map rowD)))) du bd dp pt kn) S = .ok false S :=
    val_ok (bin_ok (S1 := S) (S2 := S) (cal_ok (ws := [.d e.toD]) (S' := S) rfl (noEx_ok hx)) rfl rfl)
  have c2 : valT (binM (calK nilM (consM (binM (fun δ => DL.bd ((consM (varM 3) nilM) δ) lstM) (cM (.int 0)) itemM) nilM) (gP 0 1 [0]) (fun ws => noEx (F_is_expr ws))) (cM (.bool true)) isNotM) (frameL sc tn (some (.d e.toD)) (some (.d (.list ((wk 30 e 1 K).map rowD)))) du bd dp pt kn) S = .ok false S := by
    refine val_ok (bin_ok (S1 := S) (S2 := S) (x := okb true) ?_ rfl rfl)
    exact calK_ok (xs := []) (ys := [.d e.toD]) (zs := [.d e.toD]) (S1 := S) (S2 := S) rfl (cons_ok (S1 := S) (bin_ok (x := .d (.list [e.toD])) (y := .d (.int 0)) (S1 := S) (S2 := S) rfl rfl (item_l atI_0)) rfl) rfl (noEx_ok hx)
  have hrow : (wk 30 e 1 K).map (fun r => row (r.1, r.2.1)) = (pre 20 e 1).map row := by
    rw [← pre_le hd20 (show 20 ≤ 30 by omega), ← wk_pre 30 e 1 K, List.map_map]
    rfl
  have hpl : (pre 20 e 1).length ≤ 1000 := by rw [pre_len 20 e 1 hd20]; omega
  have hsmall : (PyData.list ((pre 20 e 1).map row)).depth ≤ 64 ∧ nd (.list ((pre 20 e 1).map row)) = true := by
    have all : ∀ (g : Nat) (e : Ex) (d : Nat), e.toD.depth ≤ 20 → nd e.toD = true → ∀ q ∈ pre g e d, q.1.toD.depth ≤ 20 ∧ nd q.1.toD = true := by
      intro g
      induction g with
      | zero => intro e d _ _ q hq; simp [pre] at hq
      | succ g ih =>
        intro e d h1 h2 q hq
        simp only [pre, List.mem_cons, List.mem_flatMap] at hq
        rcases hq with rfl | ⟨k, hk, hq⟩
        · exact ⟨h1, h2⟩
        · exact ih k (d + 1) (Nat.le_trans (kid_dep k hk) h1) (kid_nd h2 k hk) q hq
    have ha := all 20 e 1 (by have := hf.dep; omega) hf.nd
    constructor
    · have := depA_of (k := 22) (ds := (pre 20 e 1).map row) fun d hd => by
        obtain ⟨q, hq, rfl⟩ := List.mem_map.mp hd
        have := (ha q hq).1
        simp [row, PyData.depth, PyData.depthAll]
        omega
      simp only [PyData.depth]
      omega
    · simp only [nd]
      exact ndA_of fun d hd => by
        obtain ⟨q, hq, rfl⟩ := List.mem_map.mp hd
        simp [row, nd, ndA, (ha q hq).2]
  have c3 : valT (binM (lcM [8, 7, 9] (fun δ => DL.bd ((varM 4) δ) iterM) (tupG 3 (consG (setG 8) (consG (setG 7) (consG (setG 9) nilG)))) yesT (fun δ => DL.bd ((consM (varM 8) (consM (varM 7) nilM)) δ) tupM)) (calM (consM (calK nilM (consM (varM 3) nilM) (gP 0 1 [0]) (fun ws => noEx (F_all_parts ws))) nilM) listDM) neM)
      (frameL sc tn (some (.d e.toD)) (some (.d (.list ((wk 30 e 1 K).map rowD)))) du bd dp pt kn) S = .ok false S := by
    refine val_ok (bin_ok (x := .d (.list ((pre 20 e 1).map row))) (y := .d (.list ((pre 20 e 1).map row))) (S1 := S) (S2 := S) ?_ ?_ (ne_same hsmall.1 hsmall.2))
    · unfold lcM
      refine Eq.trans (bd_ok (a := ((wk 30 e 1 K).map rowD).map .d) (S' := S) rfl) ?_
      refine Eq.trans (bd_ok (lc_rows _ _ rfl S)) ?_
      rw [hrow]
      exact small_lst (by rw [List.length_map]; omega)
    · refine cal_ok (ws := [.d (.tuple ((pre 20 e 1).map row))]) (S' := S) (cons_ok (S1 := S) ?_ rfl) rfl
      exact calK_ok (xs := []) (ys := [.d e.toD]) (zs := [.d e.toD]) (S1 := S) (S2 := S) rfl rfl rfl (noEx_ok hap)
  unfold orT
  rw [bd_ok c1, if_neg Bool.false_ne_true, bd_ok c2, if_neg Bool.false_ne_true]
  exact c3
theorem turn_5 {S : Sto} {e : Ex} (hf : Fit2 5 e) (sc tn rw du bd dp pt kn : Option W) :
    st_law_5 (frameL sc tn (some (.d e.toD)) rw du bd dp pt kn) S = .ok (.nx (frameL sc tn (some (.d e.toD)) rw du bd dp pt kn)) S := by
  have hd20 : e.tr.doom 20 = false := Tr.doom_le hf.doom (by omega)
  have hsz := hf.sz
  have hdep := hf.dep
  unfold st_law_5
  cases hs : e.simple with
  | true =>
    refine Eq.trans (if_f (S' := S) ?_) rfl
    cases e <;> first | (cases hs; done) | rfl
  | false =>
    refine Eq.trans (if_t (S' := S) ?_) ?_
    · cases e <;> first | (cases hs; done) | rfl
    refine Eq.trans (if_f (S' := S) ?_) rfl
    have kd : ∀ k ∈ e.kids, k.toD.depth ≤ 20 := fun k hk => Nat.le_trans (kid_dep k hk) (by omega)
    have kn' := kid_nd hf.nd
    have s1 : (PyData.tuple (e.strict.map Ex.toD)).depth ≤ 64 ∧ nd (.tuple (e.strict.map Ex.toD)) = true := by
      constructor
      · have := depA_of (k := 20) (ds := e.strict.map Ex.toD) fun d hd => by
          obtain ⟨k, hk, rfl⟩ := List.mem_map.mp hd
          exact kd k (by unfold Ex.kids; simp [hk])
        simp only [PyData.depth]
        omega
      · simp only [nd]
        exact ndA_of fun d hd => by
          obtain ⟨k, hk, rfl⟩ := List.mem_map.mp hd
          exact kn' k (by unfold Ex.kids; simp [hk])
    have s2 : (PyData.tuple (e.later.map laD)).depth ≤ 64 ∧ nd (.tuple (e.later.map laD)) = true := by
      constructor
      · have := depA_of (k := 22) (ds := e.later.map laD) fun d hd => by
          obtain ⟨⟨o, k⟩, hk, rfl⟩ := List.mem_map.mp hd
          have := kd k (by unfold Ex.kids; exact List.mem_append_right _ (List.mem_map.mpr ⟨(o, k), hk, rfl⟩))
          cases o <;> simp [laD, nmD, PyData.depth, PyData.depthAll] <;> omega
        simp only [PyData.depth]
        omega
      · simp only [nd]
        exact ndA_of fun d hd => by
          obtain ⟨⟨o, k⟩, hk, rfl⟩ := List.mem_map.mp hd
          have := kn' k (by unfold Ex.kids; exact List.mem_append_right _ (List.mem_map.mpr ⟨(o, k), hk, rfl⟩))
          cases o <;> simp [laD, nmD, nd, ndA, this]
    have c1 : valT (binM (calK nilM (consM (varM 3) nilM) (gP 0 1 [0]) (fun ws => noEx (F_strict_parts ws))) (calM (consM (calM (consM (varM 3) nilM) fun ws => noEx (F__law_first_ones ws)) nilM) tupleM) neM) (frameL sc tn (some (.d e.toD)) rw du bd dp pt kn) S = .ok false S :=
      val_ok (bin_ok (S1 := S) (S2 := S) (strict_kw e hs _ rfl S) (cal_ok (ws := [.d (.list (e.strict.map Ex.toD))]) (S' := S) (cons_ok (S1 := S) (cal_ok (ws := [.d e.toD]) (S' := S) rfl (noEx_ok (lfirst_ok e hs S))) rfl) rfl) (ne_same s1.1 s1.2))
    have c2 : valT (binM (calK nilM (consM (varM 3) nilM) (gP 0 1 [0]) (fun ws => noEx (F_later_parts ws))) (calM (consM (calM (consM (varM 3) nilM) fun ws => noEx (F__law_later ws)) nilM) tupleM) neM) (frameL sc tn (some (.d e.toD)) rw du bd dp pt kn) S = .ok false S :=
      val_ok (bin_ok (S1 := S) (S2 := S) (later_kw e hs _ rfl S) (cal_ok (ws := [.d (.list (e.later.map laD))]) (S' := S) (cons_ok (S1 := S) (cal_ok (ws := [.d e.toD]) (S' := S) rfl (noEx_ok (llater_ok e hs S))) rfl) rfl) (ne_same s2.1 s2.2))
    have : ∃ ds, e.toD = t ds := by cases e <;> first | (cases hs; done) | exact ⟨_, rfl⟩
    obtain ⟨ds, hds⟩ := this
    have hx := is_expr_list hds hd20 (by omega) S
    have c3 : valT (binM (calM (consM (calM (consM (varM 3) nilM) listDM) nilM) fun ws => noEx (F_is_expr ws)) (cM (.bool true)) isNotM) (frameL sc tn (some (.d e.toD)) rw du bd dp pt kn) S = .ok false S := by
      refine val_ok (bin_ok (S1 := S) (S2 := S) (x := okb true) (cal_ok (ws := [.d (.list ds)]) (S' := S) (cons_ok (S1 := S) (cal_ok (ws := [.d e.toD]) (S' := S) rfl ?_) rfl) (noEx_ok hx)) rfl rfl)
      rw [hds]
      rfl
    unfold orT
    rw [bd_ok c1, if_neg Bool.false_ne_true, bd_ok c2, if_neg Bool.false_ne_true]
    exact c3
theorem uk_len (e : Ex) (K : List Str) : (uniq (uk 30 e K)).length ≤ 3 := List.Nodup.length_le_of_subset (uniq_nodup _) (l₂ := (["x", "y", "zz"] : List Str)) fun z hz => uk_in 30 e K z (mem_uniq.mp hz)
theorem turn_6 {S : Sto} {e : Ex} {K : List Str} (hf : Fit2 5 e) (sc tn du bd dp pt kn : Option W) :
    st_law_6 (frameL sc tn (some (.d e.toD)) (some (.d (.list ((wk 30 e 1 K).map rowD)))) du bd dp pt kn) S = .ok (.nx (frameL sc tn (some (.d e.toD)) (some (.d (.list ((wk 30 e 1 K).map rowD)))) (some (.d (.list ((sortS (uniq (uk 30 e K))).map s)))) bd dp pt kn)) S := by
  have hlen := wk_len 30 e 1 K
  have hsz := hf.sz
  have hul : (uk 30 e K).length ≤ 1000000 := by
    rw [← wk_uk 30 e 1 K]
    have := flat_len (fun r : Row => unk1 r.1 r.2.2) (fun _ => 1) (wk 30 e 1 K) fun r _ => unk1_len _ _
    have h2 : ∀ l : List Row, (l.map fun _ => 1).sum = l.length := by
      intro l
      induction l with
      | nil => rfl
      | cons x l ih => simp only [List.map_cons, List.sum_cons, List.length_cons, ih]; omega
    rw [h2] at this
    omega
  have h3 := uk_len e K
  unfold st_law_6
  refine asg_ok (cal_ok (ws := [.d (.list ((uniq (uk 30 e K)).map s))]) (S' := S) (cons_ok (S1 := S) (cal_ok (ws := [.d (.list ((uk 30 e K).map s))]) (S' := S) (cons_ok (S1 := S) ?_ rfl) (noEx_ok (once_ok _ hul S))) rfl) (sort_ok (by omega)))
  unfold lcM
  refine Eq.trans (bd_ok (a := ((wk 30 e 1 K).map rowD).map .d) (S' := S) rfl) ?_
  refine Eq.trans (bd_ok (lc_due _ _ _ _ _ _ _ _ _ _ S (wk 30 e 1 K))) ?_
  rw [wk_uk]
  exact small_lst (by rw [List.length_map]; exact hul)
theorem turn_7 {S : Sto} {e : Ex} {K : List Str} (hf : Fit2 5 e) (hK : K.length ≤ 2) (sc tn bd dp pt kn : Option W) :
    st_law_7 (frameL sc tn (some (.d e.toD)) (some (.d (.list ((wk 30 e 1 K).map rowD)))) (some (.d (.list ((sortS (uniq (uk 30 e K))).map s)))) bd dp pt kn) S = .ok (.nx (frameL sc tn (some (.d e.toD)) (some (.d (.list ((wk 30 e 1 K).map rowD)))) (some (.d (.list ((sortS (uniq (uk 30 e K))).map s)))) bd dp pt kn)) S := by
  have hsz := hf.sz
  have hu := unknown_ok e K 30 (Tr.doom_le hf.doom (by omega)) (by omega) (by omega) S
  unfold st_law_7
  refine Eq.trans (if_f (S' := S) ?_) rfl
  refine val_ok (bin_ok (S1 := S) (S2 := S) (x := .d (.tuple ((sortS (uniq (uk 30 e K))).map s))) (y := .d (.tuple ((sortS (uniq (uk 30 e K))).map s))) ?_ rfl (ne_same ?_ ?_))
  · refine calK_ok (xs := []) (ys := [.d (.list (K.map s)), .d e.toD]) (zs := [.d e.toD, .d (.list (K.map s))]) (S1 := S) (S2 := S) rfl (cons_ok (S1 := S) (cal_ok (ws := [.d (.tuple (K.map s))]) (S' := S) (cons_ok (S1 := S) (bin_ok (x := .d (rowD (e, 1, K))) (y := .d (.int 2)) (S1 := S) (S2 := S) (bin_ok (x := .d (.list ((wk 30 e 1 K).map rowD))) (y := .d (.int 0)) (S1 := S) (S2 := S) rfl rfl (item_l atI_0)) rfl rfl) rfl) rfl) rfl) rfl (noEx_ok hu)
  · have := depA_of (k := 1) (ds := (sortS (uniq (uk 30 e K))).map s) fun d hd => by
      obtain ⟨z, _, rfl⟩ := List.mem_map.mp hd
      simp [PyData.depth]
    simp only [PyData.depth]
    omega
  · simp only [nd]
    exact nd_strs _
theorem turn_8 {S : Sto} {c : Int} {e : Ex} (h : Pen S 0 c) (hc : c < 1048576) (hf : Fit2 5 e) (ht : e.top = true) (sc tn rw du bd dp pt kn : Option W) :
    ∃ (d : D) (o : Ob), BadTr d ∧ st_law_8 (frameL sc tn (some (.d e.toD)) rw du bd dp pt kn) S = .ok (.nx (frameL sc tn (some (.d e.toD)) rw du (some (.d d)) dp pt kn)) (S.set 0 o) ∧ Pen (S.set 0 o) 0 (c + 1) := by
  obtain ⟨d, o, hb, h1, p⟩ := bent_ok e ht (by have := hf.sz; omega) h hc
  refine ⟨d, o, hb, ?_, p⟩
  unfold st_law_8
  exact asg_ok (cal_ok (ws := [.r 0, .d e.toD]) (S' := S) rfl (noEx_ok h1))
theorem turn_9 {S : Sto} {d : D} (hb : BadTr d) (sc tn ex rw du dp pt kn : Option W) : st_law_9 (frameL sc tn ex rw du (some (.d d)) dp pt kn) S = .ok (.nx (frameL sc tn ex rw du (some (.d d)) dp pt kn)) S := by
  unfold st_law_9
  refine Eq.trans (if_f (S' := S) ?_) rfl
  have c1 : valT (binM (calM (consM (varM 6) nilM) fun ws => noEx (F_is_expr ws)) (cM (.bool false)) isNotM) (frameL sc tn ex rw du (some (.d d)) dp pt kn) S = .ok false S :=
    val_ok (bin_ok (S1 := S) (S2 := S) (cal_ok (ws := [.d d]) (S' := S) rfl (noEx_ok (bad_1 hb S))) rfl rfl)
  have c2 : valT (binM (calM (consM (fun δ => DL.bd ((consM (cM (.str "tag")) (consM (cM (.str "a")) (consM (varM 6) nilM))) δ) tupM) nilM) fun ws => noEx (F_is_expr ws)) (cM (.bool false)) isNotM) (frameL sc tn ex rw du (some (.d d)) dp pt kn) S = .ok false S :=
    val_ok (bin_ok (S1 := S) (S2 := S) (cal_ok (ws := [.d (t [s "tag", s "a", d])]) (S' := S) rfl (noEx_ok (bad_2 hb S))) rfl rfl)
  have c3 : valT (binM (calM (consM (fun δ => DL.bd ((consM (cM (.str "either")) (consM (fun δ => DL.bd ((consM (cM (.str "x")) (consM (cM (.str "x")) (consM (varM 6) nilM))) δ) tupM) nilM)) δ) tupM) nilM) fun ws => noEx (F_is_expr ws)) (cM (.bool false)) isNotM) (frameL sc tn ex rw du (some (.d d)) dp pt kn) S = .ok false S :=
    val_ok (bin_ok (S1 := S) (S2 := S) (cal_ok (ws := [.d (t [s "either", t [s "x", s "x", d]])]) (S' := S) rfl (noEx_ok (bad_3 hb S))) rfl rfl)
  unfold orT
  rw [bd_ok c1, if_neg Bool.false_ne_true, bd_ok c2, if_neg Bool.false_ne_true]
  exact c3
theorem turn_ok {S : Sto} {c : Int} (h : Pen S 0 c) (hc : c + 300 < 1048576) (sc tn ex rw du bd dp pt kn : Option W) :
    ∃ (o : Ob) (ex' rw' du' bd' : Option W), body_law_1 (frameL sc tn ex rw du bd dp pt kn) S = .ok (.nx (frameL sc tn ex' rw' du' bd' dp pt kn)) (S.set 0 o) ∧ Pen (S.set 0 o) 0 (c + 100) := by
  obtain ⟨e, o2, e2, p2, hf, ht⟩ := turn_2 h (by omega) sc tn ex rw du bd dp pt kn
  obtain ⟨K, o3, e3, p3, hK⟩ := turn_3 p2 (by omega) hf sc tn rw du bd dp pt kn
  rw [set_set] at e3 p3
  obtain ⟨d, o8, hb, e8, p8⟩ := turn_8 p3 (by omega) hf ht sc tn (some (.d (.list ((wk 30 e 1 K).map rowD)))) (some (.d (.list ((sortS (uniq (uk 30 e K))).map s)))) bd dp pt kn
  rw [set_set] at e8 p8
  refine ⟨o8, some (.d e.toD), some (.d (.list ((wk 30 e 1 K).map rowD))), some (.d (.list ((sortS (uniq (uk 30 e K))).map s))), some (.d d), ?_, p8.mono (by omega)⟩
  unfold body_law_1
  rw [seq_nx e2, seq_nx e3, seq_nx (turn_4 hf hK sc tn du bd dp pt kn), seq_nx (turn_5 hf sc tn _ du bd dp pt kn), seq_nx (turn_6 hf sc tn du bd dp pt kn), seq_nx (turn_7 hf hK sc tn bd dp pt kn), seq_nx e8]
  exact turn_9 hb _ _ _ _ _ _ _ _
theorem turns_ok : ∀ (ws : List W) (S : Sto) (c : Int), Pen S 0 c → c + 100 * ws.length + 300 < 1048576 → ∀ (sc tn ex rw du bd dp pt kn : Option W),
    ∃ (o : Ob) (tn' ex' rw' du' bd' : Option W), forL (setG 2) body_law_1 ws (frameL sc tn ex rw du bd dp pt kn) S = .ok (.nx (frameL sc tn' ex' rw' du' bd' dp pt kn)) (S.set 0 o) ∧ Pen (S.set 0 o) 0 (c + 100 * ws.length)
  | [], S, c, h, _ => fun sc tn ex rw du bd dp pt kn => by
    obtain ⟨cs, a, r, ho, _⟩ := id h.ex
    have hS := set_same ho
    exact ⟨_, tn, ex, rw, du, bd, by rw [hS]; rfl, by rw [hS]; exact h.mono (by simp)⟩
  | w :: ws, S, c, h, hc => fun sc tn ex rw du bd dp pt kn => by
    simp only [List.length_cons] at hc
    obtain ⟨o1, ex1, rw1, du1, bd1, e1, p1⟩ := turn_ok h (by omega) sc (some w) ex rw du bd dp pt kn
    obtain ⟨o2, tn2, ex2, rw2, du2, bd2, e2, p2⟩ := turns_ok ws _ _ p1 (by omega) sc (some w) ex1 rw1 du1 bd1 dp pt kn
    rw [set_set] at e2 p2
    refine ⟨o2, tn2, ex2, rw2, du2, bd2, ?_, p2.mono (by simp only [List.length_cons]; omega)⟩
    unfold forL
    rw [bd_ok (show setG 2 w (frameL sc tn ex rw du bd dp pt kn) S = .ok (frameL sc (some w) ex rw du bd dp pt kn) S from rfl), bd_ok e1]
    exact e2
/-! ### the tower -/
structure Tower (j : Nat) (e : Ex) : Prop where
  sz : e.tr.sz = j
  low : e.tr.doom j = false
  high : e.tr.doom (j - 1) = true
theorem tower_up {j : Nat} {e e' : Ex} (hj : 1 ≤ j) (h : Tower j e) (hk : e'.kids = [e]) : Tower (j + 1) e' := by
  refine ⟨?_, ?_, ?_⟩
  · rw [e'.sz_eq, hk]
    have := h.sz
    simp [Trs.sz]
    omega
  · rw [Ex.tr_eq, hk]
    simp [Tr.doom, Trs.doom, h.low]
  · rw [Ex.tr_eq, hk]
    obtain ⟨i, rfl⟩ : ∃ i, j = i + 1 := ⟨j - 1, by omega⟩
    simpa [Tr.doom, Trs.doom] using h.high
theorem tower_loop : ∀ (ws : List W) (S : Sto) (c : Int) (j : Nat) (e : Ex), Pen S 0 c → c + ws.length < 1048576 → 1 ≤ j → Tower j e → ∀ (sc tn ex rw du bd pt kn : Option W),
    ∃ (o : Ob) (tn' : Option W) (e' : Ex), forL (setG 2) body_law_2 ws (frameL sc tn ex rw du bd (some (.d e.toD)) pt kn) S = .ok (.nx (frameL sc tn' ex rw du bd (some (.d e'.toD)) pt kn)) (S.set 0 o) ∧ Tower (j + ws.length) e'
  | [], S, c, j, e, h, _, _, hT => fun sc tn ex rw du bd pt kn => by
    obtain ⟨cs, a, r, ho, _⟩ := id h.ex
    have hS := set_same ho
    exact ⟨_, tn, e, by rw [hS]; rfl, hT⟩
  | w :: ws, S, c, j, e, h, hc, hj, hT => fun sc tn ex rw du bd pt kn => by
    simp only [List.length_cons] at hc
    obtain ⟨d, hd, o1, e1, p1⟩ := pick_ok (ds := [t [s "tag", s "a", e.toD], t [s "put", s "s", e.toD], t [s "without", e.toD, s "a"]]) h (by omega) (by simp) (by simp)
    have key : ∃ E : Ex, E.toD = d ∧ E.kids = [e] := by
      simp only [List.mem_cons, List.not_mem_nil, or_false] at hd
      rcases hd with rfl | rfl | rfl
      · exact ⟨.tagA e, rfl, rfl⟩
      · exact ⟨.put e, rfl, rfl⟩
      · exact ⟨.woutA e, rfl, rfl⟩
    obtain ⟨E, rfl, hk⟩ := key
    obtain ⟨o2, tn2, e2, h2, hT2⟩ := tower_loop ws _ _ (j + 1) E p1 (by omega) (by omega) (tower_up hj hT hk) sc (some w) ex rw du bd pt kn
    rw [set_set] at h2
    refine ⟨o2, tn2, e2, ?_, by rw [show j + (w :: ws).length = j + 1 + ws.length by simp only [List.length_cons]; omega]; exact hT2⟩
    have hb : body_law_2 (frameL sc (some w) ex rw du bd (some (.d e.toD)) pt kn) S = .ok (.nx (frameL sc (some w) ex rw du bd (some (.d E.toD)) pt kn)) (S.set 0 o1) := by
      unfold body_law_2 st_law_11
      exact asg_ok (cal_ok (ws := [.r 0, .d (.list [t [s "tag", s "a", e.toD], t [s "put", s "s", e.toD], t [s "without", e.toD, s "a"]])]) (S' := S) rfl (noEx_ok e1))
    unfold forL
    rw [bd_ok (show setG 2 w (frameL sc tn ex rw du bd (some (.d e.toD)) pt kn) S = .ok (frameL sc (some w) ex rw du bd (some (.d e.toD)) pt kn) S from rfl), bd_ok hb]
    exact h2
theorem last_ok {S : Sto} {e : Ex} (h : Tower 20 e) (sc tn ex rw du bd pt kn : Option W) : st_law_12 (frameL sc tn ex rw du bd (some (.d e.toD)) pt kn) S = .ok (.rt (.d (.bool true))) S := by
  have hsz := h.sz
  have x1 := is_expr_ok e h.low (by omega) S
  have d1 : (Ex.tagB e).tr.doom 20 = true := by
    simp only [Ex.tr, Tr.doom, Trs.doom]
    rw [show e.tr.doom 19 = true from h.high]
    rfl
  have d2 : (Ex.let_ .atom e).tr.doom 20 = true := by
    simp only [Ex.tr, Tr.doom, Trs.doom]
    rw [show e.tr.doom 19 = true from h.high]
    simp
  have x2 : F_is_expr [.d (Ex.tagB e).toD] S = .ok (okb false) S := by
    have := is_expr_tr (Ex.tagB e).tr (Ex.tr_ok _) (by rw [Ex.sz_eq]; simp [Ex.kids, Ex.strict, Ex.later, Trs.sz]; omega) S
    rw [Ex.tr_d, d1] at this
    exact this
  have x3 : F_is_expr [.d (Ex.let_ .atom e).toD] S = .ok (okb false) S := by
    have := is_expr_tr (Ex.let_ .atom e).tr (Ex.tr_ok _) (by rw [Ex.sz_eq]; simp [Ex.kids, Ex.strict, Ex.later, Trs.sz, Ex.tr, Tr.sz]; omega) S
    rw [Ex.tr_d, d2] at this
    exact this
  have x4 := all_parts_ok e h.low (by omega) S
  have hl : ((pre 20 e 1).map row).length = 20 := by rw [List.length_map, pre_len 20 e 1 h.low, hsz]
  unfold st_law_12
  refine ret_ok ?_
  have c1 : binM (calM (consM (varM 7) nilM) fun ws => noEx (F_is_expr ws)) (cM (.bool true)) isM (frameL sc tn ex rw du bd (some (.d e.toD)) pt kn) S = .ok (okb true) S :=
    bin_ok (S1 := S) (S2 := S) (cal_ok (ws := [.d e.toD]) (S' := S) rfl (noEx_ok x1)) rfl rfl
  have c2 : binM (calM (consM (fun δ => DL.bd ((consM (cM (.str "tag")) (consM (cM (.str "b")) (consM (varM 7) nilM))) δ) tupM) nilM) fun ws => noEx (F_is_expr ws)) (cM (.bool false)) isM (frameL sc tn ex rw du bd (some (.d e.toD)) pt kn) S = .ok (okb true) S :=
    bin_ok (S1 := S) (S2 := S) (cal_ok (ws := [.d (Ex.tagB e).toD]) (S' := S) rfl (noEx_ok x2)) rfl rfl
  have c3 : binM (calM (consM (fun δ => DL.bd ((consM (cM (.str "let")) (consM (cM (.str "x")) (consM (cM (.str "atom")) (consM (varM 7) nilM)))) δ) tupM) nilM) fun ws => noEx (F_is_expr ws)) (cM (.bool false)) isM (frameL sc tn ex rw du bd (some (.d e.toD)) pt kn) S = .ok (okb true) S :=
    bin_ok (S1 := S) (S2 := S) (cal_ok (ws := [.d (Ex.let_ .atom e).toD]) (S' := S) rfl (noEx_ok x3)) rfl rfl
  have c4 : binM (calM (consM (calM (consM (varM 7) nilM) fun ws => noEx (F_all_parts ws)) nilM) lenDM) (cM (.int 20)) eqM (frameL sc tn ex rw du bd (some (.d e.toD)) pt kn) S = .ok (okb true) S := by
    refine bin_ok (x := .d (.int 20)) (y := .d (.int 20)) (S1 := S) (S2 := S) (cal_ok (ws := [.d (.tuple ((pre 20 e 1).map row))]) (S' := S) (cons_ok (S1 := S) (cal_ok (ws := [.d e.toD]) (S' := S) rfl (noEx_ok x4)) rfl) ?_) rfl (eq_same (by simp [PyData.depth]) (by simp only [nd]))
    simp only [lenDM, lenM, seqOf, List.length_map] at hl ⊢
    rw [hl]
    rfl
  unfold andV
  rw [bd_ok c1, bd_ok (show boolOf (okb true) S = .ok true S from rfl), if_pos rfl, bd_ok c2, bd_ok (show boolOf (okb true) S = .ok true S from rfl), if_pos rfl, bd_ok c3, bd_ok (show boolOf (okb true) S = .ok true S from rfl), if_pos rfl]
  exact c4
theorem plain : ∀ ns : List Int, ns.length ≤ 63 → ∃ S, F_law [.s ns] [] = .ok (.d (.bool true)) S := by
  intro ns hns
  obtain ⟨cs, hcs, hp⟩ := pen_ok ns hns
  have p0 : Pen [penO cs 0 0] 0 0 := ⟨cs, 0, 0, rfl, by omega, by omega, by omega, hcs⟩
  have r6 : ∃ ws : List W, ws.length = 6 ∧ ∀ (δ : Env) (S : Sto), DL.bd ((consM (cM (.int 6)) nilM) δ) rng1M S = .ok ws S := ⟨_, rfl, fun _ _ => rfl⟩
  have r19 : ∃ ws : List W, ws.length = 19 ∧ ∀ (δ : Env) (S : Sto), DL.bd ((consM (cM (.int 19)) nilM) δ) rng1M S = .ok ws S := ⟨_, rfl, fun _ _ => rfl⟩
  obtain ⟨w6, l6, h6⟩ := r6
  obtain ⟨w19, l19, h19⟩ := r19
  obtain ⟨o1, tn1, ex1, rw1, du1, bd1, e1, p1⟩ := turns_ok w6 _ _ p0 (by rw [l6]; omega) (some (.s ns)) none none none none none none none none
  obtain ⟨o2, tn2, e', e2, hT⟩ := tower_loop w19 _ _ 1 .x p1 (by rw [l6, l19]; omega) (by omega) ⟨rfl, rfl, rfl⟩ (some (.s ns)) tn1 ex1 rw1 du1 bd1 none none
  rw [l19] at hT
  rw [set_set] at e2
  refine ⟨([penO cs 0 0] : Sto).set 0 o2, ?_⟩
  unfold F_law
  refine run_rt rfl ?_
  unfold b_law
  refine Eq.trans (seq_nx (δ' := frameL (some (.s ns)) none none none none none none none none) (S' := [penO cs 0 0]) ?_) ?_
  · unfold st_law_1
    exact asg_ok (cal_ok (ws := [.s ns]) (S' := []) rfl (noEx_ok hp))
  refine Eq.trans (seq_nx (Eq.trans (bd_ok (h6 _ _)) e1)) ?_
  refine Eq.trans (seq_nx (δ' := frameL (some (.s ns)) tn1 ex1 rw1 du1 bd1 (some (.d Ex.x.toD)) none none) rfl) ?_
  refine Eq.trans (seq_nx (Eq.trans (bd_ok (h19 _ _)) e2)) ?_
  exact last_ok hT _ _ _ _ _ _ _ _
end DL.k02
namespace DL.k02
open PySem PySem.Spec PyProof.Rows L2 DL
section
variable {l : PySem.W.OpenLaw} {w : World} {K : PySem.W.Frag} {h : Heap} {mg : Str → Option Value} {fa : Addr}
theorem all_of (X : K.In h) (G : h.Ns mainGlobals mg) (hfa : mg "law" = some (.ref fa))
    (e0 : ∃ f fd, DefOk K mg "is_listed" s_is_listed ["value"] f fd)
    (e1 : ∃ f fd, DefOk K mg "is_row" s_is_row ["value", "many"] f fd)
    (e2 : ∃ f fd, DefOk K mg "is_name" s_is_name ["value"] f fd)
    (e3 : ∃ f fd, DefOk K mg "is_fields" s_is_fields ["value"] f fd)
    (e4 : ∃ f fd, DefOk K mg "is_so_high" s_is_so_high ["value", "most", "many"] f fd)
    (e5 : ∃ f fd, DefOk K mg "is_value" s_is_value ["value"] f fd)
    (e6 : ∃ f fd, DefOk K mg "is_arm" s_is_arm ["value"] f fd)
    (e7 : ∃ f fd, DefOk K mg "are_arms" s_are_arms ["value"] f fd)
    (e8 : ∃ f fd, DefOk K mg "are_picks" s_are_picks ["value"] f fd)
    (e9 : ∃ f fd, DefOk K mg "listed" s_listed ["value"] f fd)
    (e10 : ∃ f fd, DefOk K mg "is_other" s_is_other ["value"] f fd)
    (e11 : ∃ f fd, DefOk K mg "has_form" s_has_form ["expr"] f fd)
    (e12 : ∃ f fd, DefOk K mg "has_arms" s_has_arms ["word", "rest"] f fd)
    (e13 : ∃ f fd, DefOk K mg "strict_parts" s_strict_parts ["expr"] f fd)
    (e14 : ∃ f fd, DefOk K mg "later_parts" s_later_parts ["expr"] f fd)
    (e15 : ∃ f fd, DefOk K mg "is_simple" s_is_simple ["expr"] f fd)
    (e16 : ∃ f fd, DefOk K mg "all_parts" s_all_parts ["expr"] f fd)
    (e17 : ∃ f fd, DefOk K mg "is_expr" s_is_expr ["value"] f fd)
    (e18 : ∃ f fd, DefOk K mg "unknown_in" s_unknown_in ["expr", "known"] f fd)
    (e19 : ∃ f fd, DefOk K mg "_law_pen" s__law_pen ["script"] f fd)
    (e20 : ∃ f fd, DefOk K mg "_law_draw" s__law_draw ["pen", "many"] f fd)
    (e21 : ∃ f fd, DefOk K mg "_law_pick" s__law_pick ["pen", "some"] f fd)
    (e22 : ∃ f fd, DefOk K mg "_law_once" s__law_once ["some"] f fd)
    (e23 : ∃ f fd, DefOk K mg "_law_strict" s__law_strict ["expr"] f fd)
    (e24 : ∃ f fd, DefOk K mg "_law_form" s__law_form ["pen", "deep"] f fd)
    (e25 : ∃ f fd, DefOk K mg "_law_later" s__law_later ["expr"] f fd)
    (e26 : ∃ f fd, DefOk K mg "_law_first_ones" s__law_first_ones ["expr"] f fd)
    (e27 : ∃ f fd, DefOk K mg "_law_walk" s__law_walk ["expr", "deep", "known"] f fd)
    (e28 : ∃ f fd, DefOk K mg "_law_bent" s__law_bent ["pen", "expr"] f fd)
    (e29 : ∃ f fd, DefOk K mg "law" s_law ["script"] f fd ∧ ∀ (s : Shared) (u : Value), BindsTo s fd ⟨[u], []⟩ [("script", u)])
    (m_isinstance : mg "isinstance" = none)
    (m_list : mg "list" = none)
    (m_tuple : mg "tuple" = none)
    (m_len : mg "len" = none)
    (m_str : mg "str" = none)
    (m_all : mg "all" = none)
    (m_zip : mg "zip" = none)
    (m_repr : mg "repr" = none)
    (m_sorted : mg "sorted" = none)
    (m_int : mg "int" = none)
    (m_abs : mg "abs" = none)
    (m_dict : mg "dict" = none)
    (m_range : mg "range" = none)
    (c_LONGEST : ∃ t, mg "LONGEST" = some (.int 8 t))
    (c_WORDS : ∃ a, mg "WORDS" = some (.ref a) ∧ SqTw K a (DL.k02.c_WORDS.map V.str))
    (c_LETTERS : ∃ t, mg "LETTERS" = some (.str "abcdefghijklmnopqrstuvwxyz" t))
    (c_HIGHEST : ∃ t, mg "HIGHEST" = some (.int 8 t))
    (c_MOST_FIELDS : ∃ t, mg "MOST_FIELDS" = some (.int 60 t))
    (c_MOST_ARMS : ∃ t, mg "MOST_ARMS" = some (.int 600 t))
    (c_DEEPEST : ∃ t, mg "DEEPEST" = some (.int 20 t))
    (c_MOST_PARTS : ∃ t, mg "MOST_PARTS" = some (.int 20000 t))
    (hF : ∀ ns : List Int, ns.length ≤ 63 → ∃ S, F_law [.s ns] [] = .ok (.d (.bool true)) S) :
    ∃ fd : FuncData, (∀ (s : Shared) (u : Value), BindsTo s fd ⟨[u], []⟩ [("script", u)]) ∧ ∀ base : Heap, K.In base → base.Ns mainGlobals mg → FnG l.prog w K mg base CX0 34 fa fd ["script"] (spL K) := by
  obtain ⟨f0, fd0, D0⟩ := e0
  obtain ⟨f1, fd1, D1⟩ := e1
  obtain ⟨f2, fd2, D2⟩ := e2
  obtain ⟨f3, fd3, D3⟩ := e3
  obtain ⟨f4, fd4, D4⟩ := e4
  obtain ⟨f5, fd5, D5⟩ := e5
  obtain ⟨f6, fd6, D6⟩ := e6
  obtain ⟨f7, fd7, D7⟩ := e7
  obtain ⟨f8, fd8, D8⟩ := e8
  obtain ⟨f9, fd9, D9⟩ := e9
  obtain ⟨f10, fd10, D10⟩ := e10
  obtain ⟨f11, fd11, D11⟩ := e11
  obtain ⟨f12, fd12, D12⟩ := e12
  obtain ⟨f13, fd13, D13⟩ := e13
  obtain ⟨f14, fd14, D14⟩ := e14
  obtain ⟨f15, fd15, D15⟩ := e15
  obtain ⟨f16, fd16, D16⟩ := e16
  obtain ⟨f17, fd17, D17⟩ := e17
  obtain ⟨f18, fd18, D18⟩ := e18
  obtain ⟨f19, fd19, D19⟩ := e19
  obtain ⟨f20, fd20, D20⟩ := e20
  obtain ⟨f21, fd21, D21⟩ := e21
  obtain ⟨f22, fd22, D22⟩ := e22
  obtain ⟨f23, fd23, D23⟩ := e23
  obtain ⟨f24, fd24, D24⟩ := e24
  obtain ⟨f25, fd25, D25⟩ := e25
  obtain ⟨f26, fd26, D26⟩ := e26
  obtain ⟨f27, fd27, D27⟩ := e27
  obtain ⟨f28, fd28, D28⟩ := e28
  obtain ⟨f29, fd29, D29, hbind⟩ := e29
  have e := hfa.symm.trans D29.mg
  cases e
  have T : Tx K mg (fun i => [f0, f1, f2, f3, f4, f5, f6, f7, f8, f9, f10, f11, f12, f13, f14, f15, f16, f17, f18, f19, f20, f21, f22, f23, f24, f25, f26, f27, f28, fa].getD i fa) (fun i => [fd0, fd1, fd2, fd3, fd4, fd5, fd6, fd7, fd8, fd9, fd10, fd11, fd12, fd13, fd14, fd15, fd16, fd17, fd18, fd19, fd20, fd21, fd22, fd23, fd24, fd25, fd26, fd27, fd28, fd29].getD i fd29) :=
    ⟨D0, D1, D2, D3, D4, D5, D6, D7, D8, D9, D10, D11, D12, D13, D14, D15, D16, D17, D18, D19, D20, D21, D22, D23, D24, D25, D26, D27, D28, D29, m_isinstance, m_list, m_tuple, m_len, m_str, m_all, m_zip, m_repr, m_sorted, m_int, m_abs, m_dict, m_range, c_LONGEST, c_WORDS, c_LETTERS, c_HIGHEST, c_MOST_FIELDS, c_MOST_ARMS, c_DEEPEST, c_MOST_PARTS⟩
  exact ⟨fd29, hbind, fun base _ _ => (g_law T).imp (spL_of hF)⟩
end
end DL.k02
open PySem PySem.W PyProof.Rows
set_option maxRecDepth 100000 in
set_option maxHeartbeats 0 in
theorem PySem.Challenge.cw_modulesmeet_k02_expressions_their_parts_holds : PySem.Challenge.rw_modulesmeet_k02_expressions_their_parts.Holds := by
  w_on; o_law; k_head; (case hw => w_witness2)
  k_fill
  refine DL.end_of (l := PySem.Challenge.rw_modulesmeet_k02_expressions_their_parts) (k := 34) rfl rfl ⟨rfl, by decide, by decide⟩ (fun w h Y => PySem.W.kIn_of Y) ?F
  case F =>
    intro w mg fa h KX G hmg
    refine' DL.k02.all_of KX G hmg
      (DL.def_mk (st := DL.k02.s_is_listed) (fun _ _ _ _ _ _ us hl => match us, hl with | [_], _ => rfl) KX G ?a0 ?l0 ?c0 ?k0)
      (DL.def_mk (st := DL.k02.s_is_row) (fun _ _ _ _ _ _ us hl => match us, hl with | [_, _], _ => rfl) KX G ?a1 ?l1 ?c1 ?k1)
      (DL.def_mk (st := DL.k02.s_is_name) (fun _ _ _ _ _ _ us hl => match us, hl with | [_], _ => rfl) KX G ?a2 ?l2 ?c2 ?k2)
      (DL.def_mk (st := DL.k02.s_is_fields) (fun _ _ _ _ _ _ us hl => match us, hl with | [_], _ => rfl) KX G ?a3 ?l3 ?c3 ?k3)
      (DL.def_mk (st := DL.k02.s_is_so_high) (fun _ _ _ _ _ _ us hl => match us, hl with | [_, _, _], _ => rfl) KX G ?a4 ?l4 ?c4 ?k4)
      (DL.def_mk (st := DL.k02.s_is_value) (fun _ _ _ _ _ _ us hl => match us, hl with | [_], _ => rfl) KX G ?a5 ?l5 ?c5 ?k5)
      (DL.def_mk (st := DL.k02.s_is_arm) (fun _ _ _ _ _ _ us hl => match us, hl with | [_], _ => rfl) KX G ?a6 ?l6 ?c6 ?k6)
      (DL.def_mk (st := DL.k02.s_are_arms) (fun _ _ _ _ _ _ us hl => match us, hl with | [_], _ => rfl) KX G ?a7 ?l7 ?c7 ?k7)
      (DL.def_mk (st := DL.k02.s_are_picks) (fun _ _ _ _ _ _ us hl => match us, hl with | [_], _ => rfl) KX G ?a8 ?l8 ?c8 ?k8)
      (DL.def_mk (st := DL.k02.s_listed) (fun _ _ _ _ _ _ us hl => match us, hl with | [_], _ => rfl) KX G ?a9 ?l9 ?c9 ?k9)
      (DL.def_mk (st := DL.k02.s_is_other) (fun _ _ _ _ _ _ us hl => match us, hl with | [_], _ => rfl) KX G ?a10 ?l10 ?c10 ?k10)
      (DL.def_mk (st := DL.k02.s_has_form) (fun _ _ _ _ _ _ us hl => match us, hl with | [_], _ => rfl) KX G ?a11 ?l11 ?c11 ?k11)
      (DL.def_mk (st := DL.k02.s_has_arms) (fun _ _ _ _ _ _ us hl => match us, hl with | [_, _], _ => rfl) KX G ?a12 ?l12 ?c12 ?k12)
      (DL.def_mk (st := DL.k02.s_strict_parts) (fun _ _ _ _ _ _ us hl => match us, hl with | [_], _ => rfl) KX G ?a13 ?l13 ?c13 ?k13)
      (DL.def_mk (st := DL.k02.s_later_parts) (fun _ _ _ _ _ _ us hl => match us, hl with | [_], _ => rfl) KX G ?a14 ?l14 ?c14 ?k14)
      (DL.def_mk (st := DL.k02.s_is_simple) (fun _ _ _ _ _ _ us hl => match us, hl with | [_], _ => rfl) KX G ?a15 ?l15 ?c15 ?k15)
      (DL.def_mk (st := DL.k02.s_all_parts) (fun _ _ _ _ _ _ us hl => match us, hl with | [_], _ => rfl) KX G ?a16 ?l16 ?c16 ?k16)
      (DL.def_mk (st := DL.k02.s_is_expr) (fun _ _ _ _ _ _ us hl => match us, hl with | [_], _ => rfl) KX G ?a17 ?l17 ?c17 ?k17)
      (DL.def_mk (st := DL.k02.s_unknown_in) (fun _ _ _ _ _ _ us hl => match us, hl with | [_, _], _ => rfl) KX G ?a18 ?l18 ?c18 ?k18)
      (DL.def_mk (st := DL.k02.s__law_pen) (fun _ _ _ _ _ _ us hl => match us, hl with | [_], _ => rfl) KX G ?a19 ?l19 ?c19 ?k19)
      (DL.def_mk (st := DL.k02.s__law_draw) (fun _ _ _ _ _ _ us hl => match us, hl with | [_, _], _ => rfl) KX G ?a20 ?l20 ?c20 ?k20)
      (DL.def_mk (st := DL.k02.s__law_pick) (fun _ _ _ _ _ _ us hl => match us, hl with | [_, _], _ => rfl) KX G ?a21 ?l21 ?c21 ?k21)
      (DL.def_mk (st := DL.k02.s__law_once) (fun _ _ _ _ _ _ us hl => match us, hl with | [_], _ => rfl) KX G ?a22 ?l22 ?c22 ?k22)
      (DL.def_mk (st := DL.k02.s__law_strict) (fun _ _ _ _ _ _ us hl => match us, hl with | [_], _ => rfl) KX G ?a23 ?l23 ?c23 ?k23)
      (DL.def_mk (st := DL.k02.s__law_form) (fun _ _ _ _ _ _ us hl => match us, hl with | [_, _], _ => rfl) KX G ?a24 ?l24 ?c24 ?k24)
      (DL.def_mk (st := DL.k02.s__law_later) (fun _ _ _ _ _ _ us hl => match us, hl with | [_], _ => rfl) KX G ?a25 ?l25 ?c25 ?k25)
      (DL.def_mk (st := DL.k02.s__law_first_ones) (fun _ _ _ _ _ _ us hl => match us, hl with | [_], _ => rfl) KX G ?a26 ?l26 ?c26 ?k26)
      (DL.def_mk (st := DL.k02.s__law_walk) (fun _ _ _ _ _ _ us hl => match us, hl with | [_, _, _], _ => rfl) KX G ?a27 ?l27 ?c27 ?k27)
      (DL.def_mk (st := DL.k02.s__law_bent) (fun _ _ _ _ _ _ us hl => match us, hl with | [_, _], _ => rfl) KX G ?a28 ?l28 ?c28 ?k28)
      (DL.law_mk (st := DL.k02.s_law) KX G (fun _ _ _ _ _ _ _ => rfl) (fun _ _ _ _ _ _ us hl => match us, hl with | [_], _ => rfl) ?a29 ?l29 ?c29 ?k29)
      (PySem.W.mg_none_of KX G ?m_isinstance)
      (PySem.W.mg_none_of KX G ?m_list)
      (PySem.W.mg_none_of KX G ?m_tuple)
      (PySem.W.mg_none_of KX G ?m_len)
      (PySem.W.mg_none_of KX G ?m_str)
      (PySem.W.mg_none_of KX G ?m_all)
      (PySem.W.mg_none_of KX G ?m_zip)
      (PySem.W.mg_none_of KX G ?m_repr)
      (PySem.W.mg_none_of KX G ?m_sorted)
      (PySem.W.mg_none_of KX G ?m_int)
      (PySem.W.mg_none_of KX G ?m_abs)
      (PySem.W.mg_none_of KX G ?m_dict)
      (PySem.W.mg_none_of KX G ?m_range)
      (DL.cint_mk KX G ?c_LONGEST)
      (DL.conT_mk KX G ?ca_WORDS ?cl_WORDS ?cv_WORDS (by decide))
      (DL.cstr_mk KX G ?c_LETTERS)
      (DL.cint_mk KX G ?c_HIGHEST)
      (DL.cint_mk KX G ?c_MOST_FIELDS)
      (DL.cint_mk KX G ?c_MOST_ARMS)
      (DL.cint_mk KX G ?c_DEEPEST)
      (DL.cint_mk KX G ?c_MOST_PARTS)
      DL.k02.plain
    (case a0 => k_is); (case l0 => k_is); (case c0 => k_is); (case k0 => k_is)
    (case a1 => k_is); (case l1 => k_is); (case c1 => k_is); (case k1 => k_is)
    (case a2 => k_is); (case l2 => k_is); (case c2 => k_is); (case k2 => k_is)
    (case a3 => k_is); (case l3 => k_is); (case c3 => k_is); (case k3 => k_is)
    (case a4 => k_is); (case l4 => k_is); (case c4 => k_is); (case k4 => k_is)
    (case a5 => k_is); (case l5 => k_is); (case c5 => k_is); (case k5 => k_is)
    (case a6 => k_is); (case l6 => k_is); (case c6 => k_is); (case k6 => k_is)
    (case a7 => k_is); (case l7 => k_is); (case c7 => k_is); (case k7 => k_is)
    (case a8 => k_is); (case l8 => k_is); (case c8 => k_is); (case k8 => k_is)
    (case a9 => k_is); (case l9 => k_is); (case c9 => k_is); (case k9 => k_is)
    (case a10 => k_is); (case l10 => k_is); (case c10 => k_is); (case k10 => k_is)
    (case a11 => k_is); (case l11 => k_is); (case c11 => k_is); (case k11 => k_is)
    (case a12 => k_is); (case l12 => k_is); (case c12 => k_is); (case k12 => k_is)
    (case a13 => k_is); (case l13 => k_is); (case c13 => k_is); (case k13 => k_is)
    (case a14 => k_is); (case l14 => k_is); (case c14 => k_is); (case k14 => k_is)
    (case a15 => k_is); (case l15 => k_is); (case c15 => k_is); (case k15 => k_is)
    (case a16 => k_is); (case l16 => k_is); (case c16 => k_is); (case k16 => k_is)
    (case a17 => k_is); (case l17 => k_is); (case c17 => k_is); (case k17 => k_is)
    (case a18 => k_is); (case l18 => k_is); (case c18 => k_is); (case k18 => k_is)
    (case a19 => k_is); (case l19 => k_is); (case c19 => k_is); (case k19 => k_is)
    (case a20 => k_is); (case l20 => k_is); (case c20 => k_is); (case k20 => k_is)
    (case a21 => k_is); (case l21 => k_is); (case c21 => k_is); (case k21 => k_is)
    (case a22 => k_is); (case l22 => k_is); (case c22 => k_is); (case k22 => k_is)
    (case a23 => k_is); (case l23 => k_is); (case c23 => k_is); (case k23 => k_is)
    (case a24 => k_is); (case l24 => k_is); (case c24 => k_is); (case k24 => k_is)
    (case a25 => k_is); (case l25 => k_is); (case c25 => k_is); (case k25 => k_is)
    (case a26 => k_is); (case l26 => k_is); (case c26 => k_is); (case k26 => k_is)
    (case a27 => k_is); (case l27 => k_is); (case c27 => k_is); (case k27 => k_is)
    (case a28 => k_is); (case l28 => k_is); (case c28 => k_is); (case k28 => k_is)
    (case a29 => k_is); (case l29 => k_is); (case c29 => k_is); (case k29 => k_is)
    (case m_isinstance => k_is)
    (case m_list => k_is)
    (case m_tuple => k_is)
    (case m_len => k_is)
    (case m_str => k_is)
    (case m_all => k_is)
    (case m_zip => k_is)
    (case m_repr => k_is)
    (case m_sorted => k_is)
    (case m_int => k_is)
    (case m_abs => k_is)
    (case m_dict => k_is)
    (case m_range => k_is)
    (case c_LONGEST => k_is)
    (case ca_WORDS => k_is); (case cl_WORDS => k_is); (case cv_WORDS => (repeat (first | exact .nil | refine .cons ⟨_, rfl⟩ ?_)))
    (case c_LETTERS => k_is)
    (case c_HIGHEST => k_is)
    (case c_MOST_FIELDS => k_is)
    (case c_MOST_ARMS => k_is)
    (case c_DEEPEST => k_is)
    (case c_MOST_PARTS => k_is)
