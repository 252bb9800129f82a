import PyProof.Rows.All
import Wide.All
import OpenK.AllK
import Wide.FinOn
import HandS.ForMost
import HandS.IsInst
import HandS.Star
import HandS.TupAny
import HandS.Deep
import HandS.Exc
import HandS.Lambda
import HandS.TryOnly
import HandS.Iter
import HandS.Steps
import HandS.Style
import HandS.TupMul
import HandS.DictComp
import HandS.Conv
import HandS.Zip
import PyProof.Rows.NestShow
import KE.KRevSl
import PyProof.Rows.StrMeet
import KE.KExcSuper
import KE.KSuper
import HandS.ExcIs
import KE.KExcIs
import HandS.Nested
import KE.KDflt
import HandS.EndTab
import HandS.SortKw
import HandS.NestedK
import PySem.Challenge.RW_modulesmeet_k01_values_heights_and_texts
set_option Elab.async false
set_option linter.all false
set_option autoImplicit false
set_option maxRecDepth 100000
set_option maxHeartbeats 4000000
/-! DL1: plain data and a store over the hand layer: what stands for what, and what is kept. -/
namespace DL
open PySem PySem.Spec PyProof.Rows L2

abbrev D := PyData
/-- an error: its class, its fields -/
structure Ex where
  cls : Str
  fs : List (Str × D)
/-- a value: plain data that nobody changes, or a place of the store; the script; an error that was caught -/
inductive W where
  | d (x : D)
  | r (n : Nat)
  | s (ns : List Int)
  | e (x : Ex)
/-- what stands at a place of the store: a list, a dict that may change; nothing more -/
inductive Ob where
  | lst (ws : List W)
  | dct (kvs : List (Key × W))
  | tab (P : Addr) (q : Str)
  | dead
def Ob.live : Ob → Bool
  | .dead => false
  | _ => true
abbrev Sto := List Ob
inductive Res (α : Type) where
  | ok (a : α) (S : Sto)
  | ex (x : Ex) (S : Sto)
  | no
abbrev M (α : Type) := Sto → Res α
def pr {α : Type} (a : α) : M α := fun S => .ok a S
def bd {α β : Type} (m : M α) (f : α → M β) : M β := fun S => match m S with
  | .ok a S' => f a S'
  | .ex x S' => .ex x S'
  | .no => .no
def no {α : Type} : M α := fun _ => .no
def Gives {α : Type} (x : Res α) (P : α → Sto → Prop) (E : Ex → Sto → Prop) : Prop := match x with
  | .ok a S => P a S
  | .ex x S => E x S
  | .no => False
theorem gives_bd {α β : Type} {m : M α} {f : α → M β} {S : Sto} {P : β → Sto → Prop} {E : Ex → Sto → Prop} (h : Gives (bd m f S) P E) : Gives (m S) (fun a S' => Gives (f a S') P E) E := by
  unfold bd at h
  cases e : m S with
  | ok a S' => rw [e] at h; exact h
  | ex x S' => rw [e] at h; exact h
  | no => rw [e] at h; exact h
theorem gives_imp {α : Type} {x : Res α} {P P' : α → Sto → Prop} {E E' : Ex → Sto → Prop} (h : Gives x P E) (hp : ∀ a S, P a S → P' a S) (he : ∀ a S, E a S → E' a S) : Gives x P' E' := by
  cases x with
  | ok a S => exact hp _ _ h
  | ex x S => exact he _ _ h
  | no => exact h

/-! ### what stands for what -/
def SqLw (K : PySem.W.Frag) (a : Addr) (xs : List V) : Prop :=
  ∃ (o : Obj) (its : Array Value) (n : Nat), K.lookup a = some o ∧ o.cls = .type "list" ∧ o.dict = none ∧ o.data = .seq its n ∧ its.size ≤ sizeLine ∧ Vals xs its.toList
def SqTw (K : PySem.W.Frag) (a : Addr) (xs : List V) : Prop :=
  ∃ (o : Obj) (its : Array Value) (n : Nat), K.lookup a = some o ∧ o.cls = .type "tuple" ∧ o.data = .seq its n ∧ its.size ≤ sizeLine ∧ Vals xs its.toList
def QF (K : PySem.W.Frag) (H : Hp) (L : Addr → Prop) (a : Addr) (xs : List V) : Prop := (Rd H a (.lst xs) ∧ ¬ L a) ∨ SqLw K a xs
def QL (K : PySem.W.Frag) (H : Hp) (L : Addr → Prop) (a : Addr) (xs : List V) : Prop := H a = some (.lst xs) ∧ ¬ L a
def QT (K : PySem.W.Frag) (H : Hp) (L : Addr → Prop) (a : Addr) (xs : List V) : Prop := (Rd H a (.tup xs) ∧ ¬ L a) ∨ SqTw K a xs
theorem QF.sq {K : PySem.W.Frag} {H : Hp} {L : Addr → Prop} {a : Addr} {xs : List V} (h : QF K H L a xs) : SqL K H a xs := h.elim (fun h => .inl h.1) .inr
theorem QL.sq {K : PySem.W.Frag} {H : Hp} {L : Addr → Prop} {a : Addr} {xs : List V} (h : QL K H L a xs) : SqL K H a xs := .inl (.inl h.1)
theorem QT.sq {K : PySem.W.Frag} {H : Hp} {L : Addr → Prop} {a : Addr} {xs : List V} (h : QT K H L a xs) : SqT K H a xs := h.elim (fun h => .inl h.1) .inr
/-- an empty dict that nobody changes -/
def QD0 (H : Hp) (L : Addr → Prop) (a : Addr) : Prop := H a = some (.dK []) ∧ ¬ L a
/-! no dict lies within -/
mutual
def nd : D → Bool
  | .list ds => ndA ds
  | .tuple ds => ndA ds
  | .dict _ => false
  | _ => true
def ndA : List D → Bool
  | [] => true
  | d :: ds => nd d && ndA ds
end
abbrev okS (x : Str) : Bool := PyData.strOk x
mutual
inductive Rp (K : PySem.W.Frag) (H : Hp) (L : Addr → Prop) : V → D → Prop
  | non : Rp K H L .non .none
  | bl (b : Bool) : Rp K H L (.bl b) (.bool b)
  | int (i : Int) : Rp K H L (.int i) (.int i)
  | str (x : Str) (h : okS x = true) : Rp K H L (.str x) (.str x)
  | lst {a : Addr} {xs : List V} {ds : List D} : QL K H L a xs → RpA K H L xs ds → Rp K H L (.ref a) (.list ds)
  | tup {a : Addr} {xs : List V} {ds : List D} : QT K H L a xs → RpA K H L xs ds → Rp K H L (.ref a) (.tuple ds)
  | dct {a : Addr} : QD0 H L a → Rp K H L (.ref a) (.dict [])
inductive RpA (K : PySem.W.Frag) (H : Hp) (L : Addr → Prop) : List V → List D → Prop
  | nil : RpA K H L [] []
  | cons {v : V} {vs : List V} {d : D} {ds : List D} : Rp K H L v d → RpA K H L vs ds → RpA K H L (v :: vs) (d :: ds)
end
section
variable {K : PySem.W.Frag} {H H' : Hp} {L L' : Addr → Prop}
theorem QF.ext {a : Addr} {xs : List V} (h : QF K H L a xs) (hs : ∀ a o, H a = some o → ¬ L a → H' a = some o) (hn : ∀ a, L' a → L a ∨ H a = none) : QF K H' L' a xs := by
  rcases h with ⟨h, l⟩ | h
  · refine .inl ⟨?_, fun q => ?_⟩
    · rcases h with h | ⟨o, h⟩
      · exact .inl (hs _ _ h l)
      · exact .inr ⟨o, hs _ _ h l⟩
    · rcases hn a q with q | q
      · exact l q
      · rcases h with h | ⟨o, h⟩
        · rw [h] at q; cases q
        · rw [h] at q; cases q
  · exact .inr h
theorem QL.ext {a : Addr} {xs : List V} (h : QL K H L a xs) (hs : ∀ a o, H a = some o → ¬ L a → H' a = some o) (hn : ∀ a, L' a → L a ∨ H a = none) : QL K H' L' a xs := by
  obtain ⟨h, l⟩ := h
  refine ⟨hs _ _ h l, fun q => ?_⟩
  rcases hn a q with q | q
  · exact l q
  · rw [h] at q; cases q
theorem QD0.ext {a : Addr} (h : QD0 H L a) (hs : ∀ a o, H a = some o → ¬ L a → H' a = some o) (hn : ∀ a, L' a → L a ∨ H a = none) : QD0 H' L' a := by
  obtain ⟨h, l⟩ := h
  refine ⟨hs _ _ h l, fun q => ?_⟩
  rcases hn a q with q | q
  · exact l q
  · rw [h] at q; cases q
theorem QT.ext {a : Addr} {xs : List V} (h : QT K H L a xs) (hs : ∀ a o, H a = some o → ¬ L a → H' a = some o) (hn : ∀ a, L' a → L a ∨ H a = none) : QT K H' L' a xs := by
  rcases h with ⟨h, l⟩ | h
  · refine .inl ⟨?_, fun q => ?_⟩
    · rcases h with h | ⟨o, h⟩
      · exact .inl (hs _ _ h l)
      · exact .inr ⟨o, hs _ _ h l⟩
    · rcases hn a q with q | q
      · exact l q
      · rcases h with h | ⟨o, h⟩
        · rw [h] at q; cases q
        · rw [h] at q; cases q
  · exact .inr h
mutual
theorem Rp.ext (hs : ∀ a o, H a = some o → ¬ L a → H' a = some o) (hn : ∀ a, L' a → L a ∨ H a = none) : ∀ (d : D) (v : V), Rp K H L v d → Rp K H' L' v d
  | .none, _, h => by cases h; exact .non
  | .bool b, _, h => by cases h; exact .bl b
  | .int i, _, h => by cases h; exact .int i
  | .str x, _, h => by cases h with | str _ o => exact .str x o
  | .list ds, _, h => by cases h with | lst q r => exact .lst (q.ext hs hn) (RpA.ext hs hn ds _ r)
  | .tuple ds, _, h => by cases h with | tup q r => exact .tup (q.ext hs hn) (RpA.ext hs hn ds _ r)
  | .dict _, _, h => by cases h with | dct q => exact .dct (q.ext hs hn)
theorem RpA.ext (hs : ∀ a o, H a = some o → ¬ L a → H' a = some o) (hn : ∀ a, L' a → L a ∨ H a = none) : ∀ (ds : List D) (vs : List V), RpA K H L vs ds → RpA K H' L' vs ds
  | [], _, h => by cases h; exact .nil
  | d :: ds, _, h => by cases h with | cons a b => exact .cons (Rp.ext hs hn d _ a) (RpA.ext hs hn ds _ b)
end
mutual
theorem Rp.dp : ∀ (d : D) (v : V), nd d = true → Rp K H L v d → Dp K H v d
  | .none, _, _, h => by cases h; exact .non
  | .bool b, _, _, h => by cases h; exact .bl b
  | .int i, _, _, h => by cases h; exact .int i
  | .str x, _, _, h => by cases h; exact .str x
  | .list ds, _, n, h => by cases h with | lst q r => exact .lst q.sq (RpA.dp ds _ (by simpa only [nd] using n) r)
  | .tuple ds, _, n, h => by cases h with | tup q r => exact .tup q.sq (RpA.dp ds _ (by simpa only [nd] using n) r)
  | .dict _, _, n, h => by simp [nd] at n
theorem RpA.dp : ∀ (ds : List D) (vs : List V), ndA ds = true → RpA K H L vs ds → DpAll K H vs ds
  | [], _, _, h => by cases h; exact .nil
  | d :: ds, _, n, h => by
    simp only [ndA, Bool.and_eq_true] at n
    cases h with | cons a b => exact .cons (Rp.dp d _ n.1 a) (RpA.dp ds _ n.2 b)
end
mutual
theorem Rp.lay : ∀ (d : D) (v : V), nd d = true → Rp K H L v d → d.canLay0 = true
  | .none, _, _, h => by simp only [PyData.canLay0]
  | .bool b, _, _, h => by simp only [PyData.canLay0]
  | .int i, _, _, h => by simp only [PyData.canLay0]
  | .str x, _, _, h => by cases h with | str _ o => simpa only [PyData.canLay0] using o
  | .list ds, _, n, h => by cases h with | lst q r => simpa only [PyData.canLay0] using RpA.lay ds _ (by simpa only [nd] using n) r
  | .tuple ds, _, n, h => by cases h with | tup q r => simpa only [PyData.canLay0] using RpA.lay ds _ (by simpa only [nd] using n) r
  | .dict _, _, n, h => by simp [nd] at n
theorem RpA.lay : ∀ (ds : List D) (vs : List V), ndA ds = true → RpA K H L vs ds → PyData.canLayAll0 ds = true
  | [], _, _, h => by simp only [PyData.canLayAll0]
  | d :: ds, _, n, h => by
    simp only [ndA, Bool.and_eq_true] at n
    cases h with
    | cons a b =>
      simp only [PyData.canLayAll0, Bool.and_eq_true]
      exact ⟨Rp.lay d _ n.1 a, RpA.lay ds _ n.2 b⟩
end
theorem RpA.length : ∀ {ds : List D} {vs : List V}, RpA K H L vs ds → vs.length = ds.length
  | [], _, h => by cases h; rfl
  | d :: ds, _, h => by cases h with | cons a b => simp [RpA.length b]
end

/-! ### errors and tables of code objects -/
/-- x stands as an error of that class with that dict -/
def FlX (K : PySem.W.Frag) (H : Hp) (L : Addr → Prop) (x : Ex) (cls : Value) (d : Option Addr) : Prop := ∃ (C dd : Addr) (fs : List (Str × V)), PySem.W.nsIn K mainGlobals x.cls = some (some (.ref C)) ∧ cls = .ref C ∧ d = some dd ∧ H dd = some (.xd fs) ∧ ¬ L dd ∧
  ∀ p ∈ x.fs, ∃ v, fs.lookup p.1 = some v ∧ Rp K H L v p.2
/-- an exception's object at a -/
def excAt (a : Addr) (cls : Value) (d : Option Addr) : HO := .ext fun h => ∃ oe, h.get? a = some oe ∧ Zc cls d oe ∧ ∃ vs, oe.data = .fields vs
def RX (K : PySem.W.Frag) (H : Hp) (L : Addr → Prop) (x : Ex) (a : Addr) : Prop := ∃ cls d, FlX K H L x cls d ∧ H a = some (excAt a cls d) ∧ ¬ L a
/-- a table of code objects, all of the name q -/
def RT (H : Hp) (L : Addr → Prop) (q : Str) (o : HO) : Prop := ∃ ps : Array Value, o = .tbl ps ∧ TriplesOk ps.toList ∧ ∀ (pos : Pos) (cv : Value), codeAmong pos ps.toList = some cv → ∃ c, cv = .ref c ∧ H c = some (LamX.CodeO c q) ∧ ¬ L c
section
variable {K : PySem.W.Frag} {H H' : Hp} {L L' : Addr → Prop}
theorem notL {a : Addr} {o : HO} (h : H a = some o) (l : ¬ L a) (hn : ∀ a, L' a → L a ∨ H a = none) : ¬ L' a := fun q => by
  rcases hn a q with q | q
  · exact l q
  · rw [h] at q; cases q
theorem FlX.ext {x : Ex} {cls : Value} {d : Option Addr} (h : FlX K H L x cls d) (hs : ∀ a o, H a = some o → ¬ L a → H' a = some o) (hn : ∀ a, L' a → L a ∨ H a = none) : FlX K H' L' x cls d := by
  obtain ⟨C, dd, fs, h1, h2, h3, h4, h5, h6⟩ := h
  exact ⟨C, dd, fs, h1, h2, h3, hs _ _ h4 h5, notL h4 h5 hn, fun p hp => let ⟨v, q1, q2⟩ := h6 p hp; ⟨v, q1, Rp.ext hs hn _ _ q2⟩⟩
theorem RX.ext {x : Ex} {a : Addr} (h : RX K H L x a) (hs : ∀ a o, H a = some o → ¬ L a → H' a = some o) (hn : ∀ a, L' a → L a ∨ H a = none) : RX K H' L' x a := by
  obtain ⟨cls, d, h1, h2, h3⟩ := h
  exact ⟨cls, d, h1.ext hs hn, hs _ _ h2 h3, notL h2 h3 hn⟩
theorem RT.ext {q : Str} {o : HO} (h : RT H L q o) (hs : ∀ a o, H a = some o → ¬ L a → H' a = some o) (hn : ∀ a, L' a → L a ∨ H a = none) : RT H' L' q o := by
  obtain ⟨ps, h1, h2, h3⟩ := h
  exact ⟨ps, h1, h2, fun pos cv hc => let ⟨c, q1, q2, q3⟩ := h3 pos cv hc; ⟨c, q1, hs _ _ q2 q3, notL q2 q3 hn⟩⟩
end
/-! ### the store -/
/-- where the places of the store stand; what else nobody may speak of (a list that is being made) -/
structure Pl where
  adr : List Addr
  grd : Addr → Prop
def Pl.add (ρ : Pl) (p : Addr) : Pl := ⟨ρ.adr ++ [p], ρ.grd⟩
def Pl.guard (ρ : Pl) (p : Addr) : Pl := ⟨ρ.adr, fun a => ρ.grd a ∨ a = p⟩
def Liv (S : Sto) (ρ : Pl) (a : Addr) : Prop := ∃ (n : Nat) (o : Ob), S[n]? = some o ∧ o.live = true ∧ ρ.adr[n]? = some a
def Live (S : Sto) (ρ : Pl) (a : Addr) : Prop := Liv S ρ a ∨ ρ.grd a
def RW (K : PySem.W.Frag) (ρ : Pl) (H : Hp) (L : Addr → Prop) : W → V → Prop
  | .d x, v => Rp K H L v x
  | .r n, v => ∃ a, ρ.adr[n]? = some a ∧ v = .ref a
  | .s ns, v => ∃ a, v = .ref a ∧ QF K H L a (ns.map V.int)
  | .e x, v => ∃ a, v = .ref a ∧ RX K H L x a
abbrev RWs (K : PySem.W.Frag) (ρ : Pl) (H : Hp) (L : Addr → Prop) : List W → List V → Prop := Paired (RW K ρ H L)
def okK : Key → Bool
  | .inl _ => true
  | .inr x => okS x
def RO (K : PySem.W.Frag) (ρ : Pl) (H : Hp) (L : Addr → Prop) (p : Addr) : Ob → HO → Prop
  | .lst ws, o => ∃ vs, o = .lst vs ∧ RWs K ρ H L ws vs
  | .dct kvs, o => ∃ kus, o = .dK kus ∧ Paired (fun (p : Key × W) (q : Key × V) => p.1 = q.1 ∧ okK p.1 = true ∧ RW K ρ H L p.2 q.2) kvs kus
  | .tab P q, o => p = P ∧ RT H L q o
  | .dead, _ => True
structure Rel (K : PySem.W.Frag) (S : Sto) (ρ : Pl) (H : Hp) : Prop where
  len : ρ.adr.length = S.length
  gt : ∀ a : Addr, ρ.grd a → ∃ o, H a = some o
  dj : ∀ a : Addr, ρ.grd a → ¬ Liv S ρ a
  ob : ∀ (n : Nat) (o : Ob), S[n]? = some o → o.live = true → ∃ a ho, ρ.adr[n]? = some a ∧ H a = some ho ∧ RO K ρ H (Live S ρ) a o ho
  inj : ∀ (n m : Nat) (a : Addr) (o u : Ob), S[n]? = some o → o.live = true → S[m]? = some u → u.live = true → ρ.adr[n]? = some a → ρ.adr[m]? = some a → n = m
/-- what is kept -/
structure Ext (S : Sto) (ρ : Pl) (H : Hp) (S' : Sto) (ρ' : Pl) (H' : Hp) : Prop where
  pre : ∀ (n : Nat) (a : Addr), ρ.adr[n]? = some a → ρ'.adr[n]? = some a
  stab : ∀ (a : Addr) (o : HO), H a = some o → ¬ Liv S ρ a → H' a = some o
  newl : ∀ a : Addr, Liv S' ρ' a → Liv S ρ a ∨ H a = none
  grd : ρ'.grd = ρ.grd
theorem Ext.refl {S : Sto} {ρ : Pl} {H : Hp} : Ext S ρ H S ρ H := ⟨fun _ _ h => h, fun _ _ h _ => h, fun _ h => .inl h, rfl⟩
theorem Ext.trans {S S1 S2 : Sto} {ρ ρ1 ρ2 : Pl} {H H1 H2 : Hp} (a : Ext S ρ H S1 ρ1 H1) (b : Ext S1 ρ1 H1 S2 ρ2 H2) : Ext S ρ H S2 ρ2 H2 := by
  refine ⟨fun n x h => b.pre _ _ (a.pre _ _ h), fun x o h l => b.stab x o (a.stab x o h l) fun q => ?_, fun x q => ?_, b.grd.trans a.grd⟩
  · rcases a.newl x q with q | q
    · exact l q
    · rw [h] at q; cases q
  · rcases b.newl x q with q | q
    · exact a.newl x q
    · cases e : H x with
      | none => exact .inr rfl
      | some o =>
        by_cases l : Liv S ρ x
        · exact .inl l
        · rw [a.stab x o e l] at q; cases q
/-- .. where a list that is being made may be guarded besides -/
structure Ext0 (S : Sto) (ρ : Pl) (H : Hp) (S' : Sto) (ρ' : Pl) (H' : Hp) : Prop where
  pre : ∀ (n : Nat) (a : Addr), ρ.adr[n]? = some a → ρ'.adr[n]? = some a
  stab : ∀ (a : Addr) (o : HO), H a = some o → ¬ Liv S ρ a → H' a = some o
  newl : ∀ a : Addr, Liv S' ρ' a → Liv S ρ a ∨ H a = none
  newg : ∀ a : Addr, ρ'.grd a → ρ.grd a ∨ H a = none
theorem Ext.to0 {S S' : Sto} {ρ ρ' : Pl} {H H' : Hp} (e : Ext S ρ H S' ρ' H') : Ext0 S ρ H S' ρ' H' := ⟨e.pre, e.stab, e.newl, fun a q => .inl (e.grd ▸ q)⟩
theorem Ext0.trans {S S1 S2 : Sto} {ρ ρ1 ρ2 : Pl} {H H1 H2 : Hp} (a : Ext0 S ρ H S1 ρ1 H1) (b : Ext S1 ρ1 H1 S2 ρ2 H2) : Ext0 S ρ H S2 ρ2 H2 := by
  refine ⟨fun n x h => b.pre _ _ (a.pre _ _ h), fun x o h l => b.stab x o (a.stab x o h l) fun q => ?_, fun x q => ?_, fun x q => a.newg x (b.grd ▸ q)⟩
  · rcases a.newl x q with q | q
    · exact l q
    · rw [h] at q; cases q
  · rcases b.newl x q with q | q
    · exact a.newl x q
    · cases e : H x with
      | none => exact .inr rfl
      | some o =>
        by_cases l : Liv S ρ x
        · exact .inl l
        · rw [a.stab x o e l] at q; cases q
section
variable {K : PySem.W.Frag} {S S' : Sto} {ρ ρ' : Pl} {H H' : Hp}
theorem Ext0.stabL (e : Ext0 S ρ H S' ρ' H') (a : Addr) (o : HO) (h : H a = some o) (l : ¬ Live S ρ a) : H' a = some o := e.stab a o h fun q => l (.inl q)
theorem Ext0.newL (e : Ext0 S ρ H S' ρ' H') (a : Addr) (h : Live S' ρ' a) : Live S ρ a ∨ H a = none := by
  rcases h with h | h
  · rcases e.newl a h with q | q
    · exact .inl (.inl q)
    · exact .inr q
  · rcases e.newg a h with q | q
    · exact .inl (.inr q)
    · exact .inr q
theorem RW.ext0 {w : W} {v : V} (h : RW K ρ H (Live S ρ) w v) (e : Ext0 S ρ H S' ρ' H') : RW K ρ' H' (Live S' ρ') w v := by
  cases w with
  | d x => exact Rp.ext e.stabL e.newL x v h
  | r n => obtain ⟨a, h1, h2⟩ := h; exact ⟨a, e.pre _ _ h1, h2⟩
  | s ns => obtain ⟨a, h1, h2⟩ := h; exact ⟨a, h1, h2.ext e.stabL e.newL⟩
  | e x => obtain ⟨a, h1, h2⟩ := h; exact ⟨a, h1, h2.ext e.stabL e.newL⟩
theorem Ext.stabL (e : Ext S ρ H S' ρ' H') (a : Addr) (o : HO) (h : H a = some o) (l : ¬ Live S ρ a) : H' a = some o := e.stab a o h fun q => l (.inl q)
theorem Ext.newL (e : Ext S ρ H S' ρ' H') (a : Addr) (h : Live S' ρ' a) : Live S ρ a ∨ H a = none := by
  rcases h with h | h
  · rcases e.newl a h with q | q
    · exact .inl (.inl q)
    · exact .inr q
  · rw [e.grd] at h
    exact .inl (.inr h)
theorem RW.ext {w : W} {v : V} (h : RW K ρ H (Live S ρ) w v) (e : Ext S ρ H S' ρ' H') : RW K ρ' H' (Live S' ρ') w v := by
  cases w with
  | d x => exact Rp.ext e.stabL e.newL x v h
  | r n => obtain ⟨a, h1, h2⟩ := h; exact ⟨a, e.pre _ _ h1, h2⟩
  | s ns => obtain ⟨a, h1, h2⟩ := h; exact ⟨a, h1, h2.ext e.stabL e.newL⟩
  | e x => obtain ⟨a, h1, h2⟩ := h; exact ⟨a, h1, h2.ext e.stabL e.newL⟩
theorem RWs.ext {ws : List W} {vs : List V} (h : RWs K ρ H (Live S ρ) ws vs) (e : Ext S ρ H S' ρ' H') : RWs K ρ' H' (Live S' ρ') ws vs := Paired.mapP h fun _ _ q => q.ext e
theorem RO.ext {p : Addr} {o : Ob} {ho : HO} (h : RO K ρ H (Live S ρ) p o ho) (e : Ext S ρ H S' ρ' H') : RO K ρ' H' (Live S' ρ') p o ho := by
  cases o with
  | lst ws => obtain ⟨vs, h1, h2⟩ := h; exact ⟨vs, h1, h2.ext e⟩
  | dct kvs => obtain ⟨kus, h1, h2⟩ := h; exact ⟨kus, h1, Paired.mapP h2 fun _ _ q => ⟨q.1, q.2.1, q.2.2.ext e⟩⟩
  | tab P q => exact ⟨h.1, RT.ext h.2 e.stabL e.newL⟩
  | dead => trivial
theorem Rel.tracked (R : Rel K S ρ H) {a : Addr} (l : Live S ρ a) : ∃ o, H a = some o := by
  rcases l with l | l
  case inr => exact R.gt a l
  obtain ⟨n, o, h1, h2, h3⟩ := l
  obtain ⟨a', ho, q1, q2, _⟩ := R.ob n o h1 h2
  rw [h3] at q1; cases q1
  exact ⟨_, q2⟩
theorem Rel.notLive (R : Rel K S ρ H) {p : Addr} (hp : H p = none) : ¬ Live S ρ p := fun l => by
  obtain ⟨o, h⟩ := R.tracked l
  rw [hp] at h; cases h
/-- something new that nobody changes -/
theorem Ext.frz {p : Addr} {o : HO} (hp : H p = none) : Ext S ρ H S ρ (upd H p o) :=
  ⟨fun _ _ h => h, fun a u h _ => by rw [upd_ne (ne_of_none h hp)]; exact h, fun _ h => .inl h, rfl⟩
theorem Rel.frz (R : Rel K S ρ H) {p : Addr} {o : HO} (hp : H p = none) : Rel K S ρ (upd H p o) :=
  ⟨R.len, fun a h => by
    obtain ⟨u, q⟩ := R.gt a h
    exact ⟨u, by rw [upd_ne (ne_of_none q hp)]; exact q⟩, R.dj, fun n u h1 h2 => by
    obtain ⟨a, ho, q1, q2, q3⟩ := R.ob n u h1 h2
    exact ⟨a, ho, q1, by rw [upd_ne (ne_of_none q2 hp)]; exact q2, q3.ext (Ext.frz hp)⟩, R.inj⟩
/-- a new place of the store -/
theorem Ext.new (R : Rel K S ρ H) {p : Addr} {o : Ob} {ho : HO} (hp : H p = none) : Ext S ρ H (S ++ [o]) (ρ.add p) (upd H p ho) := by
  refine ⟨fun n a h => ?_, fun a u h _ => by rw [upd_ne (ne_of_none h hp)]; exact h, fun a ⟨n, u, h1, h2, h3⟩ => ?_, rfl⟩
  · have hl : n < ρ.adr.length := (List.getElem?_eq_some_iff.mp h).1
    show (ρ.adr ++ [p])[n]? = some a
    rw [List.getElem?_append_left hl]; exact h
  · have h3 : (ρ.adr ++ [p])[n]? = some a := h3
    by_cases hn : n < S.length
    · rw [List.getElem?_append_left hn] at h1
      rw [List.getElem?_append_left (by rw [R.len]; exact hn)] at h3
      exact .inl ⟨n, u, h1, h2, h3⟩
    · rw [List.getElem?_append_right (by rw [R.len]; omega)] at h3
      have : n - ρ.adr.length = 0 := by
        cases e : n - ρ.adr.length with
        | zero => rfl
        | succ k => rw [e] at h3; simp at h3
      rw [this] at h3
      simp at h3
      subst h3
      exact .inr hp
theorem Rel.new (R : Rel K S ρ H) {p : Addr} {o : Ob} {ho : HO} (hp : H p = none) (hr : RO K ρ H (Live S ρ) p o ho) : Rel K (S ++ [o]) (ρ.add p) (upd H p ho) := by
  have e : Ext S ρ H (S ++ [o]) (ρ.add p) (upd H p ho) := Ext.new R hp
  refine ⟨by simp [Pl.add, R.len], fun a h => ?_, fun a h q => ?_, fun n u h1 h2 => ?_, fun n m a u u' h1 h2 h3 h4 h5 h6 => ?_⟩
  · obtain ⟨u, q⟩ := R.gt a h
    exact ⟨u, by rw [upd_ne (ne_of_none q hp)]; exact q⟩
  · rcases e.newl a q with q | q
    · exact R.dj a h q
    · obtain ⟨u, z⟩ := R.gt a h
      rw [z] at q; cases q
  · by_cases hn : n < S.length
    · rw [List.getElem?_append_left hn] at h1
      obtain ⟨a, hu, q1, q2, q3⟩ := R.ob n u h1 h2
      exact ⟨a, hu, e.pre _ _ q1, by rw [upd_ne (ne_of_none q2 hp)]; exact q2, q3.ext e⟩
    · rw [List.getElem?_append_right (by omega)] at h1
      have hz : n - S.length = 0 := by
        cases e : n - S.length with
        | zero => rfl
        | succ k => rw [e] at h1; simp at h1
      rw [hz] at h1
      simp at h1
      subst h1
      refine ⟨p, ho, ?_, upd_same, hr.ext e⟩
      show (ρ.adr ++ [p])[n]? = some p
      rw [List.getElem?_append_right (by rw [R.len]; omega), R.len, hz]; rfl
  · have key : ∀ (n : Nat) (a : Addr) (u : Ob), (S ++ [o])[n]? = some u → u.live = true → (ρ.adr ++ [p])[n]? = some a → (n < S.length ∧ S[n]? = some u ∧ ρ.adr[n]? = some a ∧ a ≠ p) ∨ (n = S.length ∧ a = p) := fun n a u h1 h2 h3 => by
      by_cases hn : n < S.length
      · rw [List.getElem?_append_left hn] at h1
        rw [List.getElem?_append_left (by rw [R.len]; exact hn)] at h3
        refine .inl ⟨hn, h1, h3, fun z => ?_⟩
        subst z
        exact R.notLive hp (.inl ⟨n, u, h1, h2, h3⟩)
      · have hl := (List.getElem?_eq_some_iff.mp h1).1
        simp at hl
        have hz : n = S.length := by omega
        subst hz
        rw [List.getElem?_append_right (by rw [R.len]; omega), R.len] at h3
        simp at h3
        exact .inr ⟨rfl, h3.symm⟩
    rcases key n a u h1 h2 h5 with ⟨k1, k2, k3, k4⟩ | ⟨k1, k2⟩
    · rcases key m a u' h3 h4 h6 with ⟨l1, l2, l3, l4⟩ | ⟨l1, l2⟩
      · exact R.inj n m a u u' k2 h2 l2 h4 k3 l3
      · exact absurd l2 k4
    · rcases key m a u' h3 h4 h6 with ⟨l1, l2, l3, l4⟩ | ⟨l1, l2⟩
      · exact absurd k2 l4
      · rw [k1, l1]
theorem live_set {n : Nat} {o u : Ob} (h : S[n]? = some o) (hl : o.live = true) {a : Addr} (q : Liv (S.set n u) ρ a) : Liv S ρ a := by
  obtain ⟨m, w, h1, h2, h3⟩ := q
  by_cases e : n = m
  · subst e; exact ⟨n, o, h, hl, h3⟩
  · rw [List.getElem?_set_ne e] at h1
    exact ⟨m, w, h1, h2, h3⟩
/-- a place is written -/
theorem Ext.put {n : Nat} {a : Addr} {o u : Ob} {hu : HO} (h : S[n]? = some o) (hl : o.live = true) (ha : ρ.adr[n]? = some a) : Ext S ρ H (S.set n u) ρ (upd H a hu) := by
  refine ⟨fun _ _ h => h, fun b x q l => ?_, fun b q => .inl (live_set h hl q), rfl⟩
  have : b ≠ a := fun z => l ⟨n, o, h, hl, z ▸ ha⟩
  rw [upd_ne this]; exact q
theorem Rel.put (R : Rel K S ρ H) {n : Nat} {a : Addr} {o u : Ob} {hu : HO} (h : S[n]? = some o) (hl : o.live = true) (ha : ρ.adr[n]? = some a) (hr : RO K ρ H (Live S ρ) a u hu) : Rel K (S.set n u) ρ (upd H a hu) := by
  have e : Ext S ρ H (S.set n u) ρ (upd H a hu) := Ext.put h hl ha
  have hn : n < S.length := (List.getElem?_eq_some_iff.mp h).1
  refine ⟨by simp [R.len], fun b q => ?_, fun b q z => R.dj b q (live_set h hl z), fun m w h1 h2 => ?_, fun m k b w w' h1 h2 h3 h4 h5 h6 => ?_⟩
  · by_cases eb : b = a
    · subst eb; exact ⟨_, upd_same⟩
    · rw [upd_ne eb]; exact R.gt b q
  · by_cases em : n = m
    · subst em
      rw [List.getElem?_set_self hn] at h1
      cases h1
      exact ⟨a, hu, ha, upd_same, hr.ext e⟩
    · rw [List.getElem?_set_ne em] at h1
      obtain ⟨b, hb, q1, q2, q3⟩ := R.ob m w h1 h2
      refine ⟨b, hb, q1, ?_, q3.ext e⟩
      have : b ≠ a := fun z => em (R.inj n m a o w h hl h1 h2 ha (z ▸ q1))
      rw [upd_ne this]; exact q2
  · have key : ∀ (m : Nat) (w : Ob), (S.set n u)[m]? = some w → w.live = true → ∃ w', S[m]? = some w' ∧ w'.live = true := fun m w h1 h2 => by
      by_cases em : n = m
      · subst em; exact ⟨o, h, hl⟩
      · rw [List.getElem?_set_ne em] at h1; exact ⟨w, h1, h2⟩
    obtain ⟨x, x1, x2⟩ := key m w h1 h2
    obtain ⟨y, y1, y2⟩ := key k w' h3 h4
    exact R.inj m k b x y x1 x2 y1 y2 h5 h6
/-- a place is given up: what stood there is changed no more -/
theorem Ext.kill {n : Nat} {o : Ob} (h : S[n]? = some o) (hl : o.live = true) : Ext S ρ H (S.set n .dead) ρ H :=
  ⟨fun _ _ h => h, fun _ _ q _ => q, fun _ q => .inl (live_set h hl q), rfl⟩
theorem Rel.kill (R : Rel K S ρ H) {n : Nat} {o : Ob} (h : S[n]? = some o) (hl : o.live = true) : Rel K (S.set n .dead) ρ H := by
  have e : Ext S ρ H (S.set n .dead) ρ H := Ext.kill h hl
  have hn : n < S.length := (List.getElem?_eq_some_iff.mp h).1
  have key : ∀ (m : Nat) (w : Ob), (S.set n .dead)[m]? = some w → w.live = true → n ≠ m ∧ S[m]? = some w := fun m w h1 h2 => by
    by_cases em : n = m
    · subst em
      rw [List.getElem?_set_self hn] at h1
      cases h1; cases h2
    · rw [List.getElem?_set_ne em] at h1; exact ⟨em, h1⟩
  refine ⟨by simp [R.len], R.gt, fun b q z => R.dj b q (live_set h hl z), fun m w h1 h2 => ?_, fun m k b w w' h1 h2 h3 h4 h5 h6 => ?_⟩
  · obtain ⟨_, q⟩ := key m w h1 h2
    obtain ⟨b, hb, q1, q2, q3⟩ := R.ob m w q h2
    exact ⟨b, hb, q1, q2, q3.ext e⟩
  · exact R.inj m k b w w' (key m w h1 h2).2 h2 (key k w' h3 h4).2 h4 h5 h6
theorem Rel.dead_not (R : Rel K S ρ H) {n : Nat} {a : Addr} {o : Ob} (h : S[n]? = some o) (hl : o.live = true) (ha : ρ.adr[n]? = some a) : ¬ Liv (S.set n .dead) ρ a := by
  rintro ⟨m, w, h1, h2, h3⟩
  have hn : n < S.length := (List.getElem?_eq_some_iff.mp h).1
  by_cases em : n = m
  · subst em
    rw [List.getElem?_set_self hn] at h1
    cases h1; cases h2
  · rw [List.getElem?_set_ne em] at h1
    exact em (R.inj n m a o w h hl h1 h2 ha h3)
theorem Rel.dead_notL (R : Rel K S ρ H) {n : Nat} {a : Addr} {o : Ob} (h : S[n]? = some o) (hl : o.live = true) (ha : ρ.adr[n]? = some a) : ¬ Live (S.set n .dead) ρ a := fun q => q.elim (R.dead_not h hl ha) fun q => R.dj a q ⟨n, o, h, hl, ha⟩
/-- a list that is being made is guarded -/
theorem Rel.guard (R : Rel K S ρ H) {p : Addr} {o : HO} (hp : H p = none) : Rel K S (ρ.guard p) (upd H p o) := by
  have R' := R.frz (o := o) hp
  have up : ∀ a, Live S (ρ.guard p) a → Live S ρ a ∨ H a = none := fun a q => by
    rcases q with q | q | q
    · exact .inl (.inl q)
    · exact .inl (.inr q)
    · exact .inr (q ▸ hp)
  have st : ∀ a u, H a = some u → ¬ Live S ρ a → upd H p o a = some u := fun a u h _ => by rw [upd_ne (ne_of_none h hp)]; exact h
  refine ⟨R.len, fun a q => ?_, fun a q z => ?_, fun n u h1 h2 => ?_, R.inj⟩
  · rcases q with q | q
    · exact R'.gt a q
    · exact ⟨o, q ▸ upd_same⟩
  · rcases q with q | q
    · exact R.dj a q z
    · exact R.notLive hp (.inl (q ▸ z))
  · obtain ⟨a, ho, q1, q2, q3⟩ := R.ob n u h1 h2
    refine ⟨a, ho, q1, by rw [upd_ne (ne_of_none q2 hp)]; exact q2, ?_⟩
    have key : ∀ w v, RW K ρ H (Live S ρ) w v → RW K (ρ.guard p) (upd H p o) (Live S (ρ.guard p)) w v := fun w v z => by
      cases w with
      | d x => exact Rp.ext st up x v z
      | r k => exact z
      | s ns => obtain ⟨a, h1, h2⟩ := z; exact ⟨a, h1, h2.ext st up⟩
      | e x => obtain ⟨a, h1, h2⟩ := z; exact ⟨a, h1, h2.ext st up⟩
    cases u with
    | lst ws => obtain ⟨vs, z1, z2⟩ := q3; exact ⟨vs, z1, Paired.mapP z2 fun _ _ z => key _ _ z⟩
    | dct kvs => obtain ⟨kus, z1, z2⟩ := q3; exact ⟨kus, z1, Paired.mapP z2 fun _ _ z => ⟨z.1, z.2.1, key _ _ z.2.2⟩⟩
    | tab P q => exact ⟨q3.1, RT.ext q3.2 st up⟩
    | dead => trivial
theorem RW.guard {p : Addr} {o : HO} (hp : H p = none) {w : W} {v : V} (z : RW K ρ H (Live S ρ) w v) : RW K (ρ.guard p) (upd H p o) (Live S (ρ.guard p)) w v := by
  cases w with
  | d x =>
    refine Rp.ext (fun a u h _ => by rw [upd_ne (ne_of_none h hp)]; exact h) (fun a q => ?_) x v z
    rcases q with q | q | q
    · exact .inl (.inl q)
    · exact .inl (.inr q)
    · exact .inr (q ▸ hp)
  | r k => exact z
  | s ns =>
    obtain ⟨b, h1, h2⟩ := z
    refine ⟨b, h1, h2.ext (fun a u h _ => by rw [upd_ne (ne_of_none h hp)]; exact h) (fun a q => ?_)⟩
    rcases q with q | q | q
    · exact .inl (.inl q)
    · exact .inl (.inr q)
    · exact .inr (q ▸ hp)
  | e x =>
    obtain ⟨b, h1, h2⟩ := z
    refine ⟨b, h1, h2.ext (fun a u h _ => by rw [upd_ne (ne_of_none h hp)]; exact h) (fun a q => ?_)⟩
    rcases q with q | q | q
    · exact .inl (.inl q)
    · exact .inl (.inr q)
    · exact .inr (q ▸ hp)
theorem Ext0.guard {p : Addr} {o : HO} (hp : H p = none) : Ext0 S ρ H S (ρ.guard p) (upd H p o) :=
  ⟨fun _ _ h => h, fun a u h _ => by rw [upd_ne (ne_of_none h hp)]; exact h, fun _ h => .inl h, fun a q => q.elim .inl fun z => .inr (z ▸ hp)⟩
/-- what is guarded is written -/
theorem RW.gput (R : Rel K S ρ H) {p : Addr} {o : HO} (g : ρ.grd p) {w : W} {v : V} (z : RW K ρ H (Live S ρ) w v) : RW K ρ (upd H p o) (Live S ρ) w v := by
  cases w with
  | d x => exact Rp.ext (fun a u h l => by rw [upd_ne (show a ≠ p from fun e => l (.inr (by rw [e]; exact g)))]; exact h) (fun a q => .inl q) x v z
  | r k => exact z
  | s ns =>
    obtain ⟨b, h1, h2⟩ := z
    exact ⟨b, h1, h2.ext (fun a u h l => by rw [upd_ne (show a ≠ p from fun e => l (.inr (by rw [e]; exact g)))]; exact h) (fun a q => .inl q)⟩
  | e x =>
    obtain ⟨b, h1, h2⟩ := z
    exact ⟨b, h1, h2.ext (fun a u h l => by rw [upd_ne (show a ≠ p from fun e => l (.inr (by rw [e]; exact g)))]; exact h) (fun a q => .inl q)⟩
theorem Rel.gput (R : Rel K S ρ H) {p : Addr} {o : HO} (g : ρ.grd p) : Rel K S ρ (upd H p o) := by
  refine ⟨R.len, fun a q => ?_, R.dj, fun n u h1 h2 => ?_, R.inj⟩
  · by_cases e : a = p
    · exact ⟨o, e ▸ upd_same⟩
    · rw [upd_ne e]; exact R.gt a q
  · obtain ⟨a, ho, q1, q2, q3⟩ := R.ob n u h1 h2
    have ne : a ≠ p := fun e => R.dj p g (e ▸ ⟨n, u, h1, h2, q1⟩)
    refine ⟨a, ho, q1, by rw [upd_ne ne]; exact q2, ?_⟩
    cases u with
    | lst ws => obtain ⟨vs, z1, z2⟩ := q3; exact ⟨vs, z1, Paired.mapP z2 fun _ _ z => RW.gput R g z⟩
    | dct kvs => obtain ⟨kus, z1, z2⟩ := q3; exact ⟨kus, z1, Paired.mapP z2 fun _ _ z => ⟨z.1, z.2.1, RW.gput R g z.2.2⟩⟩
    | tab P q => exact ⟨q3.1, RT.ext q3.2 (fun a u h l => by rw [upd_ne (show a ≠ p from fun e => l (.inr (by rw [e]; exact g)))]; exact h) (fun a q => .inl q)⟩
    | dead => trivial
/-- fewer are guarded -/
theorem RW.ung {g : Addr → Prop} (hg : ∀ a, g a → ρ.grd a) {w : W} {v : V} (z : RW K ρ H (Live S ρ) w v) : RW K ⟨ρ.adr, g⟩ H (Live S ⟨ρ.adr, g⟩) w v := by
  cases w with
  | d x => exact Rp.ext (fun a u h l => h) (fun a q => .inl (q.elim (fun q => .inl q) fun q => .inr (hg a q))) x v z
  | r k => exact z
  | s ns =>
    obtain ⟨b, h1, h2⟩ := z
    exact ⟨b, h1, h2.ext (fun a u h l => h) (fun a q => .inl (q.elim (fun q => .inl q) fun q => .inr (hg a q)))⟩
  | e x =>
    obtain ⟨b, h1, h2⟩ := z
    exact ⟨b, h1, h2.ext (fun a u h l => h) (fun a q => .inl (q.elim (fun q => .inl q) fun q => .inr (hg a q)))⟩
theorem Rel.ung {g : Addr → Prop} (R : Rel K S ρ H) (hg : ∀ a, g a → ρ.grd a) : Rel K S ⟨ρ.adr, g⟩ H := by
  refine ⟨R.len, fun a q => R.gt a (hg a q), fun a q z => R.dj a (hg a q) z, fun n u h1 h2 => ?_, R.inj⟩
  obtain ⟨a, ho, q1, q2, q3⟩ := R.ob n u h1 h2
  refine ⟨a, ho, q1, q2, ?_⟩
  cases u with
  | lst ws => obtain ⟨vs, z1, z2⟩ := q3; exact ⟨vs, z1, Paired.mapP z2 fun _ _ z => RW.ung hg z⟩
  | dct kvs => obtain ⟨kus, z1, z2⟩ := q3; exact ⟨kus, z1, Paired.mapP z2 fun _ _ z => ⟨z.1, z.2.1, RW.ung hg z.2.2⟩⟩
  | tab P q => exact ⟨q3.1, RT.ext q3.2 (fun a u h l => h) (fun a q => .inl (q.elim (fun q => .inl q) fun q => .inr (hg a q)))⟩
  | dead => trivial
end
end DL
/-! DL2: readings by plain functions: expressions, tests, arguments, statements; how they are put together. -/
namespace DL
open PySem PySem.Spec PyProof.Rows L2

abbrev RR (α β : Type) := Pl → Hp → (Addr → Prop) → α → β → Prop
def Stb {α β : Type} (R : RR α β) : Prop := ∀ (S : Sto) (ρ : Pl) (H : Hp) (S' : Sto) (ρ' : Pl) (H' : Hp) (a : α) (b : β), R ρ H (Live S ρ) a b → Ext S ρ H S' ρ' H' → R ρ' H' (Live S' ρ') a b
def rP {α β α' β' : Type} (R : RR α β) (R' : RR α' β') : RR (α × α') (β × β') := fun ρ H L p q => R ρ H L p.1 q.1 ∧ R' ρ H L p.2 q.2
def rE {α : Type} : RR α α := fun _ _ _ a b => a = b
theorem Stb.p {α β α' β' : Type} {R : RR α β} {R' : RR α' β'} (h : Stb R) (h' : Stb R') : Stb (rP R R') := fun _ _ _ _ _ _ _ _ q e => ⟨h _ _ _ _ _ _ _ _ q.1 e, h' _ _ _ _ _ _ _ _ q.2 e⟩
theorem Stb.e {α : Type} : Stb (rE (α := α)) := fun _ _ _ _ _ _ _ _ q _ => q
theorem Stb.w {K : PySem.W.Frag} : Stb (RW K) := fun _ _ _ _ _ _ _ _ q e => q.ext e
theorem Stb.ws {K : PySem.W.Frag} : Stb (RWs K) := fun _ _ _ _ _ _ _ _ q e => q.ext e
abbrev Env := List (Option W)
def REnv (K : PySem.W.Frag) : RR Env L2.St := fun ρ H L δ σ => δ.length = σ.length ∧ ∀ (i : Nat) (w : W), δ[i]? = some (some w) → ∃ v, σ[i]? = some (some v) ∧ RW K ρ H L w v
theorem Stb.env {K : PySem.W.Frag} : Stb (REnv K) := fun _ _ _ _ _ _ _ _ q e => ⟨q.1, fun i w h => let ⟨v, h1, h2⟩ := q.2 i w h; ⟨v, h1, h2.ext e⟩⟩
/-- what is wanted of an error -/
abbrev XZ := Ex → Sto → Pl → Hp → Prop
abbrev ZF : XZ := fun _ _ _ _ => False
/-- from a (b its likeness) the run of m a ends in what is wanted -/
def tH (K : PySem.W.Frag) (Z : XZ) {A B α β : Type} (RA : RR A B) (Rα : RR α β) (m : A → M α) (b : B) (H : Hp) (Q : β → Hp → Prop) : Prop :=
  ∃ (a : A) (S : Sto) (ρ : Pl), Rel K S ρ H ∧ RA ρ H (Live S ρ) a b ∧
    Gives (m a S) (fun r S' => ∀ (ρ' : Pl) (H' : Hp) (v : β), Ext S ρ H S' ρ' H' → Rel K S' ρ' H' → Rα ρ' H' (Live S' ρ') r v → Q v H')
      (fun x S' => ∀ (ρ' : Pl) (H' : Hp), Ext S ρ H S' ρ' H' → Rel K S' ρ' H' → Z x S' ρ' H')
section
variable {K : PySem.W.Frag} {Z : XZ} {A B A' B' α β γ γ' : Type} {RA : RR A B} {RA' : RR A' B'} {Rα : RR α β} {Rγ : RR γ γ'}
theorem tH.mono {m : A → M α} {b : B} {H : Hp} {Q Q' : β → Hp → Prop} (h : tH K Z RA Rα m b H Q) (hq : ∀ v H', Q v H' → Q' v H') : tH K Z RA Rα m b H Q' := by
  obtain ⟨a, S, ρ, r, ra, g⟩ := h
  exact ⟨a, S, ρ, r, ra, gives_imp g (fun _ _ q ρ' H' v e r' x => hq _ _ (q ρ' H' v e r' x)) fun _ _ q => q⟩
theorem tH.map {m : A' → M α} {f : A → A'} {g : B → B'} {b : B} {H : Hp} {Q : β → Hp → Prop} (h : tH K Z RA Rα (fun a => m (f a)) b H Q) (hp : ∀ ρ H L a b, RA ρ H L a b → RA' ρ H L (f a) (g b)) : tH K Z RA' Rα m (g b) H Q := by
  obtain ⟨a, S, ρ, r, ra, gv⟩ := h
  exact ⟨f a, S, ρ, r, hp _ _ _ _ _ ra, gv⟩
theorem tH.bind {f : A → M α} {g : A → α → M γ} {b : B} {H : Hp} {Q : γ' → Hp → Prop} (h : tH K Z RA Rγ (fun a => bd (f a) (g a)) b H Q) (st : Stb RA) :
    tH K Z RA Rα f b H fun v H1 => tH K Z (rP RA Rα) Rγ (fun p => g p.1 p.2) (b, v) H1 Q := by
  obtain ⟨a, S, ρ, r, ra, gv⟩ := h
  refine ⟨a, S, ρ, r, ra, gives_imp (gives_bd gv) (fun w S1 q ρ1 H1 v e1 r1 x1 => ?_) fun _ _ q => q⟩
  refine ⟨(a, w), S1, ρ1, r1, ⟨st _ _ _ _ _ _ _ _ ra e1, x1⟩, gives_imp q (fun c S2 q2 ρ2 H2 z e2 r2 x2 => ?_) fun x S2 q2 ρ2 H2 e2 r2 => ?_⟩
  · exact q2 ρ2 H2 z (e1.trans e2) r2 x2
  · exact q2 ρ2 H2 (e1.trans e2) r2
theorem tH.pure {f : A → α} {b : B} {H : Hp} {Q : β → Hp → Prop} (h : tH K Z RA Rα (fun a => pr (f a)) b H Q) {v : β} (hv : ∀ ρ H L a, RA ρ H L a b → Rα ρ H L (f a) v) : Q v H := by
  obtain ⟨a, S, ρ, r, ra, gv⟩ := h
  exact gv ρ H v Ext.refl r (hv _ _ _ _ ra)
end
abbrev tE (K : PySem.W.Frag) (Z : XZ) (f : Env → M W) : TE := fun σ H Q => tH K Z (REnv K) (RW K) f σ H Q
abbrev tT (K : PySem.W.Frag) (Z : XZ) (f : Env → M Bool) : TT := fun σ H Q => tH K Z (REnv K) rE f σ H Q
abbrev tA (K : PySem.W.Frag) (Z : XZ) (f : Env → M (List W)) : TA := fun σ H Q => tH K Z (REnv K) (RWs K) f σ H Q
theorem _root_.L2.PE.imp {X : Cx} {e : Expr} {t t' : TE} (h : PE X e t) (hi : ∀ σ H Q, t' σ H Q → t σ H Q) : PE X e t' := ⟨fun pins s σ H Q I q => h.run pins s σ H Q I (hi _ _ _ q)⟩
theorem _root_.L2.PT.imp {X : Cx} {e : Expr} {t t' : TT} (h : PT X e t) (hi : ∀ σ H Q, t' σ H Q → t σ H Q) : PT X e t' := ⟨fun pins s σ H Q I q => h.run pins s σ H Q I (hi _ _ _ q)⟩
theorem _root_.L2.PW.imp {X : Cx} {e : Expr} {t t' : TT} (h : PW X e t) (hi : ∀ σ H Q, t' σ H Q → t σ H Q) : PW X e t' := ⟨fun w pins s σ H Q I q => h.run w pins s σ H Q I (hi _ _ _ q)⟩
theorem _root_.L2.PA.imp {X : Cx} {e : List Expr} {t t' : TA} (h : PA X e t) (hi : ∀ σ H Q, t' σ H Q → t σ H Q) : PA X e t' := ⟨fun pos pins s σ H Q I q => h.run pos pins s σ H Q I (hi _ _ _ q)⟩
theorem _root_.L2.PTs.imp {X : Cx} {e : List Expr} {t t' : TT} (h : PTs X e t) (hi : ∀ σ H Q, t' σ H Q → t σ H Q) : PTs X e t' := ⟨fun pins s σ H Q I q => h.run pins s σ H Q I (hi _ _ _ q)⟩
theorem _root_.L2.PS.imp {X : Cx} {e : Stmt} {t t' : TS} (h : PS X e t) (hi : ∀ D σ H, t' D σ H → t D σ H) : PS X e t' := ⟨fun pins s σ H D I q => h.run pins s σ H D I (hi _ _ _ q)⟩
theorem _root_.L2.PSs.imp {X : Cx} {e : List Stmt} {t t' : TS} (h : PSs X e t) (hi : ∀ D σ H, t' D σ H → t D σ H) : PSs X e t' := ⟨fun pins s σ H D I q => h.run pins s σ H D I (hi _ _ _ q)⟩

/-! ### names and constants -/
def varM (i : Nat) (δ : Env) : M W := fun S => match δ[i]? with
  | some (some w) => .ok w S
  | _ => .no
abbrev cM (x : D) (_ : Env) : M W := pr (.d x)
section
variable {X : Cx} {Z : XZ} {pos : Pos}
theorem dvar {i : Nat} {x : Str} (hN : X.N[i]? = some x := by rfl) (hv : Vis X.env.scope x := by first | exact Or.inl rfl | exact Or.inr (Or.inl rfl) | exact Or.inr (Or.inr rfl)) (hd : (x == ("__debug__" : Str)) = false := by decide)
    (hcd : (x == ("__classdict__" : Str)) = false := by decide) : PE X (.Name x pos) (tE X.K Z (varM i)) := by
  refine (pe_var hN hv hd hcd).imp fun σ H Q h => ?_
  obtain ⟨δ, S, ρ, r, ra, g⟩ := h
  unfold varM at g
  split at g
  · rename_i w e
    obtain ⟨v, h1, h2⟩ := ra.2 i w e
    exact ⟨v, h1, g ρ H v Ext.refl r h2⟩
  · exact g.elim
theorem dC {e : Expr} {v : V} {x : D} (h : PE X e (tC v)) (hx : ∀ H L, Rp X.K H L v x) : PE X e (tE X.K Z (cM x)) :=
  h.imp fun σ H Q q => tH.pure q fun _ _ _ _ _ => hx _ _
theorem dint {i j} : PE X (.Constant (.int i) j pos) (tE X.K Z (cM (.int i))) := dC pe_int fun _ _ => .int i
theorem dbl {i j} : PE X (.Constant (.bool i) j pos) (tE X.K Z (cM (.bool i))) := dC pe_bl fun _ _ => .bl i
theorem dnon {j} : PE X (.Constant .none j pos) (tE X.K Z (cM .none)) := dC pe_non fun _ _ => .non
theorem dstr {x j} (h : okS x = true := by decide +kernel) : PE X (.Constant (.str x) j pos) (tE X.K Z (cM (.str x))) := dC pe_str fun _ _ => .str x h
/-- what is written at the top -/
theorem dglob {x : Str} {v : V} {u : Value} {d : D} (hg : Gl X x) (hm : X.mg x = some u) (r : RelV v u) (hx : ∀ H L, Rp X.K H L v d) (hd : (x == ("__debug__" : Str)) = false := by decide) : PE X (.Name x pos) (tE X.K Z (cM d)) :=
  dC (pe_glob hg hm r hd) hx
end

/-! ### operators by their rule -/
def r2M (K : PySem.W.Frag) (Z : XZ) (fo : W → W → M W) : R2 := fun x y H Q => tH K Z (rP (RW K) (RW K)) (RW K) (fun p => fo p.1 p.2) (x, y) H Q
def r1M (K : PySem.W.Frag) (Z : XZ) (fo : W → M W) : V → Hp → VK → Prop := fun x H Q => tH K Z (RW K) (RW K) fo x H Q
def rcM (K : PySem.W.Frag) (Z : XZ) (fo : List W → M W) : List V → Hp → VK → Prop := fun xs H Q => tH K Z (RWs K) (RW K) fo xs H Q
abbrev binM (fa fb : Env → M W) (fo : W → W → M W) : Env → M W := fun δ => bd (fa δ) fun x => bd (fb δ) fun y => fo x y
section
variable {X : Cx} {Z : XZ} {pos : Pos} {a b c : Expr} {fa fb fc : Env → M W}
theorem tE.two {σ : L2.St} {H : Hp} {Q : VK} {fo : W → W → M W} (h : tE X.K Z (binM fa fb fo) σ H Q) : tOp (r2M X.K Z fo) (tE X.K Z fa) (tE X.K Z fb) σ H Q := by
  refine (tH.bind (Rα := RW X.K) (f := fa) (g := fun δ x => bd (fb δ) fun y => fo x y) h Stb.env).mono fun x H1 h1 => ?_
  have h2 := tH.bind (Rα := RW X.K) (f := fun p : Env × W => fb p.1) (g := fun p y => fo p.2 y) h1 (Stb.env.p Stb.w)
  refine (tH.map (RA' := REnv X.K) (m := fb) (f := Prod.fst) (g := Prod.fst) h2 fun _ _ _ _ _ q => q.1).mono fun y H2 h3 => ?_
  exact tH.map (RA' := rP (RW X.K) (RW X.K)) (m := fun p : W × W => fo p.1 p.2) (f := fun q : (Env × W) × W => (q.1.2, q.2)) (g := fun q : (L2.St × V) × V => (q.1.2, q.2)) h3 fun _ _ _ _ _ q => ⟨q.1.2, q.2⟩
theorem dop {op : Operator} {fo : W → W → M W} (ho : OpR X (binaryOp op) (r2M X.K Z fo)) (ha : PE X a (tE X.K Z fa)) (hb : PE X b (tE X.K Z fb)) : PE X (.BinOp a op b pos) (tE X.K Z (binM fa fb fo)) :=
  (pe_op ho ha hb).imp fun _ _ _ h => tE.two h
theorem dcmp {op : CmpOp} {fo : W → W → M W} (ho : OpR X (compareOp op) (r2M X.K Z fo)) (ha : PE X a (tE X.K Z fa)) (hb : PE X b (tE X.K Z fb)) (hm : behindInMarks op b = false := by rfl) : PE X (.Compare a [op] [b] pos) (tE X.K Z (binM fa fb fo)) :=
  (pe_cmpR ho ha hb hm).imp fun _ _ _ h => tE.two h
def boolOf (w : W) : M Bool := match w with
  | .d (.bool b) => pr b
  | _ => no
/-- a < b < c -/
abbrev chainM (fa fb fc : Env → M W) (fo fo' : W → W → M W) : Env → M W := fun δ => bd (fa δ) fun x => bd (fb δ) fun y => bd (fo x y) fun z => bd (boolOf z) fun k => if k = true then bd (fc δ) fun w => fo' y w else pr (.d (.bool false))
theorem boolOf_gives {w : W} {S : Sto} {P : Bool → Sto → Prop} {E : Ex → Sto → Prop} (h : Gives (boolOf w S) P E) : ∃ b, w = .d (.bool b) ∧ P b S := by
  unfold boolOf at h
  split at h
  · exact ⟨_, rfl, h⟩
  · exact h.elim
theorem tE.chain {σ : L2.St} {H : Hp} {Q : VK} {fo fo' : W → W → M W} (h : tE X.K Z (chainM fa fb fc fo fo') σ H Q) : tChain (r2M X.K Z fo) (r2M X.K Z fo') (tE X.K Z fa) (tE X.K Z fb) (tE X.K Z fc) σ H Q := by
  refine (tH.bind (Rα := RW X.K) (f := fa) (g := fun δ x => bd (fb δ) fun y => bd (fo x y) fun z => bd (boolOf z) fun k => if k = true then bd (fc δ) fun w => fo' y w else pr (.d (.bool false))) h Stb.env).mono fun x H1 h1 => ?_
  have h2 := tH.bind (Rα := RW X.K) (f := fun p : Env × W => fb p.1) (g := fun p y => bd (fo p.2 y) fun z => bd (boolOf z) fun k => if k = true then bd (fc p.1) fun w => fo' y w else pr (.d (.bool false))) h1 (Stb.env.p Stb.w)
  refine (tH.map (RA' := REnv X.K) (m := fb) (f := Prod.fst) (g := Prod.fst) h2 fun _ _ _ _ _ q => q.1).mono fun y H2 h3 => ?_
  have h4 := tH.bind (Rα := RW X.K) (f := fun q : (Env × W) × W => fo q.1.2 q.2) (g := fun q z => bd (boolOf z) fun k => if k = true then bd (fc q.1.1) fun w => fo' q.2 w else pr (.d (.bool false))) h3 ((Stb.env.p Stb.w).p Stb.w)
  refine tH.mono (tH.map (RA' := rP (RW X.K) (RW X.K)) (m := fun p : W × W => fo p.1 p.2) (f := fun q : (Env × W) × W => (q.1.2, q.2)) (g := fun q : (L2.St × V) × V => (q.1.2, q.2)) h4 fun _ _ _ _ _ q => ⟨q.1.2, q.2⟩) fun z H3 h5 => ?_
  obtain ⟨⟨⟨⟨δ, w1⟩, w2⟩, w3⟩, S, ρ, r, ⟨⟨⟨r0, r1⟩, r2⟩, r3⟩, g⟩ := h5
  obtain ⟨k, e, g⟩ := boolOf_gives (gives_bd g)
  change w3 = _ at e
  subst e
  have hz : z = .bl k := by cases r3; rfl
  refine ⟨k, hz, ?_⟩
  cases k with
  | true =>
    rw [if_pos rfl]
    rw [if_pos rfl] at g
    have h6 : tH X.K Z (rP (REnv X.K) (RW X.K)) (RW X.K) (fun p : Env × W => bd (fc p.1) fun w => fo' p.2 w) (σ, y) H3 Q := ⟨(δ, w2), S, ρ, r, ⟨r0, r2⟩, g⟩
    have h7 := tH.bind (Rα := RW X.K) (f := fun p : Env × W => fc p.1) (g := fun p w => fo' p.2 w) h6 (Stb.env.p Stb.w)
    refine (tH.map (RA' := REnv X.K) (m := fc) (f := Prod.fst) (g := Prod.fst) h7 fun _ _ _ _ _ q => q.1).mono fun w H4 h8 => ?_
    exact tH.map (RA' := rP (RW X.K) (RW X.K)) (m := fun p : W × W => fo' p.1 p.2) (f := fun q : (Env × W) × W => (q.1.2, q.2)) (g := fun q : (L2.St × V) × V => (q.1.2, q.2)) h8 fun _ _ _ _ _ q => ⟨q.1.2, q.2⟩
  | false =>
    rw [if_neg Bool.false_ne_true]
    rw [if_neg Bool.false_ne_true] at g
    exact g ρ H3 (.bl false) Ext.refl r (.bl false)
theorem dchain {op op' : CmpOp} {fo fo' : W → W → M W} (ho : OpR X (compareOp op) (r2M X.K Z fo)) (ho' : OpR X (compareOp op') (r2M X.K Z fo')) (ha : PE X a (tE X.K Z fa)) (hb : PE X b (tE X.K Z fb)) (hc : PE X c (tE X.K Z fc)) (hm : lastMarks [op, op'] [b, c] = false := by with_unfolding_all rfl) :
    PE X (.Compare a [op, op'] [b, c] pos) (tE X.K Z (chainM fa fb fc fo fo')) := (pe_chain ho ho' ha hb hc hm).imp fun σ H Q h => tE.chain h
theorem dun {op : UnaryOp} {fo : W → M W} (ho : UnR X (unaryOp op) (r1M X.K Z fo)) (ha : PE X a (tE X.K Z fa)) : PE X (.UnaryOp op a pos) (tE X.K Z fun δ => bd (fa δ) fo) := by
  refine (pe_un ho ha).imp fun σ H Q h => ?_
  refine (tH.bind (Rα := RW X.K) (f := fa) (g := fun _ x => fo x) h Stb.env).mono fun x H1 h1 => ?_
  exact tH.map (RA' := RW X.K) (m := fo) (f := Prod.snd) (g := Prod.snd) h1 fun _ _ _ _ _ q => q.2

/-! ### arguments, displays -/
abbrev nilM : Env → M (List W) := fun _ => pr []
abbrev consM (fa : Env → M W) (fr : Env → M (List W)) : Env → M (List W) := fun δ => bd (fa δ) fun x => bd (fr δ) fun xs => pr (x :: xs)
variable {es : List Expr} {fr : Env → M (List W)}
theorem danil : PA X [] (tA X.K Z nilM) := pa_nil.imp fun σ H Q h => tH.pure h fun _ _ _ _ _ => .nil
theorem dacons (ha : PE X a (tE X.K Z fa)) (hr : PA X es (tA X.K Z fr)) (hs : starEach (a :: es) X.env = (false, eval a X.env) :: starEach es X.env := by rfl) : PA X (a :: es) (tA X.K Z (consM fa fr)) := by
  refine (pa_cons ha hr hs).imp fun σ H Q h => ?_
  refine (tH.bind (Rα := RW X.K) (f := fa) (g := fun δ x => bd (fr δ) fun xs => pr (x :: xs)) h Stb.env).mono fun x H1 h1 => ?_
  have h2 := tH.bind (Rα := RWs X.K) (f := fun p : Env × W => fr p.1) (g := fun p xs => pr (p.2 :: xs)) h1 (Stb.env.p Stb.w)
  refine (tH.map (RA' := REnv X.K) (m := fr) (f := Prod.fst) (g := Prod.fst) h2 fun _ _ _ _ _ q => q.1).mono fun xs H2 h3 => ?_
  exact tH.pure h3 fun _ _ _ _ q => .cons q.1.2 q.2
/-- plain data of all -/
def allD : List W → Option (List D)
  | [] => some []
  | .d x :: ws => (allD ws).map (x :: ·)
  | .r _ :: _ => none
  | .s _ :: _ => none
  | .e _ :: _ => none
theorem allD_rep {K : PySem.W.Frag} {ρ : Pl} {H : Hp} {L : Addr → Prop} : ∀ {ws : List W} {vs : List V} {ds : List D}, allD ws = some ds → RWs K ρ H L ws vs → RpA K H L vs ds
  | [], _, ds, h, r => by cases r; simp [allD] at h; subst h; exact .nil
  | .d x :: ws, _, ds, h, r => by
    cases r with
    | cons a b =>
      simp only [allD, Option.map_eq_some_iff] at h
      obtain ⟨es, h1, h2⟩ := h
      subst h2
      exact .cons a (allD_rep h1 b)
  | .r _ :: _, _, ds, h, r => by simp [allD] at h
  | .s _ :: _, _, ds, h, r => by simp [allD] at h
  | .e _ :: _, _, ds, h, r => by simp [allD] at h
theorem allD_map : ∀ ds : List D, allD (ds.map .d) = some ds
  | [] => rfl
  | d :: ds => by simp [allD, allD_map ds]
/-- a new list or tuple that nobody changes -/
def lstM (ws : List W) : M W := fun S => if ws.length ≤ sizeLine then (match allD ws with | some ds => .ok (.d (.list ds)) S | none => .no) else .no
def tupM (ws : List W) : M W := fun S => if ws.length ≤ sizeLine then (match allD ws with | some ds => .ok (.d (.tuple ds)) S | none => .no) else .no
/-- a new list that may change -/
def newM (ws : List W) : M W := fun S => if ws.length ≤ sizeLine then .ok (.r S.length) (S ++ [.lst ws]) else .no
theorem lstM_new {K : PySem.W.Frag} {ρ : Pl} {H : Hp} {S : Sto} {ws : List W} {vs : List V} {P : W → Sto → Prop} {E : Ex → Sto → Prop} (g : Gives (lstM ws S) P E) (R : Rel K S ρ H) (rv : RWs K ρ H (Live S ρ) ws vs) :
    ∃ ds, vs.length ≤ sizeLine ∧ P (.d (.list ds)) S ∧ ∀ p, H p = none → RW K ρ (upd H p (.lst vs)) (Live S ρ) (.d (.list ds)) (.ref p) := by
  unfold lstM at g
  split at g
  · rename_i hl
    split at g
    · rename_i ds e
      refine ⟨ds, by rw [← Paired.length rv]; exact hl, g, fun p hp => ?_⟩
      have ex : Ext S ρ H S ρ (upd H p (.lst vs)) := Ext.frz hp
      exact .lst ⟨upd_same, R.notLive hp⟩ (RpA.ext ex.stabL ex.newL _ _ (allD_rep e rv))
    · exact g.elim
  · exact g.elim
theorem tupM_new {K : PySem.W.Frag} {ρ : Pl} {H : Hp} {S : Sto} {ws : List W} {vs : List V} {P : W → Sto → Prop} {E : Ex → Sto → Prop} (g : Gives (tupM ws S) P E) (R : Rel K S ρ H) (rv : RWs K ρ H (Live S ρ) ws vs) :
    ∃ ds, vs.length ≤ sizeLine ∧ P (.d (.tuple ds)) S ∧ ∀ p, H p = none → RW K ρ (upd H p (.tup vs)) (Live S ρ) (.d (.tuple ds)) (.ref p) := by
  unfold tupM at g
  split at g
  · rename_i hl
    split at g
    · rename_i ds e
      refine ⟨ds, by rw [← Paired.length rv]; exact hl, g, fun p hp => ?_⟩
      have ex : Ext S ρ H S ρ (upd H p (.tup vs)) := Ext.frz hp
      exact .tup (.inl ⟨.inl upd_same, R.notLive hp⟩) (RpA.ext ex.stabL ex.newL _ _ (allD_rep e rv))
    · exact g.elim
  · exact g.elim
theorem newM_new {K : PySem.W.Frag} {ρ : Pl} {H : Hp} {S : Sto} {ws : List W} {vs : List V} {P : W → Sto → Prop} {E : Ex → Sto → Prop} (g : Gives (newM ws S) P E) (R : Rel K S ρ H) (rv : RWs K ρ H (Live S ρ) ws vs) :
    vs.length ≤ sizeLine ∧ P (.r S.length) (S ++ [.lst ws]) ∧ ∀ p, H p = none → Ext S ρ H (S ++ [.lst ws]) (ρ.add p) (upd H p (.lst vs)) ∧ Rel K (S ++ [.lst ws]) (ρ.add p) (upd H p (.lst vs)) ∧
      RW K (ρ.add p) (upd H p (.lst vs)) (Live (S ++ [.lst ws]) (ρ.add p)) (.r S.length) (.ref p) := by
  unfold newM at g
  split at g
  · rename_i hl
    refine ⟨by rw [← Paired.length rv]; exact hl, g, fun p hp => ⟨Ext.new R hp, Rel.new R hp ⟨vs, rfl, rv⟩, p, ?_, rfl⟩⟩
    show (ρ.adr ++ [p])[S.length]? = some p
    rw [← R.len, List.getElem?_append_right (Nat.le_refl _)]
    simp
  · exact g.elim
theorem dlst (h : PA X es (tA X.K Z fr)) : PE X (.List es pos) (tE X.K Z fun δ => bd (fr δ) lstM) := by
  refine (pe_lst h).imp fun σ H Q q => ?_
  refine (tH.bind (Rα := RWs X.K) (f := fr) (g := fun _ xs => lstM xs) q Stb.env).mono fun xs H1 h1 => ?_
  obtain ⟨⟨δ, ws⟩, S, ρ, r, ⟨_, rv⟩, g⟩ := h1
  obtain ⟨ds, hl, g, hn⟩ := lstM_new g r rv
  exact ⟨hl, fun p hp => g ρ _ _ (Ext.frz hp) (r.frz hp) (hn p hp)⟩
theorem dtup {x1} (h : PA X es (tA X.K Z fr)) : PE X (.Tuple es x1 pos) (tE X.K Z fun δ => bd (fr δ) tupM) := by
  refine (pe_tup h).imp fun σ H Q q => ?_
  refine (tH.bind (Rα := RWs X.K) (f := fr) (g := fun _ xs => tupM xs) q Stb.env).mono fun xs H1 h1 => ?_
  obtain ⟨⟨δ, ws⟩, S, ρ, r, ⟨_, rv⟩, g⟩ := h1
  obtain ⟨ds, hl, g, hn⟩ := tupM_new g r rv
  exact ⟨hl, fun p hp => g ρ _ _ (Ext.frz hp) (r.frz hp) (hn p hp)⟩
theorem dnew (h : PA X es (tA X.K Z fr)) : PE X (.List es pos) (tE X.K Z fun δ => bd (fr δ) newM) := by
  refine (pe_lst h).imp fun σ H Q q => ?_
  refine (tH.bind (Rα := RWs X.K) (f := fr) (g := fun _ xs => newM xs) q Stb.env).mono fun xs H1 h1 => ?_
  obtain ⟨⟨δ, ws⟩, S, ρ, r, ⟨_, rv⟩, g⟩ := h1
  obtain ⟨hl, g, hn⟩ := newM_new g r rv
  refine ⟨hl, fun p hp => ?_⟩
  obtain ⟨e1, e2, e3⟩ := hn p hp
  exact g _ _ _ e1 e2 e3
end
end DL
/-! DL3: tests, and | or | not, choices, calls, subscripts, statements, loops. -/
namespace DL
open PySem PySem.Spec PyProof.Rows L2
section
variable {X : Cx} {Z : XZ} {pos : Pos} {a b c : Expr} {fa fb fc : Env → M W} {ga gb : Env → M Bool} {rest : List Expr}
/-! ### tests -/
abbrev valT (f : Env → M W) : Env → M Bool := fun δ => bd (f δ) boolOf
abbrev andT (f g : Env → M Bool) : Env → M Bool := fun δ => bd (f δ) fun k => if k = true then g δ else pr false
abbrev orT (f g : Env → M Bool) : Env → M Bool := fun δ => bd (f δ) fun k => if k = true then pr true else g δ
abbrev notT (f : Env → M Bool) : Env → M Bool := fun δ => bd (f δ) fun k => pr (!k)
theorem tT.val {σ : L2.St} {H : Hp} {Q : Bool → Hp → Prop} (h : tT X.K Z (valT fa) σ H Q) : tB (tE X.K Z fa) σ H Q := by
  refine (tH.bind (Rα := RW X.K) (f := fa) (g := fun _ x => boolOf x) h Stb.env).mono fun x H1 h1 => ?_
  obtain ⟨⟨δ, w⟩, S, ρ, r, ⟨r0, r1⟩, g⟩ := h1
  obtain ⟨k, e, g⟩ := boolOf_gives g
  change w = _ at e
  subst e
  cases r1
  exact ⟨k, rfl, g ρ H1 k Ext.refl r rfl⟩
theorem dt_val {e : Expr} (h : PE X e (tE X.K Z fa)) (he : ∀ whole, isTrue e X.env whole = (do let v ← whole; standAt e.pos; holding [v] (truthy v)) := by intro _; rfl) : PT X e (tT X.K Z (valT fa)) :=
  (pt_val h he).imp fun _ _ _ q => tT.val q
theorem dt_cmp {op : CmpOp} {fo : W → W → M W} (ho : OpR X (compareOp op) (r2M X.K Z fo)) (ha : PE X a (tE X.K Z fa)) (hb : PE X b (tE X.K Z fb)) (hm : behindInMarks op b = false := by rfl) :
    PT X (.Compare a [op] [b] pos) (tT X.K Z (valT (binM fa fb fo))) :=
  (pt_cmpR ho ha hb hm).imp fun σ H Q q => by
    have h1 := tT.val q
    unfold tB at h1
    unfold tTest
    exact tE.two h1
theorem dw_and1 (h : PT X a (tT X.K Z ga)) : PW X (.BoolOp .And [a] pos) (tT X.K Z ga) := pw_and1 h
theorem dw_or1 (h : PT X a (tT X.K Z ga)) : PW X (.BoolOp .Or [a] pos) (tT X.K Z ga) := pw_or1 h
theorem tT.and {σ : L2.St} {H : Hp} {Q : Bool → Hp → Prop} (h : tT X.K Z (andT ga gb) σ H Q) : tAnd (tT X.K Z ga) (tT X.K Z gb) σ H Q := by
  refine (tH.bind (Rα := rE) (f := ga) (g := fun δ k => if k = true then gb δ else pr false) h Stb.env).mono fun k H1 h1 => ?_
  obtain ⟨⟨δ, w⟩, S, ρ, r, ⟨r0, r1⟩, g⟩ := h1
  cases r1
  cases k with
  | true =>
    rw [if_pos rfl]
    exact ⟨δ, S, ρ, r, r0, g⟩
  | false =>
    rw [if_neg Bool.false_ne_true]
    exact g ρ H1 false Ext.refl r rfl
theorem tT.or {σ : L2.St} {H : Hp} {Q : Bool → Hp → Prop} (h : tT X.K Z (orT ga gb) σ H Q) : tOr (tT X.K Z ga) (tT X.K Z gb) σ H Q := by
  refine (tH.bind (Rα := rE) (f := ga) (g := fun δ k => if k = true then pr true else gb δ) h Stb.env).mono fun k H1 h1 => ?_
  obtain ⟨⟨δ, w⟩, S, ρ, r, ⟨r0, r1⟩, g⟩ := h1
  cases r1
  cases k with
  | true =>
    rw [if_pos rfl]
    exact g ρ H1 true Ext.refl r rfl
  | false =>
    rw [if_neg Bool.false_ne_true]
    exact ⟨δ, S, ρ, r, r0, g⟩
theorem dw_and (ha : PT X a (tT X.K Z ga)) (hb : PW X (.BoolOp .And (b :: rest) pos) (tT X.K Z gb)) : PW X (.BoolOp .And (a :: b :: rest) pos) (tT X.K Z (andT ga gb)) := (pw_and ha hb).imp fun _ _ _ h => tT.and h
theorem dw_or (ha : PT X a (tT X.K Z ga)) (hb : PW X (.BoolOp .Or (b :: rest) pos) (tT X.K Z gb)) : PW X (.BoolOp .Or (a :: b :: rest) pos) (tT X.K Z (orT ga gb)) := (pw_or ha hb).imp fun _ _ _ h => tT.or h
theorem dt_bool (h : PW X a (tT X.K Z ga)) : PT X a (tT X.K Z ga) := h.pt
theorem dt_not (h : PT X a (tT X.K Z ga)) : PT X (.UnaryOp .Not a pos) (tT X.K Z (notT ga)) := by
  refine (pt_not h).imp fun σ H Q q => ?_
  refine (tH.bind (Rα := rE) (f := ga) (g := fun _ k => pr (!k)) q Stb.env).mono fun k H1 h1 => ?_
  exact tH.pure h1 fun _ _ _ p q => by
    have := q.2
    show (!p.2) = !k
    rw [show p.2 = k from this]
/-! ### .. as values -/
abbrev andV (f g : Env → M W) : Env → M W := fun δ => bd (f δ) fun x => bd (boolOf x) fun k => if k = true then g δ else pr (.d (.bool false))
abbrev orV (f g : Env → M W) : Env → M W := fun δ => bd (f δ) fun x => bd (boolOf x) fun k => if k = true then pr (.d (.bool true)) else g δ
abbrev notV (f : Env → M W) : Env → M W := fun δ => bd (f δ) fun x => bd (boolOf x) fun k => pr (.d (.bool !k))
theorem dv_one {op} (h : PE X a (tE X.K Z fa)) : PE X (.BoolOp op [a] pos) (tE X.K Z fa) := pe_one h
theorem dv_and (ha : PE X a (tE X.K Z fa)) (hb : PE X (.BoolOp .And (b :: rest) pos) (tE X.K Z fb)) : PE X (.BoolOp .And (a :: b :: rest) pos) (tE X.K Z (andV fa fb)) := by
  refine (pe_and ha hb).imp fun σ H Q h => ?_
  refine (tH.bind (Rα := RW X.K) (f := fa) (g := fun δ x => bd (boolOf x) fun k => if k = true then fb δ else pr (.d (.bool false))) h Stb.env).mono fun x H1 h1 => ?_
  obtain ⟨⟨δ, w⟩, S, ρ, r, ⟨r0, r1⟩, g⟩ := h1
  obtain ⟨k, e, g⟩ := boolOf_gives (gives_bd g)
  change w = _ at e
  subst e
  cases r1
  refine ⟨k, rfl, ?_⟩
  cases k with
  | true => rw [if_pos rfl]; exact ⟨δ, S, ρ, r, r0, g⟩
  | false => rw [if_neg Bool.false_ne_true]; exact g ρ H1 (.bl false) Ext.refl r (.bl false)
theorem dv_or (ha : PE X a (tE X.K Z fa)) (hb : PE X (.BoolOp .Or (b :: rest) pos) (tE X.K Z fb)) : PE X (.BoolOp .Or (a :: b :: rest) pos) (tE X.K Z (orV fa fb)) := by
  refine (pe_or ha hb).imp fun σ H Q h => ?_
  refine (tH.bind (Rα := RW X.K) (f := fa) (g := fun δ x => bd (boolOf x) fun k => if k = true then pr (.d (.bool true)) else fb δ) h Stb.env).mono fun x H1 h1 => ?_
  obtain ⟨⟨δ, w⟩, S, ρ, r, ⟨r0, r1⟩, g⟩ := h1
  obtain ⟨k, e, g⟩ := boolOf_gives (gives_bd g)
  change w = _ at e
  subst e
  cases r1
  refine ⟨k, rfl, ?_⟩
  cases k with
  | true => rw [if_pos rfl]; exact g ρ H1 (.bl true) Ext.refl r (.bl true)
  | false => rw [if_neg Bool.false_ne_true]; exact ⟨δ, S, ρ, r, r0, g⟩
theorem dv_not (ha : PE X a (tE X.K Z fa)) : PE X (.UnaryOp .Not a pos) (tE X.K Z (notV fa)) := by
  refine (pe_not ha).imp fun σ H Q h => ?_
  refine (tH.bind (Rα := RW X.K) (f := fa) (g := fun δ x => bd (boolOf x) fun k => pr (W.d (.bool !k))) h Stb.env).mono fun x H1 h1 => ?_
  obtain ⟨⟨δ, w⟩, S, ρ, r, ⟨r0, r1⟩, g⟩ := h1
  obtain ⟨k, e, g⟩ := boolOf_gives (gives_bd g)
  change w = _ at e
  subst e
  cases r1
  exact ⟨k, rfl, g ρ H1 (.bl !k) Ext.refl r (.bl _)⟩
abbrev ifV (t : Env → M Bool) (f g : Env → M W) : Env → M W := fun δ => bd (t δ) fun k => if k = true then f δ else g δ
theorem dif (hc : PT X c (tT X.K Z ga)) (ha : PE X a (tE X.K Z fa)) (hb : PE X b (tE X.K Z fb)) : PE X (.IfExp c a b pos) (tE X.K Z (ifV ga fa fb)) := by
  refine (pe_ifExp hc ha hb).imp fun σ H Q h => ?_
  refine (tH.bind (Rα := rE) (f := ga) (g := fun δ k => if k = true then fa δ else fb δ) h Stb.env).mono fun k H1 h1 => ?_
  obtain ⟨⟨δ, w⟩, S, ρ, r, ⟨r0, r1⟩, g⟩ := h1
  cases r1
  cases k with
  | true => rw [if_pos rfl]; exact ⟨δ, S, ρ, r, r0, g⟩
  | false => rw [if_neg Bool.false_ne_true]; exact ⟨δ, S, ρ, r, r0, g⟩
/-! ### calls of built-ins -/
variable {es : List Expr} {fr : Env → M (List W)} {x : Str} {p : Pos} {id T : String}
abbrev calM (fr : Env → M (List W)) (fo : List W → M W) : Env → M W := fun δ => bd (fr δ) fo
theorem tE.call {σ : L2.St} {H : Hp} {Q : VK} {fo : List W → M W} (h : tE X.K Z (calM fr fo) σ H Q) : tCB (rcM X.K Z fo) (tA X.K Z fr) σ H Q := by
  refine (tH.bind (Rα := RWs X.K) (f := fr) (g := fun _ xs => fo xs) h Stb.env).mono fun xs H1 h1 => ?_
  exact tH.map (RA' := RWs X.K) (m := fo) (f := Prod.snd) (g := Prod.snd) h1 fun _ _ _ _ _ q => q.2
theorem dcallB {fo : List W → M W} (hc : CallR X (.builtin id) (rcM X.K Z fo)) (hg : Gl X x) (hm : X.mg x = none) (hv : bootBuiltins x = some (.builtin id)) (ha : PA X (a :: es) (tA X.K Z fr)) (hn : x ≠ "__name__" := by decide) (hdb : (x == ("__debug__" : Str)) = false := by decide)
    (he : starEach (a :: es) X.env = (false, eval a X.env) :: starEach es X.env := by rfl) (hpl : (backTo pos (starEach es X.env)).any (·.1) = false := by rfl) : PE X (.Call (.Name x p) (a :: es) [] pos) (tE X.K Z (calM fr fo)) :=
  (pe_callB hc hg hm hv ha hn hdb he hpl).imp fun _ _ _ h => tE.call h
theorem dcallTy {fo : List W → M W} (hc : CallR X (.type T) (rcM X.K Z fo)) (hg : Gl X x) (hm : X.mg x = none) (hv : bootBuiltins x = some (.type T)) (ha : PA X (a :: es) (tA X.K Z fr)) (hn : x ≠ "__name__" := by decide) (hdb : (x == ("__debug__" : Str)) = false := by decide)
    (he : starEach (a :: es) X.env = (false, eval a X.env) :: starEach es X.env := by rfl) (hpl : (backTo pos (starEach es X.env)).any (·.1) = false := by rfl) : PE X (.Call (.Name x p) (a :: es) [] pos) (tE X.K Z (calM fr fo)) :=
  (pe_callTy hc hg hm hv ha hn hdb he hpl).imp fun _ _ _ h => tE.call h
/-! ### subscripts, slices, methods of built-ins -/
theorem dix {fo : W → W → M W} (hr : IxR X (r2M X.K Z fo)) (ha : PE X a (tE X.K Z fa)) (hb : PE X b (tE X.K Z fb)) (hs : PlainIx b := by exact fun _ _ => rfl) : PE X (.Subscript a b pos) (tE X.K Z (binM fa fb fo)) :=
  (pe_ix hr ha hb hs).imp fun _ _ _ h => tE.two h
def intOf (w : W) : M Int := match w with
  | .d (.int i) => pr i
  | _ => no
theorem intOf_gives {w : W} {S : Sto} {P : Int → Sto → Prop} {E : Ex → Sto → Prop} (h : Gives (intOf w S) P E) : ∃ i, w = .d (.int i) ∧ P i S := by
  unfold intOf at h
  split at h
  · exact ⟨_, rfl, h⟩
  · exact h.elim
abbrev tO (K : PySem.W.Frag) (Z : XZ) (f : Env → M (Option Int)) : TO := fun σ H Q => tH K Z (REnv K) rE f σ H Q
theorem _root_.L2.PO.imp {e : Option Expr} {t t' : TO} (h : PO X e t) (hi : ∀ σ H Q, t' σ H Q → t σ H Q) : PO X e t' := ⟨fun pins s σ H Q I q => h.run pins s σ H Q I (hi _ _ _ q)⟩
theorem dpo_none : PO X none (tO X.K Z fun _ => pr none) := po_none.imp fun σ H Q h => tH.pure h fun _ _ _ _ _ => rfl
theorem dpo_some (h : PE X a (tE X.K Z fa)) : PO X (some a) (tO X.K Z fun δ => bd (fa δ) fun w => bd (intOf w) fun i => pr (some i)) := by
  refine (po_some h).imp fun σ H Q q => ?_
  refine (tH.bind (Rα := RW X.K) (f := fa) (g := fun _ w => bd (intOf w) fun i => pr (some i)) q Stb.env).mono fun v H1 h1 => ?_
  obtain ⟨⟨δ, w⟩, S, ρ, r, ⟨r0, r1⟩, g⟩ := h1
  obtain ⟨i, e, g⟩ := intOf_gives (gives_bd g)
  change w = _ at e
  subst e
  cases r1
  exact ⟨i, rfl, g ρ H1 (some i) Ext.refl r rfl⟩
def rsM (K : PySem.W.Frag) (Z : XZ) (fo : W → Option Int → Option Int → M W) : V → Option Int → Option Int → Hp → VK → Prop := fun x lo hi H Q => tH K Z (RW K) (RW K) (fun w => fo w lo hi) x H Q
theorem dslice {fo : W → Option Int → Option Int → M W} {lo hi : Option Expr} {gl gh : Env → M (Option Int)} {p2 : Pos} (hr : SlR X (rsM X.K Z fo)) (he : PE X a (tE X.K Z fa)) (hl : PO X lo (tO X.K Z gl)) (hu : PO X hi (tO X.K Z gh)) :
    PE X (.Subscript a (.Slice lo hi none p2) pos) (tE X.K Z fun δ => bd (fa δ) fun x => bd (gl δ) fun l => bd (gh δ) fun u => fo x l u) := by
  refine (pe_slice hr he hl hu).imp fun σ H Q h => ?_
  refine (tH.bind (Rα := RW X.K) (f := fa) (g := fun δ x => bd (gl δ) fun l => bd (gh δ) fun u => fo x l u) h Stb.env).mono fun v H1 h1 => ?_
  have h2 := tH.bind (Rα := rE) (f := fun p : Env × W => gl p.1) (g := fun p l => bd (gh p.1) fun u => fo p.2 l u) h1 (Stb.env.p Stb.w)
  refine (tH.map (RA' := REnv X.K) (m := gl) (f := Prod.fst) (g := Prod.fst) h2 fun _ _ _ _ _ q => q.1).mono fun l H2 h3 => ?_
  have h4 := tH.bind (Rα := rE) (f := fun p : (Env × W) × Option Int => gh p.1.1) (g := fun p u => fo p.1.2 p.2 u) h3 ((Stb.env.p Stb.w).p Stb.e)
  refine (tH.map (RA' := REnv X.K) (m := gh) (f := fun p : (Env × W) × Option Int => p.1.1) (g := fun p : (L2.St × V) × Option Int => p.1.1) h4 fun _ _ _ _ _ q => q.1.1).mono fun u H3 h5 => ?_
  obtain ⟨⟨⟨⟨δ, w⟩, l'⟩, u'⟩, S, ρ, r, ⟨⟨⟨r0, r1⟩, r2⟩, r3⟩, g⟩ := h5
  cases r2
  cases r3
  exact ⟨w, S, ρ, r, r1, g⟩
/-- a method of a built-in type by values, its receiver first -/
def rmM (K : PySem.W.Frag) (Z : XZ) (fo : W → List W → M W) : V → List V → Hp → VK → Prop := fun x xs H Q => tH K Z (rP (RW K) (RWs K)) (RW K) (fun p => fo p.1 p.2) (x, xs) H Q
abbrev metM (fa : Env → M W) (fr : Env → M (List W)) (chk : W → M Unit) (fo : W → List W → M W) : Env → M W := fun δ => bd (fa δ) fun x => bd (chk x) fun _ => bd (fr δ) fun xs => fo x xs
/-- the receiver is of the type, at its place -/
def ChkOk (K : PySem.W.Frag) (T : String) (chk : W → M Unit) : Prop := ∀ (w : W) (S : Sto) (ρ : Pl) (H : Hp) (v : V) (P : Unit → Sto → Prop) (E : Ex → Sto → Prop), Rel K S ρ H → RW K ρ H (Live S ρ) w v → Gives (chk w S) P E → tyV K T v H ∧ P () S
variable {o : Expr} {fo' : Env → M W} {name : Str} {apos cpos : Pos}
theorem dmet {chk : W → M Unit} {fo : W → List W → M W} (pa : PlainAttrs T) (slot : Slot T name id) (hty : typeOf (.builtin id) = pure (.type "method_descriptor")) (hck : ChkOk X.K T chk) (hm : MtR X id (rmM X.K Z fo)) (ho : PE X o (tE X.K Z fa)) (ha : PA X (a :: es) (tA X.K Z fr))
    (hbase : attributeBase o name X.env (eval o X.env) = eval o X.env := by rfl)
    (hfew : ((backTo cpos (starEach (a :: es) X.env)).all (fun x => !x.1) && (backToKw cpos (keywordEach [] X.env)).all (fun x => x.1.isSome)
      && decide ((a :: es).length + ([] : List Keyword).length + (if ([] : List Keyword).isEmpty then 0 else 1) < 30)) = true := by rfl)
    (hline : (apos.endLine == cpos.line) = true := by rfl) (hs : starEach (a :: es) X.env = (false, eval a X.env) :: starEach es X.env := by rfl) (hplain : (backTo cpos (starEach es X.env)).any (·.1) = false := by rfl) :
    PE X (.Call (.Attribute o name apos) (a :: es) [] cpos) (tE X.K Z (metM fa fr chk fo)) := by
  refine (pe_bm pa slot hty hm ho ha hbase hfew hline hs hplain).imp fun σ H Q h => ?_
  refine (tH.bind (Rα := RW X.K) (f := fa) (g := fun δ x => bd (chk x) fun _ => bd (fr δ) fun xs => fo x xs) h Stb.env).mono fun x H1 h1 => ?_
  obtain ⟨⟨δ, w⟩, S, ρ, r, ⟨r0, r1⟩, g⟩ := h1
  obtain ⟨hy, g⟩ := hck w S ρ H1 x _ _ r r1 (gives_bd g)
  refine ⟨hy, ?_⟩
  have h2 : tH X.K Z (rP (REnv X.K) (RW X.K)) (RW X.K) (fun p : Env × W => bd (fr p.1) fun xs => fo p.2 xs) (σ, x) H1 Q := ⟨(δ, w), S, ρ, r, ⟨r0, r1⟩, g⟩
  have h3 := tH.bind (Rα := RWs X.K) (f := fun p : Env × W => fr p.1) (g := fun p xs => fo p.2 xs) h2 (Stb.env.p Stb.w)
  refine (tH.map (RA' := REnv X.K) (m := fr) (f := Prod.fst) (g := Prod.fst) h3 fun _ _ _ _ _ q => q.1).mono fun xs H2 h4 => ?_
  exact tH.map (RA' := rP (RW X.K) (RWs X.K)) (m := fun p : W × List W => fo p.1 p.2) (f := fun q : (Env × W) × List W => (q.1.2, q.2)) (g := fun q : (L2.St × V) × List V => (q.1.2, q.2)) h4 fun _ _ _ _ _ q => ⟨q.1.2, q.2⟩
theorem dmet0 {chk : W → M Unit} {fo : W → List W → M W} (pa : PlainAttrs T) (slot : Slot T name id) (hty : typeOf (.builtin id) = pure (.type "method_descriptor")) (hck : ChkOk X.K T chk) (hm : MtR X id (rmM X.K Z fo)) (ho : PE X o (tE X.K Z fa))
    (hbase : attributeBase o name X.env (eval o X.env) = eval o X.env := by rfl) (hline : (apos.endLine == cpos.line) = true := by rfl) :
    PE X (.Call (.Attribute o name apos) [] [] cpos) (tE X.K Z (metM fa nilM chk fo)) := by
  refine (pe_bm0 pa slot hty hm ho hbase hline).imp fun σ H Q h => ?_
  refine (tH.bind (Rα := RW X.K) (f := fa) (g := fun δ x => bd (chk x) fun _ => bd (nilM δ) fun xs => fo x xs) h Stb.env).mono fun x H1 h1 => ?_
  obtain ⟨⟨δ, w⟩, S, ρ, r, ⟨r0, r1⟩, g⟩ := h1
  obtain ⟨hy, g⟩ := hck w S ρ H1 x _ _ r r1 (gives_bd g)
  exact ⟨hy, (w, []), S, ρ, r, ⟨r1, .nil⟩, g⟩
end

/-! ### statements -/
inductive Fl where
  | nx (δ : Env)
  | rt (w : W)
  | bk (δ : Env)
  | ct (δ : Env)
def EndsOk (K : PySem.W.Frag) (S : Sto) (ρ : Pl) (H : Hp) (D : Ends) : Fl → Prop
  | .nx δ => ∀ σ, REnv K ρ H (Live S ρ) δ σ → D.nx σ H
  | .rt w => ∀ v, RW K ρ H (Live S ρ) w v → D.rt v H
  | .bk δ => ∀ σ, REnv K ρ H (Live S ρ) δ σ → D.bk σ H
  | .ct δ => ∀ σ, REnv K ρ H (Live S ρ) δ σ → D.ct σ H
/-- from a state like δ, S the run of m ends in D -/
def SGives (K : PySem.W.Frag) (Z : XZ) (D : Ends) (S : Sto) (ρ : Pl) (H : Hp) (x : Res Fl) : Prop :=
  Gives x (fun fl S' => ∀ (ρ' : Pl) (H' : Hp), Ext S ρ H S' ρ' H' → Rel K S' ρ' H' → EndsOk K S' ρ' H' D fl) (fun x S' => ∀ (ρ' : Pl) (H' : Hp), Ext S ρ H S' ρ' H' → Rel K S' ρ' H' → Z x S' ρ' H')
def tS (K : PySem.W.Frag) (Z : XZ) (f : Env → M Fl) : TS := fun D σ H => ∃ (δ : Env) (S : Sto) (ρ : Pl), Rel K S ρ H ∧ REnv K ρ H (Live S ρ) δ σ ∧ SGives K Z D S ρ H (f δ S)
/-- an earlier state: what is wanted is wanted from a later one too -/
theorem SGives.ext {K : PySem.W.Frag} {Z : XZ} {D : Ends} {S S1 : Sto} {ρ ρ1 : Pl} {H H1 : Hp} {x : Res Fl} (e : Ext S ρ H S1 ρ1 H1) (h : SGives K Z D S ρ H x) : SGives K Z D S1 ρ1 H1 x :=
  gives_imp h (fun _ _ q ρ' H' e' r => q ρ' H' (e.trans e') r) fun _ _ q ρ' H' e' r => q ρ' H' (e.trans e') r
/-- from the reading of an expression (or a test, ..) to what follows it in a statement -/
theorem tS.bind {K : PySem.W.Frag} {Z : XZ} {α β : Type} {Rα : RR α β} {D : Ends} {σ : L2.St} {H : Hp} {f : Env → M α} {g : Env → α → M Fl} (h : tS K Z (fun δ => bd (f δ) (g δ)) D σ H) :
    tH K Z (REnv K) Rα f σ H fun v H1 => ∃ (δ : Env) (a : α) (S : Sto) (ρ : Pl), Rel K S ρ H1 ∧ REnv K ρ H1 (Live S ρ) δ σ ∧ Rα ρ H1 (Live S ρ) a v ∧ SGives K Z D S ρ H1 (g δ a S) := by
  obtain ⟨δ, S, ρ, r, re, g⟩ := h
  refine ⟨δ, S, ρ, r, re, gives_imp (gives_bd g) (fun a S1 q ρ1 H1 v e1 r1 x1 => ?_) fun _ _ q => q⟩
  exact ⟨δ, a, S1, ρ1, r1, Stb.env _ _ _ _ _ _ _ _ re e1, x1, SGives.ext e1 q⟩
section
variable {X : Cx} {Z : XZ} {pos : Pos} {a b c : Expr} {fa fb fc : Env → M W} {ga gb : Env → M Bool} {s1 s2 : Env → M Fl} {st : Stmt} {rest sa sb : List Stmt}
abbrev seqM (f g : Env → M Fl) : Env → M Fl := fun δ => bd (f δ) fun fl => match fl with
  | .nx δ' => g δ'
  | fl => pr fl
abbrev skipM : Env → M Fl := fun δ => pr (.nx δ)
theorem ds_nil : PSs X [] (tS X.K Z skipM) := pss_nil.imp fun D σ H h => by
  obtain ⟨δ, S, ρ, r, re, g⟩ := h
  exact g ρ H Ext.refl r σ re
theorem ds_cons (h1 : PS X st (tS X.K Z s1)) (h2 : PSs X rest (tS X.K Z s2)) : PSs X (st :: rest) (tS X.K Z (seqM s1 s2)) := by
  refine (pss_cons h1 h2).imp fun D σ H h => ?_
  obtain ⟨δ, S, ρ, r, re, g⟩ := h
  refine ⟨δ, S, ρ, r, re, gives_imp (gives_bd g) (fun fl S1 q ρ1 H1 e1 r1 => ?_) fun _ _ q => q⟩
  cases fl with
  | nx δ1 => exact fun σ1 re1 => ⟨δ1, S1, ρ1, r1, re1, SGives.ext e1 q⟩
  | rt w => exact q ρ1 H1 e1 r1
  | bk δ1 => exact q ρ1 H1 e1 r1
  | ct δ1 => exact q ρ1 H1 e1 r1
theorem ds_one (h1 : PS X st (tS X.K Z s1)) : PSs X [st] (tS X.K Z s1) := pss_one h1
theorem ds_pass : PS X (.Pass pos) (tS X.K Z skipM) := ps_pass.imp fun D σ H h => by
  obtain ⟨δ, S, ρ, r, re, g⟩ := h
  exact g ρ H Ext.refl r σ re
theorem ds_break : PS X (.Break pos) (tS X.K Z fun δ => pr (.bk δ)) := ps_break.imp fun D σ H h => by
  obtain ⟨δ, S, ρ, r, re, g⟩ := h
  exact g ρ H Ext.refl r σ re
theorem ds_continue : PS X (.Continue pos) (tS X.K Z fun δ => pr (.ct δ)) := ps_continue.imp fun D σ H h => by
  obtain ⟨δ, S, ρ, r, re, g⟩ := h
  exact g ρ H Ext.refl r σ re
theorem ds_doc {x j pos'} : PS X (.Expr (.Constant (.str x) j pos) pos') (tS X.K Z skipM) := ps_doc.imp fun D σ H h => by
  obtain ⟨δ, S, ρ, r, re, g⟩ := h
  exact g ρ H Ext.refl r σ re
theorem ds_never {f : Env → M Fl} (hf : ∀ δ S, f δ S = .no) : PS X st (tS X.K Z f) := ps_never.imp fun D σ H h => by
  obtain ⟨δ, S, ρ, r, re, g⟩ := h
  rw [hf] at g
  exact g
abbrev exprM (f : Env → M W) : Env → M Fl := fun δ => bd (f δ) fun _ => pr (.nx δ)
theorem ds_expr (he : PE X a (tE X.K Z fa)) (hs : swapsWith a none pos.line X.env = pure false := by rfl) : PS X (.Expr a pos) (tS X.K Z (exprM fa)) :=
  (ps_expr he hs).imp fun D σ H h => (tS.bind (Rα := RW X.K) (f := fa) (g := fun δ _ => pr (.nx δ)) h).mono fun v H1 ⟨δ, w, S, ρ, r, re, rw, g⟩ => g ρ H1 Ext.refl r σ re
abbrev retM (f : Env → M W) : Env → M Fl := fun δ => bd (f δ) fun w => pr (.rt w)
theorem ds_ret (he : PE X a (tE X.K Z fa)) : PS X (.Return (some a) pos) (tS X.K Z (retM fa)) :=
  (ps_ret he).imp fun D σ H h => (tS.bind (Rα := RW X.K) (f := fa) (g := fun δ w => pr (.rt w)) h).mono fun v H1 ⟨δ, w, S, ρ, r, re, rw, g⟩ => g ρ H1 Ext.refl r v rw
theorem ds_retN : PS X (.Return none pos) (tS X.K Z fun _ => pr (.rt (.d .none))) := ps_retN.imp fun D σ H h => by
  obtain ⟨δ, S, ρ, r, re, g⟩ := h
  exact g ρ H Ext.refl r .non .non
abbrev ifM (t : Env → M Bool) (f g : Env → M Fl) : Env → M Fl := fun δ => bd (t δ) fun k => if k = true then f δ else g δ
theorem ds_if (hc : PT X c (tT X.K Z ga)) (ha : PSs X sa (tS X.K Z s1)) (hb : PSs X sb (tS X.K Z s2)) : PS X (.If c sa sb pos) (tS X.K Z (ifM ga s1 s2)) :=
  (ps_if hc ha hb).imp fun D σ H h => (tS.bind (Rα := rE) (f := ga) (g := fun δ k => if k = true then s1 δ else s2 δ) h).mono fun v H1 ⟨δ, w, S, ρ, r, re, rw, g⟩ => by
    cases rw
    cases v with
    | true => rw [if_pos rfl]; exact ⟨δ, S, ρ, r, re, g⟩
    | false => rw [if_neg Bool.false_ne_true]; exact ⟨δ, S, ρ, r, re, g⟩
/-! ### targets -/
/-- a target by values: what the names become -/
def tG (K : PySem.W.Frag) (Z : XZ) (g : W → Env → M Env) : TG := fun v σ H Q => tH K Z (rP (RW K) (REnv K)) (REnv K) (fun p => g p.1 p.2) (v, σ) H fun σ' H' => Q σ' H'
def tGs (K : PySem.W.Frag) (Z : XZ) (g : List W → Env → M Env) : TGs := fun vs σ H Q => tH K Z (rP (RWs K) (REnv K)) (REnv K) (fun p => g p.1 p.2) (vs, σ) H fun σ' H' => Q σ' H'
theorem _root_.L2.PG.imp {e : Expr} {t t' : TG} (h : PG X e t) (hi : ∀ v σ H Q, t' v σ H Q → t v σ H Q) : PG X e t' := ⟨fun pins s σ H v u Q I r q => h.run pins s σ H v u Q I r (hi _ _ _ _ q)⟩
theorem _root_.L2.PGs.imp {e : List Expr} {t t' : TGs} (h : PGs X e t) (hi : ∀ v σ H Q, t' v σ H Q → t v σ H Q) : PGs X e t' := ⟨fun pins s σ H v u Q I r q => h.run pins s σ H v u Q I r (hi _ _ _ _ q)⟩
abbrev setG (i : Nat) : W → Env → M Env := fun w δ => pr (δ.set i (some w))
theorem REnv.set {K : PySem.W.Frag} {ρ : Pl} {H : Hp} {L : Addr → Prop} {δ : Env} {σ : L2.St} {i : Nat} {w : W} {v : V} (re : REnv K ρ H L δ σ) (rw : RW K ρ H L w v) : REnv K ρ H L (δ.set i (some w)) (σ.set i (some v)) := by
  refine ⟨by simp [re.1], fun j w' h => ?_⟩
  by_cases e : i = j
  · subst e
    by_cases hl : i < δ.length
    · rw [List.getElem?_set_self hl] at h
      cases h
      exact ⟨v, by rw [List.getElem?_set_self (by rw [← re.1]; exact hl)], rw⟩
    · rw [List.getElem?_eq_none (by simpa using hl)] at h; cases h
  · rw [List.getElem?_set_ne e] at h
    obtain ⟨v', h1, h2⟩ := re.2 j w' h
    exact ⟨v', by rw [List.getElem?_set_ne e]; exact h1, h2⟩
theorem dg_name {i : Nat} {x : Str} (hN : X.N.Nodup) (hi : X.N[i]? = some x) (hx : Loc X.env.scope x) (hf : X.fn x = true ∨ X.env.scope.names.lookup x = some .local := by first | exact .inl rfl | exact .inr rfl | assumption) : PG X (.Name x pos) (tG X.K Z (setG i)) :=
  (pg_name hN hi hx hf).imp fun v σ H Q h => tH.pure h fun _ _ _ _ q => REnv.set q.2 q.1
abbrev nilG : List W → Env → M Env := fun ws δ => match ws with
  | [] => pr δ
  | _ => no
abbrev consG (g : W → Env → M Env) (gs : List W → Env → M Env) : List W → Env → M Env := fun ws δ => match ws with
  | w :: r => bd (g w δ) fun δ' => gs r δ'
  | [] => no
theorem dgs_nil : PGs X [] (tGs X.K Z nilG) := pgs_nil.imp fun vs σ H Q h => by
  obtain ⟨⟨ws, δ⟩, S, ρ, r, ⟨rw, re⟩, g⟩ := h
  cases rw with
  | nil => exact ⟨rfl, g ρ H σ Ext.refl r re⟩
  | cons _ _ => exact g.elim
theorem dgs_cons {es : List Expr} {g : W → Env → M Env} {gs : List W → Env → M Env} (h1 : PG X a (tG X.K Z g)) (h2 : PGs X es (tGs X.K Z gs))
    (hs : (assignEach (a :: es) X.env).map (·.2) = assign a X.env :: (assignEach es X.env).map (·.2) := by rfl) : PGs X (a :: es) (tGs X.K Z (consG g gs)) := (pgs_cons h1 h2 hs).imp fun vs σ H Q h => by
  obtain ⟨⟨ws, δ⟩, S, ρ, r, ⟨rw, re⟩, gv⟩ := h
  cases rw with
  | nil => exact gv.elim
  | @cons w v ws vs rw rws =>
    refine ⟨v, vs, rfl, (w, δ), S, ρ, r, ⟨rw, re⟩, gives_imp (gives_bd gv) (fun δ1 S1 q ρ1 H1 σ1 e1 r1 re1 => ?_) fun _ _ q => q⟩
    refine ⟨(ws, δ1), S1, ρ1, r1, ⟨Stb.ws _ _ _ _ _ _ _ _ rws e1, re1⟩, gives_imp q (fun δ2 S2 q2 ρ2 H2 σ2 e2 r2 re2 => ?_) fun x S2 q2 ρ2 H2 e2 r2 => ?_⟩
    · exact q2 ρ2 H2 σ2 (e1.trans e2) r2 re2
    · exact q2 ρ2 H2 (e1.trans e2) r2
abbrev asgM (f : Env → M W) (g : W → Env → M Env) : Env → M Fl := fun δ => bd (f δ) fun w => bd (g w δ) fun δ' => pr (.nx δ')
theorem tS.asg {D : Ends} {σ : L2.St} {H : Hp} {g : W → Env → M Env} (h : tS X.K Z (asgM fa g) D σ H) : tAsg (tE X.K Z fa) (tG X.K Z g) D σ H := by
  refine (tS.bind (Rα := RW X.K) (f := fa) (g := fun δ w => bd (g w δ) fun δ' => pr (.nx δ')) h).mono fun v H1 ⟨δ, w, S, ρ, r, re, rw, gv⟩ => ?_
  exact ⟨(w, δ), S, ρ, r, ⟨rw, re⟩, gives_imp (gives_bd gv) (fun δ1 S1 q ρ1 H1 σ1 e1 r1 re1 => q ρ1 H1 e1 r1 σ1 re1) fun _ _ q => q⟩
theorem ds_asg {tg : Expr} {g : W → Env → M Env} (he : PE X a (tE X.K Z fa)) (hg : PG X tg (tG X.K Z g)) (hs : swapsWithSole [tg] a pos.line X.env = pure false := by rfl) (hw : swappedStores [tg] a X.env = pure none := by rfl)
    (h1 : (assignEach [tg] X.env).map (·.2) = [assign tg X.env] := by rfl) : PS X (.Assign [tg] a pos) (tS X.K Z (asgM fa g)) := (ps_asg he hg hs hw h1).imp fun D σ H h => tS.asg h
theorem ds_set {i : Nat} {x : Str} {pos' : Pos} (hN : X.N.Nodup) (hi : X.N[i]? = some x) (hx : Loc X.env.scope x) (he : PE X a (tE X.K Z fa)) (hs : swapsWith a (some (.Name x pos')) pos.line X.env = pure false := by rfl) (hf : X.fn x = true ∨ X.env.scope.names.lookup x = some .local := by first | exact .inl rfl | exact .inr rfl | assumption) :
    PS X (.Assign [.Name x pos'] a pos) (tS X.K Z (asgM fa (setG i))) := (ps_set hN hi hx he hs hf).imp fun D σ H h =>
  (tS.asg h).mono fun v H1 q => tH.pure q fun _ _ _ _ q => REnv.set q.2 q.1
/-- x op= e -/
abbrev augM (i : Nat) (f : Env → M W) (fo : W → W → M W) : Env → M Fl := fun δ => bd (varM i δ) fun x => bd (f δ) fun y => bd (fo x y) fun z => pr (.nx (δ.set i (some z)))
theorem ds_aug {i : Nat} {x : Str} {op : Operator} {fo : W → W → M W} {pos' : Pos} (hN : X.N.Nodup) (hi : X.N[i]? = some x) (hx : Loc X.env.scope x) (he : PE X a (tE X.K Z fa)) (ho : OpR X (inplaceOp op) (r2M X.K Z fo)) (hf : X.fn x = true ∨ X.env.scope.names.lookup x = some .local := by first | exact .inl rfl | exact .inr rfl | assumption) :
    PS X (.AugAssign (.Name x pos') op a pos) (tS X.K Z (augM i fa fo)) := by
  have hp : PIp X op (r2M X.K Z fo) := fun pins s σ H x y v u Q I rx ry q => ho pins s σ H x y v u Q I rx ry q
  refine (ps_aug hN hi hx he hp hf).imp fun D σ H h => ?_
  obtain ⟨δ, S, ρ, r, re, g⟩ := h
  have g := gives_bd g
  unfold varM at g
  split at g
  · rename_i w e
    obtain ⟨v, h1, h2⟩ := re.2 i w e
    refine ⟨v, h1, δ, S, ρ, r, re, gives_imp (gives_bd g) (fun y S1 q ρ1 H1 vy e1 r1 ry => ?_) fun _ _ q => q⟩
    refine ⟨(w, y), S1, ρ1, r1, ⟨h2.ext e1, ry⟩, gives_imp (gives_bd q) (fun z S2 q2 ρ2 H2 vz e2 r2 rz => ?_) fun _ _ q ρ2 H2 e2 r2 => q ρ2 H2 (e1.trans e2) r2⟩
    exact q2 ρ2 H2 (e1.trans e2) r2 _ (REnv.set (Stb.env _ _ _ _ _ _ _ _ re (e1.trans e2)) rz)
  · exact g.elim
end
end DL
/-! DL4: what is walked; for, while, comprehensions; defs and their calls. -/
namespace DL
open PySem PySem.Spec PyProof.Rows L2

/-- J goes along ws, from the state S ρ H on -/
def Walks (K : PySem.W.Frag) (J : It) (ws : List W) (S : Sto) (ρ : Pl) (H : Hp) : Prop :=
  ∀ (i : Nat) (S' : Sto) (ρ' : Pl) (H' : Hp), Ext0 S ρ H S' ρ' H' → Rel K S' ρ' H' →
    (∀ w, ws[i]? = some w → J.go i H' ∧ ∀ (x : V) (H2 : Hp), J.yld i H' x H2 → Ext S' ρ' H' S' ρ' H2 ∧ Rel K S' ρ' H2 ∧ RW K ρ' H2 (Live S' ρ') w x) ∧ (ws.length ≤ i → J.stop i H')
def tI (K : PySem.W.Frag) (Z : XZ) (f : Env → M (List W)) : TI := fun σ H R => ∃ (δ : Env) (S : Sto) (ρ : Pl), Rel K S ρ H ∧ REnv K ρ H (Live S ρ) δ σ ∧
  Gives (f δ S) (fun ws S' => ∀ (ρ' : Pl) (H' : Hp) (J : It), Ext S ρ H S' ρ' H' → Rel K S' ρ' H' → Walks K J ws S' ρ' H' → R J H') (fun x S' => ∀ (ρ' : Pl) (H' : Hp), Ext S ρ H S' ρ' H' → Rel K S' ρ' H' → Z x S' ρ' H')
theorem _root_.L2.PI.imp {X : Cx} {tg e : Expr} {t t' : TI} (h : PI X tg e t) (hi : ∀ σ H R, t' σ H R → t σ H R) : PI X tg e t' := ⟨fun pins s σ H R I q => h.run pins s σ H R I (hi _ _ _ q)⟩

/-! ### for -/
def forL (g : W → Env → M Env) (b : Env → M Fl) : List W → Env → M Fl
  | [], δ => pr (.nx δ)
  | w :: ws, δ => bd (g w δ) fun δ1 => bd (b δ1) fun fl => match fl with
    | .nx δ2 => forL g b ws δ2
    | .ct δ2 => forL g b ws δ2
    | .bk δ2 => pr (.nx δ2)
    | .rt w => pr (.rt w)
abbrev forM (fi : Env → M (List W)) (g : W → Env → M Env) (b : Env → M Fl) : Env → M Fl := fun δ => bd (fi δ) fun ws => forL g b ws δ
section
variable {X : Cx} {Z : XZ} {pos : Pos}
theorem ds_for {tg iter : Expr} {body : List Stmt} {fi : Env → M (List W)} {g : W → Env → M Env} {b : Env → M Fl} (hp : PassesOwn (model X.prog X.w) X.A X.env X.xe) (hc : X.calm = true) (hi : PI X tg iter (tI X.K Z fi)) (hg : PG X tg (tG X.K Z g)) (hb : PSs X body (tS X.K Z b))
    (hs : ∀ x, foldedSetIterable iter X.env x = pure x := by intro _; rfl) : PS X (.For tg iter body [] pos) (tS X.K Z (forM fi g b)) := by
  refine (ps_for hp hc hi hg hb hs).imp fun D σ H h => ?_
  obtain ⟨δ, S, ρ, r, re, gv⟩ := h
  refine ⟨δ, S, ρ, r, re, gives_imp (gives_bd gv) (fun ws S1 q ρ1 H1 J e1 r1 wk => ?_) fun _ _ q => q⟩
  have q : SGives X.K Z D S1 ρ1 H1 (forL g b ws δ S1) := SGives.ext e1 q
  refine ⟨fun i m σ' H' => ∃ (δ' : Env) (S' : Sto) (ρ' : Pl), Ext S1 ρ1 H1 S' ρ' H' ∧ Rel X.K S' ρ' H' ∧ REnv X.K ρ' H' (Live S' ρ') δ' σ' ∧ SGives X.K Z D S' ρ' H' (forL g b (ws.drop i) δ' S') ∧ m = ws.length - i,
    ⟨_, δ, S1, ρ1, Ext.refl, r1, Stb.env _ _ _ _ _ _ _ _ re e1, q, rfl⟩, ?_⟩
  rintro i m σ' H' ⟨δ', S', ρ', e', r', re', q', rfl⟩
  by_cases hl : i < ws.length
  · right
    have hw : ws[i]? = some ws[i] := List.getElem?_eq_getElem hl
    obtain ⟨hgo, hy⟩ := (wk i S' ρ' H' e'.to0 r').1 _ hw
    refine ⟨hgo, fun σ2 H2 => ∃ m', m' < ws.length - i ∧ ∃ (δ2 : Env) (S2 : Sto) (ρ2 : Pl), Ext S1 ρ1 H1 S2 ρ2 H2 ∧ Rel X.K S2 ρ2 H2 ∧ REnv X.K ρ2 H2 (Live S2 ρ2) δ2 σ2 ∧ SGives X.K Z D S2 ρ2 H2 (forL g b (ws.drop (i + 1)) δ2 S2) ∧ m' = ws.length - (i + 1), fun _ _ z => z, fun x H2 hx => ?_⟩
    obtain ⟨e2, r2, rw2⟩ := hy x H2 hx
    rw [List.drop_eq_getElem_cons hl] at q'
    unfold forL at q'
    refine ⟨(ws[i], δ'), S', ρ', r2, ⟨rw2, Stb.env _ _ _ _ _ _ _ _ re' e2⟩, gives_imp (gives_bd (SGives.ext e2 q')) (fun δ1 S3 q3 ρ3 H3 σ3 e3 r3 re3 => ?_) fun _ _ q => q⟩
    refine ⟨δ1, S3, ρ3, r3, re3, gives_imp (gives_bd q3) (fun fl S4 q4 ρ4 H4 e4 r4 => ?_) fun _ _ q ρ4 H4 e4 r4 => q ρ4 H4 (e3.trans e4) r4⟩
    have E4 := (e'.trans e2).trans (e3.trans e4)
    cases fl with
    | nx δ2 => exact fun σ4 re4 => ⟨_, by omega, δ2, S4, ρ4, E4, r4, re4, SGives.ext (e3.trans e4) q4, rfl⟩
    | ct δ2 => exact fun σ4 re4 => ⟨_, by omega, δ2, S4, ρ4, E4, r4, re4, SGives.ext (e3.trans e4) q4, rfl⟩
    | bk δ2 => exact fun σ4 re4 => q4 ρ4 H4 (e3.trans e4) r4 σ4 re4
    | rt w => exact fun v rv => q4 ρ4 H4 (e3.trans e4) r4 v rv
  · left
    refine ⟨(wk i S' ρ' H' e'.to0 r').2 (by omega), ?_⟩
    rw [List.drop_eq_nil_of_le (by omega)] at q'
    exact q' ρ' H' Ext.refl r' σ' re'
/-! ### while -/
def whL (c : Env → M Bool) (b : Env → M Fl) : Nat → Env → M Fl
  | 0, _ => no
  | n + 1, δ => bd (c δ) fun k => if k = true then bd (b δ) fun fl => match fl with
    | .nx δ2 => whL c b n δ2
    | .ct δ2 => whL c b n δ2
    | .bk δ2 => pr (.nx δ2)
    | .rt w => pr (.rt w)
    else pr (.nx δ)
theorem ds_while {c : Expr} {body : List Stmt} {gc : Env → M Bool} {b : Env → M Fl} (n : Nat) (hp : PassesOwn (model X.prog X.w) X.A X.env X.xe) (hc : PT X c (tT X.K Z gc)) (hb : PSs X body (tS X.K Z b)) : PS X (.While c body [] pos) (tS X.K Z (whL gc b n)) := by
  refine (ps_while hp hc hb).imp fun D σ H h => ?_
  obtain ⟨δ, S, ρ, r, re, gv⟩ := h
  refine ⟨fun m σ' H' => ∃ (δ' : Env) (S' : Sto) (ρ' : Pl), Rel X.K S' ρ' H' ∧ REnv X.K ρ' H' (Live S' ρ') δ' σ' ∧ SGives X.K Z D S' ρ' H' (whL gc b m δ' S'), ⟨n, δ, S, ρ, r, re, gv⟩, ?_⟩
  rintro m σ' H' ⟨δ', S', ρ', r', re', q'⟩
  cases m with
  | zero => exact q'.elim
  | succ m =>
    unfold whL at q'
    refine ⟨δ', S', ρ', r', re', gives_imp (gives_bd q') (fun k S1 q ρ1 H1 v e1 r1 ev => ?_) fun _ _ q => q⟩
    cases ev
    have re1 := Stb.env _ _ _ _ _ _ _ _ re' e1
    cases k with
    | true =>
      rw [if_pos rfl] at q ⊢
      refine ⟨fun σ2 H2 => ∃ m', m' < m + 1 ∧ ∃ (δ2 : Env) (S2 : Sto) (ρ2 : Pl), Rel X.K S2 ρ2 H2 ∧ REnv X.K ρ2 H2 (Live S2 ρ2) δ2 σ2 ∧ SGives X.K Z D S2 ρ2 H2 (whL gc b m' δ2 S2), fun _ _ z => z, ?_⟩
      refine ⟨δ', S1, ρ1, r1, re1, gives_imp (gives_bd q) (fun fl S4 q4 ρ4 H4 e4 r4 => ?_) fun _ _ q ρ4 H4 e4 r4 => q ρ4 H4 (e1.trans e4) r4⟩
      cases fl with
      | nx δ2 => exact fun σ4 re4 => ⟨m, by omega, δ2, S4, ρ4, r4, re4, SGives.ext (e1.trans e4) q4⟩
      | ct δ2 => exact fun σ4 re4 => ⟨m, by omega, δ2, S4, ρ4, r4, re4, SGives.ext (e1.trans e4) q4⟩
      | bk δ2 => exact fun σ4 re4 => q4 ρ4 H4 (e1.trans e4) r4 σ4 re4
      | rt w => exact fun v rv => q4 ρ4 H4 (e1.trans e4) r4 v rv
    | false =>
      rw [if_neg Bool.false_ne_true] at q ⊢
      exact q ρ1 H1 e1 r1 σ' re1

/-! ### comprehensions -/
def noEx {α : Type} (m : M α) : M α := fun S => match m S with
  | .ok a S' => .ok a S'
  | _ => .no
theorem noEx_gives {α : Type} {m : M α} {S : Sto} {P : α → Sto → Prop} {E E' : Ex → Sto → Prop} (h : Gives (noEx m S) P E) : Gives (m S) P E' := by
  unfold noEx at h
  cases e : m S with
  | ok a S' => rw [e] at h; exact h
  | ex x S' => rw [e] at h; exact h.elim
  | no => rw [e] at h; exact h.elim
def wipeE (δ : Env) : List Nat → Env
  | [] => δ
  | v :: vs => (wipeE δ vs).set v none
theorem REnv.wipe {K : PySem.W.Frag} {ρ : Pl} {H : Hp} {L : Addr → Prop} {δ : Env} {σ : L2.St} (re : REnv K ρ H L δ σ) : ∀ vs : List Nat, REnv K ρ H L (wipeE δ vs) (wipe σ vs)
  | [] => re
  | v :: vs => by
    have ih := REnv.wipe re vs
    refine ⟨by simp [wipeE, L2.wipe, ih.1], fun i w h => ?_⟩
    unfold wipeE at h
    unfold L2.wipe
    by_cases e : v = i
    · subst e
      by_cases hl : v < (wipeE δ vs).length
      · rw [List.getElem?_set_self hl] at h; cases h
      · rw [List.getElem?_eq_none (by simpa using hl)] at h; cases h
    · rw [List.getElem?_set_ne e] at h ⊢
      exact ih.2 i w h
def compL (own : List Nat) (g : W → Env → M Env) (t : Env → M Bool) (e : Env → M W) : List W → Env → M (List W)
  | [], _ => pr []
  | w :: ws, δ => bd (noEx (g w (wipeE δ own))) fun δ1 => bd (noEx (t δ1)) fun k => if k = true then bd (noEx (e δ1)) fun y => bd (compL own g t e ws δ) fun ys => pr (y :: ys) else compL own g t e ws δ
theorem bd_noEx {α β : Type} {m : M α} {f : α → M β} {S : Sto} (h : ∀ a S', m S = .ok a S' → ∀ x S2, f a S' ≠ .ex x S2) : ∀ x S2, bd (noEx m) f S ≠ .ex x S2 := fun x S2 => by
  unfold bd noEx
  cases e : m S with
  | ok a S' => exact h a S' e x S2
  | ex x' S' => intro z; cases z
  | no => intro z; cases z
theorem compL_noex {own : List Nat} {g : W → Env → M Env} {t : Env → M Bool} {e : Env → M W} : ∀ (ws : List W) (δ : Env) (S : Sto) (x : Ex) (S' : Sto), compL own g t e ws δ S ≠ .ex x S'
  | [], _, _, _, _ => by intro z; cases z
  | w :: ws, δ, S, x, S' => by
    unfold compL
    refine bd_noEx (fun δ1 S1 _ => bd_noEx fun k S2 _ => ?_) x S'
    cases k with
    | true =>
      show ∀ (x : Ex) (S3 : Sto), bd (noEx (e δ1)) (fun y => bd (compL own g t e ws δ) fun ys => pr (y :: ys)) S2 ≠ .ex x S3
      refine bd_noEx fun y S3 _ x S4 => ?_
      unfold bd
      cases q : compL own g t e ws δ S3 with
      | ok ys S5 => intro z; cases z
      | ex x' S5 => exact absurd q (compL_noex ws δ S3 x' S5)
      | no => intro z; cases z
    | false => exact fun x S3 => compL_noex ws δ S2 x S3
abbrev lcM (own : List Nat) (fi : Env → M (List W)) (g : W → Env → M Env) (t : Env → M Bool) (e : Env → M W) : Env → M W := fun δ => bd (fi δ) fun ws => bd (compL own g t e ws δ) lstM
theorem lstM_small {ws : List W} {S : Sto} {P : W → Sto → Prop} {E : Ex → Sto → Prop} (h : Gives (lstM ws S) P E) : ws.length ≤ sizeLine := by
  unfold lstM at h
  split at h
  · assumption
  · exact h.elim
theorem comp_small {own : List Nat} {g : W → Env → M Env} {t : Env → M Bool} {e : Env → M W} {ws : List W} {δ : Env} {S : Sto} {acc : List W} {P : W → Sto → Prop} {E : Ex → Sto → Prop} (h : Gives (bd (compL own g t e ws δ) (fun ys => lstM (acc ++ ys)) S) P E) : acc.length ≤ sizeLine := by
  have h := gives_bd h
  cases q : compL own g t e ws δ S with
  | ok ys S5 =>
    rw [q] at h
    have := lstM_small h
    simp at this
    omega
  | ex x' S5 => exact absurd q (compL_noex ws δ S x' S5)
  | no => rw [q] at h; exact h.elim
abbrev yesT : Env → M Bool := fun _ => pr true
theorem dts_nil : PTs X [] (tT X.K Z yesT) := pts_nil.imp fun σ H Q h => tH.pure h fun _ _ _ _ _ => rfl
theorem dts_one {c : Expr} {f : Env → M Bool} (h : PT X c (tT X.K Z f)) : PTs X [c] (tT X.K Z f) := pts_one h
/-- the target of a comprehension: it stores its own names alone -/
def OwnG (own : List Nat) (g : W → Env → M Env) (gt : TG) : Prop := True
theorem bd_assoc {α β γ : Type} (m : M α) (f : α → M β) (h : β → M γ) (S : Sto) : bd (bd m f) h S = bd m (fun a => bd (f a) h) S := by
  unfold bd
  cases m S <;> rfl
theorem tLc_of {own : List (Str × Nat)} {fi : Env → M (List W)} {g : W → Env → M Env} {t : Env → M Bool} {e : Env → M W} {gc : TG} {σ : L2.St} {H : Hp} {Q : VK}
    (hgc : ∀ (v : V) (σ : L2.St) (H : Hp) (Q : L2.St → Hp → Prop), tG X.K ZF g v (wipe σ (own.map (·.2))) H Q → gc v (wipe σ (own.map (·.2))) H (fun σ2 H2 => wipe σ2 (own.map (·.2)) = wipe σ (own.map (·.2)) ∧ Q σ2 H2))
    (h : tE X.K Z (lcM (own.map (·.2)) fi g t e) σ H Q) : tLc (tI X.K Z fi) gc (tT X.K ZF t) (tE X.K ZF e) (own.map (·.2)) σ H Q := by
  obtain ⟨δ, S, ρ, r, re, gv⟩ := h
  refine ⟨δ, S, ρ, r, re, gives_imp (gives_bd gv) (fun ws S1 q ρ1 H1 J e1 r1 wk => ?_) fun _ _ q => q⟩
  intro D hD
  have re1 := Stb.env _ _ _ _ _ _ _ _ re e1
  refine ⟨fun i m H' => ∃ (S' : Sto) (ρ' : Pl) (acc : List W) (vs : List V), Ext0 S1 ρ1 H1 S' ρ' H' ∧ ρ'.grd = (ρ1.guard D).grd ∧ Rel X.K S' ρ' H' ∧ H' D = some (.lst vs) ∧ RWs X.K ρ' H' (Live S' ρ') acc vs ∧
    Gives (bd (compL (own.map (·.2)) g t e (ws.drop i) δ) (fun ys => lstM (acc ++ ys)) S') (fun w S2 => ∀ (ρ2 : Pl) (H2 : Hp) (v : V), Ext S1 ρ1 H1 S2 ρ2 H2 → Rel X.K S2 ρ2 H2 → RW X.K ρ2 H2 (Live S2 ρ2) w v → Q v H2) (fun _ _ => True) ∧ m = ws.length - i,
    ⟨_, S1, ρ1.guard D, [], [], Ext0.guard hD, rfl, r1.guard hD, upd_same, .nil, ?_, rfl⟩, ?_⟩
  · refine gives_imp (P := fun w S2 => ∀ (ρ2 : Pl) (H2 : Hp) (v : V), Ext S ρ H S2 ρ2 H2 → Rel X.K S2 ρ2 H2 → RW X.K ρ2 H2 (Live S2 ρ2) w v → Q v H2) (E := fun x S' => ∀ (ρ' : Pl) (H' : Hp), Ext S ρ H S' ρ' H' → Rel X.K S' ρ' H' → Z x S' ρ' H') ?_ (fun w S2 q2 ρ2 H2 v e2 r2 rw2 => q2 ρ2 H2 v (e1.trans e2) r2 rw2) fun _ _ _ => trivial
    exact q
  rintro i m H' ⟨S', ρ', acc, vs, e', hg', r', hv', rv', q', rfl⟩
  have hgD : ρ'.grd D := by rw [hg']; exact .inr rfl
  by_cases hl : i < ws.length
  · right
    have hw : ws[i]? = some ws[i] := List.getElem?_eq_getElem hl
    obtain ⟨hgo, hy⟩ := (wk i S' ρ' H' e' r').1 _ hw
    refine ⟨hgo, fun H2 => ∃ m', m' < ws.length - i ∧ ∃ (S2 : Sto) (ρ2 : Pl) (acc : List W) (vs : List V), Ext0 S1 ρ1 H1 S2 ρ2 H2 ∧ ρ2.grd = (ρ1.guard D).grd ∧ Rel X.K S2 ρ2 H2 ∧ H2 D = some (.lst vs) ∧ RWs X.K ρ2 H2 (Live S2 ρ2) acc vs ∧
      Gives (bd (compL (own.map (·.2)) g t e (ws.drop (i + 1)) δ) (fun ys => lstM (acc ++ ys)) S2) (fun w S2 => ∀ (ρ2 : Pl) (H2 : Hp) (v : V), Ext S1 ρ1 H1 S2 ρ2 H2 → Rel X.K S2 ρ2 H2 → RW X.K ρ2 H2 (Live S2 ρ2) w v → Q v H2) (fun _ _ => True) ∧ m' = ws.length - (i + 1), fun _ z => z, fun x H2 hx => ?_⟩
    obtain ⟨e2, r2, rw2⟩ := hy x H2 hx
    have E2 := e'.trans e2
    rw [List.drop_eq_getElem_cons hl] at q'
    unfold compL at q'
    rw [bd_assoc] at q'
    have re2 : REnv X.K ρ' H2 (Live S' ρ') (wipeE δ (own.map (·.2))) (wipe σ (own.map (·.2))) := REnv.wipe ⟨re1.1, fun i w h => let ⟨v, h1, h2⟩ := re1.2 i w h; ⟨v, h1, h2.ext0 E2⟩⟩ _
    refine hgc x σ H2 _ ⟨(ws[i], wipeE δ (own.map (·.2))), S', ρ', r2, ⟨rw2, re2⟩, gives_imp (noEx_gives (E' := fun _ _ => False) (gives_bd q')) (fun δ1 S3 q3 ρ3 H3 σ3 e3 r3 re3 => ?_) fun _ _ q => q.elim⟩
    rw [bd_assoc] at q3
    refine ⟨δ1, S3, ρ3, r3, re3, gives_imp (noEx_gives (E' := fun _ _ => False) (gives_bd q3)) (fun k S4 q4 ρ4 H4 v4 e4 r4 ek => ?_) fun _ _ q => q.elim⟩
    cases ek
    have E4 := E2.trans (e3.trans e4)
    have g4 : ρ4.grd = (ρ1.guard D).grd := ((e3.trans e4).grd).trans hg'
    have nD : ∀ {S ρ H}, Rel X.K S ρ H → ρ.grd D → ¬ Liv S ρ D := fun r g => r.dj D g
    have hv2 : H2 D = some (.lst vs) := e2.stab D _ hv' (nD r' hgD)
    have hv4 : H4 D = some (.lst vs) := (e3.trans e4).stab D _ hv2 (nD r2 hgD)
    have rv4 : RWs X.K ρ4 H4 (Live S4 ρ4) acc vs := (rv'.ext e2).ext (e3.trans e4)
    cases k with
    | true =>
      rw [if_pos rfl] at q4 ⊢
      rw [bd_assoc] at q4
      refine ⟨δ1, S4, ρ4, r4, Stb.env _ _ _ _ _ _ _ _ re3 e4, gives_imp (noEx_gives (E' := fun _ _ => False) (gives_bd q4)) (fun y S5 q5 ρ5 H5 v5 e5 r5 rw5 => ?_) fun _ _ q => q.elim⟩
      have g5 : ρ5.grd = (ρ1.guard D).grd := e5.grd.trans g4
      have hgD5 : ρ5.grd D := by rw [g5]; exact .inr rfl
      have hgD4 : ρ4.grd D := by rw [g4]; exact .inr rfl
      have hv5 : H5 D = some (.lst vs) := e5.stab D _ hv4 (nD r4 hgD4)
      rw [bd_assoc] at q5
      have q6 : Gives (bd (compL (own.map (·.2)) g t e (ws.drop (i + 1)) δ) (fun ys => lstM ((acc ++ [y]) ++ ys)) S5) (fun w S2 => ∀ (ρ2 : Pl) (H2 : Hp) (v : V), Ext S1 ρ1 H1 S2 ρ2 H2 → Rel X.K S2 ρ2 H2 → RW X.K ρ2 H2 (Live S2 ρ2) w v → Q v H2) (fun _ _ => True) := by
        have z : (fun ys => lstM ((acc ++ [y]) ++ ys)) = fun ys => bd (pr (y :: ys)) fun ys => lstM (acc ++ ys) := by
          funext ys S; simp [bd, pr]
        rw [z]
        exact q5
      have hs := comp_small q6
      have hlen := Paired.length rv4
      refine ⟨vs, hv5, by simp at hs; omega, _, by omega, S5, ρ5, acc ++ [y], vs ++ [v5], ?_, g5, r5.gput hgD5, upd_same, ?_, q6, rfl⟩
      · have E5 := E4.trans e5
        exact ⟨E5.pre, fun a o h l => by rw [upd_ne (ne_of_none h hD)]; exact E5.stab a o h l, E5.newl, E5.newg⟩
      · have a1 : RWs X.K ρ5 H5 (Live S5 ρ5) acc vs := rv4.ext e5
        have ap : ∀ {ws ws' : List W} {vs vs' : List V}, RWs X.K ρ5 (upd H5 D (.lst (vs ++ vs'))) (Live S5 ρ5) ws vs → RWs X.K ρ5 (upd H5 D (.lst (vs ++ vs'))) (Live S5 ρ5) ws' vs' → RWs X.K ρ5 (upd H5 D (.lst (vs ++ vs'))) (Live S5 ρ5) (ws ++ ws') (vs ++ vs') := fun {ws ws' vs vs'} p q => by
          have gen : ∀ (o : HO) {ws : List W} {vs : List V}, RWs X.K ρ5 (upd H5 D o) (Live S5 ρ5) ws vs → RWs X.K ρ5 (upd H5 D o) (Live S5 ρ5) ws' vs' → RWs X.K ρ5 (upd H5 D o) (Live S5 ρ5) (ws ++ ws') (vs ++ vs') := fun o ws vs p q => by
            induction p with
            | nil => exact q
            | cons a _ ih => exact .cons a ih
          exact gen _ p q
        exact ap (Paired.mapP a1 fun _ _ z => RW.gput r5 hgD5 z) (.cons (RW.gput r5 hgD5 rw5) .nil)
    | false =>
      rw [if_neg Bool.false_ne_true] at q4 ⊢
      exact ⟨_, by omega, S4, ρ4, acc, vs, E4, g4, r4, hv4, rv4, q4, rfl⟩
  · left
    refine ⟨(wk i S' ρ' H' e' r').2 (by omega), ?_⟩
    rw [List.drop_eq_nil_of_le (by omega)] at q'
    have q' : Gives (lstM (acc ++ []) S') _ _ := q'
    rw [List.append_nil] at q'
    unfold lstM at q'
    split at q'
    · split at q'
      · rename_i ds ed
        have hsub : ∀ a, ρ1.grd a → ρ'.grd a := fun a h => by rw [hg']; exact .inl h
        have rr := r'.ung hsub
        refine q' ⟨ρ'.adr, ρ1.grd⟩ H' (.ref D) ⟨e'.pre, e'.stab, e'.newl, rfl⟩ rr ?_
        refine .lst ⟨hv', fun z => ?_⟩ (allD_rep ed (Paired.mapP rv' fun _ _ z => RW.ung hsub z))
        rcases z with z | z
        · exact r'.dj D hgD z
        · obtain ⟨o, ho⟩ := r1.gt D z
          rw [hD] at ho; cases ho
      · exact q'.elim
    · exact q'.elim
end
end DL
/-! DL5: targets of comprehensions, tuples as targets, what is walked by values; calls of own defs. -/
namespace DL
open PySem PySem.Spec PyProof.Rows L2

/-! ### a list or a tuple by what it is -/
/-- (is it a list, its items) -/
def seqOf (w : W) (S : Sto) : Option (Bool × List W) := match w with
  | .d (.list ds) => some (true, ds.map .d)
  | .d (.tuple ds) => some (false, ds.map .d)
  | .r n => match S[n]? with
    | some (.lst ws) => some (true, ws)
    | _ => none
  | _ => none
theorem RpA.paired {K : PySem.W.Frag} {ρ : Pl} {H : Hp} {L : Addr → Prop} : ∀ {ds : List D} {vs : List V}, RpA K H L vs ds → RWs K ρ H L (ds.map .d) vs
  | [], _, h => by cases h; exact .nil
  | d :: ds, _, h => by cases h with | cons a b => exact .cons a (RpA.paired b)
theorem seqOf_rep {K : PySem.W.Frag} {S : Sto} {ρ : Pl} {H : Hp} {w : W} {v : V} {k : Bool} {ws : List W} (h : seqOf w S = some (k, ws)) (R : Rel K S ρ H) (r : RW K ρ H (Live S ρ) w v) :
    ∃ a xs, v = .ref a ∧ RWs K ρ H (Live S ρ) ws xs ∧ (if k = true then H a = some (.lst xs) else SqT K H a xs) := by
  unfold seqOf at h
  split at h
  · rename_i ds
    cases h
    cases r with
    | lst q ra => exact ⟨_, _, rfl, ra.paired, q.1⟩
  · rename_i ds
    cases h
    cases r with
    | tup q ra => exact ⟨_, _, rfl, ra.paired, q.sq⟩
  · rename_i n
    split at h
    · rename_i ws' e
      cases h
      obtain ⟨a, h1, h2⟩ := r
      obtain ⟨a', ho, q1, q2, vs, q3, q4⟩ := R.ob n _ e rfl
      rw [h1] at q1; cases q1
      subst q3
      exact ⟨a, vs, h2, q4, q2⟩
    · cases h
  · cases h

/-! ### targets, with what they leave -/
structure TR (rel : L2.St → L2.St → Prop) : Prop where
  refl : ∀ σ, rel σ σ
  trans : ∀ σ τ υ, rel σ τ → rel τ υ → rel σ υ
abbrev anyR : L2.St → L2.St → Prop := fun _ _ => True
abbrev wipR (vs : List Nat) : L2.St → L2.St → Prop := fun σ τ => wipe τ vs = wipe σ vs
theorem TR.any : TR anyR := ⟨fun _ => trivial, fun _ _ _ _ _ => trivial⟩
theorem TR.wip {vs : List Nat} : TR (wipR vs) := ⟨fun _ => rfl, fun _ _ _ a b => b.trans a⟩
def tR (rel : L2.St → L2.St → Prop) (K : PySem.W.Frag) (Z : XZ) (g : W → Env → M Env) : TG := fun v σ H Q => tG K Z g v σ H fun σ2 H2 => rel σ σ2 → Q σ2 H2
def tRs (rel : L2.St → L2.St → Prop) (K : PySem.W.Frag) (Z : XZ) (g : List W → Env → M Env) : TGs := fun v σ H Q => tGs K Z g v σ H fun σ2 H2 => rel σ σ2 → Q σ2 H2
theorem wipe_set {x : Option V} {i : Nat} : ∀ {vs : List Nat} {σ : L2.St}, i ∈ vs → wipe (σ.set i x) vs = wipe σ vs
  | v :: vs, σ, h => by
    unfold wipe
    by_cases e : i ∈ vs
    · rw [wipe_set e]
    · have : i = v := by
        rcases List.mem_cons.mp h with h | h
        · exact h
        · exact absurd h e
      subst this
      have key : ∀ {vs : List Nat} {σ : L2.St}, i ∉ vs → wipe (σ.set i x) vs = (wipe σ vs).set i x := by
        intro vs
        induction vs with
        | nil => intro σ _; rfl
        | cons u us ih =>
          intro σ hu
          unfold wipe
          rw [ih (fun z => hu (List.mem_cons_of_mem _ z))]
          rw [List.set_comm _ _ (show u ≠ i from fun z => hu (by rw [z]; exact List.mem_cons_self))]
      rw [key e]
      exact List.set_set ..
theorem wipe_twice : ∀ {vs : List Nat} {σ : L2.St}, wipe (wipe σ vs) vs = wipe σ vs
  | [], _ => rfl
  | v :: vs, σ => by
    have h1 : wipe ((wipe σ vs).set v none) (v :: vs) = wipe (wipe σ vs) (v :: vs) := wipe_set List.mem_cons_self
    have h2 : wipe (wipe σ (v :: vs)) (v :: vs) = wipe ((wipe σ vs).set v none) (v :: vs) := rfl
    rw [h2, h1]
    unfold wipe
    rw [wipe_twice]
section
variable {X : Cx} {Z : XZ} {pos : Pos} {a : Expr} {es : List Expr} {rel : L2.St → L2.St → Prop}
theorem dr_name {i : Nat} {x : Str} (hN : X.N.Nodup) (hi : X.N[i]? = some x) (hx : Loc X.env.scope x) (hr : ∀ (σ : L2.St) (v : V), rel σ (σ.set i (some v))) (hf : X.fn x = true ∨ X.env.scope.names.lookup x = some .local := by first | exact .inl rfl | exact .inr rfl | assumption) : PG X (.Name x pos) (tR rel X.K Z (setG i)) :=
  (pg_name hN hi hx hf).imp fun v σ H Q h => tH.pure (v := σ.set i (some v)) h (fun _ _ _ _ q => REnv.set q.2 q.1) (hr _ _)
theorem drs_nil (hr : TR rel) : PGs X [] (tRs rel X.K Z nilG) := pgs_nil.imp fun vs σ H Q h => by
  obtain ⟨⟨ws, δ⟩, S, ρ, r, ⟨rw, re⟩, g⟩ := h
  cases rw with
  | nil => exact ⟨rfl, g ρ H σ Ext.refl r re (hr.refl _)⟩
  | cons _ _ => exact g.elim
theorem drs_cons {g : W → Env → M Env} {gs : List W → Env → M Env} (hr : TR rel) (h1 : PG X a (tR rel X.K Z g)) (h2 : PGs X es (tRs rel X.K Z gs))
    (hs : (assignEach (a :: es) X.env).map (·.2) = assign a X.env :: (assignEach es X.env).map (·.2) := by rfl) : PGs X (a :: es) (tRs rel X.K Z (consG g gs)) := (pgs_cons h1 h2 hs).imp fun vs σ H Q h => by
  obtain ⟨⟨ws, δ⟩, S, ρ, r, ⟨rw, re⟩, gv⟩ := h
  cases rw with
  | nil => exact gv.elim
  | @cons w v ws vs rw rws =>
    refine ⟨v, vs, rfl, (w, δ), S, ρ, r, ⟨rw, re⟩, gives_imp (gives_bd gv) (fun δ1 S1 q ρ1 H1 σ1 e1 r1 re1 s1 => ?_) fun _ _ q => q⟩
    refine ⟨(ws, δ1), S1, ρ1, r1, ⟨Stb.ws _ _ _ _ _ _ _ _ rws e1, re1⟩, gives_imp q (fun δ2 S2 q2 ρ2 H2 σ2 e2 r2 re2 s2 => ?_) fun x S2 q2 ρ2 H2 e2 r2 => ?_⟩
    · exact q2 ρ2 H2 σ2 (e1.trans e2) r2 re2 (hr.trans _ _ _ s1 s2)
    · exact q2 ρ2 H2 (e1.trans e2) r2
/-- a, b, .. = a list or a tuple of that length -/
def tupG (n : Nat) (gs : List W → Env → M Env) : W → Env → M Env := fun w δ S => match seqOf w S with
  | some (_, ws) => if ws.length = n then gs ws δ S else .no
  | none => .no
theorem dr_tup {k n : Nat} {gs : List W → Env → M Env} (hc : X.calm = true) (h : PGs X es (tRs rel X.K Z gs)) (hn : (assignEach es X.env).length = n := by rfl) (hst : (assignEach es X.env).findIdx? (·.1) = none := by rfl) :
    PG X (.Tuple es k pos) (tR rel X.K Z (tupG n gs)) := by
  refine ⟨fun pins s σ H v u Q I r hw => ?_⟩
  obtain ⟨⟨w, δ⟩, S, ρ, R, ⟨rw, re⟩, g⟩ := hw
  have g : Gives (tupG n gs w δ S) _ _ := g
  unfold tupG at g
  split at g
  · rename_i ki ws e
    split at g
    · rename_i hl
      obtain ⟨a, xs, rfl, rws, hq⟩ := seqOf_rep e R rw
      have hz : tRs rel X.K Z gs xs σ H Q := ⟨(ws, δ), S, ρ, R, ⟨rws, re⟩, g⟩
      have hlen := Paired.length rws
      cases ki with
      | true =>
        rw [if_pos rfl] at hq
        exact (pg_lst hc h hn hst).run pins s σ H _ _ Q I r ⟨a, xs, rfl, .of hq, by omega, hz⟩
      | false =>
        rw [if_neg Bool.false_ne_true] at hq
        exact (pg_tup hc h hn hst).run pins s σ H _ _ Q I r ⟨a, xs, rfl, hq, by omega, hz⟩
    · exact g.elim
  · exact g.elim
theorem dr_any {g : W → Env → M Env} (h : PG X a (tR anyR X.K Z g)) : PG X a (tG X.K Z g) := h.imp fun v σ H Q q => tH.mono q fun _ _ z _ => z
/-- [e for target in iter if ..] -/
theorem dlc {elt tg iter : Expr} {ifs : List Expr} {scope : Scope} {own : List (Str × Nat)} {fi : Env → M (List W)} {g : W → Env → M Env} {t : Env → M Bool} {e : Env → M W} (hc : X.calm = true) (hN : X.N.Nodup) (hi : PI X tg iter (tI X.K Z fi)) (ok : BlkOk X.N X.env.scope scope own)
    (hg : ∀ (s : Shared) (H : Hp) (C : Addr) (cl : List (Str × Addr)) (fp : List Addr), PG (X.blk s H scope (compEnvC scope cl C X.env) fp) tg (tR (wipR (own.map (·.2))) X.K ZF g))
    (ht : ∀ (s : Shared) (H : Hp) (C : Addr) (cl : List (Str × Addr)) (fp : List Addr), PTs (X.blk s H scope (compEnvC scope cl C X.env) fp) ifs (tT X.K ZF t))
    (he : ∀ (s : Shared) (H : Hp) (C : Addr) (cl : List (Str × Addr)) (fp : List Addr), PE (X.blk s H scope (compEnvC scope cl C X.env) fp) elt (tE X.K ZF e)) (hs : ∀ x, foldedSetIterable iter X.env x = pure x := by intro _; rfl) :
    PE X (.ListComp elt [⟨tg, iter, ifs, 0⟩] scope pos) (tE X.K Z (lcM (own.map (·.2)) fi g t e)) := by
  refine (pe_lc hc hN hi ok hg ht he hs).imp fun σ H Q h => tLc_of (fun v σ H Q q => ?_) h
  refine tH.mono q fun σ2 H2 z hr => ?_
  have hr : wipe σ2 (own.map (·.2)) = wipe (wipe σ (own.map (·.2))) (own.map (·.2)) := hr
  rw [wipe_twice] at hr
  exact ⟨hr, z⟩
theorem ds_setLc {i : Nat} {y : Str} {py : Pos} {elt tg iter : Expr} {ifs : List Expr} {scope : Scope} {own : List (Str × Nat)} {spos : Pos} {fi : Env → M (List W)} {g : W → Env → M Env} {t : Env → M Bool} {e : Env → M W} (hc : X.calm = true) (hN : X.N.Nodup) (hy : X.N[i]? = some y) (hyl : X.env.scope.names.lookup y = some .local)
    (hsw : swapsWith (.ListComp elt [⟨tg, iter, ifs, 0⟩] scope pos) (some (.Name y py)) spos.line X.env = pure true) (hi : PI X tg iter (tI X.K Z fi)) (ok : BlkOk X.N X.env.scope scope own)
    (hg : ∀ (s : Shared) (H : Hp) (C : Addr) (cl : List (Str × Addr)) (fp : List Addr), PG (X.blk s H scope (compEnvC scope cl C X.env) fp) tg (tR (wipR (own.map (·.2))) X.K ZF g))
    (ht : ∀ (s : Shared) (H : Hp) (C : Addr) (cl : List (Str × Addr)) (fp : List Addr), PTs (X.blk s H scope (compEnvC scope cl C X.env) fp) ifs (tT X.K ZF t))
    (he : ∀ (s : Shared) (H : Hp) (C : Addr) (cl : List (Str × Addr)) (fp : List Addr), PE (X.blk s H scope (compEnvC scope cl C X.env) fp) elt (tE X.K ZF e)) (hs : ∀ x, foldedSetIterable iter X.env x = pure x := by intro _; rfl) :
    PS X (.Assign [.Name y py] (.ListComp elt [⟨tg, iter, ifs, 0⟩] scope pos) spos) (tS X.K Z (asgM (lcM (own.map (·.2)) fi g t e) (setG i))) := by
  refine (ps_setLc hc hN hy hyl hsw hi ok hg ht he hs).imp fun D σ H h => ?_
  unfold tAsg
  refine tLc_of (fun v σ H Q q => ?_) ((tS.asg h).mono fun v H1 q => tH.pure q fun _ _ _ _ q => REnv.set q.2 q.1)
  refine tH.mono q fun σ2 H2 z hr => ?_
  have hr : wipe σ2 (own.map (·.2)) = wipe (wipe σ (own.map (·.2))) (own.map (·.2)) := hr
  rw [wipe_twice] at hr
  exact ⟨hr, z⟩
end

/-! ### what is walked, by values -/
section
variable {X : Cx} {Z : XZ} {pos : Pos} {tg e : Expr} {fa : Env → M W} {pins : List (Addr × Obj)} {σ : L2.St} {H : Hp} {s : Shared} {R : It → Hp → Prop} {E : Value → Shared → Prop}
theorem iter_list {a : Addr} {xs : List V} (I : Inv X pins σ H s) (hq : SqL X.K H a xs) (q : R (Itl X.K a) H) : wpAny (model X.prog X.w) X.A (pyIter (.ref a)) (PIE X pins σ tg R) E s := by
  obtain ⟨its, rv, p, hz⟩ := I.list hq
  refine wpAny_pyIter_list p.isList ?_
  refine ⟨s.heap.objs.size, [s.heap.objs.size], _, _, H, rfl, I.kept (t' := s.toks) fun b o e => Heap.get?_push_of_some _ e, turn_list a _, ⟨_, Heap.get?_push_size _ rfl, rfl, rfl⟩, fun b hb => ?_, q⟩
  have e : b = s.heap.objs.size := by simpa using hb
  subst e
  exact I.fpOk (Nat.le_refl _) (I.hok.fresh (Nat.le_refl _))
theorem iter_str {x : Str} {t : Tok} (I : Inv X pins σ H s) (q : R (Its x) H) : wpAny (model X.prog X.w) X.A (pyIter (.str x t)) (PIE X pins σ tg R) E s := by
  cases ha : x.cps.all (· < 128)
  · exact wpAny_pyIter_wide ha (pi_one (tk := s.toks) I _ (turn_str _ x t "str_iterator" (.inr rfl)) ⟨_, Heap.get?_push_size _ rfl, rfl, rfl⟩ q)
  · exact wpAny_pyIter_ascii ha (pi_one (tk := s.toks) I _ (turn_str _ x t "str_ascii_iterator" (.inl rfl)) ⟨_, Heap.get?_push_size _ rfl, rfl, rfl⟩ q)
theorem iter_tup {a : Addr} {xs : List V} (I : Inv X pins σ H s) (hq : SqT X.K H a xs) (q : R (Itt X.K a) H) : wpAny (model X.prog X.w) X.A (pyIter (.ref a)) (PIE X pins σ tg R) E s := by
  obtain ⟨its, rv, p, hz⟩ := I.tuple hq
  refine wpAny_pyIter_tuple (show s.heap.IsTuple a its.toArray from p) ?_
  refine ⟨s.heap.objs.size, [s.heap.objs.size], _, _, H, rfl, I.kept (t' := s.toks) fun b o e => Heap.get?_push_of_some _ e, turn_tuple a _, ⟨_, Heap.get?_push_size _ rfl, rfl, rfl⟩, fun b hb => ?_, q⟩
  have e : b = s.heap.objs.size := by simpa using hb
  subst e
  exact I.fpOk (Nat.le_refl _) (I.hok.fresh (Nat.le_refl _))
end
theorem Paired.at' {α β : Type} {F : α → β → Prop} : ∀ {xs : List α} {ys : List β} {i : Nat} {x : α}, Paired F xs ys → xs[i]? = some x → ∃ y, ys[i]? = some y ∧ F x y
  | _, _, _, _, .nil, h => by simp at h
  | _, _, 0, _, .cons a _, h => by simp at h; subst h; exact ⟨_, rfl, a⟩
  | _, _, i + 1, _, .cons _ b, h => by
    obtain ⟨y, h1, h2⟩ := Paired.at' b (by simpa using h)
    exact ⟨y, by simpa using h1, h2⟩
section
variable {K : PySem.W.Frag} {S : Sto} {ρ : Pl} {H : Hp}
theorem walks_list {a : Addr} {xs : List V} {ds : List D} (q : QL K H (Live S ρ) a xs) (ra : RpA K H (Live S ρ) xs ds) : Walks K (Itl K a) (ds.map .d) S ρ H := by
  intro i S' ρ' H' e r
  have q' : QL K H' (Live S' ρ') a xs := q.ext e.stabL e.newL
  have ra' : RWs K ρ' H' (Live S' ρ') (ds.map .d) xs := (RpA.ext e.stabL e.newL _ _ ra).paired
  refine ⟨fun w hw => ?_, fun hl => ⟨xs, q'.sq, by rw [← Paired.length ra']; exact hl⟩⟩
  obtain ⟨y, h1, h2⟩ := Paired.at' ra' hw
  refine ⟨⟨xs, y, q'.sq, h1⟩, fun x H2 ⟨hH, hx⟩ => ?_⟩
  subst hH
  have := hx xs q'.sq
  rw [h1] at this
  cases this
  exact ⟨Ext.refl, r, h2⟩
theorem walks_tup {a : Addr} {xs : List V} {ds : List D} (q : QT K H (Live S ρ) a xs) (ra : RpA K H (Live S ρ) xs ds) : Walks K (Itt K a) (ds.map .d) S ρ H := by
  intro i S' ρ' H' e r
  have q' : QT K H' (Live S' ρ') a xs := q.ext e.stabL e.newL
  have ra' : RWs K ρ' H' (Live S' ρ') (ds.map .d) xs := (RpA.ext e.stabL e.newL _ _ ra).paired
  refine ⟨fun w hw => ?_, fun hl => ⟨xs, q'.sq, by rw [← Paired.length ra']; exact hl⟩⟩
  obtain ⟨y, h1, h2⟩ := Paired.at' ra' hw
  refine ⟨⟨xs, y, q'.sq, h1⟩, fun x H2 ⟨hH, hx⟩ => ?_⟩
  subst hH
  have := hx xs q'.sq
  rw [h1] at this
  cases this
  exact ⟨Ext.refl, r, h2⟩
def signs (x : Str) : List W := x.cps.toList.map fun c => .d (.str ⟨#[c]⟩)
theorem okS_sign {x : Str} (h : okS x = true) {i c : Nat} (hc : x.cps[i]? = some c) : okS ⟨#[c]⟩ = true := by
  unfold okS PyData.strOk at h ⊢
  rw [Array.all_eq_true] at h
  obtain ⟨hi, e⟩ := Array.getElem?_eq_some_iff.mp hc
  have := h i hi
  rw [e] at this
  simpa using this
theorem walks_str {x : Str} (h : okS x = true) : Walks K (Its x) (signs x) S ρ H := by
  intro i S' ρ' H' e r
  refine ⟨fun w hw => ?_, fun hl => (show x.cps.size ≤ i by simpa [signs] using hl)⟩
  unfold signs at hw
  rw [List.getElem?_map] at hw
  cases hc : x.cps.toList[i]? with
  | none => rw [hc] at hw; cases hw
  | some c =>
    rw [hc] at hw
    cases hw
    have hc' : x.cps[i]? = some c := by simpa using hc
    refine ⟨(Array.getElem?_eq_some_iff.mp hc').1, fun y H2 ⟨hH, c', h1, h2⟩ => ?_⟩
    subst hH
    rw [hc'] at h1
    cases h1
    subst h2
    exact ⟨Ext.refl, r, .str _ (okS_sign h hc')⟩
theorem walks_rng {lo : Int} {n : Nat} : Walks K (Itr lo n) ((List.range n).map fun i => .d (.int (lo + (i : Nat)))) S ρ H := by
  intro i S' ρ' H' e r
  refine ⟨fun w hw => ?_, fun hl => (show n ≤ i by simpa using hl)⟩
  have hi : i < n := by
    have := (List.getElem?_eq_some_iff.mp hw).1
    simpa using this
  refine ⟨hi, fun y H2 ⟨hH, h2⟩ => ?_⟩
  subst hH
  subst h2
  simp [hi] at hw
  subst hw
  exact ⟨Ext.refl, r, .int _⟩
end
/-- the items of a list, a tuple, the signs of a text; a list of the store is given up -/
def iterM (w : W) : M (List W) := fun S => match w with
  | .d (.list ds) => .ok (ds.map .d) S
  | .d (.tuple ds) => .ok (ds.map .d) S
  | .d (.str x) => .ok (signs x) S
  | .r n => match S[n]? with
    | some (.lst ws) => match allD ws with
      | some ds => .ok (ds.map .d) (S.set n .dead)
      | none => .no
    | _ => .no
  | _ => .no
section
variable {X : Cx} {Z : XZ} {pos : Pos} {tg e : Expr} {fa : Env → M W}
theorem di_val (h : PE X e (tE X.K Z fa)) : PI X tg e (tI X.K Z fun δ => bd (fa δ) iterM) := by
  refine ⟨fun pins s σ H R I hw => ?_⟩
  have hw' : tE X.K Z fa σ H (fun v H1 => ∃ (w : W) (S : Sto) (ρ : Pl), Rel X.K S ρ H1 ∧ RW X.K ρ H1 (Live S ρ) w v ∧
      Gives (iterM w S) (fun ws S' => ∀ (ρ' : Pl) (H' : Hp) (J : It), Ext S ρ H1 S' ρ' H' → Rel X.K S' ρ' H' → Walks X.K J ws S' ρ' H' → R J H') (fun _ _ => True)) := by
    obtain ⟨δ, S, ρ, r, re, gv⟩ := hw
    refine ⟨δ, S, ρ, r, re, gives_imp (gives_bd gv) (fun w S1 q ρ1 H1 v e1 r1 rw1 => ?_) fun _ _ q => q⟩
    exact ⟨w, S1, ρ1, r1, rw1, gives_imp q (fun ws S2 q2 ρ2 H2 J e2 r2 wk => q2 ρ2 H2 J (e1.trans e2) r2 wk) fun _ _ _ => trivial⟩
  refine thn (h.run pins s σ H _ I hw') fun v s1 ⟨x, H1, I1, r1, w, S, ρ, rel, rw, g⟩ => ?_
  unfold iterM at g
  split at g
  · cases rw with
    | lst q ra =>
      cases r1
      exact iter_list I1 q.sq (g ρ H1 _ Ext.refl rel (walks_list q ra))
  · cases rw with
    | tup q ra =>
      cases r1
      exact iter_tup I1 q.sq (g ρ H1 _ Ext.refl rel (walks_tup q ra))
  · cases rw with
    | str x ho =>
      obtain ⟨t, rfl⟩ := r1
      have q := g ρ H1 _ Ext.refl rel (walks_str ho)
      exact iter_str I1 q
  · rename_i n
    split at g
    · rename_i ws en
      split at g
      · rename_i ds ed
        obtain ⟨a, h1, h2⟩ := rw
        subst h2
        cases r1
        obtain ⟨a', ho, q1, q2, vs, q3, q4⟩ := rel.ob n _ en rfl
        rw [h1] at q1; cases q1
        subst q3
        have ek : Ext S ρ H1 (S.set n .dead) ρ H1 := Ext.kill en rfl
        have ra : RpA X.K H1 (Live (S.set n .dead) ρ) vs ds := RpA.ext ek.stabL ek.newL _ _ (allD_rep ed q4)
        have q : QL X.K H1 (Live (S.set n .dead) ρ) a vs := ⟨q2, rel.dead_notL en rfl h1⟩
        exact iter_list I1 q.sq (g ρ H1 _ ek (rel.kill en rfl) (walks_list q ra))
      · exact g.elim
    · exact g.elim
  · exact g.elim
end
end DL
/-! DL6: operators, comparisons, built-ins by values. -/
namespace DL
open PySem PySem.Spec PyProof.Rows L2

/-- plain data of a value as it stands -/
def toD (w : W) (S : Sto) : Option D := match w with
  | .d x => some x
  | .r n => match S[n]? with
    | some (.lst ws) => (allD ws).map .list
    | _ => none
  | .s _ => none
  | .e _ => none
theorem toD_rep {K : PySem.W.Frag} {S : Sto} {ρ : Pl} {H : Hp} {w : W} {v : V} {d : D} (h : toD w S = some d) (R : Rel K S ρ H) (r : RW K ρ H (Live S ρ) w v) (n : nd d = true) : Dp K H v d ∧ d.canLay0 = true := by
  unfold toD at h
  split at h
  · cases h
    exact ⟨Rp.dp _ _ n r, Rp.lay _ _ n r⟩
  · rename_i m
    split at h
    · rename_i ws e
      simp only [Option.map_eq_some_iff] at h
      obtain ⟨ds, h1, h2⟩ := h
      subst h2
      obtain ⟨a, q1, q2⟩ := r
      obtain ⟨a', ho, z1, z2, vs, z3, z4⟩ := R.ob m _ e rfl
      rw [q1] at z1; cases z1
      subst z3 q2
      have ra := allD_rep h1 z4
      have n' : ndA ds = true := by simpa only [nd] using n
      exact ⟨.lst (.inl (.inl z2)) (RpA.dp _ _ n' ra), by simpa only [PyData.canLay0] using RpA.lay _ _ n' ra⟩
    · cases h
  · cases h
  · cases h
def okb (b : Bool) : W := .d (.bool b)
def eqD (x y : W) : M W := fun S => match toD x S, toD y S with
  | some a, some b => if min a.depth b.depth ≤ 64 ∧ nd a = true ∧ nd b = true then .ok (okb (PyData.eqv a b)) S else .no
  | _, _ => .no
def neD (x y : W) : M W := fun S => match toD x S, toD y S with
  | some a, some b => if min a.depth b.depth ≤ 64 ∧ nd a = true ∧ nd b = true then .ok (okb (!PyData.eqv a b)) S else .no
  | _, _ => .no
def isNil : W → Bool
  | .d (.list []) => true
  | _ => false
def eqM (x y : W) : M W := fun S => if isNil y = true then (match seqOf x S with
  | some (true, ws) => .ok (okb ws.isEmpty) S
  | _ => eqD x y S) else eqD x y S
def neM (x y : W) : M W := fun S => if isNil y = true then (match seqOf x S with
  | some (true, ws) => .ok (okb !ws.isEmpty) S
  | _ => neD x y S) else neD x y S
theorem isNil_of {y : W} (h : isNil y = true) : y = .d (.list []) := by
  unfold isNil at h
  split at h
  · rfl
  · cases h
def inM (x y : W) : M W := fun S => match toD x S, toD y S with
  | some (.str a), some (.str b) => .ok (okb (!(Builtin.Str.occurrences b a 0 b.length 1).isEmpty)) S
  | some a, some (.list ds) => if a.depth ≤ 64 ∧ nd a = true ∧ ndA ds = true then .ok (okb (ds.any fun y => PyData.eqv y a)) S else .no
  | some a, some (.tuple ds) => if a.depth ≤ 64 ∧ nd a = true ∧ ndA ds = true then .ok (okb (ds.any fun y => PyData.eqv y a)) S else .no
  | _, _ => .no
def notInM (x y : W) : M W := fun S => match toD x S, toD y S with
  | some (.str a), some (.str b) => .ok (okb (!(!(Builtin.Str.occurrences b a 0 b.length 1).isEmpty))) S
  | some a, some (.list ds) => if a.depth ≤ 64 ∧ nd a = true ∧ ndA ds = true then .ok (okb (!ds.any fun y => PyData.eqv y a)) S else .no
  | some a, some (.tuple ds) => if a.depth ≤ 64 ∧ nd a = true ∧ ndA ds = true then .ok (okb (!ds.any fun y => PyData.eqv y a)) S else .no
  | _, _ => .no
section
variable {X : Cx} {Z : XZ}
theorem o_eqD (hu : X.A.units + 65 < cLine) : OpR X (compareOp .Eq) (r2M X.K Z eqD) := by
  rintro pins s σ H x y v u Q I rx ry ⟨⟨w1, w2⟩, S, ρ, R, ⟨r1, r2⟩, g⟩
  have g : Gives (eqD w1 w2 S) _ _ := g
  unfold eqD at g
  split at g
  · rename_i a b e1 e2
    split at g
    · rename_i hd
      obtain ⟨d1, l1⟩ := toD_rep e1 R r1 hd.2.1
      obtain ⟨d2, l2⟩ := toD_rep e2 R r2 hd.2.2
      obtain ⟨as, q1⟩ := Dp.reads I a x v d1 rx
      obtain ⟨bs, q2⟩ := Dp.reads I b y u d2 ry
      exact SeqAt.compareEq_reads q1 q2 l1 l2 (by have := hd.1; omega) ⟨.bl _, H, I, rfl, g ρ H (.bl _) Ext.refl R (.bl _)⟩
    · exact g.elim
  · exact g.elim
theorem o_neD (hu : X.A.units + 65 < cLine) : OpR X (compareOp .NotEq) (r2M X.K Z neD) := by
  rintro pins s σ H x y v u Q I rx ry ⟨⟨w1, w2⟩, S, ρ, R, ⟨r1, r2⟩, g⟩
  have g : Gives (neD w1 w2 S) _ _ := g
  unfold neD at g
  split at g
  · rename_i a b e1 e2
    split at g
    · rename_i hd
      obtain ⟨d1, l1⟩ := toD_rep e1 R r1 hd.2.1
      obtain ⟨d2, l2⟩ := toD_rep e2 R r2 hd.2.2
      obtain ⟨as, q1⟩ := Dp.reads I a x v d1 rx
      obtain ⟨bs, q2⟩ := Dp.reads I b y u d2 ry
      exact SeqAt.compareNe_reads q1 q2 l1 l2 (by have := hd.1; omega) ⟨.bl _, H, I, rfl, g ρ H (.bl _) Ext.refl R (.bl _)⟩
    · exact g.elim
  · exact g.elim
theorem o_eq (hu : X.A.units + 65 < cLine) : OpR X (compareOp .Eq) (r2M X.K Z eqM) := by
  rintro pins s σ H x y v u Q I rx ry ⟨⟨w1, w2⟩, S, ρ, R, ⟨r1, r2⟩, g⟩
  have g : Gives (eqM w1 w2 S) _ _ := g
  unfold eqM at g
  split at g
  · rename_i hn
    have hn := isNil_of hn
    subst hn
    split at g
    · rename_i ws e
      obtain ⟨a, xs, rfl, rws, hq⟩ := seqOf_rep e R r1
      rw [if_pos rfl] at hq
      have r2 : Rp X.K H (Live S ρ) y (.list []) := r2
      cases r2 with
      | @lst b ys ds q2 ra2 =>
        cases ra2
        cases rx; cases ry
        obtain ⟨its, rv, p, _⟩ := I.list (show SqL X.K H a xs from .inl (.inl hq))
        obtain ⟨its2, rv2, p2, _⟩ := I.list q2.sq
        cases rv2
        have fin : EP X pins σ Q (.bool ws.isEmpty) s := ⟨.bl _, H, I, rfl, g ρ H (.bl _) Ext.refl R (.bl _)⟩
        have l1 := Paired.length rws
        have l2 := rv.length
        cases ws with
        | nil =>
          have e0 : its = [] := List.length_eq_zero_iff.mp (by simp at l1; omega)
          subst e0
          refine SeqAt.eq_listAt (e := fun _ => true) p.isList p2.isList rfl (by omega) (fun j h1 => by simp at h1) ?_
          simpa using fin
        | cons z zs => exact SeqAt.eq_list_lengthsAt p.isList p2.isList (by
          have : its.length ≠ 0 := by simp only [List.length_cons] at l1; omega
          simpa using this) (by omega) fin
    · exact o_eqD hu pins s σ H x y v u Q I rx ry ⟨⟨w1, _⟩, S, ρ, R, ⟨r1, r2⟩, g⟩
  · exact o_eqD hu pins s σ H x y v u Q I rx ry ⟨⟨w1, w2⟩, S, ρ, R, ⟨r1, r2⟩, g⟩
theorem o_ne (hu : X.A.units + 65 < cLine) : OpR X (compareOp .NotEq) (r2M X.K Z neM) := by
  rintro pins s σ H x y v u Q I rx ry ⟨⟨w1, w2⟩, S, ρ, R, ⟨r1, r2⟩, g⟩
  have g : Gives (neM w1 w2 S) _ _ := g
  unfold neM at g
  split at g
  · rename_i hn
    have hn := isNil_of hn
    subst hn
    split at g
    · rename_i ws e
      obtain ⟨a, xs, rfl, rws, hq⟩ := seqOf_rep e R r1
      rw [if_pos rfl] at hq
      have r2 : Rp X.K H (Live S ρ) y (.list []) := r2
      cases r2 with
      | @lst b ys ds q2 ra2 =>
        cases ra2
        cases rx; cases ry
        obtain ⟨its, rv, p, _⟩ := I.list (show SqL X.K H a xs from .inl (.inl hq))
        obtain ⟨its2, rv2, p2, _⟩ := I.list q2.sq
        cases rv2
        have fin : EP X pins σ Q (.bool !ws.isEmpty) s := ⟨.bl _, H, I, rfl, g ρ H (.bl _) Ext.refl R (.bl _)⟩
        have l1 := Paired.length rws
        have l2 := rv.length
        cases ws with
        | nil =>
          have e0 : its = [] := List.length_eq_zero_iff.mp (by simp at l1; omega)
          subst e0
          refine SeqAt.RcNeAt.lists (e := fun _ => true) p.isList p2.isList rfl (by omega) (fun j h1 => by simp at h1) X.prog X.w _ _ ?_
          simpa using fin
        | cons z zs => exact SeqAt.RcNeAt.lists_lengths p.isList p2.isList (by
          have : its.length ≠ 0 := by simp only [List.length_cons] at l1; omega
          simpa using this) (by omega) X.prog X.w _ _ fin
    · exact o_neD hu pins s σ H x y v u Q I rx ry ⟨⟨w1, _⟩, S, ρ, R, ⟨r1, r2⟩, g⟩
  · exact o_neD hu pins s σ H x y v u Q I rx ry ⟨⟨w1, w2⟩, S, ρ, R, ⟨r1, r2⟩, g⟩
theorem lay_list {ds : List D} (h : (PyData.list ds).canLay0 = true) : PyData.canLayAll0 ds = true := by simpa only [PyData.canLay0] using h
theorem lay_tup {ds : List D} (h : (PyData.tuple ds).canLay0 = true) : PyData.canLayAll0 ds = true := by simpa only [PyData.canLay0] using h
theorem o_in (hu : X.A.units + 66 < cLine) : OpR X (compareOp .In) (r2M X.K Z inM) := by
  rintro pins s σ H x y v u Q I rx ry ⟨⟨w1, w2⟩, S, ρ, R, ⟨r1, r2⟩, g⟩
  have g : Gives (inM w1 w2 S) _ _ := g
  unfold inM at g
  split at g
  · rename_i a b e1 e2
    obtain ⟨d1, l1⟩ := toD_rep e1 R r1 (by simp only [nd])
    obtain ⟨d2, l2⟩ := toD_rep e2 R r2 (by simp only [nd])
    cases d1; cases d2
    exact op_in_str pins s σ H _ _ v u Q I rx ry ⟨_, _, rfl, rfl, g ρ H (.bl _) Ext.refl R (.bl _)⟩
  · rename_i a ds e1 e2
    split at g
    · rename_i hd
      obtain ⟨d1, l1⟩ := toD_rep e1 R r1 hd.2.1
      obtain ⟨d2, l2⟩ := toD_rep e2 R r2 (by simpa only [nd] using hd.2.2)
      have hd := hd.1
      obtain ⟨as, q1⟩ := Dp.reads I a x v d1 rx
      obtain ⟨bs, q2⟩ := Dp.reads I _ y u d2 ry
      exact SeqAt.in_list_reads q2 q1 (lay_list l2) l1 (by omega) ⟨.bl _, H, I, rfl, g ρ H (.bl _) Ext.refl R (.bl _)⟩
    · exact g.elim
  · rename_i a ds e1 e2
    split at g
    · rename_i hd
      obtain ⟨d1, l1⟩ := toD_rep e1 R r1 hd.2.1
      obtain ⟨d2, l2⟩ := toD_rep e2 R r2 (by simpa only [nd] using hd.2.2)
      have hd := hd.1
      obtain ⟨as, q1⟩ := Dp.reads I a x v d1 rx
      obtain ⟨bs, q2⟩ := Dp.reads I _ y u d2 ry
      exact SeqAt.in_tuple_reads q2 q1 (lay_tup l2) l1 (by omega) ⟨.bl _, H, I, rfl, g ρ H (.bl _) Ext.refl R (.bl _)⟩
    · exact g.elim
  · exact g.elim
theorem o_notIn (hu : X.A.units + 66 < cLine) : OpR X (compareOp .NotIn) (r2M X.K Z notInM) := by
  rintro pins s σ H x y v u Q I rx ry ⟨⟨w1, w2⟩, S, ρ, R, ⟨r1, r2⟩, g⟩
  have g : Gives (notInM w1 w2 S) _ _ := g
  unfold notInM at g
  split at g
  · rename_i a b e1 e2
    obtain ⟨d1, l1⟩ := toD_rep e1 R r1 (by simp only [nd])
    obtain ⟨d2, l2⟩ := toD_rep e2 R r2 (by simp only [nd])
    cases d1; cases d2
    exact op_notin_str pins s σ H _ _ v u Q I rx ry ⟨_, _, rfl, rfl, g ρ H (.bl _) Ext.refl R (.bl _)⟩
  · rename_i a ds e1 e2
    split at g
    · rename_i hd
      obtain ⟨d1, l1⟩ := toD_rep e1 R r1 hd.2.1
      obtain ⟨d2, l2⟩ := toD_rep e2 R r2 (by simpa only [nd] using hd.2.2)
      have hd := hd.1
      obtain ⟨as, q1⟩ := Dp.reads I a x v d1 rx
      obtain ⟨bs, q2⟩ := Dp.reads I _ y u d2 ry
      exact SeqAt.notIn_list_reads q2 q1 (lay_list l2) l1 (by omega) ⟨.bl _, H, I, rfl, g ρ H (.bl _) Ext.refl R (.bl _)⟩
    · exact g.elim
  · rename_i a ds e1 e2
    split at g
    · rename_i hd
      obtain ⟨d1, l1⟩ := toD_rep e1 R r1 hd.2.1
      obtain ⟨d2, l2⟩ := toD_rep e2 R r2 (by simpa only [nd] using hd.2.2)
      have hd := hd.1
      obtain ⟨as, q1⟩ := Dp.reads I a x v d1 rx
      obtain ⟨bs, q2⟩ := Dp.reads I _ y u d2 ry
      exact SeqAt.notIn_tuple_reads q2 q1 (lay_tup l2) l1 (by omega) ⟨.bl _, H, I, rfl, g ρ H (.bl _) Ext.refl R (.bl _)⟩
    · exact g.elim
  · exact g.elim
/-- order of ints and of texts -/
def ltM (x y : W) : M W := match x, y with
  | .d (.int i), .d (.int j) => pr (okb (decide (i < j)))
  | .d (.str a), .d (.str b) => pr (okb (decide (a.cps.toList < b.cps.toList)))
  | _, _ => no
def leM (x y : W) : M W := match x, y with
  | .d (.int i), .d (.int j) => pr (okb (decide (i ≤ j)))
  | _, _ => no
def gtM (x y : W) : M W := match x, y with
  | .d (.int i), .d (.int j) => pr (okb (decide (j < i)))
  | _, _ => no
def geM (x y : W) : M W := match x, y with
  | .d (.int i), .d (.int j) => pr (okb (decide (j ≤ i)))
  | _, _ => no
theorem o_lt : OpR X (compareOp .Lt) (r2M X.K Z ltM) := by
  rintro pins s σ H x y v u Q I rx ry ⟨⟨w1, w2⟩, S, ρ, R, ⟨r1, r2⟩, g⟩
  have g : Gives (ltM w1 w2 S) _ _ := g
  unfold ltM at g
  split at g
  · rename_i i j
    cases r1; cases r2
    exact op_lt pins s σ H _ _ v u Q I rx ry ⟨_, _, rfl, rfl, g ρ H (.bl _) Ext.refl R (.bl _)⟩
  · rename_i i j
    cases r1; cases r2
    exact op_lt_str pins s σ H _ _ v u Q I rx ry ⟨_, _, rfl, rfl, g ρ H (.bl _) Ext.refl R (.bl _)⟩
  · exact g.elim
theorem o_le : OpR X (compareOp .LtE) (r2M X.K Z leM) := by
  rintro pins s σ H x y v u Q I rx ry ⟨⟨w1, w2⟩, S, ρ, R, ⟨r1, r2⟩, g⟩
  have g : Gives (leM w1 w2 S) _ _ := g
  unfold leM at g
  split at g
  · rename_i i j
    cases r1; cases r2
    exact op_le pins s σ H _ _ v u Q I rx ry ⟨_, _, rfl, rfl, g ρ H (.bl _) Ext.refl R (.bl _)⟩
  · exact g.elim
theorem o_gt : OpR X (compareOp .Gt) (r2M X.K Z gtM) := by
  rintro pins s σ H x y v u Q I rx ry ⟨⟨w1, w2⟩, S, ρ, R, ⟨r1, r2⟩, g⟩
  have g : Gives (gtM w1 w2 S) _ _ := g
  unfold gtM at g
  split at g
  · rename_i i j
    cases r1; cases r2
    exact op_gt pins s σ H _ _ v u Q I rx ry ⟨_, _, rfl, rfl, g ρ H (.bl _) Ext.refl R (.bl _)⟩
  · exact g.elim
theorem o_ge : OpR X (compareOp .GtE) (r2M X.K Z geM) := by
  rintro pins s σ H x y v u Q I rx ry ⟨⟨w1, w2⟩, S, ρ, R, ⟨r1, r2⟩, g⟩
  have g : Gives (geM w1 w2 S) _ _ := g
  unfold geM at g
  split at g
  · rename_i i j
    cases r1; cases r2
    exact op_ge pins s σ H _ _ v u Q I rx ry ⟨_, _, rfl, rfl, g ρ H (.bl _) Ext.refl R (.bl _)⟩
  · exact g.elim
/-- is None, is True, is False -/
def isNone : W → Bool
  | .d .none => true
  | _ => false
def isBl (b : Bool) : W → Option Bool
  | .d (.bool a) => some (decide (a = b))
  | _ => none
def isD (x : W) : D → Option Bool
  | .none => some (isNone x)
  | .bool b => isBl b x
  | _ => none
theorem isBl_of {b c : Bool} {w : W} (h : isBl b w = some c) : ∃ a, w = .d (.bool a) ∧ c = decide (a = b) := by
  unfold isBl at h
  split at h
  · cases h; exact ⟨_, rfl, rfl⟩
  · cases h
def isM (x y : W) : M W := match y with
  | .d d => match isD x d with
    | some b => pr (okb b)
    | none => no
  | _ => no
def isNotM (x y : W) : M W := match y with
  | .d d => match isD x d with
    | some b => pr (okb !b)
    | none => no
  | _ => no
theorem isN_rep {K : PySem.W.Frag} {ρ : Pl} {H : Hp} {L : Addr → Prop} {w : W} {v : V} (r : RW K ρ H L w v) : isNone w = decide (v = .non) := by
  cases w with
  | d x =>
    cases x with
    | none => cases r; rfl
    | bool _ => cases r; rfl
    | int _ => cases r; rfl
    | str _ => cases r; rfl
    | list _ => cases r; rfl
    | tuple _ => cases r; rfl
    | dict _ => cases r; rfl
  | r n => obtain ⟨a, _, h⟩ := r; subst h; rfl
  | s ns => obtain ⟨a, h, _⟩ := r; subst h; rfl
  | e x => obtain ⟨a, h, _⟩ := r; subst h; rfl
theorem isD_rep {K : PySem.W.Frag} {ρ : Pl} {H : Hp} {L : Addr → Prop} {w : W} {x y : V} {d : D} {b : Bool} (h : isD w d = some b) (r1 : RW K ρ H L w x) (r2 : RW K ρ H L (.d d) y) :
    (y = .non ∧ b = decide (x = .non)) ∨ (∃ a c, x = .bl a ∧ y = .bl c ∧ b = decide (a = c)) := by
  cases d with
  | none =>
    cases r2
    refine .inl ⟨rfl, ?_⟩
    rw [← isN_rep r1]
    exact (Option.some.inj h).symm
  | bool c =>
    cases r2
    obtain ⟨a, e1, e2⟩ := isBl_of (show isBl c w = some b from h)
    subst e1 e2
    cases r1
    exact .inr ⟨a, c, rfl, rfl, rfl⟩
  | int _ => cases h
  | str _ => cases h
  | list _ => cases h
  | tuple _ => cases h
  | dict _ => cases h
theorem isM_gives {w u : W} {S : Sto} {P : W → Sto → Prop} {E : Ex → Sto → Prop} (g : Gives (isM w u S) P E) : ∃ d b, u = .d d ∧ isD w d = some b ∧ P (okb b) S := by
  cases u with
  | d d =>
    unfold isM at g
    cases e : isD w d with
    | none => simp only [e] at g; exact g.elim
    | some b => simp only [e] at g; exact ⟨d, b, rfl, e, g⟩
  | r n => exact g.elim
  | s n => exact g.elim
  | e x => exact g.elim
theorem isNotM_gives {w u : W} {S : Sto} {P : W → Sto → Prop} {E : Ex → Sto → Prop} (g : Gives (isNotM w u S) P E) : ∃ d b, u = .d d ∧ isD w d = some b ∧ P (okb !b) S := by
  cases u with
  | d d =>
    unfold isNotM at g
    cases e : isD w d with
    | none => simp only [e] at g; exact g.elim
    | some b => simp only [e] at g; exact ⟨d, b, rfl, e, g⟩
  | r n => exact g.elim
  | s n => exact g.elim
  | e x => exact g.elim
theorem o_is : OpR X (compareOp .Is) (r2M X.K Z isM) := by
  rintro pins s σ H x y v u Q I rx ry ⟨⟨w1, w2⟩, S, ρ, R, ⟨r1, r2⟩, g⟩
  obtain ⟨d, b, e1, e2, g⟩ := isM_gives g
  change w2 = _ at e1
  subst e1
  rcases isD_rep e2 r1 r2 with ⟨h1, h2⟩ | ⟨a, c, h1, h2, h3⟩
  · subst h2
    exact op_isN pins s σ H _ _ v u Q I rx ry ⟨h1, g ρ H (.bl _) Ext.refl R (.bl _)⟩
  · subst h3
    exact op_isBl pins s σ H _ _ v u Q I rx ry ⟨_, _, h1, h2, g ρ H (.bl _) Ext.refl R (.bl _)⟩
theorem o_isNot : OpR X (compareOp .IsNot) (r2M X.K Z isNotM) := by
  rintro pins s σ H x y v u Q I rx ry ⟨⟨w1, w2⟩, S, ρ, R, ⟨r1, r2⟩, g⟩
  obtain ⟨d, b, e1, e2, g⟩ := isNotM_gives g
  change w2 = _ at e1
  subst e1
  rcases isD_rep e2 r1 r2 with ⟨h1, h2⟩ | ⟨a, c, h1, h2, h3⟩
  · subst h2
    exact op_notN pins s σ H _ _ v u Q I rx ry ⟨h1, g ρ H (.bl _) Ext.refl R (.bl _)⟩
  · subst h3
    exact op_notBl pins s σ H _ _ v u Q I rx ry ⟨_, _, h1, h2, g ρ H (.bl _) Ext.refl R (.bl _)⟩
/-! ### arithmetic, texts and lists together -/
def addM (x y : W) : M W := fun S => match x, y with
  | .d (.int i), .d (.int j) => .ok (.d (.int (i + j))) S
  | .d (.str a), .d (.str b) => if a.length + b.length ≤ sizeLine then .ok (.d (.str (a ++ b))) S else .no
  | _, _ => match seqOf x S, seqOf y S with
    | some (true, xs), some (true, ys) => lstM (xs ++ ys) S
    | some (false, xs), some (false, ys) => tupM (xs ++ ys) S
    | _, _ => .no
theorem okS_app {a b : Str} (ha : okS a = true) (hb : okS b = true) : okS (a ++ b) = true := by
  unfold okS PyData.strOk at *
  show (a.cps ++ b.cps).all _ = true
  rw [Array.all_append, ha, hb]
  rfl
theorem RWs.app {K : PySem.W.Frag} {ρ : Pl} {H : Hp} {L : Addr → Prop} {ws ws' : List W} {vs vs' : List V} (p : RWs K ρ H L ws vs) (q : RWs K ρ H L ws' vs') : RWs K ρ H L (ws ++ ws') (vs ++ vs') := by
  induction p with
  | nil => exact q
  | cons a _ ih => exact .cons a ih
theorem o_add : OpR X (binaryOp .Add) (r2M X.K Z addM) := by
  rintro pins s σ H x y v u Q I rx ry ⟨⟨w1, w2⟩, S, ρ, R, ⟨r1, r2⟩, g⟩
  have g : Gives (addM w1 w2 S) _ _ := g
  unfold addM at g
  split at g
  · rename_i i j
    cases r1; cases r2
    exact op_add pins s σ H _ _ v u Q I rx ry ⟨_, _, rfl, rfl, g ρ H (.int _) Ext.refl R (.int _)⟩
  · rename_i i j
    split at g
    · rename_i hl
      cases r1 with
      | str _ o1 =>
        cases r2 with
        | str _ o2 => exact op_add_str pins s σ H _ _ v u Q I rx ry ⟨_, _, rfl, rfl, hl, g ρ H (.str _) Ext.refl R (.str _ (okS_app o1 o2))⟩
    · exact g.elim
  · split at g
    · rename_i xs ys e1 e2
      obtain ⟨a, vs, rfl, p1, q1⟩ := seqOf_rep e1 R r1
      obtain ⟨b, us, rfl, p2, q2⟩ := seqOf_rep e2 R r2
      rw [if_pos rfl] at q1 q2
      obtain ⟨ds, hl, g, hn⟩ := lstM_new g R (RWs.app p1 p2)
      exact op_cat pins s σ H _ _ v u Q I rx ry ⟨a, b, vs, us, rfl, rfl, q1, q2, by simpa using hl, fun p hp => g ρ _ _ (Ext.frz hp) (R.frz hp) (hn p hp)⟩
    · rename_i xs ys e1 e2
      have e1' := e1
      have e2' := e2
      obtain ⟨a, vs, rfl, p1, q1⟩ := seqOf_rep e1 R r1
      obtain ⟨b, us, rfl, p2, q2⟩ := seqOf_rep e2 R r2
      rw [if_neg Bool.false_ne_true] at q1 q2
      have hz := g
      unfold tupM at g
      split at g
      · rename_i hs
        split at g
        · rename_i ds ed
          have n1 := Paired.length p1
          have n2 := Paired.length p2
          -- the data of both
          have split2 : ∀ {w : W} {zs : List W}, seqOf w S = some (false, zs) → ∃ es, w = .d (.tuple es) ∧ zs = es.map .d := fun {w zs} h => by
            unfold seqOf at h
            split at h
            · cases h
            · rename_i es; cases h; exact ⟨es, rfl, rfl⟩
            · split at h <;> cases h
            · cases h
          obtain ⟨es1, k1, k2⟩ := split2 e1'
          obtain ⟨es2, k3, k4⟩ := split2 e2'
          subst k1 k2 k3 k4
          rw [← List.map_append, allD_map] at ed
          cases ed
          refine op_catA pins s σ H _ _ v u Q I rx ry ⟨a, b, vs, us, rfl, rfl, q1, q2, by simp at hs n1 n2; omega, fun hx => ?_, fun hx hy => ?_, fun hx hy p hp => ?_⟩
          · subst hx
            have : es1 = [] := by simpa using n1
            subst this
            exact g ρ H _ Ext.refl R r2
          · subst hy
            have : es2 = [] := by simpa using n2
            subst this
            rw [List.append_nil] at g
            exact g ρ H _ Ext.refl R r1
          · obtain ⟨ds, hl, g', hn⟩ := tupM_new hz R (RWs.app p1 p2)
            exact g' ρ _ _ (Ext.frz hp) (R.frz hp) (hn p hp)
        · exact g.elim
      · exact g.elim
    · exact g.elim
def subM (x y : W) : M W := match x, y with
  | .d (.int i), .d (.int j) => pr (.d (.int (i - j)))
  | _, _ => no
theorem o_sub : OpR X (binaryOp .Sub) (r2M X.K Z subM) := by
  rintro pins s σ H x y v u Q I rx ry ⟨⟨w1, w2⟩, S, ρ, R, ⟨r1, r2⟩, g⟩
  have g : Gives (subM w1 w2 S) _ _ := g
  unfold subM at g
  split at g
  · rename_i i j
    cases r1; cases r2
    exact op_sub pins s σ H _ _ v u Q I rx ry ⟨_, _, rfl, rfl, g ρ H (.int _) Ext.refl R (.int _)⟩
  · exact g.elim
/-- ints, one of them not great; a tuple so many times -/
def mulM (x y : W) : M W := fun S => match x, y with
  | .d (.int i), .d (.int j) => if (-(2 ^ 64) < i ∧ i < 2 ^ 64) ∨ (-(2 ^ 64) < j ∧ j < 2 ^ 64) then .ok (.d (.int (i * j))) S else .no
  | .d (.tuple ds), .d (.int k) => if ds ≠ [] ∧ 2 ≤ k ∧ k ≤ 1000 ∧ ds.length ≤ 1000 then .ok (.d (.tuple (List.replicate k.toNat ds).flatten)) S else .no
  | .d (.list ds), .d (.int k) => if 0 ≤ k ∧ k ≤ 1000 ∧ ds.length ≤ 1000 then .ok (.d (.list (List.replicate k.toNat ds).flatten)) S else .no
  | _, _ => .no
theorem RpA.app {K : PySem.W.Frag} {H : Hp} {L : Addr → Prop} : ∀ {ds es : List D} {vs us : List V}, RpA K H L vs ds → RpA K H L us es → RpA K H L (vs ++ us) (ds ++ es)
  | [], _, _, _, a, b => by cases a; exact b
  | d :: ds, _, _, _, a, b => by cases a with | cons x y => exact .cons x (RpA.app y b)
theorem RpA.rep {K : PySem.W.Frag} {H : Hp} {L : Addr → Prop} {ds : List D} {vs : List V} (h : RpA K H L vs ds) : ∀ n : Nat, RpA K H L (List.replicate n vs).flatten (List.replicate n ds).flatten
  | 0 => .nil
  | n + 1 => by
    rw [List.replicate_succ, List.replicate_succ, List.flatten_cons, List.flatten_cons]
    exact h.app (RpA.rep h n)
theorem o_mul : OpR X (binaryOp .Mult) (r2M X.K Z mulM) := by
  rintro pins s σ H x y v u Q I rx ry ⟨⟨w1, w2⟩, S, ρ, R, ⟨r1, r2⟩, g⟩
  have g : Gives (mulM w1 w2 S) _ _ := g
  unfold mulM at g
  split at g
  · rename_i i j
    split at g
    · rename_i hc
      cases r1; cases r2
      exact op_mul pins s σ H _ _ v u Q I rx ry ⟨_, _, rfl, rfl, hc, g ρ H (.int _) Ext.refl R (.int _)⟩
    · exact g.elim
  · rename_i ds k _
    split at g
    · rename_i hc
      obtain ⟨c1, c2, c3, c4⟩ := hc
      cases r1 with
      | @tup a xs _ qt ra =>
        cases r2
        have hl := ra.length
        refine op_repT pins s σ H _ _ v u Q I rx ry ⟨a, k, xs, rfl, rfl, qt.sq, fun z => c1 ?_, c2, c3, by omega, fun p hp => ?_⟩
        · subst z; cases ra; rfl
        · have ex : Ext S ρ H S ρ (upd H p (.tup (List.replicate k.toNat xs).flatten)) := Ext.frz hp
          exact g ρ _ _ ex (R.frz hp) (.tup (.inl ⟨.inl upd_same, R.notLive hp⟩) (RpA.ext ex.stabL ex.newL _ _ (ra.rep _)))
    · exact g.elim
  · rename_i ds k _
    split at g
    · rename_i hc
      obtain ⟨c1, c2, c3⟩ := hc
      cases r1 with
      | @lst a xs _ ql ra =>
        cases r2
        have hl := ra.length
        have hz : xs.length * k.toNat ≤ 1000 * 1000 := Nat.mul_le_mul (by omega) (by omega)
        have hs : (1000 * 1000 : Nat) ≤ sizeLine := by decide
        refine op_rep pins s σ H _ _ v u Q I rx ry ⟨a, k, xs, rfl, rfl, ql.1, by omega, by omega, Nat.le_trans hz hs, fun p hp => ?_⟩
        have ex : Ext S ρ H S ρ (upd H p (.lst (List.replicate k.toNat xs).flatten)) := Ext.frz hp
        exact g ρ _ _ ex (R.frz hp) (.lst ⟨upd_same, R.notLive hp⟩ (RpA.ext ex.stabL ex.newL _ _ (ra.rep _)))
    · exact g.elim
  · exact g.elim
/-- // and % by what is positive (// by what is not great) -/
def fdvM (x y : W) : M W := match x, y with
  | .d (.int i), .d (.int j) => if 0 < j ∧ j < 1073741824 then pr (.d (.int (i / j))) else no
  | _, _ => no
theorem o_fdv : OpR X (binaryOp .FloorDiv) (r2M X.K Z fdvM) := by
  rintro pins s σ H x y v u Q I rx ry ⟨⟨w1, w2⟩, S, ρ, R, ⟨r1, r2⟩, g⟩
  have g : Gives (fdvM w1 w2 S) _ _ := g
  unfold fdvM at g
  split at g
  · rename_i i j
    split at g
    · rename_i hc
      cases r1; cases r2
      exact op_fdiv pins s σ H _ _ v u Q I rx ry ⟨_, _, rfl, rfl, hc, g ρ H (.int _) Ext.refl R (.int _)⟩
    · exact g.elim
  · exact g.elim
def modM (x y : W) : M W := match x, y with
  | .d (.int i), .d (.int j) => if 0 < j then pr (.d (.int (i % j))) else no
  | _, _ => no
theorem o_mod : OpR X (binaryOp .Mod) (r2M X.K Z modM) := by
  rintro pins s σ H x y v u Q I rx ry ⟨⟨w1, w2⟩, S, ρ, R, ⟨r1, r2⟩, g⟩
  have g : Gives (modM w1 w2 S) _ _ := g
  unfold modM at g
  split at g
  · rename_i i j
    split at g
    · rename_i hc
      cases r1; cases r2
      exact op_mod pins s σ H _ _ v u Q I rx ry ⟨_, _, rfl, rfl, hc, g ρ H (.int _) Ext.refl R (.int _)⟩
    · exact g.elim
  · exact g.elim
def powM (x y : W) : M W := match x, y with
  | .d (.int i), .d (.int j) => if 0 ≤ j ∧ j ≤ 1000000 ∧ i.natAbs < 2 ^ 64 then pr (.d (.int (i ^ j.toNat))) else no
  | _, _ => no
theorem o_pow : OpR X (binaryOp .Pow) (r2M X.K Z powM) := by
  rintro pins s σ H x y v u Q I rx ry ⟨⟨w1, w2⟩, S, ρ, R, ⟨r1, r2⟩, g⟩
  have g : Gives (powM w1 w2 S) _ _ := g
  unfold powM at g
  split at g
  · rename_i i j
    split at g
    · rename_i hc
      cases r1; cases r2
      exact op_pow pins s σ H _ _ v u Q I rx ry ⟨_, _, rfl, rfl, hc, g ρ H (.int _) Ext.refl R (.int _)⟩
    · exact g.elim
  · exact g.elim
def negM (x : W) : M W := match x with
  | .d (.int i) => pr (.d (.int (-i)))
  | _ => no
theorem o_neg : UnR X (unaryOp .USub) (r1M X.K Z negM) := by
  rintro pins s σ H x v Q I rx ⟨w1, S, ρ, R, r1, g⟩
  unfold negM at g
  split at g
  · cases r1
    exact un_neg pins s σ H _ v Q I rx ⟨_, rfl, g ρ H (.int _) Ext.refl R (.int _)⟩
  · exact g.elim
end
end DL
/-! DL7: built-ins, subscripts, slices, methods of lists and texts; own defs. -/
namespace DL
open PySem PySem.Spec PyProof.Rows L2

def lenM (ws : List W) : M W := fun S => match ws with
  | [.d (.str x)] => if x.length ≤ sizeLine then .ok (.d (.int x.length)) S else .no
  | [w] => match seqOf w S with
    | some (_, ws) => .ok (.d (.int ws.length)) S
    | none => .no
  | _ => .no
def cutL {α : Type} (xs : List α) (lo hi : Option Int) : List α := (xs.drop (HT.sIx xs.length 0 lo)).take (HT.sIx xs.length xs.length hi - HT.sIx xs.length 0 lo)
def itemM (x y : W) : M W := fun S => match x, y with
  | .d (.str z), .d (.int i) => if z.length ≤ sizeLine then (match atI z.cps.toList i with | some c => .ok (.d (.str ⟨#[c]⟩)) S | none => .no) else .no
  | _, .d (.int i) => match seqOf x S with
    | some (_, ws) => match atI ws i with
      | some w => .ok w S
      | none => .no
    | none => .no
  | _, _ => .no
def sliceM (x : W) (lo hi : Option Int) : M W := fun S => match x with
  | .d (.str z) => if z.length ≤ sizeLine then .ok (.d (.str (cutS z lo hi))) S else .no
  | .d (.list ds) => .ok (.d (.list (cutL ds lo hi))) S
  | .d (.tuple ds) => .ok (.d (.tuple (cutL ds lo hi))) S
  | .s ns => .ok (.d (.list ((cutL ns lo hi).map .int))) S
  | _ => .no
def tupleM (ws : List W) : M W := fun S => match ws with
  | [w] => match toD w S with
    | some (.list ds) => .ok (.d (.tuple ds)) S
    | some (.tuple ds) => .ok (.d (.tuple ds)) S
    | _ => .no
  | _ => .no
def listM (ws : List W) : M W := fun S => match ws with
  | [w] => match toD w S with
    | some (.list ds) => .ok (.d (.list ds)) S
    | some (.tuple ds) => .ok (.d (.list ds)) S
    | _ => .no
  | _ => .no
def bools : List D → Option (List Bool)
  | [] => some []
  | .bool b :: r => (bools r).map (b :: ·)
  | _ => none
def allM (ws : List W) : M W := fun S => match ws with
  | [w] => match toD w S with
    | some (.list ds) => match bools ds with
      | some bs => .ok (okb (bs.all id)) S
      | none => .no
    | _ => .no
  | _ => .no
def anyM (ws : List W) : M W := fun S => match ws with
  | [w] => match toD w S with
    | some (.list ds) => match bools ds with
      | some bs => .ok (okb (bs.any id)) S
      | none => .no
    | _ => .no
  | _ => .no
def intM (ws : List W) : M W := match ws with
  | [.d (.int i)] => pr (.d (.int i))
  | [.d (.bool b)] => pr (.d (.int (if b then 1 else 0)))
  | _ => no
def absM (ws : List W) : M W := match ws with
  | [.d (.int i)] => pr (.d (.int (if i < 0 then -i else i)))
  | _ => no
theorem bools_nd : ∀ {ds : List D} {bs : List Bool}, bools ds = some bs → ndA ds = true
  | [], _, _ => by simp only [ndA]
  | d :: ds, bs, h => by
    cases d with
    | bool b =>
      simp only [bools, Option.map_eq_some_iff] at h
      obtain ⟨cs, h1, h2⟩ := h
      simp only [ndA, nd, Bool.true_and]
      exact bools_nd h1
    | none => simp [bools] at h
    | int _ => simp [bools] at h
    | str _ => simp [bools] at h
    | list _ => simp [bools] at h
    | tuple _ => simp [bools] at h
    | dict _ => simp [bools] at h
theorem bools_rep {K : PySem.W.Frag} {H : Hp} : ∀ {ds : List D} {bs : List Bool} {vs : List V}, bools ds = some bs → DpAll K H vs ds → vs = bs.map V.bl
  | [], _, _, h, r => by cases r; cases h; rfl
  | d :: ds, bs, _, h, r => by
    cases d with
    | bool b =>
      simp only [bools, Option.map_eq_some_iff] at h
      obtain ⟨cs, h1, h2⟩ := h
      subst h2
      cases r with
      | cons a b =>
        cases a
        rw [bools_rep h1 b]
        rfl
    | _ => cases h
theorem atI_map {α β : Type} (f : α → β) {xs : List α} {i : Int} : atI (xs.map f) i = (atI xs i).map f := by
  unfold atI
  rw [List.length_map]
  cases ixN xs.length i with
  | none => rfl
  | some j => simp
theorem Paired.atI {α β : Type} {F : α → β → Prop} {xs : List α} {ys : List β} {i : Int} {x : α} (p : Paired F xs ys) (h : L2.atI xs i = some x) : ∃ y, L2.atI ys i = some y ∧ F x y := by
  unfold L2.atI at *
  rw [← Paired.length p]
  cases e : ixN xs.length i with
  | none => rw [e] at h; cases h
  | some j =>
    rw [e] at h
    exact Paired.at' p h
theorem RpA.take {K : PySem.W.Frag} {H : Hp} {L : Addr → Prop} : ∀ {ds : List D} {vs : List V} (n : Nat), RpA K H L vs ds → RpA K H L (vs.take n) (ds.take n)
  | _, _, 0, _ => by simp; exact .nil
  | [], _, n + 1, h => by cases h; exact .nil
  | d :: ds, _, n + 1, h => by cases h with | cons a b => exact .cons a (RpA.take n b)
theorem RpA.drop {K : PySem.W.Frag} {H : Hp} {L : Addr → Prop} : ∀ {ds : List D} {vs : List V} (n : Nat), RpA K H L vs ds → RpA K H L (vs.drop n) (ds.drop n)
  | _, _, 0, h => h
  | [], _, n + 1, h => by cases h; exact .nil
  | d :: ds, _, n + 1, h => by cases h with | cons a b => exact RpA.drop n b
theorem RpA.cut {K : PySem.W.Frag} {H : Hp} {L : Addr → Prop} {ds : List D} {vs : List V} (lo hi : Option Int) (h : RpA K H L vs ds) : RpA K H L (cutV vs lo hi) (cutL ds lo hi) := by
  unfold cutV cutL
  rw [h.length]
  exact (h.drop _).take _
theorem RpA.ints {K : PySem.W.Frag} {H : Hp} {L : Addr → Prop} : ∀ ns : List Int, RpA K H L (ns.map V.int) (ns.map .int)
  | [] => .nil
  | n :: ns => .cons (.int n) (RpA.ints ns)
theorem cutV_ints (ns : List Int) (lo hi : Option Int) : cutV (ns.map V.int) lo hi = (cutL ns lo hi).map V.int := by
  unfold cutV cutL
  rw [List.length_map, List.map_take, List.map_drop]
theorem okS_cut {z : Str} (h : okS z = true) (lo hi : Option Int) : okS (cutS z lo hi) = true := by
  unfold okS PyData.strOk at *
  unfold cutS
  rw [← Array.all_toList] at *
  rw [List.all_eq_true] at *
  intro c hc
  exact h c (List.mem_of_mem_drop (List.mem_of_mem_take (by simpa using hc)))
section
variable {X : Cx} {Z : XZ}
/-- new data that nobody changes, from items that stand -/
theorem newL_rep {K : PySem.W.Frag} {S : Sto} {ρ : Pl} {H : Hp} {p : Addr} {vs : List V} {ds : List D} (R : Rel K S ρ H) (hp : H p = none) (ra : RpA K H (Live S ρ) vs ds) : RW K ρ (upd H p (.lst vs)) (Live S ρ) (.d (.list ds)) (.ref p) := by
  have ex : Ext S ρ H S ρ (upd H p (.lst vs)) := Ext.frz hp
  exact .lst ⟨upd_same, R.notLive hp⟩ (RpA.ext ex.stabL ex.newL _ _ ra)
theorem newT_rep {K : PySem.W.Frag} {S : Sto} {ρ : Pl} {H : Hp} {p : Addr} {vs : List V} {ds : List D} (R : Rel K S ρ H) (hp : H p = none) (ra : RpA K H (Live S ρ) vs ds) : RW K ρ (upd H p (.tup vs)) (Live S ρ) (.d (.tuple ds)) (.ref p) := by
  have ex : Ext S ρ H S ρ (upd H p (.tup vs)) := Ext.frz hp
  exact .tup (.inl ⟨.inl upd_same, R.notLive hp⟩) (RpA.ext ex.stabL ex.newL _ _ ra)
/-- what stands as a list, with its items (of the store too) -/
theorem toD_items {K : PySem.W.Frag} {S : Sto} {ρ : Pl} {H : Hp} {w : W} {v : V} (R : Rel K S ρ H) (r : RW K ρ H (Live S ρ) w v) :
    (∀ ds, toD w S = some (.list ds) → ∃ a vs, v = .ref a ∧ H a = some (.lst vs) ∧ RpA K H (Live S ρ) vs ds) ∧ (∀ ds, toD w S = some (.tuple ds) → w = .d (.tuple ds) ∧ ∃ a vs, v = .ref a ∧ SqT K H a vs ∧ RpA K H (Live S ρ) vs ds) := by
  cases w with
  | d x =>
    refine ⟨fun ds h => ?_, fun ds h => ?_⟩
    · cases h
      cases r with
      | lst q ra => exact ⟨_, _, rfl, q.1, ra⟩
    · cases h
      refine ⟨rfl, ?_⟩
      cases r with
      | tup q ra => exact ⟨_, _, rfl, q.sq, ra⟩
  | r n =>
    obtain ⟨a, h1, h2⟩ := r
    have key : ∀ d, toD (.r n) S = some d → ∃ ds vs, d = .list ds ∧ H a = some (.lst vs) ∧ RpA K H (Live S ρ) vs ds := fun d h => by
      unfold toD at h
      simp only at h
      split at h
      · rename_i ws e
        simp only [Option.map_eq_some_iff] at h
        obtain ⟨ds, z1, z2⟩ := h
        obtain ⟨a', ho, y1, y2, vs, y3, y4⟩ := R.ob n _ e rfl
        rw [h1] at y1; cases y1
        subst y3
        exact ⟨ds, vs, z2.symm, y2, allD_rep z1 y4⟩
      · cases h
    refine ⟨fun ds h => ?_, fun ds h => ?_⟩
    · obtain ⟨es, vs, z1, z2, z3⟩ := key _ h
      cases z1
      exact ⟨a, vs, h2, z2, z3⟩
    · obtain ⟨es, vs, z1, _⟩ := key _ h
      cases z1
  | s ns => exact ⟨fun _ h => (by cases h), fun _ h => by cases h⟩
  | e x => exact ⟨fun _ h => (by cases h), fun _ h => by cases h⟩
theorem c_len : CallR X (.builtin "len") (rcM X.K Z lenM) := by
  rintro pins s σ H xs us Q I rv ⟨ws, S, ρ, R, rw, g⟩
  unfold lenM at g
  split at g
  · split at g
    · rename_i x hl
      cases rw with
      | cons a b =>
        cases b
        cases a with
        | str _ o => exact call_len pins s σ H _ us Q I rv ⟨_, _, rfl, ⟨hl, rfl⟩, g ρ H (.int _) Ext.refl R (.int _)⟩
    · exact g.elim
  · split at g
    · rename_i w _ k ws' e
      cases rw with
      | cons a b =>
        cases b
        obtain ⟨p, ys, rfl, rws, hq⟩ := seqOf_rep e R a
        have hn := Paired.length rws
        refine call_len_seq pins s σ H _ us Q I rv ⟨p, ys, rfl, ?_, ?_⟩
        · cases k with
          | true => rw [if_pos rfl] at hq; exact .inl (.of hq)
          | false => rw [if_neg Bool.false_ne_true] at hq; exact .inr hq
        · rw [← hn]; exact g ρ H (.int _) Ext.refl R (.int _)
    · exact g.elim
  · exact g.elim
theorem x_item : IxR X (r2M X.K Z itemM) := by
  rintro value slice pins s σ H x y v u Q I rx ry ⟨⟨w1, w2⟩, S, ρ, R, ⟨r1, r2⟩, g⟩ hs
  change Gives (itemM w1 w2 S) _ _ at g
  unfold itemM at g
  split at g
  · rename_i z i
    split at g
    · rename_i hl
      split at g
      · rename_i c e
        cases r2
        cases r1 with
        | str _ o =>
          refine ix_str value slice pins s σ H _ _ v u Q I rx ry ⟨z, i, c, rfl, rfl, hl, e, g ρ H (.str _) Ext.refl R (.str _ ?_)⟩ hs
          unfold L2.atI at e
          cases ej : ixN z.cps.toList.length i with
          | none => rw [ej] at e; cases e
          | some j =>
            rw [ej] at e
            have e : z.cps.toList[j]? = some c := e
            exact okS_sign o (i := j) (by simpa using e)
      · exact g.elim
    · exact g.elim
  · rename_i i _
    split at g
    · rename_i k ws e
      split at g
      · rename_i w ew
        cases r2
        obtain ⟨p, ys, rfl, rws, hq⟩ := seqOf_rep e R r1
        obtain ⟨y, h1, h2⟩ := Paired.atI rws ew
        cases k with
        | true =>
          rw [if_pos rfl] at hq
          exact ix_list value slice pins s σ H _ _ v u Q I rx ry ⟨p, ys, i, y, rfl, rfl, .of hq, h1, g ρ H y Ext.refl R h2⟩ hs
        | false =>
          rw [if_neg Bool.false_ne_true] at hq
          exact ix_tup value slice pins s σ H _ _ v u Q I rx ry ⟨p, ys, i, y, rfl, rfl, hq, h1, g ρ H y Ext.refl R h2⟩ hs
      · exact g.elim
    · exact g.elim
  · exact g.elim
theorem x_slice : SlR X (rsM X.K Z sliceM) := by
  rintro pins s σ H x v vl vu lo hi sl Q I rx hs pl pu ⟨w, S, ρ, R, r, g⟩
  change Gives (sliceM w lo hi S) _ _ at g
  unfold sliceM at g
  split at g
  · rename_i z
    split at g
    · rename_i hl
      cases r with
      | str _ o => exact sl_str pins s σ H _ v vl vu lo hi sl Q I rx hs pl pu ⟨z, rfl, hl, g ρ H (.str _) Ext.refl R (.str _ (okS_cut o _ _))⟩
    · exact g.elim
  · rename_i ds
    cases r with
    | lst q ra =>
      exact sl_list pins s σ H _ v vl vu lo hi sl Q I rx hs pl pu ⟨_, _, rfl, q.sq, fun p hp => g ρ _ _ (Ext.frz hp) (R.frz hp) (newL_rep R hp (ra.cut lo hi))⟩
  · rename_i ds
    cases r with
    | @tup a xs _ q ra =>
      refine sl_tupA pins s σ H _ v vl vu lo hi sl Q I rx hs pl pu ⟨_, _, rfl, q.sq, fun hw => ?_, fun hw p hp => g ρ _ _ (Ext.frz hp) (R.frz hp) (newT_rep R hp (ra.cut lo hi))⟩
      have hc : cutL ds lo hi = ds := by
        unfold cutL
        rw [← ra.length, hw.1, hw.2]
        simp [ra.length]
      rw [hc] at g
      exact g ρ H _ Ext.refl R (.tup q ra)
  · rename_i ns
    obtain ⟨a, rfl, q⟩ := r
    refine sl_list pins s σ H _ v vl vu lo hi sl Q I rx hs pl pu ⟨_, _, rfl, q.sq, fun p hp => g ρ _ _ (Ext.frz hp) (R.frz hp) (newL_rep R hp ?_)⟩
    rw [cutV_ints]
    exact RpA.ints _
  · exact g.elim
theorem c_tuple : CallR X (.type "tuple") (rcM X.K Z tupleM) := by
  rintro pins s σ H xs us Q I rv ⟨ws, S, ρ, R, rw, g⟩
  unfold tupleM at g
  split at g
  · rename_i w
    cases rw with
    | cons a b =>
      cases b
      obtain ⟨t1, t2⟩ := toD_items R a
      split at g
      · rename_i ds e
        obtain ⟨p, vs, rfl, h1, h2⟩ := t1 _ e
        exact call_tuple_of pins s σ H _ us Q I rv ⟨p, vs, rfl, .inl ⟨.of h1, fun l hl => g ρ _ _ (Ext.frz hl) (R.frz hl) (newT_rep R hl h2)⟩⟩
      · rename_i ds e
        obtain ⟨ew, p, vs, rfl, h1, h2⟩ := t2 _ e
        subst ew
        exact call_tuple_of pins s σ H _ us Q I rv ⟨p, vs, rfl, .inr ⟨h1, g ρ H _ Ext.refl R a⟩⟩
      · exact g.elim
  · exact g.elim
theorem c_list : CallR X (.type "list") (rcM X.K Z listM) := by
  rintro pins s σ H xs us Q I rv ⟨ws, S, ρ, R, rw, g⟩
  unfold listM at g
  split at g
  · rename_i w
    cases rw with
    | cons a b =>
      cases b
      obtain ⟨t1, t2⟩ := toD_items R a
      split at g
      · rename_i ds e
        obtain ⟨p, vs, rfl, h1, h2⟩ := t1 _ e
        exact call_list_of pins s σ H _ us Q I rv ⟨p, vs, rfl, .inl (.of h1), fun l hl => g ρ _ _ (Ext.frz hl) (R.frz hl) (newL_rep R hl h2)⟩
      · rename_i ds e
        obtain ⟨ew, p, vs, rfl, h1, h2⟩ := t2 _ e
        exact call_list_of pins s σ H _ us Q I rv ⟨p, vs, rfl, .inr h1, fun l hl => g ρ _ _ (Ext.frz hl) (R.frz hl) (newL_rep R hl h2)⟩
      · exact g.elim
  · exact g.elim
theorem c_all (hc : X.calm = true) : CallR X (.builtin "all") (rcM X.K Z allM) := by
  rintro pins s σ H xs us Q I rv ⟨ws, S, ρ, R, rw, g⟩
  unfold allM at g
  split at g
  · rename_i w
    cases rw with
    | cons a b =>
      cases b
      split at g
      · rename_i ds e
        split at g
        · rename_i bs eb
          obtain ⟨d1, _⟩ := toD_rep e R a (by simpa only [nd] using bools_nd eb)
          cases d1 with
          | lst q ra =>
            have := bools_rep eb ra
            subst this
            exact cr_all hc pins s σ H _ us Q I rv ⟨_, bs, rfl, q, g ρ H (.bl _) Ext.refl R (.bl _)⟩
        · exact g.elim
      · exact g.elim
  · exact g.elim
theorem c_any (hc : X.calm = true) : CallR X (.builtin "any") (rcM X.K Z anyM) := by
  rintro pins s σ H xs us Q I rv ⟨ws, S, ρ, R, rw, g⟩
  unfold anyM at g
  split at g
  · rename_i w
    cases rw with
    | cons a b =>
      cases b
      split at g
      · rename_i ds e
        split at g
        · rename_i bs eb
          obtain ⟨d1, _⟩ := toD_rep e R a (by simpa only [nd] using bools_nd eb)
          cases d1 with
          | lst q ra =>
            have := bools_rep eb ra
            subst this
            exact cr_any hc pins s σ H _ us Q I rv ⟨_, bs, rfl, q, g ρ H (.bl _) Ext.refl R (.bl _)⟩
        · exact g.elim
      · exact g.elim
  · exact g.elim
theorem c_int : CallR X (.type "int") (rcM X.K Z intM) := by
  rintro pins s σ H xs us Q I rv ⟨ws, S, ρ, R, rw, g⟩
  unfold intM at g
  split at g
  · cases rw with
    | cons a b =>
      cases b; cases a
      exact call_int1 pins s σ H _ us Q I rv (.inl ⟨_, rfl, g ρ H (.int _) Ext.refl R (.int _)⟩)
  · cases rw with
    | cons a b =>
      cases b; cases a
      exact call_int1 pins s σ H _ us Q I rv (.inr ⟨_, rfl, g ρ H (.int _) Ext.refl R (.int _)⟩)
  · exact g.elim
theorem c_abs : CallR X (.builtin "abs") (rcM X.K Z absM) := by
  rintro pins s σ H xs us Q I rv ⟨ws, S, ρ, R, rw, g⟩
  unfold absM at g
  split at g
  · cases rw with
    | cons a b =>
      cases b; cases a
      exact call_abs pins s σ H _ us Q I rv ⟨_, rfl, g ρ H (.int _) Ext.refl R (.int _)⟩
  · exact g.elim

/-! ### isinstance -/
inductive Kd where
  | non | bl | int | str | lst | tup | dct
  deriving DecidableEq
def Kd.nm : Kd → String
  | .non => "NoneType"
  | .bl => "bool"
  | .int => "int"
  | .str => "str"
  | .lst => "list"
  | .tup => "tuple"
  | .dct => "dict"
def kdD : D → Kd
  | .none => .non
  | .bool _ => .bl
  | .int _ => .int
  | .str _ => .str
  | .list _ => .lst
  | .tuple _ => .tup
  | .dict _ => .dct
def kdW (w : W) (S : Sto) : Option Kd := match w with
  | .d x => some (kdD x)
  | .r n => match S[n]? with
    | some (.lst _) => some .lst
    | some (.dct _) => some .dct
    | _ => none
  | .s _ => some .lst
  | .e _ => none
def Kd.isA (k T : Kd) : Bool := k == T || (k == .bl && T == .int)
theorem kd_kit (k T : Kd) : kitB k.nm T.nm = some (k.isA T) := by cases k <;> cases T <;> decide +kernel
def isiM (Ts : List Kd) (w : W) : M W := fun S => match kdW w S with
  | some k => .ok (okb (Ts.any k.isA)) S
  | none => .no
theorem kdW_rep {K : PySem.W.Frag} {S : Sto} {ρ : Pl} {H : Hp} {w : W} {v : V} {k : Kd} (h : kdW w S = some k) (R : Rel K S ρ H) (r : RW K ρ H (Live S ρ) w v) : TyX K H v (.type k.nm) := by
  cases w with
  | d x =>
    cases h
    cases x with
    | none => cases r; exact .base .non
    | bool _ => cases r; exact .base (.bl _)
    | int _ => cases r; exact .base (.int _)
    | str _ => cases r; exact .base (.str _)
    | list _ => cases r with | lst q _ => exact .base (.lst q.1)
    | tuple _ =>
      cases r with
      | tup q _ =>
        rcases q with ⟨q | ⟨o, q⟩, _⟩ | ⟨o, _, _, e, c, _⟩
        · exact .base (.tup q)
        · exact .fTuple q
        · exact .kTuple e c
    | dict _ => cases r with | dct q => exact .base (.dK q.1)
  | r n =>
    obtain ⟨a, h1, rfl⟩ := r
    unfold kdW at h
    simp only at h
    split at h
    · rename_i ws e
      cases h
      obtain ⟨a', ho, y1, y2, vs, y3, y4⟩ := R.ob n _ e rfl
      rw [h1] at y1; cases y1
      subst y3
      exact .base (.lst y2)
    · rename_i ws e
      cases h
      obtain ⟨a', ho, y1, y2, vs, y3, y4⟩ := R.ob n _ e rfl
      rw [h1] at y1; cases y1
      subst y3
      exact .base (.dK y2)
    · cases h
  | e x => cases h
  | s ns =>
    obtain ⟨a, rfl, q⟩ := r
    cases h
    rcases q with ⟨q | ⟨o, q⟩, _⟩ | ⟨o, _, _, e, c, _⟩
    · exact .base (.lst q)
    · exact .base (.frz q)
    · exact .kList e c
variable {pos : Pos} {a : Expr} {fa : Env → M W}
theorem disi1 {T : Kd} {p p2 : Pos} {x : Str} (hg : Gl X "isinstance") (hm : X.mg "isinstance" = none) (hgT : Gl X x) (hmT : X.mg x = none) (hvT : bootBuiltins x = some (.type T.nm)) (ha : PE X a (tE X.K Z fa))
    (hn : x ≠ "__name__" := by decide) (hd : (x == ("__debug__" : Str)) = false := by decide)
    (he : starEach [a, .Name x p2] X.env = (false, eval a X.env) :: starEach [.Name x p2] X.env := by rfl) (hpl : (backTo pos (starEach [.Name x p2] X.env)).any (·.1) = false := by rfl) :
    PE X (.Call (.Name "isinstance" p) [a, .Name x p2] [] pos) (tE X.K Z fun δ => bd (fa δ) (isiM [T])) := by
  have hT : PE X (.Name x p2) (tC (.ty T.nm)) := pe_bltn hgT hmT hvT rfl hn hd
  refine (pe_callB (r := rIsi X.K) call_isi hg hm (by decide +kernel) (pa_cons ha (pa_cons hT pa_nil) he) (he := he) (hpl := hpl)).imp fun σ H Q h => ?_
  refine (tH.bind (Rα := RW X.K) (f := fa) (g := fun _ w => isiM [T] w) h Stb.env).mono fun v H1 ⟨⟨δ, w⟩, S, ρ, R, ⟨r0, r1⟩, g⟩ => ?_
  change Gives (isiM [T] w S) _ _ at g
  unfold isiM at g
  split at g
  · rename_i k e
    refine ⟨v, .ty T.nm, _, _, k.isA T, rfl, .ty _, kdW_rep e R r1, kit_ty (kd_kit k T), ?_⟩
    have : ([T].any k.isA) = k.isA T := by simp
    rw [this] at g
    exact g ρ H1 (.bl _) Ext.refl R (.bl _)
  · exact g.elim
theorem disi2 {T U : Kd} {p p2 p3 p4 : Pos} {x y : Str} {k4 : Nat} (hg : Gl X "isinstance") (hm : X.mg "isinstance" = none) (hgT : Gl X x) (hmT : X.mg x = none) (hvT : bootBuiltins x = some (.type T.nm)) (hgU : Gl X y) (hmU : X.mg y = none) (hvU : bootBuiltins y = some (.type U.nm)) (ha : PE X a (tE X.K Z fa))
    (hn : x ≠ "__name__" := by decide) (hd : (x == ("__debug__" : Str)) = false := by decide) (hn' : y ≠ "__name__" := by decide) (hd' : (y == ("__debug__" : Str)) = false := by decide)
    (he : starEach [a, .Tuple [.Name x p2, .Name y p3] k4 p4] X.env = (false, eval a X.env) :: starEach [.Tuple [.Name x p2, .Name y p3] k4 p4] X.env := by rfl) (hpl : (backTo pos (starEach [.Tuple [.Name x p2, .Name y p3] k4 p4] X.env)).any (·.1) = false := by rfl) :
    PE X (.Call (.Name "isinstance" p) [a, .Tuple [.Name x p2, .Name y p3] k4 p4] [] pos) (tE X.K Z fun δ => bd (fa δ) (isiM [T, U])) := by
  have hT : PE X (.Name x p2) (tC (.ty T.nm)) := pe_bltn hgT hmT hvT rfl hn hd
  have hU : PE X (.Name y p3) (tC (.ty U.nm)) := pe_bltn hgU hmU hvU rfl hn' hd'
  have hTU : PE X (.Tuple [.Name x p2, .Name y p3] k4 p4) (tTup (tCons (tC (.ty T.nm)) (tCons (tC (.ty U.nm)) tNil))) := pe_tup (pa_cons hT (pa_cons hU pa_nil))
  refine (pe_callB (r := rIsiT X.K) call_isiT hg hm (by decide +kernel) (pa_cons ha (pa_cons hTU pa_nil) he) (he := he) (hpl := hpl)).imp fun σ H Q h => ?_
  refine (tH.bind (Rα := RW X.K) (f := fa) (g := fun _ w => isiM [T, U] w) h Stb.env).mono fun v H1 ⟨⟨δ, w⟩, S, ρ, R, ⟨r0, r1⟩, g⟩ => ?_
  change Gives (isiM [T, U] w S) _ _ at g
  unfold isiM at g
  split at g
  · rename_i k e
    refine ⟨by show 2 ≤ sizeLine; decide, fun t ht => ?_⟩
    have ex : Ext S ρ H1 S ρ (upd H1 t (.tup [.ty T.nm, .ty U.nm])) := Ext.frz ht
    refine ⟨v, t, [.ty T.nm, .ty U.nm], _, [.type T.nm, .type U.nm], k.isA T || k.isA U, rfl, upd_same, .cons (.ty _) (.cons (.ty _) .nil), kdW_rep e (R.frz ht) (r1.ext ex), ?_, ?_⟩
    · refine kitAny_cons (kit_ty (kd_kit k T)) (fun hf => ?_) (fun ht => by rw [ht]; rfl)
      refine kitAny_cons (kit_ty (kd_kit k U)) (fun hf' => ?_) (fun ht => by rw [ht, hf]; rfl)
      rw [hf, hf']
      rfl
    · have : ([T, U].any k.isA) = (k.isA T || k.isA U) := by simp
      rw [this] at g
      exact g ρ _ (.bl _) ex (R.frz ht) (.bl _)
  · exact g.elim

/-! ### lists of the store -/
def chkL (w : W) : M Unit := fun S => match seqOf w S with
  | some (true, _) => .ok () S
  | _ => .no
theorem chkL_ok {K : PySem.W.Frag} : ChkOk K "list" chkL := by
  intro w S ρ H v P E R r g
  unfold chkL at g
  split at g
  · rename_i ws e
    obtain ⟨a, xs, rfl, _, hq⟩ := seqOf_rep e R r
    rw [if_pos rfl] at hq
    exact ⟨.inl ⟨rfl, xs, .of hq⟩, g⟩
  · exact g.elim
def appendM (w : W) (ws : List W) : M W := fun S => match w, ws with
  | .r n, [y] => match S[n]? with
    | some (.lst xs) => if xs.length < sizeLine then .ok (.d .none) (S.set n (.lst (xs ++ [y]))) else .no
    | _ => .no
  | _, _ => .no
def extendM (w : W) (ws : List W) : M W := fun S => match w, ws with
  | .r n, [y] => match S[n]?, seqOf y S with
    | some (.lst xs), some (true, ys) => if xs.length + ys.length ≤ sizeLine then .ok (.d .none) (S.set n (.lst (xs ++ ys))) else .no
    | _, _ => .no
  | _, _ => .no
def popM (w : W) (ws : List W) : M W := fun S => match w, ws with
  | .r n, [] => match S[n]? with
    | some (.lst xs) => match xs[xs.length - 1]? with
      | some y => .ok y (S.set n (.lst xs.dropLast))
      | none => .no
    | _ => .no
  | _, _ => .no
theorem lst_at {K : PySem.W.Frag} {S : Sto} {ρ : Pl} {H : Hp} {n : Nat} {xs : List W} {v : V} (e : S[n]? = some (.lst xs)) (R : Rel K S ρ H) (r : RW K ρ H (Live S ρ) (.r n) v) : ∃ a vs, v = .ref a ∧ ρ.adr[n]? = some a ∧ H a = some (.lst vs) ∧ RWs K ρ H (Live S ρ) xs vs := by
  obtain ⟨a, h1, h2⟩ := r
  obtain ⟨a', ho, y1, y2, vs, y3, y4⟩ := R.ob n _ e rfl
  rw [h1] at y1; cases y1
  subst y3
  exact ⟨a, vs, h2, h1, y2, y4⟩
theorem m_append : MtR X "list.append" (rmM X.K Z appendM) := by
  rintro pins s σ H x xs v us Q I rx rxs ⟨⟨w, ws⟩, S, ρ, R, ⟨r1, r2⟩, g⟩
  change Gives (appendM w ws S) _ _ at g
  unfold appendM at g
  split at g
  · rename_i n y
    split at g
    · rename_i zs e
      split at g
      · rename_i hl
        obtain ⟨a, vs, rfl, h1, h2, h3⟩ := lst_at e R r1
        cases r2 with
        | cons ry rn =>
          cases rn
          have hn := Paired.length h3
          refine mt_append pins s σ H _ _ v us Q I rx rxs ⟨a, vs, _, rfl, rfl, h2, by omega, ?_⟩
          exact g ρ _ .non (Ext.put e rfl h1) (R.put e rfl h1 ⟨_, rfl, RWs.app h3 (.cons ry .nil)⟩) .non
      · exact g.elim
    · exact g.elim
  · exact g.elim
theorem m_extend : MtR X "list.extend" (rmM X.K Z extendM) := by
  rintro pins s σ H x xs v us Q I rx rxs ⟨⟨w, ws⟩, S, ρ, R, ⟨r1, r2⟩, g⟩
  change Gives (extendM w ws S) _ _ at g
  unfold extendM at g
  split at g
  · rename_i n y
    split at g
    · rename_i zs ys e e2
      split at g
      · rename_i hl
        obtain ⟨a, vs, rfl, h1, h2, h3⟩ := lst_at e R r1
        cases r2 with
        | cons ry rn =>
          cases rn
          obtain ⟨b, us', rfl, h4, h5⟩ := seqOf_rep e2 R ry
          rw [if_pos rfl] at h5
          have hn := Paired.length h3
          have hm := Paired.length h4
          refine mt_extend pins s σ H _ _ v us Q I rx rxs ⟨a, b, vs, us', rfl, rfl, h2, h5, by omega, ?_⟩
          exact g ρ _ .non (Ext.put e rfl h1) (R.put e rfl h1 ⟨_, rfl, RWs.app h3 h4⟩) .non
      · exact g.elim
    · exact g.elim
  · exact g.elim
theorem Paired.dropLast' {α β : Type} {F : α → β → Prop} : ∀ {xs : List α} {ys : List β}, Paired F xs ys → Paired F xs.dropLast ys.dropLast
  | _, _, .nil => .nil
  | _, _, .cons a .nil => .nil
  | _, _, .cons a (.cons b c) => .cons a (Paired.dropLast' (.cons b c))
theorem m_pop : MtR X "list.pop" (rmM X.K Z popM) := by
  rintro pins s σ H x xs v us Q I rx rxs ⟨⟨w, ws⟩, S, ρ, R, ⟨r1, r2⟩, g⟩
  change Gives (popM w ws S) _ _ at g
  unfold popM at g
  split at g
  · rename_i n
    split at g
    · rename_i zs e
      split at g
      · rename_i y ey
        obtain ⟨a, vs, rfl, h1, h2, h3⟩ := lst_at e R r1
        cases r2
        have hn := Paired.length h3
        obtain ⟨vy, k1, k2⟩ := Paired.at' h3 ey
        rw [hn] at k1
        have ex : Ext S ρ H (S.set n (.lst zs.dropLast)) ρ (upd H a (.lst vs.dropLast)) := Ext.put e rfl h1
        refine mt_pop pins s σ H _ _ v us Q I rx rxs ⟨a, vs, vy, rfl, rfl, h2, k1, ?_⟩
        exact g ρ _ vy ex (R.put e rfl h1 ⟨_, rfl, Paired.dropLast' h3⟩) (k2.ext ex)
      · exact g.elim
    · exact g.elim
  · exact g.elim
/-- what stands at a name is given up to nobody's change -/
def freezeM (w : W) : M W := fun S => match w with
  | .r n => match S[n]? with
    | some (.lst ws) => match allD ws with
      | some ds => .ok (.d (.list ds)) (S.set n .dead)
      | none => .no
    | _ => .no
  | w => .ok w S
theorem dfreeze (h : PE X a (tE X.K Z fa)) : PE X a (tE X.K Z fun δ => bd (fa δ) freezeM) := by
  refine h.imp fun σ H Q q => ?_
  refine (tH.bind (Rα := RW X.K) (f := fa) (g := fun _ w => freezeM w) q Stb.env).mono fun v H1 ⟨⟨δ, w⟩, S, ρ, R, ⟨r0, r1⟩, g⟩ => ?_
  change Gives (freezeM w S) _ _ at g
  unfold freezeM at g
  split at g
  · rename_i n
    split at g
    · rename_i ws e
      split at g
      · rename_i ds ed
        obtain ⟨b, vs, rfl, h1, h2, h3⟩ := lst_at e R r1
        have ek : Ext S ρ H1 (S.set n .dead) ρ H1 := Ext.kill e rfl
        exact g ρ H1 _ ek (R.kill e rfl) (.lst ⟨h2, R.dead_notL e rfl h1⟩ (RpA.ext ek.stabL ek.newL _ _ (allD_rep ed h3)))
      · exact g.elim
    · exact g.elim
  · exact g ρ H1 v Ext.refl R r1
end
end DL
/-! DL8: own defs: their promise by a plain function, their calls. -/
namespace DL
open PySem PySem.Spec PyProof.Rows L2

/-- as FnOk, where it is known that no repr runs around -/
structure FnG (P : Program) (w : World) (K : PySem.W.Frag) (mg : Str → Option Value) (base : Heap) (CX : CXT) (k : Nat) (f : Addr) (fd : FuncData) (ps : List Str) (sp : Sp) : Prop where
  len : ∀ vs H Q E, sp vs H Q E → vs.length = ps.length
  run : ∀ (A : Around) (outer : List PySem.Env) (s : Shared) (H : Hp) (args : Args) (us : List Value) (vs : List V) (Q : VK) (E : XK), Room k A → A.guards = some [] → Env0 P w K mg base A outer s H → BindsTo s fd args (ps.zip us) → Vals vs us → sp vs H Q E →
    codeAny (model P w) A (.call (.ref f) args) (CR CX outer P w H s Q E) s
section
variable {P : Program} {w : World} {K : PySem.W.Frag} {mg : Str → Option Value} {base : Heap} {CX : CXT} {f : Addr} {fd : FuncData} {ps : List Str} {sp sp' : Sp}
theorem FnG.mono {j k : Nat} (F : FnG P w K mg base CX j f fd ps sp) (h : j ≤ k) : FnG P w K mg base CX k f fd ps sp := ⟨F.len, fun A outer s H args us vs Q E hr => F.run A outer s H args us vs Q E (hr.mono h)⟩
theorem FnG.imp {k : Nat} (F : FnG P w K mg base CX k f fd ps sp) (h : ∀ vs H Q E, sp' vs H Q E → sp vs H Q E) : FnG P w K mg base CX k f fd ps sp' :=
  ⟨fun vs H Q E q => F.len vs H Q E (h _ _ _ _ q), fun A outer s H args us vs Q E hr hg he hb hv hs => F.run A outer s H args us vs Q E hr hg he hb hv (h _ _ _ _ hs)⟩
/-- cdv is the code of the def at f -/
def CodeOf (K : PySem.W.Frag) (f : Addr) (cdv : Value) : Prop := ∃ (oc : Value) (od : Option Addr) (fd : FuncData) (osl : Array (Option Value)), K.lookup f = some ⟨oc, od, .func fd, osl⟩ ∧ fd.code = cdv
/-- a def's body: its walk, and from this the promise -/
theorem FnG.ofC {x qual : Str} {st : Stmt} {N : List Str} {k : Nat} (F : Fun K x qual st f fd) (S : FnScope N ps (defScope st)) (len : ∀ vs H Q E, sp vs H Q E → vs.length = ps.length)
    (hbody : ∀ (cdv : Value) (A : Around) (outer : List PySem.Env) (s : Shared) (H : Hp) (vs : List V) (Q : VK) (E : XK), CodeOf K f cdv → Room k (A.deeper (envOfC qual (defScope st) s.heap.objs.size f cdv)) → A.guards = some [] → sp vs H Q E →
      ∃ t, PSs (cxOf CX P w K mg base N qual (defScope st) f cdv A outer s H E) (defBody st) t ∧ t { nx := fun _ H' => Q .non H', rt := Q } (L2.start N vs) H) : FnG P w K mg base CX (k + 1) f fd ps sp := by
  obtain ⟨oc, od, kV, doc, pm, an, cdv, ct, osl, rfl, lk, hcd⟩ := F.ex
  refine ⟨len, fun A outer s H args us vs Q E hr hgd e0 hb r hsp => ?_⟩
  -- the promise at this A alone
  have one : FnOk P w K mg base CX (k + 1) f (PySem.W.fnOf x qual (defArgs st) (defBody st) (defScope st) .none kV doc pm an cdv ct) ps sp → codeAny (model P w) A (.call (.ref f) args) (CR CX outer P w H s Q E) s := fun z => z.run A outer s H args us vs Q E hr e0 hb r hsp
  have KX : K.In s.heap := e0.mod.kin.keeps fun b o e => (e0.bs b o e).1
  have free : s.heap.NoLimit := e0.mod.nolimit.keeps fun b o e => (e0.bs b o e).1
  have many := len _ _ _ _ hsp
  have seen : ∀ y ∈ ps.zip us, (defScope st).names.lookup y.1 = some .local ∨ ((defScope st).names.lookup y.1 = some .cell ∧ ((cellsFrom (s.heap.objs.size + 1) (defScope st).names []).lookup y.1).isSome = true) := fun y hy =>
    (S.par y.1 (List.of_mem_zip hy).1).imp id fun q => ⟨q, PySem.W.cellsFrom_some _ _ _ (.inl q)⟩
  refine codeAny_call_function hr.depth (KX _ _ lk) rfl S.co S.gen rfl (PySem.W.codeRec_of KX hcd) (hb _ _ _ _ (wpAny_newFunctionEnv_cells S.kind seen fun env he s1 x1 => ?_))
  subst he
  refine ⟨free.keeps x1.toInCall.keep, codeAny_func ?_⟩
  obtain ⟨t, ht, hq⟩ := hbody cdv A outer s H vs Q E ⟨_, _, _, _, lk, rfl⟩ (hr.deeper _) hgd hsp
  have I := inv_start (CX := CX) (P := P) (w := w) (K := K) (mg := mg) (base := base) (E := E) S hr.hd e0 many r x1
  refine wpAny_mono (ht.run [] s1 _ H _ I hq) (fun fl s' hs => ?_) fun e s' hs => hs
  cases fl with
  | ret u =>
    obtain ⟨v, σ', H', J, rv, q⟩ := hs
    exact ⟨v, H', J.os, J.bare, J.base, J.hok, rv, q⟩
  | next =>
    obtain ⟨σ', H', J, q⟩ := hs
    exact ⟨.non, H', J.os, J.bare, J.base, J.hok, rfl, q⟩
  | brk => obtain ⟨_, _, _, q⟩ := hs; exact q.elim
  | cont => obtain ⟨_, _, _, q⟩ := hs; exact q.elim
theorem FnG.of {x qual : Str} {st : Stmt} {N : List Str} {k : Nat} (F : Fun K x qual st f fd) (S : FnScope N ps (defScope st)) (len : ∀ vs H Q E, sp vs H Q E → vs.length = ps.length)
    (hbody : ∀ (cdv : Value) (A : Around) (outer : List PySem.Env) (s : Shared) (H : Hp) (vs : List V) (Q : VK) (E : XK), Room k (A.deeper (envOfC qual (defScope st) s.heap.objs.size f cdv)) → A.guards = some [] → sp vs H Q E →
      ∃ t, PSs (cxOf CX P w K mg base N qual (defScope st) f cdv A outer s H E) (defBody st) t ∧ t { nx := fun _ H' => Q .non H', rt := Q } (L2.start N vs) H) : FnG P w K mg base CX (k + 1) f fd ps sp :=
  FnG.ofC F S len fun cdv A outer s H vs Q E _ => hbody cdv A outer s H vs Q E
end
section
variable {X : Cx} {CX : CXT} {k : Nat} {f : Addr} {fd : FuncData} {ps ks : List Str} {sp : Sp} {dvs : List V} {ds : List Value} {E : XK} {x : Str} {p pos : Pos} {e : Expr} {es : List Expr} {ta : TE} {t tk : TA}
/-- behind the callee's end -/
theorem after_call {pins : List (Addr × Obj)} {σ : L2.St} {H : Hp} {s : Shared} {Q : VK} (hx : Passes CX X E) (I : Inv X pins σ H s) {r : Result} {s' : Shared} (hq : CR CX X.stack X.prog X.w H s Q E r s') :
    match r with | .ok (.ret u) => EP X pins σ Q u s' | .ok _ => False | .error e => X.xe e s' := by
  cases r with
  | error e => exact hx pins σ H s e s' I hq
  | ok fl =>
    cases fl with
    | ret u => exact I.after hq
    | next => exact hq
    | brk => exact hq
    | cont => exact hq
theorem callG {pins : List (Addr × Obj)} {σ : L2.St} {H : Hp} {s : Shared} {Q : VK} {us : List Value} {vs : List V} (F : FnG X.prog X.w X.K X.mg X.base CX k f fd ps sp) (hr : Room k X.A) (hG : X.A.guards = some []) (hb : Binds X.K fd ps ds) (hd : Vals dvs ds) (hx : Passes CX X E)
    (I : Inv X pins σ H s) (r : Vals vs us) (h : sp (vs ++ dvs) H Q E) : wpAny (model X.prog X.w) X.A (call (.ref f) us) (EP X pins σ Q) X.xe s := by
  have r2 : Vals (vs ++ dvs) (us ++ ds) := r.append hd
  refine wpAny_call (codeAny_mono (F.run X.A X.stack s H ⟨us, []⟩ (us ++ ds) (vs ++ dvs) Q E hr hG I.env0 (hb s us I.kIn (by rw [← r2.length]; exact F.len _ _ _ _ h)) r2 h) fun r s' hq => ?_)
  have z := after_call hx I hq
  cases r with
  | error e => exact z
  | ok fl => cases fl <;> first | exact z | exact z.elim
theorem peG (F : FnG X.prog X.w X.K X.mg X.base CX k f fd ps sp) (hr : Room k X.A) (hG : X.A.guards = some []) (hg : Gl X x) (hm : X.mg x = some (.ref f)) (hk : PySem.W.keepIn X.K (.ref f) = true) (hb : Binds X.K fd ps ds) (hd : Vals dvs ds) (hx : Passes CX X E)
    (ha : PA X (e :: es) t) (hdb : (x == ("__debug__" : Str)) = false := by decide) (he : starEach (e :: es) X.env = (false, eval e X.env) :: starEach es X.env := by rfl) (hpl : (backTo pos (starEach es X.env)).any (·.1) = false := by rfl) :
    PE X (.Call (.Name x p) (e :: es) [] pos) (tCall sp dvs E t) := ⟨fun pins s σ H Q I h =>
  wpAny_Call_Name_kw (ld_glob I hg hm (PySem.W.callWith_K (h₀ := X.base) I.ok.mod.kin hk (thn (ha.run pos pins s σ H _ I h) fun us s1 ⟨vs, H1, I1, r, q⟩ => ⟨I1.kIn, callG F hr hG hb hd hx I1 r q⟩) he hpl) hdb)⟩
theorem peG0 (F : FnG X.prog X.w X.K X.mg X.base CX k f fd ps sp) (hr : Room k X.A) (hG : X.A.guards = some []) (hg : Gl X x) (hm : X.mg x = some (.ref f)) (hk : PySem.W.keepIn X.K (.ref f) = true) (hb : Binds X.K fd ps ds) (hd : Vals dvs ds) (hx : Passes CX X E)
    (hdb : (x == ("__debug__" : Str)) = false := by decide) : PE X (.Call (.Name x p) [] [] pos) (tCall sp dvs E tNil) := ⟨fun pins s σ H Q I h =>
  wpAny_Call_Name_kw (ld_glob I hg hm (PySem.W.callWith_K0 I.kIn hk (callG (us := []) F hr hG hb hd hx I .nil h)) hdb)⟩
variable {g : List Value → List Value → List Value} {gV : List V → List V → List V}
theorem callGK {pins : List (Addr × Obj)} {σ : L2.St} {H : Hp} {s : Shared} {Q : VK} {us ws : List Value} {vs zs : List V} (F : FnG X.prog X.w X.K X.mg X.base CX k f fd ps sp) (hr : Room k X.A) (hG : X.A.guards = some []) (hb : KBinds X.K fd ps ks g gV) (hx : Passes CX X E)
    (I : Inv X pins σ H s) (r : Vals vs us) (rz : Vals zs ws) (h : sp (gV vs zs) H Q E) : wpAny (model X.prog X.w) X.A (call (.ref f) us (ks.zip ws)) (EP X pins σ Q) X.xe s := by
  have r2 := hb.rel r rz
  refine wpAny_call (codeAny_mono (F.run X.A X.stack s H ⟨us, ks.zip ws⟩ (g us ws) (gV vs zs) Q E hr hG I.env0 (hb.to s us ws I.kIn (by rw [← r2.length]; exact F.len _ _ _ _ h)) r2 h) fun r s' hq => ?_)
  have z := after_call hx I hq
  cases r with
  | error e => exact z
  | ok fl => cases fl <;> first | exact z | exact z.elim
theorem peGK {kws : List Keyword} (F : FnG X.prog X.w X.K X.mg X.base CX k f fd ps sp) (hr : Room k X.A) (hG : X.A.guards = some []) (hg : Gl X x) (hm : X.mg x = some (.ref f)) (hk : PySem.W.keepIn X.K (.ref f) = true) (hb : KBinds X.K fd ps ks g gV) (hx : Passes CX X E)
    (ha : PA X (e :: es) t) (hkw : PK X kws tk) (hall : (backToKw pos (keywordEach kws X.env)).all (·.1.isSome) = true := by rfl) (hks : (backToKw pos (keywordEach kws X.env)).filterMap (·.1) = ks := by rfl)
    (hdb : (x == ("__debug__" : Str)) = false := by decide) (he : starEach (e :: es) X.env = (false, eval e X.env) :: starEach es X.env := by rfl)
    (hpl : ((backTo pos (starEach (e :: es) X.env)).any (·.1) || (backToKw pos (keywordEach kws X.env)).any (·.1.isNone)) = false := by rfl) :
    PE X (.Call (.Name x p) (e :: es) kws pos) (tCallK sp gV E t tk) := by
  refine ⟨fun pins s σ H Q I h => wpAny_Call_Name_kw (ld_glob I hg hm ?_ hdb)⟩
  refine PySem.W.callWith_KW (h₀ := X.base) I.ok.mod.kin hk hall (thn (ha.run pos pins s σ H _ I h) fun us s1 ⟨vs, H1, I1, r, q⟩ => thn (hkw.run pos pins s1 σ H1 _ I1 q) fun ws s2 ⟨zs, H2, I2, rz, q2⟩ => ⟨I2.kIn, ?_⟩) hpl he
  rw [hks]
  exact callGK F hr hG hb hx I2 r rz q2
end

/-- the promise of a def: what its plain function says -/
def spF (K : PySem.W.Frag) (ZZ : XK → XZ) (F : List W → M W) : Sp := fun vs H Q E => tH K (ZZ E) (RWs K) (RW K) F vs H Q
/-- a def's plain function, from its body's: k parameters, n names -/
def runD (k n : Nat) (b : Env → M Fl) : List W → M W := fun ws => if ws.length = k then bd (b (ws.map some ++ List.replicate (n - k) none)) fun fl => match fl with
  | .nx _ => pr (.d .none)
  | .rt w => pr w
  | _ => no
  else no
/-- .. where the arguments are plain data that it does not change, and the answer is plain data: nothing of the store is seen, nothing is left -/
def pureM (F : List W → M W) : List W → M W := fun ws S => match allD ws with
  | some _ => match F ws [] with
    | .ok (.d x) _ => .ok (.d x) S
    | _ => .no
  | none => .no
theorem RWs_plain {K : PySem.W.Frag} {ρ ρ' : Pl} {H : Hp} {L : Addr → Prop} : ∀ {ws : List W} {vs : List V} {ds : List D}, allD ws = some ds → RWs K ρ H L ws vs → RWs K ρ' H L ws vs
  | [], _, ds, h, r => by cases r; exact .nil
  | .d x :: ws, _, ds, h, r => by
    cases r with
    | cons a b =>
      simp only [allD, Option.map_eq_some_iff] at h
      obtain ⟨es, h1, h2⟩ := h
      exact .cons a (RWs_plain h1 b)
  | .r _ :: _, _, ds, h, r => by simp [allD] at h
  | .s _ :: _, _, ds, h, r => by simp [allD] at h
  | .e _ :: _, _, ds, h, r => by simp [allD] at h
theorem sp_pure {K : PySem.W.Frag} {ZZ : XK → XZ} {F : List W → M W} {vs : List V} {H : Hp} {Q : VK} {E : XK} (h : spF K ZZ (pureM F) vs H Q E) : spF K (fun _ => ZF) F vs H Q E ∨ spF K ZZ F vs H Q E := by
  right
  obtain ⟨ws, S, ρ, R, rw, g⟩ := h
  unfold pureM at g
  split at g
  · rename_i ds ed
    split at g
    · rename_i x S0 e
      refine ⟨ws, [], ⟨[], fun a => Live S ρ a⟩, ⟨rfl, fun a q => R.tracked q, fun a q z => ?_, fun n o q => ?_, fun n m a o u q => ?_⟩, ?_, ?_⟩
      · obtain ⟨n, o, h1, _⟩ := z; simp at h1
      · simp at q
      · simp at q
      · have hl : Live [] ⟨[], fun a => Live S ρ a⟩ = Live S ρ := by
          funext a
          refine propext ⟨fun q => ?_, fun q => .inr q⟩
          rcases q with ⟨n, o, h1, _⟩ | q
          · simp at h1
          · exact q
        rw [hl]
        exact RWs_plain ed rw
      · rw [e]
        intro ρ' H' v ex r' rv
        have keep : ∀ (a : Addr) (o : HO), H a = some o → H' a = some o := fun a o q => ex.stab a o q fun z => by
          obtain ⟨n, o, h1, _⟩ := z; simp at h1
        have e2 : Ext S ρ H S ρ H' := ⟨fun _ _ q => q, fun a o q _ => keep a o q, fun _ q => .inl q, rfl⟩
        refine g ρ H' v e2 ⟨R.len, fun a q => ?_, R.dj, fun n o q1 q2 => ?_, R.inj⟩ ?_
        · obtain ⟨o, h⟩ := R.gt a q; exact ⟨o, keep a o h⟩
        · obtain ⟨a, ho, z1, z2, z3⟩ := R.ob n o q1 q2
          exact ⟨a, ho, z1, keep a ho z2, z3.ext e2⟩
        · have rv : Rp K H' (Live S0 ρ') v x := rv
          refine Rp.ext (fun a o q _ => q) (fun a q => .inl (.inr ?_)) x v rv
          rw [ex.grd]
          exact q
    · exact g.elim
  · exact g.elim
theorem fn_pure {P : Program} {w : World} {K : PySem.W.Frag} {mg : Str → Option Value} {base : Heap} {CX : CXT} {k : Nat} {f : Addr} {fd : FuncData} {ps : List Str} {ZZ : XK → XZ} {F : List W → M W}
    (h : FnG P w K mg base CX k f fd ps (spF K ZZ F)) : FnG P w K mg base CX k f fd ps (spF K ZZ (pureM F)) := h.imp fun vs H Q E q => (sp_pure q).elim (fun z => by
  obtain ⟨ws, S, ρ, R, rw, g⟩ := z
  exact ⟨ws, S, ρ, R, rw, gives_imp g (fun _ _ q => q) fun _ _ q ρ' H' a b => (q ρ' H' a b).elim⟩) id
theorem fn_to {P : Program} {w : World} {K : PySem.W.Frag} {mg : Str → Option Value} {base : Heap} {CX : CXT} {k : Nat} {f : Addr} {fd : FuncData} {ps : List Str} {ZZ : XK → XZ} {F G : List W → M W}
    (h : FnG P w K mg base CX k f fd ps (spF K ZZ F)) (hg : ∀ ws S, G ws S = .no ∨ G ws S = F ws S) : FnG P w K mg base CX k f fd ps (spF K ZZ G) := h.imp fun vs H Q E q => by
  obtain ⟨ws, S, ρ, R, rw, g⟩ := q
  refine ⟨ws, S, ρ, R, rw, ?_⟩
  rcases hg ws S with e | e
  · rw [e] at g; exact g.elim
  · rw [← e]; exact g
theorem start_rep {K : PySem.W.Frag} {ρ : Pl} {H : Hp} {L : Addr → Prop} {ws : List W} {vs : List V} {n : Nat} (r : RWs K ρ H L ws vs) : REnv K ρ H L (ws.map some ++ List.replicate n none) (vs.map some ++ List.replicate n none) := by
  have hl := Paired.length r
  refine ⟨by simp [hl], fun i w h => ?_⟩
  by_cases hi : i < ws.length
  · rw [List.getElem?_append_left (by simpa using hi), List.getElem?_map] at h
    cases e : ws[i]? with
    | none => rw [e] at h; cases h
    | some w' =>
      rw [e] at h
      cases h
      obtain ⟨v, h1, h2⟩ := Paired.at' r e
      exact ⟨v, by rw [List.getElem?_append_left (by simp; omega), List.getElem?_map, h1]; rfl, h2⟩
  · rw [List.getElem?_append_right (by simp; omega)] at h
    rw [List.getElem?_replicate] at h
    split at h <;> cases h
section
variable {P : Program} {w : World} {K : PySem.W.Frag} {mg : Str → Option Value} {base : Heap}
/-- a def whose body's walk is known; no error leaves it -/
theorem fn_runC {x qual : Str} {st : Stmt} {f : Addr} {fd : FuncData} {N ps : List Str} {j k n : Nat} {b : Env → M Fl} (F : Fun K x qual st f fd) (S : FnScope N ps (defScope st)) (hk : ps.length = k) (hn : N.length = n)
    (hb : ∀ (cdv : Value) (A : Around) (outer : List PySem.Env) (s : Shared) (H : Hp) (E : XK), CodeOf K f cdv → Room j (A.deeper (envOfC qual (defScope st) s.heap.objs.size f cdv)) → A.guards = some [] →
      PSs (cxOf CX0 P w K mg base N qual (defScope st) f cdv A outer s H E).nox (defBody st) (tS K ZF b)) :
    FnG P w K mg base CX0 (j + 1) f fd ps (spF K (fun _ => ZF) (runD k n b)) := by
  have hlen : ∀ vs H Q E, spF K (fun _ => ZF) (runD k n b) vs H Q E → vs.length = ps.length := fun vs H Q E h => by
    obtain ⟨ws, S, ρ, R, rw, g⟩ := h
    unfold runD at g
    split at g
    · rename_i hl
      rw [hk, ← hl]
      exact (Paired.length rw).symm
    · exact g.elim
  refine FnG.ofC F S hlen fun cdv A outer s H vs Q E hco hr hgd h => ⟨_, (hb cdv A outer s H E hco hr hgd).nox, ?_⟩
  have hl := hlen _ _ _ _ h
  obtain ⟨ws, S, ρ, R, rw, g⟩ := h
  unfold runD at g
  split at g
  · rename_i hw
    refine ⟨_, S, ρ, R, ?_, gives_imp (gives_bd g) (fun fl S' q ρ' H' e r => ?_) fun _ _ q => q⟩
    · unfold L2.start
      rw [hl, hn, hk]
      exact start_rep rw
    · cases fl with
      | nx δ => exact fun σ re => q ρ' H' .non e r .non
      | rt w => exact fun v rv => q ρ' H' v e r rv
      | bk δ => exact q.elim
      | ct δ => exact q.elim
  · exact g.elim
theorem fn_run {x qual : Str} {st : Stmt} {f : Addr} {fd : FuncData} {N ps : List Str} {j k n : Nat} {b : Env → M Fl} (F : Fun K x qual st f fd) (S : FnScope N ps (defScope st)) (hk : ps.length = k) (hn : N.length = n)
    (hb : ∀ (cdv : Value) (A : Around) (outer : List PySem.Env) (s : Shared) (H : Hp) (E : XK), Room j (A.deeper (envOfC qual (defScope st) s.heap.objs.size f cdv)) → A.guards = some [] →
      PSs (cxOf CX0 P w K mg base N qual (defScope st) f cdv A outer s H E).nox (defBody st) (tS K ZF b)) :
    FnG P w K mg base CX0 (j + 1) f fd ps (spF K (fun _ => ZF) (runD k n b)) :=
  fn_runC F S hk hn fun cdv A outer s H E _ => hb cdv A outer s H E
end
section
variable {X : Cx} {Z : XZ} {pos : Pos} {a : Expr} {es : List Expr} {fr : Env → M (List W)} {x : Str} {p : Pos} {f : Addr} {fd : FuncData} {ps : List Str} {k : Nat} {F : List W → M W}
/-- f(a, ..) of an own def from which no error comes -/
theorem dcall (FO : FnG X.prog X.w X.K X.mg X.base CX0 k f fd ps (spF X.K (fun _ => ZF) F)) (hr : Room k X.A) (hG : X.A.guards = some []) (hg : Gl X x) (hm : X.mg x = some (.ref f)) (hk : PySem.W.keepIn X.K (.ref f) = true) (hb : Binds X.K fd ps [])
    (ha : PA X (a :: es) (tA X.K Z fr)) (hdb : (x == ("__debug__" : Str)) = false := by decide) (he : starEach (a :: es) X.env = (false, eval a X.env) :: starEach es X.env := by rfl) (hpl : (backTo pos (starEach es X.env)).any (·.1) = false := by rfl) :
    PE X (.Call (.Name x p) (a :: es) [] pos) (tE X.K Z (calM fr fun ws => noEx (F ws))) := by
  refine (peG FO hr hG hg hm hk hb .nil pass0 ha hdb he hpl).imp fun σ H Q h => ?_
  refine (tE.call h).mono fun vs H1 q => ?_
  rw [List.append_nil]
  obtain ⟨ws, S, ρ, R, rw, g⟩ := q
  exact ⟨ws, S, ρ, R, rw, noEx_gives (E' := fun _ _ => ∀ _ _, _ → _ → False) g⟩
theorem dcall0 (FO : FnG X.prog X.w X.K X.mg X.base CX0 k f fd ps (spF X.K (fun _ => ZF) F)) (hr : Room k X.A) (hG : X.A.guards = some []) (hg : Gl X x) (hm : X.mg x = some (.ref f)) (hk : PySem.W.keepIn X.K (.ref f) = true) (hb : Binds X.K fd ps [])
    (hdb : (x == ("__debug__" : Str)) = false := by decide) : PE X (.Call (.Name x p) [] [] pos) (tE X.K Z (calM nilM fun ws => noEx (F ws))) := by
  refine (peG0 FO hr hG hg hm hk hb .nil pass0 hdb).imp fun σ H Q h => ?_
  obtain ⟨δ, S, ρ, R, re, g⟩ := h
  exact ⟨[], S, ρ, R, .nil, noEx_gives (E' := fun _ _ => ∀ _ _, _ → _ → False) g⟩
/-! ### with keywords -/
theorem _root_.L2.PK.imp {e : List Keyword} {t t' : TA} (h : PK X e t) (hi : ∀ σ H Q, t' σ H Q → t σ H Q) : PK X e t' := ⟨fun pos pins s σ H Q I q => h.run pos pins s σ H Q I (hi _ _ _ q)⟩
variable {kws : List Keyword} {nm : Option Str} {kpos : Pos} {fa : Env → M W} {fk : Env → M (List W)}
theorem dk_nil : PK X [] (tA X.K Z nilM) := pk_nil.imp fun σ H Q h => tH.pure h fun _ _ _ _ _ => .nil
theorem tA.cons {σ : L2.St} {H : Hp} {Q : List V → Hp → Prop} (h : tA X.K Z (consM fa fk) σ H Q) : tCons (tE X.K Z fa) (tA X.K Z fk) σ H Q := by
  refine (tH.bind (Rα := RW X.K) (f := fa) (g := fun δ x => bd (fk δ) fun xs => pr (x :: xs)) h Stb.env).mono fun x H1 h1 => ?_
  have h2 := tH.bind (Rα := RWs X.K) (f := fun p : Env × W => fk p.1) (g := fun p xs => pr (p.2 :: xs)) h1 (Stb.env.p Stb.w)
  refine (tH.map (RA' := REnv X.K) (m := fk) (f := Prod.fst) (g := Prod.fst) h2 fun _ _ _ _ _ q => q.1).mono fun xs H2 h3 => ?_
  exact tH.pure h3 fun _ _ _ _ q => .cons q.1.2 q.2
theorem dk_cons (ha : PE X a (tE X.K Z fa)) (hr : PK X kws (tA X.K Z fk)) : PK X (⟨nm, a, kpos⟩ :: kws) (tA X.K Z (consM fa fk)) := (pk_cons ha hr).imp fun _ _ _ h => tA.cons h
/-- how a call with keywords binds, for values of the layer too -/
structure KB (K : PySem.W.Frag) (fd : FuncData) (ps ks : List Str) (g : List Value → List Value → List Value) (gV : List V → List V → List V) (gW : List W → List W → List W) : Prop where
  kb : KBinds K fd ps ks g gV
  w : ∀ (ρ : Pl) (H : Hp) (L : Addr → Prop) (ws zs : List W) (vs us : List V), RWs K ρ H L ws vs → RWs K ρ H L zs us → RWs K ρ H L (gW ws zs) (gV vs us)
abbrev calK (fr fk : Env → M (List W)) (gW : List W → List W → List W) (fo : List W → M W) : Env → M W := fun δ => bd (fr δ) fun xs => bd (fk δ) fun ys => fo (gW xs ys)
variable {ks : List Str} {g : List Value → List Value → List Value} {gV : List V → List V → List V} {gW : List W → List W → List W}
theorem tE.callK {σ : L2.St} {H : Hp} {Q : VK} {E : XK} (hw : ∀ (ρ : Pl) (H : Hp) (L : Addr → Prop) (ws zs : List W) (vs us : List V), RWs X.K ρ H L ws vs → RWs X.K ρ H L zs us → RWs X.K ρ H L (gW ws zs) (gV vs us))
    (h : tE X.K Z (calK fr fk gW fun ws => noEx (F ws)) σ H Q) : tCallK (spF X.K (fun _ => ZF) F) gV E (tA X.K Z fr) (tA X.K Z fk) σ H Q := by
  refine (tH.bind (Rα := RWs X.K) (f := fr) (g := fun δ xs => bd (fk δ) fun ys => noEx (F (gW xs ys))) h Stb.env).mono fun vs H1 h1 => ?_
  have h2 := tH.bind (Rα := RWs X.K) (f := fun p : Env × List W => fk p.1) (g := fun p ys => noEx (F (gW p.2 ys))) h1 (Stb.env.p Stb.ws)
  refine (tH.map (RA' := REnv X.K) (m := fk) (f := Prod.fst) (g := Prod.fst) h2 fun _ _ _ _ _ q => q.1).mono fun us H2 h3 => ?_
  obtain ⟨⟨⟨δ, ws⟩, zs⟩, S, ρ, R, ⟨⟨r0, r1⟩, r2⟩, gv⟩ := h3
  exact ⟨gW ws zs, S, ρ, R, hw _ _ _ _ _ _ _ r1 r2, noEx_gives (E' := fun _ _ => ∀ _ _, _ → _ → False) gv⟩
theorem dcallK (FO : FnG X.prog X.w X.K X.mg X.base CX0 k f fd ps (spF X.K (fun _ => ZF) F)) (hr : Room k X.A) (hG : X.A.guards = some []) (hg : Gl X x) (hm : X.mg x = some (.ref f)) (hk : PySem.W.keepIn X.K (.ref f) = true) (hb : KB X.K fd ps ks g gV gW)
    (ha : PA X (a :: es) (tA X.K Z fr)) (hkw : PK X kws (tA X.K Z fk)) (hall : (backToKw pos (keywordEach kws X.env)).all (·.1.isSome) = true := by rfl) (hks : (backToKw pos (keywordEach kws X.env)).filterMap (·.1) = ks := by rfl)
    (hdb : (x == ("__debug__" : Str)) = false := by decide) (he : starEach (a :: es) X.env = (false, eval a X.env) :: starEach es X.env := by rfl)
    (hpl : ((backTo pos (starEach (a :: es) X.env)).any (·.1) || (backToKw pos (keywordEach kws X.env)).any (·.1.isNone)) = false := by rfl) :
    PE X (.Call (.Name x p) (a :: es) kws pos) (tE X.K Z (calK fr fk gW fun ws => noEx (F ws))) :=
  (peGK FO hr hG hg hm hk hb.kb pass0 ha hkw hall hks hdb he hpl).imp fun _ _ _ h => tE.callK hb.w h
/-- f(k = v, ..) -/
theorem dcallK0 (FO : FnG X.prog X.w X.K X.mg X.base CX0 k f fd ps (spF X.K (fun _ => ZF) F)) (hr : Room k X.A) (hG : X.A.guards = some []) (hg : Gl X x) (hm : X.mg x = some (.ref f)) (hk : PySem.W.keepIn X.K (.ref f) = true) (hb : KB X.K fd ps ks g gV gW)
    (hkw : PK X kws (tA X.K Z fk)) (hall : (backToKw pos (keywordEach kws X.env)).all (·.1.isSome) = true := by rfl) (hks : (backToKw pos (keywordEach kws X.env)).filterMap (·.1) = ks := by rfl)
    (hdb : (x == ("__debug__" : Str)) = false := by decide) (hpl : ((backTo pos (starEach [] X.env)).any (·.1) || (backToKw pos (keywordEach kws X.env)).any (·.1.isNone)) = false := by rfl) :
    PE X (.Call (.Name x p) [] kws pos) (tE X.K Z (calK nilM fk gW fun ws => noEx (F ws))) := by
  refine ⟨fun pins s σ H Q I h => ?_⟩
  have h' := tE.callK (E := E0) hb.w h
  have h2 : tA X.K Z fk σ H (fun zs H2 => spF X.K (fun _ => ZF) F (gV [] zs) H2 Q E0) := by
    have h0 : tCallK (spF X.K (fun _ => ZF) F) gV E0 (tA X.K Z nilM) (tA X.K Z fk) σ H Q := h'
    unfold tCallK at h0
    obtain ⟨δ, S, ρ, R, re, gv⟩ := h0
    exact gv ρ H [] Ext.refl R .nil
  refine wpAny_Call_Name_kw (ld_glob I hg hm ?_ hdb)
  refine PySem.W.callWith_KW0 (h₀ := X.base) I.ok.mod.kin hk hall (thn (hkw.run pos pins s σ H _ I h2) fun ws s2 ⟨zs, H2, I2, rz, q2⟩ => ⟨I2.kIn, ?_⟩) hpl
  rw [hks]
  exact callGK FO hr hG hb.kb pass0 I2 (us := []) .nil rz q2
end
end DL
/-! DL9: chains as tests, ranges, pairs, stars, repr, dicts, stores by place. -/
namespace DL
open PySem PySem.Spec PyProof.Rows L2
section
variable {X : Cx} {Z : XZ} {pos : Pos} {a b c e : Expr} {es : List Expr} {fa fb fc : Env → M W} {fr : Env → M (List W)}
theorem dt_chain {op op' : CmpOp} {fo fo' : W → W → M W} (ho : OpR X (compareOp op) (r2M X.K Z fo)) (ho' : OpR X (compareOp op') (r2M X.K Z fo')) (ha : PE X a (tE X.K Z fa)) (hb : PE X b (tE X.K Z fb)) (hc : PE X c (tE X.K Z fc)) (hm : lastMarks [op, op'] [b, c] = false := by with_unfolding_all rfl) :
    PT X (.Compare a [op, op'] [b, c] pos) (tT X.K Z (valT (chainM fa fb fc fo fo'))) := by
  refine (pt_chain ho ho' ha hb hc hm).imp fun σ H Q h => ?_
  have h1 := tT.val h
  unfold tB at h1
  unfold tTest
  exact tE.chain h1

/-! ### ranges, pairs of two lists -/
def rng1M (ws : List W) : M (List W) := match ws with
  | [.d (.int n)] => if -(2 ^ 62) ≤ n ∧ n < 2 ^ 62 then pr ((List.range n.toNat).map fun i => .d (.int (0 + (i : Nat)))) else no
  | _ => no
def rng2M (ws : List W) : M (List W) := match ws with
  | [.d (.int l), .d (.int n)] => if -(2 ^ 62) ≤ l ∧ l < 2 ^ 62 ∧ -(2 ^ 62) ≤ n ∧ n < 2 ^ 62 then pr ((List.range (n - l).toNat).map fun i => .d (.int (l + (i : Nat)))) else no
  | _ => no
theorem di_rng1 {tg : Expr} {p : Pos} (hg : Gl X "range") (hm : X.mg "range" = none) (ha : PA X [a] (tA X.K Z fr)) (hs : starEach [a] X.env = [(false, eval a X.env)] := by rfl) : PI X tg (.Call (.Name "range" p) [a] [] pos) (tI X.K Z fun δ => bd (fr δ) rng1M) := by
  refine (pi_range1 hg hm ha hs).imp fun σ H R h => ?_
  obtain ⟨δ, S, ρ, r, re, g⟩ := h
  refine ⟨δ, S, ρ, r, re, gives_imp (gives_bd g) (fun ws S1 q ρ1 H1 vs e1 r1 rw => ?_) fun _ _ q => q⟩
  unfold rng1M at q
  split at q
  · split at q
    · rename_i n hb
      cases rw with
      | cons x y =>
        cases y; cases x
        exact ⟨n, rfl, hb.1, hb.2, q ρ1 H1 _ e1 r1 walks_rng⟩
    · exact q.elim
  · exact q.elim
theorem di_rng2 {tg : Expr} {p : Pos} (hg : Gl X "range") (hm : X.mg "range" = none) (ha : PA X [a, b] (tA X.K Z fr)) (hs : starEach [a, b] X.env = [(false, eval a X.env), (false, eval b X.env)] := by rfl) (hs2 : starEach [b] X.env = [(false, eval b X.env)] := by rfl) :
    PI X tg (.Call (.Name "range" p) [a, b] [] pos) (tI X.K Z fun δ => bd (fr δ) rng2M) := by
  refine (pi_range2 hg hm ha hs hs2).imp fun σ H R h => ?_
  obtain ⟨δ, S, ρ, r, re, g⟩ := h
  refine ⟨δ, S, ρ, r, re, gives_imp (gives_bd g) (fun ws S1 q ρ1 H1 vs e1 r1 rw => ?_) fun _ _ q => q⟩
  unfold rng2M at q
  split at q
  · split at q
    · rename_i l n hb
      cases rw with
      | cons x y =>
        cases y with
        | cons x2 y =>
          cases y; cases x; cases x2
          exact ⟨l, n, rfl, hb, q ρ1 H1 _ e1 r1 walks_rng⟩
    · exact q.elim
  · exact q.elim
/-- pairs of two lists -/
def zipD : List D → List D → List W
  | a :: as, b :: bs => .d (.tuple [a, b]) :: zipD as bs
  | _, _ => []
def zipM (ws : List W) : M (List W) := fun S => match ws with
  | [x, y] => match x, y with
    | .d (.list as), .d (.list bs) => .ok (zipD as bs) S
    | _, _ => .no
  | _ => .no
theorem zipD_at : ∀ {as bs : List D} {i : Nat} {w : W}, (zipD as bs)[i]? = some w → ∃ a b, as[i]? = some a ∧ bs[i]? = some b ∧ w = .d (.tuple [a, b])
  | [], _, i, w, h => by simp [zipD] at h
  | _ :: _, [], i, w, h => by simp [zipD] at h
  | a :: as, b :: bs, 0, w, h => by simp [zipD] at h; exact ⟨a, b, rfl, rfl, h.symm⟩
  | a :: as, b :: bs, i + 1, w, h => by
    obtain ⟨c, d, h1, h2, h3⟩ := zipD_at (as := as) (bs := bs) (i := i) (w := w) (by simpa [zipD] using h)
    exact ⟨c, d, by simpa using h1, by simpa using h2, h3⟩
theorem zipD_len : ∀ {as bs : List D}, (zipD as bs).length = min as.length bs.length
  | [], _ => by simp [zipD]
  | _ :: _, [] => by simp [zipD]
  | a :: as, b :: bs => by simp [zipD, zipD_len]
theorem sq_inj {K : PySem.W.Frag} {S : Sto} {ρ : Pl} {H : Hp} {a : Addr} {xs ys : List V} (h : H a = some (.lst xs)) (h' : SqL K H a ys) (hk : K.lookup a = none) : ys = xs := by
  rcases h' with (h' | ⟨o, h'⟩) | ⟨o, _, _, e, _⟩
  · rw [h] at h'; cases h'; rfl
  · rw [h] at h'; cases h'
  · rw [hk] at e; cases e
theorem walks_zip {K : PySem.W.Frag} {S : Sto} {ρ : Pl} {H : Hp} {a b : Addr} {xs ys : List V} {as bs : List D} (qa : QL K H (Live S ρ) a xs) (ra : RpA K H (Live S ρ) xs as) (qb : QL K H (Live S ρ) b ys) (rb : RpA K H (Live S ρ) ys bs) : Walks K (Itz K a b) (zipD as bs) S ρ H := by
  intro i S' ρ' H' ex r
  have qa' : QL K H' (Live S' ρ') a xs := qa.ext ex.stabL ex.newL
  have qb' : QL K H' (Live S' ρ') b ys := qb.ext ex.stabL ex.newL
  have ra' : RpA K H' (Live S' ρ') xs as := RpA.ext ex.stabL ex.newL _ _ ra
  have rb' : RpA K H' (Live S' ρ') ys bs := RpA.ext ex.stabL ex.newL _ _ rb
  refine ⟨fun w hw => ?_, fun hl => ⟨xs, ys, qa'.sq, qb'.sq, by rw [zipD_len] at hl; rw [ra'.length, rb'.length]; omega⟩⟩
  obtain ⟨da, db, ha, hb, rfl⟩ := zipD_at hw
  obtain ⟨x, hx, rx⟩ := Paired.at' (RpA.paired (ρ := ρ') ra') (i := i) (x := .d da) (by rw [List.getElem?_map, ha]; rfl)
  obtain ⟨y, hy, ry⟩ := Paired.at' (RpA.paired (ρ := ρ') rb') (i := i) (x := .d db) (by rw [List.getElem?_map, hb]; rfl)
  refine ⟨⟨xs, ys, x, y, qa'.sq, qb'.sq, hx, hy⟩, ?_⟩
  rintro v H2 ⟨T, x', y', hv, hT, hH, h1, h2⟩
  subst hv
  subst hH
  have e1 := h1 xs qa'.sq
  have e2 := h2 ys qb'.sq
  rw [hx] at e1; cases e1
  rw [hy] at e2; cases e2
  exact ⟨Ext.frz hT, r.frz hT, newT_rep r hT (.cons rx (.cons ry .nil))⟩
theorem di_zip {p tpos : Pos} {elts : List Expr} {kk : Nat} (hg : Gl X "zip") (hm : X.mg "zip" = none) (ha : PA X [a, b] (tA X.K Z fr))
    (hs : starEach [a, b] X.env = (false, eval a X.env) :: starEach [b] X.env := by rfl) (hpl : (backTo pos (starEach [b] X.env)).any (·.1) = false := by rfl) :
    PI X (.Tuple elts kk tpos) (.Call (.Name "zip" p) [a, b] [] pos) (tI X.K Z fun δ => bd (fr δ) zipM) := by
  refine (pi_zip hg hm ha hs hpl).imp fun σ H R h => ?_
  obtain ⟨δ, S, ρ, r, re, g⟩ := h
  refine ⟨δ, S, ρ, r, re, gives_imp (gives_bd g) (fun ws S1 q ρ1 H1 vs e1 r1 rw => ?_) fun _ _ q => q⟩
  unfold zipM at q
  split at q
  · split at q
    · rename_i as bs
      cases rw with
      | cons x y =>
        cases y with
        | cons x2 y =>
          cases y
          cases x with
          | lst qa ra =>
            cases x2 with
            | lst qb rb => exact ⟨_, _, _, _, rfl, qa.sq, qb.sq, q ρ1 H1 _ e1 r1 (walks_zip qa ra qb rb)⟩
    · exact q.elim
  · exact q.elim
/-! ### repr of plain data -/
mutual
theorem noDict_of : ∀ (d : D), nd d = true → d.hasDict = false
  | .none, _ => by simp only [PyData.hasDict]
  | .bool _, _ => by simp only [PyData.hasDict]
  | .int _, _ => by simp only [PyData.hasDict]
  | .str _, _ => by simp only [PyData.hasDict]
  | .list ds, h => by simpa only [PyData.hasDict] using noDict_all ds (by simpa only [nd] using h)
  | .tuple ds, h => by simpa only [PyData.hasDict] using noDict_all ds (by simpa only [nd] using h)
  | .dict _, h => by simp [nd] at h
theorem noDict_all : ∀ (ds : List D), ndA ds = true → PyData.hasDictAll ds = false
  | [], _ => by simp only [PyData.hasDictAll]
  | d :: ds, h => by
    simp only [ndA, Bool.and_eq_true] at h
    simp only [PyData.hasDictAll, Bool.or_eq_false_iff]
    exact ⟨noDict_of d h.1, noDict_all ds h.2⟩
end
def reprM (ws : List W) : M W := match ws with
  | [.d d] => if nd d = true ∧ d.showable = true ∧ d.depth ≤ 60 ∧ d.shown.length ≤ sizeLine ∧ okS d.shown = true then pr (.d (.str d.shown)) else no
  | _ => no
theorem c_repr (hG : X.A.guards = some []) (hu : X.A.units + 66 < cLine) : CallR X (.builtin "repr") (rcM X.K Z reprM) := by
  rintro pins s σ H xs us Q I rv ⟨ws, S, ρ, R, rw, g⟩
  unfold reprM at g
  split at g
  · rename_i d
    split at g
    · rename_i hc
      obtain ⟨c0, c1, c2, c3, c4⟩ := hc
      cases rw with
      | cons x y =>
        cases y
        have hnd := noDict_of _ c0
        obtain ⟨u, rfl, ru⟩ := rv.one
        obtain ⟨as, r1⟩ := Dp.reads I _ _ _ (Rp.dp _ _ c0 x) ru
        have fin : ∀ h' t tk, (∀ b o, s.heap.get? b = some o → h'.get? b = some o) → EP X pins σ Q (.str d.shown t) { s with heap := h', toks := tk } := fun h' t tk hk =>
          ⟨.str d.shown, H, I.kept hk, ⟨t, rfl⟩, g ρ H _ Ext.refl R (.str _ c4)⟩
        cases hd : isDisplay d with
        | true =>
          obtain ⟨p, rfl⟩ := isRef_of_reads r1 hd
          exact repr_of_reads' r1 c1 (PyData.noDict_hsm hnd) hG (by omega) (fun _ _ e => e) fin c3
        | false =>
          cases r1 with
          | none => exact PySem.P.repr_of_none (fin s.heap _ _ fun _ _ e => e)
          | bool b => exact PySem.P.repr_of_bool (fin s.heap _ _ fun _ _ e => e)
          | int i t => exact PySem.P.repr_of_int (by simpa [PyData.showable] using c1) (fin s.heap _ _ fun _ _ e => e)
          | str z t => exact PySem.P.repr_of_str (fin s.heap _ _ fun _ _ e => e) (by simpa only [PyData.shown] using c3)
          | list _ _ _ _ => cases hd
          | tuple _ _ _ _ => cases hd
          | dict _ _ _ _ _ => cases hnd
    · exact g.elim
  · exact g.elim
end
end DL
/-! DL10: stars, two names at once, turned round, stores by place, dicts. -/
namespace DL
open PySem PySem.Spec PyProof.Rows L2

def itemsM (w : W) : M (List W) := fun S => match seqOf w S with
  | some (_, ws) => .ok ws S
  | none => .no
abbrev starM (fa : Env → M W) (fr : Env → M (List W)) : Env → M (List W) := fun δ => bd (fa δ) fun x => bd (itemsM x) fun xs => bd (fr δ) fun ys => pr (xs ++ ys)
section
variable {X : Cx} {Z : XZ} {pos : Pos} {a b c e o : Expr} {es : List Expr} {fa fb fc : Env → M W} {fr : Env → M (List W)}
theorem dastar {p : Pos} (ha : PE X a (tE X.K Z fa)) (hr : PA X es (tA X.K Z fr)) (hs : starEach (.Starred a p :: es) X.env = (true, eval a X.env) :: starEach es X.env := by rfl) : PA X (.Starred a p :: es) (tA X.K Z (starM fa fr)) := by
  refine (StX.pa_star ha hr hs).imp fun σ H Q h => ?_
  refine (tH.bind (Rα := RW X.K) (f := fa) (g := fun δ x => bd (itemsM x) fun xs => bd (fr δ) fun ys => pr (xs ++ ys)) h Stb.env).mono fun x H1 ⟨⟨δ, w⟩, S, ρ, R, ⟨r0, r1⟩, g⟩ => ?_
  have g := gives_bd g
  change Gives (itemsM w S) _ _ at g
  unfold itemsM at g
  split at g
  · rename_i k ws ew
    obtain ⟨p, xs, rfl, rws, hq⟩ := seqOf_rep ew R r1
    refine ⟨p, xs, rfl, ?_, ?_⟩
    · cases k with
      | true => rw [if_pos rfl] at hq; exact .inr (.of hq)
      | false => rw [if_neg Bool.false_ne_true] at hq; exact .inl hq
    · refine ⟨δ, S, ρ, R, r0, gives_imp (gives_bd g) (fun ys S1 q ρ1 H2 us e1 r1 rw => ?_) fun _ _ q => q⟩
      exact q ρ1 H2 _ e1 r1 (RWs.app (rws.ext e1) rw)
  · exact g.elim
/-! ### a, b = x, y -/
def parM (i j : Nat) (fr : Env → M (List W)) : Env → M Fl := fun δ => bd (fr δ) fun ws => match ws with
  | [x, y] => pr (.nx ((δ.set i (some x)).set j (some y)))
  | _ => no
theorem ds_par {i j : Nat} {x y : Str} {px py pt : Pos} {kt k2 pt2} (hc : X.calm = true) (hN : X.N.Nodup) (hi : X.N[i]? = some x) (hj : X.N[j]? = some y) (hij : i ≠ j)
    (hx : X.env.scope.names.lookup x = some .local) (hy : X.env.scope.names.lookup y = some .local) (ha : PA X [a, b] (tA X.K Z fr))
    (hw : swappedStores [.Tuple [.Name x px, .Name y py] kt pt] (.Tuple [a, b] k2 pt2) X.env = pure (some [x, y]) := by rfl)
    (hs : swapsWithSole [.Tuple [.Name x px, .Name y py] kt pt] (.Tuple [a, b] k2 pt2) pos.line X.env = pure false := by rfl) :
    PS X (.Assign [.Tuple [.Name x px, .Name y py] kt pt] (.Tuple [a, b] k2 pt2) pos) (tS X.K Z (parM i j fr)) := by
  refine (ps_par hc hN hi hj hij hx hy ha hw hs).imp fun D σ H h => ?_
  refine (tS.bind (Rα := RWs X.K) (f := fr) h).mono fun vs H1 ⟨δ, ws, S, ρ, R, re, rw, g⟩ => ?_
  split at g
  · cases rw with
    | cons r1 q =>
      cases q with
      | cons r2 q =>
        cases q
        exact ⟨_, _, rfl, g ρ H1 Ext.refl R _ (REnv.set (REnv.set re r1) r2)⟩
  · exact g.elim
/-! ### turned round -/
def revM (w : W) : M W := fun S => match w with
  | .d (.list ds) => .ok (.d (.list ds.reverse)) S
  | .d (.tuple ds) => .ok (.d (.tuple ds.reverse)) S
  | _ => .no
theorem rev_places (n : Nat) : Builtin.Slice.sliceAdjust none none (-1) (n : Int) = ((n : Int) - 1, -1) ∧ Builtin.Slice.slicePlaces ((n : Int) - 1) (-1) (-1) = n := by
  refine ⟨?_, ?_⟩
  · unfold Builtin.Slice.sliceAdjust
    simp
  · unfold Builtin.Slice.slicePlaces
    simp
    try omega
theorem rev_picked (xs : Array Value) : ((List.range xs.size).filterMap fun (m : Nat) => xs[((xs.size : Int) - 1 + (m : Int) * (-1)).toNat]?).toArray = xs.toList.reverse.toArray := by
  congr 1
  have e : (fun (m : Nat) => xs[((xs.size : Int) - 1 + (m : Int) * (-1)).toNat]?) = (fun i => xs[i]?) ∘ fun m => xs.size - 1 - m := by
    funext m
    have : ((xs.size : Int) - 1 + (m : Int) * (-1)).toNat = xs.size - 1 - m := by omega
    show xs[((xs.size : Int) - 1 + (m : Int) * (-1)).toNat]? = xs[xs.size - 1 - m]?
    rw [this]
  rw [e, ← List.filterMap_map, PySem.W.krv_range, List.filterMap_reverse, PySem.W.krv_all]
theorem tup_rev {prog : Program} {w : World} {A : Around} {E : Value → Shared → Prop} {s : Shared} {t sl : Addr} {items : Array Value} {vl vu vs : Value} {Q : Value → Shared → Prop} (ht : IsTup s.heap t items) (hs : s.heap.IsSliceOf sl vl vu vs) (pl : IsPart vl none) (pu : IsPart vu none) (ps : IsPart vs (some (-1)))
    (h : Q (.ref s.heap.objs.size) { s with heap := s.heap.push { cls := .type "tuple", data := .seq items.toList.reverse.toArray } }) (hsz : items.size ≤ sizeLine) : wpAny (model prog w) A (getItem (.ref t) (.ref sl)) Q E s := by
  have hfit : sizeOk (.seq items.toList.reverse.toArray) := by
    show items.toList.reverse.toArray.size ≤ sizeLine
    rw [List.size_toArray, List.length_reverse, Array.length_toList]
    exact hsz
  obtain ⟨os, hos, hcs, hds⟩ := id hs
  have hTs : s.TypeIs (.ref sl) "slice" := ⟨os, hos, hcs⟩
  unfold getItem
  try with_reducible refine wpAny_holding ?_
  first | refine wpAny_bind (wpAny_pure ?_) | skip
  refine wpAny_bind (wpAny_sequenceKey ht.typeIs (by decide) ?_)
  refine wpAny_bind (wpAny_callSpecial?_slot (name := Str.ofString "__getitem__") ht.typeIs PyProof.Rows.slot_tuple_getitem
    (wpAny_call_entry PyProof.Rows.slot_tuple_getitem ht.typeIs entry_tuple_getitem ?_ (args_tuple_getitem _ _)))
  show wpAny _ _ (Builtin.Tuple.tupleItemsOf (.ref t) >>= _) _ _ s
  refine wpAny_bind (tupleItemsOf_ ht ?_)
  refine wpAny_bind (wpAny_typeOf hTs ?_)
  rw [if_pos (by decide)]
  refine wpAny_bind (m := Builtin.Slice.sliceApplied _ _) ?_
  unfold Builtin.Slice.sliceApplied Builtin.Slice.sliceFields
  refine wpAny_bind (wpAny_bind (wpAny_field hos hds (x := vl) rfl (wpAny_bind (wpAny_field hos hds (x := vu) rfl (wpAny_bind (wpAny_field hos hds (x := vs) rfl (wpAny_pure ?_)))))))
  refine wpAny_bind (HT.slicePart_ ps ?_)
  show wpAny _ _ (if ((-1 : Int) == 0) = true then _ else _) _ _ s
  rw [if_neg (by decide)]
  refine wpAny_bind (HT.slicePart_ pl (wpAny_bind (HT.slicePart_ pu (wpAny_bind (wpAny_pure ?_)))))
  show wpAny _ _ (match Builtin.Slice.sliceAdjust none none (-1) (items.size : Int) with | (lo, hi) => pure (lo, (-1 : Int), Builtin.Slice.slicePlaces lo hi (-1))) _ _ s
  rw [(rev_places items.size).1]
  show wpAny _ _ (pure ((items.size : Int) - 1, (-1 : Int), Builtin.Slice.slicePlaces ((items.size : Int) - 1) (-1) (-1))) _ _ s
  rw [(rev_places items.size).2]
  refine wpAny_pure ?_
  show wpAny _ _ (if ((items.size : Int) - 1 == 0 && (-1 : Int) == 1 && items.size == items.size) = true then _ else _) _ _ s
  rw [if_neg (by simp), rev_picked]
  first
    | exact wpAny_bind (m := Builtin.Tuple.tupleExact _) (wpAny_newObj_type (wpAny_pure ⟨_, rfl, wpAny_pure h⟩) hfit)
    | exact wpAny_bind (m := Builtin.Tuple.tupleExact _) (wpAny_newObj_type (wpAny_bind (wpAny_pure (wpAny_pure ⟨_, rfl, wpAny_pure h⟩))) hfit)
    | exact wpAny_bind (wpAny_bind (m := Builtin.Tuple.tupleExact _) (wpAny_newObj_type (wpAny_pure (wpAny_pure ⟨_, rfl, wpAny_pure h⟩)) hfit))
    | exact wpAny_bind (wpAny_bind (m := Builtin.Tuple.tupleExact _) (wpAny_newObj_type (wpAny_pure ⟨_, rfl, wpAny_pure h⟩) hfit))
theorem RpA.rev {K : PySem.W.Frag} {H : Hp} {L : Addr → Prop} {ds : List D} {vs : List V} (h : RpA K H L vs ds) : RpA K H L vs.reverse ds.reverse := by
  have key : ∀ (ds : List D) (vs : List V), RpA K H L vs ds → RpA K H L vs.reverse ds.reverse := fun ds => by
    induction ds with
    | nil => intro vs h; cases h; exact .nil
    | cons d ds ih =>
      intro vs h
      cases h with
      | cons a b =>
        rw [List.reverse_cons, List.reverse_cons]
        exact (ih _ b).app (.cons a .nil)
  exact key _ _ h
theorem drev {k : Nat} {p1 p2 p3 : Pos} (he : PE X a (tE X.K Z fa)) : PE X (.Subscript a (.Slice none none (some (.UnaryOp .USub (.Constant (.int 1) k p1) p2)) p3) pos) (tE X.K Z fun δ => bd (fa δ) revM) := by
  refine ⟨fun pins s σ H Q I h => ?_⟩
  have h' := (tH.bind (Rα := RW X.K) (f := fa) (g := fun _ w => revM w) h Stb.env)
  refine Subscript_ (thn (he.run pins s σ H _ I h') fun v s1 ⟨x, H1, I1, r1, ⟨⟨δ, w⟩, S, ρ, R, ⟨_, rw⟩, g⟩⟩ => ?_)
  change Gives (revM w S) _ _ at g
  have hst : PO X (some (.UnaryOp .USub (.Constant (.int 1) k p1) p2)) (tPart (tUn (rU fun i => .int (-i)) (tC (.int 1)))) := po_some (pe_un un_neg pe_int)
  refine wpAny_Slice (thn (po_none.run pins s1 σ H1 (fun o H2 => o = none ∧ H2 = H1) I1 ⟨rfl, rfl⟩) fun vl s2 ⟨l, H2, I2, pl, el, e2⟩ => ?_)
  subst el e2
  refine thn (po_none.run pins s2 σ H2 (fun o H3 => o = none ∧ H3 = H2) I2 ⟨rfl, rfl⟩) fun vu s3 ⟨u, H3, I3, pu, eu, e3⟩ => ?_
  subst eu e3
  refine thn (hst.run pins s3 σ H3 (fun o H4 => o = some (-1) ∧ H4 = H3) I3 ⟨1, rfl, -1, rfl, rfl, rfl⟩) fun vs s4 ⟨o, H4, I4, ps, eo, e4⟩ => ?_
  subst eo e4
  have I5 : Inv X pins σ H4 { s4 with heap := s4.heap.push { cls := .type "slice", data := .fields #[vl, vu, vs] } } := I4.kept (t' := s4.toks) fun b ob q => Heap.get?_push_of_some _ q
  unfold revM at g
  split at g
  · rename_i ds
    cases rw with
    | lst q ra =>
      rename_i ad xs
      cases r1
      obtain ⟨its, r, ht, hz⟩ := I5.list q.sq
      have hlen := r.length
      show wpAny (model X.prog X.w) X.A (subscriptTail a (.Slice none none (some (.UnaryOp .USub (.Constant (.int 1) k p1) p2)) p3) (.ref ad) (.ref s4.heap.objs.size)) (EP X pins σ Q) X.xe { s4 with heap := s4.heap.push { cls := .type "slice", data := .fields #[vl, vu, vs] } }
      refine tail_any (ops := [.ref ad, .ref s4.heap.objs.size]) ht.isList.typeIs (PySem.slot_list_getitem.lookup) ?_ (by with_unfolding_all rfl)
      refine wpAny_getItem_list_slice ht.isList (Heap.IsSliceOf.new _ vl vu vs) pl pu ps (by decide) ?_ (by rw [List.size_toArray]; omega)
      rw [PySem.W.krv_pick]
      have hp := I5.hok.fresh (Nat.le_refl _)
      refine ⟨.ref _, _, I5.laid (t' := s4.toks) (o := .lst xs.reverse) (fun b ob q => Heap.get?_push_of_some _ q) (Nat.le_refl _) ?_, rfl, g ρ _ _ (Ext.frz hp) (R.frz hp) (newL_rep R hp ra.rev)⟩
      refine ⟨by rw [List.length_reverse]; exact hz, its.reverse, 0, ?_, Heap.get?_push_size _ rfl⟩
      exact r.reverse
  · rename_i ds
    cases rw with
    | tup q ra =>
      rename_i ad xs
      cases r1
      obtain ⟨its, r, ht, hz⟩ := I5.tuple q.sq
      have hlen := r.length
      show wpAny (model X.prog X.w) X.A (subscriptTail a (.Slice none none (some (.UnaryOp .USub (.Constant (.int 1) k p1) p2)) p3) (.ref ad) (.ref s4.heap.objs.size)) (EP X pins σ Q) X.xe { s4 with heap := s4.heap.push { cls := .type "slice", data := .fields #[vl, vu, vs] } }
      refine tail_any (ops := [.ref ad, .ref s4.heap.objs.size]) ht.typeIs PyProof.Rows.slot_tuple_getitem.lookup ?_ (by with_unfolding_all rfl)
      refine tup_rev ht (Heap.IsSliceOf.new _ vl vu vs) pl pu ps ?_ (by rw [List.size_toArray]; omega)
      have hp := I5.hok.fresh (Nat.le_refl _)
      refine ⟨.ref _, _, I5.laid (t' := s4.toks) (o := .tup xs.reverse) (fun b ob q => Heap.get?_push_of_some _ q) (Nat.le_refl _) ?_, rfl, g ρ _ _ (Ext.frz hp) (R.frz hp) (newT_rep R hp ra.rev)⟩
      refine ⟨by rw [List.length_reverse]; exact hz, its.reverse, r.reverse, IsTup.new _ _⟩
  · exact g.elim
end
end DL
/-! DL11: dicts of the store, stores by place. -/
namespace DL
open PySem PySem.Spec PyProof.Rows L2

def keyOf : D → Option Key
  | .int i => some (.inl i)
  | .str x => some (.inr x)
  | _ => none
def kD : Key → D
  | .inl i => .int i
  | .inr x => .str x
def putW (kvs : List (Key × W)) (k : Key) (v : W) : List (Key × W) :=
  if (kvs.any fun kv => decide (kv.1 = k)) = true then kvs.map (fun kv => if kv.1 = k then (kv.1, v) else kv) else kvs ++ [(k, v)]
abbrev RKV (K : PySem.W.Frag) (ρ : Pl) (H : Hp) (L : Addr → Prop) : List (Key × W) → List (Key × V) → Prop := Paired fun p q => p.1 = q.1 ∧ okK p.1 = true ∧ RW K ρ H L p.2 q.2
section
variable {K : PySem.W.Frag} {S : Sto} {ρ : Pl} {H : Hp} {L : Addr → Prop}
theorem keyOf_rep {d : D} {k : Key} {v : V} (h : keyOf d = some k) (r : Rp K H L v d) : v = kV k ∧ okK k = true := by
  cases d with
  | int i => cases h; cases r; exact ⟨rfl, rfl⟩
  | str x => cases h; cases r with | str _ o => exact ⟨rfl, o⟩
  | _ => cases h
theorem RKV.upd {k : Key} {w : W} {v : V} (rw : RW K ρ H L w v) : ∀ {kvs : List (Key × W)} {kus : List (Key × V)}, RKV K ρ H L kvs kus → RKV K ρ H L (kvs.map (fun kv => if kv.1 = k then (kv.1, w) else kv)) (kus.map (fun kv => if kv.1 = k then (kv.1, v) else kv))
  | _, _, .nil => .nil
  | _, _, .cons (a := p) (b := q) a t => by
    refine .cons ?_ (RKV.upd rw t)
    obtain ⟨a1, a2, a3⟩ := a
    dsimp only
    rw [← a1]
    by_cases e : p.1 = k
    · rw [if_pos e, if_pos e]; exact ⟨a1 ▸ rfl, a2, rw⟩
    · rw [if_neg e, if_neg e]; exact ⟨a1, a2, a3⟩
theorem RKV.one {k : Key} {w : W} {v : V} (ho : okK k = true) (rw : RW K ρ H L w v) : ∀ {kvs : List (Key × W)} {kus : List (Key × V)}, RKV K ρ H L kvs kus → RKV K ρ H L (kvs ++ [(k, w)]) (kus ++ [(k, v)])
  | _, _, .nil => .cons ⟨rfl, ho, rw⟩ .nil
  | _, _, .cons a t => .cons a (RKV.one ho rw t)
theorem RKV.any {k : Key} : ∀ {kvs : List (Key × W)} {kus : List (Key × V)}, RKV K ρ H L kvs kus → (kvs.any fun kv => decide (kv.1 = k)) = (kus.any fun kv => decide (kv.1 = k))
  | _, _, .nil => rfl
  | _, _, .cons a t => by rw [List.any_cons, List.any_cons, RKV.any t, a.1]
theorem RKV.put {kvs : List (Key × W)} {kus : List (Key × V)} {k : Key} {w : W} {v : V} (r : RKV K ρ H L kvs kus) (ho : okK k = true) (rw : RW K ρ H L w v) : RKV K ρ H L (putW kvs k w) (putK kus k v) := by
  unfold putW putK
  rw [RKV.any r]
  split
  · exact RKV.upd rw r
  · exact RKV.one ho rw r
theorem dct_at {n : Nat} {kvs : List (Key × W)} {v : V} (e : S[n]? = some (.dct kvs)) (R : Rel K S ρ H) (r : RW K ρ H (Live S ρ) (.r n) v) : ∃ a kus, v = .ref a ∧ ρ.adr[n]? = some a ∧ H a = some (.dK kus) ∧ RKV K ρ H (Live S ρ) kvs kus := by
  obtain ⟨a, h1, h2⟩ := r
  obtain ⟨a', ho, y1, y2, kus, y3, y4⟩ := R.ob n _ e rfl
  rw [h1] at y1; cases y1
  subst y3
  exact ⟨a, kus, h2, h1, y2, y4⟩
end
def newDM (_ : Env) : M W := fun S => .ok (.r S.length) (S ++ [.dct []])
def setItemM (o i y : W) : M Unit := fun S => match o, i with
  | .r n, .d d => match S[n]? with
    | some (.lst xs) => match d with
      | .int k => match ixN xs.length k with
        | some j => .ok () (S.set n (.lst (xs.set j y)))
        | none => .no
      | _ => .no
    | some (.dct kvs) => match keyOf d with
      | some k => if kvs.length < sizeLine then .ok () (S.set n (.dct (putW kvs k y))) else .no
      | none => .no
    | _ => .no
  | _, _ => .no
theorem RWs.set {K : PySem.W.Frag} {ρ : Pl} {H : Hp} {L : Addr → Prop} {w : W} {v : V} (rw : RW K ρ H L w v) : ∀ {ws : List W} {vs : List V} (j : Nat), RWs K ρ H L ws vs → RWs K ρ H L (ws.set j w) (vs.set j v)
  | _, _, _, .nil => .nil
  | _, _, 0, .cons a b => .cons rw b
  | _, _, j + 1, .cons a b => .cons a (RWs.set rw j b)
section
variable {X : Cx} {Z : XZ} {pos : Pos} {a b c o i : Expr} {es : List Expr} {fa fo fi fv : Env → M W} {fr : Env → M (List W)}
theorem dnewd : PE X (.Dict [] [] pos) (tE X.K Z newDM) := pe_dnewK.imp fun σ H Q h p hp => by
  obtain ⟨δ, S, ρ, R, re, g⟩ := h
  refine g (ρ.add p) _ _ (Ext.new R hp) (Rel.new R hp ⟨[], rfl, .nil⟩) ⟨p, ?_, rfl⟩
  show (ρ.adr ++ [p])[S.length]? = some p
  rw [← R.len, List.getElem?_append_right (Nat.le_refl _)]
  simp
def tSet (K : PySem.W.Frag) (Z : XZ) : TSet := fun o i v H Q => tH K Z (rP (RW K) (rP (RW K) (RW K))) (rE (α := Unit)) (fun p => setItemM p.1 p.2.1 p.2.2) (o, (i, v)) H fun _ H' => Q H'
theorem s_set (hu : X.A.units + 1 < cLine) : PSet X (tSet X.K Z) := by
  rintro pins s σ H o i v ov iv u Q I ro ri rv ⟨⟨w1, w2, w3⟩, S, ρ, R, ⟨r1, r2, r3⟩, g⟩
  change Gives (setItemM w1 w2 w3 S) _ _ at g
  unfold setItemM at g
  split at g
  · rename_i n d
    split at g
    · rename_i xs e
      split at g
      · rename_i k
        split at g
        · rename_i j ej
          obtain ⟨p, vs, rfl, h1, h2, h3⟩ := lst_at e R r1
          cases r2
          have hn := Paired.length h3
          refine set_list pins s σ H _ _ v ov iv u Q I ro ri rv ⟨p, vs, k, j, rfl, rfl, h2, by rw [← hn]; exact ej, ?_⟩
          exact g ρ _ () (Ext.put e rfl h1) (R.put e rfl h1 ⟨_, rfl, RWs.set r3 j h3⟩) rfl
        · exact g.elim
      · exact g.elim
    · rename_i kvs e
      split at g
      · rename_i k ek
        split at g
        · rename_i hl
          obtain ⟨p, kus, rfl, h1, h2, h3⟩ := dct_at e R r1
          obtain ⟨rfl, ho⟩ := keyOf_rep ek r2
          have hn := Paired.length h3
          obtain rfl : ov = Value.ref p := ro
          refine d_setItem hu I (DPut.k h2 (by omega)) ri rv fun s' I' => ⟨_, I', ?_⟩
          exact g ρ _ () (Ext.put e rfl h1) (R.put e rfl h1 ⟨_, rfl, h3.put ho r3⟩) rfl
        · exact g.elim
      · exact g.elim
    · exact g.elim
  · exact g.elim
/-- o[i] = e -/
def subSM (fv fo fi : Env → M W) : Env → M Fl := fun δ => bd (fv δ) fun v => bd (fo δ) fun o => bd (fi δ) fun i => bd (setItemM o i v) fun _ => pr (.nx δ)
theorem ds_sub {pos' : Pos} (hu : X.A.units + 1 < cLine) (hv : PE X a (tE X.K Z fv)) (ho : PE X o (tE X.K Z fo)) (hi : PE X i (tE X.K Z fi))
    (ha : ∀ v, assign (.Subscript o i pos') X.env v = (do
      let ov ← holding [v] (eval o X.env)
      let iv ← holding [v, ov] (eval i X.env)
      standAt pos'
      holding [v, ov, iv] (setItem ov iv v)
      release [v, ov, iv] []) := by intro _; rfl)
    (hs : swapsWithSole [.Subscript o i pos'] a pos.line X.env = pure false := by rfl) (hw : swappedStores [.Subscript o i pos'] a X.env = pure none := by rfl)
    (h1 : (assignEach [.Subscript o i pos'] X.env).map (·.2) = [assign (.Subscript o i pos') X.env] := by rfl) :
    PS X (.Assign [.Subscript o i pos'] a pos) (tS X.K Z (subSM fv fo fi)) := by
  refine (ps_asg hv (pg_sub ho hi (s_set (Z := Z) hu) ha) hs hw h1).imp fun D σ H h => ?_
  refine (tS.bind (Rα := RW X.K) (f := fv) (g := fun δ v => bd (fo δ) fun o => bd (fi δ) fun i => bd (setItemM o i v) fun _ => pr (.nx δ)) h).mono fun v H1 ⟨δ, wv, S, ρ, R, re, rv, g⟩ => ?_
  refine ⟨δ, S, ρ, R, re, gives_imp (gives_bd g) (fun wo S1 g1 ρ1 H2 ov e1 R1 ro => ?_) fun _ _ q => q⟩
  refine ⟨δ, S1, ρ1, R1, Stb.env _ _ _ _ _ _ _ _ re e1, gives_imp (gives_bd g1) (fun wi S2 g2 ρ2 H3 iv e2 R2 ri => ?_) fun _ _ q ρ2 H3 e2 R2 => q ρ2 H3 (e1.trans e2) R2⟩
  refine ⟨(wo, wi, wv), S2, ρ2, R2, ⟨ro.ext e2, ri, (rv.ext e1).ext e2⟩, gives_imp (gives_bd g2) (fun u S3 g3 ρ3 H4 _ e3 R3 _ => ?_) fun _ _ q ρ3 H4 e3 R3 => q ρ3 H4 ((e1.trans e2).trans e3) R3⟩
  exact g3 ρ3 H4 ((e1.trans e2).trans e3) R3 σ (Stb.env _ _ _ _ _ _ _ _ re ((e1.trans e2).trans e3))
/-- list(d), list(xs) -/
def listDM (ws : List W) : M W := fun S => match ws with
  | [.r n] => match S[n]? with
    | some (.dct kvs) => .ok (.d (.list (kvs.map fun kv => kD kv.1))) S
    | _ => listM ws S
  | _ => listM ws S
theorem keys_rep {K : PySem.W.Frag} {ρ : Pl} {H : Hp} {L : Addr → Prop} {kvs : List (Key × W)} {kus : List (Key × V)} (r : RKV K ρ H L kvs kus) : RpA K H L (kus.map fun kv => kV kv.1) (kvs.map fun kv => kD kv.1) := by
  induction r with
  | nil => exact .nil
  | @cons p q ps qs a _ ih =>
    refine .cons ?_ ih
    obtain ⟨a1, a2, _⟩ := a
    dsimp only
    rw [← a1]
    cases e : p.1 with
    | inl i => exact .int i
    | inr x => rw [e] at a2; exact .str x a2
theorem c_listD (hc : X.calm = true) : CallR X (.type "list") (rcM X.K Z listDM) := by
  rintro pins s σ H xs us Q I rv ⟨ws, S, ρ, R, rw, g⟩
  unfold listDM at g
  split at g
  · rename_i n
    split at g
    · rename_i kvs e
      cases rw with
      | cons x y =>
        cases y
        obtain ⟨p, kus, rfl, h1, h2, h3⟩ := dct_at e R x
        exact call_list_dK hc pins s σ H _ us Q I rv ⟨p, kus, rfl, h2, fun q hq => g ρ _ _ (Ext.frz hq) (R.frz hq) (newL_rep R hq (keys_rep h3))⟩
    · exact c_list pins s σ H xs us Q I rv ⟨_, S, ρ, R, rw, g⟩
  · exact c_list pins s σ H xs us Q I rv ⟨_, S, ρ, R, rw, g⟩
def lenDM (ws : List W) : M W := fun S => match ws with
  | [.r n] => match S[n]? with
    | some (.dct kvs) => .ok (.d (.int kvs.length)) S
    | _ => lenM ws S
  | _ => lenM ws S
theorem c_lenD : CallR X (.builtin "len") (rcM X.K Z lenDM) := by
  rintro pins s σ H xs us Q I rv ⟨ws, S, ρ, R, rw, g⟩
  unfold lenDM at g
  split at g
  · rename_i n
    split at g
    · rename_i kvs e
      cases rw with
      | cons x y =>
        cases y
        obtain ⟨p, kus, rfl, h1, h2, h3⟩ := dct_at e R x
        have hn := Paired.length h3
        exact call_lenD pins s σ H _ us Q I rv ⟨p, kus, rfl, h2, by rw [← hn]; exact g ρ H (.int _) Ext.refl R (.int _)⟩
    · exact c_len pins s σ H xs us Q I rv ⟨_, S, ρ, R, rw, g⟩
  · exact c_len pins s σ H xs us Q I rv ⟨_, S, ρ, R, rw, g⟩
/-- dict(pairs): keys ints or texts -/
def pairsD : List D → Option (List (Key × D))
  | [] => some []
  | .tuple [k, v] :: r => match keyOf k, pairsD r with
    | some k, some r => some ((k, v) :: r)
    | _, _ => none
  | _ => none
def mergeW (kvs more : List (Key × W)) : List (Key × W) := more.foldl (fun acc kv => putW acc kv.1 kv.2) kvs
def dictM (ws : List W) : M W := fun S => match ws with
  | [.d (.list ds)] => match pairsD ds with
    | some kvs => .ok (.r S.length) (S ++ [.dct (mergeW [] (kvs.map fun kv => (kv.1, .d kv.2)))])
    | none => .no
  | _ => .no
theorem pairs_rep {K : PySem.W.Frag} {ρ : Pl} {H : Hp} {L : Addr → Prop} : ∀ {ds : List D} {kvs : List (Key × D)} {vs : List V}, pairsD ds = some kvs → RpA K H L vs ds →
    ∃ (ps : List Addr) (kus : List (Key × V)), vs = ps.map V.ref ∧ Paired (fun p kv => SqT K H p [kV kv.1, kv.2]) ps kus ∧ RKV K ρ H L (kvs.map fun kv => (kv.1, .d kv.2)) kus
  | [], _, _, h, r => by cases h; cases r; exact ⟨[], [], rfl, .nil, .nil⟩
  | d :: ds, kvs, _, h, r => by
    cases r with
    | @cons v vs _ _ r1 r2 =>
      unfold pairsD at h
      split at h
      · rename_i e; cases e
      · rename_i k w rs e
        cases e
        split at h
        · rename_i kk kr ek er
          cases h
          obtain ⟨ps, kus, rfl, h1, h2⟩ := pairs_rep (ρ := ρ) er r2
          cases r1 with
          | tup q ra =>
            cases ra with
            | cons x1 y1 =>
              cases y1 with
              | cons x2 y2 =>
                cases y2
                obtain ⟨rfl, ho⟩ := keyOf_rep ek x1
                exact ⟨_ :: ps, (kk, _) :: kus, rfl, .cons q.sq h1, .cons ⟨rfl, ho, x2⟩ h2⟩
        · cases h
      · cases h
theorem RKV.merge {K : PySem.W.Frag} {ρ : Pl} {H : Hp} {L : Addr → Prop} : ∀ {more : List (Key × W)} {mu : List (Key × V)} {kvs : List (Key × W)} {kus : List (Key × V)}, RKV K ρ H L more mu → RKV K ρ H L kvs kus → RKV K ρ H L (mergeW kvs more) (mergeK kus mu)
  | _, _, _, _, .nil, q => q
  | _, _, _, _, .cons (a := p) (b := r) a t, q => by
    obtain ⟨a1, a2, a3⟩ := a
    have h := RKV.put q a2 a3
    show RKV K ρ H L (mergeW (putW _ p.1 p.2) _) (mergeK (putK _ r.1 r.2) _)
    rw [← a1]
    exact RKV.merge t h
theorem c_dict (hc : X.calm = true) : CallR X (.type "dict") (rcM X.K Z dictM) := by
  rintro pins s σ H xs us Q I rv ⟨ws, S, ρ, R, rw, g⟩
  unfold dictM at g
  split at g
  · rename_i ds
    split at g
    · rename_i kvs e
      cases rw with
      | cons x y =>
        cases y
        cases x with
        | lst q ra =>
          obtain ⟨ps, kus, rfl, h1, h2⟩ := pairs_rep (ρ := ρ) e ra
          refine call_dictP hc pins s σ H _ us Q I rv ⟨_, ps, kus, rfl, q.sq, h1, fun p hp => ?_⟩
          refine g (ρ.add p) _ _ (Ext.new R hp) (Rel.new R hp ⟨_, rfl, RKV.merge h2 .nil⟩) ⟨p, ?_, rfl⟩
          show (ρ.adr ++ [p])[S.length]? = some p
          rw [← R.len, List.getElem?_append_right (Nat.le_refl _)]
          simp
    · exact g.elim
  · exact g.elim
end
end DL
/-! DL12: sorted texts; dicts by comprehension. -/
namespace DL
open PySem PySem.Spec PyProof.Rows L2

/-! ### sorted texts -/
abbrev leS (a b : Str) : Prop := a.cps.toList ≤ b.cps.toList
def insS (x : Str) : List Str → List Str
  | [] => [x]
  | y :: r => if y.cps.toList < x.cps.toList then y :: insS x r else x :: y :: r
def sortS : List Str → List Str
  | [] => []
  | x :: r => insS x (sortS r)
theorem insS_perm (x : Str) : ∀ l : List Str, (insS x l).Perm (x :: l)
  | [] => List.Perm.refl _
  | y :: r => by
    unfold insS
    split
    · exact ((insS_perm x r).cons y).trans (List.Perm.swap x y r)
    · exact List.Perm.refl _
theorem sortS_perm : ∀ l : List Str, (sortS l).Perm l
  | [] => List.Perm.refl _
  | x :: r => (insS_perm x _).trans ((sortS_perm r).cons x)
theorem insS_sorted (x : Str) : ∀ l : List Str, l.Pairwise leS → (insS x l).Pairwise leS
  | [], _ => List.pairwise_singleton _ _
  | y :: r, h => by
    unfold insS
    rw [List.pairwise_cons] at h
    split
    · rename_i hlt
      refine List.pairwise_cons.mpr ⟨fun z hz => ?_, insS_sorted x r h.2⟩
      rcases List.mem_cons.mp ((insS_perm x r).mem_iff.mp hz) with e | e
      · subst e
        exact List.le_of_lt hlt
      · exact h.1 z e
    · rename_i hlt
      have hxy : leS x y := List.not_lt.mp hlt
      refine List.pairwise_cons.mpr ⟨fun z hz => ?_, List.pairwise_cons.mpr h⟩
      rcases List.mem_cons.mp hz with e | e
      · subst e; exact hxy
      · exact List.le_trans hxy (h.1 z e)
theorem sortS_sorted : ∀ l : List Str, (sortS l).Pairwise leS
  | [] => List.Pairwise.nil
  | x :: r => insS_sorted x _ (sortS_sorted r)
theorem rising_pairwise : ∀ (r : List Str) (p : Str), risingS p r = true → (p :: r).Pairwise leS
  | [], p, _ => List.pairwise_singleton _ _
  | x :: r, p, h => by
    simp only [risingS, Bool.and_eq_true, Bool.not_eq_true', ltCps_eq, decide_eq_false_iff_not] at h
    have hpx : leS p x := List.not_lt.mp h.1
    have ih := rising_pairwise r x h.2
    refine List.pairwise_cons.mpr ⟨fun z hz => ?_, ih⟩
    rcases List.mem_cons.mp hz with e | e
    · subst e; exact hpx
    · exact List.le_trans hpx ((List.pairwise_cons.mp ih).1 z e)
theorem sorted_is {ys xs : List Str} (p : ys.Perm xs) (h : sortedS ys = true) : ys = sortS xs := by
  have hp : ys.Pairwise leS := by
    cases ys with
    | nil => exact List.Pairwise.nil
    | cons y r => exact rising_pairwise r y h
  refine List.Perm.eq_of_pairwise (le := leS) (fun a b _ _ h1 h2 => ?_) hp (sortS_sorted xs) (p.trans (sortS_perm xs).symm)
  have e : a.cps.toList = b.cps.toList := List.le_antisymm h1 h2
  have e2 : a.cps = b.cps := Array.toList_inj.mp e
  cases a; cases b; cases e2; rfl
def strsD : List D → Option (List Str)
  | [] => some []
  | .str x :: r => (strsD r).map (x :: ·)
  | _ => none
theorem strsD_rep {K : PySem.W.Frag} {H : Hp} {L : Addr → Prop} : ∀ {ds : List D} {ss : List Str} {vs : List V}, strsD ds = some ss → RpA K H L vs ds → vs = ss.map V.str ∧ ∀ s ∈ ss, okS s = true
  | [], _, _, h, r => by cases r; cases h; exact ⟨rfl, fun _ z => nomatch z⟩
  | d :: ds, ss, _, h, r => by
    cases d with
    | str x =>
      simp only [strsD, Option.map_eq_some_iff] at h
      obtain ⟨cs, h1, h2⟩ := h
      subst h2
      cases r with
      | cons a b =>
        obtain ⟨e, f⟩ := strsD_rep h1 b
        subst e
        cases a with
        | str _ o =>
          refine ⟨rfl, fun s hs => ?_⟩
          rcases List.mem_cons.mp hs with e | e
          · subst e; exact o
          · exact f s e
    | _ => cases h
theorem RpA.strs {K : PySem.W.Frag} {H : Hp} {L : Addr → Prop} : ∀ {ss : List Str}, (∀ s ∈ ss, okS s = true) → RpA K H L (ss.map V.str) (ss.map .str)
  | [], _ => .nil
  | s :: ss, h => .cons (.str s (h s List.mem_cons_self)) (RpA.strs fun t ht => h t (List.mem_cons_of_mem _ ht))
def sortM (ws : List W) : M W := fun S => match ws with
  | [w] => match toD w S with
    | some (.list ds) => match strsD ds with
      | some ss => if ss.length < 64 then .ok (.d (.list ((sortS ss).map .str))) S else .no
      | none => .no
    | _ => .no
  | _ => .no
section
variable {X : Cx} {Z : XZ} {pos : Pos}
theorem c_sort : CallR X (.builtin "sorted") (rcM X.K Z sortM) := by
  rintro pins s σ H xs us Q I rv ⟨ws, S, ρ, R, rw, g⟩
  unfold sortM at g
  split at g
  · rename_i w
    cases rw with
    | cons a b =>
      cases b
      obtain ⟨t1, _⟩ := toD_items R a
      split at g
      · rename_i ds e
        split at g
        · rename_i ss es
          split at g
          · rename_i hl
            obtain ⟨p, vs, rfl, h1, h2⟩ := t1 _ e
            obtain ⟨rfl, ho⟩ := strsD_rep es h2
            refine cr_sortedS pins s σ H _ us Q I rv ⟨p, ss, rfl, .of h1, hl, fun ys q hp hs hq => ?_⟩
            have := sorted_is hp hs
            subst this
            exact g ρ _ _ (Ext.frz hq) (R.frz hq) (newL_rep R hq (RpA.strs fun t ht => ho t ((sortS_perm ss).mem_iff.mp ht)))
          · exact g.elim
        · exact g.elim
      · exact g.elim
  · exact g.elim

/-! ### {k: v for target in iter if ..} -/
def dcL (own : List Nat) (g : W → Env → M Env) (t : Env → M Bool) (ek ev : Env → M W) : List W → List (Key × W) → Env → M (List (Key × W))
  | [], acc, _ => pr acc
  | w :: ws, acc, δ => bd (noEx (g w (wipeE δ own))) fun δ1 => bd (noEx (t δ1)) fun k => if k = true then bd (noEx (ek δ1)) fun y => bd (noEx (ev δ1)) fun z => match y with
      | .d d => match keyOf d with
        | some k => if acc.length < sizeLine then dcL own g t ek ev ws (putW acc k z) δ else no
        | none => no
      | _ => no
    else dcL own g t ek ev ws acc δ
def newDct (kvs : List (Key × W)) : M W := fun S => .ok (.r S.length) (S ++ [.dct kvs])
abbrev dcM (own : List Nat) (fi : Env → M (List W)) (g : W → Env → M Env) (t : Env → M Bool) (ek ev : Env → M W) : Env → M W := fun δ => bd (fi δ) fun ws => bd (dcL own g t ek ev ws [] δ) newDct
theorem tDc_of {own : List (Str × Nat)} {fi : Env → M (List W)} {g : W → Env → M Env} {t : Env → M Bool} {ek ev : Env → M W} {gc : TG} {σ : L2.St} {H : Hp} {Q : VK}
    (hgc : ∀ (v : V) (σ : L2.St) (H : Hp) (Q : L2.St → Hp → Prop), tG X.K ZF g v (wipe σ (own.map (·.2))) H Q → gc v (wipe σ (own.map (·.2))) H (fun σ2 H2 => wipe σ2 (own.map (·.2)) = wipe σ (own.map (·.2)) ∧ Q σ2 H2))
    (h : tE X.K Z (dcM (own.map (·.2)) fi g t ek ev) σ H Q) : tDc (tI X.K Z fi) gc (tT X.K ZF t) (tE X.K ZF ek) (tE X.K ZF ev) (own.map (·.2)) σ H Q := by
  obtain ⟨δ, S, ρ, r, re, gv⟩ := h
  refine ⟨δ, S, ρ, r, re, gives_imp (gives_bd gv) (fun ws S1 q ρ1 H1 J e1 r1 wk => ?_) fun _ _ q => q⟩
  intro D hD
  have re1 := Stb.env _ _ _ _ _ _ _ _ re e1
  refine ⟨fun i m H' => ∃ (S' : Sto) (ρ' : Pl) (acc : List (Key × W)) (vs : List (Key × V)), Ext0 S1 ρ1 H1 S' ρ' H' ∧ ρ'.grd = (ρ1.guard D).grd ∧ Rel X.K S' ρ' H' ∧ H' D = some (.dK vs) ∧ RKV X.K ρ' H' (Live S' ρ') acc vs ∧
    Gives (bd (dcL (own.map (·.2)) g t ek ev (ws.drop i) acc δ) newDct S') (fun w S2 => ∀ (ρ2 : Pl) (H2 : Hp) (v : V), Ext S1 ρ1 H1 S2 ρ2 H2 → Rel X.K S2 ρ2 H2 → RW X.K ρ2 H2 (Live S2 ρ2) w v → Q v H2) (fun _ _ => True) ∧ m = ws.length - i,
    ⟨_, S1, ρ1.guard D, [], [], Ext0.guard hD, rfl, r1.guard hD, upd_same, .nil, ?_, rfl⟩, ?_⟩
  · exact gives_imp q (fun w S2 q2 ρ2 H2 v e2 r2 rw2 => q2 ρ2 H2 v (e1.trans e2) r2 rw2) fun _ _ _ => trivial
  rintro i m H' ⟨S', ρ', acc, vs, e', hg', r', hv', rv', q', rfl⟩
  have hgD : ρ'.grd D := by rw [hg']; exact .inr rfl
  by_cases hl : i < ws.length
  · right
    have hw : ws[i]? = some ws[i] := List.getElem?_eq_getElem hl
    obtain ⟨hgo, hy⟩ := (wk i S' ρ' H' e' r').1 _ hw
    refine ⟨hgo, fun H2 => ∃ m', m' < ws.length - i ∧ ∃ (S2 : Sto) (ρ2 : Pl) (acc : List (Key × W)) (vs : List (Key × V)), Ext0 S1 ρ1 H1 S2 ρ2 H2 ∧ ρ2.grd = (ρ1.guard D).grd ∧ Rel X.K S2 ρ2 H2 ∧ H2 D = some (.dK vs) ∧ RKV X.K ρ2 H2 (Live S2 ρ2) acc vs ∧
      Gives (bd (dcL (own.map (·.2)) g t ek ev (ws.drop (i + 1)) acc δ) newDct S2) (fun w S2 => ∀ (ρ2 : Pl) (H2 : Hp) (v : V), Ext S1 ρ1 H1 S2 ρ2 H2 → Rel X.K S2 ρ2 H2 → RW X.K ρ2 H2 (Live S2 ρ2) w v → Q v H2) (fun _ _ => True) ∧ m' = ws.length - (i + 1), fun _ z => z, fun x H2 hx => ?_⟩
    obtain ⟨e2, r2, rw2⟩ := hy x H2 hx
    have E2 := e'.trans e2
    rw [List.drop_eq_getElem_cons hl] at q'
    unfold dcL at q'
    rw [bd_assoc] at q'
    have re2 : REnv X.K ρ' H2 (Live S' ρ') (wipeE δ (own.map (·.2))) (wipe σ (own.map (·.2))) := REnv.wipe ⟨re1.1, fun i w h => let ⟨v, h1, h2⟩ := re1.2 i w h; ⟨v, h1, h2.ext0 E2⟩⟩ _
    refine hgc x σ H2 _ ⟨(ws[i], wipeE δ (own.map (·.2))), S', ρ', r2, ⟨rw2, re2⟩, gives_imp (noEx_gives (E' := fun _ _ => False) (gives_bd q')) (fun δ1 S3 q3 ρ3 H3 σ3 e3 r3 re3 => ?_) fun _ _ q => q.elim⟩
    rw [bd_assoc] at q3
    refine ⟨δ1, S3, ρ3, r3, re3, gives_imp (noEx_gives (E' := fun _ _ => False) (gives_bd q3)) (fun k S4 q4 ρ4 H4 v4 e4 r4 ekk => ?_) fun _ _ q => q.elim⟩
    cases ekk
    have E4 := E2.trans (e3.trans e4)
    have g4 : ρ4.grd = (ρ1.guard D).grd := ((e3.trans e4).grd).trans hg'
    have nD : ∀ {S ρ H}, Rel X.K S ρ H → ρ.grd D → ¬ Liv S ρ D := fun r g => r.dj D g
    have hv2 : H2 D = some (.dK vs) := e2.stab D _ hv' (nD r' hgD)
    have hv4 : H4 D = some (.dK vs) := (e3.trans e4).stab D _ hv2 (nD r2 hgD)
    have xt : ∀ {S ρ H S' ρ' H'}, RKV X.K ρ H (Live S ρ) acc vs → Ext S ρ H S' ρ' H' → RKV X.K ρ' H' (Live S' ρ') acc vs := fun a b => Paired.mapP a fun _ _ z => ⟨z.1, z.2.1, z.2.2.ext b⟩
    have rv4 : RKV X.K ρ4 H4 (Live S4 ρ4) acc vs := xt (xt rv' e2) (e3.trans e4)
    cases k with
    | true =>
      rw [if_pos rfl] at q4 ⊢
      rw [bd_assoc] at q4
      have re4 := Stb.env _ _ _ _ _ _ _ _ re3 e4
      refine ⟨δ1, S4, ρ4, r4, re4, gives_imp (noEx_gives (E' := fun _ _ => False) (gives_bd q4)) (fun y S5 q5 ρ5 H5 v5 e5 r5 rw5 => ?_) fun _ _ q => q.elim⟩
      rw [bd_assoc] at q5
      refine ⟨δ1, S5, ρ5, r5, Stb.env _ _ _ _ _ _ _ _ re4 e5, gives_imp (noEx_gives (E' := fun _ _ => False) (gives_bd q5)) (fun z S6 q6 ρ6 H6 v6 e6 r6 rw6 => ?_) fun _ _ q => q.elim⟩
      have e56 := e5.trans e6
      have g6 : ρ6.grd = (ρ1.guard D).grd := e56.grd.trans g4
      have hgD6 : ρ6.grd D := by rw [g6]; exact .inr rfl
      have hgD4 : ρ4.grd D := by rw [g4]; exact .inr rfl
      have hv6 : H6 D = some (.dK vs) := e56.stab D _ hv4 (nD r4 hgD4)
      have rv6 := xt rv4 e56
      cases y with
      | d d =>
        cases eky : keyOf d with
        | none => simp only [eky] at q6; exact q6.elim
        | some kk =>
          simp only [eky] at q6
          by_cases hsz : acc.length < sizeLine
          · rw [if_pos hsz] at q6
            obtain ⟨rfl, ho⟩ := keyOf_rep eky rw5
            have hlen := Paired.length rv6
            refine ⟨vs, kk, rfl, hv6, by omega, _, by omega, S6, ρ6, putW acc kk z, putK vs kk v6, ?_, g6, r6.gput hgD6, upd_same, ?_, ?_, rfl⟩
            · have E6 := E4.trans e56
              exact ⟨E6.pre, fun a o h l => by rw [upd_ne (ne_of_none h hD)]; exact E6.stab a o h l, E6.newl, E6.newg⟩
            · exact RKV.put (Paired.mapP rv6 fun _ _ z => ⟨z.1, z.2.1, RW.gput r6 hgD6 z.2.2⟩) ho (RW.gput r6 hgD6 rw6)
            · exact q6
          · rw [if_neg hsz] at q6; exact q6.elim
      | r n => exact q6.elim
      | s n => exact q6.elim
      | e x => exact q6.elim
    | false =>
      rw [if_neg Bool.false_ne_true] at q4 ⊢
      exact ⟨_, by omega, S4, ρ4, acc, vs, E4, g4, r4, hv4, rv4, q4, rfl⟩
  · left
    refine ⟨(wk i S' ρ' H' e' r').2 (by omega), ?_⟩
    rw [List.drop_eq_nil_of_le (by omega)] at q'
    have q' : Gives (newDct acc S') _ _ := q'
    unfold newDct at q'
    have hsub : ∀ a, ρ1.grd a → ρ'.grd a := fun a h => by rw [hg']; exact .inl h
    -- the dict that was made is a place of the store now
    have nl : ¬ Liv S' ρ' D := r'.dj D hgD
    have hL : ∀ b, Live (S' ++ [.dct acc]) (Pl.add ⟨ρ'.adr, ρ1.grd⟩ D) b → Live S' ρ' b := fun b z => by
      rcases z with ⟨n, o, h1, h2, h3⟩ | z
      · by_cases hn : n < S'.length
        · rw [List.getElem?_append_left hn] at h1
          have h3 : (ρ'.adr ++ [D])[n]? = some b := h3
          rw [List.getElem?_append_left (by rw [r'.len]; exact hn)] at h3
          exact .inl ⟨n, o, h1, h2, h3⟩
        · have h3 : (ρ'.adr ++ [D])[n]? = some b := h3
          rw [List.getElem?_append_right (by rw [r'.len]; omega)] at h3
          have hz : n - ρ'.adr.length = 0 := by
            cases e : n - ρ'.adr.length with
            | zero => rfl
            | succ k => rw [e] at h3; simp at h3
          rw [hz] at h3
          simp at h3
          exact .inr (h3 ▸ hgD)
      · exact .inr (hsub b z)
    have tr : ∀ w v, RW X.K ρ' H' (Live S' ρ') w v → RW X.K (Pl.add ⟨ρ'.adr, ρ1.grd⟩ D) H' (Live (S' ++ [.dct acc]) (Pl.add ⟨ρ'.adr, ρ1.grd⟩ D)) w v := fun w v z => by
      have pre : ∀ (n : Nat) (a : Addr), ρ'.adr[n]? = some a → (ρ'.adr ++ [D])[n]? = some a := fun n a h => by
        rw [List.getElem?_append_left (List.getElem?_eq_some_iff.mp h).1]; exact h
      cases w with
      | d x => exact Rp.ext (fun _ _ q _ => q) (fun a q => .inl (hL a q)) x v z
      | r n => obtain ⟨a, h1, h2⟩ := z; exact ⟨a, pre _ _ h1, h2⟩
      | s ns => obtain ⟨a, h1, h2⟩ := z; exact ⟨a, h1, h2.ext (fun _ _ q _ => q) (fun a q => .inl (hL a q))⟩
      | e x => obtain ⟨a, h1, h2⟩ := z; exact ⟨a, h1, h2.ext (fun _ _ q _ => q) (fun a q => .inl (hL a q))⟩
    have last : (ρ'.adr ++ [D])[S'.length]? = some D := by
      rw [← r'.len, List.getElem?_append_right (Nat.le_refl _)]; simp
    have rl : Rel X.K (S' ++ [.dct acc]) (Pl.add ⟨ρ'.adr, ρ1.grd⟩ D) H' := by
      have key : ∀ (n : Nat) (a : Addr) (u : Ob), (S' ++ [.dct acc])[n]? = some u → (ρ'.adr ++ [D])[n]? = some a → (n < S'.length ∧ S'[n]? = some u ∧ ρ'.adr[n]? = some a) ∨ (n = S'.length ∧ a = D ∧ u = .dct acc) := fun n a u h1 h3 => by
        by_cases hn : n < S'.length
        · rw [List.getElem?_append_left hn] at h1
          rw [List.getElem?_append_left (by rw [r'.len]; exact hn)] at h3
          exact .inl ⟨hn, h1, h3⟩
        · have hlt := (List.getElem?_eq_some_iff.mp h1).1
          simp at hlt
          have hz : n = S'.length := by omega
          subst hz
          rw [last] at h3
          cases h3
          simp at h1
          exact .inr ⟨rfl, rfl, h1.symm⟩
      refine ⟨by simp [Pl.add, r'.len], fun a q => r'.gt a (hsub a q), fun a q z => ?_, fun n o h1 h2 => ?_, fun n m a o u h1 h2 h3 h4 h5 h6 => ?_⟩
      · rcases z with ⟨n, o, h1, h2, h3⟩
        rcases key n a o h1 h3 with ⟨k1, k2, k3⟩ | ⟨k1, k2, k3⟩
        · exact r'.dj a (hsub a q) ⟨n, o, k2, h2, k3⟩
        · subst k2
          obtain ⟨o', ho⟩ := r1.gt _ q
          rw [hD] at ho; cases ho
      · by_cases hn : n < S'.length
        · rw [List.getElem?_append_left hn] at h1
          obtain ⟨a, ho, k1, k2, k3⟩ := r'.ob n o h1 h2
          refine ⟨a, ho, ?_, k2, ?_⟩
          · show (ρ'.adr ++ [D])[n]? = some a
            rw [List.getElem?_append_left (by rw [r'.len]; exact hn)]; exact k1
          · cases o with
            | lst ws => obtain ⟨vs, z1, z2⟩ := k3; exact ⟨vs, z1, Paired.mapP z2 fun _ _ z => tr _ _ z⟩
            | dct kvs => obtain ⟨kus, z1, z2⟩ := k3; exact ⟨kus, z1, Paired.mapP z2 fun _ _ z => ⟨z.1, z.2.1, tr _ _ z.2.2⟩⟩
            | tab P q => exact ⟨k3.1, RT.ext k3.2 (fun _ _ q _ => q) (fun a q => .inl (hL a q))⟩
            | dead => trivial
        · have hlt := (List.getElem?_eq_some_iff.mp h1).1
          simp at hlt
          have hz : n = S'.length := by omega
          subst hz
          simp at h1
          subst h1
          exact ⟨D, _, last, hv', vs, rfl, Paired.mapP rv' fun _ _ z => ⟨z.1, z.2.1, tr _ _ z.2.2⟩⟩
      · rcases key n a o h1 h5 with ⟨k1, k2, k3⟩ | ⟨k1, k2, k3⟩
        · rcases key m a u h3 h6 with ⟨l1, l2, l3⟩ | ⟨l1, l2, l3⟩
          · exact r'.inj n m a o u k2 h2 l2 h4 k3 l3
          · subst l2; exact absurd ⟨n, o, k2, h2, k3⟩ nl
        · rcases key m a u h3 h6 with ⟨l1, l2, l3⟩ | ⟨l1, l2, l3⟩
          · subst k2; exact absurd ⟨m, u, l2, h4, l3⟩ nl
          · rw [k1, l1]
    refine q' (Pl.add ⟨ρ'.adr, ρ1.grd⟩ D) H' (.ref D) ⟨fun n a h => ?_, e'.stab, fun a z => ?_, rfl⟩ rl ⟨D, last, rfl⟩
    · show (ρ'.adr ++ [D])[n]? = some a
      have := e'.pre n a h
      rw [List.getElem?_append_left (List.getElem?_eq_some_iff.mp this).1]; exact this
    · rcases z with ⟨n, o, h1, h2, h3⟩
      by_cases hn : n < S'.length
      · rw [List.getElem?_append_left hn] at h1
        have h3 : (ρ'.adr ++ [D])[n]? = some a := h3
        rw [List.getElem?_append_left (by rw [r'.len]; exact hn)] at h3
        exact e'.newl a ⟨n, o, h1, h2, h3⟩
      · have hlt := (List.getElem?_eq_some_iff.mp h1).1
        simp at hlt
        have hz : n = S'.length := by omega
        subst hz
        have h3 : (ρ'.adr ++ [D])[S'.length]? = some a := h3
        rw [last] at h3
        cases h3
        exact .inr hD
theorem ddc {kx vx tg iter : Expr} {ifs : List Expr} {scope : Scope} {own : List (Str × Nat)} {fi : Env → M (List W)} {g : W → Env → M Env} {t : Env → M Bool} {ek ev : Env → M W} (hc : X.calm = true) (hN : X.N.Nodup) (hi : PI X tg iter (tI X.K Z fi)) (ok : BlkOk X.N X.env.scope scope own)
    (hg : ∀ (s : Shared) (H : Hp) (C : Addr) (cl : List (Str × Addr)) (fp : List Addr), PG (X.blk s H scope (compEnvC scope cl C X.env) fp) tg (tR (wipR (own.map (·.2))) X.K ZF g))
    (ht : ∀ (s : Shared) (H : Hp) (C : Addr) (cl : List (Str × Addr)) (fp : List Addr), PTs (X.blk s H scope (compEnvC scope cl C X.env) fp) ifs (tT X.K ZF t))
    (hk : ∀ (s : Shared) (H : Hp) (C : Addr) (cl : List (Str × Addr)) (fp : List Addr), PE (X.blk s H scope (compEnvC scope cl C X.env) fp) kx (tE X.K ZF ek))
    (he : ∀ (s : Shared) (H : Hp) (C : Addr) (cl : List (Str × Addr)) (fp : List Addr), PE (X.blk s H scope (compEnvC scope cl C X.env) fp) vx (tE X.K ZF ev)) (hs : ∀ x, foldedSetIterable iter X.env x = pure x := by intro _; rfl) :
    PE X (.DictComp kx vx [⟨tg, iter, ifs, 0⟩] scope pos) (tE X.K Z (dcM (own.map (·.2)) fi g t ek ev)) := by
  refine (pe_dc hc hN hi ok hg ht hk he hs).imp fun σ H Q h => tDc_of (fun v σ H Q q => ?_) h
  refine tH.mono q fun σ2 H2 z hr => ?_
  have hr : wipe σ2 (own.map (·.2)) = wipe (wipe σ (own.map (·.2))) (own.map (·.2)) := hr
  rw [wipe_twice] at hr
  exact ⟨hr, z⟩
end
end DL
/-! DL13: the law's end: from the law's plain function to the row. -/
namespace DL
open PySem PySem.Spec PyProof.Rows L2

/-- the law's promise: a list of so many ints is handed in, True comes out -/
def spL (K : PySem.W.Frag) : Sp := fun vs H Q _ => ∃ (a : Addr) (ns : List Int), vs = [.ref a] ∧ QF K H (fun _ => False) a (ns.map V.int) ∧ ns.length ≤ 63 ∧ ∀ H', Q (.bl true) H'
theorem spL_of {K : PySem.W.Frag} {ZZ : XK → XZ} {F : List W → M W} (h : ∀ ns : List Int, ns.length ≤ 63 → ∃ S, F [.s ns] [] = .ok (.d (.bool true)) S) : ∀ vs H Q E, spL K vs H Q E → spF K ZZ F vs H Q E := by
  rintro vs H Q E ⟨a, ns, rfl, q, hl, hq⟩
  obtain ⟨S, e⟩ := h ns hl
  refine ⟨[.s ns], [], ⟨[], fun _ => False⟩, ⟨rfl, fun _ z => z.elim, fun _ z => z.elim, fun n o z => by simp at z, fun n m a o u z => by simp at z⟩, .cons ⟨a, rfl, ?_⟩ .nil, ?_⟩
  · refine q.ext (fun _ _ z _ => z) fun b z => .inl ?_
    rcases z with ⟨n, o, z, _⟩ | z
    · simp at z
    · exact z
  · rw [e]
    intro ρ' H' v _ _ rv
    cases rv
    exact hq H'
section
variable {P : Program} {w : World} {K : PySem.W.Frag} {mg mb : Str → Option Value} {k : Nat} {fa a : Addr} {fd : FuncData} {x : Str} {s₁ : Shared} {vs : List Value} {ns : List Int}
/-- the call of the law behind the top, where just H's one thing, the script, may be tracked -/
theorem end_from {H : Hp} (KX : K.In s₁.heap) (hns : s₁.heap.Ns mainGlobals mg) (hb : s₁.heap.Ns builtinsNs mb) (hbb : ∀ x : Str, x ≠ "__name__" → mb x = bootBuiltins x) (hlim : s₁.heap.NoLimit) (hg : s₁.gens = #[])
    (ha : s₁.heap.get? a = some { cls := .type "list", data := .seq vs.toArray }) (hl : ns.length ≤ 63) (hr : Room k callerA)
    (F : ∀ base : Heap, K.In base → base.Ns mainGlobals mg → FnG P w K mg base CX0 k fa fd [x] (spL K)) (hbind : ∀ (s : Shared) (u : Value), BindsTo s fd ⟨[u], []⟩ [(x, u)])
    (hS : QF K H (fun _ => False) a (ns.map V.int)) (hok : HOk P w H s₁.heap) (hO : ∀ b u, H b = some u → b = a ∧ (∃ o xs, u = .frz o (.lst xs)) ∧ K.lookup a = none) :
    codeAny (model P w) callerA (.call (.ref fa) ⟨[.ref a], []⟩) (fun r s' => r = .ok (.ret (.bool true)) ∧ OldK s₁.heap s'.heap ∧ s'.os = s₁.os ∧ AllBare s'.gens) s₁ := by
  have stands : ∀ {b : Addr} {o : Obj}, s₁.heap.get? b = some o → H b = none → (hidT s₁.heap H).get? b = some o := fun e n => hidT_get e n
  have isDict : ∀ {b : Addr} {m : Str → Option Value}, s₁.heap.Ns b m → (hidT s₁.heap H).Ns b m := fun {b m} ⟨o, es, ep, e, d, r⟩ => by
    refine ⟨o, es, ep, stands e ?_, d, r⟩
    cases q : H b with
    | none => rfl
    | some u =>
      obtain ⟨rfl, _⟩ := hO b u q
      rw [ha] at e
      cases e
      have d' : Data.seq vs.toArray _ = Data.dict es ep := d
      cases d'
  have KB : K.In (hidT s₁.heap H) := fun b o e => stands (KX b o e) (by
    cases q : H b with
    | none => rfl
    | some u =>
      obtain ⟨rfl, _, z⟩ := hO b u q
      rw [z] at e; cases e)
  have NB := isDict hns
  obtain ⟨mc, l1, l2⟩ := hlim
  have MB : Mod K mg (hidT s₁.heap H) := ⟨KB, NB, ⟨mb, isDict hb, hbb⟩, ⟨mc, isDict l1, l2⟩⟩
  have E : Env0 P w K mg (hidT s₁.heap H) callerA [] s₁ H := ⟨rfl, MB, fun b o e => of_hidT e, Nat.le_of_eq (hidT_size _ _), trivial, fun b z => by simp [frs] at z, hok, .of_eq hg⟩
  have R := (F _ KB NB).run callerA [] s₁ H ⟨[.ref a], []⟩ [.ref a] [.ref a] (fun v _ => v = .bl true) E0 hr rfl E (hbind s₁ (.ref a)) (.cons rfl .nil) ⟨a, ns, rfl, hS, hl, fun _ => rfl⟩
  refine codeAny_mono R fun r s' h => ?_
  cases r with
  | error e => exact h.elim
  | ok fl =>
    cases fl with
    | ret u =>
      obtain ⟨v, H', os, bare, un, hok', rv, q⟩ := h
      have q' : v = .bl true := q
      subst q'
      cases (show u = Value.bool true from rv)
      refine ⟨rfl, OldK.of_keep fun b o e => ?_, os, bare⟩
      cases q : H b with
      | none => exact un.keep b o e q (by simp [frs]) (by simp)
      | some u =>
        obtain ⟨_, ⟨ob, xs, rfl⟩, _⟩ := hO b u q
        have before := (hok b _ q).1
        have after := (hok' b _ (un.frzs b ob _ q)).1
        rw [e] at before; cases before
        exact after
    | next => exact h.elim
    | brk => exact h.elim
    | cont => exact h.elim
theorem end_call (KX : K.In s₁.heap) (hns : s₁.heap.Ns mainGlobals mg) (hb : s₁.heap.Ns builtinsNs mb) (hbb : ∀ x : Str, x ≠ "__name__" → mb x = bootBuiltins x) (hlim : s₁.heap.NoLimit) (hg : s₁.gens = #[])
    (ha : s₁.heap.get? a = some { cls := .type "list", data := .seq vs.toArray }) (hi : IntsAre vs ns) (hl : ns.length ≤ 63) (hr : Room k callerA)
    (F : ∀ base : Heap, K.In base → base.Ns mainGlobals mg → FnG P w K mg base CX0 k fa fd [x] (spL K)) (hbind : ∀ (s : Shared) (u : Value), BindsTo s fd ⟨[u], []⟩ [(x, u)]) :
    codeAny (model P w) callerA (.call (.ref fa) ⟨[.ref a], []⟩) (fun r s' => r = .ok (.ret (.bool true)) ∧ OldK s₁.heap s'.heap ∧ s'.os = s₁.os ∧ AllBare s'.gens) s₁ := by
  have rv := vals_ints hi
  have many : ns.length = vs.length := by
    have := rv.length
    simpa using this
  have small : vs.length ≤ sizeLine := by
    have : (63 : Nat) ≤ sizeLine := by decide
    omega
  cases hk : K.lookup a with
  | some o =>
    have e := KX a o hk
    rw [ha] at e
    cases e
    exact end_from (H := fun _ => none) KX hns hb hbb hlim hg ha hl hr F hbind (.inr ⟨_, vs.toArray, _, hk, rfl, rfl, rfl, by simpa using small, by simpa using rv⟩) (fun b u z => by cases z) fun b u z => by cases z
  | none =>
    have at_a : (upd (fun _ => none) a (.frz { cls := .type "list", data := .seq vs.toArray } (.lst (ns.map V.int)))) a = some (.frz { cls := .type "list", data := .seq vs.toArray } (.lst (ns.map V.int))) := upd_same
    have else_ : ∀ {b u}, upd (fun _ => none) a (.frz { cls := .type "list", data := .seq vs.toArray } (.lst (ns.map V.int))) b = some u → b = a ∧ u = .frz { cls := .type "list", data := .seq vs.toArray } (.lst (ns.map V.int)) := fun {b u} z => by
      by_cases e : b = a
      · subst e; rw [at_a] at z; cases z; exact ⟨rfl, rfl⟩
      · rw [upd_ne e] at z; cases z
    refine end_from KX hns hb hbb hlim hg ha hl hr F hbind (.inl ⟨.inr ⟨_, at_a⟩, id⟩) (fun b u z => ?_) fun b u z => ?_
    · obtain ⟨rfl, rfl⟩ := else_ z
      exact ⟨ha, by rw [List.length_map]; omega, vs, _, rv, ha⟩
    · obtain ⟨rfl, rfl⟩ := else_ z
      exact ⟨rfl, ⟨_, _, rfl⟩, hk⟩
end
/-- the goal that the head leaves, from the promise of the law's def -/
theorem end_of {l : PySem.W.OpenLaw} {k : Nat} {q : Program} {loose : List Str} {XP : (Str → Option Value) → Heap → Prop} {YP : World → Heap → Prop} {d : DefRec} {K : Params → PySem.W.Frag}
    (hn : l.most = some 63) (hdf : d.params.defaults = []) (hr : Room k callerA) (hY : ∀ (w : World) (h : Heap), YP w h → (K w.params).In h)
    (F : ∀ (w : World) (mg : Str → Option Value) (fa : Addr) (h : Heap), (K w.params).In h → h.Ns mainGlobals mg → mg d.name = some (.ref fa) →
      ∃ fd : FuncData, (∀ (s : Shared) (u : Value), BindsTo s fd ⟨[u], []⟩ [("script", u)]) ∧ ∀ base : Heap, (K w.params).In base → base.Ns mainGlobals mg → FnG l.prog w (K w.params) mg base CX0 k fa fd ["script"] (spL (K w.params))) :
    PySem.W.WalkO q loose XP YP l.row.toRowW d [] (fun f vs => PySem.call f vs) := by
  refine Att.attach_call hn hdf fun w s₀ s₁ mg mb fa o pm cd doc a vs ns G Y ho hd hcd hmg hobj hints hlen hg => ?_
  have KX := hY w _ Y
  obtain ⟨fd, hb, hF⟩ := F w mg fa _ KX G.T.g hmg
  exact end_call KX G.T.g G.T.b G.T.builtins G.T.nolimit hg hobj hints hlen hr hF hb
end DL
/-! DL14: what a printed text leans on. -/
namespace DL
open PySem PySem.Spec PyProof.Rows L2

theorem room66 {k : Nat} {A : Around} (h : Room k A) : A.units + 66 < cLine := by have := h.un; omega
theorem room65 {k : Nat} {A : Around} (h : Room k A) : A.units + 65 < cLine := by have := h.un; omega
theorem room1 {k : Nat} {A : Around} (h : Room k A) : A.units + 1 < cLine := by have := h.un; omega
/-- a def of the text as it stands behind the top -/
structure DefOk (K : PySem.W.Frag) (mg : Str → Option Value) (x : Str) (st : Stmt) (ps : List Str) (f : Addr) (fd : FuncData) : Prop where
  fn : Fun K x x st f fd
  mg : mg x = some (.ref f)
  bd : Binds K fd ps []
theorem def_mk {K : PySem.W.Frag} {h : Heap} {mg : Str → Option Value} {x : Str} {st : Stmt} {ps : List Str} (hb : ∀ (kV doc pm : Value) (an : Option Addr) (cdv ct : Value) (us : List Value), us.length = ps.length → bindArgs (PySem.W.fnOf x x (defArgs st) (defBody st) (defScope st) .none kV doc pm an cdv ct) ⟨us, []⟩ = pure (ps.zip us))
    (X : K.In h) (G : h.Ns mainGlobals mg) {f : Addr} {oc : Value} {od an : Option Addr} {sl : Array (Option Value)} {kV dc pm cd ct : Value}
    (a : PySem.W.nsIn K mainGlobals x = some (some (.ref f))) (l : K.lookup f = some ⟨oc, od, .func (PySem.W.fnOf x x (defArgs st) (defBody st) (defScope st) .none kV dc pm an cd ct), sl⟩) (c : PySem.W.codeIn K cd x = true) (k : PySem.W.keepIn K (.ref f) = true) :
    ∃ f fd, DefOk K mg x st ps f fd := by
  have F := fun_mk (st := st) l c k
  exact ⟨_, _, F, PySem.W.mg_of X G a, F.binds hb⟩
/-- a def's call with keywords -/
theorem kb_mk {K : PySem.W.Frag} {x : Str} {st : Stmt} {f : Addr} {fd : FuncData} {ps ks : List Str} {g : List Value → List Value → List Value} {gV : List V → List V → List V} {gW : List W → List W → List W} (F : Fun K x x st f fd)
    (hb : ∀ (kV doc pm : Value) (an : Option Addr) (cdv ct : Value) (us ws : List Value), (g us ws).length = ps.length → bindArgs (PySem.W.fnOf x x (defArgs st) (defBody st) (defScope st) .none kV doc pm an cdv ct) ⟨us, ks.zip ws⟩ = pure (ps.zip (g us ws)))
    (hv : ∀ {α β : Type} (R : α → β → Prop) (gA : List α → List α → List α) (gB : List β → List β → List β), True) (rel : ∀ {vs : List V} {us : List Value} {zs : List V} {ws : List Value}, Vals vs us → Vals zs ws → Vals (gV vs zs) (g us ws))
    (w : ∀ (ρ : Pl) (H : Hp) (L : Addr → Prop) (ws zs : List W) (vs us : List V), RWs K ρ H L ws vs → RWs K ρ H L zs us → RWs K ρ H L (gW ws zs) (gV vs us)) : KB K fd ps ks g gV gW := by
  obtain ⟨oc, od, kV, doc, pm, an, cdv, ct, osl, rfl, lk, hcd⟩ := F.ex
  exact ⟨⟨fun s us ws _ hl => .of_eq (hb kV doc pm an cdv ct us ws hl), rel⟩, w⟩
section
variable {X : Cx} {Z : XZ} {pos : Pos}
theorem dgint {x : Str} {i : Int} (h : ∃ t, X.mg x = some (.int i t)) (hg : Gl X x) (hd : (x == ("__debug__" : Str)) = false := by decide) : PE X (.Name x pos) (tE X.K Z (cM (.int i))) := by
  obtain ⟨t, e⟩ := h
  exact dglob (v := .int i) hg e ⟨t, rfl⟩ (fun _ _ => .int i) hd
theorem dgstr {x s : Str} (h : ∃ t, X.mg x = some (.str s t)) (ho : okS s = true) (hg : Gl X x) (hd : (x == ("__debug__" : Str)) = false := by decide) : PE X (.Name x pos) (tE X.K Z (cM (.str s))) := by
  obtain ⟨t, e⟩ := h
  exact dglob (v := .str s) hg e ⟨t, rfl⟩ (fun _ _ => .str s ho) hd
/-- a written tuple of texts -/
theorem dgstrs {x : Str} {ss : List Str} (h : ∃ a, X.mg x = some (.ref a) ∧ SqTw X.K a (ss.map V.str)) (ho : ∀ s ∈ ss, okS s = true) (hg : Gl X x) (hd : (x == ("__debug__" : Str)) = false := by decide) : PE X (.Name x pos) (tE X.K Z (cM (.tuple (ss.map .str)))) := by
  obtain ⟨a, e, q⟩ := h
  exact dglob (v := .ref a) hg e rfl (fun _ _ => .tup (.inr q) (RpA.strs ho)) hd
end
theorem con_mk {K : PySem.W.Frag} {h : Heap} {mg : Str → Option Value} {x : Str} {v : Value} (X : K.In h) (G : h.Ns mainGlobals mg) (a : PySem.W.nsIn K mainGlobals x = some (some v)) : mg x = some v := PySem.W.mg_of X G a
theorem conT_mk {K : PySem.W.Frag} {h : Heap} {mg : Str → Option Value} {x : Str} {ss : List Str} {f : Addr} {od : Option Addr} {its : List Value} {n : Nat} {sl : Array (Option Value)} (X : K.In h) (G : h.Ns mainGlobals mg)
    (a : PySem.W.nsIn K mainGlobals x = some (some (.ref f))) (l : K.lookup f = some ⟨.type "tuple", od, .seq its.toArray n, sl⟩) (v : Vals (ss.map V.str) its) (hl : ss.length ≤ 1000) : ∃ a, mg x = some (.ref a) ∧ SqTw K a (ss.map V.str) := by
  refine ⟨f, PySem.W.mg_of X G a, _, its.toArray, n, l, rfl, rfl, ?_, by simpa using v⟩
  have := v.length
  simp at this
  have : (1000 : Nat) ≤ sizeLine := by decide
  simp
  omega
theorem bl_len : bootBuiltins "len" = some (.builtin "len") := by decide +kernel
theorem bl_all : bootBuiltins "all" = some (.builtin "all") := by decide +kernel
theorem bl_any : bootBuiltins "any" = some (.builtin "any") := by decide +kernel
theorem bl_abs : bootBuiltins "abs" = some (.builtin "abs") := by decide +kernel
theorem bl_sorted : bootBuiltins "sorted" = some (.builtin "sorted") := by decide +kernel
theorem bl_repr : bootBuiltins "repr" = some (.builtin "repr") := by decide +kernel
theorem bl_int : bootBuiltins "int" = some (.type "int") := by decide +kernel
theorem bl_str : bootBuiltins "str" = some (.type "str") := by decide +kernel
theorem bl_bool : bootBuiltins "bool" = some (.type "bool") := by decide +kernel
theorem bl_list : bootBuiltins "list" = some (.type "list") := by decide +kernel
theorem bl_tuple : bootBuiltins "tuple" = some (.type "tuple") := by decide +kernel
theorem bl_dict : bootBuiltins "dict" = some (.type "dict") := by decide +kernel
/-- x += e, ints -/
def iaddM (x y : W) : M W := match x, y with
  | .d (.int i), .d (.int j) => pr (.d (.int (i + j)))
  | _, _ => no
theorem o_iadd {X : Cx} {Z : XZ} : OpR X (inplaceOp .Add) (r2M X.K Z iaddM) := by
  rintro pins s σ H x y v u Q I rx ry ⟨⟨w1, w2⟩, S, ρ, R, ⟨r1, r2⟩, g⟩
  change Gives (iaddM w1 w2 S) _ _ at g
  unfold iaddM at g
  split at g
  · cases r1; cases r2
    exact iop_add pins s σ H _ _ v u Q I rx ry ⟨_, _, rfl, rfl, g ρ H (.int _) Ext.refl R (.int _)⟩
  · exact g.elim
/-- a def that is never well called -/
theorem fn_none {P : Program} {w : World} {K : PySem.W.Frag} {mg : Str → Option Value} {base : Heap} {CX : CXT} {k : Nat} {f : Addr} {fd : FuncData} {ps : List Str} {ZZ : XK → XZ} : FnG P w K mg base CX k f fd ps (spF K ZZ fun _ => no) :=
  ⟨fun _ _ _ _ h => by obtain ⟨_, _, _, _, _, g⟩ := h; exact g.elim, fun _ _ _ _ _ _ _ _ _ _ _ _ _ _ h => by obtain ⟨_, _, _, _, _, g⟩ := h; exact g.elim⟩
end DL
/-! DL15: more of what a printed text leans on. -/
namespace DL
open PySem PySem.Spec PyProof.Rows L2

/-- {} that nobody changes -/
theorem dd0 {X : Cx} {Z : XZ} {pos : Pos} : PE X (.Dict [] [] pos) (tE X.K Z (cM (.dict []))) := pe_dnewK.imp fun σ H Q h p hp => by
  obtain ⟨δ, S, ρ, r, re, g⟩ := h
  exact g ρ (upd H p (.dK [])) (.ref p) (Ext.frz hp) (r.frz hp) (.dct ⟨upd_same, r.notLive hp⟩)
/-- a call's arguments by the places is of what is handed in -/
def pickL {α : Type} (is : List Nat) (xs : List α) : List α := is.filterMap fun i => xs[i]?
def gP {α : Type} (p q : Nat) (is : List Nat) (us ws : List α) : List α := if us.length = p ∧ ws.length = q then pickL is (us ++ ws) else []
theorem Paired.app' {α β : Type} {R : α → β → Prop} : ∀ {xs : List α} {ys : List β} {xs' : List α} {ys' : List β}, Paired R xs ys → Paired R xs' ys' → Paired R (xs ++ xs') (ys ++ ys')
  | _, _, _, _, .nil, q => q
  | _, _, _, _, .cons a b, q => .cons a (Paired.app' b q)
theorem Paired.none' {α β : Type} {F : α → β → Prop} {xs : List α} {ys : List β} {i : Nat} (p : Paired F xs ys) (h : xs[i]? = none) : ys[i]? = none := by
  have := Paired.length p
  rw [List.getElem?_eq_none_iff] at h ⊢
  omega
theorem Paired.pick {α β : Type} {R : α → β → Prop} {xs : List α} {ys : List β} (p : Paired R xs ys) : ∀ is : List Nat, Paired R (pickL is xs) (pickL is ys)
  | [] => .nil
  | i :: is => by
    unfold pickL
    simp only [List.filterMap_cons]
    cases e : xs[i]? with
    | none =>
      rw [Paired.none' p e]
      exact Paired.pick p is
    | some x =>
      obtain ⟨y, h1, h2⟩ := Paired.at' p e
      rw [h1]
      exact .cons h2 (Paired.pick p is)
theorem Paired.gP {α β : Type} {R : α → β → Prop} {xs xs' : List α} {ys ys' : List β} {m n : Nat} {is : List Nat} (p : Paired R xs ys) (q : Paired R xs' ys') : Paired R (gP m n is xs xs') (gP m n is ys ys') := by
  have l1 := Paired.length p
  have l2 := Paired.length q
  unfold DL.gP
  rw [l1, l2]
  split
  · exact Paired.pick (Paired.app' p q) is
  · exact .nil
theorem vals_pair : ∀ {vs : List V} {us : List Value}, Vals vs us → Paired (fun v u => RelV v u) vs us
  | _, _, .nil => .nil
  | _, _, .cons a b => .cons a (vals_pair b)
theorem pair_vals : ∀ {vs : List V} {us : List Value}, Paired (fun v u => RelV v u) vs us → Vals vs us
  | _, _, .nil => .nil
  | _, _, .cons a b => .cons a (pair_vals b)
theorem kb_pick {K : PySem.W.Frag} {mg : Str → Option Value} {x : Str} {st : Stmt} {f : Addr} {fd : FuncData} {ps ks : List Str} {p q : Nat} {is : List Nat} (Fo : DefOk K mg x st ps f fd) (hps : ps ≠ [])
    (hb : ∀ (kV doc pm : Value) (an : Option Addr) (cdv ct : Value) (us ws : List Value), us.length = p → ws.length = q → bindArgs (PySem.W.fnOf x x (defArgs st) (defBody st) (defScope st) .none kV doc pm an cdv ct) ⟨us, ks.zip ws⟩ = pure (ps.zip (pickL is (us ++ ws)))) :
    KB K fd ps ks (gP p q is) (gP p q is) (gP p q is) := by
  obtain ⟨oc, od, kV, doc, pm, an, cdv, ct, osl, rfl, lk, hcd⟩ := Fo.fn.ex
  refine ⟨⟨fun s us ws _ hl => .of_eq ?_, fun r r2 => pair_vals (Paired.gP (vals_pair r) (vals_pair r2))⟩, fun ρ H L ws zs vs us a b => Paired.gP a b⟩
  unfold gP at hl ⊢
  split at hl
  · rename_i h
    rw [if_pos h]
    exact hb kV doc pm an cdv ct us ws h.1 h.2
  · exact absurd (List.length_eq_zero_iff.mp hl.symm) hps
/-- what stands ready to be called -/
theorem keep_ok {K : PySem.W.Frag} {mg : Str → Option Value} {x : Str} {st : Stmt} {ps : List Str} {f : Addr} {fd : FuncData} (h : DefOk K mg x st ps f fd) : PySem.W.keepIn K (.ref f) = true := h.fn.kp
theorem cint_mk {K : PySem.W.Frag} {h : Heap} {mg : Str → Option Value} {x : Str} {i : Int} {t : Tok} (X : K.In h) (G : h.Ns mainGlobals mg) (a : PySem.W.nsIn K mainGlobals x = some (some (.int i t))) : ∃ t, mg x = some (.int i t) := ⟨t, PySem.W.mg_of X G a⟩
theorem cstr_mk {K : PySem.W.Frag} {h : Heap} {mg : Str → Option Value} {x z : Str} {t : Tok} (X : K.In h) (G : h.Ns mainGlobals mg) (a : PySem.W.nsIn K mainGlobals x = some (some (.str z t))) : ∃ t, mg x = some (.str z t) := ⟨t, PySem.W.mg_of X G a⟩
/-- law's own def -/
theorem law_mk {K : PySem.W.Frag} {h : Heap} {mg : Str → Option Value} {st : Stmt} (X : K.In h) (G : h.Ns mainGlobals mg) (hb1 : ∀ (kV doc pm : Value) (an : Option Addr) (cdv ct : Value), ∀ u : Value, bindArgs (PySem.W.fnOf "law" "law" (defArgs st) (defBody st) (defScope st) .none kV doc pm an cdv ct) ⟨[u], []⟩ = pure [(("script" : Str), u)])
    (hb : ∀ (kV doc pm : Value) (an : Option Addr) (cdv ct : Value) (us : List Value), us.length = (["script"] : List Str).length → bindArgs (PySem.W.fnOf "law" "law" (defArgs st) (defBody st) (defScope st) .none kV doc pm an cdv ct) ⟨us, []⟩ = pure ((["script"] : List Str).zip us))
    {f : Addr} {oc : Value} {od an : Option Addr} {sl : Array (Option Value)} {kV dc pm cd ct : Value}
    (a : PySem.W.nsIn K mainGlobals "law" = some (some (.ref f))) (l : K.lookup f = some ⟨oc, od, .func (PySem.W.fnOf "law" "law" (defArgs st) (defBody st) (defScope st) .none kV dc pm an cd ct), sl⟩) (c : PySem.W.codeIn K cd "law" = true) (k : PySem.W.keepIn K (.ref f) = true) :
    ∃ f fd, DefOk K mg "law" st ["script"] f fd ∧ ∀ (s : Shared) (u : Value), BindsTo s fd ⟨[u], []⟩ [("script", u)] := by
  have F := fun_mk (st := st) l c k
  exact ⟨_, _, ⟨F, PySem.W.mg_of X G a, F.binds hb⟩, fun s u => .of_eq (hb1 _ _ _ _ _ _ u)⟩
end DL
/-! DL16: what denotations come to, in plain Lean. -/
namespace DL
open PySem PySem.Spec PyProof.Rows L2

theorem bd_ok {α β : Type} {m : M α} {f : α → M β} {S S' : Sto} {a : α} (h : m S = .ok a S') : bd m f S = f a S' := by unfold bd; rw [h]
theorem noEx_ok {α : Type} {m : M α} {S S' : Sto} {a : α} (h : m S = .ok a S') : noEx m S = .ok a S' := by unfold noEx; rw [h]
theorem seq_nx {f g : Env → M Fl} {δ δ' : Env} {S S' : Sto} (h : f δ S = .ok (.nx δ') S') : seqM f g δ S = g δ' S' := by unfold seqM; rw [bd_ok h]
theorem seq_rt {f g : Env → M Fl} {δ : Env} {w : W} {S S' : Sto} (h : f δ S = .ok (.rt w) S') : seqM f g δ S = .ok (.rt w) S' := by unfold seqM; rw [bd_ok h]; rfl
theorem if_t {t : Env → M Bool} {f g : Env → M Fl} {δ : Env} {S S' : Sto} (h : t δ S = .ok true S') : ifM t f g δ S = f δ S' := by unfold ifM; rw [bd_ok h]; rfl
theorem if_f {t : Env → M Bool} {f g : Env → M Fl} {δ : Env} {S S' : Sto} (h : t δ S = .ok false S') : ifM t f g δ S = g δ S' := by unfold ifM; rw [bd_ok h]; rfl
theorem asg_ok {f : Env → M W} {i : Nat} {δ : Env} {w : W} {S S' : Sto} (h : f δ S = .ok w S') : asgM f (setG i) δ S = .ok (.nx (δ.set i (some w))) S' := by unfold asgM; rw [bd_ok h]; rfl
theorem ret_ok {f : Env → M W} {δ : Env} {w : W} {S S' : Sto} (h : f δ S = .ok w S') : retM f δ S = .ok (.rt w) S' := by unfold retM; rw [bd_ok h]; rfl
theorem expr_ok {f : Env → M W} {δ : Env} {w : W} {S S' : Sto} (h : f δ S = .ok w S') : exprM f δ S = .ok (.nx δ) S' := by unfold exprM; rw [bd_ok h]; rfl
theorem cal_ok {fr : Env → M (List W)} {fo : List W → M W} {δ : Env} {ws : List W} {w : W} {S S' S'' : Sto} (h : fr δ S = .ok ws S') (h2 : fo ws S' = .ok w S'') : calM fr fo δ S = .ok w S'' := by unfold calM; rw [bd_ok h]; exact h2
theorem bin_ok {fa fb : Env → M W} {fo : W → W → M W} {δ : Env} {x y w : W} {S S1 S2 S3 : Sto} (h : fa δ S = .ok x S1) (h2 : fb δ S1 = .ok y S2) (h3 : fo x y S2 = .ok w S3) : binM fa fb fo δ S = .ok w S3 := by unfold binM; rw [bd_ok h, bd_ok h2]; exact h3
theorem cons_ok {fa : Env → M W} {fr : Env → M (List W)} {δ : Env} {x : W} {xs : List W} {S S1 S2 : Sto} (h : fa δ S = .ok x S1) (h2 : fr δ S1 = .ok xs S2) : consM fa fr δ S = .ok (x :: xs) S2 := by unfold consM; rw [bd_ok h, bd_ok h2]; rfl
theorem star_ok {fa : Env → M W} {fr : Env → M (List W)} {δ : Env} {x : W} {k : Bool} {xs ys : List W} {S S1 S2 : Sto} (h : fa δ S = .ok x S1) (hx : seqOf x S1 = some (k, xs)) (h2 : fr δ S1 = .ok ys S2) : starM fa fr δ S = .ok (xs ++ ys) S2 := by
  unfold starM
  rw [bd_ok h, bd_ok (show itemsM x S1 = .ok xs S1 by unfold itemsM; simp only [hx]), bd_ok h2]
  rfl
theorem val_ok {f : Env → M W} {δ : Env} {b : Bool} {S S' : Sto} (h : f δ S = .ok (okb b) S') : valT f δ S = .ok b S' := by unfold valT; rw [bd_ok h]; rfl
theorem run_rt {k n : Nat} {b : Env → M Fl} {ws : List W} {w : W} {S S' : Sto} (hl : ws.length = k) (h : b (ws.map some ++ List.replicate (n - k) none) S = .ok (.rt w) S') : runD k n b ws S = .ok w S' := by unfold runD; rw [if_pos hl, bd_ok h]; rfl
theorem pure_ok {F : List W → M W} {ws : List W} {ds : List D} {x : D} {S S0 : Sto} (hd : allD ws = some ds) (h : F ws [] = .ok (.d x) S0) : pureM F ws S = .ok (.d x) S := by unfold pureM; rw [hd]; simp only [h]
theorem pure_ex {F : List W → M W} {ws : List W} {ds : List D} {x : D} {S : Sto} (hd : allD ws = some ds) (h : ∃ S0, F ws [] = .ok (.d x) S0) : pureM F ws S = .ok (.d x) S := by
  obtain ⟨S0, h⟩ := h
  exact pure_ok hd h
theorem varM_at {i : Nat} {δ : Env} {w : W} {S : Sto} (h : δ[i]? = some (some w)) : varM i δ S = .ok w S := by unfold varM; rw [h]
/-! ### comprehensions -/
theorem comp_map {own : List Nat} {g : W → Env → M Env} {t : Env → M Bool} {e : Env → M W} {δ : Env} {S : Sto} (p : W → Bool) (φ : W → W) : ∀ {ws : List W},
    (∀ w ∈ ws, ∃ δ1, g w (wipeE δ own) S = .ok δ1 S ∧ t δ1 S = .ok (p w) S ∧ (p w = true → e δ1 S = .ok (φ w) S)) → compL own g t e ws δ S = .ok ((ws.filter p).map φ) S
  | [], _ => rfl
  | w :: ws, h => by
    obtain ⟨δ1, h1, h2, h3⟩ := h w List.mem_cons_self
    have ih := comp_map (own := own) (g := g) (t := t) (e := e) (δ := δ) (S := S) p φ (ws := ws) fun w hw => h w (List.mem_cons_of_mem _ hw)
    unfold compL
    rw [bd_ok (noEx_ok h1), bd_ok (noEx_ok h2)]
    cases hp : p w with
    | true =>
      simp only [if_true]
      rw [bd_ok (noEx_ok (h3 hp)), bd_ok ih, List.filter_cons_of_pos hp]
      rfl
    | false =>
      simp only [Bool.false_eq_true, if_false]
      rw [ih, List.filter_cons_of_neg (by simp [hp])]
theorem comp_all {own : List Nat} {g : W → Env → M Env} {e : Env → M W} {δ : Env} {S : Sto} (φ : W → W) {ws : List W}
    (h : ∀ w ∈ ws, ∃ δ1, g w (wipeE δ own) S = .ok δ1 S ∧ e δ1 S = .ok (φ w) S) : compL own g yesT e ws δ S = .ok (ws.map φ) S := by
  have := comp_map (own := own) (g := g) (t := yesT) (e := e) (δ := δ) (S := S) (fun _ => true) φ (ws := ws) fun w hw => by
    obtain ⟨δ1, h1, h2⟩ := h w hw
    exact ⟨δ1, h1, rfl, fun _ => h2⟩
  rw [List.filter_eq_self.mpr (fun _ _ => rfl)] at this
  exact this
theorem lst_ok {ws : List W} {ds : List D} {S : Sto} (h : allD ws = some ds) (hl : ws.length ≤ sizeLine) : lstM ws S = .ok (.d (.list ds)) S := by unfold lstM; rw [if_pos hl]; simp only [h]
theorem tup_ok {ws : List W} {ds : List D} {S : Sto} (h : allD ws = some ds) (hl : ws.length ≤ sizeLine) : tupM ws S = .ok (.d (.tuple ds)) S := by unfold tupM; rw [if_pos hl]; simp only [h]
theorem small2 : 1000000 ≤ sizeLine := by decide
/-! ### the store -/
theorem set_at {S : Sto} {n : Nat} {o u : Ob} (h : S[n]? = some o) : (S.set n u)[n]? = some u := by
  have : n < S.length := (List.getElem?_eq_some_iff.mp h).1
  rw [List.getElem?_set_self this]
theorem seq_at {S : Sto} {n : Nat} {ws : List W} (h : S[n]? = some (.lst ws)) : seqOf (.r n) S = some (true, ws) := by unfold seqOf; simp only [h]
theorem seq_l {S : Sto} {ds : List D} : seqOf (.d (.list ds)) S = some (true, ds.map .d) := rfl
theorem seq_t {S : Sto} {ds : List D} : seqOf (.d (.tuple ds)) S = some (false, ds.map .d) := rfl
theorem item_r {S : Sto} {n : Nat} {ws : List W} {i : Int} {w : W} (h : S[n]? = some (.lst ws)) (hi : atI ws i = some w) : itemM (.r n) (.d (.int i)) S = .ok w S := by unfold itemM; simp only [seq_at h, hi]
theorem item_l {S : Sto} {ds : List D} {i : Int} {d : D} (hi : atI ds i = some d) : itemM (.d (.list ds)) (.d (.int i)) S = .ok (.d d) S := by
  unfold itemM
  simp only [seq_l, atI_map, hi, Option.map_some]
theorem item_t {S : Sto} {ds : List D} {i : Int} {d : D} (hi : atI ds i = some d) : itemM (.d (.tuple ds)) (.d (.int i)) S = .ok (.d d) S := by
  unfold itemM
  simp only [seq_t, atI_map, hi, Option.map_some]
theorem pop_snoc {S : Sto} {n : Nat} {ws : List W} {w : W} (h : S[n]? = some (.lst (ws ++ [w]))) : popM (.r n) [] S = .ok w (S.set n (.lst ws)) := by
  unfold popM
  simp only [h]
  have e : (ws ++ [w])[(ws ++ [w]).length - 1]? = some w := by simp
  rw [e]
  simp
theorem extend_ok {S : Sto} {n : Nat} {ws ys : List W} {y : W} (h : S[n]? = some (.lst ws)) (hy : seqOf y S = some (true, ys)) (hl : ws.length + ys.length ≤ sizeLine) : extendM (.r n) [y] S = .ok (.d .none) (S.set n (.lst (ws ++ ys))) := by
  unfold extendM
  simp only [h, hy]
  rw [if_pos hl]
theorem append_ok {S : Sto} {n : Nat} {ws : List W} {y : W} (h : S[n]? = some (.lst ws)) (hl : ws.length < sizeLine) : appendM (.r n) [y] S = .ok (.d .none) (S.set n (.lst (ws ++ [y]))) := by
  unfold appendM
  simp only [h]
  rw [if_pos hl]
theorem chkL_r {S : Sto} {n : Nat} {ws : List W} (h : S[n]? = some (.lst ws)) : chkL (.r n) S = .ok () S := by unfold chkL; simp only [seq_at h]
theorem met_ok {fa : Env → M W} {fr : Env → M (List W)} {fo : W → List W → M W} {δ : Env} {n : Nat} {ws : List W} {xs : List W} {w : W} {S S1 : Sto} (h : fa δ S = .ok (.r n) S) (hn : S[n]? = some (.lst ws)) (hr : fr δ S = .ok xs S) (ho : fo (.r n) xs S = .ok w S1) : metM fa fr chkL fo δ S = .ok w S1 := by
  unfold metM
  rw [bd_ok h, bd_ok (chkL_r hn), bd_ok hr]
  exact ho
theorem toD_r {S : Sto} {n : Nat} {ds : List D} (h : S[n]? = some (.lst (ds.map .d))) : toD (.r n) S = some (.list ds) := by
  unfold toD
  simp only [h, allD_map]
  rfl
theorem tuple_r {S : Sto} {n : Nat} {ds : List D} (h : S[n]? = some (.lst (ds.map .d))) : tupleM [.r n] S = .ok (.d (.tuple ds)) S := by
  unfold tupleM
  simp only [toD_r h]
theorem freeze_r {S : Sto} {n : Nat} {ds : List D} (h : S[n]? = some (.lst (ds.map .d))) : freezeM (.r n) S = .ok (.d (.list ds)) (S.set n .dead) := by
  unfold freezeM
  simp only [h, allD_map]
theorem set_set {S : Sto} {n : Nat} {o u : Ob} : (S.set n o).set n u = S.set n u := List.set_set ..
theorem atI_ok {α : Type} {xs : List α} {i : Int} (h0 : 0 ≤ i) (h : i < (xs.length : Int)) : ∃ x, x ∈ xs ∧ atI xs i = some x := by
  have hj : i.toNat < xs.length := by omega
  refine ⟨xs[i.toNat], List.getElem_mem hj, ?_⟩
  unfold L2.atI L2.ixN
  rw [if_pos h0, if_pos h]
  simp [hj]
theorem atI_0 {α : Type} {x : α} {xs : List α} : atI (x :: xs) 0 = some x := by
  unfold L2.atI L2.ixN
  rw [if_pos (by omega), if_pos (by simp only [List.length_cons]; omega)]
  rfl
/-! ### loops -/
theorem wh_end {c : Env → M Bool} {b : Env → M Fl} {n : Nat} {δ : Env} {S S' : Sto} (h : c δ S = .ok false S') : whL c b (n + 1) δ S = .ok (.nx δ) S' := by unfold whL; rw [bd_ok h]; rfl
theorem wh_nx {c : Env → M Bool} {b : Env → M Fl} {n : Nat} {δ δ' : Env} {S S' S'' : Sto} (h : c δ S = .ok true S') (hb : b δ S' = .ok (.nx δ') S'') : whL c b (n + 1) δ S = whL c b n δ' S'' := by
  conv => lhs; unfold whL
  rw [bd_ok h, if_pos rfl, bd_ok hb]
theorem wh_rt {c : Env → M Bool} {b : Env → M Fl} {n : Nat} {δ : Env} {w : W} {S S' S'' : Sto} (h : c δ S = .ok true S') (hb : b δ S' = .ok (.rt w) S'') : whL c b (n + 1) δ S = .ok (.rt w) S'' := by
  conv => lhs; unfold whL
  rw [bd_ok h, if_pos rfl, bd_ok hb]
  rfl
/-! ### the pen: a place of the store with three parts -/
def penO (cs : List Int) (at_ rest : Int) : Ob := .lst [.d (.list (cs.map .int)), .d (.int at_), .d (.int rest)]
structure Pen (S : Sto) (n : Nat) (c : Int) : Prop where
  ex : ∃ cs at_ rest, S[n]? = some (penO cs at_ rest) ∧ 0 ≤ at_ ∧ at_ ≤ c ∧ 0 ≤ rest ∧ cs.length ≤ 63
theorem Pen.mono {S : Sto} {n : Nat} {c c' : Int} (h : Pen S n c) (hc : c ≤ c') : Pen S n c' := by
  obtain ⟨cs, a, r, h1, h2, h3, h4⟩ := h.ex
  exact ⟨cs, a, r, h1, h2, by omega, h4⟩
/-- what a draw says: a number in the range, the pen one further -/
def Draws (F : List W → M W) : Prop := ∀ (S : Sto) (n : Nat) (c many : Int), Pen S n c → c < 1048576 → 1 ≤ many → many < 1073741824 →
  ∃ (k : Int) (o : Ob), F [.r n, .d (.int many)] S = .ok (.d (.int k)) (S.set n o) ∧ 0 ≤ k ∧ k < many ∧ Pen (S.set n o) n (c + 1)
end DL
/-! DL17: equal data, dicts as sets of texts, sorted texts. -/
namespace DL
open PySem PySem.Spec PyProof.Rows L2

mutual
theorem eqv_nd : ∀ d : D, nd d = true → PyData.eqv d d = true
  | .none, _ => rfl
  | .bool b, _ => by simp [PyData.eqv]
  | .int i, _ => by simp [PyData.eqv]
  | .str x, _ => by simp [PyData.eqv]
  | .list xs, h => by rw [PyData.eqv]; exact eqvA_nd xs (by simpa only [nd] using h)
  | .tuple xs, h => by rw [PyData.eqv]; exact eqvA_nd xs (by simpa only [nd] using h)
  | .dict _, h => by simp [nd] at h
theorem eqvA_nd : ∀ xs : List D, ndA xs = true → PyData.eqvAll xs xs = true
  | [], _ => rfl
  | x :: xs, h => by
    simp only [ndA, Bool.and_eq_true] at h
    rw [PyData.eqvAll, eqv_nd x h.1, eqvA_nd xs h.2]
    rfl
end
theorem ndA_of : ∀ {ds : List D}, (∀ d ∈ ds, nd d = true) → ndA ds = true
  | [], _ => by simp only [ndA]
  | d :: ds, h => by
    simp only [ndA, Bool.and_eq_true]
    exact ⟨h d (by simp), ndA_of fun q hq => h q (by simp [hq])⟩
theorem depA_of {k : Nat} : ∀ {ds : List D}, (∀ d ∈ ds, d.depth ≤ k) → PyData.depthAll ds ≤ k
  | [], _ => by simp [PyData.depthAll]
  | d :: ds, h => by
    have h1 := h d (by simp)
    have h2 := depA_of (ds := ds) fun q hq => h q (by simp [hq])
    simp only [PyData.depthAll]
    omega
theorem isNil_no {y : D} (h : y ≠ .list []) : isNil (.d y) = false := by
  cases hq : isNil (.d y) with
  | false => rfl
  | true =>
    have := isNil_of hq
    cases this
    exact absurd rfl h
theorem eq_d {x y : D} {S : Sto} (hy : y ≠ .list []) (hd : min x.depth y.depth ≤ 64) (hx : nd x = true) (hn : nd y = true) : eqM (.d x) (.d y) S = .ok (okb (PyData.eqv x y)) S := by
  unfold eqM
  rw [if_neg (by rw [isNil_no hy]; decide)]
  unfold eqD
  simp only [toD]
  rw [if_pos ⟨hd, hx, hn⟩]
theorem ne_d {x y : D} {S : Sto} (hy : y ≠ .list []) (hd : min x.depth y.depth ≤ 64) (hx : nd x = true) (hn : nd y = true) : neM (.d x) (.d y) S = .ok (okb (!PyData.eqv x y)) S := by
  unfold neM
  rw [if_neg (by rw [isNil_no hy]; decide)]
  unfold neD
  simp only [toD]
  rw [if_pos ⟨hd, hx, hn⟩]
theorem ne_same {x : D} {S : Sto} (hd : x.depth ≤ 64) (hx : nd x = true) : neM (.d x) (.d x) S = .ok (okb false) S := by
  by_cases hy : x = .list []
  · subst hy; rfl
  · rw [ne_d hy (by omega) hx hx, eqv_nd x hx]; rfl
theorem eq_same {x : D} {S : Sto} (hd : x.depth ≤ 64) (hx : nd x = true) : eqM (.d x) (.d x) S = .ok (okb true) S := by
  by_cases hy : x = .list []
  · subst hy; rfl
  · rw [eq_d hy (by omega) hx hx, eqv_nd x hx]
theorem calK_ok {fr fk : Env → M (List W)} {gW : List W → List W → List W} {fo : List W → M W} {δ : Env} {xs ys zs : List W} {w : W} {S S1 S2 S3 : Sto} (h1 : fr δ S = .ok xs S1) (h2 : fk δ S1 = .ok ys S2) (hg : gW xs ys = zs) (h3 : fo zs S2 = .ok w S3) : calK fr fk gW fo δ S = .ok w S3 := by
  unfold calK
  rw [bd_ok h1, bd_ok h2, hg]
  exact h3
/-! ### dicts as sets of texts -/
def kv (ks : List Str) : List (Key × W) := ks.map fun z => (Sum.inr z, .d (.bool true))
def ins (ks : List Str) (z : Str) : List Str := if z ∈ ks then ks else ks ++ [z]
theorem kv_len (ks : List Str) : (kv ks).length = ks.length := by simp [kv]
theorem kv_any (ks : List Str) (z : Str) : ((kv ks).any fun q => decide (q.1 = Sum.inr z)) = decide (z ∈ ks) := by
  induction ks with
  | nil => rfl
  | cons a ks ih =>
    simp only [kv, List.map_cons, List.any_cons, List.mem_cons] at ih ⊢
    rw [ih]
    by_cases e : a = z
    · subst e; simp
    · have e' : ¬ z = a := fun q => e q.symm
      simp [e, e']
theorem put_kv (ks : List Str) (z : Str) : putW (kv ks) (Sum.inr z) (.d (.bool true)) = kv (ins ks z) := by
  unfold putW ins
  rw [kv_any]
  by_cases h : z ∈ ks
  · rw [if_pos (by simpa using h), if_pos h]
    unfold kv
    rw [List.map_map]
    refine List.map_congr_left fun a _ => ?_
    simp only [Function.comp]
    split
    · rename_i e; rw [e]
    · rfl
  · rw [if_neg (by simpa using h), if_neg h]
    simp [kv]
theorem ins_nodup {ks : List Str} {z : Str} (h : ks.Nodup) : (ins ks z).Nodup := by
  unfold ins
  split
  · exact h
  · rename_i hz
    rw [List.nodup_append]
    refine ⟨h, by simp, fun a ha b hb => ?_⟩
    simp at hb
    subst hb
    exact fun e => hz (e ▸ ha)
theorem mem_ins {ks : List Str} {z a : Str} : a ∈ ins ks z ↔ a ∈ ks ∨ a = z := by
  unfold ins
  split
  · rename_i hz
    exact ⟨.inl, fun h => h.elim id fun e => e ▸ hz⟩
  · simp
theorem ins_len {ks : List Str} {z : Str} : (ins ks z).length ≤ ks.length + 1 := by
  unfold ins
  split <;> simp
def uniq (us : List Str) : List Str := us.foldl ins []
theorem fold_ins : ∀ (us ks : List Str), ks.Nodup → (us.foldl ins ks).Nodup ∧ ∀ a, a ∈ us.foldl ins ks ↔ a ∈ ks ∨ a ∈ us
  | [], ks, h => ⟨h, fun a => by simp⟩
  | u :: us, ks, h => by
    obtain ⟨h1, h2⟩ := fold_ins us (ins ks u) (ins_nodup h)
    refine ⟨h1, fun a => ?_⟩
    show a ∈ us.foldl ins (ins ks u) ↔ _
    rw [h2, mem_ins, List.mem_cons, or_assoc]
theorem uniq_nodup (us : List Str) : (uniq us).Nodup := (fold_ins us [] List.nodup_nil).1
theorem mem_uniq {us : List Str} {a : Str} : a ∈ uniq us ↔ a ∈ us := by
  rw [show (a ∈ uniq us ↔ _) from (fold_ins us [] List.nodup_nil).2 a]
  simp
theorem merge_kv : ∀ (us ks : List Str), mergeW (kv ks) (us.map fun z => (Sum.inr z, .d (.bool true))) = kv (us.foldl ins ks)
  | [], ks => rfl
  | u :: us, ks => by
    have := merge_kv us (ins ks u)
    unfold mergeW at this ⊢
    simp only [List.map_cons, List.foldl_cons, put_kv]
    exact this
theorem pairs_kv : ∀ us : List Str, pairsD (us.map fun z => .tuple [.str z, .bool true]) = some (us.map fun z => (Sum.inr z, .bool true))
  | [] => rfl
  | u :: us => by
    simp only [List.map_cons, pairsD, keyOf, pairs_kv us]
theorem dict_ok (us : List Str) (S : Sto) : dictM [.d (.list (us.map fun z => .tuple [.str z, .bool true]))] S = .ok (.r S.length) (S ++ [.dct (kv (uniq us))]) := by
  unfold dictM
  simp only [pairs_kv, List.map_map]
  have := merge_kv us []
  unfold uniq
  rw [← this]
  rfl
theorem listD_ok {S : Sto} {n : Nat} {ks : List Str} (h : S[n]? = some (.dct (kv ks))) : listDM [.r n] S = .ok (.d (.list (ks.map .str))) S := by
  unfold listDM
  simp only [h]
  unfold kv
  rw [List.map_map]
  rfl
theorem strs_map : ∀ ks : List Str, strsD (ks.map .str) = some ks
  | [] => rfl
  | k :: ks => by simp [strsD, strs_map ks]
theorem sort_ok {S : Sto} {ks : List Str} (h : ks.length < 64) : sortM [.d (.list (ks.map .str))] S = .ok (.d (.list ((sortS ks).map .str))) S := by
  unfold sortM
  simp only [toD, strs_map]
  rw [if_pos h]
theorem sort_eq {as bs : List Str} (ha : as.Nodup) (hb : bs.Nodup) (h : ∀ z, z ∈ as ↔ z ∈ bs) : sortS as = sortS bs := by
  refine List.Perm.eq_of_pairwise (le := leS) (fun a b _ _ h1 h2 => ?_) (sortS_sorted as) (sortS_sorted bs) ((sortS_perm as).trans (((List.perm_ext_iff_of_nodup ha hb).mpr h).trans (sortS_perm bs).symm))
  have e : a.cps.toList = b.cps.toList := List.le_antisymm h1 h2
  have e2 : a.cps = b.cps := Array.toList_inj.mp e
  cases a; cases b; cases e2; rfl
/-- is a text among texts -/
theorem eqv_str (a b : Str) : PyData.eqv (.str a) (.str b) = decide (a = b) := by
  rw [PyData.eqv]
  by_cases h : a = b
  · subst h; simp
  · simp [h]
theorem in_strs (z : Str) (ks : List Str) : ((ks.map PyData.str).any fun y => PyData.eqv y (.str z)) = decide (z ∈ ks) := by
  induction ks with
  | nil => rfl
  | cons a ks ih =>
    simp only [List.map_cons, List.any_cons, ih, eqv_str, List.mem_cons]
    by_cases e : a = z
    · subst e; simp
    · have e' : ¬ z = a := fun q => e q.symm
      simp [e, e']
theorem nd_strs (ks : List Str) : ndA (ks.map PyData.str) = true := ndA_of fun d hd => by
  obtain ⟨z, _, rfl⟩ := List.mem_map.mp hd
  simp only [nd]
theorem notin_ok {S : Sto} (z : Str) (ks : List Str) : notInM (.d (.str z)) (.d (.tuple (ks.map .str))) S = .ok (okb (!decide (z ∈ ks))) S := by
  unfold notInM
  simp only [toD]
  rw [if_pos ⟨by simp [PyData.depth], by simp only [nd], nd_strs ks⟩, in_strs]
end DL
/-! DL18: own errors whose __init__ says super().__init__('..'); self.f = f. -/
namespace DLE
open PySem PySem.W PySem.HandSPX PySem.Calls PyProof.Rows

section
variable {prog : Program} {w : World} {A : Around} {E : Value → Shared → Prop} {h : Heap} {g : Array GenState} {d : Drawn} {t : Nat} {os : OsState}
variable {nm q : Str} {C N : Addr} {bs bm : List Value} {hdct : Bool} {sn : List Str} {sub : List Value} {ab : Bool} {col : Option Bool} {dd : Option Addr} {k0 k1 k2 k3 k5 : Option Value}
/-- the bound ValueError.__init__ called -/
theorem call_bwV {u e t0 : Addr} {rest : List Value} {Q : Value → Shared → Prop} (hC : h.get? C = some (excClassObj nm q C N bs bm hdct sn sub ab col dd k0 k1 k2 k3 k5 "ValueError.__new__")) (he : h.get? e = some (excO C t0)) (hu : h.get? u = some (kxs_mw "ValueError.__init__" e)) (hrest : rest.length ≤ sizeLine)
    (hq : ∀ h' t1, (∀ b o, b ≠ e → h.get? b = some o → h'.get? b = some o) → h'.get? e = some (excO C t1) → Q .none ⟨h', g, d, t, os⟩) : wpAny (model prog w) A (call (.ref u) rest) Q E ⟨h, g, d, t, os⟩ := by
  refine wpAny_call (codeAny_of_tree ?_)
  show wpAny _ A.in1 (callAny (.ref u) ⟨rest, []⟩) _ _ _
  simp only [callAny]
  refine wpAny_bind (wpAny_load hu ?_)
  simp only [kxs_mw, show (Value.type "method-wrapper" == Value.type "method" || Value.type "method-wrapper" == Value.type "builtin_function_or_method" || Value.type "method-wrapper" == Value.type "method-wrapper") = true by decide, if_true]
  refine KFB.if_so (by decide) ?_
  refine wpAny_bind (check_bound_init PySem.F.excBase_ValueError.toExcCallFacts hC he rfl ?_)
  refine wpAny_bind (wpAny_pure (wpAny_pure ?_))
  refine ⟨plainId_quiet PySem.F.excBase_ValueError.init.plain _, codeAny_builtin PySem.F.excBase_ValueError.initEntry ?_⟩
  rw [Around.under_plainId PySem.F.excBase_ValueError.init.plain _]
  wp_walk
  refine hq _ h.objs.size (fun b o hb ho => ?_) ?_
  · rw [Heap.get?_update_other _ _ (Ne.symm hb)]
    exact Heap.get?_push_of_some _ ho
  · rw [Heap.get?_update_self _ (Heap.get?_push_of_some _ he) rfl]
    rfl
end
/-- what the written part says of such a class at C, its __init__ at fI, whose body is what it is -/
structure SupTxt (prog : Program) (K : Frag) (mg : Str → Option Value) (C fI : Addr) (q f : Str) (params : Arguments) (body : List Stmt) (sc : Scope) : Prop where
  cls : ∃ nm qn N bs bm sn sub ab col dd k0 k1 k2 k3 k5, K.lookup C = some (excClassObj nm qn C N bs bm true sn sub ab col dd k0 k1 k2 k3 k5 "ValueError.__new__") ∧ refsVE bm = true
  sa : findIn K (.ref C) "__setattr__" = some (some (.builtin "object.__setattr__"))
  noN : findIn K (.ref C) f = some none
  iC : findIn K (.ref C) "__init__" = some (some (.ref fI))
  tC : typeIn K (.ref fI) = some (.type "function")
  kC : keepIn K (.ref C) = true
  exC : subIn K (.ref C) (.type "BaseException") = some true
  tyC : typeIn K (.ref C) = some (.type "type")
  sup : ks_superIn K C C "__init__" = some (some (.builtin "ValueError.__init__"))
  subV : subIn K (.ref C) (.type "ValueError") = some true
  any : nsIn K cStatics "thirdparty.any" = some none
  msup : mg "super" = none
  top : (prog.main.scope.names.lookup ("super" : Str)).isSome = false
  mroC : mroIn K C (.ref C) = some true
  fn : ∃ (oc : Value) (od : Option Addr) (doc pm : Value) (an : Option Addr) (cda cc : Addr) (ct : Value) (osl : Array (Option Value)) (ccl : Value) (cdd : Option Addr) (vs : Array Value) (ccs : Array (Option Value)) (file : Str) (tf : Tok) (cl : Value) (cld : Option Addr) (csl : Array (Option Value)),
    K.lookup fI = some ⟨oc, od, .func (fnX "__init__" q params body sc [("__class__", cc)] .none .none doc pm an (.ref cda) ct), osl⟩ ∧ codeIn K (.ref cda) q = true ∧
      K.lookup cda = some ⟨ccl, cdd, .fields vs, ccs⟩ ∧ vs[2]? = some (.str file tf) ∧ ((prog.main.file : Str) == file) = true ∧ K.lookup cc = some ⟨cl, cld, .cell (some (.ref C)), csl⟩
/-- what __init__ leaves of a fresh error at x -/
structure InitEnd (h h' : Heap) (x C dx : Addr) (f : Str) (v : Value) : Prop where
  keep : ∀ b o, b ≠ x → h.get? b = some o → h'.get? b = some o
  obj : ∃ t1 : Addr, h'.get? x = some { cls := .ref C, dict := some dx, data := .fields #[.ref t1, .none, .none, .none, .bool false, .none] }
  dbig : h.objs.size ≤ dx
  dne : dx ≠ x
  ns : h'.Ns1 dx (fun y => if y = f then some v else none)
section
variable {prog : Program} {w : World} {A : Around} {E : Value → Shared → Prop} {R : Result → Shared → Prop} {s : Shared} {K : Frag} {mg mb : Str → Option Value} {C fI : Addr} {q f : Str} {params : Arguments} {body : List Stmt} {sc : Scope}
theorem err_init {msg : Str} {j} {pl : PySem.Env → Sem Bool} {p0 p1 p2 p3 p4 p5 p6 p7 p8 p9 : Pos} {ar : Arg} (hbody : body = [.Expr (.Call (.Attribute (.Call (.Name "super" p0) [] [] p1) "__init__" p2) [.Constant (.str msg) j p3] [] p4) p5, .Assign [.Attribute (.Name "self" p6) f p7] (.Name f p8) p9])
    (he : ∀ env : PySem.Env, eval (.Call (.Attribute (.Call (.Name "super" p0) [] [] p1) "__init__" p2) [.Constant (.str msg) j p3] [] p4) env = (do
      let ov ← attributeBase (.Call (.Name "super" p0) [] [] p1) "__init__" env (eval (.Call (.Name "super" p0) [] [] p1) env)
      standAt p2.atName
      let (f, first) ← holding [ov] (getMethod ov "__init__" (pl env))
      callWith p4 f first (backTo p4 (starEach [.Constant (.str msg) j p3] env)) []))
    (hi : ∀ (L cda cc : Addr), interactive (ksEnv q sc L fI (.ref cda) cc) = false) (hw1 : ∀ (L cda cc : Addr), swapsWith (.Call (.Attribute (.Call (.Name "super" p0) [] [] p1) "__init__" p2) [.Constant (.str msg) j p3] [] p4) none p5.line (ksEnv q sc L fI (.ref cda) cc) = pure false)
    (hw2 : ∀ (L cda cc : Addr), swapsWith (.Name f p8) (some (.Attribute (.Name "self" p6) f p7)) p9.line (ksEnv q sc L fI (.ref cda) cc) = pure false)
    (T : SupTxt prog K mg C fI q f params body sc) {x t0 : Addr} {v : Value} (X : K.In s.heap) (hlim : s.heap.NoLimit) (hG : s.heap.Ns mainGlobals mg) (hB : s.heap.Ns builtinsNs mb) (hbb : ∀ x : Str, x ≠ "__name__" → mb x = bootBuiltins x)
    (hx : s.heap.get? x = some (excO C t0)) (hnx : K.lookup x = none) (hxg : x ≠ C) (hroom : A.depth < recursionLimit)
    (hbind : ∀ (cc cda : Addr) (doc pm ct : Value) (an : Option Addr), bindArgs (fnX "__init__" q params body sc [("__class__", cc)] .none .none doc pm an (.ref cda) ct) ⟨[.ref x, v], []⟩ = pure [(("self" : Str), .ref x), (f, v)])
    (har : (params.posonlyargs ++ params.args).head? = some ar) (harn : ar.arg = "self") (hself : sc.names.lookup ("self" : Str) = some .local) (hf : sc.names.lookup f = some .local) (hks : sc.names.lookup ("super" : Str) = some .globalImplicit) (hkc : sc.names.lookup ("__class__" : Str) = some .free)
    (hcell : ∀ y ∈ sc.names, y.2 ≠ .cell) (hco : sc.isCoroutine = false) (hgen : sc.isGenerator = false) (hk : sc.kind = .function) (hfs : f ≠ "self") (hfd : (f == ("__debug__" : Str)) = false)
    (hq : ∀ h' tk dx, InitEnd s.heap h' x C dx f v → R (.ok (.ret .none)) { s with heap := h', toks := tk }) :
    codeAny (model prog w) A (.call (.ref fI) ⟨[.ref x, v], []⟩) R s := by
  obtain ⟨oc, od, doc, pm, an, cda, cc, ct, osl, ccl, cdd, vs, ccs, file, tf, cl, cld, csl, ho, hcd, hcode, hvs, hfile, hcellO⟩ := T.fn
  obtain ⟨nm, qn, N, bs, bm, sn, sub, ab, col, dd, k0, k1, k2, k3, k5, hC, hbm⟩ := T.cls
  subst hbody
  refine ks_codeAny_call_defAt (fd := fnX "__init__" q params _ sc [("__class__", cc)] .none .none doc pm an (.ref cda) ct) (binds := [(("self" : Str), .ref x), (f, v)]) hroom (X _ _ ho) rfl hlim (codeRec_of X hcd) rfl (.of_eq (hbind _ _ _ _ _ _)) hcell (fun y hy => ?_) (fun h₁ hns k => ?_) hco hgen hk
  · simp only [List.mem_cons, List.not_mem_nil, or_false] at hy
    rcases hy with rfl | rfl
    · exact hself
    · exact hf
  have X₁ : K.In h₁ := X.keeps k
  have hx₁ := k _ _ hx
  have hCl : clsIn K C = some { name := nm, bases := bs, mro := .ref C :: bm, ns := N, qualname := qn, hasDict := true, slotNames := sn, subclasses := sub, abstract := ab, collection := col, hasDel := false } := by unfold clsIn; rw [hC] <;> rfl
  have I₁ : InstAt h₁ x (excO C t0) C none := ⟨hx₁, rfl, rfl, trivial⟩
  obtain ⟨s1, s2, s3, s4, s5⟩ := s
  refine ks_wpAt_execs_cons (ks_wpAt_Expr_any (ks_wpAt_MethodCall ?_ (he _)) (hi _ _ _) (hw1 _ _ _))
  refine ks_wpAt_super_base hks hkc (by decide) rfl (X₁ _ _ ho) rfl har rfl (X₁ _ _ hcode) rfl hvs hfile T.top ?_
  refine ks_loadName_global hk hks (loadGlobal_builtin (hG.keeps k) T.msup (hB.keeps k) ((hbb _ (by decide +kernel)).trans (by decide +kernel)) ⟨rfl, ?_⟩)
  refine wpAny_loadName_free hk hkc rfl ⟨_, X₁ _ _ hcellO, rfl⟩ ?_
  rw [harn]
  have lkS : ([(f, v), (("self" : Str), Value.ref x)] : List (Str × Value)).lookup ("self" : Str) = some (.ref x) := by
    have e : (("self" : Str) == f) = false := by simpa using fun z : ("self" : Str) = f => hfs z.symm
    simp [List.lookup, e]
  have lkF : ([(f, v), (("self" : Str), Value.ref x)] : List (Str × Value)).lookup f = some v := by simp [List.lookup]
  refine wpAny_loadName_local hk hself hns lkS ?_
  have hC₁ : h₁.get? C = _ := X₁ _ _ hC
  refine ks_wpAny_isType_cls hC₁ rfl ⟨rfl, ?_⟩
  refine ks_wpAny_call_super hC₁ rfl hx₁ rfl (fun c e => by cases e) (looks_mroIn X₁ T.mroC) (fun h₂ e2 k2 => ?_)
  have X₂ : K.In h₂ := X₁.keeps k2
  have hx₂ := k2 _ _ hx₁
  have I₂ : InstAt h₂ x (excO C t0) C none := ⟨hx₂, rfl, rfl, trivial⟩
  have hsup : alongIn K "__init__" (((.ref C :: bm : List Value).dropWhile (· != .ref C)).drop 1) = some (some (.builtin "ValueError.__init__")) := by
    have := T.sup
    unfold ks_superIn at this
    rw [hCl] at this
    exact this
  refine kxs_getMethod kxs_ValueError e2 (looks_opaque X₂ T.any) (l₀ := .ref C :: bm) (fun A Q E s k q => wpAny_bind ((looks_clsIn X₂ hCl) A _ E s k (wpAny_pure q))) rfl X₂ hsup (I₂.type.andThen (looks_subIn X₂ T.subV)) hxg (by decide) ?_
  have hu : (h₂.push (kxs_mw "ValueError.__init__" x)).get? h₂.objs.size = some (kxs_mw "ValueError.__init__" x) := Heap.get?_push_at rfl rfl
  refine kxs_callWith (i := "ValueError.__init__") (x := x) (by rfl) (evalArgs_plain ?_)
  show wpAny _ _ (spliced ((false, eval (.Constant (.str msg) j p3) _) :: [])) _ _ _
  refine Calls.spliced_cons (Calls.Constant_str (Calls.spliced_nil ⟨hu, ?_⟩))
  have k3 : ∀ b o, h₂.get? b = some o → (h₂.push (kxs_mw "ValueError.__init__" x)).get? b = some o := fun b o e => Heap.get?_push_of_some _ e
  refine call_bwV (k3 _ _ (X₂ _ _ hC)) (k3 _ _ hx₂) hu (by show 1 ≤ sizeLine; decide) fun h₄ t1 k4 hx₄ => ?_
  have keep4 : ∀ b o, b ≠ x → h₁.get? b = some o → h₄.get? b = some o := fun b o hb e => k4 b o hb (k3 b o (k2 b o e))
  have X₄ : K.In h₄ := fun b o e => keep4 b o (fun z => by rw [z, hnx] at e; cases e) (X₁ b o e)
  have hns₄ : h₄.Ns s1.objs.size (fun y => ([(f, v), (("self" : Str), Value.ref x)] : List (Str × Value)).lookup y) := by
    refine Heap.Ns.at hns fun o e => keep4 _ o (fun z => ?_) e
    have := Heap.lt_size hx
    rw [← z] at this
    exact absurd this (Nat.lt_irrefl _)
  -- self.f = f
  refine ks_wpAt_execs_cons (ks_wpAt_Assign_Attr ?_ (hw2 _ _ _))
  refine wpAt_of_wpAny (wpAny_Name (wpAny_loadName_local hk hf hns₄ lkF ?_) hfd)
  refine wpAny_Name (wpAny_loadName_local hk hself hns₄ lkS ?_) (by decide)
  refine set_plain X₄ (ox := excO C t1) (od := none) ⟨hx₄, rfl, rfl, trivial⟩ T.sa ?_
  refine exc_osa X₄ hx₄ hCl (show refsVE (.ref C :: bm) = true from hbm) rfl T.noN (fun h₅ tk₅ dx k₅ dn dne hx₅ hn₅ => ?_)
  show _root_.PySem.wpAt _ _ _ (execs _ _) _ _ _
  refine wpAt_of_wpAny (wpAny_execs_nil (hq h₅ tk₅ dx ⟨fun b o hb e => k₅ b o hb (keep4 b o hb (k b o e)), ⟨t1, hx₅⟩, ?_, dne, hn₅⟩))
  exact Nat.le_of_lt (Nat.lt_of_lt_of_le hns₄.lt dn)
/-- the written part's own facts of the __init__ of that shape -/
structure InitForm (q f msg : Str) (fI : Addr) (params : Arguments) (body : List Stmt) (sc : Scope) : Prop where
  ex : ∃ (j : Nat) (pl : PySem.Env → Sem Bool) (p0 p1 p2 p3 p4 p5 p6 p7 p8 p9 : Pos) (ar : Arg), body = [.Expr (.Call (.Attribute (.Call (.Name "super" p0) [] [] p1) "__init__" p2) [.Constant (.str msg) j p3] [] p4) p5, .Assign [.Attribute (.Name "self" p6) f p7] (.Name f p8) p9] ∧
    (∀ env : PySem.Env, eval (.Call (.Attribute (.Call (.Name "super" p0) [] [] p1) "__init__" p2) [.Constant (.str msg) j p3] [] p4) env = (do
      let ov ← attributeBase (.Call (.Name "super" p0) [] [] p1) "__init__" env (eval (.Call (.Name "super" p0) [] [] p1) env)
      standAt p2.atName
      let (f, first) ← holding [ov] (getMethod ov "__init__" (pl env))
      callWith p4 f first (backTo p4 (starEach [.Constant (.str msg) j p3] env)) [])) ∧
    (∀ (L cda cc : Addr), interactive (ksEnv q sc L fI (.ref cda) cc) = false) ∧ (∀ (L cda cc : Addr), swapsWith (.Call (.Attribute (.Call (.Name "super" p0) [] [] p1) "__init__" p2) [.Constant (.str msg) j p3] [] p4) none p5.line (ksEnv q sc L fI (.ref cda) cc) = pure false) ∧
    (∀ (L cda cc : Addr), swapsWith (.Name f p8) (some (.Attribute (.Name "self" p6) f p7)) p9.line (ksEnv q sc L fI (.ref cda) cc) = pure false) ∧
    (params.posonlyargs ++ params.args).head? = some ar ∧ ar.arg = "self"
  bind : ∀ (x : Addr) (v : Value) (cc cda : Addr) (doc pm ct : Value) (an : Option Addr), bindArgs (fnX "__init__" q params body sc [("__class__", cc)] .none .none doc pm an (.ref cda) ct) ⟨[.ref x, v], []⟩ = pure [(("self" : Str), .ref x), (f, v)]
  self : sc.names.lookup ("self" : Str) = some .local
  fld : sc.names.lookup f = some .local
  sup : sc.names.lookup ("super" : Str) = some .globalImplicit
  cls : sc.names.lookup ("__class__" : Str) = some .free
  cell : ∀ y ∈ sc.names, y.2 ≠ .cell
  co : sc.isCoroutine = false
  gen : sc.isGenerator = false
  kind : sc.kind = .function
  fs : f ≠ "self"
  fd : (f == ("__debug__" : Str)) = false
/-- a made error -/
structure OwnMade (h h' : Heap) (e C d : Addr) (f : Str) (v : Value) : Prop where
  keep : ∀ b o, h.get? b = some o → h'.get? b = some o
  new : h.objs.size ≤ e
  obj : ∃ oe vs, h'.get? e = some oe ∧ oe.cls = .ref C ∧ oe.dict = some d ∧ oe.data = .fields vs ∧ vs[1]? = some .none
  dbig : h.objs.size ≤ d
  dne : d ≠ e
  ns : h'.Ns1 d (fun y => if y = f then some v else none)
theorem one_size (v : Value) : [v].length ≤ sizeLine := by show 1 ≤ sizeLine; decide
theorem err_made {msg : Str} (T : SupTxt prog K mg C fI q f params body sc) (B : InitForm q f msg fI params body sc) {v : Value} (X : K.In s.heap) (hlim : s.heap.NoLimit) (hG : s.heap.Ns mainGlobals mg) (hB : s.heap.Ns builtinsNs mb) (hbb : ∀ x : Str, x ≠ "__name__" → mb x = bootBuiltins x) (hroom : A.depth + 1 < recursionLimit)
    (hq : ∀ h' tk e d, OwnMade s.heap h' e C d f v → R (.ok (.ret (.ref e))) { s with heap := h', toks := tk }) :
    codeAny (model prog w) A (.call (.ref C) ⟨[v], []⟩) R s := by
  obtain ⟨nm, qn, N, bs, bm, sn, sub, ab, col, dd, k0, k1, k2, k3, k5, hC, hbm⟩ := T.cls
  obtain ⟨hp, g, dr, tk, os⟩ := s
  have k : ∀ b o, hp.get? b = some o → ((hp.push (kdv_tup [v])).push (excO C hp.objs.size)).get? b = some o := fun b o e => Heap.get?_push_of_some _ (Heap.get?_push_of_some _ e)
  have hget : ((hp.push (kdv_tup [v])).push (excO C hp.objs.size)).get? (hp.objs.size + 1) = some (excO C hp.objs.size) := by heap_get
  have hnx : K.lookup (hp.objs.size + 1) = none := by
    cases e : K.lookup (hp.objs.size + 1) with
    | none => rfl
    | some o =>
      have z : hp.get? (hp.objs.size + 1) = some o := X _ _ e
      exact absurd (Nat.lt_of_succ_lt (Heap.lt_size z)) (Nat.lt_irrefl _)
  have hxg : hp.objs.size + 1 ≠ C := fun z => by rw [z, hC] at hnx; cases hnx
  refine call_own PySem.F.excBase_ValueError (fun X => refsVE_contains X bm hbm) (X _ _ hC) (looks_findIn X T.iC) (fun self => bind_fn X self T.tC) (one_size v) ?_
  obtain ⟨j, pl, p0, p1, p2, p3, p4, p5, p6, p7, p8, p9, ar, hbody, he, hi, hw1, hw2, har, harn⟩ := B.ex
  refine err_init (s := ⟨(hp.push (kdv_tup [v])).push (excO C hp.objs.size), g, dr, tk, os⟩) hbody he hi hw1 hw2 T (X.keeps k) (hlim.keeps k) (hG.keeps k) (hB.keeps k) hbb hget hnx hxg ?_ (fun cc cda doc pm ct an => B.bind _ _ cc cda doc pm ct an) har harn B.self B.fld B.sup B.cls B.cell B.co B.gen B.kind B.fs B.fd fun h' tk' dx ⟨k', hx, dn, dne, hns⟩ => ?_
  · show A.depth + 1 < recursionLimit
    exact hroom
  · have old : ∀ b o, hp.get? b = some o → h'.get? b = some o := fun b o e => k' b o (Nat.ne_of_lt (Nat.lt_succ_of_lt (Heap.lt_size e))) (k b o e)
    have z : hp.objs.size + 1 + 1 ≤ dx := by
      have q := dn
      rw [Heap.size_push, Heap.size_push] at q
      exact q
    obtain ⟨t1, hx⟩ := hx
    exact ⟨rfl, hq h' tk' (hp.objs.size + 1) dx ⟨old, Nat.le_succ _, ⟨_, _, hx, rfl, rfl, rfl, rfl⟩, Nat.le_trans (Nat.le_trans (Nat.le_succ _) (Nat.le_succ _)) z, dne, hns⟩⟩
end
end DLE
/-! DL19: raise, and what may raise. -/
namespace DL
open PySem PySem.Spec PyProof.Rows L2

/-- the errors of Z are taken where X runs -/
structure Tk (X : Cx) (Z : XZ) : Prop where
  ex : ∃ W : WX, Takes X W ∧ ∀ (x : Ex) (S : Sto) (ρ : Pl) (H : Hp) (cls : Value) (d : Option Addr) (σ : L2.St), Z x S ρ H → FlX X.K H (Live S ρ) x cls d → W cls d σ H
theorem relO_one {f : Str} {v : V} {v' : Value} (r : RelV v v') (g : Str) : RelO (List.lookup g [(f, v)]) (if g = f then some v' else none) := by
  by_cases hw : g = f
  · subst hw
    rw [if_pos rfl]
    have q : List.lookup g [(g, v)] = some v := by simp [List.lookup]
    rw [q]
    exact r
  · rw [if_neg hw]
    have qw : (g == f) = false := by simpa using hw
    have q2 : List.lookup g [(f, v)] = none := by simp [List.lookup, qw]
    rw [q2]
    trivial
section
variable {X : Cx} {C fI : Addr} {x q f msg : Str} {params : Arguments} {body : List Stmt} {sc : Scope} {Z : XZ}
/-- C(e) -/
def tMkE (C : Addr) (f : Str) (ta : TA) : L2.St → Hp → XK → Prop := fun σ H Q => ta σ H fun vs H1 => ∃ v, vs = [v] ∧ ∀ d, H1 d = none → Q (.ref C) (some d) (upd H1 d (.xd [(f, v)]))
theorem pmk_err {a : Expr} {ta : TA} {p pos : Pos} {k : Nat} (T : DLE.SupTxt X.prog X.K X.mg C fI q f params body sc) (B : DLE.InitForm q f msg fI params body sc) (hm : X.mg x = some (.ref C)) (hr : Room k X.A) (ha : PA X [a] ta) (hg : Gl X x)
    (hdb : (x == ("__debug__" : Str)) = false := by decide) (he : starEach (a :: []) X.env = (false, eval a X.env) :: starEach [] X.env := by rfl) (hpl : (backTo pos (starEach [] X.env)).any (·.1) = false := by rfl) :
    PMk X (.Call (.Name x p) [a] [] pos) (tMkE C f ta) := by
  intro pins s σ H Q I h
  refine wpAny_Call_Name_kw (ld_glob I hg hm ?_ hdb)
  refine PySem.W.callWith_K (h₀ := X.base) I.ok.mod.kin T.kC (thn (ha.run pos pins s σ H _ I h) fun us s1 hh => ?_) he hpl
  obtain ⟨vs, H1, I1, r1, v, ev, q1⟩ := hh
  subst ev
  refine ⟨I1.kIn, ?_⟩
  cases r1 with
  | cons rv rn =>
    rename_i v' us'
    cases rn
    show wpAny _ _ (call (.ref C) [v']) _ _ _
    have hlim := I1.nolimit
    have hG := I1.ok.mod.glob.keeps I1.bk
    obtain ⟨mb, hB0, hbb⟩ := I1.ok.mod.blt
    have hB := hB0.keeps I1.bk
    obtain ⟨hp, g, dr, tk, os⟩ := s1
    refine wpAny_call (DLE.err_made T B I1.kIn hlim hG hB hbb (by have := hr.dp; omega) fun h' tk' e d M => ?_)
    show MkP X pins σ Q (.ref e) ⟨h', g, dr, tk', os⟩
    obtain ⟨oe, fv, hoe, hc, hd, hdat, h1⟩ := M.obj
    have hns := M.ns
    obtain ⟨G', g1, g2⟩ := restrict h' fun b => decide (b ≠ e)
    have gk : ∀ b, b ≠ e → G'.get? b = h'.get? b := fun b hb => g1 b (decide_eq_true hb)
    have ge : G'.get? e = none := g2 e (by simp)
    have old : ∀ b o, hp.get? b = some o → G'.get? b = some o := fun b o q => (gk b (Nat.ne_of_lt (Nat.lt_of_lt_of_le (Heap.lt_size q) M.new))).trans (M.keep b o q)
    have ob : ObjOk X.prog X.w (upd H1 d (.xd [(f, v)])) G' d (.xd [(f, v)]) :=
      ⟨_, hns.at (fun o q => (gk d M.dne).trans q), fun g => relO_one rv g⟩
    have J : Inv X pins σ (upd H1 d (.xd [(f, v)])) ⟨G', g, dr, tk', os⟩ := I1.laid (t' := tk') old M.dbig ob
    refine ⟨e, oe, fv, ⟨G', g, dr, tk', os⟩, _, .ref C, some d, rfl, J, fun b o q => ?_, ge, hoe, ⟨hc, hd⟩, hdat, h1, ?_, rfl, I1.bare, raises_own T.exC T.tyC, q1 d (I1.hok.fresh M.dbig)⟩
    · by_cases hb : b = e
      · have q' : G'.get? b = some o := q
        rw [hb, ge] at q'; cases q'
      · exact (gk b hb).symm.trans q
    · rw [upd_ne (Ne.symm M.dne)]
      exact I1.hok.fresh M.new
/-- raise x(e), f its field -/
def raiseEx (x f : Str) (w : W) : M Fl := fun S => match w with
  | .d v => .ex ⟨x, [(f, v)]⟩ S
  | _ => .no
abbrev raiseM (x f : Str) (fa : Env → M W) : Env → M Fl := fun δ => bd (fa δ) fun w => raiseEx x f w
theorem ds_raise {a : Expr} {fa : Env → M W} {p pos pos2 : Pos} {k : Nat} (hc : X.calm = true) (tk : Tk X Z) (T : DLE.SupTxt X.prog X.K X.mg C fI q f params body sc) (B : DLE.InitForm q f msg fI params body sc) (hm : X.mg x = some (.ref C)) (hn : PySem.W.nsIn X.K mainGlobals x = some (some (.ref C))) (hr : Room k X.A)
    (ha : PE X a (tE X.K Z fa)) (hg : Gl X x) (hdb : (x == ("__debug__" : Str)) = false := by decide) (he : starEach (a :: []) X.env = (false, eval a X.env) :: starEach [] X.env := by rfl) (hpl : (backTo pos (starEach [] X.env)).any (·.1) = false := by rfl) :
    PS X (.Raise (some (.Call (.Name x p) [a] [] pos)) none pos2) (tS X.K Z (raiseM x f fa)) := by
  obtain ⟨W, hW, hZ⟩ := tk.ex
  refine (ps_raise hc hW (pmk_err T B hm hr (pa_cons ha pa_nil he) hg hdb he hpl)).imp fun D σ H h => ?_
  refine (tS.bind (Rα := RW X.K) (f := fa) (g := fun δ w => raiseEx x f w) h).mono fun v H1 ⟨δ, w, S, ρ, R, re, rw, g⟩ => ?_
  refine ⟨v, rfl, fun d hd => ?_⟩
  unfold raiseEx at g
  cases w with
  | d y =>
    have e1 : Ext S ρ H1 S ρ (upd H1 d (.xd [(f, v)])) := Ext.frz hd
    have R1 := R.frz (o := .xd [(f, v)]) hd
    refine hZ ⟨x, [(f, y)]⟩ S ρ _ _ _ σ (g ρ _ e1 R1) ⟨C, d, [(f, v)], hn, rfl, rfl, upd_same, R.notLive hd, fun p hp => ?_⟩
    simp only [List.mem_singleton] at hp
    subst hp
    have rw : Rp X.K H1 (Live S ρ) v y := rw
    exact ⟨v, by simp [List.lookup], Rp.ext e1.stabL e1.newL _ _ rw⟩
  | r n => exact g.elim
  | s n => exact g.elim
  | e y => exact g.elim
end
end DL
/-! DL20: defs that may raise, and their calls. -/
namespace DL
open PySem PySem.Spec PyProof.Rows L2

/-- what a def lets out: the errors that E bears -/
def ZE (K : PySem.W.Frag) (E : XK) : XZ := fun x S ρ H => ∀ cls d, FlX K H (Live S ρ) x cls d → E cls d H
section
variable {P : Program} {w : World} {K : PySem.W.Frag} {mg : Str → Option Value} {base : Heap}
theorem fn_runX {x qual : Str} {st : Stmt} {f : Addr} {fd : FuncData} {N ps : List Str} {j k n : Nat} {b : Env → M Fl} (F : Fun K x qual st f fd) (S : FnScope N ps (defScope st)) (hk : ps.length = k) (hn : N.length = n)
    (hb : ∀ (cdv : Value) (A : Around) (outer : List PySem.Env) (s : Shared) (H : Hp) (E : XK), Room j (A.deeper (envOfC qual (defScope st) s.heap.objs.size f cdv)) → A.guards = some [] → Tk (cxOf (L2.CX P w) P w K mg base N qual (defScope st) f cdv A outer s H E) (ZE K E) →
      PSs (cxOf (L2.CX P w) P w K mg base N qual (defScope st) f cdv A outer s H E) (defBody st) (tS K (ZE K E) b)) :
    FnG P w K mg base (L2.CX P w) (j + 1) f fd ps (spF K (ZE K) (runD k n b)) := by
  have hlen : ∀ vs H Q E, spF K (ZE K) (runD k n b) vs H Q E → vs.length = ps.length := fun vs H Q E h => by
    obtain ⟨ws, S, ρ, R, rw, g⟩ := h
    unfold runD at g
    split at g
    · rename_i hl
      rw [hk, ← hl]
      exact (Paired.length rw).symm
    · exact g.elim
  refine FnG.of F S hlen fun cdv A outer s H vs Q E hr hgd h => ⟨_, hb cdv A outer s H E hr hgd ⟨_, takes_of rfl rfl rfl rfl, fun x S ρ H cls d σ z fl => z cls d fl⟩, ?_⟩
  have hl := hlen _ _ _ _ h
  obtain ⟨ws, S, ρ, R, rw, g⟩ := h
  unfold runD at g
  split at g
  · rename_i hw
    refine ⟨_, S, ρ, R, ?_, gives_imp (gives_bd g) (fun fl S' q ρ' H' e r => ?_) fun _ _ q => q⟩
    · unfold L2.start
      rw [hl, hn, hk]
      exact start_rep rw
    · cases fl with
      | nx δ => exact fun σ re => q ρ' H' .non e r .non
      | rt w => exact fun v rv => q ρ' H' v e r rv
      | bk δ => exact q.elim
      | ct δ => exact q.elim
  · exact g.elim
end
section
variable {X : Cx} {Z : XZ} {pos : Pos} {a : Expr} {es : List Expr} {fr : Env → M (List W)} {x : Str} {p : Pos} {f : Addr} {fd : FuncData} {ps : List Str} {k : Nat} {F : List W → M W}
/-- f(a, ..) of an own def that may raise -/
theorem dcallX (tk : Tk X Z) (FO : FnG X.prog X.w X.K X.mg X.base (L2.CX X.prog X.w) k f fd ps (spF X.K (ZE X.K) F)) (hr : Room k X.A) (hG : X.A.guards = some []) (hg : Gl X x) (hm : X.mg x = some (.ref f)) (hk : PySem.W.keepIn X.K (.ref f) = true) (hb : Binds X.K fd ps [])
    (ha : PA X (a :: es) (tA X.K Z fr)) (hdb : (x == ("__debug__" : Str)) = false := by decide) (he : starEach (a :: es) X.env = (false, eval a X.env) :: starEach es X.env := by rfl) (hpl : (backTo pos (starEach es X.env)).any (·.1) = false := by rfl) :
    PE X (.Call (.Name x p) (a :: es) [] pos) (tE X.K Z (calM fr F)) := by
  obtain ⟨W, hW, hZ⟩ := tk.ex
  refine (peG (E := fun cls d H => ∃ x S ρ, Z x S ρ H ∧ FlX X.K H (Live S ρ) x cls d) FO hr hG hg hm hk hb .nil (passes_call hW fun cls d σ H ⟨x, S, ρ, z, fl⟩ => hZ x S ρ H cls d σ z fl) ha hdb he hpl).imp fun σ H Q h => ?_
  refine (tE.call h).mono fun vs H1 q => ?_
  rw [List.append_nil]
  obtain ⟨ws, S, ρ, R, rw, g⟩ := q
  exact ⟨ws, S, ρ, R, rw, gives_imp g (fun _ _ q => q) fun x S' z ρ' H' e r cls d fl => ⟨x, S', ρ', z ρ' H' e r, fl⟩⟩
end
/-- .. where the arguments are plain data that it does not change, and the answer is plain data: nothing of the store is seen, nothing is left -/
def pureX (F : List W → M W) : List W → M W := fun ws S => match allD ws with
  | some _ => match F ws [] with
    | .ok (.d x) _ => .ok (.d x) S
    | .ex x _ => .ex x S
    | _ => .no
  | none => .no
theorem FlX.less {K : PySem.W.Frag} {H : Hp} {L L' : Addr → Prop} {x : Ex} {cls : Value} {d : Option Addr} (h : FlX K H L x cls d) (hl : ∀ a, L' a → L a) : FlX K H L' x cls d := h.ext (fun _ _ q _ => q) fun a q => .inl (hl a q)
theorem sp_pureX {K : PySem.W.Frag} {F : List W → M W} {vs : List V} {H : Hp} {Q : VK} {E : XK} (h : spF K (ZE K) (pureX F) vs H Q E) : spF K (ZE K) F vs H Q E := by
  obtain ⟨ws, S, ρ, R, rw, g⟩ := h
  unfold pureX at g
  split at g
  · rename_i ds ed
    have R0 : Rel K [] ⟨[], fun a => Live S ρ a⟩ H := ⟨rfl, fun a q => R.tracked q, fun a q z => by obtain ⟨n, o, h1, _⟩ := z; simp at h1, fun n o q => by simp at q, fun n m a o u q => by simp at q⟩
    have hl : Live [] ⟨[], fun a => Live S ρ a⟩ = Live S ρ := by
      funext a
      refine propext ⟨fun q => ?_, fun q => .inr q⟩
      rcases q with ⟨n, o, h1, _⟩ | q
      · simp at h1
      · exact q
    refine ⟨ws, [], ⟨[], fun a => Live S ρ a⟩, R0, by rw [hl]; exact RWs_plain ed rw, ?_⟩
    -- what is kept for the caller
    have up : ∀ (S0 : Sto) (ρ' : Pl) (H' : Hp), Ext [] ⟨[], fun a => Live S ρ a⟩ H S0 ρ' H' → Ext S ρ H S ρ H' ∧ Rel K S ρ H' ∧ ∀ a, Live S ρ a → Live S0 ρ' a := fun S0 ρ' H' ex => by
      have keep : ∀ (a : Addr) (o : HO), H a = some o → H' a = some o := fun a o q => ex.stab a o q fun z => by
        obtain ⟨n, o, h1, _⟩ := z; simp at h1
      have e2 : Ext S ρ H S ρ H' := ⟨fun _ _ q => q, fun a o q _ => keep a o q, fun _ q => .inl q, rfl⟩
      refine ⟨e2, ⟨R.len, fun a q => ?_, R.dj, fun n o q1 q2 => ?_, R.inj⟩, fun a q => .inr (by rw [ex.grd]; exact q)⟩
      · obtain ⟨o, h⟩ := R.gt a q; exact ⟨o, keep a o h⟩
      · obtain ⟨a, ho, z1, z2, z3⟩ := R.ob n o q1 q2
        exact ⟨a, ho, z1, keep a ho z2, z3.ext e2⟩
    split at g
    · rename_i x S0 e
      rw [e]
      intro ρ' H' v ex r' rv
      obtain ⟨e2, r2, hlv⟩ := up S0 ρ' H' ex
      have rv : Rp K H' (Live S0 ρ') v x := rv
      exact g ρ H' v e2 r2 (Rp.ext (fun a o q _ => q) (fun a q => .inl (hlv a q)) x v rv)
    · rename_i x S0 e
      rw [e]
      intro ρ' H' ex r' cls d fl
      obtain ⟨e2, r2, hlv⟩ := up S0 ρ' H' ex
      exact g ρ H' e2 r2 cls d (fl.less hlv)
    · exact g.elim
  · exact g.elim
theorem fn_pureX {P : Program} {w : World} {K : PySem.W.Frag} {mg : Str → Option Value} {base : Heap} {CX : CXT} {k : Nat} {f : Addr} {fd : FuncData} {ps : List Str} {F : List W → M W}
    (h : FnG P w K mg base CX k f fd ps (spF K (ZE K) F)) : FnG P w K mg base CX k f fd ps (spF K (ZE K) (pureX F)) := h.imp fun _ _ _ _ q => sp_pureX q
end DL
/-! DL21: a caught error that is looked at: its fields, its class. -/
namespace DL
open PySem PySem.Spec PyProof.Rows L2

/-- what an own error class says, for its fields to be read and its class to be asked -/
structure ErrK (K : PySem.W.Frag) (x : Str) : Prop where
  ok : ∀ C : Addr, PySem.W.nsIn K mainGlobals x = some (some (.ref C)) → ExcC K C
/-- e.f of a caught error whose class is one of xs -/
def fldM (xs : List Str) (f : Str) (w : W) : M W := fun S => match w with
  | .e x => if x.cls ∈ xs then (match x.fs.lookup f with | some v => .ok (.d v) S | none => .no) else .no
  | _ => .no
theorem mem_of_lookup {f : Str} {v : D} : ∀ {fs : List (Str × D)}, fs.lookup f = some v → (f, v) ∈ fs
  | [], h => by cases h
  | (g, u) :: fs, h => by
    rw [List.lookup_cons] at h
    split at h
    · rename_i e
      have : f = g := by simpa using e
      subst this
      cases h
      exact List.mem_cons_self
    · exact List.mem_cons_of_mem _ (mem_of_lookup h)
section
variable {X : Cx} {Z : XZ} {e : Expr} {fe : Env → M W} {f : Str} {pos : Pos}
theorem dfld {xs : List Str} (hE : ∀ x ∈ xs, ErrK X.K x) (hN : ∀ x ∈ xs, ∀ C : Addr, PySem.W.nsIn X.K mainGlobals x = some (some (.ref C)) → PySem.W.findIn X.K (.ref C) f = some none) (he : PE X e (tE X.K Z fe)) (hb : attributeBase e f X.env (eval e X.env) = eval e X.env := by rfl) :
    PE X (.Attribute e f pos) (tE X.K Z fun δ => bd (fe δ) (fldM xs f)) := by
  refine ⟨fun pins s σ H Q I h => ?_⟩
  have h1 := tH.bind (Rα := RW X.K) (f := fe) (g := fun _ w => fldM xs f w) h Stb.env
  refine attr_of hb (thn (he.run pins s σ H _ I h1) fun u s1 hh => ?_)
  obtain ⟨v0, H1, I1, ru, ⟨δ, w⟩, S, ρ, R, ⟨_, rw⟩, g⟩ := hh
  have g : Gives (fldM xs f w S) _ _ := g
  unfold fldM at g
  split at g
  · rename_i x
    split at g
    · rename_i hx
      split at g
      · rename_i y hy
        obtain ⟨a, rfl, cls, d, ⟨C, dd, fs, hn, rfl, rfl, hdd, ld, hfs⟩, ha, la⟩ := rw
        obtain rfl : u = Value.ref a := ru
        obtain ⟨v, hv, rv⟩ := hfs _ (mem_of_lookup hy)
        have EK := (hE _ hx).ok C hn
        obtain ⟨oe, hoe, hz, vs, hd⟩ := (show ∃ oe, s1.heap.get? a = some oe ∧ Zc (.ref C) (some dd) oe ∧ ∃ vs, oe.data = .fields vs from (show ObjOk X.prog X.w H1 s1.heap a (.ext fun h => ∃ oe, h.get? a = some oe ∧ Zc (.ref C) (some dd) oe ∧ ∃ vs, oe.data = .fields vs) from I1.hok a _ ha).1)
        have hx' : ObjOk X.prog X.w H1 s1.heap dd (.xd fs) := I1.hok dd _ hdd
        obtain ⟨mA, hns, hr⟩ := hx'
        obtain ⟨od, ho, hl⟩ := lookIn_ns hns
        obtain ⟨u', hu, ru'⟩ := RelO.some_of (v := v) (o := mA f) (by rw [← hv]; exact hr f)
        have J : PySem.W.InstAt s1.heap a oe C (some od) := ⟨hoe, hz.1, by unfold PySem.W.notCls; rw [hd] <;> rfl, by rw [hz.2]; exact ho⟩
        exact HandSPX.exc_get I1.kIn J EK.hg EK.hk EK.hs (PySem.W.findObj_own EK.hd (hN _ hx C hn) rfl (by rw [hl, hu])) (handed_of ru') ⟨v, H1, I1.tok _, ru', g ρ H1 v Ext.refl R rv⟩
      · exact g.elim
    · exact g.elim
  · exact g.elim
/-- isinstance(e, C) of a caught error: what the class of each says -/
def isiEM (tb : List (Str × Bool)) (w : W) : M W := fun S => match w with
  | .e x => match tb.lookup x.cls with | some b => .ok (okb b) S | none => .no
  | _ => .no
theorem mem_of_lookup' {f : Str} {v : Bool} : ∀ {fs : List (Str × Bool)}, fs.lookup f = some v → (f, v) ∈ fs
  | [], h => by cases h
  | (g, u) :: fs, h => by
    rw [List.lookup_cons] at h
    split at h
    · rename_i e
      have : f = g := by simpa using e
      subst this
      cases h
      exact List.mem_cons_self
    · exact List.mem_cons_of_mem _ (mem_of_lookup' h)
def rIsX (K : PySem.W.Frag) (Cy : Addr) : List V → Hp → VK → Prop := fun xs H Q => ∃ (a C : Addr) (d : Option Addr) (b : Bool), xs = [.ref a, .ref Cy] ∧ H a = some (excAt a (.ref C) d) ∧ ExcC K C ∧ PySem.W.kitOne K (.ref C) (.ref Cy) = some b ∧ d.isSome = true ∧ (∃ dd fs, d = some dd ∧ H dd = some (.xd fs)) ∧ Q (.bl b) H
theorem call_isX {Cy : Addr} : CallR X (.builtin "isinstance") (rIsX X.K Cy) := by
  intro pins s σ H xs us Q I r h
  obtain ⟨a, C, d, b, rfl, ha, EK, e, _, ⟨dd, fs, rfl, hdd⟩, q⟩ := h
  cases r with
  | cons rx rr =>
    cases rr with
    | cons rt rr =>
      cases rr
      cases rx
      cases rt
      obtain ⟨oe, hoe, hz, vs, hd⟩ := (show ObjOk X.prog X.w H s.heap a (.ext fun h => ∃ oe, h.get? a = some oe ∧ Zc (.ref C) (some dd) oe ∧ ∃ vs, oe.data = .fields vs) from I.hok a _ ha).1
      have hx' : ObjOk X.prog X.w H s.heap dd (.xd fs) := I.hok dd _ hdd
      obtain ⟨mA, hns, hr⟩ := hx'
      obtain ⟨od, ho, hl⟩ := lookIn_ns hns
      have J : PySem.W.InstAt s.heap a oe C (some od) := ⟨hoe, hz.1, by unfold PySem.W.notCls; rw [hd] <;> rfl, by rw [hz.2]; exact ho⟩
      exact PySem.W.kia_one (PySem.W.kitx_exc (by obtain ⟨cd, hc, _⟩ := PySem.W.any_some EK.hd; rw [hc]; rfl) EK.hg EK.hk EK.hs EK.ha EK.hn EK.ht EK.hm) I.kIn J e (fun z => nomatch z) fun tk => ⟨.bl b, H, I.kept (t' := tk) fun _ _ z => z, rfl, q⟩
theorem disiE {tb : List (Str × Bool)} {y : Str} {Cy : Addr} {p p2 : Pos} (hE : ∀ q ∈ tb, ErrK X.K q.1) (hK : ∀ q ∈ tb, ∀ C : Addr, PySem.W.nsIn X.K mainGlobals q.1 = some (some (.ref C)) → PySem.W.kitOne X.K (.ref C) (.ref Cy) = some q.2) (hg : Gl X "isinstance") (hm : X.mg "isinstance" = none) (hgy : Gl X y) (hmy : X.mg y = some (.ref Cy)) (ha : PE X e (tE X.K Z fe))
    (hdy : (y == ("__debug__" : Str)) = false := by decide) (he : starEach [e, .Name y p2] X.env = (false, eval e X.env) :: starEach [.Name y p2] X.env := by rfl) (hpl : (backTo pos (starEach [.Name y p2] X.env)).any (·.1) = false := by rfl) :
    PE X (.Call (.Name "isinstance" p) [e, .Name y p2] [] pos) (tE X.K Z fun δ => bd (fe δ) (isiEM tb)) := by
  have hT : PE X (.Name y p2) (tC (.ref Cy)) := pe_glob hgy hmy rfl hdy
  refine (pe_callB (r := rIsX X.K Cy) call_isX hg hm (by decide +kernel) (pa_cons ha (pa_cons hT pa_nil) he) (he := he) (hpl := hpl)).imp fun σ H Q h => ?_
  refine (tH.bind (Rα := RW X.K) (f := fe) (g := fun _ w => isiEM tb w) h Stb.env).mono fun v H1 ⟨⟨δ, w⟩, S, ρ, R, ⟨r0, r1⟩, g⟩ => ?_
  change Gives (isiEM tb w S) _ _ at g
  unfold isiEM at g
  split at g
  · rename_i x
    split at g
    · rename_i b hb
      obtain ⟨a, rfl, cls, d, ⟨C, dd, fs, hn, rfl, rfl, hdd, ld, hfs⟩, hha, la⟩ := r1
      have hmem := mem_of_lookup' hb
      exact ⟨a, C, some dd, b, rfl, hha, (hE _ hmem).ok C hn, hK _ hmem C hn, rfl, ⟨dd, fs, rfl, hdd⟩, g ρ H1 (.bl b) Ext.refl R (.bl b)⟩
    · exact g.elim
  · exact g.elim
end
end DL
/-! DL22: an error that a try has caught stands on, tracked. -/
namespace DL
open PySem PySem.Spec PyProof.Rows L2

section
variable {X : Cx} {pins : List (Addr × Obj)} {σ : List (Option V)} {H : Hp} {s : Shared}
/-- what stands in the heap, made since the entry, is tracked from now on -/
theorem inv_track {a : Addr} {o : HO} {oa : Obj} (I : Inv X pins σ H s) (ha : H a = none) (h0 : X.s_0.heap.get? a = none) (hp : ∀ p ∈ X.pn ++ pins, p.1 ≠ a) (nL : a ≠ X.env.locals) (hoa : s.heap.get? a = some oa) (hnc : ∀ v, oa.data ≠ .cell v)
    (new : ObjOk X.prog X.w (upd H a o) s.heap a o) : Inv X pins σ (upd H a o) s := by
  have ne0 : ∀ {b : Addr} {u : Obj}, X.s_0.heap.get? b = some u → b ≠ a := fun {b u} e z => by rw [z, h0] at e; cases e
  refine ⟨I.ok, I.os, I.bare, ⟨I.base.keep, I.base.slot, fun b u e n x => ?_, I.base.there, fun b xs e => ?_, fun b u v e => ?_, fun b ps e => ?_⟩, I.loc, I.cell, ?_, fun x c e => ?_, fun p q => ?_, fun b u e => ?_, I.len⟩
  · rw [upd_ne (ne0 e)]; exact I.base.free b u e n x
  · have := I.base.tups b xs e
    rw [upd_ne (ne_of_none this ha)]; exact this
  · have := I.base.frzs b u v e
    rw [upd_ne (ne_of_none this ha)]; exact this
  · obtain ⟨more, this⟩ := I.base.tbls b ps e
    exact ⟨more, by rw [upd_ne (ne_of_none this ha)]; exact this⟩
  · rw [upd_ne (Ne.symm nL)]; exact I.free
  · have hc : c ≠ a := fun z => by
      obtain ⟨v, oc, q1, q2⟩ := I.cell x c e
      rw [z, hoa] at q1
      cases q1
      exact hnc _ q2
    rw [upd_ne hc]; exact I.freeC x c e
  · obtain ⟨q1, q2, q3⟩ := I.pin p q
    exact ⟨q1, by rw [upd_ne (hp p q)]; exact q2, q3⟩
  · by_cases hb : b = a
    · subst hb
      rw [upd_same] at e
      cases e
      exact new
    · rw [upd_ne hb] at e
      exact (I.hok b u e).stay (fun _ _ _ q => q) (fun c q => by rw [upd_ne (ne_of_none q ha)]; exact q) (fun c xs q => by rw [upd_ne (ne_of_none q ha)]; exact q)
theorem excAt_ok {P : Program} {w : World} {H : Hp} {h : Heap} {a : Addr} {cls : Value} {d : Option Addr} {oe : Obj} (e : h.get? a = some oe) (z : Zc cls d oe) (hd : ∃ vs, oe.data = .fields vs) : ObjOk P w H h a (excAt a cls d) :=
  ⟨⟨oe, e, z, hd⟩, ⟨oe, e⟩, fun _ _ ⟨o, q, r⟩ k => ⟨o, k o q, r⟩⟩
end
end DL
/-! DL23: try: .. / except C as n: .., where what is caught is looked at behind the suite. -/
namespace DL
open PySem PySem.Spec PyProof.Rows L2

theorem not_frame {B h : Heap} {l : List PySem.Env} {a : Addr} {Z : Obj → Prop} (f : HandSPX.FlyingZ B l a Z h) : a ∉ frs l := by
  obtain ⟨o, vs, e, _, dt⟩ := f.there
  intro m
  obtain ⟨_, u, e', nf⟩ := f.2.2.1.mem m
  cases e.symm.trans e'
  exact nf vs dt
section
variable {X : Cx} {pins : List (Addr × Obj)} {σ : L2.St} {H : Hp} {sI : Shared} {B : Heap} {a : Addr}
theorem new_at_entry (J : Inv X pins σ H sI) (hex : X.ex = []) (nb : ∀ b o, sI.heap.get? b = some o → b ∉ frs X.stack → B.get? b = some o) (hB : B.get? a = none) (nf : a ∉ frs X.stack) :
    X.s_0.heap.get? a = none ∧ ∀ p ∈ X.pn ++ pins, p.1 ≠ a := by
  have no : ∀ o, sI.heap.get? a ≠ some o := fun o e => by
    have := nb a o e nf
    rw [hB] at this; cases this
  refine ⟨?_, fun p hp z => no p.2 (z ▸ (J.pin p hp).1)⟩
  cases e : X.s_0.heap.get? a with
  | none => rfl
  | some o =>
    obtain ⟨u, hu⟩ := J.base.there a o e (by rw [hex]; simp)
    exact (no u hu).elim
end
/-- what the clause wishes of an error of the body: it is taken, and behind the suite its object is known -/
def wKeep (K : PySem.W.Frag) (n : Nat) (c : Value) (i : Nat) (ts : TS) (D : Ends) : WX := fun cls d σ H => σ.length = n → PySem.W.exmOne K cls c = some true ∧
  ∀ a, H a = none → ts { nx := fun σ' H' => H' a = none → D.nx (σ'.set i none) (upd H' a (excAt a cls d)), rt := fun _ _ => False } (σ.set i (some (.ref a))) H
section
variable {X : Cx} {pins : List (Addr × Obj)} {x n : Str} {c : Value} {i : Nat} {body suite : List Stmt} {b₀ : Stmt} {np pos pos' : Pos} {tb : WX → TS} {ts : TS} {D : Ends}
theorem caught_lands {u : Value} {s' : Shared} {xe : Value → Shared → Prop} (ok : X.Ok) (hs : X.stack = X.env :: X.outer) (hf : X.env.frame = some X.env.locals) (hN : X.N.Nodup) (hi : X.N[i]? = some n) (hln : X.env.kindOf n = some .local) (hex : X.ex = [])
    (hg : Gl X x) (hm : X.mg x = some c) (hd : (x == ("__debug__" : Str)) = false) (hsu : ∀ (a : Addr) (q : Addr × Obj) (pn : List (Addr × Obj)), PSs (X.suite a (q :: pn)) (b₀ :: suite) ts) (xx : XE (X.tr (X.pn ++ pins) xe) (wKeep X.K X.N.length c i ts D) u s') :
    wpAny (model X.prog X.w) X.A (noteFrame u X.env) (fun _ s₂ => wpAny (model X.prog X.w) X.A (setFlight u none) (fun _ s₃ => wpAny (model X.prog X.w) X.A (handleBy u X.env [.ExceptHandler (some (.Name x np)) (some n) (b₀ :: suite) pos']) (SP X pins D) X.xe s₃) X.xe s₂) X.xe s' := by
  obtain ⟨a, B, sI, pn', σ', H', cls, d, rfl, J', nb, up, sky, na, os, ag, hw⟩ := xx
  have J : Inv X pins σ' H' sI := J'.ofTry ok
  obtain ⟨hyes, hts⟩ := hw J.len
  have nb' : ∀ b o, sI.heap.get? b = some o → b ∉ frs X.stack → B.get? b = some o := nb
  refine Sky.land Zc.steady (by rw [ok.frames, hs]) hf (by rw [← hs]; exact sky) fun h1 fl1 up1 => ?_
  have nf := not_frame fl1
  have nL : a ≠ X.env.locals := fun z => nf (List.mem_filterMap.mpr ⟨X.env, .head _, by rw [hf, z]⟩)
  have nF : a ∉ X.fs := fun z => by
    obtain ⟨e, m, q⟩ := List.mem_filterMap.mp z
    exact nf (List.mem_filterMap.mpr ⟨e, .tail _ m, q⟩)
  have at1 : Inv X pins σ' H' { s' with heap := h1 } := J.landed nb' fl1.1 (up.trans up1) os ag
  obtain ⟨o1, v1, e1, z1, t1⟩ := fl1.there
  have S1 := at1.suite e1 t1 na nL nF
  have m1 := PySem.W.exm_one (M := model X.prog X.w) (e := a) at1.kIn (fun A Q E s k q => wpAny_typeOf_ref (k _ _ e1) (z1.1.symm ▸ q)) hyes
  refine wpAny_handleBy_cons (codeAny_handlers_test (ld_glob (X := X.suite a ((a, o1) :: (X.pn ++ pins))) S1 hg hm (m1.here ?_) hd)) (fun z => by cases z)
  refine codeAny_handlers_suite_as (HandSPX.lands_againZ fl1 fun h2 fl2 up2 => ?_)
  have at2 : Inv X pins σ' H' { s' with heap := h2 } := J.landed nb' fl2.1 ((up.trans up1).trans up2) os ag
  obtain ⟨o2, v2, e2, z2, t2⟩ := fl2.there
  refine store_ok (X := X.suite a ((a, o2) :: (X.pn ++ pins))) (v := .ref a) (at2.suite e2 t2 na nL nF) hN hi (.inl hln) rfl (fun s3 I3 => ?_) (.inr hln)
  refine wpAny_mono ((hsu a (a, o2) (X.pn ++ pins)).run [] s3 _ H' _ I3 (hts a na)) (fun f s4 q => ?_) (fun _ _ z => z.elim)
  cases f with
  | next =>
    obtain ⟨σ4, H4, I4, q4⟩ := q
    refine gone_ok (X := X.suite a ((a, o2) :: (X.pn ++ pins))) I4 hN hi hln fun s5 I5 => ?_
    obtain ⟨p1, p2, p3, p4, p5⟩ := I5.pin (a, o2) (List.mem_append_left _ (.head _))
    obtain ⟨n1, n2⟩ := new_at_entry J hex nb' fl1.2.1 (by rw [hs]; exact nf)
    exact ⟨_, _, inv_track (I5.unsuite ok) p2 n1 n2 nL p1 p5 (excAt_ok p1 z2 ⟨_, t2⟩), q4 p2⟩
  | brk =>
    obtain ⟨_, _, _, z⟩ := q
    exact False.elim z
  | cont =>
    obtain ⟨_, _, _, z⟩ := q
    exact False.elim z
  | ret u =>
    obtain ⟨_, _, _, _, _, z⟩ := q
    exact False.elim z
/-- try: body / except x as n: suite; what is caught stands on behind it -/
theorem ps_keep (hs : X.stack = X.env :: X.outer) (hf : X.env.frame = some X.env.locals) (hN : X.N.Nodup) (hi : X.N[i]? = some n) (hln : X.env.kindOf n = some .local) (hex : X.ex = []) (hg : Gl X x) (hm : X.mg x = some c) (hd : (x == ("__debug__" : Str)) = false)
    (hb : ∀ (W : WX) (pn : List (Addr × Obj)) (xe : Value → Shared → Prop), Takes (X.tr pn xe) W → PSs (X.tr pn xe) body (tb W)) (hsu : ∀ (a : Addr) (q : Addr × Obj) (pn : List (Addr × Obj)), PSs (X.suite a (q :: pn)) (b₀ :: suite) ts) :
    PS X (.Try body [.ExceptHandler (some (.Name x np)) (some n) (b₀ :: suite) pos'] [] [] pos) (fun D σ H => tb (wKeep X.K X.N.length c i ts D) D σ H) := by
  constructor
  intro pins s σ H D I h
  have ok := I.ok
  have run := (hb (wKeep X.K X.N.length c i ts D) (X.pn ++ pins) _ (fun u s' xx => caught_lands (np := np) (pos' := pos') ok hs hf hN hi hln hex hg hm hd hsu xx)).run [] s σ H D (I.toTry _) h
  refine wpAny_Try_except (wpAny_mono run (fun f s1 q => ?_) (fun _ _ z => z))
  cases f with
  | next =>
    obtain ⟨σ1, H1, J, q⟩ := q
    exact wpAny_execs_nil ⟨σ1, H1, J.ofTry ok, q⟩
  | ret u =>
    obtain ⟨v, σ1, H1, J, r, q⟩ := q
    exact ⟨v, σ1, H1, J.ofTry ok, r, q⟩
  | brk =>
    obtain ⟨σ1, H1, J, q⟩ := q
    exact ⟨σ1, H1, J.ofTry ok, q⟩
  | cont =>
    obtain ⟨σ1, H1, J, q⟩ := q
    exact ⟨σ1, H1, J.ofTry ok, q⟩
end
end DL
/-! DL24: a lambda, with or without a default, called by the def that gets it. -/
namespace DL
open PySem PySem.Spec PyProof.Rows L2 LamX NdefX

/-- where a lambda's defaults lie -/
def DfltAt (h : Heap) (dV : Value) : List Value → Prop
  | [] => dV = .none
  | u :: us => ∃ T, dV = .ref T ∧ h.get? T = some (PySem.W.kdv_tup (u :: us))
theorem DfltAt.imp {h h' : Heap} {dV : Value} {us : List Value} (d : DfltAt h dV us) (k : ∀ T o, dV = .ref T → h.get? T = some o → h'.get? T = some o) : DfltAt h' dV us := by
  cases us with
  | nil => exact d
  | cons u us =>
    obtain ⟨T, e, q⟩ := d
    exact ⟨T, e, k T _ e q⟩
/-- how a lambda binds when it is called without arguments -/
def BindL (params : Arguments) (body : Expr) (scope : Scope) (ps : List Str) (vs : List V) : Prop := ∀ (s : Shared) (q : Str) (cl : List (Str × Addr)) (dV doc pm cdv ctv : Value) (us : List Value), Vals vs us → DfltAt s.heap dV us →
  BindsTo s (PySem.W.kdv_fn "<lambda>" q params (.expr body) scope cl dV doc pm cdv ctv) ⟨[], []⟩ (ps.zip us)
/-- a lambda's object, out of the walk's sight -/
structure LamAt (H : Hp) (fs : List Addr) (h : Heap) (f c' : Addr) (q : Str) (params : Arguments) (body : Expr) (scope : Scope) (cl : List (Str × Addr)) (vs : List V) : Prop where
  ob : ∃ us dV doc pm ctv, Vals vs us ∧ h.get? f = some (PySem.W.kdv_obj "<lambda>" q params (.expr body) scope cl dV doc pm c' ctv) ∧ DfltAt h dV us ∧ ∀ T, dV = .ref T → (∃ o, h.get? T = some o) ∧ H T = none ∧ T ∉ fs
  fn : H f = none
  nf : f ∉ fs
theorem LamAt.un {H HZ : Hp} {fs : List Addr} {h h' : Heap} {f c' : Addr} {q : Str} {params : Arguments} {body : Expr} {scope : Scope} {cl : List (Str × Addr)} {vs : List V} (L : LamAt H fs h f c' q params body scope cl vs) (u : Un fs [] H HZ h h') :
    LamAt HZ fs h' f c' q params body scope cl vs := by
  obtain ⟨us, dV, doc, pm, ctv, rv, e, d, z⟩ := L.ob
  have kT : ∀ T o, dV = .ref T → h.get? T = some o → h'.get? T = some o := fun T o hT q => u.keep T o q (z T hT).2.1 (z T hT).2.2 (by simp)
  refine ⟨⟨us, dV, doc, pm, ctv, rv, u.keep f _ e L.fn L.nf (by simp), d.imp kT, fun T hT => ?_⟩, u.free f _ e L.fn (by simp), L.nf⟩
  obtain ⟨⟨o, q⟩, n1, n2⟩ := z T hT
  exact ⟨⟨o, kT T o hT q⟩, u.free T o q n1 (by simp), n2⟩
theorem cells_un {cl : List (Str × Addr)} {fr : List Str} {ws : List (Option V)} {H HZ : Hp} {fs : List Addr} {h h' : Heap} (C : CellsAt cl fr ws h H) (u : Un fs [] H HZ h h') : CellsAt cl fr ws h' HZ := by
  have kp : ∀ y c, cl.lookup y = some c → ∀ v, h.IsCell c v → h'.IsCell c v := fun y c e v z => by
    obtain ⟨o, ho, hd⟩ := z
    obtain ⟨sl, q⟩ := u.any ho (C.all y c e).1 (by simp)
    exact ⟨_, q, hd⟩
  refine ⟨C.len, fun y c e => ?_, C.inj, fun i y e => ?_⟩
  · obtain ⟨n, v, z⟩ := C.all y c e
    obtain ⟨o, ho, _⟩ := id z
    exact ⟨u.free c o ho n (by simp), v, kp y c e v z⟩
  · obtain ⟨c, hc, hv⟩ := C.has i y e
    refine ⟨c, hc, fun v ev => ?_⟩
    obtain ⟨w, r, z⟩ := hv v ev
    exact ⟨w, r, kp y c hc _ z⟩
section
variable {X : Cx} {pins : List (Addr × Obj)} {σ : L2.St} {H : Hp} {s : Shared} {L : Addr → Prop} {c P : Addr} {q : Str} {params : Arguments} {body : Expr} {scope : Scope} {pos : Pos} {dV : Value} {us : List Value} {vs : List V} {E : Value → Shared → Prop} {Q : Value → Shared → Prop}
theorem no_frame (I : Inv X pins σ H s) {f : Addr} (hf : s.heap.objs.size ≤ f) : f ∉ frs X.stack := fun z => by
  rcases List.mem_cons.mp (I.stkSub _ z) with e | e
  · exact absurd (Nat.lt_of_lt_of_le (e ▸ I.lt) hf) (Nat.lt_irrefl _)
  · exact I.nofs hf e
/-- what is known behind the making of a lambda -/
def Made (X : Cx) (pins : List (Addr × Obj)) (σ : L2.St) (H : Hp) (L : Addr → Prop) (P : Addr) (q : Str) (params : Arguments) (body : Expr) (scope : Scope) (vs : List V) (f c' : Addr) (H1 : Hp) (s' : Shared) : Prop :=
  Inv X pins σ H1 s' ∧ (∀ b o, H b = some o → b ≠ P → H1 b = some o) ∧ (∃ o, H1 P = some o ∧ RT H1 L q o) ∧ LamAt H1 (frs X.stack) s'.heap f c' q params body scope (cloFrom X.env.cells scope.names []) vs ∧ H1 c' = some (CodeO c' q)
theorem lam_tail (I : Inv X pins σ H s) (TB : TabB X.base X.mg c P) (hcode : X.env.code = .ref c) (hT : ∃ o, H P = some o ∧ RT H L q o) (hL : ∀ a, L a → ∃ o, H a = some o) (hfree : ∀ y ∈ scope.names, y.2 = .free → ∃ c, X.env.cells.lookup y.1 = some c)
    (rv : Vals vs us) (hd : DfltAt s.heap dV us) (hdT : ∀ T, dV = .ref T → (∃ o, s.heap.get? T = some o) ∧ H T = none ∧ T ∉ frs X.stack) (h : ∀ f c' H1 s', Made X pins σ H L P q params body scope vs f c' H1 s' → Q (.ref f) s') :
    wpAny (model X.prog X.w) X.A (makeTail "<lambda>" q params (.expr body) scope X.env dV .none none pos pos.line) Q E s := by
  obtain ⟨o, hP, ps, rfl, ht, ha⟩ := hT
  have old := I.hok P _ hP
  cases hc : codeAmong pos ps.toList with
  | some cv =>
    obtain ⟨c', rfl, hco, hl⟩ := ha pos cv hc
    refine PySem.W.kdv_makeTailHit (mg := X.mg) (c := c) (P := P) (closure_ok hfree) I.ok.glob (I.mod.glob.keeps I.bk) hcode (TB.code.keeps I.bk) old ht hc (TB.bm.keeps I.bk) fun ctv doc h' tk hk hsz => ?_
    refine h _ c' H _ ⟨I.kept fun b o e => Heap.get?_push_of_some _ (hk b o e), fun _ _ e _ => e, ⟨_, hP, ps, rfl, ht, ha⟩, ⟨⟨us, dV, doc, _, ctv, rv, Heap.get?_push_size _ rfl, hd.imp fun T o _ e => Heap.get?_push_of_some _ (hk T o e), fun T z => ?_⟩, I.hok.fresh hsz, no_frame I hsz⟩, hco⟩
    obtain ⟨⟨o, e⟩, n⟩ := hdT T z
    exact ⟨⟨o, Heap.get?_push_of_some _ (hk T o e)⟩, n⟩
  | none =>
    refine PySem.W.kdv_makeTail (mg := X.mg) (c := c) (P := P) (closure_ok hfree) I.ok.glob (I.mod.glob.keeps I.bk) hcode (TB.code.keeps I.bk) old ht hc TB.gP (TB.bm.keeps I.bk) fun c' ctv doc h' tk hx hge hlt hrec htb => ?_
    obtain ⟨c2, oc, vs, t, e2, hoc, hdo, hv⟩ := hrec
    cases e2
    have nC : H c' = none := I.hok.fresh hge
    have hsz : s.heap.objs.size ≤ h'.objs.size := Nat.le_trans hge (Nat.le_of_lt hlt)
    have lo : ∀ b o, s.heap.get? b = some o → H b = none → h'.get? b = some o := fun b o e n => hx b o (fun z => by rw [z, hP] at n; cases n) e
    have J := inv_table (t' := tk) (more := #[rawInt pos.line, rawInt pos.col, .ref c']) (h' := h'.push (PySem.W.kdv_obj "<lambda>" q params (.expr body) scope (cloFrom X.env.cells scope.names []) dV doc ((X.mg "__name__").getD .none) c' ctv)) I hP
      (fun b o hb e => Heap.get?_push_of_some _ (hx b o hb e)) (Heap.get?_push_of_some _ htb) hge ⟨oc, vs, t, Heap.get?_push_of_some _ hoc, hdo, hv⟩
    have stay : ∀ b o, H b = some o → b ≠ P → upd (upd H P (.tbl (ps ++ #[rawInt pos.line, rawInt pos.col, .ref c']))) c' (CodeO c' q) b = some o := fun b o e n => by
      rw [upd_ne (ne_of_none e nC), upd_ne n]; exact e
    have nw : ∀ b, H b = none → b ≠ c' → upd (upd H P (.tbl (ps ++ #[rawInt pos.line, rawInt pos.col, .ref c']))) c' (CodeO c' q) b = none := fun b e n => by
      rw [upd_ne n, upd_ne (fun z => by rw [z, hP] at e; cases e)]; exact e
    refine h _ c' _ _ ⟨J, stay, ⟨_, by rw [upd_ne (ne_of_none hP nC), upd_same], _, rfl, ?_, fun p' cv hcv => ?_⟩, ⟨⟨us, dV, doc, _, ctv, rv, Heap.get?_push_size _ rfl, hd.imp fun T o z e => Heap.get?_push_of_some _ (lo T o e (hdT T z).2.1), fun T z => ?_⟩, ?_, no_frame I hsz⟩, upd_same⟩
    · rw [Array.toList_append]
      exact PySem.TriplesOk_snoc _ _ _ _ ht
    · rw [Array.toList_append] at hcv
      rcases among_app _ ht hcv with z | z
      · obtain ⟨c0, e1, e2, e3⟩ := ha p' cv z
        exact ⟨c0, e1, stay _ _ e2 (fun z => by rw [z, hP] at e2; exact codeO_ne _ (Option.some.inj e2).symm), e3⟩
      · refine ⟨c', z, upd_same, fun l => ?_⟩
        obtain ⟨o, e⟩ := hL _ l
        rw [nC] at e; cases e
    · obtain ⟨⟨o, e⟩, n1, n2⟩ := hdT T z
      exact ⟨⟨o, Heap.get?_push_of_some _ (lo T o e n1)⟩, nw T n1 (Nat.ne_of_lt (Nat.lt_of_lt_of_le (Heap.lt_size e) hge)), n2⟩
    · exact nw _ (I.hok.fresh hsz) (Nat.ne_of_gt hlt)
/-- a lambda's defaults: none, or one whole number -/
def DfltsAre (params : Arguments) (env : PySem.Env) (vs : List V) : Prop := (vs = [] ∧ defaultsOf params env = ([], [])) ∨ ∃ (i : Int) (j : Nat) (cp : Pos), vs = [V.int i] ∧ params.defaults = [Expr.Constant (.int i) j cp] ∧ params.kw_defaults = []
theorem lam_eval (I : Inv X pins σ H s) (TB : TabB X.base X.mg c P) (hcode : X.env.code = .ref c) (hT : ∃ o, H P = some o ∧ RT H L (X.env.qual ++ "<lambda>") o) (hL : ∀ a, L a → ∃ o, H a = some o) (hfree : ∀ y ∈ scope.names, y.2 = .free → ∃ c, X.env.cells.lookup y.1 = some c)
    (hdf : DfltsAre params X.env vs) (h : ∀ f c' H1 s', Made X pins σ H L P (X.env.qual ++ "<lambda>") params body scope vs f c' H1 s' → Q (.ref f) s') :
    wpAny (model X.prog X.w) X.A (eval (.Lambda params body scope pos) X.env) Q X.xe s := by
  rcases hdf with ⟨rfl, e⟩ | ⟨i, j, cp, rfl, e1, e2⟩
  · refine PySem.W.kla_eval e ?_
    rw [makeFunction_eq]
    simp only [List.zip_nil_right, List.filterMap_nil, List.isEmpty_nil, if_true, pure_bind]
    exact lam_tail I TB hcode hT hL hfree .nil rfl (fun T z => by cases z) h
  · refine PySem.W.kdv_lam (by rw [e1]; rfl) e2 ?_
    rw [e1]
    have hrun := (pe_int (X := X) (pos := cp) (i := i) (j := j)).run pins s σ H (fun v H1 => v = .int i ∧ H1 = H) I ⟨rfl, rfl⟩
    refine PySem.W.kdv_all1 (wpAny_mono hrun (fun u s1 hh => ?_) (fun _ _ z => ?_))
    case refine_2 => exact z
    obtain ⟨v, H1, I1, r1, ev, eH⟩ := hh
    refine PySem.W.kdv_all0 ?_
    subst ev
    subst eH
    rw [makeFunction_eq]
    simp only [List.zip_nil_right, List.filterMap_nil, List.isEmpty_nil, if_true, pure_bind, List.isEmpty_cons, Bool.false_eq_true, if_false]
    refine wpAny_bind (wpAny_newTextTuple ?_)
    have I2 : Inv X pins σ H1 { s1 with heap := s1.heap.push (PySem.W.kdv_tup [u]) } := I1.kept (t' := s1.toks) fun b o e => Heap.get?_push_of_some _ e
    refine lam_tail I2 TB hcode hT hL hfree (us := [u]) (.cons r1 .nil) ⟨_, rfl, Heap.get?_push_size _ rfl⟩ (fun T z => ?_) h
    cases z
    exact ⟨⟨_, Heap.get?_push_size _ rfl⟩, I1.hok.fresh (Nat.le_refl _), no_frame I1 (Nat.le_refl _)⟩
/-- x(), in the def that got the lambda -/
theorem lam_act {CXg : CXT} {Eg : XK} {Ng : List Str} {qg : Str} {sg : Scope} {g f c' : Addr} {cdg : Value} {k i : Nat} {a : Str} {pn : List (Addr × Obj)} {xe : Value → Shared → Prop} {W : WX} {E : XK} {tb : TE} {p1 p2 : Pos} {N ps fr : List Str} {js : List Nat}
    (I : Inv X pins σ H s) (S : NScope N ps fr scope) (hfree : ∀ y ∈ scope.names, y.2 = .free → X.env.scope.names.lookup y.1 = some .cell ∨ X.env.scope.names.lookup y.1 = some .free) (hfr : ∀ y ∈ fr, (y, NameKind.free) ∈ scope.names) (hjs : js.map (fun j => X.N[j]?) = fr.map some)
    (La : LamAt H (frs X.stack) s.heap f c' (X.env.qual ++ "<lambda>") params body scope (cloFrom X.env.cells scope.names []) vs) (hl : vs.length = ps.length) (hbind : BindL params body scope ps vs)
    (tk : Takes ((cxOf CXg X.prog X.w X.K X.mg X.base Ng qg sg g cdg X.A X.stack s H Eg).tr pn xe) W) (hW : ∀ cls d σ' H', E cls d H' → W cls d σ' H') (hr : Room (k + 1) (X.A.deeper (envOfC qg sg s.heap.objs.size g cdg)))
    (hbody : ∀ (A : Around) (outer : List PySem.Env) (s : Shared) (H : Hp), A.guards = X.A.guards → Room k (A.deeper (envF ⟨"<lambda>", X.env.qual ++ "<lambda>", params, [], scope, cloFrom X.env.cells scope.names [], c'⟩ f s.heap.objs.size)) →
      PE (ncx (L2.CX X.prog X.w) X.prog X.w X.K X.mg X.base N ⟨"<lambda>", X.env.qual ++ "<lambda>", params, [], scope, cloFrom X.env.cells scope.names [], c'⟩ f A outer s H E) body tb)
    (hN : Ng[i]? = some a) (hv : Vis sg a) (hd : (a == ("__debug__" : Str)) = false) (hcd : (a == ("__classdict__" : Str)) = false) :
    PE ((cxOf CXg X.prog X.w X.K X.mg X.base Ng qg sg g cdg X.A X.stack s H Eg).tr pn xe) (.Call (.Name a p1) [] [] p2)
      (fun σZ HZ Q => σZ[i]? = some (some (.ref f)) ∧ HZ c' = some (CodeO c' (X.env.qual ++ "<lambda>")) ∧ tb (startF N vs (js.map (slotAt σ))) HZ Q) := by
  constructor
  intro pinsZ sZ σZ HZ Q IZ h
  obtain ⟨hs, hc, ht⟩ := h
  refine wpAny_Call_Name_kw (thn ((pe_var (pos := p1) (i := i) hN hv hd hcd).run pinsZ sZ σZ HZ (fun v H1 => v = .ref f ∧ H1 = HZ) IZ ⟨.ref f, hs, rfl, rfl⟩) fun u s1 hh => ?_)
  obtain ⟨v, H1, I1, r1, ev, eH⟩ := hh
  subst ev
  subst eH
  obtain rfl : u = Value.ref f := r1
  have un : Un (frs X.stack) [] H H1 s.heap s1.heap := I1.base
  obtain ⟨us, dV, doc, pm, ctv, rv, of1, hd1, _⟩ := (La.un un).ob
  have C := cells_un (cells_of I (Caps.made I.ok hfree hfr hjs)) un
  have rc : codeAny (model X.prog X.w) (X.A.deeper (envOfC qg sg s.heap.objs.size g cdg)) (.call (.ref f) ⟨[], []⟩) (CR (L2.CX X.prog X.w) (envOfC qg sg s.heap.objs.size g cdg :: X.stack) X.prog X.w H1 s1 Q E) s1 := by
    refine PySem.W.kla_callFunE hr.depth of1 rfl S.co S.gen rfl (codeO_at I1.hok hc) (hbind s1 _ _ dV doc pm _ ctv us rv hd1 _ _ _ _ ?_)
    refine wpAny_newFunctionEnv S.nocell (fun y hy => S.par y.1 (List.of_mem_zip hy).1) (fun h₁ hns hsb => ⟨I1.nolimit.fresh _ hsb, ?_⟩) S.kind
    have kp : ∀ b o, s1.heap.get? b = some o → h₁.get? b = some o := fun b o e => hsb.extBut b o (Nat.ne_of_lt (Heap.lt_size e)) (Heap.get?_push_of_some _ e)
    show codeAny _ _ (.expr body (envF ⟨"<lambda>", X.env.qual ++ "<lambda>", params, [], scope, cloFrom X.env.cells scope.names [], c'⟩ f s1.heap.objs.size)) _ _
    have J := inv_startN (CX := L2.CX X.prog X.w) (E := E) (N := N) (F := ⟨"<lambda>", X.env.qual ++ "<lambda>", params, [], scope, cloFrom X.env.cells scope.names [], c'⟩) (f := f) (tk := s1.toks + (ps.zip us).length) S hr.hd I1.env0 hl rv C hns kp
    refine PySem.W.kla_codeExpr (wpAny_mono ((hbody (X.A.deeper (envOfC qg sg s.heap.objs.size g cdg)) _ s1 H1 rfl (hr.deeper _)).run [] _ _ H1 Q J ht) (fun v s' hq => ?_) fun _ _ z => z)
    obtain ⟨w', H', J', rv', z⟩ := hq
    exact ⟨w', H', J'.os, J'.bare, J'.base, J'.hok, rv', z⟩
  refine PySem.W.callWith_F0 ⟨_, _, _, _, of1⟩ (wpAny_call (codeAny_mono rc fun r s' hq => ?_))
  have z := after_call (passes_call tk hW) I1 hq
  cases r with
  | error e => exact z
  | ok fl => cases fl <;> first | exact z | exact z.elim
end
/-- the reading of x(lambda: ..): TT is what the def makes of what it gets -/
def tLamD (P : Addr) (q : Str) (TT : (XK → Hp → VK → Prop) → Hp → VK → Prop) (N : List Str) (vs : List V) (js : List Nat) (t : XK → TE) : TE := fun σ H Q => ∃ L : Addr → Prop, (∃ o, H P = some o ∧ RT H L q o) ∧ (∀ a, L a → ∃ o, H a = some o) ∧
  ∀ H1, (∀ b o, H b = some o → b ≠ P → H1 b = some o) → (∃ o, H1 P = some o ∧ RT H1 L q o) → TT (fun E H' Q' => t E (startF N vs (js.map (slotAt σ))) H' Q') H1 Q
theorem pe_lamC {X : Cx} {TT : (XK → Hp → VK → Prop) → Hp → VK → Prop} {x a : Str} {g c P : Addr} {k : Nat} {pg : Arguments} {bg : List Stmt} {sg : Scope} {dV kV doc pm cdv ct oc : Value} {an od : Option Addr} {osl : Array (Option Value)} {Ng N ps fr : List Str} {js : List Nat} {vs : List V}
    {params : Arguments} {body : Expr} {scope : Scope} {t : XK → TE} {p lpos pos : Pos} (hg : Gl X x) (hm : X.mg x = some (.ref g)) (hk : PySem.W.keepIn X.K (.ref g) = true)
    (lk : X.K.lookup g = some ⟨oc, od, .func (PySem.W.fnOf x x pg bg sg dV kV doc pm an cdv ct), osl⟩) (hcg : PySem.W.codeIn X.K cdv x = true) (hb : L2.Binds X.K (PySem.W.fnOf x x pg bg sg dV kV doc pm an cdv ct) [a] []) (Sg : FnScope Ng [a] sg) (hNg : Ng[0]? = some a) (hva : Vis sg a)
    (hG : GivesTo X Ng x sg g cdv bg a (X.env.qual ++ "<lambda>") TT) (TB : TabB X.base X.mg c P) (hcode : X.env.code = .ref c) (hr : Room (k + 2) X.A)
    (S : NScope N ps fr scope) (hfree : ∀ y ∈ scope.names, y.2 = .free → X.env.scope.names.lookup y.1 = some .cell ∨ X.env.scope.names.lookup y.1 = some .free) (hfr : ∀ y ∈ fr, (y, NameKind.free) ∈ scope.names) (hjs : js.map (fun j => X.N[j]?) = fr.map some)
    (hl : vs.length = ps.length) (hdf : DfltsAre params X.env vs) (hbind : BindL params body scope ps vs)
    (hbody : ∀ (A : Around) (outer : List PySem.Env) (s : Shared) (H : Hp) (E : XK) (f c' : Addr), A.guards = X.A.guards → Room k (A.deeper (envF ⟨"<lambda>", X.env.qual ++ "<lambda>", params, [], scope, cloFrom X.env.cells scope.names [], c'⟩ f s.heap.objs.size)) →
      PE (ncx (L2.CX X.prog X.w) X.prog X.w X.K X.mg X.base N ⟨"<lambda>", X.env.qual ++ "<lambda>", params, [], scope, cloFrom X.env.cells scope.names [], c'⟩ f A outer s H E) body (t E))
    (hdb : (x == ("__debug__" : Str)) = false := by decide) (hd : (a == ("__debug__" : Str)) = false := by decide) (hcd : (a == ("__classdict__" : Str)) = false := by decide) :
    PE X (.Call (.Name x p) [.Lambda params body scope lpos] [] pos) (tLamD P (X.env.qual ++ "<lambda>") TT N vs js t) := by
  constructor
  intro pins s σ H Q I h
  obtain ⟨L, hT, hL, h⟩ := h
  refine wpAny_Call_Name_kw (ld_glob I hg hm (PySem.W.callWith_K (h₀ := X.base) I.ok.mod.kin hk ?_ (by rfl) (by rfl)) hdb)
  show wpAny _ _ (spliced ((false, eval (.Lambda params body scope lpos) X.env) :: backTo pos (starEach [] X.env))) _ _ s
  refine Calls.spliced_cons (lam_eval I TB hcode hT hL (fun y hy e => (hfree y hy e).elim (fun z => I.ok.has _ (.inl z)) fun z => I.ok.has _ (.inr z)) hdf fun f c' H1 s' md => Calls.spliced_nil ?_)
  obtain ⟨I1, st, T1, La, hco⟩ := md
  refine ⟨I1.kIn, ?_⟩
  have rc : codeAny (model X.prog X.w) X.A (.call (.ref g) ⟨[.ref f], []⟩) (CR C8.CX0 X.stack X.prog X.w H1 s' Q C8.E0) s' := by
    refine run_ofS (N := Ng) (ps := [a]) (us := [.ref f]) (vs := [.ref f]) lk hcg Sg hr I1.env0 (hb s' [.ref f] I1.kIn rfl) (.cons rfl .nil) rfl fun hr' => ?_
    obtain ⟨t', ht', hq'⟩ := hG f c' s' H1 Q _ (fun W pn xe E p1 p2 tk hW => lam_act (i := 0) I1 S hfree hfr hjs La hl hbind tk hW hr' (fun A outer s H hg2 hr2 => hbody A outer s H E f c' hg2 hr2) hNg hva hd hcd) hco (h H1 st T1)
    exact ⟨t', ht'.nox, hq'⟩
  refine wpAny_call (codeAny_mono rc fun r s2 hq => ?_)
  cases r with
  | error e => exact (show False from hq).elim
  | ok fl =>
    cases fl with
    | ret u => exact I1.after hq
    | next => exact False.elim hq
    | brk => exact False.elim hq
    | cont => exact False.elim hq
end DL
/-! DL25: _law_heard(lambda: ..): what a call gives, or the error that it raises. -/
namespace DL
open PySem PySem.Spec PyProof.Rows L2 LamX NdefX

/-- the names of a lambda's body: its parameters, then what it captures -/
def lamW (ws : List W) (js : List Nat) (δ : Env) : Env := ws.map some ++ js.map (fun j => (δ[j]?).join)
theorem lamW_rep {K : PySem.W.Frag} {ρ : Pl} {H : Hp} {L : Addr → Prop} {δ : Env} {σ : L2.St} {N : List Str} {ws : List W} {vs : List V} {js : List Nat} (re : REnv K ρ H L δ σ) (rw : RWs K ρ H L ws vs) (hn : N.length = ws.length + js.length) :
    REnv K ρ H L (lamW ws js δ) (startF N vs (js.map (slotAt σ))) := by
  have hl := Paired.length rw
  have e : startF N vs (js.map (slotAt σ)) = vs.map some ++ js.map (slotAt σ) := by
    unfold startF
    rw [show N.length - vs.length - (js.map (slotAt σ)).length = 0 by rw [List.length_map]; omega]
    simp
  rw [e]
  unfold lamW
  refine ⟨by simp [hl], fun i w h => ?_⟩
  by_cases hi : i < ws.length
  · rw [List.getElem?_append_left (by simpa using hi), List.getElem?_map] at h
    cases e : ws[i]? with
    | none => rw [e] at h; cases h
    | some w' =>
      rw [e] at h
      cases h
      obtain ⟨v, h1, h2⟩ := Paired.at' rw e
      exact ⟨v, by rw [List.getElem?_append_left (by simp; omega), List.getElem?_map, h1]; rfl, h2⟩
  · rw [List.getElem?_append_right (by simpa using hi), List.length_map, List.getElem?_map] at h
    rw [List.getElem?_append_right (by simp; omega), List.length_map, List.getElem?_map, ← hl]
    cases e : js[i - ws.length]? with
    | none => rw [e] at h; cases h
    | some j =>
      rw [e] at h
      have h : (δ[j]?).join = some w := Option.some.inj h
      have h2 : δ[j]? = some (some w) := by
        cases e2 : δ[j]? with
        | none => rw [e2] at h; cases h
        | some o => rw [e2] at h; rw [show o = some w from h]
      obtain ⟨v, q1, q2⟩ := re.2 j w h2
      exact ⟨v, congrArg some (slotAt_of q1), q2⟩
/-- a def's end -/
def finM : Fl → M W
  | .nx _ => pr (.d .none)
  | .rt w => pr w
  | _ => no
/-- what _law_heard makes of an answer, of an error -/
def restR (f : Env → M Fl) (w : W) : M W := bd (f [none, some w, some (.d .none), none]) finM
def restE (errs : List Str) (f : Env → M Fl) (x : Ex) : M W := if x.cls ∈ errs then bd (f [none, none, some (.e x), none]) finM else no
def heardM (P : Addr) (q : Str) (errs : List Str) (f : Env → M Fl) (ws : List W) (js : List Nat) (fb : Env → M W) : Env → M W := fun δ (S : Sto) => match (S[0]? : Option Ob) with
  | some (.tab P' q') => if P' = P ∧ q' = q then (match fb (lamW ws js δ) S with
    | .ok w S' => noEx (restR f w) S'
    | .ex x S' => noEx (restE errs f x) S'
    | .no => .no) else .no
  | _ => .no
def AnsQ (K : PySem.W.Frag) (Q : VK) (S : Sto) (ρ : Pl) (H : Hp) (x : Res W) : Prop := Gives x (fun w2 S2 => ∀ (ρ2 : Pl) (H2 : Hp) (v2 : V), Ext S ρ H S2 ρ2 H2 → Rel K S2 ρ2 H2 → RW K ρ2 H2 (Live S2 ρ2) w2 v2 → Q v2 H2) (fun _ _ => False)
def GoO (K : PySem.W.Frag) (f : Env → M Fl) (Q : VK) : VK := fun v H => ∃ (w : W) (S : Sto) (ρ : Pl), Rel K S ρ H ∧ RW K ρ H (Live S ρ) w v ∧ AnsQ K Q S ρ H (restR f w S)
def GoE (K : PySem.W.Frag) (errs : List Str) (f : Env → M Fl) (Q : VK) : XK := fun cls d H => ∃ (x : Ex) (S : Sto) (ρ : Pl), Rel K S ρ H ∧ FlX K H (Live S ρ) x cls d ∧ AnsQ K Q S ρ H (restE errs f x S)
def TTH (K : PySem.W.Frag) (errs : List Str) (f : Env → M Fl) : (XK → Hp → VK → Prop) → Hp → VK → Prop := fun tl H Q => ∀ (H2 : Hp) (E : XK) (Q' : VK), (∀ b o, H b = some o → H2 b = some o) → (∀ cls d H', GoE K errs f Q cls d H' → E cls d H') → (∀ v H', GoO K f Q v H' → Q' v H') → tl E H2 Q'
theorem restE_mem {errs : List Str} {f : Env → M Fl} {x : Ex} {S : Sto} {P : W → Sto → Prop} {E : Ex → Sto → Prop} (g : Gives (restE errs f x S) P E) : x.cls ∈ errs ∧ Gives (bd (f [none, none, some (.e x), none]) finM S) P E := by
  unfold restE at g
  split at g
  · exact ⟨‹_›, g⟩
  · exact g.elim
/-- what comes behind, from the readings of the statements behind -/
theorem rest_ends {K : PySem.W.Frag} {Q : VK} {S : Sto} {ρ : Pl} {H : Hp} {f : Env → M Fl} {δ : Env} (g : AnsQ K Q S ρ H (bd (f δ) finM S)) : SGives K ZF { nx := fun _ H' => Q .non H', rt := Q } S ρ H (f δ S) := by
  refine gives_imp (gives_bd g) (fun fl S' q ρ' H' e r => ?_) fun _ _ z => z.elim
  cases fl with
  | nx δ' => exact fun σ re => q ρ' H' .non e r .non
  | rt w => exact fun v rv => q ρ' H' v e r rv
  | bk _ => exact q.elim
  | ct _ => exact q.elim
section
variable {X : Cx} {q e : Str} {sg : Scope} {g CM : Addr} {cdg : Value} {rest : List Stmt} {f : Env → M Fl} {errs : List Str} {k1 k2 j1 j2 : Nat} {p1 p2 p3 p4 p5 p6 p7 p8 p9 p10 p11 p12 p13 p14 p15 p16 p17 : Pos}
abbrev hN4 : List Str := ["ask", "found", "caught", "error"]
abbrev hCx (X : Cx) (sg : Scope) (g : Addr) (cdg : Value) (s : Shared) (H : Hp) : Cx := (cxOf C8.CX0 X.prog X.w X.K X.mg X.base hN4 "_law_heard" sg g cdg X.A X.stack s H C8.E0).nox
theorem heard_gives (hx0 : sg.names.lookup ("ask" : Str) = some .local) (hx1 : sg.names.lookup ("found" : Str) = some .local) (hx2 : sg.names.lookup ("caught" : Str) = some .local) (hx3 : sg.names.lookup ("error" : Str) = some .local) (hge : sg.names.lookup e = some .globalImplicit) (hde : (e == ("__debug__" : Str)) = false) (hme : X.mg e = some (.ref CM))
    (hE : ∀ x ∈ errs, ∀ C : Addr, PySem.W.nsIn X.K mainGlobals x = some (some (.ref C)) → PySem.W.exmOne X.K (.ref C) (.ref CM) = some true)
    (hw : ∀ (s : Shared) (H : Hp), swappedStores [.Tuple [.Name "found" p1, .Name "caught" p2] k1 p3] (.Tuple [.Constant .none j1 p4, .Constant .none j2 p5] k2 p6) (hCx X sg g cdg s H).env = pure none)
    (hs : ∀ (s : Shared) (H : Hp), swapsWithSole [.Tuple [.Name "found" p1, .Name "caught" p2] k1 p3] (.Tuple [.Constant .none j1 p4, .Constant .none j2 p5] k2 p6) p7.line (hCx X sg g cdg s H).env = pure false)
    (hs2 : ∀ (s : Shared) (H : Hp), swapsWith (.Call (.Name "ask" p9) [] [] p10) (some (.Name "found" p8)) p11.line (hCx X sg g cdg s H).env = pure false)
    (hs3 : ∀ (s : Shared) (H : Hp), swapsWith (.Name "error" p14) (some (.Name "caught" p13)) p15.line (hCx X sg g cdg s H).env = pure false)
    (hrest : ∀ (s : Shared) (H : Hp), PSs (hCx X sg g cdg s H) rest (tS X.K ZF f)) :
    GivesTo X hN4 "_law_heard" sg g cdg (.Assign [.Tuple [.Name "found" p1, .Name "caught" p2] k1 p3] (.Tuple [.Constant .none j1 p4, .Constant .none j2 p5] k2 p6) p7 ::
      .Try [.Assign [.Name "found" p8] (.Call (.Name "ask" p9) [] [] p10) p11] [.ExceptHandler (some (.Name e p12)) (some "error") [.Assign [.Name "caught" p13] (.Name "error" p14) p15] p16] [] [] p17 :: rest) "ask" q (TTH X.K errs f) := by
  intro f0 c' s H Q tl act hc h
  have hN : hN4.Nodup := by decide
  have body : ∀ (W : WX) (pn : List (Addr × Obj)) (xe : Value → Shared → Prop), Takes ((hCx X sg g cdg s H).tr pn xe) W → PSs ((hCx X sg g cdg s H).tr pn xe) [.Assign [.Name "found" p8] (.Call (.Name "ask" p9) [] [] p10) p11]
      (fun D σ H => ∃ Ech : XK, (∀ cls d σ' H', Ech cls d H' → W cls d σ' H') ∧ σ[0]? = some (some (.ref f0)) ∧ H c' = some (CodeO c' q) ∧ tl Ech H fun v H1 => D.nx (σ.set 1 (some v)) H1) := fun W pn xe tk => ⟨fun pins s' σ H' D I h' => by
    obtain ⟨Ech, hW, h1, h2, h3⟩ := h'
    exact (pss_one (ps_set (X := (hCx X sg g cdg s H).tr pn xe) (i := 1) hN rfl (.inl hx1) (act W pn xe Ech p9 p10 tk hW) (hs2 s H) (.inr hx1))).run pins s' σ H' D I ⟨h1, h2, h3⟩⟩
  have suite : ∀ (a : Addr) (r : Addr × Obj) (pn : List (Addr × Obj)), PSs ((hCx X sg g cdg s H).suite a (r :: pn)) [.Assign [.Name "caught" p13] (.Name "error" p14) p15] (fun D σ H => ∃ v, σ[3]? = some (some v) ∧ D.nx (σ.set 2 (some v)) H) := fun a r pn =>
    pss_one (ps_set (X := (hCx X sg g cdg s H).suite a (r :: pn)) (i := 2) hN rfl (.inl hx2) (pe_var (i := 3) rfl (.inl hx3)) (hs3 s H) (.inr hx2))
  refine ⟨_, pss_cons (ps_asg (X := hCx X sg g cdg s H) (pe_tup (pa_cons pe_non (pa_cons pe_non pa_nil))) (pg_tup rfl (pgs_cons (pg_name (i := 1) hN rfl (.inl hx1) (.inr hx1)) (pgs_cons (pg_name (i := 2) hN rfl (.inl hx2) (.inr hx2)) pgs_nil))) (hs s H) (hw s H))
    (pss_cons (ps_keep (X := hCx X sg g cdg s H) (i := 3) rfl rfl hN rfl hx3 rfl hge hme hde body suite) (hrest s H)), ?_⟩
  refine ⟨(by decide : 2 ≤ sizeLine), fun p hp => ⟨p, [.non, .non], rfl, .of upd_same, rfl, .non, [.non], rfl, .non, [], rfl, rfl, ?_⟩⟩
  have ex : ∀ b o, H b = some o → upd H p (.tup [V.non, V.non]) b = some o := fun b o e => by rw [upd_ne (ne_of_none e hp)]; exact e
  refine ⟨GoE X.K errs f Q, fun cls d σ' H' z => ?_, rfl, ex _ _ hc, h _ _ _ ex (fun _ _ _ z => z) fun v H1 z => ?_⟩
  · obtain ⟨x, S, ρ, R, fl, ga⟩ := z
    obtain ⟨hx, ga⟩ := restE_mem ga
    intro hlen
    obtain ⟨C, dd, fs, n1, rfl, n3, n4, n5, n6⟩ := id fl
    have hlen : σ'.length = 4 := hlen
    refine ⟨hE _ hx C n1, fun a na => ⟨.ref a, by simp [hlen], fun na' => ?_⟩⟩
    have e1 : Ext S ρ H' S ρ (upd H' a (excAt a (.ref C) d)) := Ext.frz na
    have R1 := R.frz (o := excAt a (.ref C) d) na
    refine ⟨[none, none, some (.e x), none], S, ρ, R1, ⟨by simp [hlen], fun i w hi => ?_⟩, (rest_ends ga).ext e1⟩
    match i, hi with
    | 2, hi =>
      cases hi
      exact ⟨.ref a, by simp [hlen], a, rfl, .ref C, d, fl.ext e1.stabL e1.newL, upd_same, R.notLive na⟩
    | 0, hi => cases hi
    | 1, hi => cases hi
    | 3, hi => cases hi
    | n + 4, hi => simp at hi
  · obtain ⟨w, S, ρ, R, rw, ga⟩ := z
    refine ⟨[none, some w, some (.d .none), none], S, ρ, R, ⟨rfl, fun i w' hi => ?_⟩, rest_ends ga⟩
    match i, hi with
    | 1, hi =>
      cases hi
      exact ⟨v, rfl, rw⟩
    | 2, hi =>
      cases hi
      exact ⟨.non, rfl, .non⟩
    | 0, hi => cases hi
    | 3, hi => cases hi
    | n + 4, hi => simp at hi
end
/-- the table grows: all else is kept -/
theorem rel_tab {K : PySem.W.Frag} {S : Sto} {ρ : Pl} {H H1 : Hp} {P : Addr} {q : Str} (R : Rel K S ρ H) (h0 : S[0]? = some (.tab P q)) (ext : ∀ b o, H b = some o → b ≠ P → H1 b = some o) (hT : ∃ o, H1 P = some o ∧ RT H1 (Live S ρ) q o) : Ext S ρ H S ρ H1 ∧ Rel K S ρ H1 := by
  obtain ⟨a0, ho, k1, k2, k3, k4⟩ := R.ob 0 _ h0 rfl
  subst k3
  have lv : Liv S ρ a0 := ⟨0, _, h0, rfl, k1⟩
  have e1 : Ext S ρ H S ρ H1 := ⟨fun _ _ h => h, fun a o h l => ext a o h fun z => l (z ▸ lv), fun _ h => .inl h, rfl⟩
  refine ⟨e1, R.len, fun a h => ?_, R.dj, fun n o h1 h2 => ?_, R.inj⟩
  · obtain ⟨o, z⟩ := R.gt a h
    exact ⟨o, ext a o z fun e => R.dj a h (e ▸ lv)⟩
  · by_cases hn : n = 0
    · subst hn
      rw [h0] at h1
      cases h1
      obtain ⟨o, z1, z2⟩ := hT
      exact ⟨a0, o, k1, z1, rfl, z2⟩
    · obtain ⟨a, hu, q1, q2, q3⟩ := R.ob n o h1 h2
      exact ⟨a, hu, q1, ext a hu q2 fun e => hn (R.inj n 0 a o _ h1 h2 h0 rfl q1 (e ▸ k1)), q3.ext e1⟩
/-- _law_heard(lambda: body), in the def whose table of code objects stands at P -/
theorem dheard {X : Cx} {Z : XZ} {x a : Str} {g c P : Addr} {k : Nat} {pg : Arguments} {bg : List Stmt} {sg : Scope} {dV kV doc pm cdv ct oc : Value} {an od : Option Addr} {osl : Array (Option Value)} {Ng N ps fr : List Str} {js : List Nat} {ws : List W} {vs : List V} {q : Str}
    {params : Arguments} {body : Expr} {scope : Scope} {fb : Env → M W} {f : Env → M Fl} {errs : List Str} {p lpos pos : Pos} (hg : Gl X x) (hm : X.mg x = some (.ref g)) (hk : PySem.W.keepIn X.K (.ref g) = true)
    (lk : X.K.lookup g = some ⟨oc, od, .func (PySem.W.fnOf x x pg bg sg dV kV doc pm an cdv ct), osl⟩) (hcg : PySem.W.codeIn X.K cdv x = true) (hb : L2.Binds X.K (PySem.W.fnOf x x pg bg sg dV kV doc pm an cdv ct) [a] []) (Sg : FnScope Ng [a] sg) (hNg : Ng[0]? = some a) (hva : Vis sg a)
    (hG : GivesTo X Ng x sg g cdv bg a (X.env.qual ++ "<lambda>") (TTH X.K errs f)) (TB : TabB X.base X.mg c P) (hcode : X.env.code = .ref c) (hr : Room (k + 2) X.A) (hq : q = X.env.qual ++ "<lambda>")
    (S : NScope N ps fr scope) (hfree : ∀ y ∈ scope.names, y.2 = .free → X.env.scope.names.lookup y.1 = some .cell ∨ X.env.scope.names.lookup y.1 = some .free) (hfr : ∀ y ∈ fr, (y, NameKind.free) ∈ scope.names) (hjs : js.map (fun j => X.N[j]?) = fr.map some)
    (rv : ∀ ρ H L, RWs X.K ρ H L ws vs) (hn : N.length = ws.length + js.length) (hl : vs.length = ps.length) (hdf : DfltsAre params X.env vs) (hbind : BindL params body scope ps vs)
    (hbody : ∀ (A : Around) (outer : List PySem.Env) (s : Shared) (H : Hp) (E : XK) (f c' : Addr), A.guards = X.A.guards → Room k (A.deeper (envF ⟨"<lambda>", X.env.qual ++ "<lambda>", params, [], scope, cloFrom X.env.cells scope.names [], c'⟩ f s.heap.objs.size)) →
      PE (ncx (L2.CX X.prog X.w) X.prog X.w X.K X.mg X.base N ⟨"<lambda>", X.env.qual ++ "<lambda>", params, [], scope, cloFrom X.env.cells scope.names [], c'⟩ f A outer s H E) body (tE X.K (ZE X.K E) fb))
    (hdb : (x == ("__debug__" : Str)) = false := by decide) (hd : (a == ("__debug__" : Str)) = false := by decide) (hcd : (a == ("__classdict__" : Str)) = false := by decide) :
    PE X (.Call (.Name x p) [.Lambda params body scope lpos] [] pos) (tE X.K Z (heardM P q errs f ws js fb)) := by
  subst hq
  refine (pe_lamC (vs := vs) (t := fun E => tE X.K (ZE X.K E) fb) hg hm hk lk hcg hb Sg hNg hva hG TB hcode hr S hfree hfr hjs hl hdf hbind hbody hdb hd hcd).imp fun σ H Q h => ?_
  obtain ⟨δ, S0, ρ, R, re, gv⟩ := h
  unfold heardM at gv
  split at gv
  case h_2 => exact gv.elim
  rename_i P' q' h0
  split at gv
  case isFalse => exact gv.elim
  rename_i hPq
  obtain ⟨rfl, rfl⟩ := hPq
  obtain ⟨a0, ho, k1, k2, k3, k4⟩ := R.ob 0 _ h0 rfl
  subst k3
  refine ⟨Live S0 ρ, ⟨ho, k2, k4⟩, fun b l => R.tracked l, fun H0 ext hT H1 E Q' ext2 hE hQ => ?_⟩
  obtain ⟨o1, t1, t2⟩ := hT
  obtain ⟨e1, R1⟩ := rel_tab R h0 (fun b o e n => ext2 _ _ (ext b o e n)) ⟨o1, ext2 _ _ t1, t2.ext (fun a o e _ => ext2 a o e) fun a l => .inl l⟩
  have re1 : REnv X.K ρ H1 (Live S0 ρ) δ σ := Stb.env _ _ _ _ _ _ _ _ re e1
  refine ⟨lamW ws js δ, S0, ρ, R1, lamW_rep re1 (rv _ _ _) hn, ?_⟩
  cases eb : fb (lamW ws js δ) S0 with
  | ok w S' =>
    rw [eb] at gv
    intro ρ' H' v e2 R2 rw
    refine hQ v H' ⟨w, S', ρ', R2, rw, gives_imp (noEx_gives (E' := fun _ _ => False) gv) (fun w2 S2 z ρ2 H2 v2 e3 R3 rw2 => ?_) fun _ _ z => z⟩
    exact z ρ2 H2 v2 ((e1.trans e2).trans e3) R3 rw2
  | ex y S' =>
    rw [eb] at gv
    intro ρ' H' e2 R2 cls d fl
    refine hE cls d H' ⟨y, S', ρ', R2, fl, gives_imp (noEx_gives (E' := fun _ _ => False) gv) (fun w2 S2 z ρ2 H2 v2 e3 R3 rw2 => ?_) fun _ _ z => z⟩
    exact z ρ2 H2 v2 ((e1.trans e2).trans e3) R3 rw2
  | no => rw [eb] at gv; exact gv.elim
end DL
/-! DL26: the end of a law whose def makes lambdas: it has a table of code objects. -/
namespace DL
open PySem PySem.Spec PyProof.Rows L2 LamX NdefX

/-- the law's promise: a list of so many ints is handed in, its table is empty, True comes out -/
def spT (K : PySem.W.Frag) (P : Addr) : Sp := fun vs H Q _ => ∃ (a : Addr) (ns : List Int), vs = [.ref a] ∧ QF K H (fun b => b = P) a (ns.map V.int) ∧ ns.length ≤ 63 ∧ H P = some (.tbl #[]) ∧ ∀ H', Q (.bl true) H'
theorem spT_of {K : PySem.W.Frag} {ZZ : XK → XZ} {P : Addr} {q : Str} {F : List W → M W} (h : ∀ ns : List Int, ns.length ≤ 63 → ∃ S, F [.s ns] [.tab P q] = .ok (.d (.bool true)) S) : ∀ vs H Q E, spT K P vs H Q E → spF K ZZ F vs H Q E := by
  rintro vs H Q E ⟨a, ns, rfl, qf, hl, hP, hq⟩
  obtain ⟨S, e⟩ := h ns hl
  have lv : ∀ b, Live [.tab P q] ⟨[P], fun _ => False⟩ b → b = P := fun b z => by
    rcases z with ⟨n, o, z1, z2, z3⟩ | z
    · match n, z1, z3 with
      | 0, _, z3 => cases z3; rfl
      | n + 1, z1, _ => simp at z1
    · exact z.elim
  refine ⟨[.s ns], [.tab P q], ⟨[P], fun _ => False⟩, ⟨rfl, fun _ z => z.elim, fun _ z => z.elim, fun n o z1 z2 => ?_, fun n m b o u z1 z2 z3 z4 z5 z6 => ?_⟩, .cons ⟨a, rfl, qf.ext (fun _ _ z _ => z) fun b z => .inl (lv b z)⟩ .nil, ?_⟩
  · match n, z1 with
    | 0, z1 =>
      cases z1
      exact ⟨P, _, rfl, hP, rfl, #[], rfl, True.intro, fun pos cv hc => by simp [codeAmong] at hc⟩
    | n + 1, z1 => simp at z1
  · match n, m, z1, z3 with
    | 0, 0, _, _ => rfl
    | n + 1, _, z1, _ => simp at z1
    | 0, m + 1, _, z3 => simp at z3
  · rw [e]
    intro ρ' H' v _ _ rv
    cases rv
    exact hq H'
section
variable {Pr : Program} {w : World} {K : PySem.W.Frag} {mg mb : Str → Option Value} {k : Nat} {fa a c P : Addr} {fd : FuncData} {x : Str} {s₁ : Shared} {vs : List Value} {ns : List Int}
/-- the call of the law behind the top, where H tracks its table, and the script at most besides -/
theorem end_fromT {H : Hp} (KX : K.In s₁.heap) (hns : s₁.heap.Ns mainGlobals mg) (hb : s₁.heap.Ns builtinsNs mb) (hbb : ∀ x : Str, x ≠ "__name__" → mb x = bootBuiltins x) (hlim : s₁.heap.NoLimit) (hg : s₁.gens = #[])
    (hT : s₁.heap.get? P = some { cls := .none, data := .fields #[] }) (nT : K.lookup P = none) (C : PySem.W.CodeHd s₁.heap c P)
    (hbm : ∃ (bm : Addr) (ob : Obj), mg "__builtins__" = some (.ref bm) ∧ bm ≠ builtinsNs ∧ s₁.heap.get? bm = some ob ∧ ob.cls = .type "module" ∧ ob.dict = some builtinsNs ∧ ob.data = .plain)
    (ha : s₁.heap.get? a = some { cls := .type "list", data := .seq vs.toArray }) (hl : ns.length ≤ 63) (hr : Room k callerA)
    (F : ∀ base : Heap, K.In base → base.Ns mainGlobals mg → TabB base mg c P → FnG Pr w K mg base CX0 k fa fd [x] (spT K P)) (hbind : ∀ (s : Shared) (u : Value), BindsTo s fd ⟨[u], []⟩ [(x, u)])
    (hS : QF K H (fun b => b = P) a (ns.map V.int)) (hok : HOk Pr w H s₁.heap) (hP : H P = some (.tbl #[])) (hO : ∀ b u, H b = some u → (b = a ∧ (∃ o xs, u = .frz o (.lst xs)) ∧ K.lookup a = none) ∨ b = P) :
    codeAny (model Pr w) callerA (.call (.ref fa) ⟨[.ref a], []⟩) (fun r s' => r = .ok (.ret (.bool true)) ∧ OldK s₁.heap s'.heap ∧ s'.os = s₁.os ∧ AllBare s'.gens) s₁ := by
  have stands : ∀ {b : Addr} {o : Obj}, s₁.heap.get? b = some o → H b = none → (hidT s₁.heap H).get? b = some o := fun e n => hidT_get e n
  have untracked : ∀ {b : Addr} {o : Obj}, s₁.heap.get? b = some o → (∀ us n, o.data ≠ .seq us n) → o.data ≠ .fields #[] → H b = none := fun {b o} e n1 n2 => by
    cases q : H b with
    | none => rfl
    | some u =>
      rcases hO b u q with ⟨rfl, _⟩ | rfl
      · rw [ha] at e; cases e; exact (n1 _ _ rfl).elim
      · rw [hT] at e; cases e; exact (n2 rfl).elim
  have isDict : ∀ {b : Addr} {m : Str → Option Value}, s₁.heap.Ns b m → (hidT s₁.heap H).Ns b m := fun {b m} z => by
    obtain ⟨o, es, ep, e, d, r⟩ := z
    exact ⟨o, es, ep, stands e (untracked e (fun _ _ z => by rw [d] at z; cases z) fun z => by rw [d] at z; cases z), d, r⟩
  have KB : K.In (hidT s₁.heap H) := fun b o e => stands (KX b o e) (by
    cases q : H b with
    | none => rfl
    | some u =>
      rcases hO b u q with ⟨rfl, _, z⟩ | rfl
      · rw [z] at e; cases e
      · rw [nT] at e; cases e)
  have NB := isDict hns
  obtain ⟨mc, l1, l2⟩ := hlim
  have MB : Mod K mg (hidT s₁.heap H) := ⟨KB, NB, ⟨mb, isDict hb, hbb⟩, ⟨mc, isDict l1, l2⟩⟩
  have gP : mainGlobals ≠ P := fun z => by
    obtain ⟨o, es, ep, e, d, _⟩ := hns
    rw [z, hT] at e; cases e; cases d
  have TB : TabB (hidT s₁.heap H) mg c P := by
    obtain ⟨o, us, file, tf, flags, tg, inF, text, tt, e1, r1, r2, r3, rr⟩ := C
    obtain ⟨bm, ob, b1, b2, b3, b4, b5, b6⟩ := hbm
    refine ⟨⟨o, us, file, tf, flags, tg, inF, text, tt, stands e1 (untracked e1 (fun _ _ z => by rw [r2] at z; cases z) fun z => ?_), r1, r2, r3, rr⟩, ⟨bm, ob, b1, b2, fun z => ?_, fun z => ?_, stands b3 (untracked b3 (fun _ _ z => by rw [b6] at z; cases z) fun z => by rw [b6] at z; cases z), b4, b5, b6⟩, gP⟩
    · rw [r2] at z; cases z; simp at r3
    · obtain ⟨o', es, ep, e, d, _⟩ := hns
      rw [z, e] at b3; cases b3; rw [d] at b6; cases b6
    · rw [z, hT] at b3; cases b3; cases b6
  have E : Env0 Pr w K mg (hidT s₁.heap H) callerA [] s₁ H := ⟨rfl, MB, fun b o e => of_hidT e, Nat.le_of_eq (hidT_size _ _), trivial, fun b z => by simp [frs] at z, hok, .of_eq hg⟩
  have R := (F _ KB NB TB).run callerA [] s₁ H ⟨[.ref a], []⟩ [.ref a] [.ref a] (fun v _ => v = .bl true) E0 hr rfl E (hbind s₁ (.ref a)) (.cons rfl .nil) ⟨a, ns, rfl, hS, hl, hP, fun _ => rfl⟩
  refine codeAny_mono R fun r s' h => ?_
  cases r with
  | error e => exact h.elim
  | ok fl =>
    cases fl with
    | ret u =>
      obtain ⟨v, H', os, bare, un, hok', rv, q⟩ := h
      have q' : v = .bl true := q
      subst q'
      cases (show u = Value.bool true from rv)
      have other : ∀ b o, b ≠ P → s₁.heap.get? b = some o → s'.heap.get? b = some o := fun b o nb e => by
        cases q : H b with
        | none => exact un.keep b o e q (by simp [frs]) (by simp)
        | some u =>
          rcases hO b u q with ⟨_, ⟨ob, xs, rfl⟩, _⟩ | z
          · have before := (hok b _ q).1
            have after := (hok' b _ (un.frzs b ob _ q)).1
            rw [e] at before; cases before
            exact after
          · exact (nb z).elim
      obtain ⟨more, hm⟩ := un.tbls P #[] hP
      have hm : s'.heap.get? P = some { cls := .none, data := .fields (#[] ++ more) } := hok' P _ hm
      refine ⟨rfl, ⟨fun b o e => ?_, fun b o e => ?_⟩, os, bare⟩
      · by_cases hb : b = P
        · subst hb
          rw [hT] at e
          cases e
          exact .inr (.inl ⟨(C.tab hT).isCodeTable, rfl, #[], more, rfl, hm⟩)
        · exact .inl (other b o hb e)
      · by_cases hb : b = P
        · subst hb; exact ⟨_, hm⟩
        · exact ⟨o, other b o hb e⟩
    | next => exact h.elim
    | brk => exact h.elim
    | cont => exact h.elim
theorem end_callT (KX : K.In s₁.heap) (hns : s₁.heap.Ns mainGlobals mg) (hb : s₁.heap.Ns builtinsNs mb) (hbb : ∀ x : Str, x ≠ "__name__" → mb x = bootBuiltins x) (hlim : s₁.heap.NoLimit) (hg : s₁.gens = #[])
    (hT : s₁.heap.get? P = some { cls := .none, data := .fields #[] }) (nT : K.lookup P = none) (C : PySem.W.CodeHd s₁.heap c P)
    (hbm : ∃ (bm : Addr) (ob : Obj), mg "__builtins__" = some (.ref bm) ∧ bm ≠ builtinsNs ∧ s₁.heap.get? bm = some ob ∧ ob.cls = .type "module" ∧ ob.dict = some builtinsNs ∧ ob.data = .plain)
    (ha : s₁.heap.get? a = some { cls := .type "list", data := .seq vs.toArray }) (hi : IntsAre vs ns) (hl : ns.length ≤ 63) (hr : Room k callerA)
    (F : ∀ base : Heap, K.In base → base.Ns mainGlobals mg → TabB base mg c P → FnG Pr w K mg base CX0 k fa fd [x] (spT K P)) (hbind : ∀ (s : Shared) (u : Value), BindsTo s fd ⟨[u], []⟩ [(x, u)]) :
    codeAny (model Pr w) callerA (.call (.ref fa) ⟨[.ref a], []⟩) (fun r s' => r = .ok (.ret (.bool true)) ∧ OldK s₁.heap s'.heap ∧ s'.os = s₁.os ∧ AllBare s'.gens) s₁ := by
  have rv := vals_ints hi
  have many : ns.length = vs.length := by
    have := rv.length
    simpa using this
  have small : vs.length ≤ sizeLine := by
    have : (63 : Nat) ≤ sizeLine := by decide
    omega
  have aP : a ≠ P := fun z => by
    rw [z, hT] at ha
    cases (Option.some.inj ha)
  have t0 : upd (fun _ => none) P (.tbl #[]) P = some (HO.tbl #[]) := upd_same
  cases hk : K.lookup a with
  | some o =>
    have e := KX a o hk
    rw [ha] at e
    cases e
    have only : ∀ b u, upd (fun _ => none) P (.tbl #[]) b = some u → b = P ∧ u = .tbl #[] := fun b u z => by
      by_cases e : b = P
      · subst e; rw [t0] at z; cases z; exact ⟨rfl, rfl⟩
      · rw [upd_ne e] at z; cases z
    refine end_fromT (H := upd (fun _ => none) P (.tbl #[])) KX hns hb hbb hlim hg hT nT C hbm ha hl hr F hbind (.inr ⟨_, vs.toArray, _, hk, rfl, rfl, rfl, by simpa using small, by simpa using rv⟩) (fun b u z => ?_) t0 fun b u z => .inr (only b u z).1
    obtain ⟨rfl, rfl⟩ := only b u z
    exact hT
  | none =>
    have only : ∀ b u, upd (upd (fun _ => none) P (.tbl #[])) a (.frz { cls := .type "list", data := .seq vs.toArray } (.lst (ns.map V.int))) b = some u →
        (b = a ∧ u = .frz { cls := .type "list", data := .seq vs.toArray } (.lst (ns.map V.int))) ∨ (b = P ∧ u = .tbl #[]) := fun b u z => by
      by_cases e : b = a
      · subst e; rw [upd_same] at z; cases z; exact .inl ⟨rfl, rfl⟩
      · rw [upd_ne e] at z
        by_cases e2 : b = P
        · subst e2; rw [upd_same] at z; cases z; exact .inr ⟨rfl, rfl⟩
        · rw [upd_ne e2] at z; cases z
    refine end_fromT (H := upd (upd (fun _ => none) P (.tbl #[])) a (.frz { cls := .type "list", data := .seq vs.toArray } (.lst (ns.map V.int)))) KX hns hb hbb hlim hg hT nT C hbm ha hl hr F hbind
      (.inl ⟨.inr ⟨_, upd_same⟩, aP⟩) (fun b u z => ?_) (by rw [upd_ne (Ne.symm aP)]; exact t0) fun b u z => ?_
    · rcases only b u z with ⟨rfl, rfl⟩ | ⟨rfl, rfl⟩
      · exact ⟨ha, by rw [List.length_map]; omega, vs, _, rv, ha⟩
      · exact hT
    · rcases only b u z with ⟨rfl, rfl⟩ | ⟨rfl, rfl⟩
      · exact .inl ⟨rfl, ⟨_, _, rfl⟩, hk⟩
      · exact .inr rfl
end
/-- the goal that the head leaves, from the promise of the law's def, whose code object's table is known -/
theorem end_ofT {l : PySem.W.OpenLaw} {k : Nat} {q : Program} {loose : List Str} {XP : (Str → Option Value) → Heap → Prop} {YP : World → Heap → Prop} {d : DefRec} {K : Params → PySem.W.Frag}
    (hn : l.most = some 63) (hdf : d.params.defaults = []) (hr : Room k callerA) (hY : ∀ (w : World) (h : Heap), YP w h → (K w.params).In h)
    (F : ∀ (w : World) (mg : Str → Option Value) (fa : Addr) (h : Heap), YP w h → (K w.params).In h → h.Ns mainGlobals mg → mg d.name = some (.ref fa) →
      ∃ (fd : FuncData) (c P : Addr), h.get? P = some { cls := .none, data := .fields #[] } ∧ (K w.params).lookup P = none ∧ PySem.W.CodeHd h c P ∧ (∀ (s : Shared) (u : Value), BindsTo s fd ⟨[u], []⟩ [("script", u)]) ∧
        ∀ base : Heap, (K w.params).In base → base.Ns mainGlobals mg → TabB base mg c P → FnG l.prog w (K w.params) mg base CX0 k fa fd ["script"] (spT (K w.params) P)) :
    PySem.W.WalkO q loose XP YP l.row.toRowW d [] (fun f vs => PySem.call f vs) := by
  refine Att.attach_call hn hdf fun w s₀ s₁ mg mb fa o pm cd doc a vs ns G Y ho hd hcd hmg hobj hints hlen hg => ?_
  have KX := hY w _ Y
  obtain ⟨fd, c, P, hT, nT, C, hb, hF⟩ := F w mg fa _ Y KX G.T.g hmg
  exact end_callT KX G.T.g G.T.b G.T.builtins G.T.nolimit hg hT nT C G.T.bmain hobj hints hlen hr hF hb
end DL
/-! DL27: max with and without a default, join, built-ins with keywords; defs that may raise, where they do not. -/
namespace DLM
open PySem
section
variable {prog : Program} {w : World} {A : Around} {R : Result → Shared → Prop} {I S : Addr} {fp wr : List Addr} {n : Nat} {P : Nat → Value → Prop} {St : Nat → Heap → Prop} {bt : Nat → Nat → Bool} {d : Value}
/-- the list that keeps the best so far -/
def bestO (old : Option Value) (c : Nat) : Obj := { cls := .type "list", dict := none, data := .seq (old.elim #[] fun v => #[v, v]) c, slots := #[] }
theorem loopD (W : Walks prog w A.in1 I fp wr n P St) (hcmp : CmpOf prog w A.in1 .Gt P bt) (hSf : S ∉ fp) : ∀ (m j : Nat) (s : Shared) (old : Option Value) (c : Nat), n - j = m → j ≤ n → St j s.heap → (old = none → j = 0) → (∀ v, old = some v → 0 < j ∧ P (argBest bt (j - 1)) v) →
    s.heap.get? S = some (bestO old c) → (∀ v h' tk, ((n = 0 ∧ v = d) ∨ (0 < n ∧ P (argBest bt (n - 1)) v)) → (∀ b o, b ∉ wr → b ≠ S → s.heap.get? b = some o → h'.get? b = some o) → R (.ok (.ret v)) { s with heap := h', toks := tk }) →
    codeAny (model prog w) A (.builtin "max.loop" ⟨[.ref I, .none, .ref S], [("default", d)]⟩) R s := by
  have hSw : S ∉ wr := fun h => hSf (W.sub _ h)
  have same : (toString "max" ++ toString ".loop" : String) = "max.loop" := by decide
  intro m
  induction m with
  | zero =>
    intro j s old c hm hj hst h0 h1 hS hR
    have e : j = n := by omega
    subst e
    refine codeAny_builtin F.entry_max_loop ?_
    rw [Around.under_plainId F.plain_max_loop _]
    show wpAny _ A.in1 (seqItems? (.ref S) >>= _) _ _ s
    refine wpAny_bind (wpAny_seqItems hS rfl ?_)
    show wpAny _ A.in1 (tryCatch (pyNext (.ref I)) _ >>= _) _ _ s
    refine wpAny_bind (wpAny_tryCatch (W.done s _ _ hst fun h' tk k => ?_))
    cases old with
    | none =>
      show wpAny _ A.in1 (rule _ >>= fun _ => ret d) _ _ _
      exact wpAny_bind (wpAny_rule (wpAny_pure (hR d h' tk (.inl ⟨h0 rfl, rfl⟩) fun b o hb _ e => k b o hb e)))
    | some v =>
      obtain ⟨p1, p2⟩ := h1 v rfl
      show wpAny _ A.in1 (updateSeq S (fun _ => #[]) >>= _) _ _ _
      have hS2 : h'.get? S = some { cls := .type "list", dict := none, data := .seq #[v, v] c, slots := #[] } := k S _ hSw hS
      refine wpAny_bind (wpAny_updateSeq hS2 rfl (wpAny_bind (wpAny_letGo (wpAny_pure ?_))))
      exact hR v _ tk (.inr ⟨p1, p2⟩) fun b o hb hbS e => (Heap.get?_update_other _ _ (Ne.symm hbS)).trans (k b o hb e)
  | succ m ih =>
    intro j s old c hm hj hst h0 h1 hS hR
    have lt : j < n := by omega
    refine codeAny_builtin F.entry_max_loop ?_
    rw [Around.under_plainId F.plain_max_loop _]
    show wpAny _ A.in1 (seqItems? (.ref S) >>= _) _ _ s
    refine wpAny_bind (wpAny_seqItems hS rfl ?_)
    show wpAny _ A.in1 (tryCatch (pyNext (.ref I)) _ >>= _) _ _ s
    refine wpAny_bind (wpAny_tryCatch (W.item j s _ _ lt hst fun v h' tk hP hst' k => ?_))
    have hS' := k S _ hSw hS
    have next : ∀ (h2 : Heap) (u : Value) (c2 : Nat), St (j + 1) h2 → P (argBest bt j) u → h2.get? S = some (bestO (some u) c2) → (∀ b o, b ∉ wr → b ≠ S → s.heap.get? b = some o → h2.get? b = some o) →
        codeAny (model prog w) A (.builtin "max.loop" ⟨[.ref I, .none, .ref S], [("default", d)]⟩) R { s with heap := h2, toks := tk } := fun h2 u c2 st2 hp2 hS2 k2 =>
      ih (j + 1) _ (some u) c2 (by omega) lt st2 (fun z => by cases z) (fun v' z => by cases z; exact ⟨Nat.succ_pos _, hp2⟩) hS2 fun v' h3 tk3 hv k3 => hR v' h3 tk3 hv fun b o hb hbS e => k3 b o hb hbS (k2 b o hb hbS e)
    cases old with
    | none =>
      have e0 := h0 rfl
      subst e0
      show wpAny _ A.in1 (updateSeq S (fun _ => #[v, v]) >>= _) _ _ _
      refine wpAny_bind (wpAny_updateSeq hS' rfl ?_)
      rw [same]
      refine wpAny_pure ⟨plainId_quiet F.plain_max_loop _, next _ v _ (W.frame _ _ _ hst' fun b hb o e => ?_) hP (Heap.get?_update_self _ hS' rfl) fun b o hb hbS e => ?_⟩
      · exact (Heap.get?_update_other _ _ (fun h : S = b => hSf (by rw [h]; exact hb))).trans e
      · exact (Heap.get?_update_other _ _ (Ne.symm hbS)).trans (k b o hb e)
    | some u =>
      obtain ⟨p1, p2⟩ := h1 u rfl
      obtain ⟨i, rfl⟩ : ∃ i, j = i + 1 := ⟨j - 1, by omega⟩
      have p2 : P (argBest bt i) u := p2
      show wpAny _ A.in1 (tryCatch (holding [v, v] (richCompare .Gt v u >>= _)) _ >>= _) _ _ _
      refine wpAny_bind (wpAny_tryCatch (wpAny_holding (wpAny_bind (hcmp (i + 1) (argBest bt i) v u _ _ _ hP p2 ?_))))
      refine wpAny_bind (wpAny_holding (wpAny_truthy_bool (wpAny_bind (wpAny_letGo (wpAny_pure ?_)))))
      cases hb : bt (i + 1) (argBest bt i) with
      | true =>
        simp only [if_true]
        have hS2 : h'.get? S = some { cls := .type "list", dict := none, data := .seq #[u, u] c, slots := #[] } := hS'
        refine wpAny_bind (wpAny_updateSeq hS2 rfl (wpAny_bind (wpAny_letGo ?_)))
        rw [same]
        refine wpAny_pure ⟨plainId_quiet F.plain_max_loop _, next _ v _ (W.frame _ _ _ hst' fun b hb o e => ?_) (by simp only [argBest, hb, if_true]; exact hP) (Heap.get?_update_self _ hS' rfl) fun b o hb hbS e => ?_⟩
        · exact (Heap.get?_update_other _ _ (fun h : S = b => hSf (by rw [h]; exact hb))).trans e
        · exact (Heap.get?_update_other _ _ (Ne.symm hbS)).trans (k b o hb e)
      | false =>
        simp only [Bool.false_eq_true, if_false]
        refine wpAny_bind (wpAny_letGo ?_)
        rw [same]
        exact wpAny_pure ⟨plainId_quiet F.plain_max_loop _, next _ u c hst' (by simp only [argBest, hb, Bool.false_eq_true, if_false]; exact p2) hS' fun b o hb hbS e => k b o hb e⟩
end
section
variable {prog : Program} {w : World} {A : Around} {E : Value → Shared → Prop} {s : Shared}
/-- a built-in with keywords that goes on by itself -/
theorem call_tree_kw {id : String} {b : Builtin} {args : List Value} {kw : List (Str × Value)} {Q : Value → Shared → Prop} (hk : builtinKind id = none) (hp : plainId id = true) (hb : entryFor table id = some b) (ha : argsOk id ⟨args, kw⟩)
    (hc : wpAny (model prog w) A.in1 (b ⟨args, kw⟩) (fun fin s' => match fin with
      | .done f => (match (Except.ok f : Result) with | .ok (.ret v) => Q v s' | .ok _ => False | .error e => E e s')
      | .again c' => c'.quiet = true ∧ codeAny (model prog w) A c' (fun r s' => match r with | .ok (.ret v) => Q v s' | .ok _ => False | .error e => E e s') s') E s) :
    wpAny (model prog w) A (call (.builtin id) args kw) Q E s := by
  refine wpAny_call (codeAny_call_builtin hp hb ?_)
  unfold checkBuiltinCall
  rw [hk]
  dsimp only
  cases hs : Manifest.signature? id with
  | none => exact wpAny_pure hc
  | some sig =>
    unfold argsOk at ha
    rw [hs] at ha
    have h2 : Bind.checkArgs id sig ⟨args, kw⟩ = pure () := ha
    show wpAny _ A.in1 (Bind.checkArgs id sig ⟨args, kw⟩) _ _ s
    rw [h2]
    exact wpAny_pure hc
theorem args_maxD (a d : Value) : argsOk "max" ⟨[a], [("default", d)]⟩ := by unfold argsOk; kernel_rfl
theorem max_intD {l : Addr} {xs : Array (Int × Tok)} {d : Value} {Q : Value → Shared → Prop} (hh : A.handled = none) (hl : s.heap.IsList l (intItems xs))
    (h : ∀ v h' tk, ((xs.size = 0 ∧ v = d) ∨ (0 < xs.size ∧ (intItems xs)[argBest (fun i j => decide (numAt xs i > numAt xs j)) (xs.size - 1)]? = some v)) → (∀ b o, s.heap.get? b = some o → h'.get? b = some o) → Q v { s with heap := h', toks := tk }) :
    wpAny (model prog w) A (call (.builtin "max") [.ref l] [("default", d)]) Q E s := by
  refine call_tree_kw F.kind_max F.plain_max F.entry_max (args_maxD _ _) ?_
  show wpAny _ A.in1 (Builtin.Builtins.bindParams "max" ["key", "default"] 0 ⟨[], [("default", d)]⟩ >>= _) _ _ s
  refine wpAny_bind (wpAny_of_eq (show Builtin.Builtins.bindParams "max" ["key", "default"] 0 ⟨[], [("default", d)]⟩ = pure [none, some d] from rfl) ?_)
  refine wpAny_bind (wpAny_pure (wpAny_bind (iter_intList hl fun s₂ e st hfp hlI => ?_)))
  subst e
  refine wpAny_bind (wpAny_newObj_type ?_)
  have hSf := fun hm => Nat.lt_irrefl _ (hfp _ hm)
  have same : (toString "max" ++ toString ".loop" : String) = "max.loop" := by decide
  have W := Walks.list (prog := prog) (w := w) (A := A.in1) hh s.heap.objs.size l hlI (intItems xs)
  rw [same]
  refine wpAny_pure ⟨plainId_quiet F.plain_max_loop _, loopD W (CmpOf.ints_gt (numAt xs) (fun _ _ => intItems_at)) hSf _ 0 _ none _ rfl (Nat.zero_le _) (W.frame _ _ _ st fun b _ o e => Heap.get?_push_of_some _ e) (fun _ => rfl) (fun v z => by cases z) (Heap.get?_push_size _ rfl) fun v h' tk hv k => ?_⟩
  refine h v h' tk (by simpa [intItems] using hv) (old_kept fun b o hb e => k b o (by simpa using hb) (fun z => ?_) (Heap.get?_push_of_some _ e))
  have lt := Heap.lt_size e
  rw [z] at lt
  exact Nat.lt_irrefl _ lt
end
end DLM
/-! DL28: rules over DL27; what is known of own errors. -/
namespace DL
open PySem PySem.Spec PyProof.Rows L2

/-! ### max -/
def intsOf : List D → Option (List Int)
  | [] => some []
  | .int i :: ds => (intsOf ds).map (i :: ·)
  | _ :: _ => none
theorem intsOf_rep {K : PySem.W.Frag} {H : Hp} {L : Addr → Prop} : ∀ {ds : List D} {vs : List V} {ns : List Int}, intsOf ds = some ns → RpA K H L vs ds → vs = ns.map V.int
  | [], _, ns, h, r => by cases r; simp [intsOf] at h; subst h; rfl
  | d :: ds, _, ns, h, r => by
    cases r with
    | cons a b =>
      cases d with
      | int i =>
        simp only [intsOf, Option.map_eq_some_iff] at h
        obtain ⟨ms, h1, rfl⟩ := h
        cases a
        rw [intsOf_rep h1 b]
        rfl
      | none => simp [intsOf] at h
      | bool _ => simp [intsOf] at h
      | str _ => simp [intsOf] at h
      | list _ => simp [intsOf] at h
      | tuple _ => simp [intsOf] at h
      | dict _ => simp [intsOf] at h
theorem intsOf_map : ∀ ns : List Int, intsOf (ns.map .int) = some ns
  | [] => rfl
  | n :: ns => by simp [intsOf, intsOf_map ns]
def maxOf (d : Int) : List Int → Int
  | [] => d
  | x :: xs => xs.foldl max x
theorem foldl_max : ∀ (xs : List Int) (x : Int), (xs.foldl max x = x ∨ xs.foldl max x ∈ xs) ∧ x ≤ xs.foldl max x ∧ ∀ a ∈ xs, a ≤ xs.foldl max x
  | [], x => ⟨.inl rfl, Int.le_refl _, fun a h => by simp at h⟩
  | y :: ys, x => by
    obtain ⟨h1, h2, h3⟩ := foldl_max ys (max x y)
    refine ⟨?_, Int.le_trans (Int.le_max_left x y) h2, fun a ha => ?_⟩
    · rcases h1 with h1 | h1
      · rw [List.foldl_cons, h1]
        rcases Int.le_total x y with q | q
        · exact .inr (by rw [Int.max_eq_right q]; exact .head _)
        · exact .inl (Int.max_eq_left q)
      · exact .inr (.tail _ h1)
    · rcases List.mem_cons.mp ha with rfl | ha
      · exact Int.le_trans (Int.le_max_right x a) h2
      · exact h3 a ha
theorem maxOf_eq {d M : Int} {ns : List Int} (h : M ∈ ns) (hs : ∀ a ∈ ns, a ≤ M) : maxOf d ns = M := by
  cases ns with
  | nil => simp at h
  | cons x xs =>
    obtain ⟨h1, h2, h3⟩ := foldl_max xs x
    refine Int.le_antisymm ?_ ?_
    · rcases h1 with e | e
      · show xs.foldl max x ≤ M
        rw [e]; exact hs _ (.head _)
      · exact hs _ (.tail _ e)
    · rcases List.mem_cons.mp h with rfl | e
      · exact h2
      · exact h3 _ e
/-- max(xs, default=k) -/
def maxDM (ws ks : List W) : M W := fun S => match ws, ks with
  | [.d (.list ds)], [.d (.int k)] => (match intsOf ds with
    | some ns => .ok (.d (.int (maxOf k ns))) S
    | none => .no)
  | _, _ => .no
/-- max(xs) -/
def maxM (ws : List W) : M W := fun S => match ws with
  | [.d (.list ds)] => (match intsOf ds with
    | some ns => if 0 < ns.length then .ok (.d (.int (maxOf 0 ns))) S else .no
    | none => .no)
  | _ => .no
def rkM (K : PySem.W.Frag) (Z : XZ) (fo : List W → List W → M W) : List V → List V → Hp → VK → Prop := fun xs zs H Q => tH K Z (rP (RWs K) (RWs K)) (RW K) (fun p => fo p.1 p.2) (xs, zs) H Q
section
variable {X : Cx} {Z : XZ} {pos : Pos} {a e o : Expr} {es : List Expr} {fr fk : Env → M (List W)} {fa : Env → M W}
theorem c_maxD (hc : X.calm = true) : CallRK X (.builtin "max") ["default"] (rkM X.K Z maxDM) := by
  intro pins s σ H xs zs us ws Q I rv rz h
  obtain ⟨⟨w1, w2⟩, S, ρ, R, ⟨r1, r2⟩, g⟩ := h
  change Gives (maxDM w1 w2 S) _ _ at g
  change RWs X.K ρ H (Live S ρ) w1 xs at r1
  change RWs X.K ρ H (Live S ρ) w2 zs at r2
  unfold maxDM at g
  split at g
  · rename_i ds k
    split at g
    · rename_i ns en
      cases r1 with
      | cons x y =>
        cases y
        cases r2 with
        | cons x2 y2 =>
          cases y2
          cases x2
          cases x with
          | lst q ra =>
            have ev := intsOf_rep en ra
            subst ev
            obtain ⟨u, rfl, ru⟩ := rz.one
            obtain ⟨its, rvi, hl, _⟩ := I.list q.sq
            rw [Vals.ref1 rv]
            have hi := rvi.ints
            obtain ⟨qs, eq⟩ := hi.allInts.items
            have hn : numsOf (intItems qs).toList = ns := by rw [← eq]; exact hi.numsOf
            rw [nums_intItems] at hn
            rw [eq] at hl
            refine DLM.max_intD (I.ok.hd hc) hl.isList fun v h' tk hv hk => ?_
            rcases hv with ⟨h0, rfl⟩ | ⟨h0, hv⟩
            · have e0 : ns = [] := by
                rw [← hn]
                have : qs.toList = [] := by
                  apply List.eq_nil_of_length_eq_zero
                  simpa using h0
                rw [this]; rfl
              subst e0
              exact ⟨.int k, H, I.kept hk, ru, g ρ H (.int k) Ext.refl R (.int k)⟩
            · obtain ⟨t, rfl⟩ := intItems_at hv
              obtain ⟨h1, h2⟩ := argBest_gt (numAt qs) (qs.size - 1)
              have em : maxOf k ns = numAt qs (argBest (fun i j => decide (numAt qs i > numAt qs j)) (qs.size - 1)) := by
                refine maxOf_eq ?_ fun a ha => ?_
                · rw [← hn, numAt_eq]; exact PySem.getD_mem (by rw [List.length_map, Array.length_toList]; omega)
                · rw [← hn] at ha
                  obtain ⟨j, hj, rfl⟩ := mem_getD ha
                  rw [List.length_map, Array.length_toList] at hj
                  rw [← numAt_eq]; exact h2 j (by omega)
              rw [em] at g
              exact ⟨.int _, H, I.kept hk, ⟨t, rfl⟩, g ρ H (.int _) Ext.refl R (.int _)⟩
    · exact g.elim
  · exact g.elim
theorem c_max (hc : X.calm = true) : CallR X (.builtin "max") (rcM X.K Z maxM) := by
  rintro pins s σ H xs us Q I rv ⟨ws, S, ρ, R, r1, g⟩
  unfold maxM at g
  split at g
  · rename_i ds
    split at g
    · rename_i ns en
      split at g
      · rename_i hp
        cases r1 with
        | cons x y =>
          cases y
          cases x with
          | lst q ra =>
            have ev := intsOf_rep en ra
            subst ev
            refine cr_max hc pins s σ H _ us Q I rv ⟨_, ns, rfl, q.sq, hp, fun m h1 h2 => ?_⟩
            rw [← maxOf_eq (d := 0) h1 h2]
            exact g ρ H (.int _) Ext.refl R (.int _)
      · exact g.elim
    · exact g.elim
  · exact g.elim
abbrev calBK (fr fk : Env → M (List W)) (fo : List W → List W → M W) : Env → M W := fun δ => bd (fr δ) fun xs => bd (fk δ) fun ys => fo xs ys
/-- a built-in called with keywords -/
theorem dcallBK {id : String} {x : Str} {p : Pos} {ks : List Str} {kws : List Keyword} {fo : List W → List W → M W} (hc : CallRK X (.builtin id) ks (rkM X.K Z fo)) (hg : Gl X x) (hm : X.mg x = none) (hv : bootBuiltins x = some (.builtin id)) (ha : PA X (e :: es) (tA X.K Z fr)) (hk : PK X kws (tA X.K Z fk))
    (hn : x ≠ "__name__" := by decide) (hdb : (x == ("__debug__" : Str)) = false := by decide) (he : backTo pos (starEach (e :: es) X.env) = (false, eval e X.env) :: backTo pos (starEach es X.env) := by rfl) (hpl : (backTo pos (starEach (e :: es) X.env)).any (·.1) = false := by rfl)
    (hall : (backToKw pos (keywordEach kws X.env)).all (·.1.isSome) = true := by rfl) (hnone : (backToKw pos (keywordEach kws X.env)).any (·.1.isNone) = false := by rfl) (hks : (backToKw pos (keywordEach kws X.env)).filterMap (·.1) = ks := by rfl) :
    PE X (.Call (.Name x p) (e :: es) kws pos) (tE X.K Z (calBK fr fk fo)) := by
  refine (pe_callBK hc hg hm hv ha hk hn hdb he hpl hall hnone hks).imp fun σ H Q h => ?_
  refine (tH.bind (Rα := RWs X.K) (f := fr) (g := fun δ xs => bd (fk δ) fun ys => fo xs ys) h Stb.env).mono fun vs H1 h1 => ?_
  have h2 := tH.bind (Rα := RWs X.K) (f := fun p : Env × List W => fk p.1) (g := fun p ys => fo p.2 ys) h1 (Stb.env.p Stb.ws)
  refine (tH.map (RA' := REnv X.K) (m := fk) (f := Prod.fst) (g := Prod.fst) h2 fun _ _ _ _ _ q => q.1).mono fun us H2 h3 => ?_
  exact tH.map (RA' := rP (RWs X.K) (RWs X.K)) (m := fun p : List W × List W => fo p.1 p.2) (f := fun q : (Env × List W) × List W => (q.1.2, q.2)) (g := fun q : (L2.St × List V) × List V => (q.1.2, q.2)) h3 fun _ _ _ _ _ q => ⟨q.1.2, q.2⟩
/-! ### join -/
def strsOf : List D → Option (List Str)
  | [] => some []
  | .str x :: ds => (strsOf ds).map (x :: ·)
  | _ :: _ => none
theorem strsOf_rep {K : PySem.W.Frag} {H : Hp} {L : Addr → Prop} : ∀ {ds : List D} {vs : List V} {ns : List Str}, strsOf ds = some ns → RpA K H L vs ds → vs = ns.map V.str ∧ ∀ x ∈ ns, okS x = true
  | [], _, ns, h, r => by cases r; simp [strsOf] at h; subst h; exact ⟨rfl, fun x h => by simp at h⟩
  | d :: ds, _, ns, h, r => by
    cases r with
    | cons a b =>
      cases d with
      | str i =>
        simp only [strsOf, Option.map_eq_some_iff] at h
        obtain ⟨ms, h1, rfl⟩ := h
        obtain ⟨e, ho⟩ := strsOf_rep h1 b
        cases a with
        | str _ o => exact ⟨by rw [e]; rfl, fun x hx => by rcases List.mem_cons.mp hx with rfl | hx; exact o; exact ho x hx⟩
      | none => simp [strsOf] at h
      | bool _ => simp [strsOf] at h
      | int _ => simp [strsOf] at h
      | list _ => simp [strsOf] at h
      | tuple _ => simp [strsOf] at h
      | dict _ => simp [strsOf] at h
theorem strsOf_map : ∀ ns : List Str, strsOf (ns.map .str) = some ns
  | [] => rfl
  | n :: ns => by simp [strsOf, strsOf_map ns]
theorem okS_join {a : Str} (ha : okS a = true) : ∀ {ys : List Str}, (∀ y ∈ ys, okS y = true) → okS (Str.join a ys) = true
  | [], _ => (by decide +kernel : okS Str.empty = true)
  | [y], h => h y (.head _)
  | y :: z :: ys, h => by
    show okS (y ++ a ++ Str.join a (z :: ys)) = true
    exact okS_app (okS_app (h y (.head _)) ha) (okS_join ha fun x hx => h x (.tail _ hx))
def chkS (w : W) : M Unit := fun S => match w with
  | .d (.str _) => .ok () S
  | _ => .no
theorem chkS_ok {K : PySem.W.Frag} : ChkOk K "str" chkS := by
  intro w S ρ H v P E R r g
  unfold chkS at g
  split at g
  · cases r with
    | str x o => exact ⟨rfl, g⟩
  · exact g.elim
def joinM (w : W) (ws : List W) : M W := fun S => match w, ws with
  | .d (.str a), [.d (.list ds)] => (match strsOf ds with
    | some ys => if (ys.map (·.length)).sum + ys.length * a.length ≤ 16777216 then .ok (.d (.str (Str.join a ys))) S else .no
    | none => .no)
  | _, _ => .no
theorem m_join : MtR X "str.join" (rmM X.K Z joinM) := by
  rintro pins s σ H x xs v us Q I rx rxs ⟨⟨w, ws⟩, S, ρ, R, ⟨r1, r2⟩, g⟩
  change Gives (joinM w ws S) _ _ at g
  change RW X.K ρ H (Live S ρ) w x at r1
  change RWs X.K ρ H (Live S ρ) ws xs at r2
  unfold joinM at g
  split at g
  · rename_i a ds
    split at g
    · rename_i ys ey
      split at g
      · rename_i hl
        cases r1 with
        | str _ oa =>
          cases r2 with
          | cons x y =>
            cases y
            cases x with
            | lst q ra =>
              obtain ⟨ev, ho⟩ := strsOf_rep ey ra
              subst ev
              refine mt_join pins s σ H _ _ v us Q I rx rxs ⟨a, _, ys, rfl, rfl, .inl q.sq, hl, ?_⟩
              rw [TL.join_eq]
              exact g ρ H (.str _) Ext.refl R (.str _ (okS_join oa ho))
      · exact g.elim
    · exact g.elim
  · exact g.elim
end
/-! ### a def that may raise, where it does not -/
theorem fn_noEx {P : Program} {w : World} {K : PySem.W.Frag} {mg : Str → Option Value} {base : Heap} {k : Nat} {f : Addr} {fd : FuncData} {ps : List Str} {F : List W → M W}
    (h : FnG P w K mg base (L2.CX P w) k f fd ps (spF K (ZE K) F)) : FnG P w K mg base CX0 k f fd ps (spF K (fun _ => ZF) fun ws => noEx (F ws)) := by
  have to : ∀ vs H Q E, spF K (fun _ => ZF) (fun ws => noEx (F ws)) vs H Q E → spF K (ZE K) F vs H Q E0 := fun vs H Q E q => by
    obtain ⟨ws, S, ρ, R, rw, g⟩ := q
    exact ⟨ws, S, ρ, R, rw, noEx_gives g⟩
  refine ⟨fun vs H Q E q => h.len _ _ _ _ (to _ _ _ _ q), fun A outer s H args us vs Q E hr hg e0 hb hv q => ?_⟩
  refine codeAny_mono (h.run A outer s H args us vs Q E0 hr hg e0 hb hv (to _ _ _ _ q)) fun r s' z => ?_
  cases r with
  | ok fl => cases fl <;> exact z
  | error e =>
    obtain ⟨_, _, _, _, _, _, _, _, _, _, _, _, z⟩ := z
    exact z.elim
/-! ### what the written part says of the errors -/
/-- an own error that is raised: its field, its message -/
structure RaiseTx (P : Program) (K : PySem.W.Frag) (mg : Str → Option Value) (x f msg : Str) : Prop where
  ex : ∃ (C fI : Addr) (q : Str) (params : Arguments) (body : List Stmt) (sc : Scope), DLE.SupTxt P K mg C fI q f params body sc ∧ DLE.InitForm q f msg fI params body sc ∧ mg x = some (.ref C) ∧ PySem.W.nsIn K mainGlobals x = some (some (.ref C))
/-- a class that is asked for by isinstance, of errors of the classes told -/
structure KindTx (K : PySem.W.Frag) (mg : Str → Option Value) (y : Str) (tb : List (Str × Bool)) : Prop where
  ex : ∃ Cy : Addr, mg y = some (.ref Cy) ∧ ∀ q ∈ tb, ∀ C : Addr, PySem.W.nsIn K mainGlobals q.1 = some (some (.ref C)) → PySem.W.kitOne K (.ref C) (.ref Cy) = some q.2
  ek : ∀ q ∈ tb, ErrK K q.1
structure CatchTx (K : PySem.W.Frag) (mg : Str → Option Value) (y : Str) (errs : List Str) : Prop where
  ex : ∃ Cy : Addr, mg y = some (.ref Cy) ∧ ∀ x ∈ errs, ∀ C : Addr, PySem.W.nsIn K mainGlobals x = some (some (.ref C)) → PySem.W.exmOne K (.ref C) (.ref Cy) = some true
structure FieldTx (K : PySem.W.Frag) (x f : Str) : Prop where
  ek : ErrK K x
  no : ∀ C : Addr, PySem.W.nsIn K mainGlobals x = some (some (.ref C)) → PySem.W.findIn K (.ref C) f = some none
section
variable {X : Cx} {Z : XZ} {pos : Pos} {a e : Expr} {fa fe : Env → M W} {x f msg : Str} {p p2 pos2 : Pos} {k : Nat}
theorem ds_raiseT (T : RaiseTx X.prog X.K X.mg x f msg) (hc : X.calm = true) (tk : Tk X Z) (hr : Room k X.A) (ha : PE X a (tE X.K Z fa)) (hg : Gl X x) (hdb : (x == ("__debug__" : Str)) = false := by decide)
    (he : starEach (a :: []) X.env = (false, eval a X.env) :: starEach [] X.env := by rfl) (hpl : (backTo pos (starEach [] X.env)).any (·.1) = false := by rfl) :
    PS X (.Raise (some (.Call (.Name x p) [a] [] pos)) none pos2) (tS X.K Z (raiseM x f fa)) := by
  obtain ⟨C, fI, q, params, body, sc, h1, h2, h3, h4⟩ := T.ex
  exact ds_raise hc tk h1 h2 h3 h4 hr ha hg hdb he hpl
theorem disiT {tb : List (Str × Bool)} {y : Str} (T : KindTx X.K X.mg y tb) (hg : Gl X "isinstance") (hm : X.mg "isinstance" = none) (hgy : Gl X y) (ha : PE X e (tE X.K Z fe))
    (hdy : (y == ("__debug__" : Str)) = false := by decide) (he : starEach [e, .Name y p2] X.env = (false, eval e X.env) :: starEach [.Name y p2] X.env := by rfl) (hpl : (backTo pos (starEach [.Name y p2] X.env)).any (·.1) = false := by rfl) :
    PE X (.Call (.Name "isinstance" p) [e, .Name y p2] [] pos) (tE X.K Z fun δ => bd (fe δ) (isiEM tb)) := by
  obtain ⟨Cy, h1, h2⟩ := T.ex
  exact disiE T.ek h2 hg hm hgy h1 ha hdy he hpl
/-- fields of no class: never read -/
theorem dfld0 (he : PE X e (tE X.K Z fe)) (hb : attributeBase e f X.env (eval e X.env) = eval e X.env := by rfl) : PE X (.Attribute e f pos) (tE X.K Z fun δ => bd (fe δ) (fldM [] f)) := dfld (fun x h => by simp at h) (fun x h => by simp at h) he hb
theorem dfld1 (T : FieldTx X.K x f) (he : PE X e (tE X.K Z fe)) (hb : attributeBase e f X.env (eval e X.env) = eval e X.env := by rfl) : PE X (.Attribute e f pos) (tE X.K Z fun δ => bd (fe δ) (fldM [x] f)) :=
  dfld (fun y h => by rw [List.mem_singleton.mp h]; exact T.ek) (fun y h C z => by rw [List.mem_singleton.mp h] at z; exact T.no C z) he hb
end
end DL
/-! DL29: the facts of own errors, out of what the head leaves. -/
namespace DL
open PySem PySem.Spec PyProof.Rows L2 LamX NdefX

/-- a class's first def -/
def initOf (s : Stmt) : Stmt := match s with
  | .ClassDef _ _ _ (b :: _) _ _ _ _ _ _ _ => b
  | s => s
section
variable {P : Program} {K : PySem.W.Frag} {h : Heap} {mg : Str → Option Value} {x y f msg q : Str} {st : Stmt} {C Cy fI N cda cc : Addr} {nm qn : Str} {bs bm : List Value} {sn : List Str} {sub : List Value} {ab : Bool} {col : Option Bool} {dd : Option Addr} {k0 k1 k2 k3 k5 : Option Value}
  {oc : Value} {od : Option Addr} {doc pm : Value} {an : Option Addr} {ct : Value} {osl : Array (Option Value)} {ccl : Value} {cdd : Option Addr} {vs : Array Value} {ccs : Array (Option Value)} {file : Str} {tf : Tok} {cl : Value} {cld : Option Addr} {csl : Array (Option Value)} {b : Bool}
theorem raise_mk (X : K.In h) (G : h.Ns mainGlobals mg) (B : ∀ fI : Addr, DLE.InitForm q f msg fI (defArgs st) (defBody st) (defScope st)) (top : (P.main.scope.names.lookup ("super" : Str)).isSome = false)
    (n : PySem.W.nsIn K mainGlobals x = some (some (.ref C))) (lC : K.lookup C = some (excClassObj nm qn C N bs bm true sn sub ab col dd k0 k1 k2 k3 k5 "ValueError.__new__")) (hbm : HandSPX.refsVE bm = true)
    (sa : PySem.W.findIn K (.ref C) "__setattr__" = some (some (.builtin "object.__setattr__"))) (noN : PySem.W.findIn K (.ref C) f = some none) (iC : PySem.W.findIn K (.ref C) "__init__" = some (some (.ref fI)))
    (lf : K.lookup fI = some ⟨oc, od, .func (PySem.W.fnX "__init__" q (defArgs st) (defBody st) (defScope st) [("__class__", cc)] .none .none doc pm an (.ref cda) ct), osl⟩)
    (tC : PySem.W.typeIn K (.ref fI) = some (.type "function")) (kC : PySem.W.keepIn K (.ref C) = true) (exC : PySem.W.subIn K (.ref C) (.type "BaseException") = some true) (tyC : PySem.W.typeIn K (.ref C) = some (.type "type"))
    (sup : PySem.W.ks_superIn K C C "__init__" = some (some (.builtin "ValueError.__init__"))) (subV : PySem.W.subIn K (.ref C) (.type "ValueError") = some true) (any : PySem.W.nsIn K cStatics "thirdparty.any" = some none) (ms : PySem.W.nsIn K mainGlobals "super" = some none)
    (mroC : PySem.W.mroIn K C (.ref C) = some true) (cd : PySem.W.codeIn K (.ref cda) q = true) (lcd : K.lookup cda = some ⟨ccl, cdd, .fields vs, ccs⟩) (lv : vs[2]? = some (.str file tf)) (hfile : ((P.main.file : Str) == file) = true) (lcc : K.lookup cc = some ⟨cl, cld, .cell (some (.ref C)), csl⟩) :
    RaiseTx P K mg x f msg :=
  ⟨C, fI, q, _, _, _, ⟨⟨nm, qn, N, bs, bm, sn, sub, ab, col, dd, k0, k1, k2, k3, k5, lC, hbm⟩, sa, noN, iC, tC, kC, exC, tyC, sup, subV, any, PySem.W.mg_none_of X G ms, top, mroC, ⟨oc, od, doc, pm, an, cda, cc, ct, osl, ccl, cdd, vs, ccs, file, tf, cl, cld, csl, lf, cd, lcd, lv, hfile, lcc⟩⟩, B fI, PySem.W.mg_of X G n, n⟩
theorem exc_mk (h1 : PySem.W.findIn K (.ref C) "__getattribute__" = some (some (.builtin "BaseException.__getattribute__"))) (h2 : PySem.W.findIn K (.ref C) "__getattr__" = some none) (h3 : PySem.W.subIn K (.ref C) (.type "BaseException") = some true) (h4 : PySem.W.hasDictIn K C = true)
    (h5 : PySem.W.findIn K (.ref C) "__class__" = some (some (.builtin "object.__class__"))) (h6 : PySem.W.specialIn K (.builtin "object.__class__") "__get__" = some (some (.builtin "getset_descriptor.__get__"))) (h7 : PySem.W.takesIn K (.builtin "object.__class__") = some true) (h8 : PySem.W.mroIn K C (.type "object") = some true) : ExcC K C :=
  ⟨h1, h2, h3, h4, h5, h6, h7, h8⟩
theorem errK_mk (n : PySem.W.nsIn K mainGlobals x = some (some (.ref C))) (e : ExcC K C) : ErrK K x := ⟨fun C' z => by rw [n] at z; cases z; exact e⟩
theorem kind_nil (X : K.In h) (G : h.Ns mainGlobals mg) (ny : PySem.W.nsIn K mainGlobals y = some (some (.ref Cy))) : KindTx K mg y [] := ⟨⟨Cy, PySem.W.mg_of X G ny, fun q z => by simp at z⟩, fun q z => by simp at z⟩
theorem kind_cons (X : K.In h) (G : h.Ns mainGlobals mg) (ny : PySem.W.nsIn K mainGlobals y = some (some (.ref Cy))) (n : PySem.W.nsIn K mainGlobals x = some (some (.ref C))) (e : ErrK K x) (k : PySem.W.kitOne K (.ref C) (.ref Cy) = some b) {tb : List (Str × Bool)} (T : KindTx K mg y tb) : KindTx K mg y ((x, b) :: tb) := by
  obtain ⟨⟨C2, m2, r⟩, ek⟩ := T
  have e2 := (PySem.W.mg_of X G ny).symm.trans m2
  cases e2
  refine ⟨⟨Cy, PySem.W.mg_of X G ny, fun q hq C' z => ?_⟩, fun q hq => ?_⟩
  · rcases List.mem_cons.mp hq with rfl | hq
    · rw [n] at z; cases z; exact k
    · exact r q hq C' z
  · rcases List.mem_cons.mp hq with rfl | hq
    · exact e
    · exact ek q hq
theorem catch_nil (X : K.In h) (G : h.Ns mainGlobals mg) (ny : PySem.W.nsIn K mainGlobals y = some (some (.ref Cy))) : CatchTx K mg y [] := ⟨⟨Cy, PySem.W.mg_of X G ny, fun q z => by simp at z⟩⟩
theorem catch_cons (X : K.In h) (G : h.Ns mainGlobals mg) (ny : PySem.W.nsIn K mainGlobals y = some (some (.ref Cy))) (n : PySem.W.nsIn K mainGlobals x = some (some (.ref C))) (k : PySem.W.exmOne K (.ref C) (.ref Cy) = some true) {tb : List Str} (T : CatchTx K mg y tb) : CatchTx K mg y (x :: tb) := by
  obtain ⟨⟨C2, m2, r⟩⟩ := T
  have e2 := (PySem.W.mg_of X G ny).symm.trans m2
  cases e2
  refine ⟨⟨Cy, PySem.W.mg_of X G ny, fun q hq C' z => ?_⟩⟩
  rcases List.mem_cons.mp hq with rfl | hq
  · rw [n] at z; cases z; exact k
  · exact r q hq C' z
theorem field_mk (n : PySem.W.nsIn K mainGlobals x = some (some (.ref C))) (e : ErrK K x) (noN : PySem.W.findIn K (.ref C) f = some none) : FieldTx K x f := ⟨e, fun C' z => by rw [n] at z; cases z; exact noN⟩
/-- the code of the law's def, where it is looked at -/
theorem code_mk {f : Addr} {c : Value} {fd : FuncData} (l : K.lookup f = some ⟨oc, od, .func fd, osl⟩) (e : fd.code = c) : ∀ cdv, CodeOf K f cdv → cdv = c := fun cdv z => by
  obtain ⟨_, _, fd2, _, l2, e2⟩ := z
  rw [l] at l2
  cases l2
  exact e2.symm.trans e
end
theorem bl_max : bootBuiltins "max" = some (.builtin "max") := by decide +kernel
/-! ### lambdas bind -/
theorem bindL0 {params : Arguments} {body : Expr} {scope : Scope} (h : ∀ (q : Str) (cl : List (Str × Addr)) (doc pm cdv ctv : Value), bindArgs (PySem.W.kdv_fn "<lambda>" q params (.expr body) scope cl .none doc pm cdv ctv) ⟨[], []⟩ = pure []) : BindL params body scope [] [] := by
  intro s q cl dV doc pm cdv ctv us rv d
  cases rv
  have d : dV = .none := d
  subst d
  exact .of_eq (h q cl doc pm cdv ctv)
theorem bindL1 {params : Arguments} {body : Expr} {scope : Scope} {a : Str} {v : V} (h : ∀ (q : Str) (cl : List (Str × Addr)) (T : Addr) (doc pm cdv ctv : Value), ∃ k : Option (Array Value) → Sem (List (Str × Value)), bindArgs (PySem.W.kdv_fn "<lambda>" q params (.expr body) scope cl (.ref T) doc pm cdv ctv) ⟨[], []⟩ = seqItems? (.ref T) >>= k ∧ ∀ u : Value, k (some [u].toArray) = pure [(a, u)]) :
    BindL params body scope [a] [v] := by
  intro s q cl dV doc pm cdv ctv us rv d
  cases rv with
  | cons r rn =>
    cases rn
    obtain ⟨T, rfl, ho⟩ := d
    obtain ⟨k, h1, h2⟩ := h q cl T doc pm cdv ctv
    exact .of_defaults rfl ho rfl h1 (h2 _)
/-- _law_heard, called with a lambda, where it is known what stands behind the try -/
theorem dheardT {X : Cx} {Z : XZ} {g c P : Addr} {fd : FuncData} {st : Stmt} {k : Nat} {N ps fr : List Str} {js : List Nat} {ws : List W} {vs : List V} {q : Str}
    {params : Arguments} {body : Expr} {scope : Scope} {fb : Env → M W} {f : Env → M Fl} {errs : List Str} {p lpos pos : Pos} (D : DefOk X.K X.mg "_law_heard" st ["ask"] g fd) (hg : Gl X "_law_heard") (Sg : FnScope hN4 ["ask"] (defScope st)) (hva : Vis (defScope st) "ask")
    (hG : ∀ cdg : Value, GivesTo X hN4 "_law_heard" (defScope st) g cdg (defBody st) "ask" (X.env.qual ++ "<lambda>") (TTH X.K errs f)) (TB : TabB X.base X.mg c P) (hcode : X.env.code = .ref c) (hr : Room (k + 2) X.A) (hq : q = X.env.qual ++ "<lambda>")
    (S : NScope N ps fr scope) (hsc : ndefB X.env.scope scope fr = true) (hjs : js.map (fun j => X.N[j]?) = fr.map some)
    (rv : ∀ ρ H L, RWs X.K ρ H L ws vs) (hn : N.length = ws.length + js.length) (hl : vs.length = ps.length) (hdf : DfltsAre params X.env vs) (hbind : BindL params body scope ps vs)
    (hbody : ∀ (A : Around) (outer : List PySem.Env) (s : Shared) (H : Hp) (E : XK) (f c' : Addr), A.guards = X.A.guards → Room k (A.deeper (envF ⟨"<lambda>", X.env.qual ++ "<lambda>", params, [], scope, cloFrom X.env.cells scope.names [], c'⟩ f s.heap.objs.size)) →
      PE (ncx (L2.CX X.prog X.w) X.prog X.w X.K X.mg X.base N ⟨"<lambda>", X.env.qual ++ "<lambda>", params, [], scope, cloFrom X.env.cells scope.names [], c'⟩ f A outer s H E) body (tE X.K (ZE X.K E) fb)) :
    PE X (.Call (.Name "_law_heard" p) [.Lambda params body scope lpos] [] pos) (tE X.K Z (heardM P q errs f ws js fb)) := by
  obtain ⟨oc, od, kV, doc, pm, an, cdv, ct, osl, hfd, lk, hcd⟩ := D.fn.ex
  have hb := D.bd
  subst hfd
  exact dheard (dV := .none) hg D.mg (keep_ok D) lk hcd hb Sg rfl hva (hG cdv) TB hcode hr hq S (ndef_free hsc) (ndef_fr hsc) hjs rv hn hl hdf hbind hbody
end DL
/-! DL30: the law's own code object. -/
namespace DL
open PySem PySem.Spec PyProof.Rows L2 LamX NdefX

/-- the law's code object is at ca, its table at PT -/
structure CodeTx (K : PySem.W.Frag) (h : Heap) (mg : Str → Option Value) (x : Str) (ca PT : Addr) : Prop where
  code : ∃ f : Addr, mg x = some (.ref f) ∧ ∀ cdv, CodeOf K f cdv → cdv = .ref ca
  tab : h.get? PT = some { cls := .none, data := .fields #[] }
  no : K.lookup PT = none
  hd : PySem.W.CodeHd h ca PT
theorem codeTx_mk {K : PySem.W.Frag} {h : Heap} {mg : Str → Option Value} {x : Str} {ca PT f : Addr} {oc : Value} {od : Option Addr} {fd : FuncData} {osl : Array (Option Value)} {ts : List Addr} (X : K.In h) (G : h.Ns mainGlobals mg) (tabs : ∀ P ∈ ts, h.get? P = some (PySem.W.tabObj #[])) (hm : PT ∈ ts)
    (a : PySem.W.nsIn K mainGlobals x = some (some (.ref f))) (l : K.lookup f = some ⟨oc, od, .func fd, osl⟩) (e : fd.code = .ref ca) (no : K.lookup PT = none) (hd : PySem.W.codeHdIn K ca PT = true) : CodeTx K h mg x ca PT :=
  ⟨⟨f, PySem.W.mg_of X G a, code_mk l e⟩, tabs PT hm, no, PySem.W.codeHd_of_K X hd⟩
section
variable {K : PySem.W.Frag} {C Cy : Addr} {oc : Value} {od : Option Addr} {cd : ClassData} {osl : Array (Option Value)} {b : Bool} {t : Value}
theorem kit_eq : PySem.W.kitOne K t t = some true := by
  unfold PySem.W.kitOne
  rw [if_pos (by simp)]
theorem kitCls_mk (l : K.lookup Cy = some ⟨oc, od, .cls cd, osl⟩) (ty : PySem.W.typeIn K (.ref Cy) = some (.type "type")) (sb : PySem.W.subIn K t (.ref Cy) = some b) : PySem.W.kitCls K t (.ref Cy) = some b := by
  have e : PySem.W.clsIn K Cy = some cd := by unfold PySem.W.clsIn; rw [l]
  show (if ((PySem.W.clsIn K Cy).isSome && PySem.W.typeIn K (.ref Cy) == some (.type "type")) = true then PySem.W.subIn K t (.ref Cy) else none) = some b
  rw [if_pos (by rw [e, ty]; simp)]
  exact sb
theorem kit_ne (l : K.lookup Cy = some ⟨oc, od, .cls cd, osl⟩) (ty : PySem.W.typeIn K (.ref Cy) = some (.type "type")) (sb : PySem.W.subIn K t (.ref Cy) = some b) (ne : (t == Value.ref Cy) = false) : PySem.W.kitOne K t (.ref Cy) = some b := by
  unfold PySem.W.kitOne
  rw [if_neg (by rw [ne]; simp)]
  exact kitCls_mk l ty sb
theorem exm_mk (bx : PySem.W.subIn K (.ref Cy) (.type "BaseException") = some true) (l : K.lookup Cy = some ⟨oc, od, .cls cd, osl⟩) (ty : PySem.W.typeIn K (.ref Cy) = some (.type "type")) (sb : PySem.W.subIn K t (.ref Cy) = some b) : PySem.W.exmOne K t (.ref Cy) = some b := by
  unfold PySem.W.exmOne
  rw [if_pos (by rw [bx]; rfl)]
  exact kitCls_mk l ty sb
end
end DL
namespace DL.k01
open PySem PySem.Spec PyProof.Rows L2 DL
def topS (i : Nat) : Stmt := PySem.Challenge.pw_modulesmeet_k01_values_heights_and_texts.main.body.getD i (.Pass ⟨0, 0, 0, 0⟩)
abbrev s_is_listed : Stmt := topS 14
abbrev s_is_row : Stmt := topS 15
abbrev s_is_name : Stmt := topS 16
abbrev s_fixed : Stmt := topS 18
abbrev s_is_fields : Stmt := topS 22
abbrev s_is_so_high : Stmt := topS 23
abbrev s_is_value : Stmt := topS 24
abbrev s_height : Stmt := topS 25
abbrev s_height_of : Stmt := topS 26
abbrev s_words_of : Stmt := topS 27
abbrev s_text_of : Stmt := topS 28
abbrev s_value_text : Stmt := topS 29
abbrev s_need_value : Stmt := topS 30
abbrev s__law_pen : Stmt := topS 32
abbrev s__law_draw : Stmt := topS 33
abbrev s__law_pick : Stmt := topS 34
abbrev s__law_heard : Stmt := topS 35
abbrev s__law_value : Stmt := topS 36
abbrev s__law_high : Stmt := topS 37
abbrev s__law_text : Stmt := topS 38
abbrev s__law_listed : Stmt := topS 39
abbrev s__law_bent : Stmt := topS 40
abbrev s__law_within : Stmt := topS 41
abbrev s_law : Stmt := topS 42
abbrev cs_BadValue : Stmt := topS 2
def c_WORDS : List Str := ["atom", "call", "case", "either", "else", "ask", "field", "get", "has", "let", "never", "or", "pick", "put", "raise", "record", "tag", "try", "with", "without"]
def errs : List Str := ["BadValue"]
def qL : Str := (envOfC "law" (defScope s_law) 0 0 .none).qual ++ "<lambda>"
/-- what the walk leans on -/
structure Tx (P : Program) (K : PySem.W.Frag) (mg : Str → Option Value) (ad : Nat → Addr) (fd : Nat → FuncData) : Prop where
  d_is_listed : DefOk K mg "is_listed" s_is_listed ["value"] (ad 0) (fd 0)
  d_is_row : DefOk K mg "is_row" s_is_row ["value", "many"] (ad 1) (fd 1)
  d_is_name : DefOk K mg "is_name" s_is_name ["value"] (ad 2) (fd 2)
  d_fixed : DefOk K mg "fixed" s_fixed ["value"] (ad 3) (fd 3)
  d_is_fields : DefOk K mg "is_fields" s_is_fields ["value"] (ad 4) (fd 4)
  d_is_so_high : DefOk K mg "is_so_high" s_is_so_high ["value", "most", "many"] (ad 5) (fd 5)
  d_is_value : DefOk K mg "is_value" s_is_value ["value"] (ad 6) (fd 6)
  d_height : DefOk K mg "height" s_height ["value"] (ad 7) (fd 7)
  d_height_of : DefOk K mg "height_of" s_height_of ["value"] (ad 8) (fd 8)
  d_words_of : DefOk K mg "words_of" s_words_of ["value"] (ad 9) (fd 9)
  d_text_of : DefOk K mg "text_of" s_text_of ["value"] (ad 10) (fd 10)
  d_value_text : DefOk K mg "value_text" s_value_text ["value"] (ad 11) (fd 11)
  d_need_value : DefOk K mg "need_value" s_need_value ["value"] (ad 12) (fd 12)
  d__law_pen : DefOk K mg "_law_pen" s__law_pen ["script"] (ad 13) (fd 13)
  d__law_draw : DefOk K mg "_law_draw" s__law_draw ["pen", "many"] (ad 14) (fd 14)
  d__law_pick : DefOk K mg "_law_pick" s__law_pick ["pen", "some"] (ad 15) (fd 15)
  d__law_heard : DefOk K mg "_law_heard" s__law_heard ["ask"] (ad 16) (fd 16)
  d__law_value : DefOk K mg "_law_value" s__law_value ["pen", "most"] (ad 17) (fd 17)
  d__law_high : DefOk K mg "_law_high" s__law_high ["value"] (ad 18) (fd 18)
  d__law_text : DefOk K mg "_law_text" s__law_text ["value"] (ad 19) (fd 19)
  d__law_listed : DefOk K mg "_law_listed" s__law_listed ["pen", "value"] (ad 20) (fd 20)
  d__law_bent : DefOk K mg "_law_bent" s__law_bent ["pen", "value"] (ad 21) (fd 21)
  d__law_within : DefOk K mg "_law_within" s__law_within ["pen", "value", "inner"] (ad 22) (fd 22)
  d_law : DefOk K mg "law" s_law ["script"] (ad 23) (fd 23)
  m_isinstance : mg "isinstance" = none
  m_list : mg "list" = none
  m_tuple : mg "tuple" = none
  m_len : mg "len" = none
  m_str : mg "str" = none
  m_all : mg "all" = none
  m_zip : mg "zip" = none
  m_max : mg "max" = none
  m_int : mg "int" = none
  m_abs : mg "abs" = none
  m_range : mg "range" = none
  r_BadValue : RaiseTx P K mg "BadValue" "part" "bad value"
  k_TooMany : KindTx K mg "TooMany" [("BadValue", false)]
  k_BadModule : KindTx K mg "BadModule" [("BadValue", false)]
  k_BadProgram : KindTx K mg "BadProgram" [("BadValue", false)]
  k_BadSignature : KindTx K mg "BadSignature" [("BadValue", false)]
  k_Misfit : KindTx K mg "Misfit" [("BadValue", false)]
  k_BadValue : KindTx K mg "BadValue" [("BadValue", true)]
  k_BadNumber : KindTx K mg "BadNumber" [("BadValue", false)]
  k_NoName : KindTx K mg "NoName" [("BadValue", false)]
  c_MeetError : CatchTx K mg "MeetError" ["BadValue"]
  f_BadValue_part : FieldTx K "BadValue" "part"
  c_LONGEST : ∃ t, mg "LONGEST" = some (.int 8 t)
  c_WORDS : ∃ a, mg "WORDS" = some (.ref a) ∧ SqTw K a (c_WORDS.map V.str)
  c_LETTERS : ∃ t, mg "LETTERS" = some (.str "abcdefghijklmnopqrstuvwxyz" t)
  c_HIGHEST : ∃ t, mg "HIGHEST" = some (.int 8 t)
  c_MOST_FIELDS : ∃ t, mg "MOST_FIELDS" = some (.int 60 t)
section
variable {P : Program} {w : World} {K : PySem.W.Frag} {mg : Str → Option Value} {base : Heap} {ad : Nat → Addr} {fd : Nat → FuncData}
theorem kb_0 {f : Addr} {fd : FuncData} (h : DefOk K mg "is_value" s_is_value ["value"] f fd) : KB K fd ["value"] ["value"] (gP 0 1 [0]) (gP 0 1 [0]) (gP 0 1 [0]) :=
  kb_pick h (by decide) fun _ _ _ _ _ _ us ws h1 h2 => match us, ws, h1, h2 with | [], [_], _, _ => rfl
theorem kb_1 {f : Addr} {fd : FuncData} (h : DefOk K mg "height" s_height ["value"] f fd) : KB K fd ["value"] ["value"] (gP 0 1 [0]) (gP 0 1 [0]) (gP 0 1 [0]) :=
  kb_pick h (by decide) fun _ _ _ _ _ _ us ws h1 h2 => match us, ws, h1, h2 with | [], [_], _, _ => rfl
theorem kb_2 {f : Addr} {fd : FuncData} (h : DefOk K mg "value_text" s_value_text ["value"] f fd) : KB K fd ["value"] ["value"] (gP 0 1 [0]) (gP 0 1 [0]) (gP 0 1 [0]) :=
  kb_pick h (by decide) fun _ _ _ _ _ _ us ws h1 h2 => match us, ws, h1, h2 with | [], [_], _, _ => rfl
/-! is_listed -/
abbrev N_is_listed : List Str := ["value"]
theorem sc_is_listed : FnScope ["value"] ["value"] (defScope s_is_listed) := ⟨rfl, rfl, rfl, by decide +kernel, rfl, by decide +kernel, by decide +kernel⟩
def st_is_listed_1 : Env → M Fl :=
 (retM (fun δ => bd ((varM 0) δ) (isiM [.lst, .tup])))
def b_is_listed : Env → M Fl :=
 st_is_listed_1
def F_is_listed : List W → M W := pureM (runD 1 1 b_is_listed)
theorem g_is_listed (T : Tx P K mg ad fd) : FnG P w K mg base CX0 1 (ad 0) (fd 0) ["value"] (spF K (fun _ => ZF) F_is_listed) := by
  refine fn_pure (fn_run T.d_is_listed.fn sc_is_listed rfl rfl fun cdv A outer s H E hr hG => ?_)
  exact (show PSs _ (defBody s_is_listed) (tS _ ZF b_is_listed) from
 (ds_one (ds_ret (disi2 (T := .lst) (U := .tup) rfl T.m_isinstance rfl T.m_list bl_list rfl T.m_tuple bl_tuple (dvar (i := 0))))))
/-! is_row -/
abbrev N_is_row : List Str := ["value", "many"]
theorem sc_is_row : FnScope ["value", "many"] ["value", "many"] (defScope s_is_row) := ⟨rfl, rfl, rfl, by decide +kernel, rfl, by decide +kernel, by decide +kernel⟩
def st_is_row_1 : Env → M Fl :=
 (retM (andV (calM (consM (varM 0) nilM) fun ws => noEx (F_is_listed ws)) (binM (calM (consM (varM 0) nilM) lenDM) (varM 1) eqM)))
def b_is_row : Env → M Fl :=
 st_is_row_1
def F_is_row : List W → M W := pureM (runD 2 2 b_is_row)
theorem g_is_row (T : Tx P K mg ad fd) : FnG P w K mg base CX0 2 (ad 1) (fd 1) ["value", "many"] (spF K (fun _ => ZF) F_is_row) := by
  refine fn_pure (fn_run T.d_is_row.fn sc_is_row rfl rfl fun cdv A outer s H E hr hG => ?_)
  exact (show PSs _ (defBody s_is_row) (tS _ ZF b_is_row) from
 (ds_one (ds_ret (dv_and (dcall ((g_is_listed T).mono (by omega)) hr hG rfl T.d_is_listed.mg (keep_ok T.d_is_listed) T.d_is_listed.bd (dacons (dvar (i := 0)) danil)) (dv_one (dcmp (o_eq (room65 hr)) (dcallB c_lenD rfl T.m_len bl_len (dacons (dvar (i := 0)) danil)) (dvar (i := 1))))))))
/-! is_name -/
abbrev N_is_name : List Str := ["value", "sign"]
theorem sc_is_name : FnScope ["value", "sign"] ["value"] (defScope s_is_name) := ⟨rfl, rfl, rfl, by decide +kernel, rfl, by decide +kernel, by decide +kernel⟩
def st_is_name_1 : Env → M Fl :=
 (ifM (orT (notT (valT (fun δ => bd ((varM 0) δ) (isiM [.str])))) (orT (notT (valT (chainM (cM (.int 1)) (calM (consM (varM 0) nilM) lenDM) (cM (.int 8)) leM leM))) (valT (binM (varM 0) (cM (.tuple (c_WORDS.map .str))) inM)))) (retM (cM (.bool false))) skipM)
def st_is_name_2 : Env → M Fl :=
 (retM (calM (consM (lcM [1] (fun δ => bd ((varM 0) δ) iterM) (setG 1) yesT (binM (varM 1) (cM (.str "abcdefghijklmnopqrstuvwxyz")) inM)) nilM) allM))
def b_is_name : Env → M Fl :=
 (seqM st_is_name_1
 st_is_name_2)
def F_is_name : List W → M W := pureM (runD 1 2 b_is_name)
theorem g_is_name (T : Tx P K mg ad fd) : FnG P w K mg base CX0 1 (ad 2) (fd 2) ["value"] (spF K (fun _ => ZF) F_is_name) := by
  refine fn_pure (fn_run T.d_is_name.fn sc_is_name rfl rfl fun cdv A outer s H E hr hG => ?_)
  exact (show PSs _ (defBody s_is_name) (tS _ ZF b_is_name) from
 (ds_cons (ds_if (dt_bool (dw_or (dt_not (dt_val (disi1 (T := .str) rfl T.m_isinstance rfl T.m_str bl_str (dvar (i := 0))))) (dw_or (dt_not (dt_chain o_le o_le dint (dcallB c_lenD rfl T.m_len bl_len (dacons (dvar (i := 0)) danil)) (dgint T.c_LONGEST rfl))) (dw_or1 (dt_cmp (o_in (room66 hr)) (dvar (i := 0)) (dgstrs T.c_WORDS (by decide +kernel) rfl)))))) (ds_one (ds_ret dbl)) ds_nil)
 (ds_one (ds_ret (dcallB (c_all rfl) rfl T.m_all bl_all (dacons (dlc (own := [("sign", 1)]) rfl sc_is_name.nd (di_val (dvar (i := 0))) (blkOk_by (N := N_is_name) (sc := defScope s_is_name) (by decide +kernel)) (fun _ _ _ _ _ => (dr_name (i := 1) sc_is_name.nd rfl (by first | exact Or.inl rfl | exact Or.inr rfl) (fun _ _ => wipe_set (by decide)))) (fun _ _ _ _ _ => dts_nil) (fun _ _ _ _ _ => (dcmp (o_in (room66 hr)) (dvar (i := 1)) (dgstr T.c_LETTERS (by decide +kernel) rfl)))) danil))))))
/-! fixed -/
abbrev N_fixed : List Str := ["value", "part"]
theorem sc_fixed : FnScope ["value", "part"] ["value"] (defScope s_fixed) := ⟨rfl, rfl, rfl, by decide +kernel, rfl, by decide +kernel, by decide +kernel⟩
def st_fixed_1 (R : List W → M W) : Env → M Fl :=
 (ifM (valT (fun δ => bd ((varM 0) δ) (isiM [.lst, .tup]))) (retM (calM (consM (lcM [1] (fun δ => bd ((varM 0) δ) iterM) (setG 1) yesT (calM (consM (varM 1) nilM) fun ws => noEx (R ws))) nilM) tupleM)) skipM)
def st_fixed_2 (R : List W → M W) : Env → M Fl :=
 (retM (varM 0))
def b_fixed (R : List W → M W) : Env → M Fl :=
 (seqM (st_fixed_1 R)
 (st_fixed_2 R))
def F_fixed : Nat → List W → M W
  | 0 => fun _ => no
  | n + 1 => pureM (runD 1 2 (b_fixed (F_fixed n)))
theorem g_fixed (T : Tx P K mg ad fd) : ∀ n : Nat, FnG P w K mg base CX0 (1 + n) (ad 3) (fd 3) ["value"] (spF K (fun _ => ZF) (F_fixed n))
  | 0 => fn_none
  | n + 1 => by
    have ih := g_fixed T n
    refine fn_pure (fn_run (j := 1 + n) T.d_fixed.fn sc_fixed rfl rfl fun cdv A outer s H E hr hG => ?_)
    exact (show PSs _ (defBody s_fixed) (tS _ ZF (b_fixed (F_fixed n))) from
 (ds_cons (ds_if (dt_val (disi2 (T := .lst) (U := .tup) rfl T.m_isinstance rfl T.m_list bl_list rfl T.m_tuple bl_tuple (dvar (i := 0)))) (ds_one (ds_ret (dcallTy c_tuple rfl T.m_tuple bl_tuple (dacons (dlc (own := [("part", 1)]) rfl sc_fixed.nd (di_val (dvar (i := 0))) (blkOk_by (N := N_fixed) (sc := defScope s_fixed) (by decide +kernel)) (fun _ _ _ _ _ => (dr_name (i := 1) sc_fixed.nd rfl (by first | exact Or.inl rfl | exact Or.inr rfl) (fun _ _ => wipe_set (by decide)))) (fun _ _ _ _ _ => dts_nil) (fun _ _ _ _ _ => (dcall (ih.mono (by omega)) hr hG rfl T.d_fixed.mg (keep_ok T.d_fixed) T.d_fixed.bd (dacons (dvar (i := 1)) danil)))) danil)))) ds_nil)
 (ds_one (ds_ret (dvar (i := 0))))))
/-! is_fields -/
abbrev N_is_fields : List Str := ["value", "names", "one", "name", "later"]
theorem sc_is_fields : FnScope ["value", "names", "one", "name", "later"] ["value"] (defScope s_is_fields) := ⟨rfl, rfl, rfl, by decide +kernel, rfl, by decide +kernel, by decide +kernel⟩
def st_is_fields_1 : Env → M Fl :=
 (ifM (orT (notT (valT (calM (consM (varM 0) nilM) fun ws => noEx (F_is_listed ws)))) (notT (valT (calM (consM (lcM [2] (fun δ => bd ((varM 0) δ) iterM) (setG 2) yesT (andV (calM (consM (varM 2) (consM (cM (.int 2)) nilM)) fun ws => noEx (F_is_row ws)) (calM (consM (binM (varM 2) (cM (.int 0)) itemM) nilM) fun ws => noEx (F_is_name ws)))) nilM) allM)))) (retM (cM (.bool false))) skipM)
def st_is_fields_2 : Env → M Fl :=
 (asgM (lcM [2] (fun δ => bd ((varM 0) δ) iterM) (setG 2) yesT (binM (varM 2) (cM (.int 0)) itemM)) (setG 1))
def st_is_fields_3 : Env → M Fl :=
 (retM (calM (consM (lcM [3, 4] (fun δ => bd ((consM (varM 1) (consM (fun δ => bd ((varM 1) δ) fun x => bd ((fun δ => bd ((cM (.int 1)) δ) fun w => bd (intOf w) fun i => pr (some i)) δ) fun l => bd ((fun _ => pr none) δ) fun u => sliceM x l u) nilM)) δ) zipM) (tupG 2 (consG (setG 3) (consG (setG 4) nilG))) yesT (binM (varM 3) (varM 4) ltM)) nilM) allM))
def b_is_fields : Env → M Fl :=
 (seqM st_is_fields_1
 (seqM st_is_fields_2
 st_is_fields_3))
def F_is_fields : List W → M W := pureM (runD 1 5 b_is_fields)
theorem g_is_fields (T : Tx P K mg ad fd) : FnG P w K mg base CX0 3 (ad 4) (fd 4) ["value"] (spF K (fun _ => ZF) F_is_fields) := by
  refine fn_pure (fn_run T.d_is_fields.fn sc_is_fields rfl rfl fun cdv A outer s H E hr hG => ?_)
  exact (show PSs _ (defBody s_is_fields) (tS _ ZF b_is_fields) from
 (ds_cons (ds_if (dt_bool (dw_or (dt_not (dt_val (dcall ((g_is_listed T).mono (by omega)) hr hG rfl T.d_is_listed.mg (keep_ok T.d_is_listed) T.d_is_listed.bd (dacons (dvar (i := 0)) danil)))) (dw_or1 (dt_not (dt_val (dcallB (c_all rfl) rfl T.m_all bl_all (dacons (dlc (own := [("one", 2)]) rfl sc_is_fields.nd (di_val (dvar (i := 0))) (blkOk_by (N := N_is_fields) (sc := defScope s_is_fields) (by decide +kernel)) (fun _ _ _ _ _ => (dr_name (i := 2) sc_is_fields.nd rfl (by first | exact Or.inl rfl | exact Or.inr rfl) (fun _ _ => wipe_set (by decide)))) (fun _ _ _ _ _ => dts_nil) (fun _ _ _ _ _ => (dv_and (dcall ((g_is_row T).mono (by omega)) hr hG rfl T.d_is_row.mg (keep_ok T.d_is_row) T.d_is_row.bd (dacons (dvar (i := 2)) (dacons dint danil))) (dv_one (dcall ((g_is_name T).mono (by omega)) hr hG rfl T.d_is_name.mg (keep_ok T.d_is_name) T.d_is_name.bd (dacons (dix x_item (dvar (i := 2)) dint) danil)))))) danil))))))) (ds_one (ds_ret dbl)) ds_nil)
 (ds_cons (ds_setLc (i := 1) (own := [("one", 2)]) rfl sc_is_fields.nd rfl rfl (L2.sw_true rfl rfl rfl (by decide +kernel)) (di_val (dvar (i := 0))) (blkOk_by (N := N_is_fields) (sc := defScope s_is_fields) (by decide +kernel)) (fun _ _ _ _ _ => (dr_name (i := 2) sc_is_fields.nd rfl (by first | exact Or.inl rfl | exact Or.inr rfl) (fun _ _ => wipe_set (by decide)))) (fun _ _ _ _ _ => dts_nil) (fun _ _ _ _ _ => (dix x_item (dvar (i := 2)) dint)))
 (ds_one (ds_ret (dcallB (c_all rfl) rfl T.m_all bl_all (dacons (dlc (own := [("name", 3), ("later", 4)]) rfl sc_is_fields.nd (di_zip rfl T.m_zip (dacons (dvar (i := 1)) (dacons (dslice x_slice (dvar (i := 1)) (dpo_some dint) dpo_none) danil))) (blkOk_by (N := N_is_fields) (sc := defScope s_is_fields) (by decide +kernel)) (fun _ _ _ _ _ => (dr_tup rfl (drs_cons TR.wip (dr_name (i := 3) sc_is_fields.nd rfl (by first | exact Or.inl rfl | exact Or.inr rfl) (fun _ _ => wipe_set (by decide))) (drs_cons TR.wip (dr_name (i := 4) sc_is_fields.nd rfl (by first | exact Or.inl rfl | exact Or.inr rfl) (fun _ _ => wipe_set (by decide))) (drs_nil TR.wip))))) (fun _ _ _ _ _ => dts_nil) (fun _ _ _ _ _ => (dcmp o_lt (dvar (i := 3)) (dvar (i := 4))))) danil)))))))
/-! is_so_high -/
abbrev N_is_so_high : List Str := ["value", "most", "many", "name", "one"]
theorem sc_is_so_high : FnScope ["value", "most", "many", "name", "one"] ["value", "most", "many"] (defScope s_is_so_high) := ⟨rfl, rfl, rfl, by decide +kernel, rfl, by decide +kernel, by decide +kernel⟩
def st_is_so_high_1 (R : List W → M W) : Env → M Fl :=
 (ifM (valT (fun δ => bd ((varM 0) δ) (isiM [.str]))) (retM (andV (binM (varM 0) (cM (.str "atom")) eqM) (binM (varM 1) (cM (.int 0)) gtM))) skipM)
def st_is_so_high_2 (R : List W → M W) : Env → M Fl :=
 (ifM (orT (notT (valT (calM (consM (varM 0) nilM) fun ws => noEx (F_is_listed ws)))) (orT (valT (binM (calM (consM (varM 0) nilM) lenDM) (cM (.int 0)) eqM)) (orT (valT (binM (varM 1) (cM (.int 1)) ltM)) (notT (valT (fun δ => bd ((binM (varM 0) (cM (.int 0)) itemM) δ) (isiM [.str]))))))) (retM (cM (.bool false))) skipM)
def st_is_so_high_3 (R : List W → M W) : Env → M Fl :=
 (ifM (andT (valT (binM (binM (varM 0) (cM (.int 0)) itemM) (cM (.str "record")) eqM)) (andT (valT (binM (calM (consM (varM 0) nilM) lenDM) (cM (.int 2)) eqM)) (andT (valT (calM (consM (binM (varM 0) (cM (.int 1)) itemM) nilM) fun ws => noEx (F_is_fields ws))) (valT (binM (calM (consM (binM (varM 0) (cM (.int 1)) itemM) nilM) lenDM) (varM 2) leM))))) (retM (orV (binM (calM (consM (binM (varM 0) (cM (.int 1)) itemM) nilM) lenDM) (cM (.int 0)) eqM) (andV (binM (varM 1) (cM (.int 1)) gtM) (calM (consM (lcM [3, 4] (fun δ => bd ((binM (varM 0) (cM (.int 1)) itemM) δ) iterM) (tupG 2 (consG (setG 3) (consG (setG 4) nilG))) yesT (calM (consM (varM 4) (consM (binM (varM 1) (cM (.int 1)) subM) (consM (varM 2) nilM))) fun ws => noEx (R ws))) nilM) allM)))) skipM)
def st_is_so_high_4 (R : List W → M W) : Env → M Fl :=
 (retM (andV (binM (binM (varM 0) (cM (.int 0)) itemM) (cM (.str "tag")) eqM) (andV (binM (calM (consM (varM 0) nilM) lenDM) (cM (.int 3)) eqM) (andV (calM (consM (binM (varM 0) (cM (.int 1)) itemM) nilM) fun ws => noEx (F_is_name ws)) (calM (consM (binM (varM 0) (cM (.int 2)) itemM) (consM (binM (varM 1) (cM (.int 1)) subM) (consM (varM 2) nilM))) fun ws => noEx (R ws))))))
def b_is_so_high (R : List W → M W) : Env → M Fl :=
 (seqM (st_is_so_high_1 R)
 (seqM (st_is_so_high_2 R)
 (seqM (st_is_so_high_3 R)
 (st_is_so_high_4 R))))
def F_is_so_high : Nat → List W → M W
  | 0 => fun _ => no
  | n + 1 => pureM (runD 3 5 (b_is_so_high (F_is_so_high n)))
theorem g_is_so_high (T : Tx P K mg ad fd) : ∀ n : Nat, FnG P w K mg base CX0 (4 + n) (ad 5) (fd 5) ["value", "most", "many"] (spF K (fun _ => ZF) (F_is_so_high n))
  | 0 => fn_none
  | n + 1 => by
    have ih := g_is_so_high T n
    refine fn_pure (fn_run (j := 4 + n) T.d_is_so_high.fn sc_is_so_high rfl rfl fun cdv A outer s H E hr hG => ?_)
    exact (show PSs _ (defBody s_is_so_high) (tS _ ZF (b_is_so_high (F_is_so_high n))) from
 (ds_cons (ds_if (dt_val (disi1 (T := .str) rfl T.m_isinstance rfl T.m_str bl_str (dvar (i := 0)))) (ds_one (ds_ret (dv_and (dcmp (o_eq (room65 hr)) (dvar (i := 0)) dstr) (dv_one (dcmp o_gt (dvar (i := 1)) dint))))) ds_nil)
 (ds_cons (ds_if (dt_bool (dw_or (dt_not (dt_val (dcall ((g_is_listed T).mono (by omega)) hr hG rfl T.d_is_listed.mg (keep_ok T.d_is_listed) T.d_is_listed.bd (dacons (dvar (i := 0)) danil)))) (dw_or (dt_cmp (o_eq (room65 hr)) (dcallB c_lenD rfl T.m_len bl_len (dacons (dvar (i := 0)) danil)) dint) (dw_or (dt_cmp o_lt (dvar (i := 1)) dint) (dw_or1 (dt_not (dt_val (disi1 (T := .str) rfl T.m_isinstance rfl T.m_str bl_str (dix x_item (dvar (i := 0)) dint))))))))) (ds_one (ds_ret dbl)) ds_nil)
 (ds_cons (ds_if (dt_bool (dw_and (dt_cmp (o_eq (room65 hr)) (dix x_item (dvar (i := 0)) dint) dstr) (dw_and (dt_cmp (o_eq (room65 hr)) (dcallB c_lenD rfl T.m_len bl_len (dacons (dvar (i := 0)) danil)) dint) (dw_and (dt_val (dcall ((g_is_fields T).mono (by omega)) hr hG rfl T.d_is_fields.mg (keep_ok T.d_is_fields) T.d_is_fields.bd (dacons (dix x_item (dvar (i := 0)) dint) danil))) (dw_and1 (dt_cmp o_le (dcallB c_lenD rfl T.m_len bl_len (dacons (dix x_item (dvar (i := 0)) dint) danil)) (dvar (i := 2)))))))) (ds_one (ds_ret (dv_or (dcmp (o_eq (room65 hr)) (dcallB c_lenD rfl T.m_len bl_len (dacons (dix x_item (dvar (i := 0)) dint) danil)) dint) (dv_one (dv_and (dcmp o_gt (dvar (i := 1)) dint) (dv_one (dcallB (c_all rfl) rfl T.m_all bl_all (dacons (dlc (own := [("name", 3), ("one", 4)]) rfl sc_is_so_high.nd (di_val (dix x_item (dvar (i := 0)) dint)) (blkOk_by (N := N_is_so_high) (sc := defScope s_is_so_high) (by decide +kernel)) (fun _ _ _ _ _ => (dr_tup rfl (drs_cons TR.wip (dr_name (i := 3) sc_is_so_high.nd rfl (by first | exact Or.inl rfl | exact Or.inr rfl) (fun _ _ => wipe_set (by decide))) (drs_cons TR.wip (dr_name (i := 4) sc_is_so_high.nd rfl (by first | exact Or.inl rfl | exact Or.inr rfl) (fun _ _ => wipe_set (by decide))) (drs_nil TR.wip))))) (fun _ _ _ _ _ => dts_nil) (fun _ _ _ _ _ => (dcall (ih.mono (by omega)) hr hG rfl T.d_is_so_high.mg (keep_ok T.d_is_so_high) T.d_is_so_high.bd (dacons (dvar (i := 4)) (dacons (dop o_sub (dvar (i := 1)) dint) (dacons (dvar (i := 2)) danil)))))) danil)))))))) ds_nil)
 (ds_one (ds_ret (dv_and (dcmp (o_eq (room65 hr)) (dix x_item (dvar (i := 0)) dint) dstr) (dv_and (dcmp (o_eq (room65 hr)) (dcallB c_lenD rfl T.m_len bl_len (dacons (dvar (i := 0)) danil)) dint) (dv_and (dcall ((g_is_name T).mono (by omega)) hr hG rfl T.d_is_name.mg (keep_ok T.d_is_name) T.d_is_name.bd (dacons (dix x_item (dvar (i := 0)) dint) danil)) (dv_one (dcall (ih.mono (by omega)) hr hG rfl T.d_is_so_high.mg (keep_ok T.d_is_so_high) T.d_is_so_high.bd (dacons (dix x_item (dvar (i := 0)) dint) (dacons (dop o_sub (dvar (i := 1)) dint) (dacons (dvar (i := 2)) danil))))))))))))))
/-! is_value -/
abbrev N_is_value : List Str := ["value"]
theorem sc_is_value : FnScope ["value"] ["value"] (defScope s_is_value) := ⟨rfl, rfl, rfl, by decide +kernel, rfl, by decide +kernel, by decide +kernel⟩
def st_is_value_1 : Env → M Fl :=
 (retM (calM (consM (varM 0) (consM (cM (.int 8)) (consM (cM (.int 60)) nilM))) fun ws => noEx ((F_is_so_high 10) ws)))
def b_is_value : Env → M Fl :=
 st_is_value_1
def F_is_value : List W → M W := pureM (runD 1 1 b_is_value)
theorem g_is_value (T : Tx P K mg ad fd) : FnG P w K mg base CX0 15 (ad 6) (fd 6) ["value"] (spF K (fun _ => ZF) F_is_value) := by
  refine fn_pure (fn_run T.d_is_value.fn sc_is_value rfl rfl fun cdv A outer s H E hr hG => ?_)
  exact (show PSs _ (defBody s_is_value) (tS _ ZF b_is_value) from
 (ds_one (ds_ret (dcall ((g_is_so_high T 10).mono (by omega)) hr hG rfl T.d_is_so_high.mg (keep_ok T.d_is_so_high) T.d_is_so_high.bd (dacons (dvar (i := 0)) (dacons (dgint T.c_HIGHEST rfl) (dacons (dgint T.c_MOST_FIELDS rfl) danil)))))))
/-! need_value -/
abbrev N_need_value : List Str := ["value"]
theorem sc_need_value : FnScope ["value"] ["value"] (defScope s_need_value) := ⟨rfl, rfl, rfl, by decide +kernel, rfl, by decide +kernel, by decide +kernel⟩
def st_need_value_1 : Env → M Fl :=
 (ifM (notT (valT (calM (consM (varM 0) nilM) fun ws => noEx (F_is_value ws)))) (raiseM "BadValue" "part" (cM (.str "value"))) skipM)
def b_need_value : Env → M Fl :=
 st_need_value_1
def F_need_value : List W → M W := pureX (runD 1 1 b_need_value)
theorem gx_need_value (T : Tx P K mg ad fd) : FnG P w K mg base (L2.CX P w) 16 (ad 12) (fd 12) ["value"] (spF K (ZE K) F_need_value) := by
  refine fn_pureX (fn_runX T.d_need_value.fn sc_need_value rfl rfl fun cdv A outer s H E hr hG tk => ?_)
  exact (show PSs _ (defBody s_need_value) (tS _ (ZE K E) b_need_value) from
 (ds_one (ds_if (dt_not (dt_val (dcall ((g_is_value T).mono (by omega)) hr hG rfl T.d_is_value.mg (keep_ok T.d_is_value) T.d_is_value.bd (dacons (dvar (i := 0)) danil)))) (ds_one (ds_raiseT T.r_BadValue rfl tk hr dstr rfl)) ds_nil)))
theorem g_need_value (T : Tx P K mg ad fd) : FnG P w K mg base CX0 16 (ad 12) (fd 12) ["value"] (spF K (fun _ => ZF) fun ws => noEx (F_need_value ws)) := fn_noEx (gx_need_value T)
/-! height_of -/
abbrev N_height_of : List Str := ["value", "name", "one"]
theorem sc_height_of : FnScope ["value", "name", "one"] ["value"] (defScope s_height_of) := ⟨rfl, rfl, rfl, by decide +kernel, rfl, by decide +kernel, by decide +kernel⟩
def st_height_of_1 (R : List W → M W) : Env → M Fl :=
 (ifM (valT (binM (varM 0) (cM (.str "atom")) eqM)) (retM (cM (.int 1))) skipM)
def st_height_of_2 (R : List W → M W) : Env → M Fl :=
 (ifM (valT (binM (binM (varM 0) (cM (.int 0)) itemM) (cM (.str "tag")) eqM)) (retM (binM (cM (.int 1)) (calM (consM (binM (varM 0) (cM (.int 2)) itemM) nilM) fun ws => noEx (R ws)) addM)) skipM)
def st_height_of_3 (R : List W → M W) : Env → M Fl :=
 (retM (binM (cM (.int 1)) (calBK (consM (lcM [1, 2] (fun δ => bd ((binM (varM 0) (cM (.int 1)) itemM) δ) iterM) (tupG 2 (consG (setG 1) (consG (setG 2) nilG))) yesT (calM (consM (varM 2) nilM) fun ws => noEx (R ws))) nilM) (consM (cM (.int 0)) nilM) maxDM) addM))
def b_height_of (R : List W → M W) : Env → M Fl :=
 (seqM (st_height_of_1 R)
 (seqM (st_height_of_2 R)
 (st_height_of_3 R)))
def F_height_of : Nat → List W → M W
  | 0 => fun _ => no
  | n + 1 => pureM (runD 1 3 (b_height_of (F_height_of n)))
theorem g_height_of (T : Tx P K mg ad fd) : ∀ n : Nat, FnG P w K mg base CX0 (1 + n) (ad 8) (fd 8) ["value"] (spF K (fun _ => ZF) (F_height_of n))
  | 0 => fn_none
  | n + 1 => by
    have ih := g_height_of T n
    refine fn_pure (fn_run (j := 1 + n) T.d_height_of.fn sc_height_of rfl rfl fun cdv A outer s H E hr hG => ?_)
    exact (show PSs _ (defBody s_height_of) (tS _ ZF (b_height_of (F_height_of n))) from
 (ds_cons (ds_if (dt_cmp (o_eq (room65 hr)) (dvar (i := 0)) dstr) (ds_one (ds_ret dint)) ds_nil)
 (ds_cons (ds_if (dt_cmp (o_eq (room65 hr)) (dix x_item (dvar (i := 0)) dint) dstr) (ds_one (ds_ret (dop o_add dint (dcall (ih.mono (by omega)) hr hG rfl T.d_height_of.mg (keep_ok T.d_height_of) T.d_height_of.bd (dacons (dix x_item (dvar (i := 0)) dint) danil))))) ds_nil)
 (ds_one (ds_ret (dop o_add dint (dcallBK (c_maxD rfl) rfl T.m_max bl_max (dacons (dlc (own := [("name", 1), ("one", 2)]) rfl sc_height_of.nd (di_val (dix x_item (dvar (i := 0)) dint)) (blkOk_by (N := N_height_of) (sc := defScope s_height_of) (by decide +kernel)) (fun _ _ _ _ _ => (dr_tup rfl (drs_cons TR.wip (dr_name (i := 1) sc_height_of.nd rfl (by first | exact Or.inl rfl | exact Or.inr rfl) (fun _ _ => wipe_set (by decide))) (drs_cons TR.wip (dr_name (i := 2) sc_height_of.nd rfl (by first | exact Or.inl rfl | exact Or.inr rfl) (fun _ _ => wipe_set (by decide))) (drs_nil TR.wip))))) (fun _ _ _ _ _ => dts_nil) (fun _ _ _ _ _ => (dcall (ih.mono (by omega)) hr hG rfl T.d_height_of.mg (keep_ok T.d_height_of) T.d_height_of.bd (dacons (dvar (i := 2)) danil)))) danil) (dk_cons dint dk_nil))))))))
/-! height -/
abbrev N_height : List Str := ["value"]
theorem sc_height : FnScope ["value"] ["value"] (defScope s_height) := ⟨rfl, rfl, rfl, by decide +kernel, rfl, by decide +kernel, by decide +kernel⟩
def st_height_1 : Env → M Fl :=
 (exprM (calM (consM (varM 0) nilM) F_need_value))
def st_height_2 : Env → M Fl :=
 (retM (calM (consM (calM (consM (varM 0) nilM) fun ws => noEx ((F_fixed 30) ws)) nilM) fun ws => noEx ((F_height_of 30) ws)))
def b_height : Env → M Fl :=
 (seqM st_height_1
 st_height_2)
def F_height : List W → M W := pureX (runD 1 1 b_height)
theorem gx_height (T : Tx P K mg ad fd) : FnG P w K mg base (L2.CX P w) 32 (ad 7) (fd 7) ["value"] (spF K (ZE K) F_height) := by
  refine fn_pureX (fn_runX T.d_height.fn sc_height rfl rfl fun cdv A outer s H E hr hG tk => ?_)
  exact (show PSs _ (defBody s_height) (tS _ (ZE K E) b_height) from
 (ds_cons (ds_expr (dcallX tk ((gx_need_value T).mono (by omega)) hr hG rfl T.d_need_value.mg (keep_ok T.d_need_value) T.d_need_value.bd (dacons (dvar (i := 0)) danil)))
 (ds_one (ds_ret (dcall ((g_height_of T 30).mono (by omega)) hr hG rfl T.d_height_of.mg (keep_ok T.d_height_of) T.d_height_of.bd (dacons (dcall ((g_fixed T 30).mono (by omega)) hr hG rfl T.d_fixed.mg (keep_ok T.d_fixed) T.d_fixed.bd (dacons (dvar (i := 0)) danil)) danil))))))
theorem g_height (T : Tx P K mg ad fd) : FnG P w K mg base CX0 32 (ad 7) (fd 7) ["value"] (spF K (fun _ => ZF) fun ws => noEx (F_height ws)) := fn_noEx (gx_height T)
/-! words_of -/
abbrev N_words_of : List Str := ["value", "found", "name", "one"]
theorem sc_words_of : FnScope ["value", "found", "name", "one"] ["value"] (defScope s_words_of) := ⟨rfl, rfl, rfl, by decide +kernel, rfl, by decide +kernel, by decide +kernel⟩
def st_words_of_1 (R : List W → M W) : Env → M Fl :=
 (ifM (valT (binM (varM 0) (cM (.str "atom")) eqM)) (retM (fun δ => bd ((consM (cM (.str "atom")) nilM) δ) lstM)) skipM)
def st_words_of_2 (R : List W → M W) : Env → M Fl :=
 (ifM (valT (binM (binM (varM 0) (cM (.int 0)) itemM) (cM (.str "tag")) eqM)) (retM (fun δ => bd ((consM (cM (.str "(")) (consM (cM (.str "tag")) (consM (binM (varM 0) (cM (.int 1)) itemM) (starM (calM (consM (binM (varM 0) (cM (.int 2)) itemM) nilM) fun ws => noEx (R ws)) (consM (cM (.str ")")) nilM))))) δ) lstM)) skipM)
def st_words_of_3 (R : List W → M W) : Env → M Fl :=
 (asgM (fun δ => bd ((consM (cM (.str "(")) (consM (cM (.str "record")) nilM)) δ) newM) (setG 1))
def st_words_of_4 (R : List W → M W) : Env → M Fl :=
 (exprM (metM (varM 1) (consM (fun δ => bd ((consM (varM 2) (starM (calM (consM (varM 3) nilM) fun ws => noEx (R ws)) nilM)) δ) lstM) nilM) chkL extendM))
def body_words_of_1 (R : List W → M W) : Env → M Fl :=
 (st_words_of_4 R)
def st_words_of_5 (R : List W → M W) : Env → M Fl :=
 (retM (fun δ => bd ((starM (varM 1) (consM (cM (.str ")")) nilM)) δ) lstM))
def b_words_of (R : List W → M W) : Env → M Fl :=
 (seqM (st_words_of_1 R)
 (seqM (st_words_of_2 R)
 (seqM (st_words_of_3 R)
 (seqM (forM (fun δ => bd ((binM (varM 0) (cM (.int 1)) itemM) δ) iterM) (tupG 2 (consG (setG 2) (consG (setG 3) nilG))) (body_words_of_1 R))
 (st_words_of_5 R)))))
def F_words_of : Nat → List W → M W
  | 0 => fun _ => no
  | n + 1 => pureM (runD 1 4 (b_words_of (F_words_of n)))
theorem g_words_of (T : Tx P K mg ad fd) : ∀ n : Nat, FnG P w K mg base CX0 (1 + n) (ad 9) (fd 9) ["value"] (spF K (fun _ => ZF) (F_words_of n))
  | 0 => fn_none
  | n + 1 => by
    have ih := g_words_of T n
    refine fn_pure (fn_run (j := 1 + n) T.d_words_of.fn sc_words_of rfl rfl fun cdv A outer s H E hr hG => ?_)
    exact (show PSs _ (defBody s_words_of) (tS _ ZF (b_words_of (F_words_of n))) from
 (ds_cons (ds_if (dt_cmp (o_eq (room65 hr)) (dvar (i := 0)) dstr) (ds_one (ds_ret (dlst (dacons dstr danil)))) ds_nil)
 (ds_cons (ds_if (dt_cmp (o_eq (room65 hr)) (dix x_item (dvar (i := 0)) dint) dstr) (ds_one (ds_ret (dlst (dacons dstr (dacons dstr (dacons (dix x_item (dvar (i := 0)) dint) (dastar (dcall (ih.mono (by omega)) hr hG rfl T.d_words_of.mg (keep_ok T.d_words_of) T.d_words_of.bd (dacons (dix x_item (dvar (i := 0)) dint) danil)) (dacons dstr danil)))))))) ds_nil)
 (ds_cons (ds_set (i := 1) sc_words_of.nd rfl (by first | exact Or.inl rfl | exact Or.inr rfl) (dnew (dacons dstr (dacons dstr danil))))
 (ds_cons (ds_for PassesOwn.never rfl (di_val (dix x_item (dvar (i := 0)) dint)) (dr_any (dr_tup rfl (drs_cons TR.any (dr_name (i := 2) sc_words_of.nd rfl (by first | exact Or.inl rfl | exact Or.inr rfl) (fun _ _ => trivial)) (drs_cons TR.any (dr_name (i := 3) sc_words_of.nd rfl (by first | exact Or.inl rfl | exact Or.inr rfl) (fun _ _ => trivial)) (drs_nil TR.any)))))
 (ds_one (ds_expr (dmet F.plainAttrs_list F.slot_list_extend F.type_list_extend chkL_ok m_extend (dvar (i := 1)) (dacons (dlst (dacons (dvar (i := 2)) (dastar (dcall (ih.mono (by omega)) hr hG rfl T.d_words_of.mg (keep_ok T.d_words_of) T.d_words_of.bd (dacons (dvar (i := 3)) danil)) danil))) danil)))))
 (ds_one (ds_ret (dlst (dastar (dvar (i := 1)) (dacons dstr danil))))))))))
/-! text_of -/
abbrev N_text_of : List Str := ["value"]
theorem sc_text_of : FnScope ["value"] ["value"] (defScope s_text_of) := ⟨rfl, rfl, rfl, by decide +kernel, rfl, by decide +kernel, by decide +kernel⟩
def st_text_of_1 : Env → M Fl :=
 (retM (metM (cM (.str " ")) (consM (calM (consM (varM 0) nilM) fun ws => noEx ((F_words_of 30) ws)) nilM) chkS joinM))
def b_text_of : Env → M Fl :=
 st_text_of_1
def F_text_of : List W → M W := pureM (runD 1 1 b_text_of)
theorem g_text_of (T : Tx P K mg ad fd) : FnG P w K mg base CX0 32 (ad 10) (fd 10) ["value"] (spF K (fun _ => ZF) F_text_of) := by
  refine fn_pure (fn_run T.d_text_of.fn sc_text_of rfl rfl fun cdv A outer s H E hr hG => ?_)
  exact (show PSs _ (defBody s_text_of) (tS _ ZF b_text_of) from
 (ds_one (ds_ret (dmet F.plainAttrs_str F.slot_str_join F.type_str_join chkS_ok m_join dstr (dacons (dcall ((g_words_of T 30).mono (by omega)) hr hG rfl T.d_words_of.mg (keep_ok T.d_words_of) T.d_words_of.bd (dacons (dvar (i := 0)) danil)) danil)))))
/-! value_text -/
abbrev N_value_text : List Str := ["value"]
theorem sc_value_text : FnScope ["value"] ["value"] (defScope s_value_text) := ⟨rfl, rfl, rfl, by decide +kernel, rfl, by decide +kernel, by decide +kernel⟩
def st_value_text_1 : Env → M Fl :=
 (exprM (calM (consM (varM 0) nilM) F_need_value))
def st_value_text_2 : Env → M Fl :=
 (retM (calM (consM (calM (consM (varM 0) nilM) fun ws => noEx ((F_fixed 30) ws)) nilM) fun ws => noEx (F_text_of ws)))
def b_value_text : Env → M Fl :=
 (seqM st_value_text_1
 st_value_text_2)
def F_value_text : List W → M W := pureX (runD 1 1 b_value_text)
theorem gx_value_text (T : Tx P K mg ad fd) : FnG P w K mg base (L2.CX P w) 33 (ad 11) (fd 11) ["value"] (spF K (ZE K) F_value_text) := by
  refine fn_pureX (fn_runX T.d_value_text.fn sc_value_text rfl rfl fun cdv A outer s H E hr hG tk => ?_)
  exact (show PSs _ (defBody s_value_text) (tS _ (ZE K E) b_value_text) from
 (ds_cons (ds_expr (dcallX tk ((gx_need_value T).mono (by omega)) hr hG rfl T.d_need_value.mg (keep_ok T.d_need_value) T.d_need_value.bd (dacons (dvar (i := 0)) danil)))
 (ds_one (ds_ret (dcall ((g_text_of T).mono (by omega)) hr hG rfl T.d_text_of.mg (keep_ok T.d_text_of) T.d_text_of.bd (dacons (dcall ((g_fixed T 30).mono (by omega)) hr hG rfl T.d_fixed.mg (keep_ok T.d_fixed) T.d_fixed.bd (dacons (dvar (i := 0)) danil)) danil))))))
theorem g_value_text (T : Tx P K mg ad fd) : FnG P w K mg base CX0 33 (ad 11) (fd 11) ["value"] (spF K (fun _ => ZF) fun ws => noEx (F_value_text ws)) := fn_noEx (gx_value_text T)
/-! _law_pen -/
abbrev N__law_pen : List Str := ["script", "cell"]
theorem sc__law_pen : FnScope ["script", "cell"] ["script"] (defScope s__law_pen) := ⟨rfl, rfl, rfl, by decide +kernel, rfl, by decide +kernel, by decide +kernel⟩
def st__law_pen_1 : Env → M Fl :=
 (retM (fun δ => bd ((consM (lcM [1] (fun δ => bd ((fun δ => bd ((varM 0) δ) fun x => bd ((fun _ => pr none) δ) fun l => bd ((fun δ => bd ((cM (.int 63)) δ) fun w => bd (intOf w) fun i => pr (some i)) δ) fun u => sliceM x l u) δ) iterM) (setG 1) yesT (calM (consM (varM 1) nilM) intM)) (consM (cM (.int 0)) (consM (cM (.int 0)) nilM))) δ) newM))
def b__law_pen : Env → M Fl :=
 st__law_pen_1
def F__law_pen : List W → M W := (runD 1 2 b__law_pen)
theorem g__law_pen (T : Tx P K mg ad fd) : FnG P w K mg base CX0 1 (ad 13) (fd 13) ["script"] (spF K (fun _ => ZF) F__law_pen) := by
  refine fn_run T.d__law_pen.fn sc__law_pen rfl rfl fun cdv A outer s H E hr hG => ?_
  exact (show PSs _ (defBody s__law_pen) (tS _ ZF b__law_pen) from
 (ds_one (ds_ret (dnew (dacons (dlc (own := [("cell", 1)]) rfl sc__law_pen.nd (di_val (dslice x_slice (dvar (i := 0)) dpo_none (dpo_some dint))) (blkOk_by (N := N__law_pen) (sc := defScope s__law_pen) (by decide +kernel)) (fun _ _ _ _ _ => (dr_name (i := 1) sc__law_pen.nd rfl (by first | exact Or.inl rfl | exact Or.inr rfl) (fun _ _ => wipe_set (by decide)))) (fun _ _ _ _ _ => dts_nil) (fun _ _ _ _ _ => (dcallTy c_int rfl T.m_int bl_int (dacons (dvar (i := 1)) danil)))) (dacons dint (dacons dint danil)))))))
/-! _law_draw -/
abbrev N__law_draw : List Str := ["pen", "many", "rest", "at", "cell", "mixed"]
theorem sc__law_draw : FnScope ["pen", "many", "rest", "at", "cell", "mixed"] ["pen", "many"] (defScope s__law_draw) := ⟨rfl, rfl, rfl, by decide +kernel, rfl, by decide +kernel, by decide +kernel⟩
def st__law_draw_1 : Env → M Fl :=
 (ifM (valT (binM (binM (varM 0) (cM (.int 2)) itemM) (cM (.int 0)) gtM)) (seqM (asgM (calM (consM (binM (varM 0) (cM (.int 2)) itemM) nilM) intM) (setG 2))
 (seqM (subSM (binM (varM 2) (varM 1) fdvM) (varM 0) (cM (.int 2)))
 (retM (binM (varM 2) (varM 1) modM)))) skipM)
def st__law_draw_2 : Env → M Fl :=
 (asgM (calM (consM (binM (varM 0) (cM (.int 1)) itemM) nilM) intM) (setG 3))
def st__law_draw_3 : Env → M Fl :=
 (subSM (binM (varM 3) (cM (.int 1)) addM) (varM 0) (cM (.int 1)))
def st__law_draw_4 : Env → M Fl :=
 (asgM (binM (binM (cM (.int 72101)) (varM 3) mulM) (cM (.int 31607)) addM) (setG 4))
def st__law_draw_5 : Env → M Fl :=
 (ifM (valT (binM (binM (varM 0) (cM (.int 0)) itemM) (fun δ => bd (nilM δ) lstM) neM)) (asgM (binM (binM (varM 0) (cM (.int 0)) itemM) (binM (varM 3) (calM (consM (binM (varM 0) (cM (.int 0)) itemM) nilM) lenDM) modM) itemM) (setG 4)) skipM)
def st__law_draw_6 : Env → M Fl :=
 (ifM (andT (valT (binM (varM 3) (calM (consM (binM (varM 0) (cM (.int 0)) itemM) nilM) lenDM) ltM)) (valT (binM (calM (consM (varM 4) nilM) absM) (binM (cM (.int 10)) (cM (.int 18)) powM) geM))) (seqM (asgM (binM (binM (cM (.int 2)) (binM (calM (consM (varM 4) nilM) absM) (binM (cM (.int 10)) (cM (.int 18)) powM) subM) mulM) (calM (consM (binM (varM 4) (cM (.int 0)) ltM) nilM) intM) addM) (setG 2))
 (seqM (subSM (binM (varM 2) (varM 1) fdvM) (varM 0) (cM (.int 2)))
 (retM (binM (calM (consM (varM 2) nilM) intM) (varM 1) modM)))) skipM)
def st__law_draw_7 : Env → M Fl :=
 (asgM (binM (calM (consM (binM (binM (binM (binM (calM (consM (varM 4) nilM) intM) (cM (.int 2147483563)) modM) (binM (cM (.int 65071)) (varM 3) mulM) addM) (cM (.int 4513)) addM) (cM (.int 3)) powM) nilM) intM) (cM (.int 2147483629)) modM) (setG 5))
def st__law_draw_8 : Env → M Fl :=
 (asgM (binM (calM (consM (binM (binM (binM (binM (varM 5) (binM (binM (cM (.int 2)) (varM 3) mulM) (cM (.int 163)) addM) mulM) (binM (binM (cM (.int 47741)) (varM 3) mulM) (varM 3) mulM) addM) (cM (.int 97)) addM) (cM (.int 3)) powM) nilM) intM) (cM (.int 2147483549)) modM) (setG 5))
def st__law_draw_9 : Env → M Fl :=
 (retM (binM (calM (consM (binM (varM 5) (cM (.int 64)) fdvM) nilM) intM) (varM 1) modM))
def b__law_draw : Env → M Fl :=
 (seqM st__law_draw_1
 (seqM st__law_draw_2
 (seqM st__law_draw_3
 (seqM st__law_draw_4
 (seqM st__law_draw_5
 (seqM st__law_draw_6
 (seqM st__law_draw_7
 (seqM st__law_draw_8
 st__law_draw_9))))))))
def F__law_draw : List W → M W := (runD 2 6 b__law_draw)
theorem g__law_draw (T : Tx P K mg ad fd) : FnG P w K mg base CX0 1 (ad 14) (fd 14) ["pen", "many"] (spF K (fun _ => ZF) F__law_draw) := by
  refine fn_run T.d__law_draw.fn sc__law_draw rfl rfl fun cdv A outer s H E hr hG => ?_
  exact (show PSs _ (defBody s__law_draw) (tS _ ZF b__law_draw) from
 (ds_cons (ds_if (dt_cmp o_gt (dix x_item (dvar (i := 0)) dint) dint) (ds_cons (ds_set (i := 2) sc__law_draw.nd rfl (by first | exact Or.inl rfl | exact Or.inr rfl) (dcallTy c_int rfl T.m_int bl_int (dacons (dix x_item (dvar (i := 0)) dint) danil)))
 (ds_cons (ds_sub (room1 hr) (dop o_fdv (dvar (i := 2)) (dvar (i := 1))) (dvar (i := 0)) dint)
 (ds_one (ds_ret (dop o_mod (dvar (i := 2)) (dvar (i := 1))))))) ds_nil)
 (ds_cons (ds_set (i := 3) sc__law_draw.nd rfl (by first | exact Or.inl rfl | exact Or.inr rfl) (dcallTy c_int rfl T.m_int bl_int (dacons (dix x_item (dvar (i := 0)) dint) danil)))
 (ds_cons (ds_sub (room1 hr) (dop o_add (dvar (i := 3)) dint) (dvar (i := 0)) dint)
 (ds_cons (ds_set (i := 4) sc__law_draw.nd rfl (by first | exact Or.inl rfl | exact Or.inr rfl) (dop o_add (dop o_mul dint (dvar (i := 3))) dint))
 (ds_cons (ds_if (dt_cmp (o_ne (room65 hr)) (dix x_item (dvar (i := 0)) dint) (dlst danil)) (ds_one (ds_set (i := 4) sc__law_draw.nd rfl (by first | exact Or.inl rfl | exact Or.inr rfl) (dix x_item (dix x_item (dvar (i := 0)) dint) (dop o_mod (dvar (i := 3)) (dcallB c_lenD rfl T.m_len bl_len (dacons (dix x_item (dvar (i := 0)) dint) danil)))))) ds_nil)
 (ds_cons (ds_if (dt_bool (dw_and (dt_cmp o_lt (dvar (i := 3)) (dcallB c_lenD rfl T.m_len bl_len (dacons (dix x_item (dvar (i := 0)) dint) danil))) (dw_and1 (dt_cmp o_ge (dcallB c_abs rfl T.m_abs bl_abs (dacons (dvar (i := 4)) danil)) (dop o_pow dint dint))))) (ds_cons (ds_set (i := 2) sc__law_draw.nd rfl (by first | exact Or.inl rfl | exact Or.inr rfl) (dop o_add (dop o_mul dint (dop o_sub (dcallB c_abs rfl T.m_abs bl_abs (dacons (dvar (i := 4)) danil)) (dop o_pow dint dint))) (dcallTy c_int rfl T.m_int bl_int (dacons (dcmp o_lt (dvar (i := 4)) dint) danil))))
 (ds_cons (ds_sub (room1 hr) (dop o_fdv (dvar (i := 2)) (dvar (i := 1))) (dvar (i := 0)) dint)
 (ds_one (ds_ret (dop o_mod (dcallTy c_int rfl T.m_int bl_int (dacons (dvar (i := 2)) danil)) (dvar (i := 1))))))) ds_nil)
 (ds_cons (ds_set (i := 5) sc__law_draw.nd rfl (by first | exact Or.inl rfl | exact Or.inr rfl) (dop o_mod (dcallTy c_int rfl T.m_int bl_int (dacons (dop o_pow (dop o_add (dop o_add (dop o_mod (dcallTy c_int rfl T.m_int bl_int (dacons (dvar (i := 4)) danil)) dint) (dop o_mul dint (dvar (i := 3)))) dint) dint) danil)) dint))
 (ds_cons (ds_set (i := 5) sc__law_draw.nd rfl (by first | exact Or.inl rfl | exact Or.inr rfl) (dop o_mod (dcallTy c_int rfl T.m_int bl_int (dacons (dop o_pow (dop o_add (dop o_add (dop o_mul (dvar (i := 5)) (dop o_add (dop o_mul dint (dvar (i := 3))) dint)) (dop o_mul (dop o_mul dint (dvar (i := 3))) (dvar (i := 3)))) dint) dint) danil)) dint))
 (ds_one (ds_ret (dop o_mod (dcallTy c_int rfl T.m_int bl_int (dacons (dop o_fdv (dvar (i := 5)) dint) danil)) (dvar (i := 1))))))))))))))
/-! _law_pick -/
abbrev N__law_pick : List Str := ["pen", "some"]
theorem sc__law_pick : FnScope ["pen", "some"] ["pen", "some"] (defScope s__law_pick) := ⟨rfl, rfl, rfl, by decide +kernel, rfl, by decide +kernel, by decide +kernel⟩
def st__law_pick_1 : Env → M Fl :=
 (retM (binM (varM 1) (calM (consM (varM 0) (consM (calM (consM (varM 1) nilM) lenDM) nilM)) fun ws => noEx (F__law_draw ws)) itemM))
def b__law_pick : Env → M Fl :=
 st__law_pick_1
def F__law_pick : List W → M W := (runD 2 2 b__law_pick)
theorem g__law_pick (T : Tx P K mg ad fd) : FnG P w K mg base CX0 2 (ad 15) (fd 15) ["pen", "some"] (spF K (fun _ => ZF) F__law_pick) := by
  refine fn_run T.d__law_pick.fn sc__law_pick rfl rfl fun cdv A outer s H E hr hG => ?_
  exact (show PSs _ (defBody s__law_pick) (tS _ ZF b__law_pick) from
 (ds_one (ds_ret (dix x_item (dvar (i := 1)) (dcall ((g__law_draw T).mono (by omega)) hr hG rfl T.d__law_draw.mg (keep_ok T.d__law_draw) T.d__law_draw.bd (dacons (dvar (i := 0)) (dacons (dcallB c_lenD rfl T.m_len bl_len (dacons (dvar (i := 1)) danil)) danil)))))))
/-! _law_heard -/
abbrev N__law_heard : List Str := ["ask", "found", "caught", "error"]
theorem sc__law_heard : FnScope ["ask", "found", "caught", "error"] ["ask"] (defScope s__law_heard) := ⟨rfl, rfl, rfl, by decide +kernel, rfl, by decide +kernel, by decide +kernel⟩
def f__law_heard : Env → M Fl :=
 (seqM (ifM (valT (binM (varM 2) (cM .none) isM)) (retM (fun δ => bd ((consM (varM 1) nilM) δ) lstM)) skipM)
 (seqM (ifM (valT (fun δ => bd ((varM 2) δ) (isiEM [("BadValue", false)]))) (retM (fun δ => bd ((consM (cM (.str "many")) (consM (fun δ => bd ((varM 2) δ) (fldM [] "what")) (consM (fun δ => bd ((varM 2) δ) (fldM [] "most")) nilM))) δ) tupM)) skipM)
 (seqM (ifM (valT (fun δ => bd ((varM 2) δ) (isiEM [("BadValue", false)]))) (retM (fun δ => bd ((consM (cM (.str "module")) (consM (fun δ => bd ((varM 2) δ) (fldM ["BadValue"] "part")) nilM)) δ) tupM)) skipM)
 (seqM (ifM (valT (fun δ => bd ((varM 2) δ) (isiEM [("BadValue", false)]))) (retM (fun δ => bd ((consM (cM (.str "program")) (consM (fun δ => bd ((varM 2) δ) (fldM ["BadValue"] "part")) nilM)) δ) tupM)) skipM)
 (seqM (ifM (valT (fun δ => bd ((varM 2) δ) (isiEM [("BadValue", false)]))) (retM (fun δ => bd ((consM (cM (.str "signature")) (consM (fun δ => bd ((varM 2) δ) (fldM ["BadValue"] "part")) nilM)) δ) tupM)) skipM)
 (seqM (ifM (valT (fun δ => bd ((varM 2) δ) (isiEM [("BadValue", false)]))) (retM (fun δ => bd ((consM (cM (.str "misfit")) (consM (fun δ => bd ((varM 2) δ) (fldM ["BadValue"] "part")) nilM)) δ) tupM)) skipM)
 (seqM (ifM (valT (fun δ => bd ((varM 2) δ) (isiEM [("BadValue", true)]))) (retM (fun δ => bd ((consM (cM (.str "value")) (consM (fun δ => bd ((varM 2) δ) (fldM ["BadValue"] "part")) nilM)) δ) tupM)) skipM)
 (seqM (ifM (valT (fun δ => bd ((varM 2) δ) (isiEM [("BadValue", false)]))) (retM (fun δ => bd ((consM (cM (.str "number")) (consM (fun δ => bd ((varM 2) δ) (fldM ["BadValue"] "part")) nilM)) δ) tupM)) skipM)
 (retM (ifV (valT (fun δ => bd ((varM 2) δ) (isiEM [("BadValue", false)]))) (fun δ => bd ((consM (cM (.str "noname")) (consM (fun δ => bd ((varM 2) δ) (fldM [] "value")) nilM)) δ) tupM) (fun δ => bd ((consM (cM (.str "other")) (consM (cM (.str "")) nilM)) δ) tupM)))))))))))
theorem h__law_heard {X : Cx} (T : Tx X.prog X.K X.mg ad fd) (cdg : Value) : LamX.GivesTo X hN4 "_law_heard" (defScope s__law_heard) (ad 16) cdg (defBody s__law_heard) "ask" (X.env.qual ++ "<lambda>") (TTH X.K errs f__law_heard) := by
  obtain ⟨CM, hm, hE⟩ := T.c_MeetError.ex
  exact heard_gives rfl rfl rfl rfl rfl (by decide) hm hE (fun _ _ => rfl) (fun _ _ => rfl) (fun _ _ => rfl) (fun _ _ => rfl) (fun s H =>
 (ds_cons (ds_if (dt_cmp o_is (dvar (i := 2)) dnon) (ds_one (ds_ret (dlst (dacons (dvar (i := 1)) danil)))) ds_nil)
 (ds_cons (ds_if (dt_val (disiT T.k_TooMany rfl T.m_isinstance rfl (dvar (i := 2)))) (ds_one (ds_ret (dtup (dacons dstr (dacons (dfld0 (dvar (i := 2))) (dacons (dfld0 (dvar (i := 2))) danil)))))) ds_nil)
 (ds_cons (ds_if (dt_val (disiT T.k_BadModule rfl T.m_isinstance rfl (dvar (i := 2)))) (ds_one (ds_ret (dtup (dacons dstr (dacons (dfld1 T.f_BadValue_part (dvar (i := 2))) danil))))) ds_nil)
 (ds_cons (ds_if (dt_val (disiT T.k_BadProgram rfl T.m_isinstance rfl (dvar (i := 2)))) (ds_one (ds_ret (dtup (dacons dstr (dacons (dfld1 T.f_BadValue_part (dvar (i := 2))) danil))))) ds_nil)
 (ds_cons (ds_if (dt_val (disiT T.k_BadSignature rfl T.m_isinstance rfl (dvar (i := 2)))) (ds_one (ds_ret (dtup (dacons dstr (dacons (dfld1 T.f_BadValue_part (dvar (i := 2))) danil))))) ds_nil)
 (ds_cons (ds_if (dt_val (disiT T.k_Misfit rfl T.m_isinstance rfl (dvar (i := 2)))) (ds_one (ds_ret (dtup (dacons dstr (dacons (dfld1 T.f_BadValue_part (dvar (i := 2))) danil))))) ds_nil)
 (ds_cons (ds_if (dt_val (disiT T.k_BadValue rfl T.m_isinstance rfl (dvar (i := 2)))) (ds_one (ds_ret (dtup (dacons dstr (dacons (dfld1 T.f_BadValue_part (dvar (i := 2))) danil))))) ds_nil)
 (ds_cons (ds_if (dt_val (disiT T.k_BadNumber rfl T.m_isinstance rfl (dvar (i := 2)))) (ds_one (ds_ret (dtup (dacons dstr (dacons (dfld1 T.f_BadValue_part (dvar (i := 2))) danil))))) ds_nil)
 (ds_one (ds_ret (dif (dt_val (disiT T.k_NoName rfl T.m_isinstance rfl (dvar (i := 2)))) (dtup (dacons dstr (dacons (dfld0 (dvar (i := 2))) danil))) (dtup (dacons dstr (dacons dstr danil)))))))))))))))
/-! _law_value -/
abbrev N__law_value : List Str := ["pen", "most", "way", "names", "name"]
theorem sc__law_value : FnScope ["pen", "most", "way", "names", "name"] ["pen", "most"] (defScope s__law_value) := ⟨rfl, rfl, rfl, by decide +kernel, rfl, by decide +kernel, by decide +kernel⟩
def st__law_value_1 (R : List W → M W) : Env → M Fl :=
 (asgM (calM (consM (varM 0) (consM (cM (.int 5)) nilM)) fun ws => noEx (F__law_draw ws)) (setG 2))
def st__law_value_2 (R : List W → M W) : Env → M Fl :=
 (ifM (orT (valT (binM (varM 1) (cM (.int 1)) eqM)) (valT (binM (varM 2) (cM (.int 0)) eqM))) (retM (calM (consM (varM 0) (consM (fun δ => bd ((consM (cM (.str "atom")) (consM (cM (.str "atom")) (consM (fun δ => bd ((consM (cM (.str "record")) (consM (fun δ => bd (nilM δ) tupM) nilM)) δ) tupM) nilM))) δ) lstM) nilM)) fun ws => noEx (F__law_pick ws))) skipM)
def st__law_value_3 (R : List W → M W) : Env → M Fl :=
 (ifM (valT (binM (varM 2) (cM (.int 3)) ltM)) (retM (fun δ => bd ((consM (cM (.str "tag")) (consM (calM (consM (varM 0) (consM (fun δ => bd ((consM (cM (.str "a")) (consM (cM (.str "b")) (consM (cM (.str "full")) (consM (cM (.str "zzzzzzzz")) nilM)))) δ) lstM) nilM)) fun ws => noEx (F__law_pick ws)) (consM (calM (consM (varM 0) (consM (binM (varM 1) (cM (.int 1)) subM) nilM)) fun ws => noEx (R ws)) nilM))) δ) tupM)) skipM)
def st__law_value_4 (R : List W → M W) : Env → M Fl :=
 (asgM (lcM [4] (fun δ => bd ((fun δ => bd ((consM (cM (.str "a")) (consM (cM (.str "aa")) (consM (cM (.str "b")) (consM (cM (.str "size")) (consM (cM (.str "zz")) nilM))))) δ) lstM) δ) iterM) (setG 4) (valT (binM (calM (consM (varM 0) (consM (cM (.int 2)) nilM)) fun ws => noEx (F__law_draw ws)) (cM (.int 0)) eqM)) (varM 4)) (setG 3))
def st__law_value_5 (R : List W → M W) : Env → M Fl :=
 (retM (fun δ => bd ((consM (cM (.str "record")) (consM (calM (consM (lcM [4] (fun δ => bd ((fun δ => bd ((varM 3) δ) fun x => bd ((fun _ => pr none) δ) fun l => bd ((fun δ => bd ((cM (.int 2)) δ) fun w => bd (intOf w) fun i => pr (some i)) δ) fun u => sliceM x l u) δ) iterM) (setG 4) yesT (fun δ => bd ((consM (varM 4) (consM (calM (consM (varM 0) (consM (binM (varM 1) (cM (.int 1)) subM) nilM)) fun ws => noEx (R ws)) nilM)) δ) tupM)) nilM) tupleM) nilM)) δ) tupM))
def b__law_value (R : List W → M W) : Env → M Fl :=
 (seqM (st__law_value_1 R)
 (seqM (st__law_value_2 R)
 (seqM (st__law_value_3 R)
 (seqM (st__law_value_4 R)
 (st__law_value_5 R)))))
def F__law_value : Nat → List W → M W
  | 0 => fun _ => no
  | n + 1 => (runD 2 5 (b__law_value (F__law_value n)))
theorem g__law_value (T : Tx P K mg ad fd) : ∀ n : Nat, FnG P w K mg base CX0 (3 + n) (ad 17) (fd 17) ["pen", "most"] (spF K (fun _ => ZF) (F__law_value n))
  | 0 => fn_none
  | n + 1 => by
    have ih := g__law_value T n
    refine fn_run (j := 3 + n) T.d__law_value.fn sc__law_value rfl rfl fun cdv A outer s H E hr hG => ?_
    exact (show PSs _ (defBody s__law_value) (tS _ ZF (b__law_value (F__law_value n))) from
 (ds_cons (ds_set (i := 2) sc__law_value.nd rfl (by first | exact Or.inl rfl | exact Or.inr rfl) (dcall ((g__law_draw T).mono (by omega)) hr hG rfl T.d__law_draw.mg (keep_ok T.d__law_draw) T.d__law_draw.bd (dacons (dvar (i := 0)) (dacons dint danil))))
 (ds_cons (ds_if (dt_bool (dw_or (dt_cmp (o_eq (room65 hr)) (dvar (i := 1)) dint) (dw_or1 (dt_cmp (o_eq (room65 hr)) (dvar (i := 2)) dint)))) (ds_one (ds_ret (dcall ((g__law_pick T).mono (by omega)) hr hG rfl T.d__law_pick.mg (keep_ok T.d__law_pick) T.d__law_pick.bd (dacons (dvar (i := 0)) (dacons (dlst (dacons dstr (dacons dstr (dacons (dtup (dacons dstr (dacons (dtup danil) danil))) danil)))) danil))))) ds_nil)
 (ds_cons (ds_if (dt_cmp o_lt (dvar (i := 2)) dint) (ds_one (ds_ret (dtup (dacons dstr (dacons (dcall ((g__law_pick T).mono (by omega)) hr hG rfl T.d__law_pick.mg (keep_ok T.d__law_pick) T.d__law_pick.bd (dacons (dvar (i := 0)) (dacons (dlst (dacons dstr (dacons dstr (dacons dstr (dacons dstr danil))))) danil))) (dacons (dcall (ih.mono (by omega)) hr hG rfl T.d__law_value.mg (keep_ok T.d__law_value) T.d__law_value.bd (dacons (dvar (i := 0)) (dacons (dop o_sub (dvar (i := 1)) dint) danil))) danil)))))) ds_nil)
 (ds_cons (ds_setLc (i := 3) (own := [("name", 4)]) rfl sc__law_value.nd rfl rfl (L2.sw_true rfl rfl rfl (by decide +kernel)) (di_val (dlst (dacons dstr (dacons dstr (dacons dstr (dacons dstr (dacons dstr danil))))))) (blkOk_by (N := N__law_value) (sc := defScope s__law_value) (by decide +kernel)) (fun _ _ _ _ _ => (dr_name (i := 4) sc__law_value.nd rfl (by first | exact Or.inl rfl | exact Or.inr rfl) (fun _ _ => wipe_set (by decide)))) (fun _ _ _ _ _ => (dts_one (dt_cmp (o_eq (room65 hr)) (dcall ((g__law_draw T).mono (by omega)) hr hG rfl T.d__law_draw.mg (keep_ok T.d__law_draw) T.d__law_draw.bd (dacons (dvar (i := 0)) (dacons dint danil))) dint))) (fun _ _ _ _ _ => (dvar (i := 4))))
 (ds_one (ds_ret (dtup (dacons dstr (dacons (dcallTy c_tuple rfl T.m_tuple bl_tuple (dacons (dlc (own := [("name", 4)]) rfl sc__law_value.nd (di_val (dslice x_slice (dvar (i := 3)) dpo_none (dpo_some dint))) (blkOk_by (N := N__law_value) (sc := defScope s__law_value) (by decide +kernel)) (fun _ _ _ _ _ => (dr_name (i := 4) sc__law_value.nd rfl (by first | exact Or.inl rfl | exact Or.inr rfl) (fun _ _ => wipe_set (by decide)))) (fun _ _ _ _ _ => dts_nil) (fun _ _ _ _ _ => (dtup (dacons (dvar (i := 4)) (dacons (dcall (ih.mono (by omega)) hr hG rfl T.d__law_value.mg (keep_ok T.d__law_value) T.d__law_value.bd (dacons (dvar (i := 0)) (dacons (dop o_sub (dvar (i := 1)) dint) danil))) danil))))) danil)) danil))))))))))
/-! _law_high -/
abbrev N__law_high : List Str := ["value", "name", "one"]
theorem sc__law_high : FnScope ["value", "name", "one"] ["value"] (defScope s__law_high) := ⟨rfl, rfl, rfl, by decide +kernel, rfl, by decide +kernel, by decide +kernel⟩
def st__law_high_1 (R : List W → M W) : Env → M Fl :=
 (ifM (valT (binM (varM 0) (cM (.str "atom")) eqM)) (retM (cM (.int 1))) skipM)
def st__law_high_2 (R : List W → M W) : Env → M Fl :=
 (retM (ifV (valT (binM (binM (varM 0) (cM (.int 0)) itemM) (cM (.str "tag")) eqM)) (binM (cM (.int 1)) (calM (consM (binM (varM 0) (cM (.int 2)) itemM) nilM) fun ws => noEx (R ws)) addM) (binM (cM (.int 1)) (calM (consM (binM (fun δ => bd ((consM (cM (.int 0)) nilM) δ) lstM) (lcM [1, 2] (fun δ => bd ((binM (varM 0) (cM (.int 1)) itemM) δ) iterM) (tupG 2 (consG (setG 1) (consG (setG 2) nilG))) yesT (calM (consM (varM 2) nilM) fun ws => noEx (R ws))) addM) nilM) maxM) addM)))
def b__law_high (R : List W → M W) : Env → M Fl :=
 (seqM (st__law_high_1 R)
 (st__law_high_2 R))
def F__law_high : Nat → List W → M W
  | 0 => fun _ => no
  | n + 1 => pureM (runD 1 3 (b__law_high (F__law_high n)))
theorem g__law_high (T : Tx P K mg ad fd) : ∀ n : Nat, FnG P w K mg base CX0 (1 + n) (ad 18) (fd 18) ["value"] (spF K (fun _ => ZF) (F__law_high n))
  | 0 => fn_none
  | n + 1 => by
    have ih := g__law_high T n
    refine fn_pure (fn_run (j := 1 + n) T.d__law_high.fn sc__law_high rfl rfl fun cdv A outer s H E hr hG => ?_)
    exact (show PSs _ (defBody s__law_high) (tS _ ZF (b__law_high (F__law_high n))) from
 (ds_cons (ds_if (dt_cmp (o_eq (room65 hr)) (dvar (i := 0)) dstr) (ds_one (ds_ret dint)) ds_nil)
 (ds_one (ds_ret (dif (dt_cmp (o_eq (room65 hr)) (dix x_item (dvar (i := 0)) dint) dstr) (dop o_add dint (dcall (ih.mono (by omega)) hr hG rfl T.d__law_high.mg (keep_ok T.d__law_high) T.d__law_high.bd (dacons (dix x_item (dvar (i := 0)) dint) danil))) (dop o_add dint (dcallB (c_max rfl) rfl T.m_max bl_max (dacons (dop o_add (dlst (dacons dint danil)) (dlc (own := [("name", 1), ("one", 2)]) rfl sc__law_high.nd (di_val (dix x_item (dvar (i := 0)) dint)) (blkOk_by (N := N__law_high) (sc := defScope s__law_high) (by decide +kernel)) (fun _ _ _ _ _ => (dr_tup rfl (drs_cons TR.wip (dr_name (i := 1) sc__law_high.nd rfl (by first | exact Or.inl rfl | exact Or.inr rfl) (fun _ _ => wipe_set (by decide))) (drs_cons TR.wip (dr_name (i := 2) sc__law_high.nd rfl (by first | exact Or.inl rfl | exact Or.inr rfl) (fun _ _ => wipe_set (by decide))) (drs_nil TR.wip))))) (fun _ _ _ _ _ => dts_nil) (fun _ _ _ _ _ => (dcall (ih.mono (by omega)) hr hG rfl T.d__law_high.mg (keep_ok T.d__law_high) T.d__law_high.bd (dacons (dvar (i := 2)) danil))))) danil))))))))
/-! _law_text -/
abbrev N__law_text : List Str := ["value", "name", "one"]
theorem sc__law_text : FnScope ["value", "name", "one"] ["value"] (defScope s__law_text) := ⟨rfl, rfl, rfl, by decide +kernel, rfl, by decide +kernel, by decide +kernel⟩
def st__law_text_1 (R : List W → M W) : Env → M Fl :=
 (ifM (valT (binM (varM 0) (cM (.str "atom")) eqM)) (retM (cM (.str "atom"))) skipM)
def st__law_text_2 (R : List W → M W) : Env → M Fl :=
 (ifM (valT (binM (binM (varM 0) (cM (.int 0)) itemM) (cM (.str "tag")) eqM)) (retM (binM (binM (binM (binM (cM (.str "( tag ")) (binM (varM 0) (cM (.int 1)) itemM) addM) (cM (.str " ")) addM) (calM (consM (binM (varM 0) (cM (.int 2)) itemM) nilM) fun ws => noEx (R ws)) addM) (cM (.str " )")) addM)) skipM)
def st__law_text_3 (R : List W → M W) : Env → M Fl :=
 (retM (binM (binM (cM (.str "( record ")) (metM (cM (.str "")) (consM (lcM [1, 2] (fun δ => bd ((binM (varM 0) (cM (.int 1)) itemM) δ) iterM) (tupG 2 (consG (setG 1) (consG (setG 2) nilG))) yesT (binM (binM (binM (varM 1) (cM (.str " ")) addM) (calM (consM (varM 2) nilM) fun ws => noEx (R ws)) addM) (cM (.str " ")) addM)) nilM) chkS joinM) addM) (cM (.str ")")) addM))
def b__law_text (R : List W → M W) : Env → M Fl :=
 (seqM (st__law_text_1 R)
 (seqM (st__law_text_2 R)
 (st__law_text_3 R)))
def F__law_text : Nat → List W → M W
  | 0 => fun _ => no
  | n + 1 => pureM (runD 1 3 (b__law_text (F__law_text n)))
theorem g__law_text (T : Tx P K mg ad fd) : ∀ n : Nat, FnG P w K mg base CX0 (1 + n) (ad 19) (fd 19) ["value"] (spF K (fun _ => ZF) (F__law_text n))
  | 0 => fn_none
  | n + 1 => by
    have ih := g__law_text T n
    refine fn_pure (fn_run (j := 1 + n) T.d__law_text.fn sc__law_text rfl rfl fun cdv A outer s H E hr hG => ?_)
    exact (show PSs _ (defBody s__law_text) (tS _ ZF (b__law_text (F__law_text n))) from
 (ds_cons (ds_if (dt_cmp (o_eq (room65 hr)) (dvar (i := 0)) dstr) (ds_one (ds_ret dstr)) ds_nil)
 (ds_cons (ds_if (dt_cmp (o_eq (room65 hr)) (dix x_item (dvar (i := 0)) dint) dstr) (ds_one (ds_ret (dop o_add (dop o_add (dop o_add (dop o_add dstr (dix x_item (dvar (i := 0)) dint)) dstr) (dcall (ih.mono (by omega)) hr hG rfl T.d__law_text.mg (keep_ok T.d__law_text) T.d__law_text.bd (dacons (dix x_item (dvar (i := 0)) dint) danil))) dstr))) ds_nil)
 (ds_one (ds_ret (dop o_add (dop o_add dstr (dmet F.plainAttrs_str F.slot_str_join F.type_str_join chkS_ok m_join dstr (dacons (dlc (own := [("name", 1), ("one", 2)]) rfl sc__law_text.nd (di_val (dix x_item (dvar (i := 0)) dint)) (blkOk_by (N := N__law_text) (sc := defScope s__law_text) (by decide +kernel)) (fun _ _ _ _ _ => (dr_tup rfl (drs_cons TR.wip (dr_name (i := 1) sc__law_text.nd rfl (by first | exact Or.inl rfl | exact Or.inr rfl) (fun _ _ => wipe_set (by decide))) (drs_cons TR.wip (dr_name (i := 2) sc__law_text.nd rfl (by first | exact Or.inl rfl | exact Or.inr rfl) (fun _ _ => wipe_set (by decide))) (drs_nil TR.wip))))) (fun _ _ _ _ _ => dts_nil) (fun _ _ _ _ _ => (dop o_add (dop o_add (dop o_add (dvar (i := 1)) dstr) (dcall (ih.mono (by omega)) hr hG rfl T.d__law_text.mg (keep_ok T.d__law_text) T.d__law_text.bd (dacons (dvar (i := 2)) danil))) dstr))) danil))) dstr))))))
/-! _law_listed -/
abbrev N__law_listed : List Str := ["pen", "value", "found", "one"]
theorem sc__law_listed : FnScope ["pen", "value", "found", "one"] ["pen", "value"] (defScope s__law_listed) := ⟨rfl, rfl, rfl, by decide +kernel, rfl, by decide +kernel, by decide +kernel⟩
def st__law_listed_1 (R : List W → M W) : Env → M Fl :=
 (ifM (valT (fun δ => bd ((varM 1) δ) (isiM [.str]))) (retM (varM 1)) skipM)
def st__law_listed_2 (R : List W → M W) : Env → M Fl :=
 (asgM (lcM [3] (fun δ => bd ((varM 1) δ) iterM) (setG 3) yesT (calM (consM (varM 0) (consM (varM 3) nilM)) fun ws => noEx (R ws))) (setG 2))
def st__law_listed_3 (R : List W → M W) : Env → M Fl :=
 (retM (ifV (valT (binM (calM (consM (varM 0) (consM (cM (.int 2)) nilM)) fun ws => noEx (F__law_draw ws)) (cM (.int 0)) eqM)) (varM 2) (calM (consM (varM 2) nilM) tupleM)))
def b__law_listed (R : List W → M W) : Env → M Fl :=
 (seqM (st__law_listed_1 R)
 (seqM (st__law_listed_2 R)
 (st__law_listed_3 R)))
def F__law_listed : Nat → List W → M W
  | 0 => fun _ => no
  | n + 1 => (runD 2 4 (b__law_listed (F__law_listed n)))
theorem g__law_listed (T : Tx P K mg ad fd) : ∀ n : Nat, FnG P w K mg base CX0 (2 + n) (ad 20) (fd 20) ["pen", "value"] (spF K (fun _ => ZF) (F__law_listed n))
  | 0 => fn_none
  | n + 1 => by
    have ih := g__law_listed T n
    refine fn_run (j := 2 + n) T.d__law_listed.fn sc__law_listed rfl rfl fun cdv A outer s H E hr hG => ?_
    exact (show PSs _ (defBody s__law_listed) (tS _ ZF (b__law_listed (F__law_listed n))) from
 (ds_cons (ds_if (dt_val (disi1 (T := .str) rfl T.m_isinstance rfl T.m_str bl_str (dvar (i := 1)))) (ds_one (ds_ret (dvar (i := 1)))) ds_nil)
 (ds_cons (ds_setLc (i := 2) (own := [("one", 3)]) rfl sc__law_listed.nd rfl rfl (L2.sw_true rfl rfl rfl (by decide +kernel)) (di_val (dvar (i := 1))) (blkOk_by (N := N__law_listed) (sc := defScope s__law_listed) (by decide +kernel)) (fun _ _ _ _ _ => (dr_name (i := 3) sc__law_listed.nd rfl (by first | exact Or.inl rfl | exact Or.inr rfl) (fun _ _ => wipe_set (by decide)))) (fun _ _ _ _ _ => dts_nil) (fun _ _ _ _ _ => (dcall (ih.mono (by omega)) hr hG rfl T.d__law_listed.mg (keep_ok T.d__law_listed) T.d__law_listed.bd (dacons (dvar (i := 0)) (dacons (dvar (i := 3)) danil)))))
 (ds_one (ds_ret (dif (dt_cmp (o_eq (room65 hr)) (dcall ((g__law_draw T).mono (by omega)) hr hG rfl T.d__law_draw.mg (keep_ok T.d__law_draw) T.d__law_draw.bd (dacons (dvar (i := 0)) (dacons dint danil))) dint) (dvar (i := 2)) (dcallTy c_tuple rfl T.m_tuple bl_tuple (dacons (dvar (i := 2)) danil))))))))
/-! _law_bent -/
abbrev N__law_bent : List Str := ["pen", "value", "word", "name", "one", "fields", "more", "some"]
theorem sc__law_bent : FnScope ["pen", "value", "word", "name", "one", "fields", "more", "some"] ["pen", "value"] (defScope s__law_bent) := ⟨rfl, rfl, rfl, by decide +kernel, rfl, by decide +kernel, by decide +kernel⟩
def st__law_bent_1 : Env → M Fl :=
 (ifM (valT (binM (varM 1) (cM (.str "atom")) eqM)) (retM (calM (consM (varM 0) (consM (fun δ => bd ((consM (cM (.str "Atom")) (consM (cM (.str "")) (consM (cM (.str "atoms")) (consM (cM .none) (consM (cM (.int 5)) (consM (cM (.bool true)) (consM (fun δ => bd ((consM (cM (.str "atom")) nilM) δ) lstM) (consM (fun δ => bd ((consM (cM (.str "atom")) nilM) δ) tupM) (consM (cM (.dict [])) (consM (cM (.str "record")) nilM)))))))))) δ) lstM) nilM)) fun ws => noEx (F__law_pick ws))) skipM)
def st__law_bent_2 : Env → M Fl :=
 (ifM (valT (binM (binM (varM 1) (cM (.int 0)) itemM) (cM (.str "tag")) eqM)) (seqM (asgM (varM 1) (tupG 3 (consG (setG 2) (consG (setG 3) (consG (setG 4) nilG)))))
 (retM (calM (consM (varM 0) (consM (fun δ => bd ((consM (fun δ => bd ((consM (varM 2) (consM (varM 3) nilM)) δ) tupM) (consM (fun δ => bd ((consM (varM 2) (consM (varM 3) (consM (varM 4) (consM (varM 4) nilM)))) δ) tupM) (consM (fun δ => bd ((consM (cM (.str "tags")) (consM (varM 3) (consM (varM 4) nilM))) δ) tupM) (consM (fun δ => bd ((consM (varM 2) (consM (cM (.str "or")) (consM (varM 4) nilM))) δ) tupM) (consM (fun δ => bd ((consM (varM 2) (consM (cM (.str "")) (consM (varM 4) nilM))) δ) tupM) (consM (fun δ => bd ((consM (varM 2) (consM (cM .none) (consM (varM 4) nilM))) δ) tupM) (consM (fun δ => bd ((consM (varM 2) (consM (varM 3) (consM (cM .none) nilM))) δ) tupM) (consM (fun δ => bd ((consM (varM 2) (consM (cM (.str "a1")) (consM (varM 4) nilM))) δ) tupM) (consM (fun δ => bd ((consM (varM 2) (consM (fun δ => bd ((consM (varM 3) nilM) δ) tupM) (consM (varM 4) nilM))) δ) tupM) nilM))))))))) δ) lstM) nilM)) fun ws => noEx (F__law_pick ws)))) skipM)
def st__law_bent_3 : Env → M Fl :=
 (asgM (varM 1) (tupG 2 (consG (setG 2) (consG (setG 5) nilG))))
def st__law_bent_4 : Env → M Fl :=
 (asgM (calM (consM (lcM [3, 4] (fun δ => bd ((varM 5) δ) iterM) (tupG 2 (consG (setG 3) (consG (setG 4) nilG))) yesT (fun δ => bd ((consM (ifV (valT (binM (calM (consM (varM 3) nilM) lenDM) (cM (.int 8)) ltM)) (binM (varM 3) (cM (.str "x")) addM) (varM 3)) (consM (varM 4) nilM)) δ) tupM)) nilM) tupleM) (setG 6))
def st__law_bent_5 : Env → M Fl :=
 (asgM (fun δ => bd ((consM (fun δ => bd ((consM (varM 2) nilM) δ) tupM) (consM (fun δ => bd ((consM (varM 2) (consM (varM 5) (consM (varM 5) nilM))) δ) tupM) (consM (fun δ => bd ((consM (cM (.str "records")) (consM (varM 5) nilM)) δ) tupM) (consM (fun δ => bd ((consM (varM 2) (consM (cM .none) nilM)) δ) tupM) (consM (fun δ => bd ((consM (varM 2) (consM (cM (.str "atom")) nilM)) δ) tupM) (consM (fun δ => bd ((consM (varM 2) (consM (binM (varM 5) (fun δ => bd ((consM (fun δ => bd ((consM (cM (.str "a")) (consM (cM (.str "atom")) nilM)) δ) tupM) (consM (fun δ => bd ((consM (cM (.str "a")) (consM (cM (.str "atom")) nilM)) δ) tupM) nilM)) δ) tupM) addM) nilM)) δ) tupM) (consM (fun δ => bd ((consM (varM 2) (consM (fun δ => bd ((consM (fun δ => bd ((consM (cM (.str "b")) (consM (cM (.str "atom")) nilM)) δ) tupM) (consM (fun δ => bd ((consM (cM (.str "a")) (consM (cM (.str "atom")) nilM)) δ) tupM) nilM)) δ) tupM) nilM)) δ) tupM) nilM))))))) δ) lstM) (setG 7))
def st__law_bent_6 : Env → M Fl :=
 (retM (calM (consM (varM 0) (consM (binM (varM 7) (fun δ => bd ((consM (fun δ => bd ((consM (varM 2) (consM (fun δ => bd ((consM (fun δ => bd ((consM (cM (.str "a")) nilM) δ) tupM) nilM) δ) tupM) nilM)) δ) tupM) (consM (fun δ => bd ((consM (varM 2) (consM (fun δ => bd ((consM (fun δ => bd ((consM (cM (.str "a")) (consM (cM (.str "atom")) (consM (cM (.str "atom")) nilM))) δ) tupM) nilM) δ) tupM) nilM)) δ) tupM) (consM (fun δ => bd ((consM (varM 2) (consM (binM (varM 6) (fun δ => bd ((consM (fun δ => bd ((consM (cM .none) (consM (cM (.str "atom")) nilM)) δ) tupM) nilM) δ) tupM) addM) nilM)) δ) tupM) (consM (fun δ => bd ((consM (varM 2) (consM (fun δ => bd ((consM (fun δ => bd ((consM (cM (.str "with")) (consM (cM (.str "atom")) nilM)) δ) tupM) nilM) δ) tupM) nilM)) δ) tupM) (consM (fun δ => bd ((consM (varM 2) (consM (fun δ => bd ((consM (cM (.str "a")) nilM) δ) tupM) nilM)) δ) tupM) (consM (fun δ => bd ((consM (varM 2) (consM (fun δ => bd ((consM (fun δ => bd ((consM (cM (.str "a")) (consM (cM .none) nilM)) δ) tupM) nilM) δ) tupM) nilM)) δ) tupM) nilM)))))) δ) lstM) addM) nilM)) fun ws => noEx (F__law_pick ws)))
def b__law_bent : Env → M Fl :=
 (seqM st__law_bent_1
 (seqM st__law_bent_2
 (seqM st__law_bent_3
 (seqM st__law_bent_4
 (seqM st__law_bent_5
 st__law_bent_6)))))
def F__law_bent : List W → M W := (runD 2 8 b__law_bent)
theorem g__law_bent (T : Tx P K mg ad fd) : FnG P w K mg base CX0 3 (ad 21) (fd 21) ["pen", "value"] (spF K (fun _ => ZF) F__law_bent) := by
  refine fn_run T.d__law_bent.fn sc__law_bent rfl rfl fun cdv A outer s H E hr hG => ?_
  exact (show PSs _ (defBody s__law_bent) (tS _ ZF b__law_bent) from
 (ds_cons (ds_if (dt_cmp (o_eq (room65 hr)) (dvar (i := 1)) dstr) (ds_one (ds_ret (dcall ((g__law_pick T).mono (by omega)) hr hG rfl T.d__law_pick.mg (keep_ok T.d__law_pick) T.d__law_pick.bd (dacons (dvar (i := 0)) (dacons (dlst (dacons dstr (dacons dstr (dacons dstr (dacons dnon (dacons dint (dacons dbl (dacons (dlst (dacons dstr danil)) (dacons (dtup (dacons dstr danil)) (dacons dd0 (dacons dstr danil))))))))))) danil))))) ds_nil)
 (ds_cons (ds_if (dt_cmp (o_eq (room65 hr)) (dix x_item (dvar (i := 1)) dint) dstr) (ds_cons (ds_asg (dvar (i := 1)) (dr_any (dr_tup rfl (drs_cons TR.any (dr_name (i := 2) sc__law_bent.nd rfl (by first | exact Or.inl rfl | exact Or.inr rfl) (fun _ _ => trivial)) (drs_cons TR.any (dr_name (i := 3) sc__law_bent.nd rfl (by first | exact Or.inl rfl | exact Or.inr rfl) (fun _ _ => trivial)) (drs_cons TR.any (dr_name (i := 4) sc__law_bent.nd rfl (by first | exact Or.inl rfl | exact Or.inr rfl) (fun _ _ => trivial)) (drs_nil TR.any)))))))
 (ds_one (ds_ret (dcall ((g__law_pick T).mono (by omega)) hr hG rfl T.d__law_pick.mg (keep_ok T.d__law_pick) T.d__law_pick.bd (dacons (dvar (i := 0)) (dacons (dlst (dacons (dtup (dacons (dvar (i := 2)) (dacons (dvar (i := 3)) danil))) (dacons (dtup (dacons (dvar (i := 2)) (dacons (dvar (i := 3)) (dacons (dvar (i := 4)) (dacons (dvar (i := 4)) danil))))) (dacons (dtup (dacons dstr (dacons (dvar (i := 3)) (dacons (dvar (i := 4)) danil)))) (dacons (dtup (dacons (dvar (i := 2)) (dacons dstr (dacons (dvar (i := 4)) danil)))) (dacons (dtup (dacons (dvar (i := 2)) (dacons dstr (dacons (dvar (i := 4)) danil)))) (dacons (dtup (dacons (dvar (i := 2)) (dacons dnon (dacons (dvar (i := 4)) danil)))) (dacons (dtup (dacons (dvar (i := 2)) (dacons (dvar (i := 3)) (dacons dnon danil)))) (dacons (dtup (dacons (dvar (i := 2)) (dacons dstr (dacons (dvar (i := 4)) danil)))) (dacons (dtup (dacons (dvar (i := 2)) (dacons (dtup (dacons (dvar (i := 3)) danil)) (dacons (dvar (i := 4)) danil)))) danil)))))))))) danil)))))) ds_nil)
 (ds_cons (ds_asg (dvar (i := 1)) (dr_any (dr_tup rfl (drs_cons TR.any (dr_name (i := 2) sc__law_bent.nd rfl (by first | exact Or.inl rfl | exact Or.inr rfl) (fun _ _ => trivial)) (drs_cons TR.any (dr_name (i := 5) sc__law_bent.nd rfl (by first | exact Or.inl rfl | exact Or.inr rfl) (fun _ _ => trivial)) (drs_nil TR.any))))))
 (ds_cons (ds_set (i := 6) sc__law_bent.nd rfl (by first | exact Or.inl rfl | exact Or.inr rfl) (dcallTy c_tuple rfl T.m_tuple bl_tuple (dacons (dlc (own := [("name", 3), ("one", 4)]) rfl sc__law_bent.nd (di_val (dvar (i := 5))) (blkOk_by (N := N__law_bent) (sc := defScope s__law_bent) (by decide +kernel)) (fun _ _ _ _ _ => (dr_tup rfl (drs_cons TR.wip (dr_name (i := 3) sc__law_bent.nd rfl (by first | exact Or.inl rfl | exact Or.inr rfl) (fun _ _ => wipe_set (by decide))) (drs_cons TR.wip (dr_name (i := 4) sc__law_bent.nd rfl (by first | exact Or.inl rfl | exact Or.inr rfl) (fun _ _ => wipe_set (by decide))) (drs_nil TR.wip))))) (fun _ _ _ _ _ => dts_nil) (fun _ _ _ _ _ => (dtup (dacons (dif (dt_cmp o_lt (dcallB c_lenD rfl T.m_len bl_len (dacons (dvar (i := 3)) danil)) dint) (dop o_add (dvar (i := 3)) dstr) (dvar (i := 3))) (dacons (dvar (i := 4)) danil))))) danil)))
 (ds_cons (ds_set (i := 7) sc__law_bent.nd rfl (by first | exact Or.inl rfl | exact Or.inr rfl) (dlst (dacons (dtup (dacons (dvar (i := 2)) danil)) (dacons (dtup (dacons (dvar (i := 2)) (dacons (dvar (i := 5)) (dacons (dvar (i := 5)) danil)))) (dacons (dtup (dacons dstr (dacons (dvar (i := 5)) danil))) (dacons (dtup (dacons (dvar (i := 2)) (dacons dnon danil))) (dacons (dtup (dacons (dvar (i := 2)) (dacons dstr danil))) (dacons (dtup (dacons (dvar (i := 2)) (dacons (dop o_add (dvar (i := 5)) (dtup (dacons (dtup (dacons dstr (dacons dstr danil))) (dacons (dtup (dacons dstr (dacons dstr danil))) danil)))) danil))) (dacons (dtup (dacons (dvar (i := 2)) (dacons (dtup (dacons (dtup (dacons dstr (dacons dstr danil))) (dacons (dtup (dacons dstr (dacons dstr danil))) danil))) danil))) danil)))))))))
 (ds_one (ds_ret (dcall ((g__law_pick T).mono (by omega)) hr hG rfl T.d__law_pick.mg (keep_ok T.d__law_pick) T.d__law_pick.bd (dacons (dvar (i := 0)) (dacons (dop o_add (dvar (i := 7)) (dlst (dacons (dtup (dacons (dvar (i := 2)) (dacons (dtup (dacons (dtup (dacons dstr danil)) danil)) danil))) (dacons (dtup (dacons (dvar (i := 2)) (dacons (dtup (dacons (dtup (dacons dstr (dacons dstr (dacons dstr danil)))) danil)) danil))) (dacons (dtup (dacons (dvar (i := 2)) (dacons (dop o_add (dvar (i := 6)) (dtup (dacons (dtup (dacons dnon (dacons dstr danil))) danil))) danil))) (dacons (dtup (dacons (dvar (i := 2)) (dacons (dtup (dacons (dtup (dacons dstr (dacons dstr danil))) danil)) danil))) (dacons (dtup (dacons (dvar (i := 2)) (dacons (dtup (dacons dstr danil)) danil))) (dacons (dtup (dacons (dvar (i := 2)) (dacons (dtup (dacons (dtup (dacons dstr (dacons dnon danil))) danil)) danil))) danil)))))))) danil)))))))))))
/-! _law_within -/
abbrev N__law_within : List Str := ["pen", "value", "inner", "way"]
theorem sc__law_within : FnScope ["pen", "value", "inner", "way"] ["pen", "value", "inner"] (defScope s__law_within) := ⟨rfl, rfl, rfl, by decide +kernel, rfl, by decide +kernel, by decide +kernel⟩
def st__law_within_1 : Env → M Fl :=
 (asgM (calM (consM (varM 0) (consM (cM (.int 2)) nilM)) fun ws => noEx (F__law_draw ws)) (setG 3))
def st__law_within_2 : Env → M Fl :=
 (retM (ifV (valT (binM (varM 3) (cM (.int 0)) eqM)) (fun δ => bd ((consM (cM (.str "tag")) (consM (cM (.str "a")) (consM (varM 2) nilM))) δ) tupM) (fun δ => bd ((consM (cM (.str "record")) (consM (fun δ => bd ((consM (fun δ => bd ((consM (cM (.str "a")) (consM (varM 2) nilM)) δ) tupM) (consM (fun δ => bd ((consM (cM (.str "b")) (consM (varM 1) nilM)) δ) tupM) nilM)) δ) tupM) nilM)) δ) tupM)))
def b__law_within : Env → M Fl :=
 (seqM st__law_within_1
 st__law_within_2)
def F__law_within : List W → M W := (runD 3 4 b__law_within)
theorem g__law_within (T : Tx P K mg ad fd) : FnG P w K mg base CX0 2 (ad 22) (fd 22) ["pen", "value", "inner"] (spF K (fun _ => ZF) F__law_within) := by
  refine fn_run T.d__law_within.fn sc__law_within rfl rfl fun cdv A outer s H E hr hG => ?_
  exact (show PSs _ (defBody s__law_within) (tS _ ZF b__law_within) from
 (ds_cons (ds_set (i := 3) sc__law_within.nd rfl (by first | exact Or.inl rfl | exact Or.inr rfl) (dcall ((g__law_draw T).mono (by omega)) hr hG rfl T.d__law_draw.mg (keep_ok T.d__law_draw) T.d__law_draw.bd (dacons (dvar (i := 0)) (dacons dint danil))))
 (ds_one (ds_ret (dif (dt_cmp (o_eq (room65 hr)) (dvar (i := 3)) dint) (dtup (dacons dstr (dacons dstr (dacons (dvar (i := 2)) danil)))) (dtup (dacons dstr (dacons (dtup (dacons (dtup (dacons dstr (dacons (dvar (i := 2)) danil))) (dacons (dtup (dacons dstr (dacons (dvar (i := 1)) danil))) danil))) danil))))))))
/-! law -/
abbrev N_law : List Str := ["script", "pen", "turn", "value", "listed", "bad", "high", "told", "wide", "some", "sign", "name", "other", "many"]
theorem sc_law : FnScope ["script", "pen", "turn", "value", "listed", "bad", "high", "told", "wide", "some", "sign", "name", "other", "many"] ["script"] (defScope s_law) := ⟨rfl, rfl, rfl, by decide +kernel, rfl, by decide +kernel, by decide +kernel⟩
def st_law_1 (PT : Addr) : Env → M Fl :=
 (asgM (calM (consM (varM 0) nilM) fun ws => noEx (F__law_pen ws)) (setG 1))
def st_law_2 (PT : Addr) : Env → M Fl :=
 (asgM (calM (consM (varM 1) (consM (binM (cM (.int 1)) (calM (consM (varM 1) (consM (cM (.int 7)) nilM)) fun ws => noEx (F__law_draw ws)) addM) nilM)) fun ws => noEx ((F__law_value 30) ws)) (setG 3))
def st_law_3 (PT : Addr) : Env → M Fl :=
 (asgM (calM (consM (varM 1) (consM (varM 3) nilM)) fun ws => noEx ((F__law_listed 30) ws)) (setG 4))
def st_law_4 (PT : Addr) : Env → M Fl :=
 (ifM (orT (valT (binM (calM (consM (varM 3) nilM) fun ws => noEx (F_is_value ws)) (cM (.bool true)) isNotM)) (orT (valT (binM (calK nilM (consM (varM 4) nilM) (gP 0 1 [0]) (fun ws => noEx (F_is_value ws))) (cM (.bool true)) isNotM)) (orT (valT (binM (calM (consM (varM 4) nilM) fun ws => noEx (noEx <| F_height ws)) (calM (consM (varM 3) nilM) fun ws => noEx ((F__law_high 30) ws)) neM)) (valT (binM (calK nilM (consM (varM 3) nilM) (gP 0 1 [0]) (fun ws => noEx (noEx <| F_height ws))) (calM (consM (varM 3) nilM) fun ws => noEx ((F__law_high 30) ws)) neM))))) (retM (cM (.bool false))) skipM)
def st_law_5 (PT : Addr) : Env → M Fl :=
 (ifM (orT (valT (binM (calM (consM (varM 3) nilM) fun ws => noEx (noEx <| F_value_text ws)) (calM (consM (varM 3) nilM) fun ws => noEx ((F__law_text 30) ws)) neM)) (valT (binM (calK nilM (consM (varM 4) nilM) (gP 0 1 [0]) (fun ws => noEx (noEx <| F_value_text ws))) (calM (consM (varM 3) nilM) fun ws => noEx ((F__law_text 30) ws)) neM))) (retM (cM (.bool false))) skipM)
def st_law_6 (PT : Addr) : Env → M Fl :=
 (asgM (calM (consM (varM 1) (consM (varM 3) nilM)) fun ws => noEx (F__law_bent ws)) (setG 5))
def st_law_7 (PT : Addr) : Env → M Fl :=
 (ifM (valT (binM (calM (consM (varM 1) (consM (cM (.int 2)) nilM)) fun ws => noEx (F__law_draw ws)) (cM (.int 0)) eqM)) (asgM (calM (consM (varM 1) (consM (cM (.str "atom")) (consM (varM 5) nilM))) fun ws => noEx (F__law_within ws)) (setG 5)) skipM)
def st_law_8 (PT : Addr) : Env → M Fl :=
 (ifM (orT (valT (binM (calM (consM (varM 5) nilM) fun ws => noEx (F_is_value ws)) (cM (.bool false)) isNotM)) (valT (binM (fun δ => bd ((consM (heardM PT qL errs f__law_heard [] [5] (calM (consM (varM 0) nilM) F_height)) (consM (heardM PT qL errs f__law_heard [.d (.int 0)] [5] (calM (consM (varM 1) nilM) F_value_text)) nilM)) δ) lstM) (binM (fun δ => bd ((consM (fun δ => bd ((consM (cM (.str "value")) (consM (cM (.str "value")) nilM)) δ) tupM) nilM) δ) lstM) (cM (.int 2)) mulM) neM))) (retM (cM (.bool false))) skipM)
def body_law_1 (PT : Addr) : Env → M Fl :=
 (seqM (st_law_2 PT)
 (seqM (st_law_3 PT)
 (seqM (st_law_4 PT)
 (seqM (st_law_5 PT)
 (seqM (st_law_6 PT)
 (seqM (st_law_7 PT)
 (st_law_8 PT)))))))
def st_law_9 (PT : Addr) : Env → M Fl :=
 (asgM (cM (.str "atom")) (setG 6))
def st_law_10 (PT : Addr) : Env → M Fl :=
 (asgM (ifV (valT (binM (calM (consM (varM 1) (consM (cM (.int 2)) nilM)) fun ws => noEx (F__law_draw ws)) (cM (.int 0)) eqM)) (fun δ => bd ((consM (cM (.str "tag")) (consM (calM (consM (varM 1) (consM (fun δ => bd ((consM (cM (.str "a")) (consM (cM (.str "b")) nilM)) δ) lstM) nilM)) fun ws => noEx (F__law_pick ws)) (consM (varM 6) nilM))) δ) tupM) (fun δ => bd ((consM (cM (.str "record")) (consM (fun δ => bd ((consM (fun δ => bd ((consM (cM (.str "a")) (consM (varM 6) nilM)) δ) tupM) nilM) δ) tupM) nilM)) δ) tupM)) (setG 6))
def body_law_2 (PT : Addr) : Env → M Fl :=
 (st_law_10 PT)
def st_law_11 (PT : Addr) : Env → M Fl :=
 (asgM (fun δ => bd ((consM (calM (consM (varM 6) nilM) fun ws => noEx (F_is_value ws)) (consM (calM (consM (fun δ => bd ((consM (cM (.str "tag")) (consM (cM (.str "a")) (consM (varM 6) nilM))) δ) tupM) nilM) fun ws => noEx (F_is_value ws)) (consM (calM (consM (fun δ => bd ((consM (cM (.str "record")) (consM (fun δ => bd ((consM (fun δ => bd ((consM (cM (.str "b")) (consM (varM 6) nilM)) δ) tupM) nilM) δ) lstM) nilM)) δ) tupM) nilM) fun ws => noEx (F_is_value ws)) (consM (calM (consM (varM 6) nilM) fun ws => noEx (noEx <| F_height ws)) nilM)))) δ) lstM) (setG 7))
def st_law_12 (PT : Addr) : Env → M Fl :=
 (asgM (fun δ => bd ((consM (cM (.str "record")) (consM (calM (consM (lcM [11] (fun δ => bd ((cM (.str "abcdefghijklmnopqrstuvwxyz")) δ) iterM) (setG 11) yesT (fun δ => bd ((consM (varM 11) (consM (cM (.str "atom")) nilM)) δ) tupM)) nilM) tupleM) nilM)) δ) tupM) (setG 8))
def st_law_13 (PT : Addr) : Env → M Fl :=
 (asgM (fun δ => bd (nilM δ) lstM) (setG 9))
def st_law_14 (PT : Addr) : Env → M Fl :=
 (asgM (binM (varM 9) (lcM [12] (fun δ => bd ((cM (.str "abcdefghijklmnopqrstuvwxyz")) δ) iterM) (setG 12) yesT (fun δ => bd ((consM (binM (varM 10) (varM 12) addM) (consM (cM (.str "atom")) nilM)) δ) tupM)) addM) (setG 9))
def body_law_3 (PT : Addr) : Env → M Fl :=
 (st_law_14 PT)
def st_law_15 (PT : Addr) : Env → M Fl :=
 (ifM (orT (valT (binM (lcM [13] (fun δ => bd ((fun δ => bd ((consM (cM (.int 59)) (consM (cM (.int 60)) (consM (cM (.int 61)) (consM (cM (.int 78)) nilM)))) δ) tupM) δ) iterM) (setG 13) yesT (calM (consM (fun δ => bd ((consM (cM (.str "record")) (consM (calM (consM (fun δ => bd ((varM 9) δ) fun x => bd ((fun _ => pr none) δ) fun l => bd ((fun δ => bd ((varM 13) δ) fun w => bd (intOf w) fun i => pr (some i)) δ) fun u => sliceM x l u) nilM) tupleM) nilM)) δ) tupM) nilM) fun ws => noEx (F_is_value ws))) (fun δ => bd ((consM (cM (.bool true)) (consM (cM (.bool true)) (consM (cM (.bool false)) (consM (cM (.bool false)) nilM)))) δ) lstM) neM)) (valT (binM (calM (consM (fun δ => bd ((consM (cM (.str "tag")) (consM (cM (.str "a")) (consM (fun δ => bd ((consM (cM (.str "record")) (consM (fun δ => bd ((varM 9) δ) fun x => bd ((fun _ => pr none) δ) fun l => bd ((fun δ => bd ((cM (.int 61)) δ) fun w => bd (intOf w) fun i => pr (some i)) δ) fun u => sliceM x l u) nilM)) δ) tupM) nilM))) δ) tupM) nilM) fun ws => noEx (F_is_value ws)) (cM (.bool false)) isNotM))) (retM (cM (.bool false))) skipM)
def st_law_16 (PT : Addr) : Env → M Fl :=
 (retM (andV (binM (varM 7) (fun δ => bd ((consM (cM (.bool true)) (consM (cM (.bool false)) (consM (cM (.bool false)) (consM (cM (.int 8)) nilM)))) δ) lstM) eqM) (andV (binM (calM (consM (varM 8) nilM) fun ws => noEx (F_is_value ws)) (cM (.bool true)) isM) (andV (binM (calM (consM (varM 8) nilM) fun ws => noEx (noEx <| F_height ws)) (cM (.int 2)) eqM) (andV (binM (calM (consM (fun δ => bd ((consM (cM (.str "record")) (consM (fun δ => bd (nilM δ) tupM) nilM)) δ) tupM) nilM) fun ws => noEx (noEx <| F_height ws)) (cM (.int 1)) eqM) (binM (calM (consM (fun δ => bd ((consM (cM (.str "tag")) (consM (cM (.str "a")) (consM (fun δ => bd ((consM (cM (.str "record")) (consM (fun δ => bd (nilM δ) tupM) nilM)) δ) tupM) nilM))) δ) tupM) nilM) fun ws => noEx (F_is_value ws)) (cM (.bool true)) isM))))))
def b_law (PT : Addr) : Env → M Fl :=
 (seqM (st_law_1 PT)
 (seqM (forM (fun δ => bd ((consM (cM (.int 5)) nilM) δ) rng1M) (setG 2) (body_law_1 PT))
 (seqM (st_law_9 PT)
 (seqM (forM (fun δ => bd ((consM (cM (.int 7)) nilM) δ) rng1M) (setG 2) (body_law_2 PT))
 (seqM (st_law_11 PT)
 (seqM (st_law_12 PT)
 (seqM (st_law_13 PT)
 (seqM (forM (fun δ => bd ((cM (.str "abc")) δ) iterM) (setG 10) (body_law_3 PT))
 (seqM (st_law_15 PT)
 (st_law_16 PT))))))))))
def F_law (PT : Addr) : List W → M W := runD 1 14 (b_law PT)
theorem g_law (T : Tx P K mg ad fd) {ca PT : Addr} (TB : LamX.TabB base mg ca PT) (hcode : ∀ cdv, CodeOf K (ad 23) cdv → cdv = .ref ca) : FnG P w K mg base CX0 36 (ad 23) (fd 23) ["script"] (spF K (fun _ => ZF) (F_law PT)) := by
  refine fn_runC T.d_law.fn sc_law rfl rfl fun cdv A outer s H E hco hr hG => ?_
  exact (show PSs _ (defBody s_law) (tS _ ZF (b_law PT)) from
 (ds_cons (ds_set (i := 1) sc_law.nd rfl (by first | exact Or.inl rfl | exact Or.inr rfl) (dcall ((g__law_pen T).mono (by omega)) hr hG rfl T.d__law_pen.mg (keep_ok T.d__law_pen) T.d__law_pen.bd (dacons (dvar (i := 0)) danil)))
 (ds_cons (ds_for PassesOwn.never rfl (di_rng1 rfl T.m_range (dacons dint danil)) (dg_name (i := 2) sc_law.nd rfl (by first | exact Or.inl rfl | exact Or.inr rfl))
 (ds_cons (ds_set (i := 3) sc_law.nd rfl (by first | exact Or.inl rfl | exact Or.inr rfl) (dcall ((g__law_value T 30).mono (by omega)) hr hG rfl T.d__law_value.mg (keep_ok T.d__law_value) T.d__law_value.bd (dacons (dvar (i := 1)) (dacons (dop o_add dint (dcall ((g__law_draw T).mono (by omega)) hr hG rfl T.d__law_draw.mg (keep_ok T.d__law_draw) T.d__law_draw.bd (dacons (dvar (i := 1)) (dacons dint danil)))) danil))))
 (ds_cons (ds_set (i := 4) sc_law.nd rfl (by first | exact Or.inl rfl | exact Or.inr rfl) (dcall ((g__law_listed T 30).mono (by omega)) hr hG rfl T.d__law_listed.mg (keep_ok T.d__law_listed) T.d__law_listed.bd (dacons (dvar (i := 1)) (dacons (dvar (i := 3)) danil))))
 (ds_cons (ds_if (dt_bool (dw_or (dt_cmp o_isNot (dcall ((g_is_value T).mono (by omega)) hr hG rfl T.d_is_value.mg (keep_ok T.d_is_value) T.d_is_value.bd (dacons (dvar (i := 3)) danil)) dbl) (dw_or (dt_cmp o_isNot (dcallK0 ((g_is_value T).mono (by omega)) hr hG rfl T.d_is_value.mg (keep_ok T.d_is_value) (kb_0 T.d_is_value) (dk_cons (dvar (i := 4)) dk_nil)) dbl) (dw_or (dt_cmp (o_ne (room65 hr)) (dcall ((g_height T).mono (by omega)) hr hG rfl T.d_height.mg (keep_ok T.d_height) T.d_height.bd (dacons (dvar (i := 4)) danil)) (dcall ((g__law_high T 30).mono (by omega)) hr hG rfl T.d__law_high.mg (keep_ok T.d__law_high) T.d__law_high.bd (dacons (dvar (i := 3)) danil))) (dw_or1 (dt_cmp (o_ne (room65 hr)) (dcallK0 ((g_height T).mono (by omega)) hr hG rfl T.d_height.mg (keep_ok T.d_height) (kb_1 T.d_height) (dk_cons (dvar (i := 3)) dk_nil)) (dcall ((g__law_high T 30).mono (by omega)) hr hG rfl T.d__law_high.mg (keep_ok T.d__law_high) T.d__law_high.bd (dacons (dvar (i := 3)) danil)))))))) (ds_one (ds_ret dbl)) ds_nil)
 (ds_cons (ds_if (dt_bool (dw_or (dt_cmp (o_ne (room65 hr)) (dcall ((g_value_text T).mono (by omega)) hr hG rfl T.d_value_text.mg (keep_ok T.d_value_text) T.d_value_text.bd (dacons (dvar (i := 3)) danil)) (dcall ((g__law_text T 30).mono (by omega)) hr hG rfl T.d__law_text.mg (keep_ok T.d__law_text) T.d__law_text.bd (dacons (dvar (i := 3)) danil))) (dw_or1 (dt_cmp (o_ne (room65 hr)) (dcallK0 ((g_value_text T).mono (by omega)) hr hG rfl T.d_value_text.mg (keep_ok T.d_value_text) (kb_2 T.d_value_text) (dk_cons (dvar (i := 4)) dk_nil)) (dcall ((g__law_text T 30).mono (by omega)) hr hG rfl T.d__law_text.mg (keep_ok T.d__law_text) T.d__law_text.bd (dacons (dvar (i := 3)) danil)))))) (ds_one (ds_ret dbl)) ds_nil)
 (ds_cons (ds_set (i := 5) sc_law.nd rfl (by first | exact Or.inl rfl | exact Or.inr rfl) (dcall ((g__law_bent T).mono (by omega)) hr hG rfl T.d__law_bent.mg (keep_ok T.d__law_bent) T.d__law_bent.bd (dacons (dvar (i := 1)) (dacons (dvar (i := 3)) danil))))
 (ds_cons (ds_if (dt_cmp (o_eq (room65 hr)) (dcall ((g__law_draw T).mono (by omega)) hr hG rfl T.d__law_draw.mg (keep_ok T.d__law_draw) T.d__law_draw.bd (dacons (dvar (i := 1)) (dacons dint danil))) dint) (ds_one (ds_set (i := 5) sc_law.nd rfl (by first | exact Or.inl rfl | exact Or.inr rfl) (dcall ((g__law_within T).mono (by omega)) hr hG rfl T.d__law_within.mg (keep_ok T.d__law_within) T.d__law_within.bd (dacons (dvar (i := 1)) (dacons dstr (dacons (dvar (i := 5)) danil)))))) ds_nil)
 (ds_one (ds_if (dt_bool (dw_or (dt_cmp o_isNot (dcall ((g_is_value T).mono (by omega)) hr hG rfl T.d_is_value.mg (keep_ok T.d_is_value) T.d_is_value.bd (dacons (dvar (i := 5)) danil)) dbl) (dw_or1 (dt_cmp (o_ne (room65 hr)) (dlst (dacons (dheardT (k := 33) (N := ["bad"]) (ps := []) (fr := ["bad"]) (js := [5]) (vs := ([] : List V)) T.d__law_heard rfl sc__law_heard (.inl rfl) (h__law_heard T) TB (hcode _ hco) hr rfl (NdefX.nscope_by (by decide +kernel)) (show NdefX.ndefB (defScope s_law) _ _ = true from by decide +kernel) rfl (fun _ _ _ => .nil) rfl rfl (.inl ⟨rfl, rfl⟩) (bindL0 fun _ _ _ _ _ _ => rfl) (fun A outer s H E f0 c0 hg2 hr => have hG := hg2.trans hG; (dcallX ⟨_, takes_of rfl rfl rfl rfl, fun x S ρ H cls d σ z fl => z cls d fl⟩ ((gx_height T).mono (by omega)) hr hG rfl T.d_height.mg (keep_ok T.d_height) T.d_height.bd (dacons (dvar (i := 0)) danil)))) (dacons (dheardT (k := 33) (N := ["a1", "bad"]) (ps := ["a1"]) (fr := ["bad"]) (js := [5]) (vs := [V.int 0]) T.d__law_heard rfl sc__law_heard (.inl rfl) (h__law_heard T) TB (hcode _ hco) hr rfl (NdefX.nscope_by (by decide +kernel)) (show NdefX.ndefB (defScope s_law) _ _ = true from by decide +kernel) rfl (fun _ _ _ => .cons (.int 0) .nil) rfl rfl (.inr ⟨0, _, _, rfl, rfl, rfl⟩) (bindL1 fun _ _ _ _ _ _ _ => ⟨_, rfl, fun _ => rfl⟩) (fun A outer s H E f0 c0 hg2 hr => have hG := hg2.trans hG; (dcallX ⟨_, takes_of rfl rfl rfl rfl, fun x S ρ H cls d σ z fl => z cls d fl⟩ ((gx_value_text T).mono (by omega)) hr hG rfl T.d_value_text.mg (keep_ok T.d_value_text) T.d_value_text.bd (dacons (dvar (i := 1)) danil)))) danil))) (dop o_mul (dlst (dacons (dtup (dacons dstr (dacons dstr danil))) danil)) dint))))) (ds_one (ds_ret dbl)) ds_nil)))))))))
 (ds_cons (ds_set (i := 6) sc_law.nd rfl (by first | exact Or.inl rfl | exact Or.inr rfl) dstr)
 (ds_cons (ds_for PassesOwn.never rfl (di_rng1 rfl T.m_range (dacons dint danil)) (dg_name (i := 2) sc_law.nd rfl (by first | exact Or.inl rfl | exact Or.inr rfl))
 (ds_one (ds_set (i := 6) sc_law.nd rfl (by first | exact Or.inl rfl | exact Or.inr rfl) (dif (dt_cmp (o_eq (room65 hr)) (dcall ((g__law_draw T).mono (by omega)) hr hG rfl T.d__law_draw.mg (keep_ok T.d__law_draw) T.d__law_draw.bd (dacons (dvar (i := 1)) (dacons dint danil))) dint) (dtup (dacons dstr (dacons (dcall ((g__law_pick T).mono (by omega)) hr hG rfl T.d__law_pick.mg (keep_ok T.d__law_pick) T.d__law_pick.bd (dacons (dvar (i := 1)) (dacons (dlst (dacons dstr (dacons dstr danil))) danil))) (dacons (dvar (i := 6)) danil)))) (dtup (dacons dstr (dacons (dtup (dacons (dtup (dacons dstr (dacons (dvar (i := 6)) danil))) danil)) danil)))))))
 (ds_cons (ds_set (i := 7) sc_law.nd rfl (by first | exact Or.inl rfl | exact Or.inr rfl) (dlst (dacons (dcall ((g_is_value T).mono (by omega)) hr hG rfl T.d_is_value.mg (keep_ok T.d_is_value) T.d_is_value.bd (dacons (dvar (i := 6)) danil)) (dacons (dcall ((g_is_value T).mono (by omega)) hr hG rfl T.d_is_value.mg (keep_ok T.d_is_value) T.d_is_value.bd (dacons (dtup (dacons dstr (dacons dstr (dacons (dvar (i := 6)) danil)))) danil)) (dacons (dcall ((g_is_value T).mono (by omega)) hr hG rfl T.d_is_value.mg (keep_ok T.d_is_value) T.d_is_value.bd (dacons (dtup (dacons dstr (dacons (dlst (dacons (dtup (dacons dstr (dacons (dvar (i := 6)) danil))) danil)) danil))) danil)) (dacons (dcall ((g_height T).mono (by omega)) hr hG rfl T.d_height.mg (keep_ok T.d_height) T.d_height.bd (dacons (dvar (i := 6)) danil)) danil))))))
 (ds_cons (ds_set (i := 8) sc_law.nd rfl (by first | exact Or.inl rfl | exact Or.inr rfl) (dtup (dacons dstr (dacons (dcallTy c_tuple rfl T.m_tuple bl_tuple (dacons (dlc (own := [("name", 11)]) rfl sc_law.nd (di_val dstr) (blkOk_by (N := N_law) (sc := defScope s_law) (by decide +kernel)) (fun _ _ _ _ _ => (dr_name (i := 11) sc_law.nd rfl (by first | exact Or.inl rfl | exact Or.inr rfl) (fun _ _ => wipe_set (by decide)))) (fun _ _ _ _ _ => dts_nil) (fun _ _ _ _ _ => (dtup (dacons (dvar (i := 11)) (dacons dstr danil))))) danil)) danil))))
 (ds_cons (ds_set (i := 9) sc_law.nd rfl (by first | exact Or.inl rfl | exact Or.inr rfl) (dlst danil))
 (ds_cons (ds_for PassesOwn.never rfl (di_val dstr) (dg_name (i := 10) sc_law.nd rfl (by first | exact Or.inl rfl | exact Or.inr rfl))
 (ds_one (ds_set (i := 9) sc_law.nd rfl (by first | exact Or.inl rfl | exact Or.inr rfl) (dop o_add (dvar (i := 9)) (dlc (own := [("other", 12)]) rfl sc_law.nd (di_val dstr) (blkOk_by (N := N_law) (sc := defScope s_law) (by decide +kernel)) (fun _ _ _ _ _ => (dr_name (i := 12) sc_law.nd rfl (by first | exact Or.inl rfl | exact Or.inr rfl) (fun _ _ => wipe_set (by decide)))) (fun _ _ _ _ _ => dts_nil) (fun _ _ _ _ _ => (dtup (dacons (dop o_add (dvar (i := 10)) (dvar (i := 12))) (dacons dstr danil)))))))))
 (ds_cons (ds_if (dt_bool (dw_or (dt_cmp (o_ne (room65 hr)) (dlc (own := [("many", 13)]) rfl sc_law.nd (di_val (dtup (dacons dint (dacons dint (dacons dint (dacons dint danil)))))) (blkOk_by (N := N_law) (sc := defScope s_law) (by decide +kernel)) (fun _ _ _ _ _ => (dr_name (i := 13) sc_law.nd rfl (by first | exact Or.inl rfl | exact Or.inr rfl) (fun _ _ => wipe_set (by decide)))) (fun _ _ _ _ _ => dts_nil) (fun _ _ _ _ _ => (dcall ((g_is_value T).mono (by omega)) hr hG rfl T.d_is_value.mg (keep_ok T.d_is_value) T.d_is_value.bd (dacons (dtup (dacons dstr (dacons (dcallTy c_tuple rfl T.m_tuple bl_tuple (dacons (dslice x_slice (dvar (i := 9)) dpo_none (dpo_some (dvar (i := 13)))) danil)) danil))) danil)))) (dlst (dacons dbl (dacons dbl (dacons dbl (dacons dbl danil)))))) (dw_or1 (dt_cmp o_isNot (dcall ((g_is_value T).mono (by omega)) hr hG rfl T.d_is_value.mg (keep_ok T.d_is_value) T.d_is_value.bd (dacons (dtup (dacons dstr (dacons dstr (dacons (dtup (dacons dstr (dacons (dslice x_slice (dvar (i := 9)) dpo_none (dpo_some dint)) danil))) danil)))) danil)) dbl)))) (ds_one (ds_ret dbl)) ds_nil)
 (ds_one (ds_ret (dv_and (dcmp (o_eq (room65 hr)) (dvar (i := 7)) (dlst (dacons dbl (dacons dbl (dacons dbl (dacons dint danil)))))) (dv_and (dcmp o_is (dcall ((g_is_value T).mono (by omega)) hr hG rfl T.d_is_value.mg (keep_ok T.d_is_value) T.d_is_value.bd (dacons (dvar (i := 8)) danil)) dbl) (dv_and (dcmp (o_eq (room65 hr)) (dcall ((g_height T).mono (by omega)) hr hG rfl T.d_height.mg (keep_ok T.d_height) T.d_height.bd (dacons (dvar (i := 8)) danil)) dint) (dv_and (dcmp (o_eq (room65 hr)) (dcall ((g_height T).mono (by omega)) hr hG rfl T.d_height.mg (keep_ok T.d_height) T.d_height.bd (dacons (dtup (dacons dstr (dacons (dtup danil) danil))) danil)) dint) (dv_one (dcmp o_is (dcall ((g_is_value T).mono (by omega)) hr hG rfl T.d_is_value.mg (keep_ok T.d_is_value) T.d_is_value.bd (dacons (dtup (dacons dstr (dacons dstr (dacons (dtup (dacons dstr (dacons (dtup danil) danil))) danil)))) danil)) dbl))))))))))))))))))
end
end DL.k01
namespace DL.k01
open PySem PySem.Spec PyProof.Rows L2 DL

theorem mix_small {m a : Int} (h1 : 0 ≤ m) (h2 : m < 2147483648) (h3 : 0 ≤ a) (h4 : a < 1048576) : 0 ≤ m * (2 * a + 163) + 47741 * a * a + 97 ∧ m * (2 * a + 163) + 47741 * a * a + 97 < 18446744073709551616 := by
  have p1 : m * (2 * a + 163) ≤ 2147483648 * 2097315 := Int.mul_le_mul (by omega) (by omega) (by omega) (by omega)
  have p2 : 0 ≤ m * (2 * a + 163) := Int.mul_nonneg h1 (by omega)
  have p3 : 47741 * a * a ≤ 47741 * 1048576 * 1048576 := Int.mul_le_mul (by omega) (by omega) (by omega) (by omega)
  have p4 : 0 ≤ 47741 * a * a := Int.mul_nonneg (by omega) h3
  omega
theorem draw : Draws F__law_draw := by
  rintro S n c many ⟨cs, at_, rest, h, h1, h2, h3, h4⟩ hc hm hM
  have e0 : itemM (.r n) (.d (.int 0)) S = .ok (.d (.list (cs.map .int))) S := item_r h rfl
  have e1 : itemM (.r n) (.d (.int 1)) S = .ok (.d (.int at_)) S := item_r h rfl
  have e2 : itemM (.r n) (.d (.int 2)) S = .ok (.d (.int rest)) S := item_r h rfl
  have s1 : ∀ v : W, setItemM (.r n) (.d (.int 1)) v S = .ok () (S.set n (.lst [.d (.list (cs.map .int)), v, .d (.int rest)])) := fun v => by
    unfold setItemM; simp only [h, penO]; rfl
  have s2 : ∀ v : W, setItemM (.r n) (.d (.int 2)) v S = .ok () (S.set n (.lst [.d (.list (cs.map .int)), .d (.int at_), v])) := fun v => by
    unfold setItemM; simp only [h, penO]; rfl
  have c1 : 0 < many ∧ many < 1073741824 := ⟨by omega, hM⟩
  have c0 : 0 < many := c1.1
  refine if hr : 0 < rest then ?_ else ?_
  · refine ⟨rest % many, penO cs at_ (rest / many), ?_, Int.emod_nonneg _ (by omega), Int.emod_lt_of_pos _ (by omega), ⟨cs, at_, rest / many, set_at h, h1, by omega, Int.ediv_nonneg (by omega) (by omega), h4⟩⟩
    unfold F__law_draw b__law_draw st__law_draw_1 st__law_draw_2 st__law_draw_3 st__law_draw_4 st__law_draw_5 st__law_draw_6 st__law_draw_7 st__law_draw_8 st__law_draw_9
    refine run_rt rfl ?_
    simp [seqM, ifM, valT, binM, consM, nilM, calM, asgM, setG, retM, bd, pr, varM, cM, e2, gtM, okb, boolOf, hr, intM, subSM, fdvM, modM, c1, s2, penO]
  · -- the state behind pen[1] = at + 1
    have hS1 : (S.set n (penO cs (at_ + 1) rest))[n]? = some (penO cs (at_ + 1) rest) := set_at h
    generalize hS : S.set n (penO cs (at_ + 1) rest) = S1 at hS1
    have f0 : itemM (.r n) (.d (.int 0)) S1 = .ok (.d (.list (cs.map .int))) S1 := item_r hS1 rfl
    have t2 : ∀ v : W, setItemM (.r n) (.d (.int 2)) v S1 = .ok () (S1.set n (.lst [.d (.list (cs.map .int)), .d (.int (at_ + 1)), v])) := fun v => by
      unfold setItemM; simp only [hS1, penO]; rfl
    have back : ∀ o, S1.set n o = S.set n o := fun o => by rw [← hS, set_set]
    -- the cell
    have cell : ∃ C : Int, (ifM (valT (binM (binM (varM 0) (cM (.int 0)) itemM) (fun δ => bd (nilM δ) lstM) neM)) (asgM (binM (binM (varM 0) (cM (.int 0)) itemM) (binM (varM 3) (calM (consM (binM (varM 0) (cM (.int 0)) itemM) nilM) lenDM) modM) itemM) (setG 4)) skipM)
        [some (.r n), some (.d (.int many)), none, some (.d (.int at_)), some (.d (.int (72101 * at_ + 31607))), none] S1 = .ok (.nx [some (.r n), some (.d (.int many)), none, some (.d (.int at_)), some (.d (.int C)), none]) S1 := by
      cases cs with
      | nil => exact ⟨72101 * at_ + 31607, by simp [ifM, valT, binM, consM, nilM, calM, asgM, setG, bd, pr, varM, cM, okb, boolOf, f0, neM, isNil, lstM, allD, seqOf]⟩
      | cons x xs =>
        have hl : (0 : Int) < ((x :: xs).length : Int) := by simp
        have hi : ∃ C : Int, atI ((x :: xs).map PyData.int) (at_ % ((x :: xs).length : Int)) = some (.int C) := by
          obtain ⟨d, hd, e⟩ := atI_ok (xs := (x :: xs).map PyData.int) (Int.emod_nonneg at_ (by omega : ((x :: xs).length : Int) ≠ 0)) (by rw [List.length_map]; exact Int.emod_lt_of_pos _ hl)
          obtain ⟨C, _, rfl⟩ := List.mem_map.mp hd
          exact ⟨C, e⟩
        obtain ⟨C, hC⟩ := hi
        refine ⟨C, ?_⟩
        have := item_l (S := S1) hC
        simp only [List.length_cons, Int.natCast_add, Int.cast_ofNat_Int] at this
        simp [ifM, valT, binM, consM, nilM, calM, asgM, setG, bd, pr, varM, cM, okb, boolOf, f0, neM, isNil, lstM, allD, seqOf, lenDM, lenM, modM]
        simp at this
        simp [this]
    obtain ⟨C, hC⟩ := cell
    have key : ∃ k o, F__law_draw [.r n, .d (.int many)] S = .ok (.d (.int k)) (S.set n o) ∧ 0 ≤ k ∧ k < many ∧ (∃ r', o = penO cs (at_ + 1) r' ∧ 0 ≤ r') := by
      by_cases hg : at_ < (cs.length : Int) ∧ (10 : Int) ^ 18 ≤ (if C < 0 then -C else C)
      · obtain ⟨hq, hq2⟩ := hg
        generalize hB : (if C < 0 then -C else C) = B at hq2
        have hr2 : 0 ≤ 2 * (B - 10 ^ 18) + (if C < 0 then 1 else 0) := by split <;> omega
        generalize hR : 2 * (B - 10 ^ 18) + (if C < 0 then 1 else 0) = R at hr2
        refine ⟨R % many, penO cs (at_ + 1) (R / many), ?_, Int.emod_nonneg _ (by omega), Int.emod_lt_of_pos _ (by omega), _, rfl, Int.ediv_nonneg hr2 (by omega)⟩
        unfold F__law_draw b__law_draw st__law_draw_1 st__law_draw_2 st__law_draw_3 st__law_draw_4 st__law_draw_5 st__law_draw_6 st__law_draw_7 st__law_draw_8 st__law_draw_9
        refine run_rt rfl ?_
        refine Eq.trans (seq_nx (δ' := [some (.r n), some (.d (.int many)), none, none, none, none]) (S' := S) (by
          simp [seqM, ifM, valT, andT, binM, consM, nilM, calM, asgM, setG, retM, bd, pr, varM, cM, skipM, gtM, ltM, geM, okb, boolOf, hr, intM, absM, subSM, fdvM, modM, mulM, addM, subM, powM, c1, c0, e0, e1, e2, s1, f0, t2, lenDM, lenM, seqOf, penO])) ?_
        refine Eq.trans (seq_nx (δ' := [some (.r n), some (.d (.int many)), none, some (.d (.int at_)), none, none]) (S' := S) (by
          simp [seqM, ifM, valT, andT, binM, consM, nilM, calM, asgM, setG, retM, bd, pr, varM, cM, skipM, gtM, ltM, geM, okb, boolOf, hr, intM, absM, subSM, fdvM, modM, mulM, addM, subM, powM, c1, c0, e0, e1, e2, s1, f0, t2, lenDM, lenM, seqOf, penO])) ?_
        refine Eq.trans (seq_nx (δ' := [some (.r n), some (.d (.int many)), none, some (.d (.int at_)), none, none]) (S' := S1) (by
          rw [← hS]; simp [seqM, ifM, valT, andT, binM, consM, nilM, calM, asgM, setG, retM, bd, pr, varM, cM, skipM, gtM, ltM, geM, okb, boolOf, hr, intM, absM, subSM, fdvM, modM, mulM, addM, subM, powM, c1, c0, e0, e1, e2, s1, f0, t2, lenDM, lenM, seqOf, penO])) ?_
        refine Eq.trans (seq_nx (δ' := [some (.r n), some (.d (.int many)), none, some (.d (.int at_)), some (.d (.int (72101 * at_ + 31607))), none]) (S' := S1) (by
          simp [seqM, ifM, valT, andT, binM, consM, nilM, calM, asgM, setG, retM, bd, pr, varM, cM, skipM, gtM, ltM, geM, okb, boolOf, hr, intM, absM, subSM, fdvM, modM, mulM, addM, subM, powM, c1, c0, e0, e1, e2, s1, f0, t2, lenDM, lenM, seqOf, penO])) ?_
        refine Eq.trans (seq_nx hC) ?_
        refine seq_rt ?_
        simp only [show (10 : Int) ^ 18 = 1000000000000000000 from rfl] at hq2 hR
        rw [← back]
        simp [seqM, ifM, valT, andT, binM, consM, nilM, calM, asgM, setG, retM, bd, pr, varM, cM, skipM, gtM, ltM, geM, okb, boolOf, hr, intM, absM, subSM, fdvM, modM, mulM, addM, subM, powM, c1, c0, e0, e1, e2, s1, f0, t2, lenDM, lenM, seqOf, penO, hq, hB, hq2, hR]
      · have b1 := Int.emod_nonneg C (by omega : (2147483563 : Int) ≠ 0)
        have b2 := Int.emod_lt_of_pos C (by omega : (0 : Int) < 2147483563)
        have q1 : (C % 2147483563 + 65071 * at_ + 4513).natAbs < 18446744073709551616 := by omega
        have b3 := Int.emod_nonneg ((C % 2147483563 + 65071 * at_ + 4513) ^ 3) (by omega : (2147483629 : Int) ≠ 0)
        have b4 := Int.emod_lt_of_pos ((C % 2147483563 + 65071 * at_ + 4513) ^ 3) (by omega : (0 : Int) < 2147483629)
        generalize hm1 : (C % 2147483563 + 65071 * at_ + 4513) ^ 3 % 2147483629 = m1 at b3 b4
        have b5 := mix_small b3 (by omega : m1 < 2147483648) h1 (by omega)
        have q2 : (m1 * (2 * at_ + 163) + 47741 * at_ * at_ + 97).natAbs < 18446744073709551616 := by omega
        generalize hm2 : m1 * (2 * at_ + 163) + 47741 * at_ * at_ + 97 = m2 at b5 q2
        refine ⟨m2 ^ 3 % 2147483549 / 64 % many, penO cs (at_ + 1) rest, ?_, Int.emod_nonneg _ (by omega), Int.emod_lt_of_pos _ (by omega), _, rfl, h3⟩
        unfold F__law_draw b__law_draw st__law_draw_1 st__law_draw_2 st__law_draw_3 st__law_draw_4 st__law_draw_5 st__law_draw_6 st__law_draw_7 st__law_draw_8 st__law_draw_9
        refine run_rt rfl ?_
        refine Eq.trans (seq_nx (δ' := [some (.r n), some (.d (.int many)), none, none, none, none]) (S' := S) (by
          simp [seqM, ifM, valT, andT, binM, consM, nilM, calM, asgM, setG, retM, bd, pr, varM, cM, skipM, gtM, ltM, geM, okb, boolOf, hr, intM, absM, subSM, fdvM, modM, mulM, addM, subM, powM, c1, c0, e0, e1, e2, s1, f0, t2, lenDM, lenM, seqOf, penO])) ?_
        refine Eq.trans (seq_nx (δ' := [some (.r n), some (.d (.int many)), none, some (.d (.int at_)), none, none]) (S' := S) (by
          simp [seqM, ifM, valT, andT, binM, consM, nilM, calM, asgM, setG, retM, bd, pr, varM, cM, skipM, gtM, ltM, geM, okb, boolOf, hr, intM, absM, subSM, fdvM, modM, mulM, addM, subM, powM, c1, c0, e0, e1, e2, s1, f0, t2, lenDM, lenM, seqOf, penO])) ?_
        refine Eq.trans (seq_nx (δ' := [some (.r n), some (.d (.int many)), none, some (.d (.int at_)), none, none]) (S' := S1) (by
          rw [← hS]; simp [seqM, ifM, valT, andT, binM, consM, nilM, calM, asgM, setG, retM, bd, pr, varM, cM, skipM, gtM, ltM, geM, okb, boolOf, hr, intM, absM, subSM, fdvM, modM, mulM, addM, subM, powM, c1, c0, e0, e1, e2, s1, f0, t2, lenDM, lenM, seqOf, penO])) ?_
        refine Eq.trans (seq_nx (δ' := [some (.r n), some (.d (.int many)), none, some (.d (.int at_)), some (.d (.int (72101 * at_ + 31607))), none]) (S' := S1) (by
          simp [seqM, ifM, valT, andT, binM, consM, nilM, calM, asgM, setG, retM, bd, pr, varM, cM, skipM, gtM, ltM, geM, okb, boolOf, hr, intM, absM, subSM, fdvM, modM, mulM, addM, subM, powM, c1, c0, e0, e1, e2, s1, f0, t2, lenDM, lenM, seqOf, penO])) ?_
        refine Eq.trans (seq_nx hC) ?_
        refine Eq.trans (seq_nx (δ' := [some (.r n), some (.d (.int many)), none, some (.d (.int at_)), some (.d (.int C)), none]) (S' := S1) (by
          by_cases hq : at_ < (cs.length : Int)
          · have hq2 : ¬ (10 : Int) ^ 18 ≤ (if C < 0 then -C else C) := fun z => hg ⟨hq, z⟩
            simp only [show (10 : Int) ^ 18 = 1000000000000000000 from rfl] at hq2
            simp [seqM, ifM, valT, andT, binM, consM, nilM, calM, asgM, setG, retM, bd, pr, varM, cM, skipM, gtM, ltM, geM, okb, boolOf, hr, intM, absM, subSM, fdvM, modM, mulM, addM, subM, powM, c1, c0, e0, e1, e2, s1, f0, t2, lenDM, lenM, seqOf, penO, hq, hq2]
          · simp [seqM, ifM, valT, andT, binM, consM, nilM, calM, asgM, setG, retM, bd, pr, varM, cM, skipM, gtM, ltM, geM, okb, boolOf, hr, intM, absM, subSM, fdvM, modM, mulM, addM, subM, powM, c1, c0, e0, e1, e2, s1, f0, t2, lenDM, lenM, seqOf, penO, hq])) ?_
        refine Eq.trans (seq_nx (δ' := [some (.r n), some (.d (.int many)), none, some (.d (.int at_)), some (.d (.int C)), some (.d (.int m1))]) (S' := S1) (by
          simp [seqM, ifM, valT, andT, binM, consM, nilM, calM, asgM, setG, retM, bd, pr, varM, cM, skipM, gtM, ltM, geM, okb, boolOf, hr, intM, absM, subSM, fdvM, modM, mulM, addM, subM, powM, c1, c0, e0, e1, e2, s1, f0, t2, lenDM, lenM, seqOf, penO, q1, hm1])) ?_
        refine Eq.trans (seq_nx (δ' := [some (.r n), some (.d (.int many)), none, some (.d (.int at_)), some (.d (.int C)), some (.d (.int (m2 ^ 3 % 2147483549)))]) (S' := S1) (by
          have w1 : (-18446744073709551616 < m1 ∧ m1 < 18446744073709551616) := by constructor <;> omega
          have w2 : (-18446744073709551616 < at_ ∧ at_ < 18446744073709551616) := by constructor <;> omega
          simp [seqM, ifM, valT, andT, binM, consM, nilM, calM, asgM, setG, retM, bd, pr, varM, cM, skipM, gtM, ltM, geM, okb, boolOf, hr, intM, absM, subSM, fdvM, modM, mulM, addM, subM, powM, c1, c0, e0, e1, e2, s1, f0, t2, lenDM, lenM, seqOf, penO, w1, w2, hm2, q2])) ?_
        rw [hS]
        simp [seqM, ifM, valT, andT, binM, consM, nilM, calM, asgM, setG, retM, bd, pr, varM, cM, skipM, gtM, ltM, geM, okb, boolOf, hr, intM, absM, subSM, fdvM, modM, mulM, addM, subM, powM, c1, c0, e0, e1, e2, s1, f0, t2, lenDM, lenM, seqOf, penO]
    obtain ⟨k, o, e, k1, k2, r', rfl, k3⟩ := key
    exact ⟨k, _, e, k1, k2, ⟨cs, at_ + 1, r', set_at h, by omega, by omega, k3, h4⟩⟩
end DL.k01
namespace DL.k01
open PySem PySem.Spec PyProof.Rows L2 DL

section
variable {f g : Env → M W} {ft gt : Env → M Bool} {δ : Env} {S S1 : Sto}
theorem andV_t (h : f δ S = .ok (okb true) S1) : andV f g δ S = g δ S1 := by unfold andV; rw [bd_ok h]; rfl
theorem andV_f (h : f δ S = .ok (okb false) S1) : andV f g δ S = .ok (okb false) S1 := by unfold andV; rw [bd_ok h]; rfl
theorem orV_t (h : f δ S = .ok (okb true) S1) : orV f g δ S = .ok (okb true) S1 := by unfold orV; rw [bd_ok h]; rfl
theorem orV_f (h : f δ S = .ok (okb false) S1) : orV f g δ S = g δ S1 := by unfold orV; rw [bd_ok h]; rfl
theorem andT_t (h : ft δ S = .ok true S1) : andT ft gt δ S = gt δ S1 := by unfold andT; rw [bd_ok h]; rfl
theorem andT_f (h : ft δ S = .ok false S1) : andT ft gt δ S = .ok false S1 := by unfold andT; rw [bd_ok h]; rfl
theorem orT_t (h : ft δ S = .ok true S1) : orT ft gt δ S = .ok true S1 := by unfold orT; rw [bd_ok h]; rfl
theorem orT_f (h : ft δ S = .ok false S1) : orT ft gt δ S = gt δ S1 := by unfold orT; rw [bd_ok h]; rfl
theorem ifV_t (h : ft δ S = .ok true S1) : ifV ft f g δ S = f δ S1 := by unfold ifV; rw [bd_ok h]; rfl
theorem ifV_f (h : ft δ S = .ok false S1) : ifV ft f g δ S = g δ S1 := by unfold ifV; rw [bd_ok h]; rfl
end
theorem comp_step {own : List Nat} {g : W → Env → M Env} {e : Env → M W} {w : W} {ws ys : List W} {y : W} {δ δ1 : Env} {S S2 S3 : Sto} (h1 : g w (wipeE δ own) S = .ok δ1 S) (h3 : e δ1 S = .ok y S2) (h4 : compL own g yesT e ws δ S2 = .ok ys S3) : compL own g yesT e (w :: ws) δ S = .ok (y :: ys) S3 := by
  conv => lhs; unfold compL
  rw [bd_ok (noEx_ok h1), bd_ok (noEx_ok (show yesT δ1 S = .ok true S from rfl)), if_pos rfl, bd_ok (noEx_ok h3), bd_ok h4]
  rfl
abbrev s (z : Str) : D := .str z
abbrev t (ds : List D) : D := .tuple ds
/-! ### values -/
inductive Vl where
  | atom
  | tag (n : Str) (v : Vl)
  | r0
  | r1 (a : Str) (v : Vl)
  | r2 (a b : Str) (v w : Vl)
def Vl.toD : Vl → D
  | .atom => s "atom"
  | .tag n v => t [s "tag", s n, v.toD]
  | .r0 => t [s "record", t []]
  | .r1 a v => t [s "record", t [t [s a, v.toD]]]
  | .r2 a b v w => t [s "record", t [t [s a, v.toD], t [s b, w.toD]]]
def tagNs : List Str := ["a", "b", "full", "zzzzzzzz"]
def fldNs : List Str := ["a", "aa", "b", "size", "zz"]
def fldPs : List (Str × Str) := [("a", "aa"), ("a", "b"), ("a", "size"), ("a", "zz"), ("aa", "b"), ("aa", "size"), ("aa", "zz"), ("b", "size"), ("b", "zz"), ("size", "zz")]
def Vl.ok : Vl → Prop
  | .atom => True
  | .tag n v => n ∈ tagNs ∧ v.ok
  | .r0 => True
  | .r1 a v => a ∈ fldNs ∧ v.ok
  | .r2 a b v w => (a, b) ∈ fldPs ∧ v.ok ∧ w.ok
def Vl.ht : Vl → Nat
  | .atom => 1
  | .tag _ v => 1 + v.ht
  | .r0 => 1
  | .r1 _ v => 1 + v.ht
  | .r2 _ _ v w => 1 + max v.ht w.ht
theorem Vl.ht_pos (v : Vl) : 1 ≤ v.ht := by cases v <;> simp [Vl.ht]
/-- a list or a tuple -/
def sq : Bool → List D → D
  | true, ds => .list ds
  | false, ds => .tuple ds
/-- the value with lists in the place of some tuples -/
inductive Lk : Vl → D → Prop
  | atom : Lk .atom (s "atom")
  | tag {n : Str} {v : Vl} {l : D} (k : Bool) : Lk v l → Lk (.tag n v) (sq k [s "tag", s n, l])
  | r0 (k k1 : Bool) : Lk .r0 (sq k [s "record", sq k1 []])
  | r1 {a : Str} {v : Vl} {l : D} (k k1 k2 : Bool) : Lk v l → Lk (.r1 a v) (sq k [s "record", sq k1 [sq k2 [s a, l]]])
  | r2 {a b : Str} {v w : Vl} {l m : D} (k k1 k2 k3 : Bool) : Lk v l → Lk w m → Lk (.r2 a b v w) (sq k [s "record", sq k1 [sq k2 [s a, l], sq k3 [s b, m]]])
theorem Lk.same : ∀ v : Vl, Lk v v.toD
  | .atom => .atom
  | .tag n v => .tag false (Lk.same v)
  | .r0 => .r0 false false
  | .r1 a v => .r1 false false false (Lk.same v)
  | .r2 a b v w => .r2 false false false false (Lk.same v) (Lk.same w)
theorem name_tag {n : Str} (h : n ∈ tagNs) (S : Sto) : F_is_name [.d (s n)] S = .ok (okb true) S := by
  simp only [tagNs, List.mem_cons, List.not_mem_nil, or_false] at h
  rcases h with rfl | rfl | rfl | rfl <;> kernel_rfl
theorem fields_1 {a : Str} (h : a ∈ fldNs) (k1 k2 : Bool) (l : D) (S : Sto) : F_is_fields [.d (sq k1 [sq k2 [s a, l]])] S = .ok (okb true) S := by
  simp only [fldNs, List.mem_cons, List.not_mem_nil, or_false] at h
  rcases h with rfl | rfl | rfl | rfl | rfl <;> cases k1 <;> cases k2 <;> kernel_rfl
theorem fields_2 {a b : Str} (h : (a, b) ∈ fldPs) (k1 k2 k3 : Bool) (l m : D) (S : Sto) : F_is_fields [.d (sq k1 [sq k2 [s a, l], sq k3 [s b, m]])] S = .ok (okb true) S := by
  simp only [fldPs, List.mem_cons, List.not_mem_nil, or_false, Prod.mk.injEq] at h
  rcases h with ⟨rfl, rfl⟩ | ⟨rfl, rfl⟩ | ⟨rfl, rfl⟩ | ⟨rfl, rfl⟩ | ⟨rfl, rfl⟩ | ⟨rfl, rfl⟩ | ⟨rfl, rfl⟩ | ⟨rfl, rfl⟩ | ⟨rfl, rfl⟩ | ⟨rfl, rfl⟩ <;> cases k1 <;> cases k2 <;> cases k3 <;> kernel_rfl
/-! ### is_so_high -/
theorem lt_ok (a b : Int) (S : Sto) : ltM (.d (.int a)) (.d (.int b)) S = .ok (okb (decide (a < b))) S := rfl
theorem gt_ok (a b : Int) (S : Sto) : gtM (.d (.int a)) (.d (.int b)) S = .ok (okb (decide (a > b))) S := rfl
theorem not_ok {f : Env → M Bool} {δ : Env} {S S1 : Sto} {b : Bool} (h : f δ S = .ok b S1) : notT f δ S = .ok (!b) S1 := by unfold notT; rw [bd_ok h]; rfl
theorem item_0 (k : Bool) {x : D} {ds : List D} {S : Sto} : itemM (.d (sq k (x :: ds))) (.d (.int 0)) S = .ok (.d x) S := by
  cases k
  · exact item_t atI_0
  · exact item_l atI_0
abbrev frS (x : D) (i : Int) : Env := [some (.d x), some (.d (.int i)), some (.d (.int 60)), none, none]
theorem len_0 (k : Bool) {x : D} {ds : List D} {i : Int} : binM (calM (consM (varM 0) nilM) lenDM) (cM (.int 0)) eqM (frS (sq k (x :: ds)) i) [] = .ok (okb false) [] := by
  refine bin_ok (x := .d (.int ((x :: ds).length : Nat))) (y := .d (.int 0)) (S1 := []) (S2 := []) (cal_ok (ws := [.d (sq k (x :: ds))]) (S' := []) rfl ?_) rfl ?_
  · cases k <;> simp [sq, lenDM, lenM, seqOf]
  · rw [eq_d (by intro q; cases q) (by simp [PyData.depth]) (by simp only [nd]) (by simp only [nd])]
    simp only [PyData.eqv, List.length_cons]
    rw [show (((ds.length + 1 : Nat) : Int) == 0) = false from by simp; omega]
section
variable {R : List W → M W} {i : Int} {l m : D} {n a b : Str} {b1 b2 : Bool}
/-- behind the first two statements -/
theorem soh_head {ds : List D} {z : Str} (k : Bool) (hi : 1 ≤ i) {rest : Env → M Fl} {r : Res Fl} (h : rest (frS (sq k (s z :: ds)) i) [] = r) : seqM (st_is_so_high_1 R) (seqM (st_is_so_high_2 R) rest) (frS (sq k (s z :: ds)) i) [] = r := by
  unfold st_is_so_high_1 st_is_so_high_2
  refine Eq.trans (seq_nx (δ' := frS (sq k (s z :: ds)) i) (S' := []) (Eq.trans (if_f (S' := []) ?_) rfl)) ?_
  · cases k <;> rfl
  refine Eq.trans (seq_nx (δ' := frS (sq k (s z :: ds)) i) (S' := []) (Eq.trans (if_f (S' := []) ?_) rfl)) h
  refine Eq.trans (orT_f (S1 := []) ?_) ?_
  · cases k <;> kernel_rfl
  refine Eq.trans (orT_f (S1 := []) (val_ok (len_0 k))) ?_
  refine Eq.trans (orT_f (S1 := []) (val_ok (bin_ok (S1 := []) (S2 := []) (x := .d (.int i)) (y := .d (.int 1)) rfl rfl ?_))) ?_
  · rw [lt_ok, decide_eq_false (by omega)]
  exact not_ok (b := true) (val_ok (Eq.trans (bd_ok (bin_ok (x := .d (sq k (s z :: ds))) (y := .d (.int 0)) (S1 := []) (S2 := []) rfl rfl (item_0 k))) rfl))
theorem ret_seq {f g : Env → M Fl} {δ : Env} {w : W} (h : f δ [] = .ok (.rt w) []) : seqM f g δ [] = .ok (.rt w) [] := seq_rt h
/-- a tag -/
theorem soh_tag (k : Bool) (hi : 1 ≤ i) (hn : ∀ S, F_is_name [.d (s n)] S = .ok (okb true) S) (hR : ∀ S, R [.d l, .d (.int (i - 1)), .d (.int 60)] S = .ok (okb b1) S) : b_is_so_high R (frS (sq k [s "tag", s n, l]) i) [] = .ok (.rt (okb b1)) [] := by
  unfold b_is_so_high
  refine soh_head k hi ?_
  unfold st_is_so_high_3 st_is_so_high_4
  refine Eq.trans (seq_nx (δ' := frS (sq k [s "tag", s n, l]) i) (S' := []) (Eq.trans (if_f (S' := []) (andT_f ?_)) rfl)) ?_
  · cases k <;> kernel_rfl
  refine ret_ok (Eq.trans (andV_t (S1 := []) ?_) (Eq.trans (andV_t (S1 := []) ?_) (Eq.trans (andV_t (S1 := []) (cal_ok (ws := [.d (s n)]) (S' := []) ?_ (noEx_ok (hn [])))) (cal_ok (ws := [.d l, .d (.int (i - 1)), .d (.int 60)]) (S' := []) ?_ (noEx_ok (hR []))))))
  · cases k <;> kernel_rfl
  · cases k <;> kernel_rfl
  · cases k <;> rfl
  · cases k <;> rfl
theorem soh_r0 (k k1 : Bool) (hi : 1 ≤ i) : b_is_so_high R (frS (sq k [s "record", sq k1 []]) i) [] = .ok (.rt (okb true)) [] := by
  unfold b_is_so_high
  refine soh_head k hi ?_
  unfold st_is_so_high_3
  refine ret_seq (Eq.trans (if_t (S' := []) ?_) (ret_ok (orV_t ?_)))
  · cases k <;> cases k1 <;> kernel_rfl
  · cases k <;> cases k1 <;> kernel_rfl
theorem soh_r1 (k k1 k2 : Bool) (hi : 1 ≤ i) (hf : ∀ S, F_is_fields [.d (sq k1 [sq k2 [s a, l]])] S = .ok (okb true) S) (hR : 1 < i → ∀ S, R [.d l, .d (.int (i - 1)), .d (.int 60)] S = .ok (okb b1) S) :
    b_is_so_high R (frS (sq k [s "record", sq k1 [sq k2 [s a, l]]]) i) [] = .ok (.rt (okb (decide (1 < i) && b1))) [] := by
  unfold b_is_so_high
  refine soh_head k hi ?_
  unfold st_is_so_high_3
  refine ret_seq (Eq.trans (if_t (S' := []) ?_) (ret_ok (Eq.trans (orV_f (S1 := []) ?_) ?_)))
  · refine Eq.trans (andT_t (S1 := []) ?_) (Eq.trans (andT_t (S1 := []) ?_) (Eq.trans (andT_t (S1 := []) (val_ok (cal_ok (ws := [.d (sq k1 [sq k2 [s a, l]])]) (S' := []) ?_ (noEx_ok (hf []))))) ?_))
    · cases k <;> kernel_rfl
    · cases k <;> kernel_rfl
    · cases k <;> rfl
    · cases k <;> cases k1 <;> kernel_rfl
  · cases k <;> cases k1 <;> kernel_rfl
  have hg : binM (varM 1) (cM (.int 1)) gtM (frS (sq k [s "record", sq k1 [sq k2 [s a, l]]]) i) [] = .ok (okb (decide (i > 1))) [] := bin_ok (S1 := []) (S2 := []) (x := .d (.int i)) (y := .d (.int 1)) rfl rfl (gt_ok _ _ _)
  by_cases h1 : 1 < i
  · rw [decide_eq_true (show i > 1 from h1)] at hg
    rw [decide_eq_true h1, Bool.true_and]
    refine Eq.trans (andV_t (S1 := []) hg) ?_
    refine cal_ok (ws := [.d (.list [.bool b1])]) (S' := []) (cons_ok (S1 := []) ?_ rfl) (by cases b1 <;> kernel_rfl)
    unfold lcM
    refine Eq.trans (bd_ok (a := [.d (sq k2 [s a, l])]) (S' := []) (by cases k <;> cases k1 <;> rfl)) ?_
    refine Eq.trans (bd_ok (a := [okb b1]) (S' := []) (comp_step (δ1 := [some (.d (sq k [s "record", sq k1 [sq k2 [s a, l]]])), some (.d (.int i)), some (.d (.int 60)), some (.d (s a)), some (.d l)]) (S2 := []) (by cases k2 <;> rfl) (cal_ok (ws := [.d l, .d (.int (i - 1)), .d (.int 60)]) (S' := []) rfl (noEx_ok (hR h1 []))) rfl)) rfl
  · rw [decide_eq_false (show ¬ i > 1 from h1)] at hg
    rw [decide_eq_false h1, Bool.false_and]
    exact andV_f (S1 := []) hg
theorem soh_r2 (k k1 k2 k3 : Bool) (hi : 1 ≤ i) (hf : ∀ S, F_is_fields [.d (sq k1 [sq k2 [s a, l], sq k3 [s b, m]])] S = .ok (okb true) S) (hR : 1 < i → ∀ S, R [.d l, .d (.int (i - 1)), .d (.int 60)] S = .ok (okb b1) S) (hR2 : 1 < i → ∀ S, R [.d m, .d (.int (i - 1)), .d (.int 60)] S = .ok (okb b2) S) :
    b_is_so_high R (frS (sq k [s "record", sq k1 [sq k2 [s a, l], sq k3 [s b, m]]]) i) [] = .ok (.rt (okb (decide (1 < i) && (b1 && b2)))) [] := by
  unfold b_is_so_high
  refine soh_head k hi ?_
  unfold st_is_so_high_3
  refine ret_seq (Eq.trans (if_t (S' := []) ?_) (ret_ok (Eq.trans (orV_f (S1 := []) ?_) ?_)))
  · refine Eq.trans (andT_t (S1 := []) ?_) (Eq.trans (andT_t (S1 := []) ?_) (Eq.trans (andT_t (S1 := []) (val_ok (cal_ok (ws := [.d (sq k1 [sq k2 [s a, l], sq k3 [s b, m]])]) (S' := []) ?_ (noEx_ok (hf []))))) ?_))
    · cases k <;> kernel_rfl
    · cases k <;> kernel_rfl
    · cases k <;> rfl
    · cases k <;> cases k1 <;> kernel_rfl
  · cases k <;> cases k1 <;> kernel_rfl
  have hg : binM (varM 1) (cM (.int 1)) gtM (frS (sq k [s "record", sq k1 [sq k2 [s a, l], sq k3 [s b, m]]]) i) [] = .ok (okb (decide (i > 1))) [] := bin_ok (S1 := []) (S2 := []) (x := .d (.int i)) (y := .d (.int 1)) rfl rfl (gt_ok _ _ _)
  by_cases h1 : 1 < i
  · rw [decide_eq_true (show i > 1 from h1)] at hg
    rw [decide_eq_true h1, Bool.true_and]
    refine Eq.trans (andV_t (S1 := []) hg) ?_
    refine cal_ok (ws := [.d (.list [.bool b1, .bool b2])]) (S' := []) (cons_ok (S1 := []) ?_ rfl) (by cases b1 <;> cases b2 <;> kernel_rfl)
    unfold lcM
    refine Eq.trans (bd_ok (a := [.d (sq k2 [s a, l]), .d (sq k3 [s b, m])]) (S' := []) (by cases k <;> cases k1 <;> rfl)) ?_
    refine Eq.trans (bd_ok (a := [okb b1, okb b2]) (S' := []) ?_) rfl
    refine comp_step (δ1 := [some (.d (sq k [s "record", sq k1 [sq k2 [s a, l], sq k3 [s b, m]]])), some (.d (.int i)), some (.d (.int 60)), some (.d (s a)), some (.d l)]) (S2 := []) (by cases k2 <;> rfl) (cal_ok (ws := [.d l, .d (.int (i - 1)), .d (.int 60)]) (S' := []) rfl (noEx_ok (hR h1 []))) ?_
    exact comp_step (δ1 := [some (.d (sq k [s "record", sq k1 [sq k2 [s a, l], sq k3 [s b, m]]])), some (.d (.int i)), some (.d (.int 60)), some (.d (s b)), some (.d m)]) (S2 := []) (by cases k3 <;> rfl) (cal_ok (ws := [.d m, .d (.int (i - 1)), .d (.int 60)]) (S' := []) rfl (noEx_ok (hR2 h1 []))) rfl
  · rw [decide_eq_false (show ¬ i > 1 from h1)] at hg
    rw [decide_eq_false h1, Bool.false_and]
    exact andV_f (S1 := []) hg
end
theorem soh_low {R : List W → M W} {z : Str} {ds : List D} (k : Bool) : b_is_so_high R (frS (sq k (s z :: ds)) 0) [] = .ok (.rt (okb false)) [] := by
  unfold b_is_so_high st_is_so_high_1 st_is_so_high_2
  refine Eq.trans (seq_nx (δ' := frS (sq k (s z :: ds)) 0) (S' := []) (Eq.trans (if_f (S' := []) (by cases k <;> rfl)) rfl)) ?_
  refine ret_seq (Eq.trans (if_t (S' := []) ?_) rfl)
  refine Eq.trans (orT_f (S1 := []) (by cases k <;> kernel_rfl)) ?_
  refine Eq.trans (orT_f (S1 := []) (val_ok (len_0 k))) ?_
  exact orT_t rfl
/-- is_so_high of a value, or of one with lists in it -/
theorem soh : ∀ (n m : Nat), m < n → ∀ (v : Vl) (l : D), v.ok → Lk v l → ∀ S, F_is_so_high n [.d l, .d (.int (m : Nat)), .d (.int 60)] S = .ok (okb (decide (v.ht ≤ m))) S
  | 0, m, h, _, _, _, _ => fun S => by omega
  | n + 1, m, h, v, l, ho, hl => fun S => by
    have ih : ∀ (j : Nat) (v : Vl) (l : D), v.ok → Lk v l → (m : Int) - 1 = (j : Nat) → ∀ S, F_is_so_high n [.d l, .d (.int ((m : Int) - 1)), .d (.int 60)] S = .ok (okb (decide (v.ht ≤ j))) S := fun j v l ho hl e S => by
      rw [e]
      exact soh n j (by omega) v l ho hl S
    refine pure_ok (S0 := []) (ds := [l, .int m, .int 60]) rfl (run_rt rfl ?_)
    show b_is_so_high (F_is_so_high n) (frS l m) [] = _
    have hp := v.ht_pos
    cases hl with
    | atom =>
      have e : decide (Vl.atom.ht ≤ m) = decide ((m : Int) > 0) := decide_eq_decide.mpr (by simp only [Vl.ht]; omega)
      rw [e]
      unfold b_is_so_high st_is_so_high_1
      refine ret_seq (Eq.trans (if_t (S' := []) rfl) (ret_ok (Eq.trans (andV_t (S1 := []) (by kernel_rfl)) ?_)))
      exact bin_ok (S1 := []) (S2 := []) (x := .d (.int m)) (y := .d (.int 0)) rfl rfl (gt_ok _ _ _)
    | @tag nm v l k hl =>
      obtain ⟨h1, h2⟩ := ho
      match m, ih with
      | 0, _ =>
        have e : decide ((Vl.tag nm v).ht ≤ 0) = false := decide_eq_false (by omega)
        rw [e]
        exact soh_low k
      | j + 1, ih =>
        have e : decide ((Vl.tag nm v).ht ≤ j + 1) = decide (v.ht ≤ j) := decide_eq_decide.mpr (by simp only [Vl.ht]; omega)
        rw [e]
        exact soh_tag k (by omega) (name_tag h1) (ih j _ _ h2 hl (by omega))
    | r0 k k1 =>
      match m with
      | 0 =>
        have e : decide (Vl.r0.ht ≤ 0) = false := decide_eq_false (by omega)
        rw [e]
        exact soh_low k
      | j + 1 =>
        have e : decide (Vl.r0.ht ≤ j + 1) = true := decide_eq_true (by simp only [Vl.ht]; omega)
        rw [e]
        exact soh_r0 k k1 (by omega)
    | @r1 nm v l k k1 k2 hl =>
      obtain ⟨h1, h2⟩ := ho
      match m, ih with
      | 0, _ =>
        have e : decide ((Vl.r1 nm v).ht ≤ 0) = false := decide_eq_false (by omega)
        rw [e]
        exact soh_low k
      | j + 1, ih =>
        have hv := v.ht_pos
        have e : decide ((Vl.r1 nm v).ht ≤ j + 1) = (decide (1 < ((j + 1 : Nat) : Int)) && decide (v.ht ≤ j)) := by
          rw [← Bool.decide_and]
          exact decide_eq_decide.mpr (by simp only [Vl.ht]; omega)
        rw [e]
        exact soh_r1 (b1 := decide (v.ht ≤ j)) k k1 k2 (by omega) (fields_1 h1 k1 k2 l) fun _ => ih j _ _ h2 hl (by omega)
    | @r2 na nb v w l l2 k k1 k2 k3 hl hl2 =>
      obtain ⟨h1, h2, h3⟩ := ho
      match m, ih with
      | 0, _ =>
        have e : decide ((Vl.r2 na nb v w).ht ≤ 0) = false := decide_eq_false (by omega)
        rw [e]
        exact soh_low k
      | j + 1, ih =>
        have hv := v.ht_pos
        have e : decide ((Vl.r2 na nb v w).ht ≤ j + 1) = (decide (1 < ((j + 1 : Nat) : Int)) && (decide (v.ht ≤ j) && decide (w.ht ≤ j))) := by
          rw [← Bool.decide_and, ← Bool.decide_and]
          exact decide_eq_decide.mpr (by simp only [Vl.ht]; omega)
        rw [e]
        exact soh_r2 (b1 := decide (v.ht ≤ j)) (b2 := decide (w.ht ≤ j)) k k1 k2 k3 (by omega) (fields_2 h1 k1 k2 k3 l l2) (fun _ => ih j _ _ h2 hl (by omega)) fun _ => ih j _ _ h3 hl2 (by omega)
theorem value_ok {v : Vl} {l : D} (ho : v.ok) (hl : Lk v l) (S : Sto) : F_is_value [.d l] S = .ok (okb (decide (v.ht ≤ 8))) S := by
  refine pure_ok (S0 := []) (ds := [l]) rfl (run_rt rfl ?_)
  unfold b_is_value st_is_value_1
  exact ret_ok (cal_ok (ws := [.d l, .d (.int (8 : Nat)), .d (.int 60)]) (S' := []) rfl (noEx_ok (soh 10 8 (by omega) v l ho hl [])))
end DL.k01
namespace DL.k01
open PySem PySem.Spec PyProof.Rows L2 DL

/-! ### fixed -/
theorem fix_str {n : Nat} {z : Str} (h : 0 < n) (S : Sto) : F_fixed n [.d (s z)] S = .ok (.d (s z)) S := by
  obtain ⟨m, rfl⟩ : ∃ m, n = m + 1 := ⟨n - 1, by omega⟩
  refine pure_ok (S0 := []) (ds := [s z]) rfl (run_rt rfl ?_)
  unfold b_fixed st_fixed_1 st_fixed_2
  rfl
inductive FxA (n : Nat) : List D → List D → Prop
  | nil : FxA n [] []
  | cons {d e : D} {ds es : List D} : (∀ S, F_fixed n [.d d] S = .ok (.d e) S) → FxA n ds es → FxA n (d :: ds) (e :: es)
theorem FxA.len {n : Nat} {ds es : List D} (h : FxA n ds es) : ds.length = es.length := by
  induction h with
  | nil => rfl
  | cons _ _ ih => simp [ih]
theorem fix_comp {n : Nat} {x : D} {ds es : List D} (h : FxA n ds es) : compL [1] (setG 1) yesT (calM (consM (varM 1) nilM) fun ws => noEx (F_fixed n ws)) (ds.map .d) [some (.d x), none] [] = .ok (es.map .d) [] := by
  induction h with
  | nil => rfl
  | @cons d e ds es h1 _ ih => exact comp_step (δ1 := [some (.d x), some (.d d)]) (S2 := []) rfl (cal_ok (ws := [.d d]) (S' := []) rfl (noEx_ok (h1 []))) ih
theorem fix_seq {n : Nat} {ds es : List D} (k : Bool) (h : FxA n ds es) (hl : es.length ≤ 1000000) (S : Sto) : F_fixed (n + 1) [.d (sq k ds)] S = .ok (.d (t es)) S := by
  refine pure_ok (S0 := []) (ds := [sq k ds]) rfl (run_rt rfl ?_)
  unfold b_fixed st_fixed_1
  refine ret_seq (Eq.trans (if_t (S' := []) (by cases k <;> rfl)) (ret_ok (cal_ok (ws := [.d (.list es)]) (S' := []) (cons_ok (S1 := []) ?_ rfl) rfl)))
  unfold lcM
  refine Eq.trans (bd_ok (a := ds.map .d) (S' := []) (by cases k <;> rfl)) ?_
  refine Eq.trans (bd_ok (fix_comp (x := sq k ds) h)) ?_
  exact lst_ok (allD_map es) (by rw [List.length_map]; exact Nat.le_trans hl small2)
theorem nd_toD : ∀ v : Vl, nd v.toD = true
  | .atom => rfl
  | .tag n v => by simp [Vl.toD, nd, ndA, nd_toD v]
  | .r0 => rfl
  | .r1 a v => by simp [Vl.toD, nd, ndA, nd_toD v]
  | .r2 a b v w => by simp [Vl.toD, nd, ndA, nd_toD v, nd_toD w]
theorem atom_f {ds : List D} {i : Nat} {δ : Env} {S : Sto} (h0 : δ[i]? = some (some (.d (.tuple ds)))) (hn : nd (.tuple ds) = true) : valT (binM (varM i) (cM (.str "atom")) eqM) δ S = .ok false S := by
  refine val_ok (bin_ok (S1 := S) (S2 := S) (varM_at h0) rfl ?_)
  rw [eq_d (by intro q; cases q) (by simp [PyData.depth]) hn (by simp only [nd])]
  simp [PyData.eqv]
theorem fixed_ok : ∀ (v : Vl) (l : D) (n : Nat), Lk v l → 3 * v.ht ≤ n → ∀ S, F_fixed n [.d l] S = .ok (.d v.toD) S := by
  intro v l n hl
  induction hl generalizing n with
  | atom => exact fun h S => fix_str (by simp [Vl.ht] at h; omega) S
  | @tag nm v l k hl ih =>
    intro h S
    simp only [Vl.ht] at h
    obtain ⟨m, rfl⟩ : ∃ m, n = m + 1 := ⟨n - 1, by omega⟩
    exact fix_seq k (.cons (fix_str (by omega)) (.cons (fix_str (by omega)) (.cons (ih m (by omega)) .nil))) (by simp) S
  | r0 k k1 =>
    intro h S
    simp only [Vl.ht] at h
    obtain ⟨m, rfl⟩ : ∃ m, n = m + 2 := ⟨n - 2, by omega⟩
    exact fix_seq k (.cons (fix_str (by omega)) (.cons (fix_seq (n := m) k1 .nil (by simp)) .nil)) (by simp) S
  | @r1 a v l k k1 k2 hl ih =>
    intro h S
    simp only [Vl.ht] at h
    have hp := v.ht_pos
    obtain ⟨m, rfl⟩ : ∃ m, n = m + 3 := ⟨n - 3, by omega⟩
    exact fix_seq k (.cons (fix_str (by omega)) (.cons (fix_seq (n := m + 1) k1 (.cons (fix_seq (n := m) k2 (.cons (fix_str (n := m) (by omega)) (.cons (ih m (by omega)) .nil)) (by simp)) .nil) (by simp)) .nil)) (by simp) S
  | @r2 a b v w l l2 k k1 k2 k3 hl hl2 ih ih2 =>
    intro h S
    simp only [Vl.ht] at h
    have hp := v.ht_pos
    obtain ⟨m, rfl⟩ : ∃ m, n = m + 3 := ⟨n - 3, by omega⟩
    exact fix_seq k (.cons (fix_str (by omega)) (.cons (fix_seq (n := m + 1) k1 (.cons (fix_seq (n := m) k2 (.cons (fix_str (n := m) (by omega)) (.cons (ih m (by omega)) .nil)) (by simp)) (.cons (fix_seq (n := m) k3 (.cons (fix_str (n := m) (by omega)) (.cons (ih2 m (by omega)) .nil)) (by simp)) .nil)) (by simp)) .nil)) (by simp) S
/-! ### heights -/
theorem bk_ok {fr fk : Env → M (List W)} {fo : List W → List W → M W} {δ : Env} {xs ys : List W} {w : W} {S S1 S2 S3 : Sto} (h1 : fr δ S = .ok xs S1) (h2 : fk δ S1 = .ok ys S2) (h3 : fo xs ys S2 = .ok w S3) : calBK fr fk fo δ S = .ok w S3 := by
  unfold calBK
  rw [bd_ok h1, bd_ok h2]
  exact h3
theorem max_nat (d : Int) (a b : Nat) : maxOf d [(a : Int), (b : Int)] = ((max a b : Nat) : Int) := by
  show max (a : Int) (b : Int) = _
  omega
abbrev frH (x : D) : Env := [some (.d x), none, none]
section
variable {R : List W → M W} {v w : Vl}
theorem hof_step (hR : ∀ u : Vl, (∃ n, v = .tag n u) ∨ (∃ a, v = .r1 a u) ∨ (∃ a b x, v = .r2 a b u x ∨ v = .r2 a b x u) → ∀ S, R [.d u.toD] S = .ok (.d (.int (u.ht : Nat))) S) : b_height_of R (frH v.toD) [] = .ok (.rt (.d (.int (v.ht : Nat)))) [] := by
  unfold b_height_of st_height_of_1 st_height_of_2 st_height_of_3
  cases v with
  | atom => exact ret_seq (Eq.trans (if_t (S' := []) (by kernel_rfl)) rfl)
  | tag n u =>
    refine Eq.trans (seq_nx (δ' := frH (Vl.tag n u).toD) (S' := []) (Eq.trans (if_f (S' := []) (by first | exact atom_f rfl (nd_toD (Vl.tag n u)) | kernel_rfl)) rfl)) ?_
    refine ret_seq (Eq.trans (if_t (S' := []) (by kernel_rfl)) (ret_ok (bin_ok (S1 := []) (S2 := []) (x := .d (.int 1)) (y := .d (.int (u.ht : Nat))) rfl (cal_ok (ws := [.d u.toD]) (S' := []) rfl (noEx_ok (hR u (.inl ⟨n, rfl⟩) []))) ?_)))
    show Res.ok (W.d (.int (1 + (u.ht : Int)))) [] = _
    simp [Vl.ht]
  | r0 =>
    refine Eq.trans (seq_nx (δ' := frH Vl.r0.toD) (S' := []) (Eq.trans (if_f (S' := []) (by kernel_rfl)) rfl)) ?_
    refine Eq.trans (seq_nx (δ' := frH Vl.r0.toD) (S' := []) (Eq.trans (if_f (S' := []) (by kernel_rfl)) rfl)) ?_
    rfl
  | r1 a u =>
    refine Eq.trans (seq_nx (δ' := frH (Vl.r1 a u).toD) (S' := []) (Eq.trans (if_f (S' := []) (by first | exact atom_f rfl (nd_toD (Vl.r1 a u)) | kernel_rfl)) rfl)) ?_
    refine Eq.trans (seq_nx (δ' := frH (Vl.r1 a u).toD) (S' := []) (Eq.trans (if_f (S' := []) (by first | exact atom_f rfl (nd_toD (Vl.r1 a u)) | kernel_rfl)) rfl)) ?_
    refine ret_ok (bin_ok (S1 := []) (S2 := []) (x := .d (.int 1)) (y := .d (.int (u.ht : Nat))) rfl (bk_ok (xs := [.d (.list [.int (u.ht : Nat)])]) (ys := [.d (.int 0)]) (S1 := []) (S2 := []) (cons_ok (S1 := []) ?_ rfl) rfl rfl) ?_)
    · unfold lcM
      refine Eq.trans (bd_ok (a := [.d (t [s a, u.toD])]) (S' := []) rfl) ?_
      exact Eq.trans (bd_ok (a := [.d (.int (u.ht : Nat))]) (S' := []) (comp_step (δ1 := [some (.d (Vl.r1 a u).toD), some (.d (s a)), some (.d u.toD)]) (S2 := []) rfl (cal_ok (ws := [.d u.toD]) (S' := []) rfl (noEx_ok (hR u (.inr (.inl ⟨a, rfl⟩)) []))) rfl)) rfl
    · show Res.ok (W.d (.int (1 + (u.ht : Int)))) [] = _
      simp [Vl.ht]
  | r2 a b u x =>
    refine Eq.trans (seq_nx (δ' := frH (Vl.r2 a b u x).toD) (S' := []) (Eq.trans (if_f (S' := []) (by first | exact atom_f rfl (nd_toD (Vl.r2 a b u x)) | kernel_rfl)) rfl)) ?_
    refine Eq.trans (seq_nx (δ' := frH (Vl.r2 a b u x).toD) (S' := []) (Eq.trans (if_f (S' := []) (by first | exact atom_f rfl (nd_toD (Vl.r2 a b u x)) | kernel_rfl)) rfl)) ?_
    refine ret_ok (bin_ok (S1 := []) (S2 := []) (x := .d (.int 1)) (y := .d (.int (max u.ht x.ht : Nat))) rfl (bk_ok (xs := [.d (.list [.int (u.ht : Nat), .int (x.ht : Nat)])]) (ys := [.d (.int 0)]) (S1 := []) (S2 := []) (cons_ok (S1 := []) ?_ rfl) rfl ?_) ?_)
    · unfold lcM
      refine Eq.trans (bd_ok (a := [.d (t [s a, u.toD]), .d (t [s b, x.toD])]) (S' := []) rfl) ?_
      refine Eq.trans (bd_ok (a := [.d (.int (u.ht : Nat)), .d (.int (x.ht : Nat))]) (S' := []) (comp_step (δ1 := [some (.d (Vl.r2 a b u x).toD), some (.d (s a)), some (.d u.toD)]) (S2 := []) rfl (cal_ok (ws := [.d u.toD]) (S' := []) rfl (noEx_ok (hR u (.inr (.inr ⟨a, b, x, .inl rfl⟩)) []))) ?_)) rfl
      exact comp_step (δ1 := [some (.d (Vl.r2 a b u x).toD), some (.d (s b)), some (.d x.toD)]) (S2 := []) rfl (cal_ok (ws := [.d x.toD]) (S' := []) rfl (noEx_ok (hR x (.inr (.inr ⟨a, b, u, .inr rfl⟩)) []))) rfl
    · show Res.ok (W.d (.int (maxOf 0 [(u.ht : Int), (x.ht : Int)]))) [] = _
      rw [max_nat]
    · show Res.ok (W.d (.int (1 + ((max u.ht x.ht : Nat) : Int)))) [] = _
      simp [Vl.ht]
theorem lhi_step (hR : ∀ u : Vl, (∃ n, v = .tag n u) ∨ (∃ a, v = .r1 a u) ∨ (∃ a b x, v = .r2 a b u x ∨ v = .r2 a b x u) → ∀ S, R [.d u.toD] S = .ok (.d (.int (u.ht : Nat))) S) : b__law_high R (frH v.toD) [] = .ok (.rt (.d (.int (v.ht : Nat)))) [] := by
  unfold b__law_high st__law_high_1 st__law_high_2
  cases v with
  | atom => exact ret_seq (Eq.trans (if_t (S' := []) (by kernel_rfl)) rfl)
  | tag n u =>
    refine Eq.trans (seq_nx (δ' := frH (Vl.tag n u).toD) (S' := []) (Eq.trans (if_f (S' := []) (by first | exact atom_f rfl (nd_toD (Vl.tag n u)) | kernel_rfl)) rfl)) ?_
    refine ret_ok (Eq.trans (ifV_t (S1 := []) (by kernel_rfl)) (bin_ok (S1 := []) (S2 := []) (x := .d (.int 1)) (y := .d (.int (u.ht : Nat))) rfl (cal_ok (ws := [.d u.toD]) (S' := []) rfl (noEx_ok (hR u (.inl ⟨n, rfl⟩) []))) ?_))
    show Res.ok (W.d (.int (1 + (u.ht : Int)))) [] = _
    simp [Vl.ht]
  | r0 =>
    refine Eq.trans (seq_nx (δ' := frH Vl.r0.toD) (S' := []) (Eq.trans (if_f (S' := []) (by kernel_rfl)) rfl)) ?_
    exact ret_ok (Eq.trans (ifV_f (S1 := []) (by kernel_rfl)) rfl)
  | r1 a u =>
    have hp := u.ht_pos
    refine Eq.trans (seq_nx (δ' := frH (Vl.r1 a u).toD) (S' := []) (Eq.trans (if_f (S' := []) (by first | exact atom_f rfl (nd_toD (Vl.r1 a u)) | kernel_rfl)) rfl)) ?_
    refine ret_ok (Eq.trans (ifV_f (S1 := []) (by kernel_rfl)) (bin_ok (S1 := []) (S2 := []) (x := .d (.int 1)) (y := .d (.int (u.ht : Nat))) rfl (cal_ok (ws := [.d (.list [.int 0, .int (u.ht : Nat)])]) (S' := []) (cons_ok (S1 := []) (bin_ok (S1 := []) (S2 := []) (x := .d (.list [.int 0])) (y := .d (.list [.int (u.ht : Nat)])) rfl ?_ rfl) rfl) ?_) ?_))
    · unfold lcM
      refine Eq.trans (bd_ok (a := [.d (t [s a, u.toD])]) (S' := []) rfl) ?_
      exact Eq.trans (bd_ok (a := [.d (.int (u.ht : Nat))]) (S' := []) (comp_step (δ1 := [some (.d (Vl.r1 a u).toD), some (.d (s a)), some (.d u.toD)]) (S2 := []) rfl (cal_ok (ws := [.d u.toD]) (S' := []) rfl (noEx_ok (hR u (.inr (.inl ⟨a, rfl⟩)) []))) rfl)) rfl
    · show Res.ok (W.d (.int (max 0 (u.ht : Int)))) [] = _
      rw [show max 0 (u.ht : Int) = (u.ht : Int) by omega]
    · show Res.ok (W.d (.int (1 + (u.ht : Int)))) [] = _
      simp [Vl.ht]
  | r2 a b u x =>
    refine Eq.trans (seq_nx (δ' := frH (Vl.r2 a b u x).toD) (S' := []) (Eq.trans (if_f (S' := []) (by first | exact atom_f rfl (nd_toD (Vl.r2 a b u x)) | kernel_rfl)) rfl)) ?_
    refine ret_ok (Eq.trans (ifV_f (S1 := []) (by kernel_rfl)) (bin_ok (S1 := []) (S2 := []) (x := .d (.int 1)) (y := .d (.int (max u.ht x.ht : Nat))) rfl (cal_ok (ws := [.d (.list [.int 0, .int (u.ht : Nat), .int (x.ht : Nat)])]) (S' := []) (cons_ok (S1 := []) (bin_ok (S1 := []) (S2 := []) (x := .d (.list [.int 0])) (y := .d (.list [.int (u.ht : Nat), .int (x.ht : Nat)])) rfl ?_ rfl) rfl) ?_) ?_))
    · unfold lcM
      refine Eq.trans (bd_ok (a := [.d (t [s a, u.toD]), .d (t [s b, x.toD])]) (S' := []) rfl) ?_
      refine Eq.trans (bd_ok (a := [.d (.int (u.ht : Nat)), .d (.int (x.ht : Nat))]) (S' := []) (comp_step (δ1 := [some (.d (Vl.r2 a b u x).toD), some (.d (s a)), some (.d u.toD)]) (S2 := []) rfl (cal_ok (ws := [.d u.toD]) (S' := []) rfl (noEx_ok (hR u (.inr (.inr ⟨a, b, x, .inl rfl⟩)) []))) ?_)) rfl
      exact comp_step (δ1 := [some (.d (Vl.r2 a b u x).toD), some (.d (s b)), some (.d x.toD)]) (S2 := []) rfl (cal_ok (ws := [.d x.toD]) (S' := []) rfl (noEx_ok (hR x (.inr (.inr ⟨a, b, u, .inr rfl⟩)) []))) rfl
    · show Res.ok (W.d (.int (max (max 0 (u.ht : Int)) (x.ht : Int)))) [] = _
      rw [show max (max 0 (u.ht : Int)) (x.ht : Int) = ((max u.ht x.ht : Nat) : Int) by omega]
    · show Res.ok (W.d (.int (1 + ((max u.ht x.ht : Nat) : Int)))) [] = _
      simp [Vl.ht]
end
theorem kid_ht {u v : Vl} (h : (∃ n, v = .tag n u) ∨ (∃ a, v = .r1 a u) ∨ (∃ a b x, v = .r2 a b u x ∨ v = .r2 a b x u)) : u.ht < v.ht := by
  rcases h with ⟨n, rfl⟩ | ⟨a, rfl⟩ | ⟨a, b, x, rfl | rfl⟩ <;> simp only [Vl.ht] <;> omega
theorem hof_ok : ∀ (n : Nat) (v : Vl), v.ht ≤ n → ∀ S, F_height_of n [.d v.toD] S = .ok (.d (.int (v.ht : Nat))) S
  | 0, v, h => by have := v.ht_pos; omega
  | n + 1, v, h => fun S => pure_ok (S0 := []) (ds := [v.toD]) rfl (run_rt rfl (hof_step fun u hu S => hof_ok n u (by have := kid_ht hu; omega) S))
theorem lhi_ok : ∀ (n : Nat) (v : Vl), v.ht ≤ n → ∀ S, F__law_high n [.d v.toD] S = .ok (.d (.int (v.ht : Nat))) S
  | 0, v, h => by have := v.ht_pos; omega
  | n + 1, v, h => fun S => pure_ok (S0 := []) (ds := [v.toD]) rfl (run_rt rfl (lhi_step fun u hu S => lhi_ok n u (by have := kid_ht hu; omega) S))
theorem pureX_ok {F : List W → M W} {ws : List W} {ds : List D} {x : D} {S S0 : Sto} (hd : allD ws = some ds) (h : F ws [] = .ok (.d x) S0) : pureX F ws S = .ok (.d x) S := by unfold pureX; rw [hd]; simp only [h]
theorem pureX_ex {F : List W → M W} {ws : List W} {ds : List D} {x : DL.Ex} {S S0 : Sto} (hd : allD ws = some ds) (h : F ws [] = .ex x S0) : pureX F ws S = .ex x S := by unfold pureX; rw [hd]; simp only [h]
theorem bd_ex {α β : Type} {m : M α} {f : α → M β} {S S' : Sto} {x : DL.Ex} (h : m S = .ex x S') : bd m f S = .ex x S' := by unfold bd; rw [h]
theorem run_nx {k n : Nat} {b : Env → M Fl} {ws : List W} {δ : Env} {S S' : Sto} (hl : ws.length = k) (h : b (ws.map some ++ List.replicate (n - k) none) S = .ok (.nx δ) S') : runD k n b ws S = .ok (.d .none) S' := by unfold runD; rw [if_pos hl, bd_ok h]; rfl
theorem run_ex {k n : Nat} {b : Env → M Fl} {ws : List W} {x : DL.Ex} {S S' : Sto} (hl : ws.length = k) (h : b (ws.map some ++ List.replicate (n - k) none) S = .ex x S') : runD k n b ws S = .ex x S' := by unfold runD; rw [if_pos hl, bd_ex h]
theorem need_ok {x : D} (h : ∀ S, F_is_value [.d x] S = .ok (okb true) S) (S : Sto) : F_need_value [.d x] S = .ok (.d .none) S := by
  refine pureX_ok (S0 := []) (ds := [x]) rfl (run_nx (δ := [some (.d x)]) rfl ?_)
  unfold b_need_value st_need_value_1
  exact Eq.trans (if_f (S' := []) (not_ok (b := true) (val_ok (cal_ok (ws := [.d x]) (S' := []) rfl (noEx_ok (h [])))))) rfl
abbrev badE : DL.Ex := ⟨"BadValue", [("part", .str "value")]⟩
theorem need_bad {x : D} (h : ∀ S, F_is_value [.d x] S = .ok (okb false) S) (S : Sto) : F_need_value [.d x] S = .ex badE S := by
  refine pureX_ex (S0 := []) (ds := [x]) rfl (run_ex rfl ?_)
  unfold b_need_value st_need_value_1
  exact Eq.trans (if_t (S' := []) (not_ok (b := false) (val_ok (cal_ok (ws := [.d x]) (S' := []) rfl (noEx_ok (h [])))))) rfl
theorem cal_ex {fr : Env → M (List W)} {fo : List W → M W} {δ : Env} {ws : List W} {x : DL.Ex} {S S' S'' : Sto} (h : fr δ S = .ok ws S') (h2 : fo ws S' = .ex x S'') : calM fr fo δ S = .ex x S'' := by unfold calM; rw [bd_ok h]; exact h2
theorem height_ok {v : Vl} {l : D} (ho : v.ok) (hl : Lk v l) (hh : v.ht ≤ 8) (S : Sto) : F_height [.d l] S = .ok (.d (.int (v.ht : Nat))) S := by
  refine pureX_ok (S0 := []) (ds := [l]) rfl (run_rt rfl ?_)
  unfold b_height st_height_1 st_height_2
  refine Eq.trans (seq_nx (δ' := [some (.d l)]) (S' := []) (expr_ok (cal_ok (ws := [.d l]) (S' := []) rfl (need_ok (fun S => by rw [value_ok ho hl S, decide_eq_true hh]) [])))) ?_
  exact ret_ok (cal_ok (ws := [.d v.toD]) (S' := []) (cons_ok (S1 := []) (cal_ok (ws := [.d l]) (S' := []) rfl (noEx_ok (fixed_ok v l 30 hl (by omega) []))) rfl) (noEx_ok (hof_ok 30 v (by omega) [])))
theorem height_bad {x : D} (h : ∀ S, F_is_value [.d x] S = .ok (okb false) S) (S : Sto) : F_height [.d x] S = .ex badE S := by
  refine pureX_ex (S0 := []) (ds := [x]) rfl (run_ex rfl ?_)
  unfold b_height st_height_1
  exact bd_ex (bd_ex (cal_ex (ws := [.d x]) (S' := []) rfl (need_bad h [])))
theorem text_bad {x : D} (h : ∀ S, F_is_value [.d x] S = .ok (okb false) S) (S : Sto) : F_value_text [.d x] S = .ex badE S := by
  refine pureX_ex (S0 := []) (ds := [x]) rfl (run_ex rfl ?_)
  unfold b_value_text st_value_text_1
  exact bd_ex (bd_ex (cal_ex (ws := [.d x]) (S' := []) rfl (need_bad h [])))
end DL.k01
namespace DL.k01
open PySem PySem.Spec PyProof.Rows L2 DL

/-! ### texts -/
def words : Vl → List Str
  | .atom => ["atom"]
  | .tag n v => "(" :: "tag" :: n :: (words v ++ ([")"] : List Str))
  | .r0 => ["(", "record", ")"]
  | .r1 a v => "(" :: "record" :: a :: (words v ++ ([")"] : List Str))
  | .r2 a b v w => "(" :: "record" :: a :: (words v ++ (b :: (words w ++ ([")"] : List Str))))
def txt : Vl → Str
  | .atom => "atom"
  | .tag n v => ((("( tag " ++ n) ++ " ") ++ txt v) ++ " )"
  | .r0 => ("( record " ++ Str.join "" []) ++ ")"
  | .r1 a v => ("( record " ++ Str.join "" [((a ++ " ") ++ txt v) ++ " "]) ++ ")"
  | .r2 a b v w => ("( record " ++ Str.join "" [((a ++ " ") ++ txt v) ++ " ", ((b ++ " ") ++ txt w) ++ " "]) ++ ")"
theorem app_assoc (x y z : Str) : x ++ y ++ z = x ++ (y ++ z) := congrArg Str.mk (Array.append_assoc (xs := x.cps) (ys := y.cps) (zs := z.cps))
theorem app_len (x y : Str) : (x ++ y).length = x.length + y.length := Array.size_append
theorem empty_app (x : Str) : ("" : Str) ++ x = x := by
  show Str.mk ((Str.ofString "").cps ++ x.cps) = x
  rw [show (Str.ofString "").cps = #[] from by decide +kernel, Array.empty_append]
theorem join_cons {sp x : Str} : ∀ {ys : List Str}, ys ≠ [] → Str.join sp (x :: ys) = x ++ sp ++ Str.join sp ys
  | [], h => absurd rfl h
  | _ :: _, _ => rfl
theorem join_app {sp : Str} : ∀ {xs ys : List Str}, xs ≠ [] → ys ≠ [] → Str.join sp (xs ++ ys) = Str.join sp xs ++ sp ++ Str.join sp ys
  | [], _, h, _ => absurd rfl h
  | [x], ys, _, h => join_cons h
  | x :: y :: xs, ys, _, h => by
    show Str.join sp (x :: ((y :: xs) ++ ys)) = _
    rw [join_cons (x := x) (ys := (y :: xs) ++ ys) (by simp), join_app (xs := y :: xs) (by simp) h, join_cons (x := x) (ys := y :: xs) (by simp)]
    simp only [app_assoc]
theorem words_ne (v : Vl) : words v ≠ [] := by cases v <;> simp [words]
theorem l_tag : ("( tag " : Str) = "(" ++ (" " ++ ("tag" ++ " ")) := by decide +kernel
theorem l_rec : ("( record " : Str) = "(" ++ (" " ++ ("record" ++ " ")) := by decide +kernel
theorem l_end : (" )" : Str) = " " ++ ")" := by decide +kernel
theorem join_words : ∀ v : Vl, Str.join " " (words v) = txt v
  | .atom => rfl
  | .tag n v => by
    show Str.join " " ("(" :: "tag" :: n :: (words v ++ ([")"] : List Str))) = ((("( tag " ++ n) ++ " ") ++ txt v) ++ " )"
    rw [join_cons (by simp), join_cons (by simp), join_cons (by simp), join_app (words_ne v) (by simp), join_words v, l_tag, l_end]
    simp only [app_assoc, show Str.join (" " : Str) [(")" : Str)] = ")" from rfl]
  | .r0 => by decide +kernel
  | .r1 a v => by
    show Str.join " " ("(" :: "record" :: a :: (words v ++ ([")"] : List Str))) = ("( record " ++ (((a ++ " ") ++ txt v) ++ " ")) ++ ")"
    rw [join_cons (by simp), join_cons (by simp), join_cons (by simp), join_app (words_ne v) (by simp), join_words v, l_rec]
    simp only [app_assoc, show Str.join (" " : Str) [(")" : Str)] = ")" from rfl]
  | .r2 a b v w => by
    show Str.join " " ("(" :: "record" :: a :: (words v ++ (b :: (words w ++ ([")"] : List Str))))) = ("( record " ++ (((a ++ " ") ++ txt v) ++ " " ++ "" ++ (((b ++ " ") ++ txt w) ++ " "))) ++ ")"
    rw [join_cons (by simp), join_cons (by simp), join_cons (by simp), join_app (words_ne v) (by simp), join_words v, join_cons (by simp), join_app (words_ne w) (by simp), join_words w, l_rec]
    simp only [app_assoc, empty_app, show Str.join (" " : Str) [(")" : Str)] = ")" from rfl]
/-! ### how long -/
def lb : Nat → Nat
  | 0 => 4
  | h + 1 => 2 * lb h + 60
theorem tag_len {n : Str} (h : n ∈ tagNs) : n.length ≤ 8 := by
  simp only [tagNs, List.mem_cons, List.not_mem_nil, or_false] at h
  rcases h with rfl | rfl | rfl | rfl <;> decide +kernel
theorem fld_len {n : Str} (h : n ∈ fldNs) : n.length ≤ 8 := by
  simp only [fldNs, List.mem_cons, List.not_mem_nil, or_false] at h
  rcases h with rfl | rfl | rfl | rfl | rfl <;> decide +kernel
theorem pair_len {a b : Str} (h : (a, b) ∈ fldPs) : a.length ≤ 8 ∧ b.length ≤ 8 := by
  simp only [fldPs, List.mem_cons, List.not_mem_nil, or_false, Prod.mk.injEq] at h
  rcases h with ⟨rfl, rfl⟩ | ⟨rfl, rfl⟩ | ⟨rfl, rfl⟩ | ⟨rfl, rfl⟩ | ⟨rfl, rfl⟩ | ⟨rfl, rfl⟩ | ⟨rfl, rfl⟩ | ⟨rfl, rfl⟩ | ⟨rfl, rfl⟩ | ⟨rfl, rfl⟩ <;> decide +kernel
theorem n1 : ("( tag " : Str).length = 6 := by decide +kernel
theorem n2 : (" " : Str).length = 1 := by decide +kernel
theorem n3 : (" )" : Str).length = 2 := by decide +kernel
theorem n4 : ("( record " : Str).length = 9 := by decide +kernel
theorem n5 : (")" : Str).length = 1 := by decide +kernel
theorem n6 : ("" : Str).length = 0 := by decide +kernel
theorem n7 : ("(" : Str).length = 1 := by decide +kernel
theorem n8 : ("tag" : Str).length = 3 := by decide +kernel
theorem n9 : ("record" : Str).length = 6 := by decide +kernel
theorem n10 : ("atom" : Str).length = 4 := by decide +kernel
theorem small_v : ∀ (h : Nat) (v : Vl), v.ok → v.ht ≤ h → (txt v).length ≤ lb h ∧ (words v).length ≤ lb h ∧ ((words v).map (·.length)).sum ≤ lb h
  | 0, v, _, hh => by have := v.ht_pos; omega
  | h + 1, v, ho, hh => by
    cases v with
    | atom =>
      simp only [txt, words, List.map_cons, List.map_nil, List.sum_cons, List.sum_nil, List.length_cons, List.length_nil, n10, lb]
      omega
    | tag n v =>
      obtain ⟨h1, h2⟩ := ho
      obtain ⟨i1, i2, i3⟩ := small_v h v h2 (by simp only [Vl.ht] at hh; omega)
      have := tag_len h1
      simp only [txt, words, List.map_cons, List.map_nil, List.sum_cons, List.sum_nil, List.length_cons, List.length_nil, List.map_append, List.sum_append, List.length_append, app_len, n1, n2, n3, n5, n7, n8, lb]
      omega
    | r0 =>
      simp only [txt, words, List.map_cons, List.map_nil, List.sum_cons, List.sum_nil, List.length_cons, List.length_nil, app_len, n4, n5, n7, n9, lb, show (Str.join "" ([] : List Str)).length = 0 from by decide +kernel]
      omega
    | r1 a v =>
      obtain ⟨h1, h2⟩ := ho
      obtain ⟨i1, i2, i3⟩ := small_v h v h2 (by simp only [Vl.ht] at hh; omega)
      have := fld_len h1
      simp only [txt, words, Str.join, List.map_cons, List.map_nil, List.sum_cons, List.sum_nil, List.length_cons, List.length_nil, List.map_append, List.sum_append, List.length_append, app_len, n2, n4, n5, n7, n9, lb]
      omega
    | r2 a b v w =>
      obtain ⟨h1, h2, h3⟩ := ho
      obtain ⟨i1, i2, i3⟩ := small_v h v h2 (by simp only [Vl.ht] at hh; omega)
      obtain ⟨j1, j2, j3⟩ := small_v h w h3 (by simp only [Vl.ht] at hh; omega)
      have := pair_len h1
      simp only [txt, words, Str.join, List.map_cons, List.map_nil, List.sum_cons, List.sum_nil, List.length_cons, List.length_nil, List.map_append, List.sum_append, List.length_append, app_len, n2, n4, n5, n6, n7, n9, lb]
      omega
theorem lb_10 : lb 10 ≤ 100000 := by decide
theorem lb_up : ∀ h : Nat, lb h ≤ lb (h + 1) := fun h => by simp only [lb]; omega
theorem lb_le {a b : Nat} (h : a ≤ b) : lb a ≤ lb b := by
  obtain ⟨k, rfl⟩ := Nat.le.dest h
  induction k with
  | zero => exact Nat.le_refl _
  | succ k ih => exact Nat.le_trans (ih (by omega)) (lb_up (a + k))
theorem len_v {v : Vl} (ho : v.ok) (h : v.ht ≤ 10) : (txt v).length ≤ 100000 ∧ (words v).length ≤ 100000 ∧ ((words v).map (·.length)).sum ≤ 100000 := by
  obtain ⟨a, b, c⟩ := small_v 10 v ho h
  have := lb_10
  omega
/-! ### the words -/
theorem loop_cons {g : W → Env → M Env} {b : Env → M Fl} {w : W} {ws : List W} {δ δ1 δ2 : Env} {S S1 S2 : Sto} (h1 : g w δ S = .ok δ1 S1) (h2 : b δ1 S1 = .ok (.nx δ2) S2) : forL g b (w :: ws) δ S = forL g b ws δ2 S2 := by
  conv => lhs; unfold forL
  rw [bd_ok h1, bd_ok h2]
theorem lst_small {ds : List D} {S : Sto} (h : ds.length ≤ 1000000) : lstM (ds.map .d) S = .ok (.d (.list ds)) S := lst_ok (allD_map ds) (by rw [List.length_map]; exact Nat.le_trans h small2)
abbrev frW (x : D) (n o : Option W) (f : Option W) : Env := [some (.d x), f, n, o]
section
variable {R : List W → M W}
theorem ext_1 {x : D} {a : Str} {v : Vl} {F : List D} (hR : ∀ S, R [.d v.toD] S = .ok (.d (.list ((words v).map s))) S) (hl : (words v).length ≤ 100000) (hF : F.length ≤ 200000) :
    st_words_of_4 R (frW x (some (.d (s a))) (some (.d v.toD)) (some (.r 0))) [.lst (F.map .d)] = .ok (.nx (frW x (some (.d (s a))) (some (.d v.toD)) (some (.r 0)))) [.lst ((F ++ (a :: words v).map s).map .d)] := by
  unfold st_words_of_4
  refine expr_ok (w := .d .none) (met_ok (n := 0) (ws := F.map .d) (xs := [.d (.list ((a :: words v).map s))]) rfl rfl (cons_ok (S1 := [.lst (F.map .d)]) (Eq.trans (b := lstM (.d (s a) :: ((words v).map s).map .d) [.lst (F.map .d)]) (bd_ok (S' := [.lst (F.map .d)]) (cons_ok (S1 := [.lst (F.map .d)]) (S2 := [.lst (F.map .d)]) (x := .d (s a)) (xs := ((words v).map s).map .d) rfl ?_)) ?_) rfl) ?_)
  · have := star_ok (fr := nilM) (ys := []) (S1 := [.lst (F.map .d)]) (S2 := [.lst (F.map .d)]) (δ := frW x (some (.d (s a))) (some (.d v.toD)) (some (.r 0))) (fa := calM (consM (varM 3) nilM) fun ws => noEx (R ws)) (cal_ok (ws := [.d v.toD]) (S' := [.lst (F.map .d)]) rfl (noEx_ok (hR _))) (seq_l (ds := (words v).map s)) rfl
    rw [List.append_nil] at this
    exact this
  · exact lst_small (ds := (a :: words v).map s) (by simp; omega)
  · have := extend_ok (S := [.lst (F.map .d)]) (n := 0) (ws := F.map .d) (y := .d (.list ((a :: words v).map s))) rfl seq_l (by have := small2; simp only [List.length_map, List.length_cons]; omega)
    rw [this]
    simp [List.map_append]
theorem fin_1 {x : D} {n o : Option W} {F : List D} (hF : F.length ≤ 300000) : st_words_of_5 R (frW x n o (some (.r 0))) [.lst (F.map .d)] = .ok (.rt (.d (.list (F ++ [s ")"])))) [.lst (F.map .d)] := by
  unfold st_words_of_5
  refine ret_ok (Eq.trans (bd_ok (star_ok (S1 := [.lst (F.map .d)]) (S2 := [.lst (F.map .d)]) (k := true) (xs := F.map .d) (ys := [.d (s ")")]) rfl rfl rfl)) ?_)
  have := lst_small (S := [.lst (F.map .d)]) (ds := F ++ [s ")"]) (by simp; omega)
  simpa using this
theorem words_step {v : Vl} (ho : v.ok) (hh : v.ht ≤ 10) (hR : ∀ u : Vl, (∃ n, v = .tag n u) ∨ (∃ a, v = .r1 a u) ∨ (∃ a b x, v = .r2 a b u x ∨ v = .r2 a b x u) → ∀ S, R [.d u.toD] S = .ok (.d (.list ((words u).map s))) S) :
    ∃ S, b_words_of R (frW v.toD none none none) [] = .ok (.rt (.d (.list ((words v).map s)))) S := by
  have hln := len_v ho hh
  unfold b_words_of st_words_of_1 st_words_of_2 st_words_of_3
  cases v with
  | atom => exact ⟨[], ret_seq (Eq.trans (if_t (S' := []) (by kernel_rfl)) rfl)⟩
  | tag n u =>
    simp only [words, List.length_cons, List.length_append, List.length_nil] at hln
    refine ⟨[], ?_⟩
    refine Eq.trans (seq_nx (δ' := frW (Vl.tag n u).toD none none none) (S' := []) (Eq.trans (if_f (S' := []) (atom_f rfl (nd_toD (Vl.tag n u)))) rfl)) ?_
    refine ret_seq (Eq.trans (if_t (S' := []) (by kernel_rfl)) (ret_ok ?_))
    have h1 := star_ok (fr := consM (cM (.str ")")) nilM) (ys := [.d (s ")")]) (S1 := []) (S2 := []) (δ := frW (Vl.tag n u).toD none none none) (fa := calM (consM (binM (varM 0) (cM (.int 2)) itemM) nilM) fun ws => noEx (R ws)) (cal_ok (ws := [.d u.toD]) (S' := []) rfl (noEx_ok (hR u (.inl ⟨n, rfl⟩) []))) (seq_l (ds := (words u).map s)) rfl
    refine Eq.trans (bd_ok (cons_ok (S1 := []) (x := .d (s "(")) rfl (cons_ok (S1 := []) (x := .d (s "tag")) rfl (cons_ok (S1 := []) (x := .d (s n)) rfl h1)))) ?_
    have := lst_small (S := []) (ds := s "(" :: s "tag" :: s n :: ((words u).map s ++ [s ")"])) (by simp; omega)
    simp only [List.map_cons, List.map_append, List.map_nil] at this
    rw [this]
    simp [words]
  | r0 =>
    refine ⟨[.lst (([s "(", s "record"] : List D).map .d)], ?_⟩
    refine Eq.trans (seq_nx (δ' := frW Vl.r0.toD none none none) (S' := []) (Eq.trans (if_f (S' := []) (by kernel_rfl)) rfl)) ?_
    refine Eq.trans (seq_nx (δ' := frW Vl.r0.toD none none none) (S' := []) (Eq.trans (if_f (S' := []) (by kernel_rfl)) rfl)) ?_
    refine Eq.trans (seq_nx (δ' := frW Vl.r0.toD none none (some (.r 0))) (S' := [.lst (([s "(", s "record"] : List D).map .d)]) rfl) ?_
    refine Eq.trans (seq_nx (δ' := frW Vl.r0.toD none none (some (.r 0))) (S' := [.lst (([s "(", s "record"] : List D).map .d)]) rfl) ?_
    exact fin_1 (F := [s "(", s "record"]) (by simp)
  | r1 a u =>
    simp only [words, List.length_cons, List.length_append, List.length_nil] at hln
    refine ⟨[.lst (([s "(", s "record"] ++ (a :: words u).map s).map .d)], ?_⟩
    refine Eq.trans (seq_nx (δ' := frW (Vl.r1 a u).toD none none none) (S' := []) (Eq.trans (if_f (S' := []) (atom_f rfl (nd_toD (Vl.r1 a u)))) rfl)) ?_
    refine Eq.trans (seq_nx (δ' := frW (Vl.r1 a u).toD none none none) (S' := []) (Eq.trans (if_f (S' := []) (by kernel_rfl)) rfl)) ?_
    refine Eq.trans (seq_nx (δ' := frW (Vl.r1 a u).toD none none (some (.r 0))) (S' := [.lst (([s "(", s "record"] : List D).map .d)]) rfl) ?_
    refine Eq.trans (seq_nx (δ' := frW (Vl.r1 a u).toD (some (.d (s a))) (some (.d u.toD)) (some (.r 0))) (S' := [.lst (([s "(", s "record"] ++ (a :: words u).map s).map .d)]) ?_) ?_
    · refine Eq.trans (bd_ok (a := [.d (t [s a, u.toD])]) (S' := [.lst (([s "(", s "record"] : List D).map .d)]) rfl) ?_
      exact Eq.trans (loop_cons (δ1 := frW (Vl.r1 a u).toD (some (.d (s a))) (some (.d u.toD)) (some (.r 0))) (S1 := [.lst (([s "(", s "record"] : List D).map .d)]) rfl (ext_1 (F := [s "(", s "record"]) (hR u (.inr (.inl ⟨a, rfl⟩))) (by omega) (by simp))) rfl
    · refine Eq.trans (fin_1 (F := [s "(", s "record"] ++ (a :: words u).map s) (by simp; omega)) ?_
      simp [words]
  | r2 a b u x =>
    simp only [words, List.length_cons, List.length_append, List.length_nil] at hln
    refine ⟨[.lst ((([s "(", s "record"] ++ (a :: words u).map s) ++ (b :: words x).map s).map .d)], ?_⟩
    refine Eq.trans (seq_nx (δ' := frW (Vl.r2 a b u x).toD none none none) (S' := []) (Eq.trans (if_f (S' := []) (atom_f rfl (nd_toD (Vl.r2 a b u x)))) rfl)) ?_
    refine Eq.trans (seq_nx (δ' := frW (Vl.r2 a b u x).toD none none none) (S' := []) (Eq.trans (if_f (S' := []) (by kernel_rfl)) rfl)) ?_
    refine Eq.trans (seq_nx (δ' := frW (Vl.r2 a b u x).toD none none (some (.r 0))) (S' := [.lst (([s "(", s "record"] : List D).map .d)]) rfl) ?_
    refine Eq.trans (seq_nx (δ' := frW (Vl.r2 a b u x).toD (some (.d (s b))) (some (.d x.toD)) (some (.r 0))) (S' := [.lst ((([s "(", s "record"] ++ (a :: words u).map s) ++ (b :: words x).map s).map .d)]) ?_) ?_
    · refine Eq.trans (bd_ok (a := [.d (t [s a, u.toD]), .d (t [s b, x.toD])]) (S' := [.lst (([s "(", s "record"] : List D).map .d)]) rfl) ?_
      refine Eq.trans (loop_cons (δ1 := frW (Vl.r2 a b u x).toD (some (.d (s a))) (some (.d u.toD)) (some (.r 0))) (S1 := [.lst (([s "(", s "record"] : List D).map .d)]) rfl (ext_1 (F := [s "(", s "record"]) (hR u (.inr (.inr ⟨a, b, x, .inl rfl⟩))) (by omega) (by simp))) ?_
      exact Eq.trans (loop_cons (δ1 := frW (Vl.r2 a b u x).toD (some (.d (s b))) (some (.d x.toD)) (some (.r 0))) (S1 := [.lst (([s "(", s "record"] ++ (a :: words u).map s).map .d)]) rfl (ext_1 (F := [s "(", s "record"] ++ (a :: words u).map s) (hR x (.inr (.inr ⟨a, b, u, .inr rfl⟩))) (by omega) (by simp; omega))) rfl
    · refine Eq.trans (fin_1 (F := ([s "(", s "record"] ++ (a :: words u).map s) ++ (b :: words x).map s) (by simp; omega)) ?_
      simp [words]
end
theorem kid_ok {u v : Vl} (ho : v.ok) (h : (∃ n, v = .tag n u) ∨ (∃ a, v = .r1 a u) ∨ (∃ a b x, v = .r2 a b u x ∨ v = .r2 a b x u)) : u.ok := by
  rcases h with ⟨n, rfl⟩ | ⟨a, rfl⟩ | ⟨a, b, x, rfl | rfl⟩
  · exact ho.2
  · exact ho.2
  · exact ho.2.1
  · exact ho.2.2
theorem words_ok : ∀ (n : Nat) (v : Vl), v.ok → v.ht ≤ 10 → v.ht ≤ n → ∀ S, F_words_of n [.d v.toD] S = .ok (.d (.list ((words v).map s))) S
  | 0, v, _, _, h => by have := v.ht_pos; omega
  | n + 1, v, ho, h10, h => fun S => by
    obtain ⟨S0, e⟩ := words_step (R := F_words_of n) ho h10 fun u hu S => words_ok n u (kid_ok ho hu) (by have := kid_ht hu; omega) (by have := kid_ht hu; omega) S
    exact pure_ok (S0 := S0) (ds := [v.toD]) rfl (run_rt rfl e)
theorem text_of_ok {v : Vl} (ho : v.ok) (h : v.ht ≤ 10) (S : Sto) : F_text_of [.d v.toD] S = .ok (.d (s (txt v))) S := by
  have hln := len_v ho h
  refine pure_ok (S0 := []) (ds := [v.toD]) rfl (run_rt rfl ?_)
  unfold b_text_of st_text_of_1
  refine ret_ok ?_
  unfold metM
  refine Eq.trans (bd_ok (a := .d (s " ")) (S' := []) rfl) (Eq.trans (bd_ok (a := ()) (S' := []) rfl) (Eq.trans (bd_ok (a := [.d (.list ((words v).map s))]) (S' := []) (cons_ok (S1 := []) (cal_ok (ws := [.d v.toD]) (S' := []) rfl (noEx_ok (words_ok 30 v ho h (by omega) []))) rfl)) ?_))
  unfold joinM
  simp only [strsOf_map]
  rw [if_pos (by rw [n2]; omega), join_words]
theorem value_text_ok {v : Vl} {l : D} (ho : v.ok) (hl : Lk v l) (hh : v.ht ≤ 8) (S : Sto) : F_value_text [.d l] S = .ok (.d (s (txt v))) S := by
  refine pureX_ok (S0 := []) (ds := [l]) rfl (run_rt rfl ?_)
  unfold b_value_text st_value_text_1 st_value_text_2
  refine Eq.trans (seq_nx (δ' := [some (.d l)]) (S' := []) (expr_ok (cal_ok (ws := [.d l]) (S' := []) rfl (need_ok (fun S => by rw [value_ok ho hl S, decide_eq_true hh]) [])))) ?_
  exact ret_ok (cal_ok (ws := [.d v.toD]) (S' := []) (cons_ok (S1 := []) (cal_ok (ws := [.d l]) (S' := []) rfl (noEx_ok (fixed_ok v l 30 hl (by omega) []))) rfl) (noEx_ok (text_of_ok ho (by omega) [])))
end DL.k01
namespace DL.k01
open PySem PySem.Spec PyProof.Rows L2 DL

/-! ### the law's own text -/
theorem add_s {a b : Str} {S : Sto} (h : a.length + b.length ≤ 1000000) : addM (.d (s a)) (.d (s b)) S = .ok (.d (s (a ++ b))) S := by
  show (if a.length + b.length ≤ sizeLine then _ else _) = _
  rw [if_pos (Nat.le_trans h small2)]
theorem join_s {fa : Env → M W} {fr : Env → M (List W)} {δ : Env} {a : Str} {ys : List Str} {S : Sto} (h1 : fa δ S = .ok (.d (s a)) S) (h2 : fr δ S = .ok [.d (.list (ys.map s))] S) (hl : (ys.map (·.length)).sum + ys.length * a.length ≤ 16777216) : metM fa fr chkS joinM δ S = .ok (.d (s (Str.join a ys))) S := by
  unfold metM
  refine Eq.trans (bd_ok h1) (Eq.trans (bd_ok (a := ()) (S' := S) rfl) (Eq.trans (bd_ok h2) ?_))
  unfold joinM
  simp only [strsOf_map]
  rw [if_pos hl]
theorem item_txt {R : List W → M W} {x : D} {a : Str} {v : Vl} (hR : ∀ S, R [.d v.toD] S = .ok (.d (s (txt v))) S) (ha : a.length ≤ 8) (hl : (txt v).length ≤ 100000) :
    (binM (binM (binM (varM 1) (cM (.str " ")) addM) (calM (consM (varM 2) nilM) fun ws => noEx (R ws)) addM) (cM (.str " ")) addM) [some (.d x), some (.d (s a)), some (.d v.toD)] [] = .ok (.d (s (((a ++ " ") ++ txt v) ++ " "))) [] := by
  refine bin_ok (S1 := []) (S2 := []) (x := .d (s ((a ++ " ") ++ txt v))) (y := .d (s " ")) (bin_ok (S1 := []) (S2 := []) (x := .d (s (a ++ " "))) (y := .d (s (txt v))) (bin_ok (S1 := []) (S2 := []) (x := .d (s a)) (y := .d (s " ")) rfl rfl (add_s ?_)) (cal_ok (ws := [.d v.toD]) (S' := []) rfl (noEx_ok (hR []))) (add_s ?_)) rfl (add_s ?_)
  · rw [n2]; omega
  · rw [app_len, n2]; omega
  · rw [app_len, app_len, n2]; omega
theorem ltxt_step {R : List W → M W} {v : Vl} (ho : v.ok) (hh : v.ht ≤ 10) (hR : ∀ u : Vl, (∃ n, v = .tag n u) ∨ (∃ a, v = .r1 a u) ∨ (∃ a b x, v = .r2 a b u x ∨ v = .r2 a b x u) → ∀ S, R [.d u.toD] S = .ok (.d (s (txt u))) S) :
    b__law_text R (frH v.toD) [] = .ok (.rt (.d (s (txt v)))) [] := by
  have hln := (len_v ho hh).1
  unfold b__law_text st__law_text_1 st__law_text_2 st__law_text_3
  cases v with
  | atom => exact ret_seq (Eq.trans (if_t (S' := []) (by kernel_rfl)) rfl)
  | tag n u =>
    have hn := tag_len ho.1
    have hu := (len_v (v := u) ho.2 (by simp only [Vl.ht] at hh; omega)).1
    refine Eq.trans (seq_nx (δ' := frH (Vl.tag n u).toD) (S' := []) (Eq.trans (if_f (S' := []) (atom_f rfl (nd_toD (Vl.tag n u)))) rfl)) ?_
    refine ret_seq (Eq.trans (if_t (S' := []) (by kernel_rfl)) (ret_ok ?_))
    refine bin_ok (S1 := []) (S2 := []) (x := .d (s ((("( tag " ++ n) ++ " ") ++ txt u))) (y := .d (s " )")) (bin_ok (S1 := []) (S2 := []) (x := .d (s (("( tag " ++ n) ++ " "))) (y := .d (s (txt u))) (bin_ok (S1 := []) (S2 := []) (x := .d (s ("( tag " ++ n))) (y := .d (s " ")) (bin_ok (S1 := []) (S2 := []) (x := .d (s "( tag ")) (y := .d (s n)) rfl rfl (add_s ?_)) rfl (add_s ?_))
      (cal_ok (ws := [.d u.toD]) (S' := []) rfl (noEx_ok (hR u (.inl ⟨n, rfl⟩) []))) (add_s ?_)) rfl (add_s ?_)
    · rw [n1]; omega
    · rw [app_len, n1, n2]; omega
    · rw [app_len, app_len, n1, n2]; omega
    · rw [app_len, app_len, app_len, n1, n2, n3]; omega
  | r0 =>
    refine Eq.trans (seq_nx (δ' := frH Vl.r0.toD) (S' := []) (Eq.trans (if_f (S' := []) (by kernel_rfl)) rfl)) ?_
    refine Eq.trans (seq_nx (δ' := frH Vl.r0.toD) (S' := []) (Eq.trans (if_f (S' := []) (by kernel_rfl)) rfl)) ?_
    kernel_rfl
  | r1 a u =>
    have hn := fld_len ho.1
    have hu := (len_v (v := u) ho.2 (by simp only [Vl.ht] at hh; omega)).1
    refine Eq.trans (seq_nx (δ' := frH (Vl.r1 a u).toD) (S' := []) (Eq.trans (if_f (S' := []) (atom_f rfl (nd_toD (Vl.r1 a u)))) rfl)) ?_
    refine Eq.trans (seq_nx (δ' := frH (Vl.r1 a u).toD) (S' := []) (Eq.trans (if_f (S' := []) (by kernel_rfl)) rfl)) ?_
    have hj : (Str.join "" [((a ++ " ") ++ txt u) ++ " "]).length ≤ 200000 := by
      show (((a ++ " ") ++ txt u) ++ " ").length ≤ _
      rw [app_len, app_len, app_len, n2]; omega
    refine ret_ok (bin_ok (S1 := []) (S2 := []) (x := .d (s ("( record " ++ Str.join "" [((a ++ " ") ++ txt u) ++ " "]))) (y := .d (s ")")) (bin_ok (S1 := []) (S2 := []) (x := .d (s "( record ")) (y := .d (s (Str.join "" [((a ++ " ") ++ txt u) ++ " "]))) rfl (join_s (ys := [((a ++ " ") ++ txt u) ++ " "]) rfl (cons_ok (S1 := []) ?_ rfl) ?_) (add_s ?_)) rfl (add_s ?_))
    · unfold lcM
      refine Eq.trans (bd_ok (a := [.d (t [s a, u.toD])]) (S' := []) rfl) ?_
      exact Eq.trans (bd_ok (a := [.d (s (((a ++ " ") ++ txt u) ++ " "))]) (S' := []) (comp_step (δ1 := [some (.d (Vl.r1 a u).toD), some (.d (s a)), some (.d u.toD)]) (S2 := []) rfl (item_txt (hR u (.inr (.inl ⟨a, rfl⟩))) hn hu) rfl)) rfl
    · simp only [List.map_cons, List.map_nil, List.sum_cons, List.sum_nil, List.length_cons, List.length_nil, app_len, n2, n6]; omega
    · rw [n4]; omega
    · rw [app_len, n4, n5]; omega
  | r2 a b u x =>
    have hn := pair_len ho.1
    have hu := (len_v (v := u) ho.2.1 (by simp only [Vl.ht] at hh; omega)).1
    have hx := (len_v (v := x) ho.2.2 (by simp only [Vl.ht] at hh; omega)).1
    refine Eq.trans (seq_nx (δ' := frH (Vl.r2 a b u x).toD) (S' := []) (Eq.trans (if_f (S' := []) (atom_f rfl (nd_toD (Vl.r2 a b u x)))) rfl)) ?_
    refine Eq.trans (seq_nx (δ' := frH (Vl.r2 a b u x).toD) (S' := []) (Eq.trans (if_f (S' := []) (by kernel_rfl)) rfl)) ?_
    have hj : (Str.join "" [((a ++ " ") ++ txt u) ++ " ", ((b ++ " ") ++ txt x) ++ " "]).length ≤ 300000 := by
      show ((((a ++ " ") ++ txt u) ++ " ") ++ "" ++ (((b ++ " ") ++ txt x) ++ " ")).length ≤ _
      simp only [app_len, n2, n6]; omega
    refine ret_ok (bin_ok (S1 := []) (S2 := []) (x := .d (s ("( record " ++ Str.join "" [((a ++ " ") ++ txt u) ++ " ", ((b ++ " ") ++ txt x) ++ " "]))) (y := .d (s ")")) (bin_ok (S1 := []) (S2 := []) (x := .d (s "( record ")) (y := .d (s (Str.join "" [((a ++ " ") ++ txt u) ++ " ", ((b ++ " ") ++ txt x) ++ " "]))) rfl (join_s (ys := [((a ++ " ") ++ txt u) ++ " ", ((b ++ " ") ++ txt x) ++ " "]) rfl (cons_ok (S1 := []) ?_ rfl) ?_) (add_s ?_)) rfl (add_s ?_))
    · unfold lcM
      refine Eq.trans (bd_ok (a := [.d (t [s a, u.toD]), .d (t [s b, x.toD])]) (S' := []) rfl) ?_
      refine Eq.trans (bd_ok (a := [.d (s (((a ++ " ") ++ txt u) ++ " ")), .d (s (((b ++ " ") ++ txt x) ++ " "))]) (S' := []) (comp_step (δ1 := [some (.d (Vl.r2 a b u x).toD), some (.d (s a)), some (.d u.toD)]) (S2 := []) rfl (item_txt (hR u (.inr (.inr ⟨a, b, x, .inl rfl⟩))) hn.1 hu) ?_)) rfl
      exact comp_step (δ1 := [some (.d (Vl.r2 a b u x).toD), some (.d (s b)), some (.d x.toD)]) (S2 := []) rfl (item_txt (hR x (.inr (.inr ⟨a, b, u, .inr rfl⟩))) hn.2 hx) rfl
    · simp only [List.map_cons, List.map_nil, List.sum_cons, List.sum_nil, List.length_cons, List.length_nil, app_len, n2, n6]; omega
    · rw [n4]; omega
    · rw [app_len, n4, n5]; omega
theorem ltxt_ok : ∀ (n : Nat) (v : Vl), v.ok → v.ht ≤ 10 → v.ht ≤ n → ∀ S, F__law_text n [.d v.toD] S = .ok (.d (s (txt v))) S
  | 0, v, _, _, h => by have := v.ht_pos; omega
  | n + 1, v, ho, h10, h => fun S => pure_ok (S0 := []) (ds := [v.toD]) rfl (run_rt rfl (ltxt_step ho h10 fun u hu S => ltxt_ok n u (kid_ok ho hu) (by have := kid_ht hu; omega) (by have := kid_ht hu; omega) S))
/-! ### what is drawn -/
theorem pick_ok {S : Sto} {n : Nat} {c : Int} {ds : List D} (h : Pen S n c) (hc : c < 1048576) (h1 : ds ≠ []) (h2 : ds.length < 1000) : ∃ d ∈ ds, ∃ o, F__law_pick [.r n, .d (.list ds)] S = .ok (.d d) (S.set n o) ∧ Pen (S.set n o) n (c + 1) := by
  have hp : 0 < ds.length := List.length_pos_iff.mpr h1
  obtain ⟨k, o, e, k1, k2, hp'⟩ := draw S n c (ds.length : Int) h hc (by omega) (by omega)
  obtain ⟨d, hd, ha⟩ := atI_ok k1 k2
  refine ⟨d, hd, o, ?_, hp'⟩
  unfold F__law_pick
  refine run_rt rfl ?_
  unfold b__law_pick st__law_pick_1
  refine ret_ok (bin_ok (x := .d (.list ds)) (y := .d (.int k)) (S1 := S) (S2 := S.set n o) rfl (cal_ok (ws := [.r n, .d (.int (ds.length : Int))]) (S' := S) (cons_ok (S1 := S) rfl (cons_ok (S1 := S) ?_ rfl)) (noEx_ok e)) (item_l ha))
  refine cal_ok (ws := [.d (.list ds)]) (S' := S) rfl ?_
  simp [lenDM, lenM, seqOf]
theorem set_same {S : Sto} {n : Nat} {o : Ob} (h : S[n]? = some o) : S.set n o = S := by
  obtain ⟨hl, e⟩ := List.getElem?_eq_some_iff.mp h
  rw [← e]
  exact List.set_getElem_self hl
theorem pen_same {S : Sto} {n : Nat} {c : Int} (h : Pen S n c) : ∃ o, S.set n o = S := by
  obtain ⟨_, _, _, q, _⟩ := h.ex
  exact ⟨_, set_same q⟩
theorem int_eq (a b : Int) (S : Sto) : eqM (.d (.int a)) (.d (.int b)) S = .ok (okb (decide (a = b))) S := by
  rw [eq_d (by intro q; cases q) (by simp [PyData.depth]) (by simp only [nd]) (by simp only [nd])]
  simp only [PyData.eqv]
  rw [show (a == b) = decide (a = b) from (by by_cases h : a = b <;> simp [h])]
def subs : List Str → List (List Str)
  | [] => [[]]
  | z :: zs => subs zs ++ (subs zs).map (z :: ·)
/-- how many draws, at most -/
def CV : Nat → Int
  | 0 => 4
  | m + 1 => 6 + 2 * CV m
theorem CV_pos : ∀ m, 4 ≤ CV m
  | 0 => by simp [CV]
  | m + 1 => by have := CV_pos m; simp only [CV]; omega
abbrev frV (p : Nat) (m : Int) (w ns nm : Option W) : Env := [some (.r p), some (.d (.int m)), w, ns, nm]
/-- what is asked of a drawer of values at most so high -/
def Vals_ (R : List W → M W) (p m : Nat) : Prop := ∀ (S : Sto) (c : Int), Pen S p c → c + CV m < 1048576 → ∃ (v : Vl) (o : Ob), R [.r p, .d (.int (m : Nat))] S = .ok (.d v.toD) (S.set p o) ∧ Pen (S.set p o) p (c + CV m) ∧ v.ok ∧ v.ht ≤ m
section
variable {R : List W → M W} {p : Nat} {S : Sto} {c : Int}
/-- a name that is taken or not -/
theorem name_draw (h : Pen S p c) (hc : c < 1048576) {z : Str} {zs : List Str} {m : Int} {w ns nm : Option W}
    (ih : ∀ (S : Sto), Pen S p (c + 1) → ∃ (bs : List Str) (o : Ob), compL [4] (setG 4) (valT (binM (calM (consM (varM 0) (consM (cM (.int 2)) nilM)) fun ws => noEx (F__law_draw ws)) (cM (.int 0)) eqM)) (varM 4) ((zs.map s).map .d) (frV p m w ns nm) S = .ok ((bs.map s).map .d) (S.set p o) ∧ Pen (S.set p o) p (c + 1 + zs.length) ∧ bs ∈ subs zs) :
    ∃ (bs : List Str) (o : Ob), compL [4] (setG 4) (valT (binM (calM (consM (varM 0) (consM (cM (.int 2)) nilM)) fun ws => noEx (F__law_draw ws)) (cM (.int 0)) eqM)) (varM 4) (((z :: zs).map s).map .d) (frV p m w ns nm) S = .ok ((bs.map s).map .d) (S.set p o) ∧ Pen (S.set p o) p (c + (z :: zs).length) ∧ bs ∈ subs (z :: zs) := by
  obtain ⟨k, o, e, k1, k2, hp⟩ := draw S p c 2 h hc (by omega) (by omega)
  obtain ⟨bs, o2, e2, hp2, hb⟩ := ih _ hp
  rw [set_set] at e2 hp2
  have hg : setG 4 (.d (s z)) (wipeE (frV p m w ns nm) [4]) S = .ok (frV p m w ns (some (.d (s z)))) S := rfl
  have ht : valT (binM (calM (consM (varM 0) (consM (cM (.int 2)) nilM)) fun ws => noEx (F__law_draw ws)) (cM (.int 0)) eqM) (frV p m w ns (some (.d (s z)))) S = .ok (decide (k = 0)) (S.set p o) :=
    val_ok (bin_ok (S1 := S.set p o) (S2 := S.set p o) (x := .d (.int k)) (y := .d (.int 0)) (cal_ok (ws := [.r p, .d (.int 2)]) (S' := S) rfl (noEx_ok e)) rfl (int_eq _ _ _))
  have hpen : Pen (S.set p o2) p (c + (z :: zs).length) := hp2.mono (by simp only [List.length_cons]; omega)
  simp only [List.map_cons]
  by_cases hk : k = 0
  · refine ⟨z :: bs, o2, ?_, hpen, ?_⟩
    · conv => lhs; unfold compL
      rw [decide_eq_true hk] at ht
      rw [bd_ok (noEx_ok hg), bd_ok (noEx_ok ht), if_pos rfl, bd_ok (noEx_ok (show varM 4 (frV p m w ns (some (.d (s z)))) (S.set p o) = .ok (.d (s z)) (S.set p o) from rfl)), bd_ok e2]
      rfl
    · exact List.mem_append_right _ (List.mem_map.mpr ⟨bs, hb, rfl⟩)
  · refine ⟨bs, o2, ?_, hpen, ?_⟩
    · conv => lhs; unfold compL
      rw [decide_eq_false hk] at ht
      rw [bd_ok (noEx_ok hg), bd_ok (noEx_ok ht), if_neg Bool.false_ne_true]
      exact e2
    · exact List.mem_append_left _ hb
end
end DL.k01
namespace DL.k01
open PySem PySem.Spec PyProof.Rows L2 DL

theorem cut_map (ds : List Str) (lo hi : Option Int) : cutL (ds.map s) lo hi = (cutL ds lo hi).map s := by
  unfold cutL
  simp [List.map_take, List.map_drop]
def formB : List Str → Bool
  | [] => true
  | [a] => decide (a ∈ fldNs)
  | [a, b] => decide ((a, b) ∈ fldPs)
  | _ => false
theorem form_all : ∀ bs ∈ subs fldNs, formB (cutL bs none (some 2)) = true := by decide +kernel
theorem form_of {l : List Str} (h : formB l = true) : l = [] ∨ (∃ a, l = [a] ∧ a ∈ fldNs) ∨ ∃ a b, l = [a, b] ∧ (a, b) ∈ fldPs := by
  match l, h with
  | [], _ => exact .inl rfl
  | [a], h => exact .inr (.inl ⟨a, rfl, of_decide_eq_true h⟩)
  | [a, b], h => exact .inr (.inr ⟨a, b, rfl, of_decide_eq_true h⟩)
section
variable {R : List W → M W} {p m : Nat}
theorem names_ok {k : Int} {w ns nm : Option W} : ∀ (zs : List Str) (S : Sto) (c : Int), Pen S p c → c + zs.length < 1048576 →
    ∃ (bs : List Str) (o : Ob), compL [4] (setG 4) (valT (binM (calM (consM (varM 0) (consM (cM (.int 2)) nilM)) fun ws => noEx (F__law_draw ws)) (cM (.int 0)) eqM)) (varM 4) ((zs.map s).map .d) (frV p k w ns nm) S = .ok ((bs.map s).map .d) (S.set p o) ∧ Pen (S.set p o) p (c + zs.length) ∧ bs ∈ subs zs
  | [], S, c, h, _ => by
    obtain ⟨o, e⟩ := pen_same h
    exact ⟨[], o, by rw [e]; rfl, by rw [e]; exact h.mono (by simp), by simp [subs]⟩
  | z :: zs, S, c, h, hc => name_draw h (by simp only [List.length_cons] at hc; omega) fun S h => names_ok zs S (c + 1) h (by simp only [List.length_cons] at hc; omega)
theorem sub_m (S : Sto) : subM (.d (.int ((m + 1 : Nat) : Int))) (.d (.int 1)) S = .ok (.d (.int (m : Nat))) S := by
  show Res.ok (W.d (.int (((m + 1 : Nat) : Int) - 1))) S = _
  rw [show ((m + 1 : Nat) : Int) - 1 = (m : Nat) by omega]
theorem cal_R {v : Vl} {δ : Env} {S : Sto} {o : Ob} (h0 : δ[0]? = some (some (.r p))) (h1 : δ[1]? = some (some (.d (.int ((m + 1 : Nat) : Int))))) (e : R [.r p, .d (.int (m : Nat))] S = .ok (.d v.toD) (S.set p o)) :
    calM (consM (varM 0) (consM (binM (varM 1) (cM (.int 1)) subM) nilM)) (fun ws => noEx (R ws)) δ S = .ok (.d v.toD) (S.set p o) :=
  cal_ok (ws := [.r p, .d (.int (m : Nat))]) (S' := S) (cons_ok (S1 := S) (varM_at h0) (cons_ok (S1 := S) (bin_ok (S1 := S) (S2 := S) (varM_at h1) rfl (sub_m S)) rfl)) (noEx_ok e)
theorem st4_ok {k : Int} {w : Option W} {S S' : Sto} {bs : List Str} (hbl : bs.length ≤ 5) (e2 : compL [4] (setG 4) (valT (binM (calM (consM (varM 0) (consM (cM (.int 2)) nilM)) fun ws => noEx (F__law_draw ws)) (cM (.int 0)) eqM)) (varM 4) ((fldNs.map s).map .d) (frV p k w none none) S = .ok ((bs.map s).map .d) S') :
    st__law_value_4 R (frV p k w none none) S = .ok (.nx (frV p k w (some (.d (.list (bs.map s)))) none)) S' := by
  unfold st__law_value_4
  refine asg_ok ?_
  unfold lcM
  refine Eq.trans (bd_ok (a := (fldNs.map s).map .d) (S' := S) (by kernel_rfl)) ?_
  refine Eq.trans (bd_ok e2) ?_
  exact lst_small (by rw [List.length_map]; omega)
theorem st5_ok {k : Int} {w : Option W} {S S' : Sto} {bs : List Str} {fs : List D} (ec : compL [4] (setG 4) yesT (fun δ => bd ((consM (varM 4) (consM (calM (consM (varM 0) (consM (binM (varM 1) (cM (.int 1)) subM) nilM)) fun ws => noEx (R ws)) nilM)) δ) tupM) (((cutL bs none (some 2)).map s).map .d) (frV p k w (some (.d (.list (bs.map s)))) none) S = .ok (fs.map .d) S') (hf : fs.length ≤ 5) :
    st__law_value_5 R (frV p k w (some (.d (.list (bs.map s)))) none) S = .ok (.rt (.d (t [s "record", t fs]))) S' := by
  have hsl : sliceM (.d (.list (bs.map s))) none (some 2) S = .ok (.d (.list ((cutL bs none (some 2)).map s))) S := by
    show Res.ok (W.d (.list (cutL (bs.map s) none (some 2)))) _ = _
    rw [cut_map]
  unfold st__law_value_5
  refine ret_ok (Eq.trans (bd_ok (a := [.d (s "record"), .d (t fs)]) (S' := S') (cons_ok (S1 := S) rfl (cons_ok (S1 := S') (cal_ok (ws := [.d (.list fs)]) (S' := S') (cons_ok (S1 := S') ?_ rfl) rfl) rfl))) rfl)
  unfold lcM
  refine Eq.trans (bd_ok (a := ((cutL bs none (some 2)).map s).map .d) (S' := S) ?_) (Eq.trans (bd_ok ec) (lst_small (by omega)))
  exact Eq.trans (bd_ok (a := .d (.list ((cutL bs none (some 2)).map s))) (S' := S) (Eq.trans (bd_ok (a := .d (.list (bs.map s))) (S' := S) rfl) (Eq.trans (bd_ok (a := none) (S' := S) rfl) (Eq.trans (bd_ok (a := some 2) (S' := S) rfl) hsl)))) rfl
theorem st1_ok {m' : Int} {S : Sto} {o : Ob} {k : Int} (e1 : F__law_draw [.r p, .d (.int 5)] S = .ok (.d (.int k)) (S.set p o)) : st__law_value_1 R (frV p m' none none none) S = .ok (.nx (frV p m' (some (.d (.int k))) none none)) (S.set p o) := by
  unfold st__law_value_1
  exact asg_ok (cal_ok (ws := [.r p, .d (.int 5)]) (S' := S) rfl (noEx_ok e1))
theorem eqT {i : Nat} {δ : Env} {a b : Int} {S : Sto} (h : δ[i]? = some (some (.d (.int a)))) : valT (binM (varM i) (cM (.int b)) eqM) δ S = .ok (decide (a = b)) S := val_ok (bin_ok (S1 := S) (S2 := S) (varM_at h) rfl (int_eq _ _ _))
theorem ltT {i : Nat} {δ : Env} {a b : Int} {S : Sto} (h : δ[i]? = some (some (.d (.int a)))) : valT (binM (varM i) (cM (.int b)) ltM) δ S = .ok (decide (a < b)) S := val_ok (bin_ok (S1 := S) (S2 := S) (varM_at h) rfl (lt_ok _ _ _))
theorem st2_t {m' k : Int} {S S' : Sto} {w : W} (h : m' = 1 ∨ k = 0) (e : F__law_pick [.r p, .d (.list [s "atom", s "atom", t [s "record", t []]])] S = .ok w S') : st__law_value_2 R (frV p m' (some (.d (.int k))) none none) S = .ok (.rt w) S' := by
  unfold st__law_value_2
  refine Eq.trans (if_t (S' := S) ?_) (ret_ok (cal_ok (ws := [.r p, .d (.list [s "atom", s "atom", t [s "record", t []]])]) (S' := S) (by kernel_rfl) (noEx_ok e)))
  have tm := eqT (i := 1) (δ := frV p m' (some (.d (.int k))) none none) (a := m') (b := 1) (S := S) rfl
  have tk := eqT (i := 2) (δ := frV p m' (some (.d (.int k))) none none) (a := k) (b := 0) (S := S) rfl
  by_cases hm : m' = 1
  · rw [decide_eq_true hm] at tm
    exact orT_t tm
  · rw [decide_eq_false hm] at tm
    rw [decide_eq_true (h.resolve_left hm)] at tk
    exact Eq.trans (orT_f tm) tk
theorem st2_f {m' k : Int} {S : Sto} (hm : m' ≠ 1) (hk : k ≠ 0) : st__law_value_2 R (frV p m' (some (.d (.int k))) none none) S = .ok (.nx (frV p m' (some (.d (.int k))) none none)) S := by
  unfold st__law_value_2
  have tm := eqT (i := 1) (δ := frV p m' (some (.d (.int k))) none none) (a := m') (b := 1) (S := S) rfl
  have tk := eqT (i := 2) (δ := frV p m' (some (.d (.int k))) none none) (a := k) (b := 0) (S := S) rfl
  rw [decide_eq_false hm] at tm
  rw [decide_eq_false hk] at tk
  exact Eq.trans (if_f (S' := S) (Eq.trans (orT_f tm) tk)) rfl
theorem st3_f {m' k : Int} {S : Sto} (hk : ¬ k < 3) : st__law_value_3 R (frV p m' (some (.d (.int k))) none none) S = .ok (.nx (frV p m' (some (.d (.int k))) none none)) S := by
  unfold st__law_value_3
  have tk := ltT (i := 2) (δ := frV p m' (some (.d (.int k))) none none) (a := k) (b := 3) (S := S) rfl
  rw [decide_eq_false hk] at tk
  exact Eq.trans (if_f tk) rfl
theorem st3_t {k : Int} {S S1 : Sto} {n : Str} {v : Vl} {o : Ob} (hk : k < 3) (e2 : F__law_pick [.r p, .d (.list [s "a", s "b", s "full", s "zzzzzzzz"])] S = .ok (.d (s n)) S1) (e3 : R [.r p, .d (.int (m : Nat))] S1 = .ok (.d v.toD) (S1.set p o)) :
    st__law_value_3 R (frV p ((m + 1 : Nat) : Int) (some (.d (.int k))) none none) S = .ok (.rt (.d (Vl.tag n v).toD)) (S1.set p o) := by
  unfold st__law_value_3
  have tk := ltT (i := 2) (δ := frV p ((m + 1 : Nat) : Int) (some (.d (.int k))) none none) (a := k) (b := 3) (S := S) rfl
  rw [decide_eq_true hk] at tk
  refine Eq.trans (if_t tk) (ret_ok ?_)
  exact Eq.trans (bd_ok (a := [.d (s "tag"), .d (s n), .d v.toD]) (S' := S1.set p o) (cons_ok (S1 := S) rfl (cons_ok (S1 := S1) (cal_ok (ws := [.r p, .d (.list [s "a", s "b", s "full", s "zzzzzzzz"])]) (S' := S) (by kernel_rfl) (noEx_ok e2)) (cons_ok (S1 := S1.set p o) (cal_R rfl rfl e3) rfl)))) rfl
theorem pair_ok {δ : Env} {S : Sto} {a : Str} {v : Vl} {o : Ob} (h0 : δ[0]? = some (some (.r p))) (h1 : δ[1]? = some (some (.d (.int ((m + 1 : Nat) : Int))))) (h4 : δ[4]? = some (some (.d (s a)))) (e : R [.r p, .d (.int (m : Nat))] S = .ok (.d v.toD) (S.set p o)) :
    (fun δ => bd ((consM (varM 4) (consM (calM (consM (varM 0) (consM (binM (varM 1) (cM (.int 1)) subM) nilM)) fun ws => noEx (R ws)) nilM)) δ) tupM) δ S = .ok (.d (t [s a, v.toD])) (S.set p o) :=
  Eq.trans (bd_ok (a := [.d (s a), .d v.toD]) (S' := S.set p o) (cons_ok (S1 := S) (varM_at h4) (cons_ok (S1 := S.set p o) (cal_R h0 h1 e) rfl))) rfl
theorem lval_step (hR : m = 0 ∨ Vals_ R p m) : Vals_ (runD 2 5 (b__law_value R)) p (m + 1) := by
  intro S c h hc
  have hcv := CV_pos m
  simp only [CV] at hc
  obtain ⟨k, o1, e1, k1, k2, p1⟩ := draw S p c 5 h (by omega) (by omega) (by omega)
  have s1 := st1_ok (R := R) (m' := ((m + 1 : Nat) : Int)) e1
  have go : ∀ (v : Vl) (o : Ob) (cc : Int), seqM (st__law_value_2 R) (seqM (st__law_value_3 R) (seqM (st__law_value_4 R) (st__law_value_5 R))) (frV p ((m + 1 : Nat) : Int) (some (.d (.int k))) none none) (S.set p o1) = .ok (.rt (.d v.toD)) (S.set p o) → Pen (S.set p o) p cc → cc ≤ c + CV (m + 1) → v.ok → v.ht ≤ m + 1 →
      ∃ (v : Vl) (o : Ob), runD 2 5 (b__law_value R) [.r p, .d (.int ((m + 1 : Nat) : Int))] S = .ok (.d v.toD) (S.set p o) ∧ Pen (S.set p o) p (c + CV (m + 1)) ∧ v.ok ∧ v.ht ≤ m + 1 := fun v o cc e pp hcc ho hh =>
    ⟨v, o, run_rt rfl (Eq.trans (seq_nx s1) e), pp.mono hcc, ho, hh⟩
  by_cases q1 : m = 0 ∨ k = 0
  · obtain ⟨d, hd, o2, e2, p2⟩ := pick_ok (ds := [s "atom", s "atom", t [s "record", t []]]) p1 (by omega) (by simp) (by simp)
    rw [set_set] at e2 p2
    have key : ∃ v : Vl, v.toD = d ∧ v.ok ∧ v.ht ≤ 1 := by
      simp only [List.mem_cons, List.not_mem_nil, or_false] at hd
      rcases hd with rfl | rfl | rfl
      · exact ⟨.atom, rfl, trivial, by simp [Vl.ht]⟩
      · exact ⟨.atom, rfl, trivial, by simp [Vl.ht]⟩
      · exact ⟨.r0, rfl, trivial, by simp [Vl.ht]⟩
    obtain ⟨v, rfl, ho, hh⟩ := key
    exact go v o2 _ (seq_rt (st2_t (by omega) e2)) p2 (by simp only [CV]; omega) ho (by omega)
  · have hm : m ≠ 0 := fun z => q1 (.inl z)
    have hk : k ≠ 0 := fun z => q1 (.inr z)
    have hV := hR.resolve_left hm
    have s2 := st2_f (R := R) (p := p) (m' := ((m + 1 : Nat) : Int)) (k := k) (S := S.set p o1) (by omega) hk
    by_cases h3 : k < 3
    · obtain ⟨d, hd, o2, e2, p2⟩ := pick_ok (ds := [s "a", s "b", s "full", s "zzzzzzzz"]) p1 (by omega) (by simp) (by simp)
      have key : ∃ n ∈ tagNs, d = s n := by
        simp only [List.mem_cons, List.not_mem_nil, or_false] at hd
        rcases hd with rfl | rfl | rfl | rfl <;> exact ⟨_, by simp [tagNs], rfl⟩
      obtain ⟨n, hn, rfl⟩ := key
      rw [set_set] at e2 p2
      obtain ⟨v, o3, e3, p3, ho, hh⟩ := hV _ _ p2 (by omega)
      have s3 := st3_t h3 e2 e3
      rw [set_set] at s3 p3
      exact go (.tag n v) o3 _ (Eq.trans (seq_nx s2) (seq_rt s3)) p3 (by simp only [CV]; omega) ⟨hn, ho⟩ (by simp only [Vl.ht]; omega)
    · have s3 := st3_f (R := R) (p := p) (m' := ((m + 1 : Nat) : Int)) (k := k) (S := S.set p o1) h3
      obtain ⟨bs, o2, e2, p2, hb⟩ := names_ok (p := p) (k := ((m + 1 : Nat) : Int)) (w := some (.d (.int k))) (ns := none) (nm := none) fldNs (S.set p o1) (c + 1) p1 (by simp [fldNs]; omega)
      rw [set_set] at e2 p2
      rw [show (fldNs.length : Int) = 5 from rfl] at p2
      have hbl : bs.length ≤ 5 := by
        have : ∀ bs ∈ subs fldNs, bs.length ≤ 5 := by decide +kernel
        exact this bs hb
      have s4 := st4_ok (R := R) hbl e2
      have fin : ∀ (v : Vl) (fs : List D) (o : Ob) (cc : Int), _ → fs.length ≤ 5 → v.toD = t [s "record", t fs] → Pen (S.set p o) p cc → cc ≤ c + CV (m + 1) → v.ok → v.ht ≤ m + 1 → _ := fun v fs o cc ec hf hv pp hcc ho hh =>
        go v o cc (Eq.trans (seq_nx s2) (Eq.trans (seq_nx s3) (Eq.trans (seq_nx s4) (by rw [hv]; exact st5_ok (S' := S.set p o) ec hf)))) pp hcc ho hh
      rcases form_of (form_all bs hb) with q | ⟨a, q, ha⟩ | ⟨a, b, q, hab⟩
      · exact fin .r0 [] o2 _ (by rw [q]; rfl) (by simp) rfl p2 (by simp only [CV]; omega) trivial (by simp only [Vl.ht]; omega)
      · obtain ⟨v, o3, e3, p3, ho, hh⟩ := hV _ _ p2 (by omega)
        have hc1 := pair_ok (R := R) (p := p) (m := m) (v := v) (a := a) (δ := frV p ((m + 1 : Nat) : Int) (some (.d (.int k))) (some (.d (.list (bs.map s)))) (some (.d (s a)))) (S := S.set p o2) (o := o3) rfl rfl rfl e3
        rw [set_set] at hc1 p3
        refine fin (.r1 a v) [t [s a, v.toD]] o3 (c + 1 + 5 + CV m) ?_ (by simp) rfl p3 (by simp only [CV]; omega) ⟨ha, ho⟩ (by simp only [Vl.ht]; omega)
        rw [q]
        exact comp_step (δ1 := frV p ((m + 1 : Nat) : Int) (some (.d (.int k))) (some (.d (.list (bs.map s)))) (some (.d (s a)))) (S2 := S.set p o3) rfl hc1 rfl
      · obtain ⟨v, o3, e3, p3, ho, hh⟩ := hV _ _ p2 (by omega)
        have hc1 := pair_ok (R := R) (p := p) (m := m) (v := v) (a := a) (δ := frV p ((m + 1 : Nat) : Int) (some (.d (.int k))) (some (.d (.list (bs.map s)))) (some (.d (s a)))) (S := S.set p o2) (o := o3) rfl rfl rfl e3
        rw [set_set] at hc1 p3
        obtain ⟨w, o4, e4, p4, ho4, hh4⟩ := hV _ _ p3 (by omega)
        have hc2 := pair_ok (R := R) (p := p) (m := m) (v := w) (a := b) (δ := frV p ((m + 1 : Nat) : Int) (some (.d (.int k))) (some (.d (.list (bs.map s)))) (some (.d (s b)))) (S := S.set p o3) (o := o4) rfl rfl rfl e4
        rw [set_set] at hc2 p4
        refine fin (.r2 a b v w) [t [s a, v.toD], t [s b, w.toD]] o4 (c + 1 + 5 + CV m + CV m) ?_ (by simp) rfl p4 (by simp only [CV]; omega) ⟨hab, ho, ho4⟩ (by simp only [Vl.ht]; omega)
        rw [q]
        refine comp_step (δ1 := frV p ((m + 1 : Nat) : Int) (some (.d (.int k))) (some (.d (.list (bs.map s)))) (some (.d (s a)))) (S2 := S.set p o3) rfl hc1 ?_
        exact comp_step (δ1 := frV p ((m + 1 : Nat) : Int) (some (.d (.int k))) (some (.d (.list (bs.map s)))) (some (.d (s b)))) (S2 := S.set p o4) rfl hc2 rfl
end
theorem lval_ok (p : Nat) : ∀ (n m : Nat), m < n → Vals_ (F__law_value n) p (m + 1)
  | 0, m, h => by omega
  | n + 1, 0, _ => lval_step (.inl rfl)
  | n + 1, m + 1, h => lval_step (.inr (lval_ok p n m (by omega)))
end DL.k01
namespace DL.k01
open PySem PySem.Spec PyProof.Rows L2 DL

/-! ### lists in the place of tuples -/
def Out (F : List W → M W) (p : Nat) (d : D) (Q : D → Prop) (cst : Int) : Prop := ∀ (S : Sto) (c : Int), Pen S p c → c + cst < 1048576 → ∃ e o, F [.r p, .d d] S = .ok (.d e) (S.set p o) ∧ Pen (S.set p o) p (c + cst) ∧ Q e
abbrev frL (p : Nat) (x : D) (f o : Option W) : Env := [some (.r p), some (.d x), f, o]
inductive Outs (F : List W → M W) (p : Nat) : List D → (List D → Prop) → Int → Prop
  | nil : Outs F p [] (fun es => es = []) 0
  | cons {d : D} {ds : List D} {Q : D → Prop} {Qs : List D → Prop} {c1 c2 : Int} : 0 ≤ c1 → 0 ≤ c2 → Out F p d Q c1 → Outs F p ds Qs c2 → Outs F p (d :: ds) (fun es => ∃ e es', es = e :: es' ∧ Q e ∧ Qs es') (c1 + c2)
theorem outs_comp {F : List W → M W} {p : Nat} {x : D} {ds : List D} {Qs : List D → Prop} {cst : Int} (h : Outs F p ds Qs cst) : ∀ (S : Sto) (c : Int), Pen S p c → c + cst < 1048576 →
    ∃ es o, compL [3] (setG 3) yesT (calM (consM (varM 0) (consM (varM 3) nilM)) fun ws => noEx (F ws)) (ds.map .d) (frL p x none none) S = .ok (es.map .d) (S.set p o) ∧ Pen (S.set p o) p (c + cst) ∧ Qs es ∧ es.length = ds.length := by
  induction h with
  | nil =>
    intro S c h _
    obtain ⟨o, e⟩ := pen_same h
    exact ⟨[], o, by rw [e]; rfl, by rw [e]; exact h.mono (by omega), rfl, rfl⟩
  | @cons d ds Q Qs c1 c2 n1 n2 h1 _ ih =>
    intro S c h hc
    obtain ⟨e, o1, e1, p1, q1⟩ := h1 S c h (by omega)
    obtain ⟨es, o2, e2, p2, q2, hl⟩ := ih _ _ p1 (by omega)
    rw [set_set] at e2 p2
    refine ⟨e :: es, o2, ?_, p2.mono (by omega), ⟨e, es, rfl, q1, q2⟩, by simp [hl]⟩
    exact comp_step (δ1 := frL p x none (some (.d d))) (S2 := S.set p o1) rfl (cal_ok (ws := [.r p, .d d]) (S' := S) rfl (noEx_ok e1)) e2
theorem out_str {n p : Nat} {z : Str} (hn : 0 < n) : Out (F__law_listed n) p (s z) (fun e => e = s z) 0 := by
  intro S c h hc
  obtain ⟨m, rfl⟩ : ∃ m, n = m + 1 := ⟨n - 1, by omega⟩
  obtain ⟨o, e⟩ := pen_same h
  refine ⟨s z, o, ?_, by rw [e]; exact h.mono (by omega), rfl⟩
  rw [e]
  refine run_rt rfl ?_
  unfold b__law_listed st__law_listed_1
  exact seq_rt (Eq.trans (if_t (S' := S) rfl) rfl)
theorem out_seq {n p : Nat} {ds : List D} {Qs : List D → Prop} {cst : Int} (hl : ds.length ≤ 1000) (n0 : 0 ≤ cst) (h : Outs (F__law_listed n) p ds Qs cst) : Out (F__law_listed (n + 1)) p (t ds) (fun e => ∃ k es, e = sq k es ∧ Qs es) (cst + 1) := by
  intro S c hp hc
  obtain ⟨es, o1, e1, p1, q1, hle⟩ := outs_comp (x := t ds) h S c hp (by omega)
  obtain ⟨k, o2, e2, k1, k2, p2⟩ := draw _ p (c + cst) 2 p1 (by omega) (by omega) (by omega)
  rw [set_set] at e2 p2
  have tk : valT (binM (calM (consM (varM 0) (consM (cM (.int 2)) nilM)) fun ws => noEx (F__law_draw ws)) (cM (.int 0)) eqM) (frL p (t ds) (some (.d (.list es))) none) (S.set p o1) = .ok (decide (k = 0)) (S.set p o2) :=
    val_ok (bin_ok (S1 := S.set p o2) (S2 := S.set p o2) (x := .d (.int k)) (y := .d (.int 0)) (cal_ok (ws := [.r p, .d (.int 2)]) (S' := S.set p o1) rfl (noEx_ok e2)) rfl (int_eq _ _ _))
  have s2 : st__law_listed_2 (F__law_listed n) (frL p (t ds) none none) S = .ok (.nx (frL p (t ds) (some (.d (.list es))) none)) (S.set p o1) := by
    unfold st__law_listed_2
    refine asg_ok ?_
    unfold lcM
    exact Eq.trans (bd_ok (a := ds.map .d) (S' := S) rfl) (Eq.trans (bd_ok e1) (lst_small (by omega)))
  have s1 : st__law_listed_1 (F__law_listed n) (frL p (t ds) none none) S = .ok (.nx (frL p (t ds) none none)) S := by
    unfold st__law_listed_1
    exact Eq.trans (if_f (S' := S) rfl) rfl
  have fin : ∀ e : D, st__law_listed_3 (F__law_listed n) (frL p (t ds) (some (.d (.list es))) none) (S.set p o1) = .ok (.rt (.d e)) (S.set p o2) → F__law_listed (n + 1) [.r p, .d (t ds)] S = .ok (.d e) (S.set p o2) := fun e h =>
    run_rt rfl (by unfold b__law_listed; exact Eq.trans (seq_nx s1) (Eq.trans (seq_nx s2) h))
  by_cases hk : k = 0
  · rw [decide_eq_true hk] at tk
    refine ⟨.list es, o2, fin _ ?_, p2.mono (by omega), true, es, rfl, q1⟩
    unfold st__law_listed_3
    exact ret_ok (Eq.trans (ifV_t tk) rfl)
  · rw [decide_eq_false hk] at tk
    refine ⟨.tuple es, o2, fin _ ?_, p2.mono (by omega), false, es, rfl, q1⟩
    unfold st__law_listed_3
    exact ret_ok (Eq.trans (ifV_f tk) (cal_ok (ws := [.d (.list es)]) (S' := S.set p o2) rfl rfl))
theorem Out.imp {F : List W → M W} {p : Nat} {d : D} {Q Q' : D → Prop} {c c' : Int} (h : Out F p d Q c) (hq : ∀ e, Q e → Q' e) (hc : c ≤ c') : Out F p d Q' c' := fun S a hp ha => by
  obtain ⟨e, o, e1, p1, q⟩ := h S a hp (by omega)
  exact ⟨e, o, e1, p1.mono (by omega), hq e q⟩
def LC : Vl → Int
  | .atom => 0
  | .tag _ v => LC v + 1
  | .r0 => 2
  | .r1 _ v => LC v + 3
  | .r2 _ _ v w => LC v + LC w + 4
theorem LC_pos : ∀ v : Vl, 0 ≤ LC v
  | .atom => by simp [LC]
  | .tag _ v => by have := LC_pos v; simp only [LC]; omega
  | .r0 => by simp [LC]
  | .r1 _ v => by have := LC_pos v; simp only [LC]; omega
  | .r2 _ _ v w => by have := LC_pos v; have := LC_pos w; simp only [LC]; omega
theorem CV_up : ∀ {a b : Nat}, a ≤ b → CV a ≤ CV b := fun {a b} h => by
  obtain ⟨k, rfl⟩ := Nat.le.dest h
  induction k with
  | zero => exact Int.le_refl _
  | succ k ih =>
    have := ih (by omega)
    have := CV_pos (a + k)
    show CV a ≤ CV ((a + k) + 1)
    simp only [CV]
    omega
theorem LC_le : ∀ (v : Vl) (h : Nat), v.ht ≤ h → LC v ≤ CV h
  | v, 0, hh => by have := v.ht_pos; omega
  | .atom, h + 1, _ => by have := CV_pos h; simp only [LC, CV]; omega
  | .tag _ v, h + 1, hh => by have := LC_le v h (by simp only [Vl.ht] at hh; omega); have := CV_pos h; simp only [LC, CV]; omega
  | .r0, h + 1, _ => by have := CV_pos h; simp only [LC, CV]; omega
  | .r1 _ v, h + 1, hh => by have := LC_le v h (by simp only [Vl.ht] at hh; omega); have := CV_pos h; simp only [LC, CV]; omega
  | .r2 _ _ v w, h + 1, hh => by have := LC_le v h (by simp only [Vl.ht] at hh; omega); have := LC_le w h (by simp only [Vl.ht] at hh; omega); have := CV_pos h; simp only [LC, CV]; omega
theorem listed_ok (p : Nat) : ∀ (v : Vl) (n : Nat), 3 * v.ht ≤ n → Out (F__law_listed n) p v.toD (Lk v) (LC v)
  | .atom, n, h => (out_str (by simp only [Vl.ht] at h; omega)).imp (fun e q => q ▸ .atom) (Int.le_refl _)
  | .tag nm v, n, h => by
    have hp := v.ht_pos
    simp only [Vl.ht] at h
    obtain ⟨m, rfl⟩ : ∃ m, n = m + 1 := ⟨n - 1, by omega⟩
    have := LC_pos v
    refine (out_seq (ds := [s "tag", s nm, v.toD]) (by simp) (by omega) (.cons (Int.le_refl 0) (by omega) (out_str (by omega)) (.cons (Int.le_refl 0) (by omega) (out_str (by omega)) (.cons (LC_pos v) (Int.le_refl 0) (listed_ok p v m (by omega)) .nil)))).imp (fun e q => ?_) (by simp only [LC]; omega)
    obtain ⟨k, es, rfl, e1, es1, rfl, rfl, e2, es2, rfl, rfl, e3, es3, rfl, q3, rfl⟩ := q
    exact .tag k q3
  | .r0, n, h => by
    simp only [Vl.ht] at h
    obtain ⟨m, rfl⟩ : ∃ m, n = m + 2 := ⟨n - 2, by omega⟩
    refine (out_seq (ds := [s "record", t []]) (by simp) (by omega) (.cons (Int.le_refl 0) (by omega) (out_str (by omega)) (.cons (c1 := 0 + 1) (by omega) (Int.le_refl 0) (out_seq (n := m) (by simp) (Int.le_refl 0) .nil) .nil))).imp (fun e q => ?_) (by simp only [LC]; omega)
    obtain ⟨k, es, rfl, e1, es1, rfl, rfl, e2, es2, rfl, ⟨k1, es3, rfl, rfl⟩, rfl⟩ := q
    exact .r0 k k1
  | .r1 a v, n, h => by
    have hp := v.ht_pos
    simp only [Vl.ht] at h
    obtain ⟨m, rfl⟩ : ∃ m, n = m + 3 := ⟨n - 3, by omega⟩
    have lp := LC_pos v
    have pr := out_seq (n := m) (p := p) (ds := [s a, v.toD]) (by simp) (by omega) (.cons (Int.le_refl 0) (by omega) (out_str (by omega)) (.cons lp (Int.le_refl 0) (listed_ok p v m (by omega)) .nil))
    have fs := out_seq (n := m + 1) (p := p) (ds := [t [s a, v.toD]]) (by simp) (by omega) (.cons (by omega) (Int.le_refl 0) pr .nil)
    refine (out_seq (n := m + 2) (ds := [s "record", t [t [s a, v.toD]]]) (by simp) (by omega) (.cons (Int.le_refl 0) (by omega) (out_str (by omega)) (.cons (by omega) (Int.le_refl 0) fs .nil))).imp (fun e q => ?_) (by simp only [LC]; omega)
    obtain ⟨k, es, rfl, e1, es1, rfl, rfl, e2, es2, rfl, ⟨k1, es3, rfl, e4, es4, rfl, ⟨k2, es5, rfl, e6, es6, rfl, rfl, e7, es7, rfl, q7, rfl⟩, rfl⟩, rfl⟩ := q
    exact .r1 k k1 k2 q7
  | .r2 a b v w, n, h => by
    have hp := v.ht_pos
    simp only [Vl.ht] at h
    obtain ⟨m, rfl⟩ : ∃ m, n = m + 3 := ⟨n - 3, by omega⟩
    have lp := LC_pos v
    have lq := LC_pos w
    have pr := out_seq (n := m) (p := p) (ds := [s a, v.toD]) (by simp) (by omega) (.cons (Int.le_refl 0) (by omega) (out_str (by omega)) (.cons lp (Int.le_refl 0) (listed_ok p v m (by omega)) .nil))
    have pr2 := out_seq (n := m) (p := p) (ds := [s b, w.toD]) (by simp) (by omega) (.cons (Int.le_refl 0) (by omega) (out_str (by omega)) (.cons lq (Int.le_refl 0) (listed_ok p w m (by omega)) .nil))
    have fs := out_seq (n := m + 1) (p := p) (ds := [t [s a, v.toD], t [s b, w.toD]]) (by simp) (by omega) (.cons (by omega) (by omega) pr (.cons (by omega) (Int.le_refl 0) pr2 .nil))
    refine (out_seq (n := m + 2) (ds := [s "record", t [t [s a, v.toD], t [s b, w.toD]]]) (by simp) (by omega) (.cons (Int.le_refl 0) (by omega) (out_str (by omega)) (.cons (by omega) (Int.le_refl 0) fs .nil))).imp (fun e q => ?_) (by simp only [LC]; omega)
    obtain ⟨k, es, rfl, e1, es1, rfl, rfl, e2, es2, rfl, ⟨k1, es3, rfl, e4, es4, rfl, ⟨k2, es5, rfl, e6, es6, rfl, rfl, e7, es7, rfl, q7, rfl⟩, e8, es8, rfl, ⟨k3, es9, rfl, e10, es10, rfl, rfl, e11, es11, rfl, q11, rfl⟩, rfl⟩, rfl⟩ := q
    exact .r2 k k1 k2 k3 q7 q11
end DL.k01
namespace DL.k01
open PySem PySem.Spec PyProof.Rows L2 DL

/-! ### what is no value -/
structure Bad (x : D) : Prop where
  a : ∀ S, F_is_so_high 10 [.d x, .d (.int 8), .d (.int 60)] S = .ok (okb false) S
  b : ∀ S, F_is_so_high 9 [.d x, .d (.int 7), .d (.int 60)] S = .ok (okb false) S
theorem bad_value {x : D} (h : ∀ S, F_is_so_high 10 [.d x, .d (.int 8), .d (.int 60)] S = .ok (okb false) S) (S : Sto) : F_is_value [.d x] S = .ok (okb false) S := by
  refine pure_ok (S0 := []) (ds := [x]) rfl (run_rt rfl ?_)
  unfold b_is_value st_is_value_1
  exact ret_ok (cal_ok (ws := [.d x, .d (.int 8), .d (.int 60)]) (S' := []) rfl (noEx_ok (h [])))
def atomBad : List D := [s "Atom", s "", s "atoms", .none, .int 5, .bool true, .list [s "atom"], t [s "atom"], .dict [], s "record"]
theorem bad_atom : ∀ x ∈ atomBad, Bad x := by
  intro x h
  simp only [atomBad, List.mem_cons, List.not_mem_nil, or_false] at h
  rcases h with rfl | rfl | rfl | rfl | rfl | rfl | rfl | rfl | rfl | rfl <;> exact ⟨fun S => by kernel_rfl, fun S => by kernel_rfl⟩
def tagBad (n : Str) (l : D) : List D := [t [s "tag", s n], t [s "tag", s n, l, l], t [s "tags", s n, l], t [s "tag", s "or", l], t [s "tag", s "", l], t [s "tag", .none, l], t [s "tag", s n, .none], t [s "tag", s "a1", l], t [s "tag", t [s n], l]]
theorem bad_tag {n : Str} (hn : n ∈ tagNs) (l : D) : ∀ x ∈ tagBad n l, Bad x := by
  intro x h
  simp only [tagBad, List.mem_cons, List.not_mem_nil, or_false] at h
  rcases h with rfl | rfl | rfl | rfl | rfl | rfl | rfl | rfl | rfl
  case inr.inr.inr.inr.inr.inr.inl =>
    simp only [tagNs, List.mem_cons, List.not_mem_nil, or_false] at hn
    rcases hn with rfl | rfl | rfl | rfl <;> exact ⟨fun S => by kernel_rfl, fun S => by kernel_rfl⟩
  all_goals exact ⟨fun S => by kernel_rfl, fun S => by kernel_rfl⟩
/-- the fields of a record -/
inductive Sh where
  | z
  | o (a : Str) (l : D)
  | w (a b : Str) (l m : D)
def Sh.fs : Sh → List D
  | .z => []
  | .o a l => [t [s a, l]]
  | .w a b l m => [t [s a, l], t [s b, m]]
def Sh.more : Sh → List D
  | .z => []
  | .o a l => [t [s (a ++ "x"), l]]
  | .w a b l m => [t [s (a ++ "x"), l], t [s (b ++ "x"), m]]
def Sh.ok : Sh → Prop
  | .z => True
  | .o a _ => a ∈ fldNs
  | .w a b _ _ => (a, b) ∈ fldPs
def recBad (h : Sh) : List D := [t [s "record"], t [s "record", t h.fs, t h.fs], t [s "records", t h.fs], t [s "record", .none], t [s "record", s "atom"], t [s "record", t (h.fs ++ [t [s "a", s "atom"], t [s "a", s "atom"]])], t [s "record", t [t [s "b", s "atom"], t [s "a", s "atom"]]],
  t [s "record", t [t [s "a"]]], t [s "record", t [t [s "a", s "atom", s "atom"]]], t [s "record", t (h.more ++ [t [.none, s "atom"]])], t [s "record", t [t [s "with", s "atom"]]], t [s "record", t [s "a"]], t [s "record", t [t [s "a", .none]]]]
theorem bad_rec (h : Sh) (ho : h.ok) : ∀ x ∈ recBad h, Bad x := by
  intro x hx
  simp only [recBad, List.mem_cons, List.not_mem_nil, or_false] at hx
  rcases hx with rfl | rfl | rfl | rfl | rfl | rfl | rfl | rfl | rfl | rfl | rfl | rfl | rfl
  case inr.inr.inr.inr.inr.inl =>
    cases h with
    | z => exact ⟨fun S => by kernel_rfl, fun S => by kernel_rfl⟩
    | o a l =>
      simp only [Sh.ok, fldNs, List.mem_cons, List.not_mem_nil, or_false] at ho
      rcases ho with rfl | rfl | rfl | rfl | rfl <;> exact ⟨fun S => by kernel_rfl, fun S => by kernel_rfl⟩
    | w a b l m =>
      simp only [Sh.ok, fldPs, List.mem_cons, List.not_mem_nil, or_false, Prod.mk.injEq] at ho
      rcases ho with ⟨rfl, rfl⟩ | ⟨rfl, rfl⟩ | ⟨rfl, rfl⟩ | ⟨rfl, rfl⟩ | ⟨rfl, rfl⟩ | ⟨rfl, rfl⟩ | ⟨rfl, rfl⟩ | ⟨rfl, rfl⟩ | ⟨rfl, rfl⟩ | ⟨rfl, rfl⟩ <;> exact ⟨fun S => by kernel_rfl, fun S => by kernel_rfl⟩
  case inr.inr.inr.inr.inr.inr.inr.inr.inr.inl =>
    cases h with
    | z => exact ⟨fun S => by kernel_rfl, fun S => by kernel_rfl⟩
    | o a l =>
      simp only [Sh.ok, fldNs, List.mem_cons, List.not_mem_nil, or_false] at ho
      rcases ho with rfl | rfl | rfl | rfl | rfl <;> exact ⟨fun S => by kernel_rfl, fun S => by kernel_rfl⟩
    | w a b l m =>
      simp only [Sh.ok, fldPs, List.mem_cons, List.not_mem_nil, or_false, Prod.mk.injEq] at ho
      rcases ho with ⟨rfl, rfl⟩ | ⟨rfl, rfl⟩ | ⟨rfl, rfl⟩ | ⟨rfl, rfl⟩ | ⟨rfl, rfl⟩ | ⟨rfl, rfl⟩ | ⟨rfl, rfl⟩ | ⟨rfl, rfl⟩ | ⟨rfl, rfl⟩ | ⟨rfl, rfl⟩ <;> exact ⟨fun S => by kernel_rfl, fun S => by kernel_rfl⟩
  all_goals first | exact ⟨fun S => by kernel_rfl, fun S => by kernel_rfl⟩ | (cases h <;> exact ⟨fun S => by kernel_rfl, fun S => by kernel_rfl⟩)
abbrev frB (p : Nat) (x : D) (wd nm one fl mo so : Option W) : Env := [some (.r p), some (.d x), wd, nm, one, fl, mo, so]
section
variable {p : Nat} {S S' : Sto} {w : W}
theorem bent_atom (e : F__law_pick [.r p, .d (.list atomBad)] S = .ok w S') : F__law_bent [.r p, .d (s "atom")] S = .ok w S' := by
  refine run_rt rfl ?_
  unfold b__law_bent st__law_bent_1
  exact seq_rt (Eq.trans (if_t (S' := S) (by kernel_rfl)) (ret_ok (cal_ok (ws := [.r p, .d (.list atomBad)]) (S' := S) (by kernel_rfl) (noEx_ok e))))
theorem bent_tag {n : Str} {l : D} (hn : nd l = true) (e : F__law_pick [.r p, .d (.list (tagBad n l))] S = .ok w S') : F__law_bent [.r p, .d (t [s "tag", s n, l])] S = .ok w S' := by
  refine run_rt rfl ?_
  unfold b__law_bent st__law_bent_1 st__law_bent_2
  refine Eq.trans (seq_nx (δ' := frB p (t [s "tag", s n, l]) none none none none none none) (S' := S) (Eq.trans (if_f (S' := S) (atom_f rfl (by simp [nd, ndA, hn]))) rfl)) ?_
  refine seq_rt (Eq.trans (if_t (S' := S) (by kernel_rfl)) ?_)
  refine Eq.trans (seq_nx (δ' := frB p (t [s "tag", s n, l]) (some (.d (s "tag"))) (some (.d (s n))) (some (.d l)) none none none) (S' := S) (by kernel_rfl)) ?_
  exact ret_ok (cal_ok (ws := [.r p, .d (.list (tagBad n l))]) (S' := S) (by kernel_rfl) (noEx_ok e))
theorem bent_rec (h : Sh) (ho : h.ok) (hn : nd (t h.fs) = true) (e : F__law_pick [.r p, .d (.list (recBad h))] S = .ok w S') : F__law_bent [.r p, .d (t [s "record", t h.fs])] S = .ok w S' := by
  refine run_rt rfl ?_
  unfold b__law_bent st__law_bent_1 st__law_bent_2 st__law_bent_3 st__law_bent_4 st__law_bent_5 st__law_bent_6
  refine Eq.trans (seq_nx (δ' := frB p (t [s "record", t h.fs]) none none none none none none) (S' := S) (Eq.trans (if_f (S' := S) (atom_f rfl (by simpa [nd, ndA] using hn))) rfl)) ?_
  refine Eq.trans (seq_nx (δ' := frB p (t [s "record", t h.fs]) none none none none none none) (S' := S) (Eq.trans (if_f (S' := S) (by kernel_rfl)) rfl)) ?_
  refine Eq.trans (seq_nx (δ' := frB p (t [s "record", t h.fs]) (some (.d (s "record"))) none none (some (.d (t h.fs))) none none) (S' := S) (by kernel_rfl)) ?_
  refine Eq.trans (seq_nx (δ' := frB p (t [s "record", t h.fs]) (some (.d (s "record"))) none none (some (.d (t h.fs))) (some (.d (t h.more))) none) (S' := S) ?_) ?_
  · cases h with
    | z => kernel_rfl
    | o a l =>
      simp only [Sh.ok, fldNs, List.mem_cons, List.not_mem_nil, or_false] at ho
      rcases ho with rfl | rfl | rfl | rfl | rfl <;> kernel_rfl
    | w a b l m =>
      simp only [Sh.ok, fldPs, List.mem_cons, List.not_mem_nil, or_false, Prod.mk.injEq] at ho
      rcases ho with ⟨rfl, rfl⟩ | ⟨rfl, rfl⟩ | ⟨rfl, rfl⟩ | ⟨rfl, rfl⟩ | ⟨rfl, rfl⟩ | ⟨rfl, rfl⟩ | ⟨rfl, rfl⟩ | ⟨rfl, rfl⟩ | ⟨rfl, rfl⟩ | ⟨rfl, rfl⟩ <;> kernel_rfl
  refine Eq.trans (seq_nx (δ' := frB p (t [s "record", t h.fs]) (some (.d (s "record"))) none none (some (.d (t h.fs))) (some (.d (t h.more))) (some (.d (.list ((recBad h).take 7))))) (S' := S) ?_) ?_
  · cases h <;> kernel_rfl
  · refine ret_ok (cal_ok (ws := [.r p, .d (.list (recBad h))]) (S' := S) ?_ (noEx_ok e))
    cases h <;> kernel_rfl
end
theorem bent_ok {v : Vl} (ho : v.ok) {p : Nat} {S : Sto} {c : Int} (h : Pen S p c) (hc : c < 1048576) : ∃ x o, F__law_bent [.r p, .d v.toD] S = .ok (.d x) (S.set p o) ∧ Pen (S.set p o) p (c + 1) ∧ Bad x := by
  have nv := nd_toD v
  have rec_ : ∀ (g : Sh), g.ok → nd (t g.fs) = true → v.toD = t [s "record", t g.fs] → ∃ x o, F__law_bent [.r p, .d v.toD] S = .ok (.d x) (S.set p o) ∧ Pen (S.set p o) p (c + 1) ∧ Bad x := fun g h1 h2 h3 => by
    obtain ⟨x, hx, o, e, p1⟩ := pick_ok (ds := recBad g) h hc (by simp [recBad]) (by simp [recBad])
    exact ⟨x, o, by rw [h3]; exact bent_rec g h1 h2 e, p1, bad_rec g h1 x hx⟩
  cases v with
  | atom =>
    obtain ⟨x, hx, o, e, p1⟩ := pick_ok (ds := atomBad) h hc (by simp [atomBad]) (by simp [atomBad])
    exact ⟨x, o, bent_atom e, p1, bad_atom x hx⟩
  | tag n u =>
    obtain ⟨x, hx, o, e, p1⟩ := pick_ok (ds := tagBad n u.toD) h hc (by simp [tagBad]) (by simp [tagBad])
    exact ⟨x, o, bent_tag (nd_toD u) e, p1, bad_tag ho.1 _ x hx⟩
  | r0 => exact rec_ .z trivial rfl rfl
  | r1 a u => exact rec_ (.o a u.toD) ho.1 (by simp [Sh.fs, nd, ndA, nd_toD u]) rfl
  | r2 a b u w => exact rec_ (.w a b u.toD w.toD) ho.1 (by simp [Sh.fs, nd, ndA, nd_toD u, nd_toD w]) rfl
/-! ### around it -/
theorem wrap_tag {x : D} (h : Bad x) (S : Sto) : F_is_value [.d (t [s "tag", s "a", x])] S = .ok (okb false) S := by
  refine bad_value (fun S => ?_) S
  refine pure_ok (S0 := []) (ds := [t [s "tag", s "a", x], .int 8, .int 60]) rfl (run_rt rfl ?_)
  exact soh_tag (R := F_is_so_high 9) (i := 8) (l := x) (n := "a") (b1 := false) false (by omega) (name_tag (by simp [tagNs])) h.b
theorem wrap_rec {x : D} (h : Bad x) (S : Sto) : F_is_value [.d (t [s "record", t [t [s "a", x], t [s "b", s "atom"]]])] S = .ok (okb false) S := by
  refine bad_value (fun S => ?_) S
  refine pure_ok (S0 := []) (ds := [t [s "record", t [t [s "a", x], t [s "b", s "atom"]]], .int 8, .int 60]) rfl (run_rt rfl ?_)
  exact soh_r2 (R := F_is_so_high 9) (i := 8) (l := x) (m := s "atom") (a := "a") (b := "b") (b1 := false) (b2 := true) false false false false (by omega) (fields_2 (by simp [fldPs]) false false false x (s "atom")) (fun _ => h.b) (fun _ S => by kernel_rfl)
theorem within_ok {x : D} (hb : Bad x) {p : Nat} {S : Sto} {c : Int} (h : Pen S p c) (hc : c < 1048576) : ∃ y o, F__law_within [.r p, .d (s "atom"), .d x] S = .ok (.d y) (S.set p o) ∧ Pen (S.set p o) p (c + 1) ∧ ∀ S, F_is_value [.d y] S = .ok (okb false) S := by
  obtain ⟨k, o, e, k1, k2, p1⟩ := draw S p c 2 h hc (by omega) (by omega)
  have s1 : st__law_within_1 [some (.r p), some (.d (s "atom")), some (.d x), none] S = .ok (.nx [some (.r p), some (.d (s "atom")), some (.d x), some (.d (.int k))]) (S.set p o) := by
    unfold st__law_within_1
    exact asg_ok (cal_ok (ws := [.r p, .d (.int 2)]) (S' := S) rfl (noEx_ok e))
  have tk := eqT (i := 3) (δ := [some (.r p), some (.d (s "atom")), some (.d x), some (.d (.int k))]) (a := k) (b := 0) (S := S.set p o) rfl
  by_cases hk : k = 0
  · rw [decide_eq_true hk] at tk
    refine ⟨_, o, run_rt rfl (Eq.trans (seq_nx s1) (ret_ok (Eq.trans (ifV_t tk) ?_))), p1, wrap_tag hb⟩
    rfl
  · rw [decide_eq_false hk] at tk
    refine ⟨_, o, run_rt rfl (Eq.trans (seq_nx s1) (ret_ok (Eq.trans (ifV_f tk) ?_))), p1, wrap_rec hb⟩
    rfl
/-! ### what is heard -/
theorem heard_ok {PT : Addr} {ws : List W} {js : List Nat} {fb : Env → M W} {δ : Env} {S : Sto} (h0 : S[0]? = some (.tab PT qL)) (hb : fb (lamW ws js δ) S = .ex badE S) : heardM PT qL errs f__law_heard ws js fb δ S = .ok (.d (t [s "value", s "value"])) S := by
  unfold heardM
  simp only [h0]
  rw [if_pos ⟨trivial, trivial⟩, hb]
  kernel_rfl
end DL.k01
namespace DL.k01
open PySem PySem.Spec PyProof.Rows L2 DL

abbrev frK (sc tn v l b hi td wd so sg nm ot mn : Option W) : Env := [sc, some (.r 1), tn, v, l, b, hi, td, wd, so, sg, nm, ot, mn]
theorem tail_ok (PT : Addr) (sc tn v l b hi : Option W) (S : Sto) : seqM (st_law_12 PT) (seqM (st_law_13 PT) (seqM (forM (fun δ => bd ((cM (.str "abc")) δ) iterM) (setG 10) (body_law_3 PT)) (seqM (st_law_15 PT) (st_law_16 PT)))) (frK sc tn v l b hi (some (.d (.list [.bool true, .bool false, .bool false, .int 8]))) none none none none none none) S = .ok (.rt (.d (.bool true))) S := by kernel_rfl
end DL.k01
namespace DL.k01
open PySem PySem.Spec PyProof.Rows L2 DL

theorem small_lst {ds : List D} {S : Sto} (h : ds.length ≤ 1000000) : lstM (ds.map .d) S = .ok (.d (.list ds)) S := lst_small h
theorem pen_ok (PT : Addr) (ns : List Int) (h : ns.length ≤ 63) : ∃ cs : List Int, cs.length ≤ 63 ∧ F__law_pen [.s ns] [.tab PT qL] = .ok (.r 1) [.tab PT qL, penO cs 0 0] := by
  have hl : (cutL ns none (some 63)).length ≤ 63 := by
    unfold cutL
    rw [List.length_take, List.length_drop]
    omega
  refine ⟨cutL ns none (some 63), hl, ?_⟩
  generalize hcs : cutL ns none (some 63) = cs at hl
  unfold F__law_pen
  refine run_rt rfl ?_
  unfold b__law_pen st__law_pen_1
  have hc : compL [1] (setG 1) yesT (calM (consM (varM 1) nilM) intM) ((cs.map PyData.int).map .d) [some (.s ns), none] [.tab PT qL] = .ok ((cs.map PyData.int).map .d) [.tab PT qL] := by
    have := comp_all (own := [1]) (g := setG 1) (e := calM (consM (varM 1) nilM) intM) (δ := [some (.s ns), none]) (S := [.tab PT qL]) (fun w => w) (ws := (cs.map PyData.int).map .d) (fun w hw => by
      obtain ⟨k, hk, rfl⟩ := List.mem_map.mp hw
      obtain ⟨i, _, rfl⟩ := List.mem_map.mp hk
      exact ⟨_, rfl, rfl⟩)
    rw [this, List.map_id']
  refine ret_ok (Eq.trans (bd_ok (a := [.d (.list (cs.map .int)), .d (.int 0), .d (.int 0)]) (S' := [.tab PT qL]) (cons_ok (S1 := [.tab PT qL]) ?_ rfl)) rfl)
  unfold lcM
  refine Eq.trans (bd_ok (a := (cs.map PyData.int).map .d) (S' := [.tab PT qL]) ?_) ?_
  · rw [← hcs]; rfl
  refine Eq.trans (bd_ok hc) ?_
  exact small_lst (by rw [List.length_map]; omega)
section
variable {PT : Addr} {S : Sto} {c : Int} {sc tn hi td wd so sg nm ot mn : Option W}
theorem turn_2 (h : Pen S 1 c) (hc : c + 5000 < 1048576) (v l b : Option W) : ∃ (u : Vl) (o : Ob), st_law_2 PT (frK sc tn v l b hi td wd so sg nm ot mn) S = .ok (.nx (frK sc tn (some (.d u.toD)) l b hi td wd so sg nm ot mn)) (S.set 1 o) ∧ Pen (S.set 1 o) 1 (c + 1300) ∧ u.ok ∧ u.ht ≤ 7 := by
  obtain ⟨k, o, e, k1, k2, p1⟩ := draw S 1 c 7 h (by omega) (by omega) (by omega)
  obtain ⟨m, rfl⟩ : ∃ m : Nat, k = (m : Int) := ⟨k.toNat, by omega⟩
  have hcv : CV (m + 1) ≤ CV 7 := CV_up (by omega)
  have h7 : CV 7 = 1274 := by decide
  obtain ⟨u, o2, e2, p2, ho, hh⟩ := lval_ok 1 30 m (by omega) _ _ p1 (by omega)
  rw [set_set] at e2 p2
  refine ⟨u, o2, ?_, p2.mono (by omega), ho, by omega⟩
  unfold st_law_2
  refine asg_ok (cal_ok (ws := [.r 1, .d (.int ((m + 1 : Nat) : Int))]) (S' := S.set 1 o) (cons_ok (S1 := S) rfl (cons_ok (S1 := S.set 1 o) (bin_ok (S1 := S) (S2 := S.set 1 o) (x := .d (.int 1)) (y := .d (.int (m : Nat))) rfl (cal_ok (ws := [.r 1, .d (.int 7)]) (S' := S) rfl (noEx_ok e)) ?_) rfl)) (noEx_ok e2))
  show Res.ok (W.d (.int (1 + (m : Int)))) _ = _
  rw [show 1 + (m : Int) = ((m + 1 : Nat) : Int) by omega]
theorem turn_3 (h : Pen S 1 c) (hc : c + 5000 < 1048576) {u : Vl} (hh : u.ht ≤ 7) (l b : Option W) : ∃ (x : D) (o : Ob), st_law_3 PT (frK sc tn (some (.d u.toD)) l b hi td wd so sg nm ot mn) S = .ok (.nx (frK sc tn (some (.d u.toD)) (some (.d x)) b hi td wd so sg nm ot mn)) (S.set 1 o) ∧ Pen (S.set 1 o) 1 (c + 1300) ∧ Lk u x := by
  have h7 : CV 7 = 1274 := by decide
  have hl := LC_le u 7 hh
  obtain ⟨x, o, e, p, q⟩ := listed_ok 1 u 30 (by omega) S c h (by omega)
  refine ⟨x, o, ?_, p.mono (by omega), q⟩
  unfold st_law_3
  exact asg_ok (cal_ok (ws := [.r 1, .d u.toD]) (S' := S) rfl (noEx_ok e))
theorem ne_int (a : Int) (S : Sto) : neM (.d (.int a)) (.d (.int a)) S = .ok (okb false) S := ne_same (by simp [PyData.depth]) (by simp only [nd])
theorem ne_str (a : Str) (S : Sto) : neM (.d (s a)) (.d (s a)) S = .ok (okb false) S := ne_same (by simp [PyData.depth]) (by simp only [nd])
theorem turn_4 {u : Vl} {x : D} (ho : u.ok) (hh : u.ht ≤ 7) (hl : Lk u x) (b : Option W) : st_law_4 PT (frK sc tn (some (.d u.toD)) (some (.d x)) b hi td wd so sg nm ot mn) S = .ok (.nx (frK sc tn (some (.d u.toD)) (some (.d x)) b hi td wd so sg nm ot mn)) S := by
  have v1 := value_ok ho (Lk.same u) S
  have v2 := value_ok ho hl S
  rw [decide_eq_true (by omega)] at v1 v2
  have hg := lhi_ok 30 u (by omega) S
  unfold st_law_4
  refine Eq.trans (if_f (S' := S) (Eq.trans (orT_f (S1 := S) (val_ok (bin_ok (S1 := S) (S2 := S) (x := okb true) (cal_ok (ws := [.d u.toD]) (S' := S) rfl (noEx_ok v1)) rfl rfl))) (Eq.trans (orT_f (S1 := S) (val_ok (bin_ok (S1 := S) (S2 := S) (x := okb true) (calK_ok (xs := []) (ys := [.d x]) (zs := [.d x]) (S1 := S) (S2 := S) rfl rfl rfl (noEx_ok v2)) rfl rfl)))
    (Eq.trans (orT_f (S1 := S) (val_ok (bin_ok (S1 := S) (S2 := S) (x := .d (.int (u.ht : Nat))) (y := .d (.int (u.ht : Nat))) (cal_ok (ws := [.d x]) (S' := S) rfl (noEx_ok (noEx_ok (height_ok ho hl (by omega) S)))) (cal_ok (ws := [.d u.toD]) (S' := S) rfl (noEx_ok hg)) (ne_int _ _))))
      (val_ok (bin_ok (S1 := S) (S2 := S) (x := .d (.int (u.ht : Nat))) (y := .d (.int (u.ht : Nat))) (calK_ok (xs := []) (ys := [.d u.toD]) (zs := [.d u.toD]) (S1 := S) (S2 := S) rfl rfl rfl (noEx_ok (noEx_ok (height_ok ho (Lk.same u) (by omega) S)))) (cal_ok (ws := [.d u.toD]) (S' := S) rfl (noEx_ok hg)) (ne_int _ _))))))) rfl
theorem turn_5 {u : Vl} {x : D} (ho : u.ok) (hh : u.ht ≤ 7) (hl : Lk u x) (b : Option W) : st_law_5 PT (frK sc tn (some (.d u.toD)) (some (.d x)) b hi td wd so sg nm ot mn) S = .ok (.nx (frK sc tn (some (.d u.toD)) (some (.d x)) b hi td wd so sg nm ot mn)) S := by
  have hg := ltxt_ok 30 u ho (by omega) (by omega) S
  unfold st_law_5
  refine Eq.trans (if_f (S' := S) (Eq.trans (orT_f (S1 := S) (val_ok (bin_ok (S1 := S) (S2 := S) (x := .d (s (txt u))) (y := .d (s (txt u))) (cal_ok (ws := [.d u.toD]) (S' := S) rfl (noEx_ok (noEx_ok (value_text_ok ho (Lk.same u) (by omega) S)))) (cal_ok (ws := [.d u.toD]) (S' := S) rfl (noEx_ok hg)) (ne_str _ _))))
    (val_ok (bin_ok (S1 := S) (S2 := S) (x := .d (s (txt u))) (y := .d (s (txt u))) (calK_ok (xs := []) (ys := [.d x]) (zs := [.d x]) (S1 := S) (S2 := S) rfl rfl rfl (noEx_ok (noEx_ok (value_text_ok ho hl (by omega) S)))) (cal_ok (ws := [.d u.toD]) (S' := S) rfl (noEx_ok hg)) (ne_str _ _))))) rfl
theorem turn_67 (h : Pen S 1 c) (hc : c + 5000 < 1048576) {u : Vl} (ho : u.ok) (l b : Option W) : ∃ (y : D) (o : Ob), seqM (st_law_6 PT) (seqM (st_law_7 PT) (st_law_8 PT)) (frK sc tn (some (.d u.toD)) l b hi td wd so sg nm ot mn) S = st_law_8 PT (frK sc tn (some (.d u.toD)) l (some (.d y)) hi td wd so sg nm ot mn) (S.set 1 o) ∧ Pen (S.set 1 o) 1 (c + 3) ∧ ∀ S, F_is_value [.d y] S = .ok (okb false) S := by
  obtain ⟨x, o1, e1, p1, hb⟩ := bent_ok ho h (by omega)
  have s6 : st_law_6 PT (frK sc tn (some (.d u.toD)) l b hi td wd so sg nm ot mn) S = .ok (.nx (frK sc tn (some (.d u.toD)) l (some (.d x)) hi td wd so sg nm ot mn)) (S.set 1 o1) := by
    unfold st_law_6
    exact asg_ok (cal_ok (ws := [.r 1, .d u.toD]) (S' := S) rfl (noEx_ok e1))
  obtain ⟨k, o2, e2, k1, k2, p2⟩ := draw _ 1 _ 2 p1 (by omega) (by omega) (by omega)
  rw [set_set] at e2 p2
  have tk : valT (binM (calM (consM (varM 1) (consM (cM (.int 2)) nilM)) fun ws => noEx (F__law_draw ws)) (cM (.int 0)) eqM) (frK sc tn (some (.d u.toD)) l (some (.d x)) hi td wd so sg nm ot mn) (S.set 1 o1) = .ok (decide (k = 0)) (S.set 1 o2) :=
    val_ok (bin_ok (S1 := S.set 1 o2) (S2 := S.set 1 o2) (x := .d (.int k)) (y := .d (.int 0)) (cal_ok (ws := [.r 1, .d (.int 2)]) (S' := S.set 1 o1) rfl (noEx_ok e2)) rfl (int_eq _ _ _))
  by_cases hk : k = 0
  · rw [decide_eq_true hk] at tk
    obtain ⟨y, o3, e3, p3, hy⟩ := within_ok hb p2 (by omega)
    rw [set_set] at e3 p3
    refine ⟨y, o3, ?_, p3.mono (by omega), hy⟩
    refine Eq.trans (seq_nx s6) (seq_nx ?_)
    unfold st_law_7
    exact Eq.trans (if_t tk) (asg_ok (cal_ok (ws := [.r 1, .d (s "atom"), .d x]) (S' := S.set 1 o2) rfl (noEx_ok e3)))
  · rw [decide_eq_false hk] at tk
    refine ⟨x, o2, ?_, p2.mono (by omega), bad_value hb.a⟩
    refine Eq.trans (seq_nx s6) (seq_nx ?_)
    unfold st_law_7
    exact Eq.trans (if_f tk) rfl
theorem turn_8 (h0 : S[0]? = some (.tab PT qL)) {y : D} (hy : ∀ S, F_is_value [.d y] S = .ok (okb false) S) (v l : Option W) : st_law_8 PT (frK sc tn v l (some (.d y)) hi td wd so sg nm ot mn) S = .ok (.nx (frK sc tn v l (some (.d y)) hi td wd so sg nm ot mn)) S := by
  unfold st_law_8
  have l1 : heardM PT qL errs f__law_heard [] [5] (calM (consM (varM 0) nilM) F_height) (frK sc tn v l (some (.d y)) hi td wd so sg nm ot mn) S = .ok (.d (t [s "value", s "value"])) S :=
    heard_ok h0 (cal_ex (ws := [.d y]) (S' := S) rfl (height_bad hy S))
  have l2 : heardM PT qL errs f__law_heard [.d (.int 0)] [5] (calM (consM (varM 1) nilM) F_value_text) (frK sc tn v l (some (.d y)) hi td wd so sg nm ot mn) S = .ok (.d (t [s "value", s "value"])) S :=
    heard_ok h0 (cal_ex (ws := [.d y]) (S' := S) rfl (text_bad hy S))
  refine Eq.trans (if_f (S' := S) (Eq.trans (orT_f (S1 := S) (val_ok (bin_ok (S1 := S) (S2 := S) (x := okb false) (cal_ok (ws := [.d y]) (S' := S) rfl (noEx_ok (hy S))) rfl rfl))) ?_)) rfl
  refine val_ok (bin_ok (S1 := S) (S2 := S) (x := .d (.list [t [s "value", s "value"], t [s "value", s "value"]])) (y := .d (.list [t [s "value", s "value"], t [s "value", s "value"]])) ?_ (by kernel_rfl) (by kernel_rfl))
  exact Eq.trans (bd_ok (cons_ok (S1 := S) l1 (cons_ok (S1 := S) l2 rfl))) (lst_small (ds := [t [s "value", s "value"], t [s "value", s "value"]]) (by simp))
theorem turn_ok (h0 : S[0]? = some (.tab PT qL)) (h : Pen S 1 c) (hc : c + 10000 < 1048576) (v l b : Option W) :
    ∃ (o : Ob) (v' l' b' : Option W), body_law_1 PT (frK sc tn v l b hi td wd so sg nm ot mn) S = .ok (.nx (frK sc tn v' l' b' hi td wd so sg nm ot mn)) (S.set 1 o) ∧ Pen (S.set 1 o) 1 (c + 3000) := by
  obtain ⟨u, o1, e1, p1, ho, hh⟩ := turn_2 (PT := PT) (sc := sc) (tn := tn) (hi := hi) (td := td) (wd := wd) (so := so) (sg := sg) (nm := nm) (ot := ot) (mn := mn) h (by omega) v l b
  obtain ⟨x, o2, e2, p2, hl⟩ := turn_3 (PT := PT) (sc := sc) (tn := tn) (hi := hi) (td := td) (wd := wd) (so := so) (sg := sg) (nm := nm) (ot := ot) (mn := mn) p1 (by omega) hh l b
  rw [set_set] at e2 p2
  obtain ⟨y, o3, e3, p3, hy⟩ := turn_67 (PT := PT) (sc := sc) (tn := tn) (hi := hi) (td := td) (wd := wd) (so := so) (sg := sg) (nm := nm) (ot := ot) (mn := mn) p2 (by omega) ho (some (.d x)) b
  rw [set_set] at e3 p3
  have h3 : (S.set 1 o3)[0]? = some (.tab PT qL) := by rw [List.getElem?_set_ne (by omega)]; exact h0
  refine ⟨o3, some (.d u.toD), some (.d x), some (.d y), ?_, p3.mono (by omega)⟩
  unfold body_law_1
  rw [seq_nx e1, seq_nx e2, seq_nx (turn_4 ho hh hl b), seq_nx (turn_5 ho hh hl b), e3]
  exact turn_8 h3 hy _ _
end
theorem turns_ok {PT : Addr} : ∀ (ws : List W) (S : Sto) (c : Int), S[0]? = some (.tab PT qL) → Pen S 1 c → c + 3000 * ws.length + 20000 < 1048576 → ∀ (sc tn v l b hi td wd so sg nm ot mn : Option W),
    ∃ (o : Ob) (tn' v' l' b' : Option W), forL (setG 2) (body_law_1 PT) ws (frK sc tn v l b hi td wd so sg nm ot mn) S = .ok (.nx (frK sc tn' v' l' b' hi td wd so sg nm ot mn)) (S.set 1 o) ∧ Pen (S.set 1 o) 1 (c + 3000 * ws.length)
  | [], S, c, _, h, _ => fun sc tn v l b hi td wd so sg nm ot mn => by
    obtain ⟨o, e⟩ := pen_same h
    exact ⟨o, tn, v, l, b, by rw [e]; rfl, by rw [e]; exact h.mono (by simp)⟩
  | w :: ws, S, c, h0, h, hc => fun sc tn v l b hi td wd so sg nm ot mn => by
    simp only [List.length_cons] at hc
    obtain ⟨o1, v1, l1, b1, e1, p1⟩ := turn_ok (PT := PT) (sc := sc) (tn := some w) (hi := hi) (td := td) (wd := wd) (so := so) (sg := sg) (nm := nm) (ot := ot) (mn := mn) h0 h (by omega) v l b
    obtain ⟨o2, tn2, v2, l2, b2, e2, p2⟩ := turns_ok ws _ _ (by rw [List.getElem?_set_ne (by omega)]; exact h0) p1 (by omega) sc (some w) v1 l1 b1 hi td wd so sg nm ot mn
    rw [set_set] at e2 p2
    refine ⟨o2, tn2, v2, l2, b2, ?_, p2.mono (by simp only [List.length_cons]; omega)⟩
    exact Eq.trans (loop_cons (δ1 := frK sc (some w) v l b hi td wd so sg nm ot mn) (S1 := S) rfl e1) e2
/-! ### the tower -/
theorem tower_ok {PT : Addr} : ∀ (ws : List W) (S : Sto) (c : Int) (u : Vl), Pen S 1 c → c + 2 * ws.length < 1048000 → u.ok → ∀ (sc tn v l b td wd so sg nm ot mn : Option W),
    ∃ (o : Ob) (tn' : Option W) (u' : Vl), forL (setG 2) (body_law_2 PT) ws (frK sc tn v l b (some (.d u.toD)) td wd so sg nm ot mn) S = .ok (.nx (frK sc tn' v l b (some (.d u'.toD)) td wd so sg nm ot mn)) (S.set 1 o) ∧ u'.ok ∧ u'.ht = u.ht + ws.length
  | [], S, c, u, h, _, ho => fun sc tn v l b td wd so sg nm ot mn => by
    obtain ⟨o, e⟩ := pen_same h
    exact ⟨o, tn, u, by rw [e]; rfl, ho, rfl⟩
  | w :: ws, S, c, u, h, hc, ho => fun sc tn v l b td wd so sg nm ot mn => by
    simp only [List.length_cons] at hc
    obtain ⟨k, o1, e1, k1, k2, p1⟩ := draw S 1 c 2 h (by omega) (by omega) (by omega)
    have tk : valT (binM (calM (consM (varM 1) (consM (cM (.int 2)) nilM)) fun ws => noEx (F__law_draw ws)) (cM (.int 0)) eqM) (frK sc (some w) v l b (some (.d u.toD)) td wd so sg nm ot mn) S = .ok (decide (k = 0)) (S.set 1 o1) :=
      val_ok (bin_ok (S1 := S.set 1 o1) (S2 := S.set 1 o1) (x := .d (.int k)) (y := .d (.int 0)) (cal_ok (ws := [.r 1, .d (.int 2)]) (S' := S) rfl (noEx_ok e1)) rfl (int_eq _ _ _))
    have step : ∃ (u1 : Vl) (o2 : Ob), body_law_2 PT (frK sc (some w) v l b (some (.d u.toD)) td wd so sg nm ot mn) S = .ok (.nx (frK sc (some w) v l b (some (.d u1.toD)) td wd so sg nm ot mn)) (S.set 1 o2) ∧ Pen (S.set 1 o2) 1 (c + 2) ∧ u1.ok ∧ u1.ht = u.ht + 1 := by
      by_cases hk : k = 0
      · rw [decide_eq_true hk] at tk
        obtain ⟨d, hd, o2, e2, p2⟩ := pick_ok (ds := [s "a", s "b"]) p1 (by omega) (by simp) (by simp)
        rw [set_set] at e2 p2
        have key : ∃ n ∈ tagNs, d = s n := by
          simp only [List.mem_cons, List.not_mem_nil, or_false] at hd
          rcases hd with rfl | rfl <;> exact ⟨_, by simp [tagNs], rfl⟩
        obtain ⟨n, hn, rfl⟩ := key
        refine ⟨.tag n u, o2, ?_, p2.mono (by omega), ⟨hn, ho⟩, by simp only [Vl.ht]; omega⟩
        unfold body_law_2 st_law_10
        refine asg_ok (Eq.trans (ifV_t tk) ?_)
        exact Eq.trans (bd_ok (a := [.d (s "tag"), .d (s n), .d u.toD]) (S' := S.set 1 o2) (cons_ok (S1 := S.set 1 o1) rfl (cons_ok (S1 := S.set 1 o2) (cal_ok (ws := [.r 1, .d (.list [s "a", s "b"])]) (S' := S.set 1 o1) (by kernel_rfl) (noEx_ok e2)) rfl))) rfl
      · rw [decide_eq_false hk] at tk
        refine ⟨.r1 "a" u, o1, ?_, p1.mono (by omega), ⟨by simp [fldNs], ho⟩, by simp only [Vl.ht]; omega⟩
        unfold body_law_2 st_law_10
        exact asg_ok (Eq.trans (ifV_f tk) rfl)
    obtain ⟨u1, o2, e2, p2, ho1, hh1⟩ := step
    obtain ⟨o3, tn3, u3, e3, ho3, hh3⟩ := tower_ok ws _ _ u1 p2 (by omega) ho1 sc (some w) v l b td wd so sg nm ot mn
    rw [set_set] at e3
    refine ⟨o3, tn3, u3, ?_, ho3, by simp only [List.length_cons]; omega⟩
    exact Eq.trans (loop_cons (δ1 := frK sc (some w) v l b (some (.d u.toD)) td wd so sg nm ot mn) (S1 := S) rfl e2) e3
theorem told_ok {PT : Addr} {S : Sto} {u : Vl} (ho : u.ok) (hh : u.ht = 8) (sc tn v l b td wd so sg nm ot mn : Option W) :
    st_law_11 PT (frK sc tn v l b (some (.d u.toD)) td wd so sg nm ot mn) S = .ok (.nx (frK sc tn v l b (some (.d u.toD)) (some (.d (.list [.bool true, .bool false, .bool false, .int 8]))) wd so sg nm ot mn)) S := by
  have v1 := value_ok ho (Lk.same u) S
  rw [decide_eq_true (by omega)] at v1
  have v2 := value_ok (v := .tag "a" u) (l := (Vl.tag "a" u).toD) ⟨by simp [tagNs], ho⟩ (Lk.same _) S
  rw [decide_eq_false (by simp only [Vl.ht]; omega)] at v2
  have v3 := value_ok (v := .r1 "b" u) ⟨by simp [fldNs], ho⟩ (.r1 false true false (Lk.same u)) S
  rw [decide_eq_false (by simp only [Vl.ht]; omega)] at v3
  have v4 := height_ok ho (Lk.same u) (by omega) S
  rw [hh] at v4
  unfold st_law_11
  refine asg_ok (Eq.trans (bd_ok (a := [okb true, okb false, okb false, .d (.int 8)]) (S' := S) (cons_ok (S1 := S) (cal_ok (ws := [.d u.toD]) (S' := S) rfl (noEx_ok v1)) (cons_ok (S1 := S) (cal_ok (ws := [.d (Vl.tag "a" u).toD]) (S' := S) rfl (noEx_ok v2)) (cons_ok (S1 := S) (cal_ok (ws := [.d (sq false [s "record", sq true [sq false [s "b", u.toD]]])]) (S' := S) rfl (noEx_ok v3)) (cons_ok (S1 := S) (cal_ok (ws := [.d u.toD]) (S' := S) rfl (noEx_ok (noEx_ok v4))) rfl))))) rfl)
theorem plain : ∀ (PT : Addr) (ns : List Int), ns.length ≤ 63 → ∃ S, F_law PT [.s ns] [.tab PT qL] = .ok (.d (.bool true)) S := by
  intro PT ns hns
  obtain ⟨cs, hcs, hp⟩ := pen_ok PT ns hns
  have p0 : Pen [.tab PT qL, penO cs 0 0] 1 0 := ⟨cs, 0, 0, rfl, by omega, by omega, by omega, hcs⟩
  obtain ⟨w5, l5, h5⟩ : ∃ ws : List W, ws.length = 5 ∧ ∀ (δ : Env) (S : Sto), DL.bd ((consM (cM (.int 5)) nilM) δ) rng1M S = .ok ws S := ⟨_, rfl, fun _ _ => rfl⟩
  obtain ⟨w7, l7, h7⟩ : ∃ ws : List W, ws.length = 7 ∧ ∀ (δ : Env) (S : Sto), DL.bd ((consM (cM (.int 7)) nilM) δ) rng1M S = .ok ws S := ⟨_, rfl, fun _ _ => rfl⟩
  obtain ⟨o1, tn1, v1, l1, b1, e1, p1⟩ := turns_ok (PT := PT) w5 _ _ rfl p0 (by rw [l5]; omega) (some (.s ns)) none none none none none none none none none none none none
  obtain ⟨o2, tn2, u, e2, ho, hh⟩ := tower_ok (PT := PT) w7 _ _ .atom p1 (by rw [l5, l7]; omega) trivial (some (.s ns)) tn1 v1 l1 b1 none none none none none none none
  rw [l7] at hh
  have hh : u.ht = 8 := hh
  rw [set_set] at e2
  refine ⟨([.tab PT qL, penO cs 0 0] : Sto).set 1 o2, ?_⟩
  unfold F_law
  refine run_rt rfl ?_
  unfold b_law
  refine Eq.trans (seq_nx (δ' := frK (some (.s ns)) none none none none none none none none none none none none) (S' := [.tab PT qL, penO cs 0 0]) ?_) ?_
  · unfold st_law_1
    exact asg_ok (cal_ok (ws := [.s ns]) (S' := [.tab PT qL]) rfl (noEx_ok hp))
  refine Eq.trans (seq_nx (Eq.trans (bd_ok (h5 _ _)) e1)) ?_
  refine Eq.trans (seq_nx (δ' := frK (some (.s ns)) tn1 v1 l1 b1 (some (.d Vl.atom.toD)) none none none none none none none) rfl) ?_
  refine Eq.trans (seq_nx (Eq.trans (bd_ok (h7 _ _)) e2)) ?_
  refine Eq.trans (seq_nx (told_ok ho hh _ _ _ _ _ _ _ _ _ _ _ _)) ?_
  exact tail_ok PT (some (.s ns)) tn2 v1 l1 b1 (some (.d u.toD)) _
end DL.k01
namespace DL.k01
open PySem PySem.Spec PyProof.Rows L2 DL
section
variable {l : PySem.W.OpenLaw} {w : World} {K : PySem.W.Frag} {h : Heap} {mg : Str → Option Value} {fa : Addr}
theorem all_of (X : K.In h) (G : h.Ns mainGlobals mg) (hfa : mg "law" = some (.ref fa))
    (e0 : ∃ f fd, DefOk K mg "is_listed" s_is_listed ["value"] f fd)
    (e1 : ∃ f fd, DefOk K mg "is_row" s_is_row ["value", "many"] f fd)
    (e2 : ∃ f fd, DefOk K mg "is_name" s_is_name ["value"] f fd)
    (e3 : ∃ f fd, DefOk K mg "fixed" s_fixed ["value"] f fd)
    (e4 : ∃ f fd, DefOk K mg "is_fields" s_is_fields ["value"] f fd)
    (e5 : ∃ f fd, DefOk K mg "is_so_high" s_is_so_high ["value", "most", "many"] f fd)
    (e6 : ∃ f fd, DefOk K mg "is_value" s_is_value ["value"] f fd)
    (e7 : ∃ f fd, DefOk K mg "height" s_height ["value"] f fd)
    (e8 : ∃ f fd, DefOk K mg "height_of" s_height_of ["value"] f fd)
    (e9 : ∃ f fd, DefOk K mg "words_of" s_words_of ["value"] f fd)
    (e10 : ∃ f fd, DefOk K mg "text_of" s_text_of ["value"] f fd)
    (e11 : ∃ f fd, DefOk K mg "value_text" s_value_text ["value"] f fd)
    (e12 : ∃ f fd, DefOk K mg "need_value" s_need_value ["value"] f fd)
    (e13 : ∃ f fd, DefOk K mg "_law_pen" s__law_pen ["script"] f fd)
    (e14 : ∃ f fd, DefOk K mg "_law_draw" s__law_draw ["pen", "many"] f fd)
    (e15 : ∃ f fd, DefOk K mg "_law_pick" s__law_pick ["pen", "some"] f fd)
    (e16 : ∃ f fd, DefOk K mg "_law_heard" s__law_heard ["ask"] f fd)
    (e17 : ∃ f fd, DefOk K mg "_law_value" s__law_value ["pen", "most"] f fd)
    (e18 : ∃ f fd, DefOk K mg "_law_high" s__law_high ["value"] f fd)
    (e19 : ∃ f fd, DefOk K mg "_law_text" s__law_text ["value"] f fd)
    (e20 : ∃ f fd, DefOk K mg "_law_listed" s__law_listed ["pen", "value"] f fd)
    (e21 : ∃ f fd, DefOk K mg "_law_bent" s__law_bent ["pen", "value"] f fd)
    (e22 : ∃ f fd, DefOk K mg "_law_within" s__law_within ["pen", "value", "inner"] f fd)
    (e23 : ∃ f fd, DefOk K mg "law" s_law ["script"] f fd ∧ ∀ (s : Shared) (u : Value), BindsTo s fd ⟨[u], []⟩ [("script", u)])
    (m_isinstance : mg "isinstance" = none)
    (m_list : mg "list" = none)
    (m_tuple : mg "tuple" = none)
    (m_len : mg "len" = none)
    (m_str : mg "str" = none)
    (m_all : mg "all" = none)
    (m_zip : mg "zip" = none)
    (m_max : mg "max" = none)
    (m_int : mg "int" = none)
    (m_abs : mg "abs" = none)
    (m_range : mg "range" = none)
    (r_BadValue : RaiseTx l.prog K mg "BadValue" "part" "bad value")
    (k_TooMany : KindTx K mg "TooMany" [("BadValue", false)])
    (k_BadModule : KindTx K mg "BadModule" [("BadValue", false)])
    (k_BadProgram : KindTx K mg "BadProgram" [("BadValue", false)])
    (k_BadSignature : KindTx K mg "BadSignature" [("BadValue", false)])
    (k_Misfit : KindTx K mg "Misfit" [("BadValue", false)])
    (k_BadValue : KindTx K mg "BadValue" [("BadValue", true)])
    (k_BadNumber : KindTx K mg "BadNumber" [("BadValue", false)])
    (k_NoName : KindTx K mg "NoName" [("BadValue", false)])
    (c_MeetError : CatchTx K mg "MeetError" ["BadValue"])
    (f_BadValue_part : FieldTx K "BadValue" "part")
    (c_LONGEST : ∃ t, mg "LONGEST" = some (.int 8 t))
    (c_WORDS : ∃ a, mg "WORDS" = some (.ref a) ∧ SqTw K a (DL.k01.c_WORDS.map V.str))
    (c_LETTERS : ∃ t, mg "LETTERS" = some (.str "abcdefghijklmnopqrstuvwxyz" t))
    (c_HIGHEST : ∃ t, mg "HIGHEST" = some (.int 8 t))
    (c_MOST_FIELDS : ∃ t, mg "MOST_FIELDS" = some (.int 60 t))
    {ca PT : Addr} (cT : CodeTx K h mg "law" ca PT)
    (hF : ∀ (PT : Addr) (ns : List Int), ns.length ≤ 63 → ∃ S, F_law PT [.s ns] [.tab PT qL] = .ok (.d (.bool true)) S) :
    ∃ (fd : FuncData) (c P : Addr), h.get? P = some { cls := .none, data := .fields #[] } ∧ K.lookup P = none ∧ PySem.W.CodeHd h c P ∧ (∀ (s : Shared) (u : Value), BindsTo s fd ⟨[u], []⟩ [("script", u)]) ∧
      ∀ base : Heap, K.In base → base.Ns mainGlobals mg → LamX.TabB base mg c P → FnG l.prog w K mg base CX0 36 fa fd ["script"] (spT K P) := by
  obtain ⟨f0, fd0, D0⟩ := e0
  obtain ⟨f1, fd1, D1⟩ := e1
  obtain ⟨f2, fd2, D2⟩ := e2
  obtain ⟨f3, fd3, D3⟩ := e3
  obtain ⟨f4, fd4, D4⟩ := e4
  obtain ⟨f5, fd5, D5⟩ := e5
  obtain ⟨f6, fd6, D6⟩ := e6
  obtain ⟨f7, fd7, D7⟩ := e7
  obtain ⟨f8, fd8, D8⟩ := e8
  obtain ⟨f9, fd9, D9⟩ := e9
  obtain ⟨f10, fd10, D10⟩ := e10
  obtain ⟨f11, fd11, D11⟩ := e11
  obtain ⟨f12, fd12, D12⟩ := e12
  obtain ⟨f13, fd13, D13⟩ := e13
  obtain ⟨f14, fd14, D14⟩ := e14
  obtain ⟨f15, fd15, D15⟩ := e15
  obtain ⟨f16, fd16, D16⟩ := e16
  obtain ⟨f17, fd17, D17⟩ := e17
  obtain ⟨f18, fd18, D18⟩ := e18
  obtain ⟨f19, fd19, D19⟩ := e19
  obtain ⟨f20, fd20, D20⟩ := e20
  obtain ⟨f21, fd21, D21⟩ := e21
  obtain ⟨f22, fd22, D22⟩ := e22
  obtain ⟨f23, fd23, D23, hbind⟩ := e23
  have e := hfa.symm.trans D23.mg
  cases e
  have T : Tx l.prog K mg (fun i => [f0, f1, f2, f3, f4, f5, f6, f7, f8, f9, f10, f11, f12, f13, f14, f15, f16, f17, f18, f19, f20, f21, f22, fa].getD i fa) (fun i => [fd0, fd1, fd2, fd3, fd4, fd5, fd6, fd7, fd8, fd9, fd10, fd11, fd12, fd13, fd14, fd15, fd16, fd17, fd18, fd19, fd20, fd21, fd22, fd23].getD i fd23) :=
    ⟨D0, D1, D2, D3, D4, D5, D6, D7, D8, D9, D10, D11, D12, D13, D14, D15, D16, D17, D18, D19, D20, D21, D22, D23, m_isinstance, m_list, m_tuple, m_len, m_str, m_all, m_zip, m_max, m_int, m_abs, m_range, r_BadValue, k_TooMany, k_BadModule, k_BadProgram, k_BadSignature, k_Misfit, k_BadValue, k_BadNumber, k_NoName, c_MeetError, f_BadValue_part, c_LONGEST, c_WORDS, c_LETTERS, c_HIGHEST, c_MOST_FIELDS⟩
  obtain ⟨⟨f9, hm9, hc9⟩, t1, t2, t3⟩ := cT
  have e := hfa.symm.trans hm9
  cases e
  exact ⟨fd23, ca, PT, t1, t2, t3, hbind, fun base _ _ TB => (g_law T TB hc9).imp (spT_of (hF PT))⟩
end
theorem form_BadValue (fI : Addr) : DLE.InitForm "BadValue.__init__" "part" "bad value" fI (defArgs (initOf cs_BadValue)) (defBody (initOf cs_BadValue)) (defScope (initOf cs_BadValue)) :=
  ⟨⟨_, _, _, _, _, _, _, _, _, _, _, _, _, rfl, fun _ => rfl, fun _ _ _ => rfl, fun _ _ _ => rfl, fun _ _ _ => rfl, rfl, rfl⟩, fun _ _ _ _ _ _ _ _ => rfl, rfl, rfl, rfl, rfl, by decide +kernel, rfl, rfl, rfl, by decide, by decide⟩
end DL.k01
open PySem PySem.W PyProof.Rows
set_option maxRecDepth 100000 in
set_option maxHeartbeats 0 in
theorem PySem.Challenge.cw_modulesmeet_k01_values_heights_and_texts_holds : PySem.Challenge.rw_modulesmeet_k01_values_heights_and_texts.Holds := by
  w_on; o_law; k_head; (case hw => w_witness2)
  k_fill
  refine DL.end_ofT (l := PySem.Challenge.rw_modulesmeet_k01_values_heights_and_texts) (k := 36) rfl rfl ⟨rfl, by decide, by decide⟩ (fun w h Y => PySem.W.km_in_of Y) ?F
  case F =>
    intro w mg fa h Y KX G hmg
    refine' DL.k01.all_of KX G hmg
      (DL.def_mk (st := DL.k01.s_is_listed) (fun _ _ _ _ _ _ us hl => match us, hl with | [_], _ => rfl) KX G ?a0 ?l0 ?c0 ?k0)
      (DL.def_mk (st := DL.k01.s_is_row) (fun _ _ _ _ _ _ us hl => match us, hl with | [_, _], _ => rfl) KX G ?a1 ?l1 ?c1 ?k1)
      (DL.def_mk (st := DL.k01.s_is_name) (fun _ _ _ _ _ _ us hl => match us, hl with | [_], _ => rfl) KX G ?a2 ?l2 ?c2 ?k2)
      (DL.def_mk (st := DL.k01.s_fixed) (fun _ _ _ _ _ _ us hl => match us, hl with | [_], _ => rfl) KX G ?a3 ?l3 ?c3 ?k3)
      (DL.def_mk (st := DL.k01.s_is_fields) (fun _ _ _ _ _ _ us hl => match us, hl with | [_], _ => rfl) KX G ?a4 ?l4 ?c4 ?k4)
      (DL.def_mk (st := DL.k01.s_is_so_high) (fun _ _ _ _ _ _ us hl => match us, hl with | [_, _, _], _ => rfl) KX G ?a5 ?l5 ?c5 ?k5)
      (DL.def_mk (st := DL.k01.s_is_value) (fun _ _ _ _ _ _ us hl => match us, hl with | [_], _ => rfl) KX G ?a6 ?l6 ?c6 ?k6)
      (DL.def_mk (st := DL.k01.s_height) (fun _ _ _ _ _ _ us hl => match us, hl with | [_], _ => rfl) KX G ?a7 ?l7 ?c7 ?k7)
      (DL.def_mk (st := DL.k01.s_height_of) (fun _ _ _ _ _ _ us hl => match us, hl with | [_], _ => rfl) KX G ?a8 ?l8 ?c8 ?k8)
      (DL.def_mk (st := DL.k01.s_words_of) (fun _ _ _ _ _ _ us hl => match us, hl with | [_], _ => rfl) KX G ?a9 ?l9 ?c9 ?k9)
      (DL.def_mk (st := DL.k01.s_text_of) (fun _ _ _ _ _ _ us hl => match us, hl with | [_], _ => rfl) KX G ?a10 ?l10 ?c10 ?k10)
      (DL.def_mk (st := DL.k01.s_value_text) (fun _ _ _ _ _ _ us hl => match us, hl with | [_], _ => rfl) KX G ?a11 ?l11 ?c11 ?k11)
      (DL.def_mk (st := DL.k01.s_need_value) (fun _ _ _ _ _ _ us hl => match us, hl with | [_], _ => rfl) KX G ?a12 ?l12 ?c12 ?k12)
      (DL.def_mk (st := DL.k01.s__law_pen) (fun _ _ _ _ _ _ us hl => match us, hl with | [_], _ => rfl) KX G ?a13 ?l13 ?c13 ?k13)
      (DL.def_mk (st := DL.k01.s__law_draw) (fun _ _ _ _ _ _ us hl => match us, hl with | [_, _], _ => rfl) KX G ?a14 ?l14 ?c14 ?k14)
      (DL.def_mk (st := DL.k01.s__law_pick) (fun _ _ _ _ _ _ us hl => match us, hl with | [_, _], _ => rfl) KX G ?a15 ?l15 ?c15 ?k15)
      (DL.def_mk (st := DL.k01.s__law_heard) (fun _ _ _ _ _ _ us hl => match us, hl with | [_], _ => rfl) KX G ?a16 ?l16 ?c16 ?k16)
      (DL.def_mk (st := DL.k01.s__law_value) (fun _ _ _ _ _ _ us hl => match us, hl with | [_, _], _ => rfl) KX G ?a17 ?l17 ?c17 ?k17)
      (DL.def_mk (st := DL.k01.s__law_high) (fun _ _ _ _ _ _ us hl => match us, hl with | [_], _ => rfl) KX G ?a18 ?l18 ?c18 ?k18)
      (DL.def_mk (st := DL.k01.s__law_text) (fun _ _ _ _ _ _ us hl => match us, hl with | [_], _ => rfl) KX G ?a19 ?l19 ?c19 ?k19)
      (DL.def_mk (st := DL.k01.s__law_listed) (fun _ _ _ _ _ _ us hl => match us, hl with | [_, _], _ => rfl) KX G ?a20 ?l20 ?c20 ?k20)
      (DL.def_mk (st := DL.k01.s__law_bent) (fun _ _ _ _ _ _ us hl => match us, hl with | [_, _], _ => rfl) KX G ?a21 ?l21 ?c21 ?k21)
      (DL.def_mk (st := DL.k01.s__law_within) (fun _ _ _ _ _ _ us hl => match us, hl with | [_, _, _], _ => rfl) KX G ?a22 ?l22 ?c22 ?k22)
      (DL.law_mk (st := DL.k01.s_law) KX G (fun _ _ _ _ _ _ _ => rfl) (fun _ _ _ _ _ _ us hl => match us, hl with | [_], _ => rfl) ?a23 ?l23 ?c23 ?k23)
      (PySem.W.mg_none_of KX G ?m_isinstance)
      (PySem.W.mg_none_of KX G ?m_list)
      (PySem.W.mg_none_of KX G ?m_tuple)
      (PySem.W.mg_none_of KX G ?m_len)
      (PySem.W.mg_none_of KX G ?m_str)
      (PySem.W.mg_none_of KX G ?m_all)
      (PySem.W.mg_none_of KX G ?m_zip)
      (PySem.W.mg_none_of KX G ?m_max)
      (PySem.W.mg_none_of KX G ?m_int)
      (PySem.W.mg_none_of KX G ?m_abs)
      (PySem.W.mg_none_of KX G ?m_range)
      (DL.raise_mk (st := DL.initOf DL.k01.cs_BadValue) KX G DL.k01.form_BadValue ?top0 ?n0_ ?lC0_ ?hbm0_ ?sa0_ ?noN0_ ?iC0_ ?lf0_ ?tC0_ ?kC0_ ?exC0_ ?tyC0_ ?sup0_ ?subV0_ ?any0_ ?ms0_ ?mroC0_ ?cd0_ ?lcd0_ ?lv0_ ?hfile0_ ?lcc0_)
      (DL.kind_cons KX G ?kz0_TooMany ?kn0_TooMany (DL.errK_mk ?x0_0_TooMany (DL.exc_mk ?x1_0_TooMany ?x2_0_TooMany ?x3_0_TooMany ?x4_0_TooMany ?x5_0_TooMany ?x6_0_TooMany ?x7_0_TooMany ?x8_0_TooMany)) (DL.kit_ne ?kl0_TooMany ?kt0_TooMany ?ks0_TooMany ?kd0_TooMany) (DL.kind_nil KX G ?ky_TooMany))
      (DL.kind_cons KX G ?kz0_BadModule ?kn0_BadModule (DL.errK_mk ?x0_0_BadModule (DL.exc_mk ?x1_0_BadModule ?x2_0_BadModule ?x3_0_BadModule ?x4_0_BadModule ?x5_0_BadModule ?x6_0_BadModule ?x7_0_BadModule ?x8_0_BadModule)) (DL.kit_ne ?kl0_BadModule ?kt0_BadModule ?ks0_BadModule ?kd0_BadModule) (DL.kind_nil KX G ?ky_BadModule))
      (DL.kind_cons KX G ?kz0_BadProgram ?kn0_BadProgram (DL.errK_mk ?x0_0_BadProgram (DL.exc_mk ?x1_0_BadProgram ?x2_0_BadProgram ?x3_0_BadProgram ?x4_0_BadProgram ?x5_0_BadProgram ?x6_0_BadProgram ?x7_0_BadProgram ?x8_0_BadProgram)) (DL.kit_ne ?kl0_BadProgram ?kt0_BadProgram ?ks0_BadProgram ?kd0_BadProgram) (DL.kind_nil KX G ?ky_BadProgram))
      (DL.kind_cons KX G ?kz0_BadSignature ?kn0_BadSignature (DL.errK_mk ?x0_0_BadSignature (DL.exc_mk ?x1_0_BadSignature ?x2_0_BadSignature ?x3_0_BadSignature ?x4_0_BadSignature ?x5_0_BadSignature ?x6_0_BadSignature ?x7_0_BadSignature ?x8_0_BadSignature)) (DL.kit_ne ?kl0_BadSignature ?kt0_BadSignature ?ks0_BadSignature ?kd0_BadSignature) (DL.kind_nil KX G ?ky_BadSignature))
      (DL.kind_cons KX G ?kz0_Misfit ?kn0_Misfit (DL.errK_mk ?x0_0_Misfit (DL.exc_mk ?x1_0_Misfit ?x2_0_Misfit ?x3_0_Misfit ?x4_0_Misfit ?x5_0_Misfit ?x6_0_Misfit ?x7_0_Misfit ?x8_0_Misfit)) (DL.kit_ne ?kl0_Misfit ?kt0_Misfit ?ks0_Misfit ?kd0_Misfit) (DL.kind_nil KX G ?ky_Misfit))
      (DL.kind_cons KX G ?kz0_BadValue ?kn0_BadValue (DL.errK_mk ?x0_0_BadValue (DL.exc_mk ?x1_0_BadValue ?x2_0_BadValue ?x3_0_BadValue ?x4_0_BadValue ?x5_0_BadValue ?x6_0_BadValue ?x7_0_BadValue ?x8_0_BadValue)) DL.kit_eq (DL.kind_nil KX G ?ky_BadValue))
      (DL.kind_cons KX G ?kz0_BadNumber ?kn0_BadNumber (DL.errK_mk ?x0_0_BadNumber (DL.exc_mk ?x1_0_BadNumber ?x2_0_BadNumber ?x3_0_BadNumber ?x4_0_BadNumber ?x5_0_BadNumber ?x6_0_BadNumber ?x7_0_BadNumber ?x8_0_BadNumber)) (DL.kit_ne ?kl0_BadNumber ?kt0_BadNumber ?ks0_BadNumber ?kd0_BadNumber) (DL.kind_nil KX G ?ky_BadNumber))
      (DL.kind_cons KX G ?kz0_NoName ?kn0_NoName (DL.errK_mk ?x0_0_NoName (DL.exc_mk ?x1_0_NoName ?x2_0_NoName ?x3_0_NoName ?x4_0_NoName ?x5_0_NoName ?x6_0_NoName ?x7_0_NoName ?x8_0_NoName)) (DL.kit_ne ?kl0_NoName ?kt0_NoName ?ks0_NoName ?kd0_NoName) (DL.kind_nil KX G ?ky_NoName))
      (DL.catch_cons KX G ?cz0_ ?cn0_ (DL.exm_mk ?cb0_ ?cl0_ ?ct0_ ?cs0_) (DL.catch_nil KX G ?cy_))
      (DL.field_mk ?fn0_ (DL.errK_mk ?x0_f0 (DL.exc_mk ?x1_f0 ?x2_f0 ?x3_f0 ?x4_f0 ?x5_f0 ?x6_f0 ?x7_f0 ?x8_f0)) ?fq0_)
      (DL.cint_mk KX G ?c_LONGEST)
      (DL.conT_mk KX G ?ca_WORDS ?cl_WORDS ?cv_WORDS (by decide))
      (DL.cstr_mk KX G ?c_LETTERS)
      (DL.cint_mk KX G ?c_HIGHEST)
      (DL.cint_mk KX G ?c_MOST_FIELDS)
      (DL.codeTx_mk KX G (PySem.W.km_tabs_of Y) (.head _) ?ta ?tl ?te ?tn ?th)
      DL.k01.plain
    (case a0 => k_is); (case l0 => k_is); (case c0 => k_is); (case k0 => k_is)
    (case a1 => k_is); (case l1 => k_is); (case c1 => k_is); (case k1 => k_is)
    (case a2 => k_is); (case l2 => k_is); (case c2 => k_is); (case k2 => k_is)
    (case a3 => k_is); (case l3 => k_is); (case c3 => k_is); (case k3 => k_is)
    (case a4 => k_is); (case l4 => k_is); (case c4 => k_is); (case k4 => k_is)
    (case a5 => k_is); (case l5 => k_is); (case c5 => k_is); (case k5 => k_is)
    (case a6 => k_is); (case l6 => k_is); (case c6 => k_is); (case k6 => k_is)
    (case a7 => k_is); (case l7 => k_is); (case c7 => k_is); (case k7 => k_is)
    (case a8 => k_is); (case l8 => k_is); (case c8 => k_is); (case k8 => k_is)
    (case a9 => k_is); (case l9 => k_is); (case c9 => k_is); (case k9 => k_is)
    (case a10 => k_is); (case l10 => k_is); (case c10 => k_is); (case k10 => k_is)
    (case a11 => k_is); (case l11 => k_is); (case c11 => k_is); (case k11 => k_is)
    (case a12 => k_is); (case l12 => k_is); (case c12 => k_is); (case k12 => k_is)
    (case a13 => k_is); (case l13 => k_is); (case c13 => k_is); (case k13 => k_is)
    (case a14 => k_is); (case l14 => k_is); (case c14 => k_is); (case k14 => k_is)
    (case a15 => k_is); (case l15 => k_is); (case c15 => k_is); (case k15 => k_is)
    (case a16 => k_is); (case l16 => k_is); (case c16 => k_is); (case k16 => k_is)
    (case a17 => k_is); (case l17 => k_is); (case c17 => k_is); (case k17 => k_is)
    (case a18 => k_is); (case l18 => k_is); (case c18 => k_is); (case k18 => k_is)
    (case a19 => k_is); (case l19 => k_is); (case c19 => k_is); (case k19 => k_is)
    (case a20 => k_is); (case l20 => k_is); (case c20 => k_is); (case k20 => k_is)
    (case a21 => k_is); (case l21 => k_is); (case c21 => k_is); (case k21 => k_is)
    (case a22 => k_is); (case l22 => k_is); (case c22 => k_is); (case k22 => k_is)
    (case a23 => k_is); (case l23 => k_is); (case c23 => k_is); (case k23 => k_is)
    (case m_isinstance => k_is)
    (case m_list => k_is)
    (case m_tuple => k_is)
    (case m_len => k_is)
    (case m_str => k_is)
    (case m_all => k_is)
    (case m_zip => k_is)
    (case m_max => k_is)
    (case m_int => k_is)
    (case m_abs => k_is)
    (case m_range => k_is)
    (case top0 => first | rfl | decide +kernel)
    (case n0_ => first | k_is | rfl | decide)
    (case lC0_ => first | k_is | rfl | decide)
    (case hbm0_ => first | k_is | rfl | decide)
    (case sa0_ => first | k_is | rfl | decide)
    (case noN0_ => first | k_is | rfl | decide)
    (case iC0_ => first | k_is | rfl | decide)
    (case lf0_ => first | k_is | rfl | decide)
    (case tC0_ => first | k_is | rfl | decide)
    (case kC0_ => first | k_is | rfl | decide)
    (case exC0_ => first | k_is | rfl | decide)
    (case tyC0_ => first | k_is | rfl | decide)
    (case sup0_ => first | k_is | rfl | decide)
    (case subV0_ => first | k_is | rfl | decide)
    (case any0_ => first | k_is | rfl | decide)
    (case ms0_ => first | k_is | rfl | decide)
    (case mroC0_ => first | k_is | rfl | decide)
    (case cd0_ => first | k_is | rfl | decide)
    (case lcd0_ => first | k_is | rfl | decide)
    (case lv0_ => first | k_is | rfl | decide)
    (case hfile0_ => first | k_is | rfl | decide)
    (case lcc0_ => first | k_is | rfl | decide)
    (case ky_TooMany => k_is)
    (case x0_0_TooMany => k_is)
    (case x1_0_TooMany => k_is)
    (case x2_0_TooMany => k_is)
    (case x3_0_TooMany => k_is)
    (case x4_0_TooMany => k_is)
    (case x5_0_TooMany => k_is)
    (case x6_0_TooMany => k_is)
    (case x7_0_TooMany => k_is)
    (case x8_0_TooMany => k_is)
    (case kz0_TooMany => k_is)
    (case kn0_TooMany => k_is)
    (case kl0_TooMany => k_is)
    (case kt0_TooMany => k_is)
    (case ks0_TooMany => k_is)
    (case kd0_TooMany => first | rfl | decide)
    (case ky_BadModule => k_is)
    (case x0_0_BadModule => k_is)
    (case x1_0_BadModule => k_is)
    (case x2_0_BadModule => k_is)
    (case x3_0_BadModule => k_is)
    (case x4_0_BadModule => k_is)
    (case x5_0_BadModule => k_is)
    (case x6_0_BadModule => k_is)
    (case x7_0_BadModule => k_is)
    (case x8_0_BadModule => k_is)
    (case kz0_BadModule => k_is)
    (case kn0_BadModule => k_is)
    (case kl0_BadModule => k_is)
    (case kt0_BadModule => k_is)
    (case ks0_BadModule => k_is)
    (case kd0_BadModule => first | rfl | decide)
    (case ky_BadProgram => k_is)
    (case x0_0_BadProgram => k_is)
    (case x1_0_BadProgram => k_is)
    (case x2_0_BadProgram => k_is)
    (case x3_0_BadProgram => k_is)
    (case x4_0_BadProgram => k_is)
    (case x5_0_BadProgram => k_is)
    (case x6_0_BadProgram => k_is)
    (case x7_0_BadProgram => k_is)
    (case x8_0_BadProgram => k_is)
    (case kz0_BadProgram => k_is)
    (case kn0_BadProgram => k_is)
    (case kl0_BadProgram => k_is)
    (case kt0_BadProgram => k_is)
    (case ks0_BadProgram => k_is)
    (case kd0_BadProgram => first | rfl | decide)
    (case ky_BadSignature => k_is)
    (case x0_0_BadSignature => k_is)
    (case x1_0_BadSignature => k_is)
    (case x2_0_BadSignature => k_is)
    (case x3_0_BadSignature => k_is)
    (case x4_0_BadSignature => k_is)
    (case x5_0_BadSignature => k_is)
    (case x6_0_BadSignature => k_is)
    (case x7_0_BadSignature => k_is)
    (case x8_0_BadSignature => k_is)
    (case kz0_BadSignature => k_is)
    (case kn0_BadSignature => k_is)
    (case kl0_BadSignature => k_is)
    (case kt0_BadSignature => k_is)
    (case ks0_BadSignature => k_is)
    (case kd0_BadSignature => first | rfl | decide)
    (case ky_Misfit => k_is)
    (case x0_0_Misfit => k_is)
    (case x1_0_Misfit => k_is)
    (case x2_0_Misfit => k_is)
    (case x3_0_Misfit => k_is)
    (case x4_0_Misfit => k_is)
    (case x5_0_Misfit => k_is)
    (case x6_0_Misfit => k_is)
    (case x7_0_Misfit => k_is)
    (case x8_0_Misfit => k_is)
    (case kz0_Misfit => k_is)
    (case kn0_Misfit => k_is)
    (case kl0_Misfit => k_is)
    (case kt0_Misfit => k_is)
    (case ks0_Misfit => k_is)
    (case kd0_Misfit => first | rfl | decide)
    (case ky_BadValue => k_is)
    (case x0_0_BadValue => k_is)
    (case x1_0_BadValue => k_is)
    (case x2_0_BadValue => k_is)
    (case x3_0_BadValue => k_is)
    (case x4_0_BadValue => k_is)
    (case x5_0_BadValue => k_is)
    (case x6_0_BadValue => k_is)
    (case x7_0_BadValue => k_is)
    (case x8_0_BadValue => k_is)
    (case kz0_BadValue => k_is)
    (case kn0_BadValue => k_is)
    (case ky_BadNumber => k_is)
    (case x0_0_BadNumber => k_is)
    (case x1_0_BadNumber => k_is)
    (case x2_0_BadNumber => k_is)
    (case x3_0_BadNumber => k_is)
    (case x4_0_BadNumber => k_is)
    (case x5_0_BadNumber => k_is)
    (case x6_0_BadNumber => k_is)
    (case x7_0_BadNumber => k_is)
    (case x8_0_BadNumber => k_is)
    (case kz0_BadNumber => k_is)
    (case kn0_BadNumber => k_is)
    (case kl0_BadNumber => k_is)
    (case kt0_BadNumber => k_is)
    (case ks0_BadNumber => k_is)
    (case kd0_BadNumber => first | rfl | decide)
    (case ky_NoName => k_is)
    (case x0_0_NoName => k_is)
    (case x1_0_NoName => k_is)
    (case x2_0_NoName => k_is)
    (case x3_0_NoName => k_is)
    (case x4_0_NoName => k_is)
    (case x5_0_NoName => k_is)
    (case x6_0_NoName => k_is)
    (case x7_0_NoName => k_is)
    (case x8_0_NoName => k_is)
    (case kz0_NoName => k_is)
    (case kn0_NoName => k_is)
    (case kl0_NoName => k_is)
    (case kt0_NoName => k_is)
    (case ks0_NoName => k_is)
    (case kd0_NoName => first | rfl | decide)
    (case cy_ => k_is)
    (case cz0_ => k_is)
    (case cn0_ => k_is)
    (case cb0_ => k_is)
    (case cl0_ => k_is)
    (case ct0_ => k_is)
    (case cs0_ => k_is)
    (case x0_f0 => k_is)
    (case x1_f0 => k_is)
    (case x2_f0 => k_is)
    (case x3_f0 => k_is)
    (case x4_f0 => k_is)
    (case x5_f0 => k_is)
    (case x6_f0 => k_is)
    (case x7_f0 => k_is)
    (case x8_f0 => k_is)
    (case fn0_ => k_is)
    (case fq0_ => k_is)
    (case c_LONGEST => k_is)
    (case ca_WORDS => k_is); (case cl_WORDS => k_is); (case cv_WORDS => (repeat (first | exact .nil | refine .cons ⟨_, rfl⟩ ?_)))
    (case c_LETTERS => k_is)
    (case c_HIGHEST => k_is)
    (case c_MOST_FIELDS => k_is)
    (case ta => k_is)
    (case tl => k_is)
    (case te => rfl)
    (case tn => first | k_is | rfl)
    (case th => first | k_is | rfl)
